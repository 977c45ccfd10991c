import PyProof.Rows.All
import Wide.All
import OpenK.AllK
import Wide.FinOn
import HandS.Comp
import HandS.SetBool
import HandS.Strs
import HandS.Iter
import HandS.Walk
import KE.GoesMore
import PyProof.Draws
import PyProof.EnumMake
import HandS.ForMost
import HandS.Evl
import HandS.TupAny
import HandS.Zip
import HandS.SortInts
import HandS.IsInst
import HandS.Text
import HandS.List
import HandS.RaiseMore
import KE.KTupSum
import KE.DataFind
import KE.DataMinMax
import PyProof.ReprRoads
import PyProof.CallFns
import HandS.Dict
import HandS.DictComp
import HandS.Style
import HandS.More
import HandS.Exc
import HandS.ExcInit
import HandS.Nested
import HandS.WordsExc
import KE.KExcSuper
import KE.KSuper
import HandS.Words
import KE.KItemsList
import KE.KDictDisplayH
import HandS.Conv
import HandS.DictTup
import HandS.ListItems
import HandS.Lambda
import HandS.ExcField
import HandS.ExcIs
import HandS.Defaults
import HandS.MakeKwOnly
import HandS.SortOrd
import HandS.SortRule
import HandS.EndTab
import KE.KNestM
import PySem.Challenge.RW_neverregret_k45_whole_fewest_requests
set_option Elab.async false
set_option maxRecDepth 100000
set_option maxHeartbeats 4000000
set_option linter.unusedVariables false
/-! Sums, takings, ways by turns: plain mathematics, no program in sight. -/
namespace K45

/-! ### sums over 0, 1, .., n - 1 -/
def Sg : Nat → (Nat → Int) → Int
  | 0, _ => 0
  | n + 1, f => Sg n f + f n

theorem Sg_congr {f g : Nat → Int} : ∀ {n : Nat}, (∀ i, i < n → f i = g i) → Sg n f = Sg n g
  | 0, _ => rfl
  | n + 1, h => by
    unfold Sg
    rw [Sg_congr (n := n) fun i hi => h i (by omega), h n (by omega)]
theorem Sg_add {f g : Nat → Int} : ∀ {n : Nat}, Sg n (fun i => f i + g i) = Sg n f + Sg n g
  | 0 => rfl
  | n + 1 => by
    show Sg n (fun i => f i + g i) + (f n + g n) = Sg n f + f n + (Sg n g + g n)
    rw [Sg_add (n := n)]
    omega
theorem Sg_zero {f : Nat → Int} : ∀ {n : Nat}, (∀ i, i < n → f i = 0) → Sg n f = 0
  | 0, _ => rfl
  | n + 1, h => by
    unfold Sg
    rw [Sg_zero (n := n) fun i hi => h i (by omega), h n (by omega)]
    rfl
theorem Sg_le {f g : Nat → Int} : ∀ {n : Nat}, (∀ i, i < n → f i ≤ g i) → Sg n f ≤ Sg n g
  | 0, _ => Int.le_refl _
  | n + 1, h => by
    unfold Sg
    have h1 := Sg_le (n := n) fun i hi => h i (by omega)
    have h2 := h n (by omega)
    omega
theorem Sg_nonneg {f : Nat → Int} {n : Nat} (h : ∀ i, i < n → 0 ≤ f i) : 0 ≤ Sg n f := by
  have q := Sg_le (f := fun _ => 0) (g := f) (n := n) h
  rw [Sg_zero fun _ _ => rfl] at q
  exact q
theorem Sg_swap {f : Nat → Nat → Int} {m : Nat} : ∀ {n : Nat}, Sg n (fun i => Sg m (fun j => f i j)) = Sg m (fun j => Sg n (fun i => f i j))
  | 0 => by
    show (0 : Int) = Sg m fun _ => 0
    rw [Sg_zero fun _ _ => rfl]
  | n + 1 => by
    show Sg n (fun i => Sg m (fun j => f i j)) + Sg m (fun j => f n j) = Sg m (fun j => Sg n (fun i => f i j) + f n j)
    rw [Sg_swap (n := n), Sg_add]
theorem Sg_term {f : Nat → Int} : ∀ {n i : Nat}, (∀ j, j < n → 0 ≤ f j) → i < n → f i ≤ Sg n f
  | n + 1, i, h, hi => by
    unfold Sg
    by_cases e : i = n
    · subst e
      have := Sg_nonneg (f := f) (n := i) fun j hj => h j (by omega)
      omega
    · have := Sg_term (n := n) (i := i) (f := f) (fun j hj => h j (by omega)) (by omega)
      have := h n (by omega)
      omega
theorem Sg_pos {f : Nat → Int} : ∀ {n : Nat}, 0 < Sg n f → ∃ i, i < n ∧ 0 < f i
  | n + 1, h => by
    unfold Sg at h
    by_cases e : 0 < f n
    · exact ⟨n, by omega, e⟩
    · obtain ⟨i, hi, q⟩ := Sg_pos (n := n) (f := f) (by omega)
      exact ⟨i, by omega, q⟩
/-- termwise less or equal, and not less in all: equal -/
theorem Sg_eq_of_le {f g : Nat → Int} : ∀ {n : Nat}, (∀ i, i < n → f i ≤ g i) → Sg n g ≤ Sg n f → ∀ i, i < n → f i = g i
  | 0, _, _, i, hi => by omega
  | n + 1, h, q, i, hi => by
    unfold Sg at q
    have h1 := Sg_le (n := n) (f := f) (g := g) fun i hi => h i (by omega)
    have h2 := h n (by omega)
    by_cases e : i = n
    · subst e
      omega
    · exact Sg_eq_of_le (n := n) (fun i hi => h i (by omega)) (by omega) i (by omega)
theorem Sg_one {f g : Nat → Int} {d : Int} : ∀ {n i : Nat}, i < n → (∀ j, j < n → g j = if j = i then f j + d else f j) → Sg n g = Sg n f + d
  | n + 1, i, hi, h => by
    unfold Sg
    by_cases e : i = n
    · subst e
      rw [Sg_congr (n := i) (f := g) (g := f) fun j hj => by rw [h j (by omega), if_neg (by omega)], h i (by omega), if_pos rfl]
      omega
    · rw [Sg_one (n := n) (i := i) (f := f) (g := g) (d := d) (by omega) fun j hj => h j (by omega), h n (by omega), if_neg (by omega)]
      omega
theorem Sg_sub {f g : Nat → Int} : ∀ {n : Nat}, Sg n (fun i => f i - g i) = Sg n f - Sg n g
  | 0 => rfl
  | n + 1 => by
    show Sg n (fun i => f i - g i) + (f n - g n) = Sg n f + f n - (Sg n g + g n)
    rw [Sg_sub (n := n)]
    omega

open Classical in
/-- x where p holds, else 0 -/
noncomputable def on (p : Prop) (x : Int) : Int := if p then x else 0
theorem on_yes {p : Prop} {x : Int} (h : p) : on p x = x := by unfold on; rw [if_pos h]
theorem on_no {p : Prop} {x : Int} (h : ¬ p) : on p x = 0 := by unfold on; rw [if_neg h]
theorem on_nonneg {p : Prop} {x : Int} (h : 0 ≤ x) : 0 ≤ on p x := by
  by_cases q : p
  · rw [on_yes q]; exact h
  · rw [on_no q]; exact Int.le_refl _
theorem on_split (p : Prop) (x : Int) : x = on p x + on (¬ p) x := by
  by_cases q : p
  · rw [on_yes q, on_no (fun z => z q)]; omega
  · rw [on_no q, on_yes q]; omega
theorem Sg_split (p : Nat → Prop) {f : Nat → Int} {n : Nat} : Sg n f = Sg n (fun i => on (p i) (f i)) + Sg n (fun i => on (¬ p i) (f i)) := by
  rw [← Sg_add]
  exact Sg_congr fun i _ => on_split (p i) (f i)

/-! ### takings -/
section
variable (nk nt : Nat) (acc : Nat → Nat → Prop)

def colS (f : Nat → Nat → Int) (k : Nat) : Int := Sg nt (fun r => f r k)
def rowS (f : Nat → Nat → Int) (r : Nat) : Int := Sg nk (fun k => f r k)
def val (f : Nat → Nat → Int) : Int := Sg nt (fun r => rowS nk f r)

/-- units of accepted kinds, no more than the stock, no more than the bounds, by types of T alone -/
structure Tk (S : Nat → Int) (b : Nat → Option Int) (T : Nat → Prop) (f : Nat → Nat → Int) : Prop where
  nn : ∀ r k, 0 ≤ f r k
  out : ∀ r k, 0 < f r k → r < nt ∧ k < nk ∧ T r ∧ acc r k
  cap : ∀ k, k < nk → colS nt f k ≤ S k
  bnd : ∀ r m, r < nt → b r = some m → rowS nk f r ≤ m

/-- kinds reached by turns from those of which units are left -/
inductive RK (S : Nat → Int) (T : Nat → Prop) (f : Nat → Nat → Int) : Nat → Prop
  | start {k r : Nat} : k < nk → r < nt → T r → acc r k → colS nt f k < S k → RK S T f k
  | step {k r k' : Nat} : RK S T f k → r < nt → T r → acc r k → 0 < f r k' → RK S T f k'
def RT (S : Nat → Int) (T : Nat → Prop) (f : Nat → Nat → Int) (r : Nat) : Prop := r < nt ∧ T r ∧ ∃ k, RK nk nt acc S T f k ∧ acc r k
/-- no type that is reached has room: a greatest taking -/
structure Mx (S : Nat → Int) (b : Nat → Option Int) (T : Nat → Prop) (f : Nat → Nat → Int) : Prop where
  tk : Tk nk nt acc S b T f
  full : ∀ r, RT nk nt acc S T f r → ∃ m, b r = some m ∧ rowS nk f r = m
/-- the kinds that some type of T accepts -/
def NB (T : Nat → Prop) (k : Nat) : Prop := ∃ r, r < nt ∧ T r ∧ acc r k
noncomputable def units (S : Nat → Int) (T : Nat → Prop) : Int := Sg nk (fun k => on (NB nt acc T k) (S k))
/-- a full lot -/
def Full (S : Nat → Int) (b : Nat → Option Int) (T : Nat → Prop) : Prop := ∃ g, Tk nk nt acc S b T g ∧ ∀ k, k < nk → NB nt acc T k → colS nt g k = S k
end

section
variable {nk nt : Nat} {acc : Nat → Nat → Prop} {S : Nat → Int} {b : Nat → Option Int} {T : Nat → Prop} {f g : Nat → Nat → Int}

theorem val_cols : val nk nt f = Sg nk (fun k => colS nt f k) := Sg_swap
theorem Tk.val_le (h : Tk nk nt acc S b T f) : val nk nt f ≤ Sg nk S := by
  rw [val_cols]
  exact Sg_le h.cap
theorem Tk.zero_of (h : Tk nk nt acc S b T f) {r k : Nat} (n : ¬ (r < nt ∧ k < nk ∧ T r ∧ acc r k)) : f r k = 0 := by
  have h1 := h.nn r k
  by_cases e : 0 < f r k
  · exact absurd (h.out r k e) n
  · omega
theorem Tk.col_nonneg (h : Tk nk nt acc S b T f) (k : Nat) : 0 ≤ colS nt f k := Sg_nonneg fun r _ => h.nn r k
theorem Tk.row_nonneg (h : Tk nk nt acc S b T f) (r : Nat) : 0 ≤ rowS nk f r := Sg_nonneg fun k _ => h.nn r k
theorem Tk.stock_nonneg (h : Tk nk nt acc S b T f) {k : Nat} (hk : k < nk) : 0 ≤ S k := Int.le_trans (h.col_nonneg k) (h.cap k hk)
/-- a kind that no type of T accepts is not taken -/
theorem Tk.col_zero (h : Tk nk nt acc S b T f) {k : Nat} (n : ¬ NB nt acc T k) : colS nt f k = 0 :=
  Sg_zero fun r hr => h.zero_of fun ⟨_, _, h3, h4⟩ => n ⟨r, hr, h3, h4⟩
theorem Tk.row_zero (h : Tk nk nt acc S b T f) {r : Nat} (n : ¬ T r) : rowS nk f r = 0 :=
  Sg_zero fun k _ => h.zero_of fun ⟨_, _, h3, _⟩ => n h3
theorem Tk.mono {T' : Nat → Prop} (h : Tk nk nt acc S b T f) (hT : ∀ r, T r → T' r) : Tk nk nt acc S b T' f :=
  ⟨h.nn, fun r k e => let ⟨a, c, d, z⟩ := h.out r k e; ⟨a, c, hT r d, z⟩, h.cap, h.bnd⟩

/-- where a type that is reached takes units, the kind is reached -/
theorem RT.takes {r k : Nat} (h : RT nk nt acc S T f r) (e : 0 < f r k) : RK nk nt acc S T f k :=
  let ⟨h1, h2, k', h3, h4⟩ := h
  .step h3 h1 h2 h4 e
/-- a kind that is accepted and not reached is taken whole -/
theorem Tk.used (h : Tk nk nt acc S b T f) {k : Nat} (hk : k < nk) (hn : NB nt acc T k) (n : ¬ RK nk nt acc S T f k) : colS nt f k = S k := by
  obtain ⟨r, h1, h2, h3⟩ := hn
  have := h.cap k hk
  by_cases e : colS nt f k < S k
  · exact absurd (.start hk h1 h2 h3 e) n
  · omega

/-- THE BOUND: no taking by the same types takes more than a greatest one -/
theorem Mx.most (h : Mx nk nt acc S b T f) (hg : Tk nk nt acc S b T g) : val nk nt g ≤ val nk nt f := by
  rw [val_cols, val_cols, Sg_split (fun k => RK nk nt acc S T f k), Sg_split (fun k => RK nk nt acc S T f k) (f := fun k => colS nt f k)]
  have h2 : Sg nk (fun k => on (¬ RK nk nt acc S T f k) (colS nt g k)) ≤ Sg nk (fun k => on (¬ RK nk nt acc S T f k) (colS nt f k)) := by
    refine Sg_le fun k hk => ?_
    by_cases e : RK nk nt acc S T f k
    · rw [on_no (fun z => z e), on_no (fun z => z e)]
      exact Int.le_refl _
    · rw [on_yes e, on_yes e]
      by_cases n : NB nt acc T k
      · rw [h.tk.used hk n e]
        exact hg.cap k hk
      · rw [hg.col_zero n]
        exact h.tk.col_nonneg k
  have h1 : Sg nk (fun k => on (RK nk nt acc S T f k) (colS nt g k)) ≤ Sg nk (fun k => on (RK nk nt acc S T f k) (colS nt f k)) := by
    have e1 : Sg nk (fun k => on (RK nk nt acc S T f k) (colS nt g k)) ≤ Sg nt (fun r => on (RT nk nt acc S T f r) (rowS nk g r)) := by
      have e0 : Sg nk (fun k => on (RK nk nt acc S T f k) (colS nt g k)) = Sg nk (fun k => Sg nt (fun r => on (RK nk nt acc S T f k) (g r k))) := Sg_congr fun k _ => by
        by_cases e : RK nk nt acc S T f k
        · rw [on_yes e]
          exact Sg_congr fun r _ => by rw [on_yes e]
        · rw [on_no e, Sg_zero fun r _ => on_no e]
      rw [e0, Sg_swap]
      refine Sg_le fun r hr => ?_
      by_cases e : RT nk nt acc S T f r
      · rw [on_yes e]
        refine Sg_le fun k _ => ?_
        by_cases e' : RK nk nt acc S T f k
        · rw [on_yes e']
          exact Int.le_refl _
        · rw [on_no e']
          exact hg.nn r k
      · rw [on_no e, Sg_zero fun k hk => ?_]
        · exact Int.le_refl _
        · by_cases e' : RK nk nt acc S T f k
          · rw [on_yes e']
            exact hg.zero_of fun ⟨a1, _, a3, a4⟩ => e ⟨a1, a3, k, e', a4⟩
          · rw [on_no e']
    have e2 : Sg nt (fun r => on (RT nk nt acc S T f r) (rowS nk g r)) ≤ Sg nt (fun r => on (RT nk nt acc S T f r) (rowS nk f r)) := by
      refine Sg_le fun r hr => ?_
      by_cases e : RT nk nt acc S T f r
      · rw [on_yes e, on_yes e]
        obtain ⟨m, hm, em⟩ := h.full r e
        rw [em]
        exact hg.bnd r m hr hm
      · rw [on_no e, on_no e]
        exact Int.le_refl _
    have e3 : Sg nt (fun r => on (RT nk nt acc S T f r) (rowS nk f r)) ≤ Sg nk (fun k => on (RK nk nt acc S T f k) (colS nt f k)) := by
      have e0 : Sg nk (fun k => on (RK nk nt acc S T f k) (colS nt f k)) = Sg nk (fun k => Sg nt (fun r => on (RK nk nt acc S T f k) (f r k))) := Sg_congr fun k _ => by
        by_cases e : RK nk nt acc S T f k
        · rw [on_yes e]
          exact Sg_congr fun r _ => by rw [on_yes e]
        · rw [on_no e, Sg_zero fun r _ => on_no e]
      rw [e0, Sg_swap]
      refine Sg_le fun r hr => ?_
      by_cases e : RT nk nt acc S T f r
      · rw [on_yes e]
        refine Sg_le fun k _ => ?_
        by_cases e' : 0 < f r k
        · rw [on_yes (e.takes e')]
          exact Int.le_refl _
        · have z : f r k = 0 := by have := h.tk.nn r k; omega
          show f r k ≤ _
          rw [z]
          exact on_nonneg (Int.le_refl _)
      · rw [on_no e]
        exact Sg_nonneg fun k _ => on_nonneg (h.tk.nn r k)
    omega
  omega
theorem Mx.val_eq (h : Mx nk nt acc S b T f) (h' : Mx nk nt acc S b T g) : val nk nt f = val nk nt g := by
  have h1 := h.most h'.tk
  have h2 := h'.most h.tk
  omega

/-! ### the part of a taking by some of its types -/
noncomputable def cutT (L : Nat → Prop) (f : Nat → Nat → Int) : Nat → Nat → Int := fun r k => on (L r) (f r k)
theorem cutT_yes {L : Nat → Prop} {r : Nat} (h : L r) (k : Nat) : cutT L f r k = f r k := on_yes h
theorem cutT_no {L : Nat → Prop} {r : Nat} (h : ¬ L r) (k : Nat) : cutT L f r k = 0 := on_no h
theorem cutT_le {L : Nat → Prop} {r k : Nat} (h : 0 ≤ f r k) : cutT L f r k ≤ f r k := by
  by_cases e : L r
  · rw [cutT_yes e]
    exact Int.le_refl _
  · rw [cutT_no e]
    exact h
theorem cutT_row_yes {L : Nat → Prop} {r : Nat} (h : L r) : rowS nk (cutT L f) r = rowS nk f r := Sg_congr fun k _ => cutT_yes h k
theorem cutT_row_no {L : Nat → Prop} {r : Nat} (h : ¬ L r) : rowS nk (cutT L f) r = 0 := Sg_zero fun k _ => cutT_no h k
theorem Tk.cutted (h : Tk nk nt acc S b T f) (L : Nat → Prop) : Tk nk nt acc S b (fun r => T r ∧ L r) (cutT L f) := by
  refine ⟨fun r k => on_nonneg (h.nn r k), fun r k e => ?_, fun k hk => ?_, fun r m hr hm => ?_⟩
  · by_cases q : L r
    · rw [cutT_yes q] at e
      obtain ⟨a1, a2, a3, a4⟩ := h.out r k e
      exact ⟨a1, a2, ⟨a3, q⟩, a4⟩
    · rw [cutT_no q] at e
      omega
  · exact Int.le_trans (Sg_le fun r _ => cutT_le (h.nn r k)) (h.cap k hk)
  · exact Int.le_trans (Sg_le fun k _ => cutT_le (h.nn r k)) (h.bnd r m hr hm)

/-! ### the greatest full lot -/
/-- what is left of T without the types that are reached -/
def Rest (nk nt : Nat) (acc : Nat → Nat → Prop) (S : Nat → Int) (T : Nat → Prop) (f : Nat → Nat → Int) (r : Nat) : Prop := T r ∧ ¬ RT nk nt acc S T f r
theorem NB.mono {T' : Nat → Prop} {k : Nat} (h : NB nt acc T k) (hT : ∀ r, T r → T' r) : NB nt acc T' k :=
  let ⟨r, a, c, d⟩ := h
  ⟨r, a, hT r c, d⟩
theorem rest_unreached {k : Nat} (h : NB nt acc (Rest nk nt acc S T f) k) : ¬ RK nk nt acc S T f k := fun e =>
  let ⟨_, h1, h2, h3⟩ := h
  h2.2 ⟨h1, h2.1, k, e, h3⟩
theorem Tk.rest_col (h : Tk nk nt acc S b T f) {k : Nat} (hk : k < nk) (hn : NB nt acc (Rest nk nt acc S T f) k) : colS nt (cutT (Rest nk nt acc S T f) f) k = S k := by
  have hu := rest_unreached hn
  rw [← h.used hk (hn.mono fun r z => z.1) hu]
  refine Sg_congr fun r hr => ?_
  by_cases e : Rest nk nt acc S T f r
  · exact cutT_yes e k
  · rw [cutT_no e]
    by_cases e' : 0 < f r k
    · have hT := (h.out r k e').2.2.1
      have hr' : RT nk nt acc S T f r := Classical.byContradiction fun n => e ⟨hT, n⟩
      exact absurd (hr'.takes e') hu
    · have := h.nn r k
      omega
theorem Mx.rest_full (h : Tk nk nt acc S b T f) : Full nk nt acc S b (Rest nk nt acc S T f) :=
  ⟨cutT (Rest nk nt acc S T f) f, (h.cutted (Rest nk nt acc S T f)).mono fun _ z => z.2, fun _ hk hn => h.rest_col hk hn⟩
/-- every full lot within T lies in the rest -/
theorem Mx.rest_all (h : Mx nk nt acc S b T f) {L : Nat → Prop} (hL : ∀ r, L r → T r) (hf : Full nk nt acc S b L) : ∀ r, r < nt → L r → Rest nk nt acc S T f r := by
  obtain ⟨g, hg, hc⟩ := hf
  -- the types of L that are reached, the kinds of L that are reached
  have key : Sg nk (fun k => on (RK nk nt acc S T f k ∧ NB nt acc L k) (S k)) ≤ Sg nk (fun k => on (RK nk nt acc S T f k ∧ NB nt acc L k) (colS nt (cutT L f) k)) := by
    have e1 : Sg nk (fun k => on (RK nk nt acc S T f k ∧ NB nt acc L k) (S k)) ≤ Sg nt (fun r => on (RT nk nt acc S T f r ∧ L r) (rowS nk g r)) := by
      have e0 : Sg nk (fun k => on (RK nk nt acc S T f k ∧ NB nt acc L k) (S k)) = Sg nk (fun k => Sg nt (fun r => on (RK nk nt acc S T f k ∧ NB nt acc L k) (g r k))) := Sg_congr fun k hk => by
        by_cases e : RK nk nt acc S T f k ∧ NB nt acc L k
        · rw [on_yes e, ← hc k hk e.2]
          exact Sg_congr fun r _ => by rw [on_yes e]
        · rw [on_no e, Sg_zero fun r _ => on_no e]
      rw [e0, Sg_swap]
      refine Sg_le fun r hr => ?_
      by_cases e : RT nk nt acc S T f r ∧ L r
      · rw [on_yes e]
        refine Sg_le fun k _ => ?_
        by_cases e' : RK nk nt acc S T f k ∧ NB nt acc L k
        · rw [on_yes e']
          exact Int.le_refl _
        · rw [on_no e']
          exact hg.nn r k
      · rw [on_no e, Sg_zero fun k hk => ?_]
        · exact Int.le_refl _
        · by_cases e' : RK nk nt acc S T f k ∧ NB nt acc L k
          · rw [on_yes e']
            exact hg.zero_of fun ⟨a1, _, a3, a4⟩ => e ⟨⟨a1, hL r a3, k, e'.1, a4⟩, a3⟩
          · rw [on_no e']
    have e2 : Sg nt (fun r => on (RT nk nt acc S T f r ∧ L r) (rowS nk g r)) ≤ Sg nt (fun r => on (RT nk nt acc S T f r ∧ L r) (rowS nk f r)) := by
      refine Sg_le fun r hr => ?_
      by_cases e : RT nk nt acc S T f r ∧ L r
      · rw [on_yes e, on_yes e]
        obtain ⟨m, hm, em⟩ := h.full r e.1
        rw [em]
        exact hg.bnd r m hr hm
      · rw [on_no e, on_no e]
        exact Int.le_refl _
    have e3 : Sg nt (fun r => on (RT nk nt acc S T f r ∧ L r) (rowS nk f r)) ≤ Sg nk (fun k => on (RK nk nt acc S T f k ∧ NB nt acc L k) (colS nt (cutT L f) k)) := by
      have e0 : Sg nk (fun k => on (RK nk nt acc S T f k ∧ NB nt acc L k) (colS nt (cutT L f) k)) = Sg nk (fun k => Sg nt (fun r => on (RK nk nt acc S T f k ∧ NB nt acc L k) (cutT L f r k))) := Sg_congr fun k _ => by
        by_cases e : RK nk nt acc S T f k ∧ NB nt acc L k
        · rw [on_yes e]
          exact Sg_congr fun r _ => by rw [on_yes e]
        · rw [on_no e, Sg_zero fun r _ => on_no e]
      rw [e0, Sg_swap]
      refine Sg_le fun r hr => ?_
      by_cases e : RT nk nt acc S T f r ∧ L r
      · rw [on_yes e]
        refine Sg_le fun k _ => ?_
        by_cases e' : 0 < f r k
        · have q := h.tk.out r k e'
          rw [on_yes ⟨e.1.takes e', r, hr, e.2, q.2.2.2⟩, cutT_yes e.2]
          exact Int.le_refl _
        · have z : f r k = 0 := by have := h.tk.nn r k; omega
          show f r k ≤ _
          rw [z]
          exact on_nonneg (on_nonneg (h.tk.nn r k))
      · rw [on_no e]
        exact Sg_nonneg fun k _ => on_nonneg (on_nonneg (h.tk.nn r k))
    omega
  have parts : ∀ k, k < nk → RK nk nt acc S T f k ∧ NB nt acc L k → colS nt (cutT L f) k = S k := fun k hk e => by
    have q := Sg_eq_of_le (f := fun k => on (RK nk nt acc S T f k ∧ NB nt acc L k) (colS nt (cutT L f) k)) (g := fun k => on (RK nk nt acc S T f k ∧ NB nt acc L k) (S k)) (n := nk) (fun i hi => by
      by_cases z : RK nk nt acc S T f i ∧ NB nt acc L i
      · rw [on_yes z, on_yes z]
        exact Int.le_trans (Sg_le fun r _ => cutT_le (h.tk.nn r i)) (h.tk.cap i hi)
      · rw [on_no z, on_no z]
        exact Int.le_refl _) key k hk
    rw [on_yes e, on_yes e] at q
    exact q
  have hkk : ∀ k, RK nk nt acc S T f k → k < nk := fun k e => by
    cases e with
    | start h1 => exact h1
    | step _ _ _ _ h5 => exact (h.tk.out _ _ h5).2.1
  -- no kind of L is reached: by the turns
  have none : ∀ k, RK nk nt acc S T f k → ¬ NB nt acc L k := fun k e => by
    induction e with
    | @start k r h1 h2 h3 h4 h5 =>
      intro n
      have q := parts k h1 ⟨.start h1 h2 h3 h4 h5, n⟩
      have q2 : colS nt (cutT L f) k ≤ colS nt f k := Sg_le fun r _ => cutT_le (h.tk.nn r k)
      omega
    | @step k r k' h1 h2 h3 h4 h5 ih =>
      intro n
      have rk : RK nk nt acc S T f k' := .step h1 h2 h3 h4 h5
      have hk' := hkk k' rk
      have q := parts k' hk' ⟨rk, n⟩
      have hle := h.tk.cap k' hk'
      have each := Sg_eq_of_le (f := fun r => cutT L f r k') (g := fun r => f r k') (n := nt) (fun r _ => cutT_le (h.tk.nn r k')) (by
        show colS nt f k' ≤ colS nt (cutT L f) k'
        omega) r h2
      by_cases hLr : L r
      · exact ih ⟨r, h2, hLr, h4⟩
      · have each : cutT L f r k' = f r k' := each
        rw [cutT_no hLr] at each
        omega
  exact fun r hr hLr => ⟨hL r hLr, fun ⟨_, _, k, hk, ha⟩ => none k hk ⟨r, hr, hLr, ha⟩⟩
end
end K45
/-! Ways by turns, greatest takings, what they take: plain mathematics. -/
namespace K45

/-! ### one cell changed -/
def addC (f : Nat → Nat → Int) (r k : Nat) (d : Int) : Nat → Nat → Int := fun r' k' => if r' = r ∧ k' = k then f r' k' + d else f r' k'
theorem addC_same (f : Nat → Nat → Int) (r k : Nat) (d : Int) : addC f r k d r k = f r k + d := by
  unfold addC
  rw [if_pos ⟨rfl, rfl⟩]
theorem addC_ne (f : Nat → Nat → Int) {r k r' k' : Nat} (d : Int) (h : ¬ (r' = r ∧ k' = k)) : addC f r k d r' k' = f r' k' := by
  unfold addC
  rw [if_neg h]
theorem addC_col {nt : Nat} (f : Nat → Nat → Int) {r k : Nat} (d : Int) (hr : r < nt) (k' : Nat) : colS nt (addC f r k d) k' = colS nt f k' + (if k' = k then d else 0) := by
  by_cases e : k' = k
  · subst e
    rw [if_pos rfl]
    refine Sg_one (i := r) hr fun j _ => ?_
    by_cases q : j = r
    · subst q
      rw [if_pos rfl, addC_same]
    · rw [if_neg q, addC_ne _ _ fun z => q z.1]
  · rw [if_neg e, Int.add_zero]
    exact Sg_congr fun j _ => addC_ne _ _ fun z => e z.2
theorem addC_row {nk : Nat} (f : Nat → Nat → Int) {r k : Nat} (d : Int) (hk : k < nk) (r' : Nat) : rowS nk (addC f r k d) r' = rowS nk f r' + (if r' = r then d else 0) := by
  by_cases e : r' = r
  · subst e
    rw [if_pos rfl]
    refine Sg_one (i := k) hk fun j _ => ?_
    by_cases q : j = k
    · subst q
      rw [if_pos rfl, addC_same]
    · rw [if_neg q, addC_ne _ _ fun z => q z.2]
  · rw [if_neg e, Int.add_zero]
    exact Sg_congr fun j _ => addC_ne _ _ fun z => e z.1

/-! ### ways -/
/-- each type takes units of the kind before it, and lets those of the next kind go -/
def turnW (m : Int) : List (Nat × Nat) → (Nat → Nat → Int) → (Nat → Nat → Int)
  | [], f => f
  | [(k, r)], f => addC f r k m
  | (k, r) :: (k', r') :: w, f => turnW m ((k', r') :: w) (addC (addC f r k m) r k' (-m))

section
variable (nk nt : Nat) (acc : Nat → Nat → Prop)
/-- a way: its kinds unlike; each type accepts the kind before it; each next kind has at least m units that the type before it takes -/
structure IsWay (T : Nat → Prop) (f : Nat → Nat → Int) (m : Int) (w : List (Nat × Nat)) : Prop where
  ok : ∀ (i k r : Nat), w[i]? = some (k, r) → k < nk ∧ r < nt ∧ T r ∧ acc r k
  lets : ∀ (i k r k' r' : Nat), w[i]? = some (k, r) → w[i + 1]? = some (k', r') → m ≤ f r k'
  nd : (w.map (·.1)).Nodup
end

section
variable {nk nt : Nat} {acc : Nat → Nat → Prop} {S : Nat → Int} {b : Nat → Option Int} {T : Nat → Prop} {f g : Nat → Nat → Int} {m : Int}

theorem IsWay.tail {k r : Nat} {w : List (Nat × Nat)} (h : IsWay nk nt acc T f m ((k, r) :: w)) : IsWay nk nt acc T f m w :=
  ⟨fun i k r e => h.ok (i + 1) k r (by rw [List.getElem?_cons_succ]; exact e), fun i k r k' r' e1 e2 => h.lets (i + 1) k r k' r' (by rw [List.getElem?_cons_succ]; exact e1) (by rw [List.getElem?_cons_succ]; exact e2), by
    have := h.nd
    rw [List.map_cons, List.nodup_cons] at this
    exact this.2⟩
/-- what is said of a taking that is turned -/
structure Turned (nk nt : Nat) (acc : Nat → Nat → Prop) (S : Nat → Int) (b : Nat → Option Int) (T : Nat → Prop) (f g : Nat → Nat → Int) (m : Int) (k0 rn : Nat) : Prop where
  tk : Tk nk nt acc S b T g
  col : ∀ k, colS nt g k = colS nt f k + (if k = k0 then m else 0)
  row : ∀ r, rowS nk g r = rowS nk f r + (if r = rn then m else 0)
theorem turn_ok (hm : 0 < m) : ∀ (w : List (Nat × Nat)) (f : Nat → Nat → Int) (k0 r0 kn rn : Nat), Tk nk nt acc S b T f → IsWay nk nt acc T f m ((k0, r0) :: w) → ((k0, r0) :: w).getLast? = some (kn, rn) →
    colS nt f k0 + m ≤ S k0 → (∀ x, b rn = some x → rowS nk f rn + m ≤ x) → Turned nk nt acc S b T f (turnW m ((k0, r0) :: w) f) m k0 rn := by
  intro w
  induction w with
  | nil =>
    intro f k0 r0 kn rn h hw hl hc hb
    simp only [List.getLast?_singleton, Option.some.injEq, Prod.mk.injEq] at hl
    obtain ⟨rfl, rfl⟩ := hl
    obtain ⟨h1, h2, h3, h4⟩ := hw.ok 0 k0 r0 rfl
    refine ⟨⟨fun r k => ?_, fun r k e => ?_, fun k hk => ?_, fun r x hr hx => ?_⟩, fun k => addC_col f m h2 k, fun r => addC_row f m h1 r⟩
    · show 0 ≤ addC f r0 k0 m r k
      by_cases q : r = r0 ∧ k = k0
      · obtain ⟨rfl, rfl⟩ := q
        rw [addC_same]
        have := h.nn r k
        omega
      · rw [addC_ne _ _ q]
        exact h.nn r k
    · have e : 0 < addC f r0 k0 m r k := e
      by_cases q : r = r0 ∧ k = k0
      · obtain ⟨rfl, rfl⟩ := q
        exact ⟨h2, h1, h3, h4⟩
      · rw [addC_ne _ _ q] at e
        exact h.out r k e
    · show colS nt (addC f r0 k0 m) k ≤ S k
      rw [addC_col f m h2 k]
      by_cases q : k = k0
      · subst q
        rw [if_pos rfl]
        exact hc
      · rw [if_neg q, Int.add_zero]
        exact h.cap k hk
    · show rowS nk (addC f r0 k0 m) r ≤ x
      rw [addC_row f m h1 r]
      by_cases q : r = r0
      · subst q
        rw [if_pos rfl]
        exact hb x hx
      · rw [if_neg q, Int.add_zero]
        exact h.bnd r x hr hx
  | cons p w ih =>
    obtain ⟨k1, r1⟩ := p
    intro f k0 r0 kn rn h hw hl hc hb
    obtain ⟨h1, h2, h3, h4⟩ := hw.ok 0 k0 r0 rfl
    obtain ⟨g1, g2, g3, g4⟩ := hw.ok 1 k1 r1 rfl
    have hlets := hw.lets 0 k0 r0 k1 r1 rfl rfl
    have hnd := hw.nd
    simp only [List.map_cons, List.nodup_cons, List.mem_cons, not_or] at hnd
    obtain ⟨⟨n01, n0w⟩, n1w, ndw⟩ := hnd
    have cell : ∀ r k, addC (addC f r0 k0 m) r0 k1 (-m) r k = f r k + (if r = r0 ∧ k = k0 then m else 0) - (if r = r0 ∧ k = k1 then m else 0) := fun r k => by
      by_cases q1 : r = r0 ∧ k = k1
      · obtain ⟨rfl, rfl⟩ := q1
        rw [addC_same, addC_ne _ _ (fun z => n01 z.2.symm), if_neg (show ¬ (r = r ∧ k = k0) from fun z => n01 z.2.symm), if_pos (show r = r ∧ k = k from ⟨rfl, rfl⟩)]
        omega
      · rw [addC_ne _ _ q1, if_neg q1]
        by_cases q2 : r = r0 ∧ k = k0
        · obtain ⟨rfl, rfl⟩ := q2
          rw [addC_same, if_pos ⟨rfl, rfl⟩]
          omega
        · rw [addC_ne _ _ q2, if_neg q2]
          omega
    have col1 : ∀ k, colS nt (addC (addC f r0 k0 m) r0 k1 (-m)) k = colS nt f k + (if k = k0 then m else 0) - (if k = k1 then m else 0) := fun k => by
      rw [addC_col _ _ h2, addC_col _ _ h2]
      by_cases q : k = k1
      · rw [if_pos q, if_pos q]; omega
      · rw [if_neg q, if_neg q]; omega
    have row1 : ∀ r, rowS nk (addC (addC f r0 k0 m) r0 k1 (-m)) r = rowS nk f r := fun r => by
      rw [addC_row _ _ g1, addC_row _ _ h1]
      by_cases q : r = r0
      · rw [if_pos q, if_pos q]; omega
      · rw [if_neg q, if_neg q]; omega
    have tk1 : Tk nk nt acc S b T (addC (addC f r0 k0 m) r0 k1 (-m)) := by
      refine ⟨fun r k => ?_, fun r k e => ?_, fun k hk => ?_, fun r x hr hx => ?_⟩
      · rw [cell]
        have := h.nn r k
        by_cases q1 : r = r0 ∧ k = k1
        · obtain ⟨rfl, rfl⟩ := q1
          rw [if_pos (show r = r ∧ k = k from ⟨rfl, rfl⟩), if_neg (show ¬ (r = r ∧ k = k0) from fun z => n01 z.2.symm)]
          omega
        · rw [if_neg q1]
          by_cases q2 : r = r0 ∧ k = k0
          · rw [if_pos q2]; omega
          · rw [if_neg q2]; omega
      · rw [cell] at e
        by_cases q2 : r = r0 ∧ k = k0
        · obtain ⟨rfl, rfl⟩ := q2
          exact ⟨h2, h1, h3, h4⟩
        · rw [if_neg q2] at e
          refine h.out r k ?_
          by_cases q1 : r = r0 ∧ k = k1
          · rw [if_pos q1] at e; omega
          · rw [if_neg q1] at e; omega
      · rw [col1]
        have := h.cap k hk
        by_cases q : k = k0
        · subst q
          rw [if_pos rfl, if_neg n01]
          omega
        · rw [if_neg q]
          by_cases q' : k = k1
          · rw [if_pos q']; omega
          · rw [if_neg q']; omega
      · rw [row1]
        exact h.bnd r x hr hx
    have way1 : IsWay nk nt acc T (addC (addC f r0 k0 m) r0 k1 (-m)) m ((k1, r1) :: w) := by
      refine ⟨hw.tail.ok, fun i k r k' r' e1 e2 => ?_, hw.tail.nd⟩
      have q := hw.tail.lets i k r k' r' e1 e2
      rw [cell]
      have nk1 : k' ≠ k1 := fun z => by
        subst z
        rw [List.getElem?_cons_succ] at e2
        exact n1w (List.mem_map.mpr ⟨(k', r'), List.mem_of_getElem? e2, rfl⟩)
      rw [if_neg (c := r = r0 ∧ k' = k1) (fun z => nk1 z.2)]
      by_cases q2 : r = r0 ∧ k' = k0
      · rw [if_pos q2]; omega
      · rw [if_neg q2]; omega
    have hl' : ((k1, r1) :: w).getLast? = some (kn, rn) := by
      rw [List.getLast?_cons_cons] at hl
      exact hl
    have fin := ih _ k1 r1 kn rn tk1 way1 hl' (by
      rw [col1, if_pos rfl, if_neg (fun z => n01 z.symm)]
      have := h.cap k1 g1
      omega) (fun x hx => by rw [row1]; exact hb x hx)
    refine ⟨fin.tk, fun k => ?_, fun r => ?_⟩
    · show colS nt (turnW m ((k1, r1) :: w) (addC (addC f r0 k0 m) r0 k1 (-m))) k = _
      rw [fin.col, col1]
      omega
    · show rowS nk (turnW m ((k1, r1) :: w) (addC (addC f r0 k0 m) r0 k1 (-m))) r = _
      rw [fin.row, row1]
theorem Turned.val {k0 rn : Nat} (h : Turned nk nt acc S b T f g m k0 rn) (hr : rn < nt) : val nk nt g = val nk nt f + m :=
  Sg_one (i := rn) hr fun j _ => by
    rw [h.row]
    by_cases q : j = rn
    · rw [if_pos q, if_pos q]
    · rw [if_neg q, if_neg q, Int.add_zero]

/-! ### a way with unlike kinds to each kind that is reached -/
inductive Pth (nk nt : Nat) (acc : Nat → Nat → Prop) (S : Nat → Int) (T : Nat → Prop) (f : Nat → Nat → Int) : List (Nat × Nat) → Nat → Prop
  | start {k r : Nat} : k < nk → r < nt → T r → acc r k → colS nt f k < S k → Pth nk nt acc S T f [] k
  | step {p : List (Nat × Nat)} {k r k' : Nat} : Pth nk nt acc S T f p k → r < nt → T r → acc r k → 0 < f r k' → Pth nk nt acc S T f (p ++ [(k, r)]) k'
theorem Pth.back {p : List (Nat × Nat)} {k : Nat} (h : Pth nk nt acc S T f p k) : ∀ k', k' ∈ p.map (·.1) ++ [k] → ∃ p', Pth nk nt acc S T f p' k' ∧ (p'.map (·.1) ++ [k']) <+: (p.map (·.1) ++ [k]) := by
  induction h with
  | @start k r h1 h2 h3 h4 h5 =>
    intro k' hk'
    have e : k' = k := by simpa using hk'
    subst e
    exact ⟨[], .start h1 h2 h3 h4 h5, List.prefix_rfl⟩
  | @step p k r k1 h1 h2 h3 h4 h5 ih =>
    intro k' hk'
    have e : (p ++ [(k, r)]).map (·.1) ++ [k1] = (p.map (·.1) ++ [k]) ++ [k1] := by rw [List.map_append]; rfl
    rw [e] at hk' ⊢
    rcases List.mem_append.mp hk' with q | q
    · obtain ⟨p', a, c⟩ := ih k' q
      exact ⟨p', a, c.trans (List.prefix_append _ _)⟩
    · have e' : k' = k1 := by simpa using q
      subst e'
      exact ⟨p ++ [(k, r)], .step h1 h2 h3 h4 h5, by rw [e]; exact List.prefix_rfl⟩
theorem RK.pth {k : Nat} (h : RK nk nt acc S T f k) : ∃ p, Pth nk nt acc S T f p k ∧ (p.map (·.1) ++ [k]).Nodup := by
  induction h with
  | start h1 h2 h3 h4 h5 => exact ⟨[], .start h1 h2 h3 h4 h5, by simp⟩
  | @step k r k' h1 h2 h3 h4 h5 ih =>
    obtain ⟨p, hp, nd⟩ := ih
    by_cases e : k' ∈ p.map (·.1) ++ [k]
    · obtain ⟨p', hp', c⟩ := hp.back k' e
      exact ⟨p', hp', nd.sublist c.sublist⟩
    · refine ⟨p ++ [(k, r)], .step hp h2 h3 h4 h5, ?_⟩
      rw [List.map_append]
      show (p.map (·.1) ++ [k] ++ [k']).Nodup
      rw [List.nodup_append]
      exact ⟨nd, by simp, fun a ha c hc z => by
        have : c = k' := by simpa using hc
        subst this
        subst z
        exact e ha⟩
/-- the parts of a path -/
theorem Pth.facts {p : List (Nat × Nat)} {k : Nat} (h : Pth nk nt acc S T f p k) (hT : ∀ r k, 0 < f r k → k < nk) : k < nk ∧ (∀ (i k1 r1 : Nat), p[i]? = some (k1, r1) → k1 < nk ∧ r1 < nt ∧ T r1 ∧ acc r1 k1) ∧
    (∀ (i k1 r1 k2 r2 : Nat), p[i]? = some (k1, r1) → p[i + 1]? = some (k2, r2) → 0 < f r1 k2) ∧ (∀ k1 r1, p.getLast? = some (k1, r1) → 0 < f r1 k) ∧
    (∀ (k1 r1 : Nat) (t : List (Nat × Nat)), p = (k1, r1) :: t → colS nt f k1 < S k1) ∧ (p = [] → colS nt f k < S k) := by
  induction h with
  | @start k r h1 h2 h3 h4 h5 =>
    exact ⟨h1, fun i k1 r1 e => (by simp at e), fun i k1 r1 k2 r2 e => (by simp at e), fun k1 r1 e => (by simp at e), fun k1 r1 t e => (by simp at e), fun _ => h5⟩
  | @step p k r k' h1 h2 h3 h4 h5 ih =>
    obtain ⟨i1, i2, i3, i4, i5, i6⟩ := ih
    refine ⟨hT _ _ h5, fun i k1 r1 e => ?_, fun i k1 r1 k2 r2 e1 e2 => ?_, fun k1 r1 e => ?_, fun k1 r1 t e => ?_, fun e => by simp at e⟩
    · rw [List.getElem?_append] at e
      split at e
      · exact i2 i k1 r1 e
      · have q := List.mem_of_getElem? e
        have q : (k1, r1) = (k, r) := by simpa using q
        cases q
        exact ⟨i1, h2, h3, h4⟩
    · by_cases hi : i + 1 < p.length
      · rw [List.getElem?_append_left (by omega)] at e1
        rw [List.getElem?_append_left hi] at e2
        exact i3 i k1 r1 k2 r2 e1 e2
      · have hlt : i + 1 < (p ++ [(k, r)]).length := (List.getElem?_eq_some_iff.mp e2).1
        rw [List.length_append, List.length_singleton] at hlt
        have hi' : i + 1 = p.length := by omega
        rw [List.getElem?_append_right (by omega), hi', Nat.sub_self] at e2
        have q : (k, r) = (k2, r2) := by simpa using e2
        cases q
        rw [List.getElem?_append_left (by omega)] at e1
        refine i4 k1 r1 ?_
        rw [List.getLast?_eq_getElem?]
        have : p.length - 1 = i := by omega
        rw [this]
        exact e1
    · rw [List.getLast?_concat] at e
      cases e
      exact h5
    · cases p with
      | nil =>
        simp only [List.nil_append, List.cons.injEq, Prod.mk.injEq] at e
        obtain ⟨⟨rfl, rfl⟩, rfl⟩ := e
        exact i6 rfl
      | cons a p =>
        simp only [List.cons_append, List.cons.injEq] at e
        exact i5 k1 r1 p (by rw [e.1])
/-- a way from a kind with units left to a type that is reached -/
theorem RT.way {r : Nat} (h : Tk nk nt acc S b T f) (hr : RT nk nt acc S T f r) : ∃ (k0 r0 : Nat) (w : List (Nat × Nat)) (kn : Nat), IsWay nk nt acc T f 1 ((k0, r0) :: w) ∧ ((k0, r0) :: w).getLast? = some (kn, r) ∧ colS nt f k0 + 1 ≤ S k0 := by
  obtain ⟨h1, h2, k, h3, h4⟩ := hr
  obtain ⟨p, hp, nd⟩ := h3.pth
  obtain ⟨f1, f2, f3, f4, f5, f6⟩ := hp.facts fun r k e => (h.out r k e).2.1
  have way : IsWay nk nt acc T f 1 (p ++ [(k, r)]) := by
    refine ⟨fun i k1 r1 e => ?_, fun i k1 r1 k2 r2 e1 e2 => ?_, by rw [List.map_append]; exact nd⟩
    · rw [List.getElem?_append] at e
      split at e
      · exact f2 i k1 r1 e
      · have q : (k1, r1) = (k, r) := by simpa using List.mem_of_getElem? e
        cases q
        exact ⟨f1, h1, h2, h4⟩
    · by_cases hi : i + 1 < p.length
      · rw [List.getElem?_append_left (by omega)] at e1
        rw [List.getElem?_append_left hi] at e2
        have := f3 i k1 r1 k2 r2 e1 e2
        omega
      · have hlt : i + 1 < (p ++ [(k, r)]).length := (List.getElem?_eq_some_iff.mp e2).1
        rw [List.length_append, List.length_singleton] at hlt
        have hi' : i + 1 = p.length := by omega
        rw [List.getElem?_append_right (by omega), hi', Nat.sub_self] at e2
        have q : (k, r) = (k2, r2) := by simpa using e2
        cases q
        rw [List.getElem?_append_left (by omega)] at e1
        have := f4 k1 r1 (by
          rw [List.getLast?_eq_getElem?]
          have : p.length - 1 = i := by omega
          rw [this]
          exact e1)
        omega
  cases p with
  | nil =>
    refine ⟨k, r, [], k, way, rfl, ?_⟩
    have := f6 rfl
    omega
  | cons a p =>
    obtain ⟨k0, r0⟩ := a
    refine ⟨k0, r0, p ++ [(k, r)], k, way, ?_, ?_⟩
    · rw [← List.cons_append, List.getLast?_concat]
    · have := f5 k0 r0 p rfl
      omega

/-- THERE IS a greatest taking, with no row less than in a given one -/
theorem mx_from : ∀ (n : Nat) (f : Nat → Nat → Int), Tk nk nt acc S b T f → (Sg nk S - val nk nt f).toNat ≤ n → ∃ g, Mx nk nt acc S b T g ∧ ∀ r, rowS nk f r ≤ rowS nk g r := by
  intro n
  induction n with
  | zero =>
    intro f h hn
    by_cases q : ∀ r, RT nk nt acc S T f r → ∃ m, b r = some m ∧ rowS nk f r = m
    · exact ⟨f, ⟨h, q⟩, fun _ => Int.le_refl _⟩
    · exfalso
      obtain ⟨r, q⟩ := Classical.not_forall.mp q
      obtain ⟨hr, q⟩ := Classical.not_imp.mp q
      obtain ⟨k0, r0, w, kn, hw, hl, hc⟩ := hr.way h
      have t := turn_ok (S := S) (b := b) (by decide) w f k0 r0 kn r h hw hl hc fun x hx => by
        have := h.bnd r x hr.1 hx
        by_cases e : rowS nk f r = x
        · exact absurd ⟨x, hx, e⟩ q
        · omega
      have e1 := t.val hr.1
      have e2 := t.tk.val_le
      have := h.val_le
      omega
  | succ n ih =>
    intro f h hn
    by_cases q : ∀ r, RT nk nt acc S T f r → ∃ m, b r = some m ∧ rowS nk f r = m
    · exact ⟨f, ⟨h, q⟩, fun _ => Int.le_refl _⟩
    · obtain ⟨r, q⟩ := Classical.not_forall.mp q
      obtain ⟨hr, q⟩ := Classical.not_imp.mp q
      obtain ⟨k0, r0, w, kn, hw, hl, hc⟩ := hr.way h
      have t := turn_ok (S := S) (b := b) (by decide) w f k0 r0 kn r h hw hl hc fun x hx => by
        have := h.bnd r x hr.1 hx
        by_cases e : rowS nk f r = x
        · exact absurd ⟨x, hx, e⟩ q
        · omega
      have e1 := t.val hr.1
      have e2 := t.tk.val_le
      obtain ⟨g, hg, hle⟩ := ih _ t.tk (by omega)
      refine ⟨g, hg, fun r' => Int.le_trans ?_ (hle r')⟩
      rw [t.row]
      by_cases z : r' = r
      · rw [if_pos z]; omega
      · rw [if_neg z]; omega
theorem Tk.mx_ex (h : Tk nk nt acc S b T f) : ∃ g, Mx nk nt acc S b T g ∧ ∀ r, rowS nk f r ≤ rowS nk g r := mx_from _ f h (Nat.le_refl _)
/-- nothing taken -/
def noT : Nat → Nat → Int := fun _ _ => 0
theorem noT_tk (hS : ∀ k, k < nk → 0 ≤ S k) (hb : ∀ r m, r < nt → b r = some m → 0 ≤ m) : Tk nk nt acc S b T noT :=
  ⟨fun _ _ => Int.le_refl _, fun _ _ e => absurd (show (0 : Int) < 0 from e) (by decide), fun k hk => by
    rw [show colS nt noT k = 0 from Sg_zero fun _ _ => rfl]
    exact hS k hk, fun r m hr hm => by
    rw [show rowS nk noT r = 0 from Sg_zero fun _ _ => rfl]
    exact hb r m hr hm⟩
end

/-! ### the greatest number of units -/
open Classical in
/-- what a greatest taking takes, 0 where there is none -/
noncomputable def mx (nk nt : Nat) (acc : Nat → Nat → Prop) (S : Nat → Int) (b : Nat → Option Int) (T : Nat → Prop) : Int :=
  if h : ∃ f, Mx nk nt acc S b T f then val nk nt h.choose else 0
section
variable {nk nt : Nat} {acc : Nat → Nat → Prop} {S S' : Nat → Int} {b b' : Nat → Option Int} {T : Nat → Prop} {f g : Nat → Nat → Int}
theorem Mx.mx_eq (h : Mx nk nt acc S b T f) : mx nk nt acc S b T = val nk nt f := by
  unfold mx
  have e : ∃ f, Mx nk nt acc S b T f := ⟨f, h⟩
  rw [dif_pos e]
  exact e.choose_spec.val_eq h
theorem Tk.le_mx (h : Tk nk nt acc S b T f) : val nk nt f ≤ mx nk nt acc S b T := by
  obtain ⟨g, hg, _⟩ := h.mx_ex
  rw [hg.mx_eq]
  exact hg.most h
/-- a greatest taking is one that no other takes more than -/
theorem mx_is (h : Tk nk nt acc S b T f) (n : ∀ g, Tk nk nt acc S b T g → val nk nt g ≤ val nk nt f) : mx nk nt acc S b T = val nk nt f := by
  obtain ⟨g, hg, _⟩ := h.mx_ex
  rw [hg.mx_eq]
  have h1 := n g hg.tk
  have h2 := hg.most h
  omega

/-! ### full lots, rows of their requests -/
/-- requests: so many of each type -/
abbrev cnt (c : Nat → Int) : Nat → Option Int := fun r => some (c r)
/-- so many requests as the lot accepts units, and all of them can be served with these -/
structure FullRow (nk nt : Nat) (acc : Nat → Nat → Prop) (S : Nat → Int) (b : Nat → Option Int) (L : Nat → Prop) (c : Nat → Int) : Prop where
  run : ∃ g, Tk nk nt acc S b L g ∧ (∀ r, r < nt → rowS nk g r = c r) ∧ ∀ k, k < nk → NB nt acc L k → colS nt g k = S k
theorem full_val (h : Tk nk nt acc S b T f) (hc : ∀ k, k < nk → NB nt acc T k → colS nt f k = S k) : val nk nt f = units nk nt acc S T := by
  rw [val_cols]
  refine Sg_congr fun k hk => ?_
  by_cases e : NB nt acc T k
  · rw [on_yes e, hc k hk e]
  · rw [on_no e, h.col_zero e]
theorem Tk.le_units (h : Tk nk nt acc S b T f) : val nk nt f ≤ units nk nt acc S T := by
  rw [val_cols]
  refine Sg_le fun k hk => ?_
  by_cases e : NB nt acc T k
  · rw [on_yes e]
    exact h.cap k hk
  · rw [on_no e, h.col_zero e]
    exact Int.le_refl _
theorem full_of_val (h : Tk nk nt acc S b T f) (hv : units nk nt acc S T ≤ val nk nt f) : ∀ k, k < nk → NB nt acc T k → colS nt f k = S k := fun k hk hn => by
  rw [val_cols] at hv
  have q := Sg_eq_of_le (f := fun k => colS nt f k) (g := fun k => on (NB nt acc T k) (S k)) (n := nk) (fun i hi => by
    by_cases e : NB nt acc T i
    · rw [on_yes e]
      exact h.cap i hi
    · rw [on_no e, h.col_zero e]
      exact Int.le_refl _) hv k hk
  rw [on_yes hn] at q
  exact q
theorem Full.mx_units (h : Full nk nt acc S b T) : mx nk nt acc S b T = units nk nt acc S T := by
  obtain ⟨g, hg, hc⟩ := h
  have e := full_val hg hc
  rw [mx_is hg fun g' hg' => by rw [e]; exact hg'.le_units, e]
end
end K45
/-! Rows that tell two kinds apart: they are the full rows of full lots; the greedy row is a full one. -/
namespace K45
/-- the stock with a unit less of a kind -/
def less (S : Nat → Int) (k : Nat) : Nat → Int := fun j => if j = k then S j - 1 else S j
theorem less_same (S : Nat → Int) (k : Nat) : less S k k = S k - 1 := by unfold less; rw [if_pos rfl]
theorem less_ne (S : Nat → Int) {k j : Nat} (h : j ≠ k) : less S k j = S j := by unfold less; rw [if_neg h]
theorem less_le (S : Nat → Int) (k j : Nat) : less S k j ≤ S j := by
  by_cases h : j = k
  · subst h; rw [less_same]; omega
  · rw [less_ne S h]; exact Int.le_refl _
def allT : Nat → Prop := fun _ => True
/-- so many requests of each type tell one kind from another one -/
def Tells (nk nt : Nat) (acc : Nat → Nat → Prop) (S : Nat → Int) (one other : Nat) (c : Nat → Int) : Prop :=
  mx nk nt acc (less S one) (cnt c) allT < mx nk nt acc (less S other) (cnt c) allT

section
variable {nk nt : Nat} {acc : Nat → Nat → Prop} {S : Nat → Int} {b : Nat → Option Int} {L : Nat → Prop} {c : Nat → Int} {one other : Nat}

theorem FullRow.full (h : FullRow nk nt acc S b L c) : Full nk nt acc S b L :=
  let ⟨g, a, _, d⟩ := h.run
  ⟨g, a, d⟩
theorem FullRow.sum (h : FullRow nk nt acc S b L c) : Sg nt c = units nk nt acc S L := by
  obtain ⟨g, h1, h2, h3⟩ := h.run
  rw [← full_val h1 h3]
  exact (Sg_congr fun r hr => h2 r hr).symm
theorem FullRow.in_bounds (h : FullRow nk nt acc S b L c) {r : Nat} {m : Int} (hr : r < nt) (hm : b r = some m) : c r ≤ m := by
  obtain ⟨g, h1, h2, h3⟩ := h.run
  rw [← h2 r hr]
  exact h1.bnd r m hr hm
theorem FullRow.nonneg (h : FullRow nk nt acc S b L c) {r : Nat} (hr : r < nt) : 0 ≤ c r := by
  obtain ⟨g, h1, h2, h3⟩ := h.run
  rw [← h2 r hr]
  exact h1.row_nonneg r
theorem FullRow.zero (h : FullRow nk nt acc S b L c) {r : Nat} (hr : r < nt) (n : ¬ L r) : c r = 0 := by
  obtain ⟨g, h1, h2, h3⟩ := h.run
  rw [← h2 r hr]
  exact h1.row_zero n
/-- a full row of a lot with the one kind, without the other one, tells them apart -/
theorem FullRow.tells (h : FullRow nk nt acc S b L c) (h1 : NB nt acc L one) (ho : one < nk) (h2 : ¬ NB nt acc L other) (s1 : 1 ≤ S one) (s2 : 1 ≤ S other) : Tells nk nt acc S one other c := by
  obtain ⟨g, hg, hr, hc⟩ := h.run
  have up : Tk nk nt acc (less S other) (cnt c) allT g := by
    refine ⟨hg.nn, fun r k e => ?_, fun k hk => ?_, fun r m hr' hm => ?_⟩
    · obtain ⟨a1, a2, a3, a4⟩ := hg.out r k e
      exact ⟨a1, a2, trivial, a4⟩
    · by_cases e : k = other
      · subst e
        rw [less_same, hg.col_zero h2]
        omega
      · rw [less_ne S e]
        exact hg.cap k hk
    · have em : m = c r := (Option.some.inj hm).symm
      rw [em, hr r hr']
      exact Int.le_refl _
  have e1 := up.le_mx
  rw [full_val hg hc] at e1
  have e2 : mx nk nt acc (less S one) (cnt c) allT ≤ units nk nt acc S L - 1 := by
    have low0 : Tk nk nt acc (less S one) (cnt c) allT noT := noT_tk (fun k hk => by
      by_cases e : k = one
      · subst e; rw [less_same]; omega
      · rw [less_ne S e]
        exact hg.stock_nonneg hk) fun r m hr' hm => by
        have em : m = c r := (Option.some.inj hm).symm
        rw [em]
        exact h.nonneg hr'
    obtain ⟨f, hf, _⟩ := low0.mx_ex
    rw [hf.mx_eq]
    have hfL : Tk nk nt acc (less S one) (cnt c) L f := by
      refine ⟨hf.tk.nn, fun r k e => ?_, hf.tk.cap, hf.tk.bnd⟩
      obtain ⟨a1, a2, _, a4⟩ := hf.tk.out r k e
      refine ⟨a1, a2, Classical.byContradiction fun n => ?_, a4⟩
      have q1 := hf.tk.bnd r (c r) a1 rfl
      rw [h.zero a1 n] at q1
      have q2 := Sg_term (f := fun k => f r k) (n := nk) (fun k _ => hf.tk.nn r k) a2
      have q2 : f r k ≤ rowS nk f r := q2
      omega
    refine Int.le_trans hfL.le_units (Int.le_of_eq ?_)
    show Sg nk (fun k => on (NB nt acc L k) (less S one k)) = Sg nk (fun k => on (NB nt acc L k) (S k)) + -1
    refine Sg_one (i := one) ho fun k _ => ?_
    by_cases e : k = one
    · subst e
      rw [if_pos rfl, on_yes h1, on_yes h1, less_same]
      rfl
    · rw [if_neg e, less_ne S e]
  unfold Tells
  omega

/-- a row that tells two kinds apart holds a full row of a full lot with the one kind, without the other one -/
theorem tells_full (hS : ∀ k, k < nk → 0 ≤ S k) (h0 : ∀ r, r < nt → 0 ≤ c r) (hb : ∀ r m, r < nt → b r = some m → c r ≤ m) (ho : one < nk) (hoo : other < nk) (s1 : 1 ≤ S one) (s2 : 1 ≤ S other) (ht : Tells nk nt acc S one other c) :
    ∃ (L : Nat → Prop) (c' : Nat → Int), FullRow nk nt acc S b L c' ∧ NB nt acc L one ∧ ¬ NB nt acc L other ∧ ∀ r, r < nt → c' r ≤ c r := by
  have z : ∀ x, 1 ≤ S x → Tk nk nt acc (less S x) (cnt c) allT noT := fun x hx => noT_tk (fun k hk => by
      by_cases e : k = x
      · subst e; rw [less_same]; omega
      · rw [less_ne S e]
        exact hS k hk) fun r m hr' hm => by
        have em : m = c r := (Option.some.inj hm).symm
        rw [em]
        exact h0 r hr'
  obtain ⟨f, hf, _⟩ := (z one s1).mx_ex
  obtain ⟨g, hg, _⟩ := (z other s2).mx_ex
  unfold Tells at ht
  rw [hf.mx_eq, hg.mx_eq] at ht
  generalize hL : Rest nk nt acc (less S one) allT f = L at *
  -- what the types outside take
  have split : ∀ h : Nat → Nat → Int, val nk nt h = Sg nt (fun r => on (L r) (rowS nk h r)) + Sg nt (fun r => on (¬ L r) (rowS nk h r)) := fun h => Sg_split L
  have outs : Sg nt (fun r => on (¬ L r) (rowS nk g r)) ≤ Sg nt (fun r => on (¬ L r) (rowS nk f r)) := by
    refine Sg_le fun r hr => ?_
    by_cases e : L r
    · rw [on_no (fun n => n e), on_no (fun n => n e)]
      exact Int.le_refl _
    · rw [on_yes e, on_yes e]
      have hrt : RT nk nt acc (less S one) allT f r := Classical.byContradiction fun n => e (by rw [← hL]; exact ⟨trivial, n⟩)
      obtain ⟨m, hm, em⟩ := hf.full r hrt
      rw [em]
      exact hg.tk.bnd r m hr hm
  have inn : ∀ h : Nat → Nat → Int, Sg nt (fun r => on (L r) (rowS nk h r)) = val nk nt (cutT L h) := fun h => Sg_congr fun r _ => by
    by_cases e : L r
    · rw [on_yes e, cutT_row_yes e]
    · rw [on_no e, cutT_row_no e]
  have fL : val nk nt (cutT L f) = units nk nt acc (less S one) L := by
    refine full_val (((hf.tk).cutted L).mono fun _ q => q.2) fun k hk hn => ?_
    rw [← hL] at hn ⊢
    exact hf.tk.rest_col hk hn
  have gT := ((hg.tk).cutted L).mono fun _ q => q.2
  have gL := gT.le_units
  have e1 := split f
  have e2 := split g
  rw [inn] at e1 e2
  have hlt : units nk nt acc (less S one) L < val nk nt (cutT L g) := by omega
  have hbelow : ∀ x, units nk nt acc (less S x) L ≤ units nk nt acc S L := fun x => Sg_le fun k _ => by
    by_cases e : NB nt acc L k
    · rw [on_yes e, on_yes e]
      exact less_le S x k
    · rw [on_no e, on_no e]
      exact Int.le_refl _
  have h1 : NB nt acc L one := Classical.byContradiction fun n => by
    have : units nk nt acc (less S one) L = units nk nt acc S L := Sg_congr fun k _ => by
      by_cases e : NB nt acc L k
      · rw [on_yes e, on_yes e]
        exact less_ne S fun q => n (q ▸ e)
      · rw [on_no e, on_no e]
    have := hbelow other
    omega
  have drop : ∀ x, x < nk → NB nt acc L x → units nk nt acc (less S x) L = units nk nt acc S L - 1 := fun x hx hn => by
    refine Sg_one (i := x) (d := -1) hx fun k _ => ?_
    by_cases e : k = x
    · subst e
      rw [if_pos rfl, on_yes hn, on_yes hn, less_same]
      rfl
    · rw [if_neg e, less_ne S e]
  have d1 := drop one ho h1
  have hfull : val nk nt (cutT L g) = units nk nt acc S L := by
    have := hbelow other
    omega
  have gS : Tk nk nt acc S b L (cutT L g) := by
    refine ⟨gT.nn, gT.out, fun k hk => Int.le_trans (gT.cap k hk) (less_le S other k), fun r m hr hm => ?_⟩
    exact Int.le_trans (gT.bnd r (c r) hr rfl) (hb r m hr hm)
  have h2 : ¬ NB nt acc L other := fun n => by
    have := drop other hoo n
    omega
  exact ⟨L, rowS nk (cutT L g), ⟨cutT L g, gS, fun _ _ => rfl, full_of_val gS (Int.le_of_eq hfull.symm)⟩, h1, h2, fun r hr => gT.bnd r (c r) hr rfl⟩

/-! ### the greedy row of a full lot -/
/-- the types of a list -/
abbrev isIn (l : List Nat) : Nat → Prop := fun r => r ∈ l
theorem Sg_list {h : Nat → Int} : ∀ {l : List Nat}, l.Nodup → (∀ r ∈ l, r < nt) → Sg nt (fun r => on (r ∈ l) (h r)) = (l.map h).sum
  | [], _, _ => by
    show _ = (0 : Int)
    exact Sg_zero fun r _ => on_no (by simp)
  | t :: l, nd, hl => by
    rw [List.nodup_cons] at nd
    rw [List.map_cons, List.sum_cons, ← Sg_list (h := h) nd.2 fun r hr => hl r (List.mem_cons_of_mem _ hr), Int.add_comm]
    refine Sg_one (i := t) (hl t List.mem_cons_self) fun r _ => ?_
    by_cases e : r = t
    · subst e
      rw [if_pos rfl, on_yes List.mem_cons_self, on_no nd.1]
      omega
    · rw [if_neg e]
      by_cases q : r ∈ l
      · rw [on_yes q, on_yes (List.mem_cons_of_mem _ q)]
      · rw [on_no q, on_no fun m => (List.mem_cons.mp m).elim e q]
theorem Tk.val_list {f : Nat → Nat → Int} {l : List Nat} (h : Tk nk nt acc S b (isIn l) f) (nd : l.Nodup) (hl : ∀ r ∈ l, r < nt) : val nk nt f = (l.map (rowS nk f)).sum := by
  rw [← Sg_list nd hl]
  refine Sg_congr fun r _ => ?_
  by_cases e : r ∈ l
  · rw [on_yes e]
  · rw [on_no e, h.row_zero e]
/-- what the first i types of a list can take together -/
noncomputable def rk (nk nt : Nat) (acc : Nat → Nat → Prop) (S : Nat → Int) (b : Nat → Option Int) (l : List Nat) (i : Nat) : Int := mx nk nt acc S b (isIn (l.take i))
theorem sum_le_all {α : Type} {p q : α → Int} : ∀ {l : List α}, (∀ x ∈ l, p x ≤ q x) → (l.map p).sum ≤ (l.map q).sum
  | [], _ => Int.le_refl _
  | a :: l, h => by
    rw [List.map_cons, List.map_cons, List.sum_cons, List.sum_cons]
    have h1 := h a List.mem_cons_self
    have h2 := sum_le_all (l := l) fun x hx => h x (List.mem_cons_of_mem _ hx)
    omega
theorem sum_eq_all {α : Type} {p q : α → Int} : ∀ {l : List α}, (∀ x ∈ l, p x ≤ q x) → (l.map q).sum ≤ (l.map p).sum → ∀ x ∈ l, p x = q x
  | [], _, _, x, hx => absurd hx (by simp)
  | a :: l, h, e, x, hx => by
    rw [List.map_cons, List.map_cons, List.sum_cons, List.sum_cons] at e
    have h1 := h a List.mem_cons_self
    have h2 := sum_le_all (l := l) fun x hx => h x (List.mem_cons_of_mem _ hx)
    rcases List.mem_cons.mp hx with q | q
    · subst q; omega
    · exact sum_eq_all (l := l) (fun x hx => h x (List.mem_cons_of_mem _ hx)) (by omega) x q
theorem take_succ_at {l : List Nat} {i t : Nat} (h : l[i]? = some t) : l.take (i + 1) = l.take i ++ [t] := by
  rw [List.take_add_one, h]
  rfl
theorem greedy_run (hS : ∀ k, k < nk → 0 ≤ S k) (hb : ∀ r m, r < nt → b r = some m → 0 ≤ m) {l : List Nat} (nd : l.Nodup) (hl : ∀ r ∈ l, r < nt) : ∀ i, i ≤ l.length →
    ∃ f, Mx nk nt acc S b (isIn (l.take i)) f ∧ ∀ (j t : Nat), j < i → l[j]? = some t → rowS nk f t = rk nk nt acc S b l (j + 1) - rk nk nt acc S b l j := by
  intro i
  induction i with
  | zero =>
    intro _
    obtain ⟨f, hf, _⟩ := (noT_tk (nk := nk) (acc := acc) (T := isIn (l.take 0)) hS hb).mx_ex
    exact ⟨f, hf, fun j t hj => by omega⟩
  | succ i ih =>
    intro hi
    obtain ⟨f, hf, hrow⟩ := ih (by omega)
    obtain ⟨t, ht⟩ : ∃ t, l[i]? = some t := ⟨l[i], by simp⟩
    have e := take_succ_at ht
    have hT : Tk nk nt acc S b (isIn (l.take (i + 1))) f := hf.tk.mono fun r hr => by
      show r ∈ l.take (i + 1)
      rw [e]
      exact List.mem_append_left _ hr
    obtain ⟨g, hg, hle⟩ := hT.mx_ex
    have ndi : (l.take i).Nodup := nd.sublist (List.take_sublist _ _)
    have hli : ∀ r ∈ l.take i, r < nt := fun r hr => hl r (List.mem_of_mem_take hr)
    have ndi1 : (l.take (i + 1)).Nodup := nd.sublist (List.take_sublist _ _)
    have hli1 : ∀ r ∈ l.take (i + 1), r < nt := fun r hr => hl r (List.mem_of_mem_take hr)
    have hp : Tk nk nt acc S b (isIn (l.take i)) (cutT (isIn (l.take i)) g) := (hg.tk.cutted _).mono fun _ q => q.2
    have v1 := hp.le_mx
    rw [hp.val_list ndi hli, hf.mx_eq, hf.tk.val_list ndi hli] at v1
    have e1 : (l.take i).map (rowS nk (cutT (isIn (l.take i)) g)) = (l.take i).map (rowS nk g) := List.map_congr_left fun r hr => cutT_row_yes hr
    rw [e1] at v1
    have same := sum_eq_all (l := l.take i) (p := rowS nk f) (q := rowS nk g) (fun r _ => hle r) v1
    have vf : rk nk nt acc S b l i = ((l.take i).map (rowS nk f)).sum := by
      show mx nk nt acc S b (isIn (l.take i)) = _
      rw [hf.mx_eq, hf.tk.val_list ndi hli]
    have vg : rk nk nt acc S b l (i + 1) = ((l.take (i + 1)).map (rowS nk g)).sum := by
      show mx nk nt acc S b (isIn (l.take (i + 1))) = _
      rw [hg.mx_eq, hg.tk.val_list ndi1 hli1]
    have vs : ((l.take i).map (rowS nk f)).sum = ((l.take i).map (rowS nk g)).sum := by rw [List.map_congr_left same]
    refine ⟨g, hg, fun j t' hj hjt => ?_⟩
    by_cases q : j = i
    · subst q
      rw [ht] at hjt
      cases hjt
      rw [vg, vf, e, List.map_append, List.sum_append, vs, List.map_singleton, List.sum_singleton]
      omega
    · have hm : t' ∈ l.take i := List.mem_take_iff_getElem.mpr ⟨j, by
        have := (List.getElem?_eq_some_iff.mp hjt).1
        omega, (List.getElem?_eq_some_iff.mp hjt).2⟩
      rw [← same t' hm]
      exact hrow j t' (by omega) hjt
/-- the greedy counts, for each type of the list -/
noncomputable def greedy (nk nt : Nat) (acc : Nat → Nat → Prop) (S : Nat → Int) (b : Nat → Option Int) (l : List Nat) : List Int := (List.range l.length).map fun i => rk nk nt acc S b l (i + 1) - rk nk nt acc S b l i
/-- they are those of a full row -/
theorem greedy_full (hS : ∀ k, k < nk → 0 ≤ S k) (hb : ∀ r m, r < nt → b r = some m → 0 ≤ m) {l : List Nat} (nd : l.Nodup) (hl : ∀ r ∈ l, r < nt) (hf : Full nk nt acc S b (isIn l)) :
    ∃ c, FullRow nk nt acc S b (isIn l) c ∧ ∀ (i t : Nat), l[i]? = some t → c t = rk nk nt acc S b l (i + 1) - rk nk nt acc S b l i := by
  obtain ⟨f, hm, hr⟩ := greedy_run (acc := acc) hS hb nd hl l.length (Nat.le_refl _)
  rw [List.take_length] at hm
  refine ⟨rowS nk f, ⟨f, hm.tk, fun _ _ => rfl, full_of_val hm.tk ?_⟩, fun i t ht => hr i t (List.getElem?_eq_some_iff.mp ht).1 ht⟩
  rw [← hm.mx_eq, hf.mx_units]
  exact Int.le_refl _
/-- and no full row of a lot within the list has more requests of the first types -/
theorem greedy_most {l : List Nat} {c : Nat → Int} {L : Nat → Prop} (nd : l.Nodup) (hl : ∀ r ∈ l, r < nt) (h : FullRow nk nt acc S b L c) (i : Nat) : ((l.take i).map c).sum ≤ rk nk nt acc S b l i := by
  obtain ⟨g, h1, h2, h3⟩ := h.run
  have hp : Tk nk nt acc S b (isIn (l.take i)) (cutT (isIn (l.take i)) g) := (h1.cutted _).mono fun _ q => q.2
  have v := hp.le_mx
  have ndi : (l.take i).Nodup := nd.sublist (List.take_sublist _ _)
  have hli : ∀ r ∈ l.take i, r < nt := fun r hr => hl r (List.mem_of_mem_take hr)
  rw [hp.val_list ndi hli] at v
  have e : (l.take i).map (rowS nk (cutT (isIn (l.take i)) g)) = (l.take i).map c := List.map_congr_left fun r hr => by
    rw [cutT_row_yes (show isIn (l.take i) r from hr)]
    exact h2 r (hli r hr)
  rw [e] at v
  exact v
end
end K45
/-! Rows as lists: their order, the greedy row is the least, all rows by trying. -/
namespace K45

/-! ### the order of rows of one length -/
def ltL : List Nat → List Nat → Bool
  | [], [] => false
  | [], _ :: _ => true
  | _ :: _, [] => false
  | a :: x, b :: y => decide (a < b) || (decide (a = b) && ltL x y)
theorem ltL_irr : ∀ x : List Nat, ltL x x = false
  | [] => rfl
  | a :: x => by
    unfold ltL
    rw [ltL_irr x]
    simp
theorem ltL_cons {a b : Nat} {x y : List Nat} : ltL (a :: x) (b :: y) = true ↔ a < b ∨ (a = b ∧ ltL x y = true) := by
  show (decide (a < b) || (decide (a = b) && ltL x y)) = true ↔ _
  simp
theorem ltL_trans : ∀ {x y z : List Nat}, ltL x y = true → ltL y z = true → ltL x z = true
  | [], [], _, h, _ => by cases h
  | [], _ :: _, [], _, h => by cases h
  | [], _ :: _, _ :: _, _, _ => rfl
  | _ :: _, [], _, h, _ => by cases h
  | _ :: _, _ :: _, [], _, h => by cases h
  | a :: x, b :: y, c :: z, h1, h2 => by
    rw [ltL_cons] at h1 h2 ⊢
    rcases h1 with h1 | ⟨h1, q1⟩
    · rcases h2 with h2 | ⟨h2, _⟩
      · exact .inl (by omega)
      · exact .inl (by omega)
    · rcases h2 with h2 | ⟨h2, q2⟩
      · exact .inl (by omega)
      · exact .inr ⟨by omega, ltL_trans q1 q2⟩
theorem ltL_tri : ∀ (x y : List Nat), ltL x y = true ∨ x = y ∨ ltL y x = true
  | [], [] => .inr (.inl rfl)
  | [], _ :: _ => .inl rfl
  | _ :: _, [] => .inr (.inr rfl)
  | a :: x, b :: y => by
    rw [ltL_cons, ltL_cons]
    by_cases h1 : a < b
    · exact .inl (.inl h1)
    · by_cases h2 : b < a
      · exact .inr (.inr (.inl h2))
      · have e : a = b := by omega
        subst e
        rcases ltL_tri x y with q | q | q
        · exact .inl (.inr ⟨rfl, q⟩)
        · exact .inr (.inl (by rw [q]))
        · exact .inr (.inr (.inr ⟨rfl, q⟩))
theorem ltL_asymm {x y : List Nat} (h : ltL x y = true) : ltL y x = false := by
  cases q : ltL y x with
  | false => rfl
  | true =>
    have := ltL_trans h q
    rw [ltL_irr] at this
    cases this
theorem leL_trans {x y z : List Nat} (h1 : ltL y x = false) (h2 : ltL z y = false) : ltL z x = false := by
  cases q : ltL z x with
  | false => rfl
  | true =>
    rcases ltL_tri x y with e | e | e
    · have := ltL_trans q e
      rw [h2] at this
      cases this
    · subst e
      rw [h2] at q
      cases q
    · rw [h1] at e
      cases e
theorem leL_antisymm {x y : List Nat} (h1 : ltL y x = false) (h2 : ltL x y = false) : x = y := by
  rcases ltL_tri x y with e | e | e
  · rw [h2] at e; cases e
  · exact e
  · rw [h1] at e; cases e
theorem ltL_app (p : List Nat) : ∀ {x y : List Nat}, ltL (p ++ x) (p ++ y) = ltL x y := by
  induction p with
  | nil => intro x y; rfl
  | cons a p ih =>
    intro x y
    show (decide (a < a) || (decide (a = a) && ltL (p ++ x) (p ++ y))) = _
    rw [ih]
    simp
/-- one length, at no place greater: not greater -/
theorem leL_of_le : ∀ {x y : List Nat}, x.length = y.length → (∀ (i a b : Nat), x[i]? = some a → y[i]? = some b → a ≤ b) → ltL y x = false
  | [], [], _, _ => rfl
  | [], _ :: _, h, _ => by simp at h
  | _ :: _, [], h, _ => by simp at h
  | a :: x, b :: y, h, q => by
    have h0 := q 0 a b rfl rfl
    have ih := leL_of_le (x := x) (y := y) (by simpa using h) fun i a b e1 e2 => q (i + 1) a b (by rw [List.getElem?_cons_succ]; exact e1) (by rw [List.getElem?_cons_succ]; exact e2)
    cases z : ltL (b :: y) (a :: x) with
    | false => rfl
    | true =>
      rw [ltL_cons] at z
      rcases z with z | ⟨_, z⟩
      · omega
      · rw [ih] at z; cases z

/-! ### rows by their counts -/
/-- for each type of a list so many requests -/
def rowOf : List Nat → (Nat → Nat) → List Nat
  | [], _ => []
  | t :: l, c => List.replicate (c t) t ++ rowOf l c
theorem rowOf_mem {c : Nat → Nat} {r : Nat} : ∀ {l : List Nat}, r ∈ rowOf l c → r ∈ l
  | t :: l, h => by
    rcases List.mem_append.mp h with q | q
    · rw [(List.mem_replicate.mp q).2]
      exact List.mem_cons_self
    · exact List.mem_cons_of_mem _ (rowOf_mem q)
theorem rowOf_length (c : Nat → Nat) : ∀ l : List Nat, (rowOf l c).length = (l.map c).sum
  | [] => rfl
  | t :: l => by
    show (List.replicate (c t) t ++ rowOf l c).length = _
    rw [List.length_append, List.length_replicate, rowOf_length c l, List.map_cons, List.sum_cons]
theorem rowOf_congr {c d : Nat → Nat} : ∀ {l : List Nat}, (∀ r ∈ l, c r = d r) → rowOf l c = rowOf l d
  | [], _ => rfl
  | t :: l, h => by
    show List.replicate (c t) t ++ rowOf l c = List.replicate (d t) t ++ rowOf l d
    rw [h t List.mem_cons_self, rowOf_congr fun r hr => h r (List.mem_cons_of_mem _ hr)]
theorem count_rowOf {c : Nat → Nat} {r : Nat} : ∀ {l : List Nat}, l.Nodup → (rowOf l c).count r = if r ∈ l then c r else 0
  | [], _ => rfl
  | t :: l, h => by
    rw [List.nodup_cons] at h
    show (List.replicate (c t) t ++ rowOf l c).count r = _
    rw [List.count_append, count_rowOf h.2, List.count_replicate]
    by_cases e : t = r
    · subst e
      rw [if_neg h.1]
      simp
    · have e' : ¬ r = t := fun z => e z.symm
      by_cases q : r ∈ l
      · simp [e, e', q]
      · simp [e, e', q]
theorem rowOf_sorted {c : Nat → Nat} : ∀ {l : List Nat}, l.Pairwise (· < ·) → (rowOf l c).Pairwise (· ≤ ·)
  | [], _ => List.Pairwise.nil
  | t :: l, h => by
    rw [List.pairwise_cons] at h
    show (List.replicate (c t) t ++ rowOf l c).Pairwise (· ≤ ·)
    rw [List.pairwise_append]
    refine ⟨?_, rowOf_sorted h.2, fun a ha b hb => ?_⟩
    · rw [List.pairwise_replicate]
      exact .inr (Nat.le_refl _)
    · rw [(List.mem_replicate.mp ha).2]
      exact Nat.le_of_lt (h.1 b (rowOf_mem hb))
/-- sorted rows with the same counts are one -/
theorem sorted_count_eq {x y : List Nat} (hx : x.Pairwise (· ≤ ·)) (hy : y.Pairwise (· ≤ ·)) (h : ∀ r, x.count r = y.count r) : x = y :=
  (List.perm_iff_count.mpr h).eq_of_pairwise (le := fun a b : Nat => a ≤ b) (fun a b _ _ h1 h2 => Nat.le_antisymm h1 h2) hx hy
theorem row_is {R l : List Nat} (hl : l.Pairwise (· < ·)) (hR : R.Pairwise (· ≤ ·)) (hm : ∀ r ∈ R, r ∈ l) : R = rowOf l (fun r => R.count r) := by
  have nd : l.Nodup := hl.imp fun h => Nat.ne_of_lt h
  refine sorted_count_eq hR (rowOf_sorted hl) fun r => ?_
  rw [count_rowOf nd]
  by_cases e : r ∈ l
  · rw [if_pos e]
  · rw [if_neg e]
    exact List.count_eq_zero.mpr fun z => e (hm r z)
/-- more requests of the first types, and as many in all: a lesser row -/
theorem rowOf_le {c d : Nat → Nat} : ∀ {l : List Nat}, l.Pairwise (· < ·) → (∀ i, ((l.take i).map d).sum ≤ ((l.take i).map c).sum) → (l.map c).sum = (l.map d).sum → ltL (rowOf l d) (rowOf l c) = false
  | [], _, _, _ => rfl
  | t :: l, hl, hp, he => by
    rw [List.pairwise_cons] at hl
    have h1 := hp 1
    simp only [List.take_succ_cons, List.take_zero, List.map_cons, List.map_nil, List.sum_cons, List.sum_nil, Nat.add_zero] at h1
    rw [List.map_cons, List.map_cons, List.sum_cons, List.sum_cons] at he
    show ltL (List.replicate (d t) t ++ rowOf l d) (List.replicate (c t) t ++ rowOf l c) = false
    by_cases e : c t = d t
    · rw [e, ltL_app]
      refine rowOf_le hl.2 (fun i => ?_) (by omega)
      have q := hp (i + 1)
      rw [List.take_succ_cons, List.map_cons, List.map_cons, List.sum_cons, List.sum_cons] at q
      omega
    · have lt : d t < c t := by omega
      obtain ⟨n, hn⟩ : ∃ n, c t = d t + (n + 1) := ⟨c t - d t - 1, by omega⟩
      rw [hn, ← List.replicate_append_replicate, List.append_assoc, ltL_app]
      have hlen : 0 < (rowOf l d).length := by
        rw [rowOf_length]
        omega
      cases hr : rowOf l d with
      | nil => rw [hr] at hlen; simp at hlen
      | cons a x =>
        have ha : t < a := hl.1 a (rowOf_mem (c := d) (by rw [hr]; exact List.mem_cons_self))
        show (decide (a < t) || (decide (a = t) && _)) = false
        rw [decide_eq_false (by omega : ¬ a < t), decide_eq_false (by omega : ¬ a = t)]
        rfl
end K45
/-! What is found by trying: the most that can be served, all rows, the first one that tells two kinds apart. -/
namespace K45

/-- a list of numbers as a function -/
def fn (l : List Int) : Nat → Int := fun k => l.getD k 0
theorem fn_at {l : List Int} {k : Nat} {v : Int} (h : l[k]? = some v) : fn l k = v := by
  unfold fn
  rw [List.getD_eq_getElem?_getD, h]
  rfl
theorem fn_out {l : List Int} {k : Nat} (h : l.length ≤ k) : fn l k = 0 := by
  unfold fn
  rw [List.getD_eq_getElem?_getD, List.getElem?_eq_none h]
  rfl
theorem fn_get {l : List Int} {k : Nat} (h : k < l.length) : l[k]? = some (fn l k) := by
  unfold fn
  rw [List.getD_eq_getElem?_getD, List.getElem?_eq_getElem h]
  rfl
theorem fn_set {l : List Int} {k : Nat} (h : k < l.length) (v : Int) (j : Nat) : fn (l.set k v) j = if j = k then v else fn l j := by
  unfold fn
  rw [List.getD_eq_getElem?_getD, List.getD_eq_getElem?_getD, List.getElem?_set]
  by_cases e : k = j
  · subst e
    rw [if_pos rfl, if_pos h, if_pos rfl]
    rfl
  · rw [if_neg e, if_neg fun z => e z.symm]
theorem sum_append_last (l : List Int) (x : Int) : (l ++ [x]).sum = l.sum + x := by rw [List.sum_append, List.sum_singleton]
theorem sum_fn_take (l : List Int) : ∀ n, n ≤ l.length → Sg n (fn l) = (l.take n).sum
  | 0, _ => rfl
  | n + 1, h => by
    unfold Sg
    rw [sum_fn_take l n (by omega), List.take_add_one, fn_get (l := l) (k := n) (by omega)]
    show _ = (List.take n l ++ [fn l n]).sum
    rw [sum_append_last]
theorem sum_fn (l : List Int) : Sg l.length (fn l) = l.sum := by rw [sum_fn_take l l.length (Nat.le_refl _), List.take_length]
theorem fn_ext {x y : List Int} (hl : x.length = y.length) (h : ∀ k, k < x.length → fn x k = fn y k) : x = y := by
  refine List.ext_getElem? fun k => ?_
  by_cases e : k < x.length
  · rw [fn_get e, fn_get (by omega), h k e]
  · rw [List.getElem?_eq_none (by omega), List.getElem?_eq_none (by omega)]
/-- the list of a function's first values -/
def tab (n : Nat) (f : Nat → Int) : List Int := (List.range n).map f
theorem tab_length (n : Nat) (f : Nat → Int) : (tab n f).length = n := by
  unfold tab
  rw [List.length_map, List.length_range]
theorem fn_tab {n : Nat} {f : Nat → Int} {k : Nat} (h : k < n) : fn (tab n f) k = f k := by
  refine fn_at ?_
  unfold tab
  rw [List.getElem?_map, List.getElem?_range h]
  rfl

/-! ### the most that can be served: all stocks that can be left -/
def insL (acc : List (List Int)) (x : List Int) : List (List Int) := if x ∈ acc then acc else acc ++ [x]
theorem mem_insL {acc : List (List Int)} {x y : List Int} : y ∈ insL acc x ↔ y ∈ acc ∨ y = x := by
  unfold insL
  split
  · rename_i h
    exact ⟨.inl, fun z => z.elim id fun e => e ▸ h⟩
  · rw [List.mem_append, List.mem_singleton]
/-- a unit of a kind handed out, where one is left -/
def step1 (left : List Int) (acc : List (List Int)) (k : Nat) : List (List Int) := if 0 < fn left k then insL acc (left.set k (fn left k - 1)) else acc
def stepL (lot : List Nat) (acc : List (List Int)) (left : List Int) : List (List Int) := lot.foldl (step1 left) acc
/-- one more request -/
def stepR (lot : List Nat) (lefts : List (List Int)) : List (List Int) := lefts.foldl (stepL lot) lefts
theorem mem_stepL {left y : List Int} : ∀ {lot : List Nat} {acc : List (List Int)}, y ∈ stepL lot acc left ↔ y ∈ acc ∨ ∃ k ∈ lot, 0 < fn left k ∧ y = left.set k (fn left k - 1)
  | [], acc => by simp [stepL]
  | k :: lot, acc => by
    show y ∈ stepL lot (step1 left acc k) left ↔ _
    rw [mem_stepL]
    unfold step1
    by_cases h : 0 < fn left k
    · rw [if_pos h, mem_insL]
      constructor
      · rintro ((z | z) | ⟨j, hj, z⟩)
        · exact .inl z
        · exact .inr ⟨k, List.mem_cons_self, h, z⟩
        · exact .inr ⟨j, List.mem_cons_of_mem _ hj, z⟩
      · rintro (z | ⟨j, hj, z1, z2⟩)
        · exact .inl (.inl z)
        · rcases List.mem_cons.mp hj with e | hj
          · subst e
            exact .inl (.inr z2)
          · exact .inr ⟨j, hj, z1, z2⟩
    · rw [if_neg h]
      constructor
      · rintro (z | ⟨j, hj, z⟩)
        · exact .inl z
        · exact .inr ⟨j, List.mem_cons_of_mem _ hj, z⟩
      · rintro (z | ⟨j, hj, z1, z2⟩)
        · exact .inl z
        · rcases List.mem_cons.mp hj with e | hj
          · subst e
            exact absurd z1 h
          · exact .inr ⟨j, hj, z1, z2⟩
theorem mem_steps {lot : List Nat} {y : List Int} : ∀ {lefts acc : List (List Int)}, y ∈ lefts.foldl (stepL lot) acc ↔ y ∈ acc ∨ ∃ x ∈ lefts, ∃ k ∈ lot, 0 < fn x k ∧ y = x.set k (fn x k - 1)
  | [], acc => by simp
  | x :: lefts, acc => by
    show y ∈ lefts.foldl (stepL lot) (stepL lot acc x) ↔ _
    rw [mem_steps, mem_stepL]
    constructor
    · rintro ((z | z) | ⟨j, hj, z⟩)
      · exact .inl z
      · exact .inr ⟨x, List.mem_cons_self, z⟩
      · exact .inr ⟨j, List.mem_cons_of_mem _ hj, z⟩
    · rintro (z | ⟨j, hj, z⟩)
      · exact .inl (.inl z)
      · rcases List.mem_cons.mp hj with e | hj
        · subst e
          exact .inl (.inr z)
        · exact .inr ⟨j, hj, z⟩
theorem mem_stepR {lot : List Nat} {lefts : List (List Int)} {y : List Int} : y ∈ stepR lot lefts ↔ y ∈ lefts ∨ ∃ x ∈ lefts, ∃ k ∈ lot, 0 < fn x k ∧ y = x.set k (fn x k - 1) := mem_steps
/-- n requests of one type -/
def stepN (lot : List Nat) : Nat → List (List Int) → List (List Int)
  | 0, lefts => lefts
  | n + 1, lefts => stepR lot (stepN lot n lefts)
/-- so many requests of the first n types -/
def leftsTo (lots : List (List Nat)) (stock counts : List Int) : Nat → List (List Int)
  | 0 => [stock]
  | n + 1 => stepN (lots.getD n []) (fn counts n).toNat (leftsTo lots stock counts n)
def leastI : List Int → Int
  | [] => 0
  | [a] => a
  | a :: l => if a ≤ leastI l then a else leastI l
/-- the most requests that can be served -/
def msv (lots : List (List Nat)) (stock counts : List Int) : Int := stock.sum - leastI ((leftsTo lots stock counts lots.length).map List.sum)
theorem leastI_mem : ∀ {l : List Int}, l ≠ [] → leastI l ∈ l
  | [], h => absurd rfl h
  | [a], _ => List.mem_cons_self
  | a :: b :: l, _ => by
    show (if a ≤ leastI (b :: l) then a else leastI (b :: l)) ∈ _
    split
    · exact List.mem_cons_self
    · exact List.mem_cons_of_mem _ (leastI_mem (by simp))
theorem leastI_le : ∀ {l : List Int} {x : Int}, x ∈ l → leastI l ≤ x
  | [a], x, h => by
    have e : x = a := by simpa using h
    rw [e]
    exact Int.le_refl _
  | a :: b :: l, x, h => by
    show (if a ≤ leastI (b :: l) then a else leastI (b :: l)) ≤ x
    rcases List.mem_cons.mp h with e | h
    · subst e
      split <;> omega
    · have := leastI_le h
      split <;> omega
theorem leastI_is {l : List Int} {m : Int} (h : m ∈ l) (q : ∀ x ∈ l, m ≤ x) : leastI l = m := by
  have h1 := leastI_le h
  have h2 := q _ (leastI_mem fun e => by rw [e] at h; simp at h)
  omega

/-- the kinds that a type accepts -/
def accL (lots : List (List Nat)) : Nat → Nat → Prop := fun r k => k ∈ lots.getD r []
/-- lots of kinds below a number -/
def WfL (nk : Nat) (lots : List (List Nat)) : Prop := ∀ r k, accL lots r k → k < nk
section
variable {lots : List (List Nat)} {stock counts : List Int}
/-- what can be left behind so many requests -/
def LeftOf (lots : List (List Nat)) (stock : List Int) (c : Nat → Int) (x : List Int) : Prop :=
  x.length = stock.length ∧ ∃ g, Tk stock.length lots.length (accL lots) (fn stock) (cnt c) allT g ∧ ∀ k, k < stock.length → fn x k = fn stock k - colS lots.length g k
theorem leftOf_step (wf : WfL stock.length lots) {c d : Nat → Int} {r : Nat} {lefts : List (List Int)} (hr : r < lots.length) (hd : ∀ j, j < lots.length → d j = c j + (if j = r then 1 else 0)) (h0 : 0 ≤ c r)
    (h : ∀ x, x ∈ lefts ↔ LeftOf lots stock c x) : ∀ x, x ∈ stepR (lots.getD r []) lefts ↔ LeftOf lots stock d x := by
  intro x
  rw [mem_stepR]
  constructor
  · rintro (z | ⟨y, hy, k, hk, hp, e⟩)
    · obtain ⟨h1, g, hg, h2⟩ := (h x).mp z
      refine ⟨h1, g, ⟨hg.nn, hg.out, hg.cap, fun j m hj hm => ?_⟩, h2⟩
      have em : m = d j := (Option.some.inj hm).symm
      have q := hg.bnd j (c j) hj rfl
      rw [em, hd j hj]
      split <;> omega
    · obtain ⟨h1, g, hg, h2⟩ := (h y).mp hy
      have hkn : k < stock.length := wf r k hk
      have hyk := h2 k hkn
      refine ⟨by rw [e, List.length_set]; exact h1, addC g r k 1, ⟨fun r' k' => ?_, fun r' k' z => ?_, fun k' hk' => ?_, fun j m hj hm => ?_⟩, fun k' hk' => ?_⟩
      · by_cases q : r' = r ∧ k' = k
        · obtain ⟨rfl, rfl⟩ := q
          rw [addC_same]
          have := hg.nn r' k'
          omega
        · rw [addC_ne _ _ q]
          exact hg.nn r' k'
      · by_cases q : r' = r ∧ k' = k
        · obtain ⟨rfl, rfl⟩ := q
          exact ⟨hr, hkn, trivial, hk⟩
        · rw [addC_ne _ _ q] at z
          exact hg.out r' k' z
      · rw [addC_col _ _ hr]
        have := hg.cap k' hk'
        by_cases q : k' = k
        · subst q
          rw [if_pos rfl]
          omega
        · rw [if_neg q]
          omega
      · have em : m = d j := (Option.some.inj hm).symm
        rw [em, hd j hj, addC_row _ _ hkn]
        have := hg.bnd j (c j) hj rfl
        split <;> omega
      · rw [e, fn_set (by omega), addC_col _ _ hr]
        by_cases q : k' = k
        · subst q
          rw [if_pos rfl, if_pos rfl, hyk]
          omega
        · rw [if_neg q, if_neg q, h2 k' hk']
          omega
  · rintro ⟨h1, g, hg, h2⟩
    by_cases q : rowS stock.length g r ≤ c r
    · refine .inl ((h x).mpr ⟨h1, g, ⟨hg.nn, hg.out, hg.cap, fun j m hj hm => ?_⟩, h2⟩)
      have em : m = c j := (Option.some.inj hm).symm
      have z := hg.bnd j (d j) hj rfl
      rw [hd j hj] at z
      rw [em]
      by_cases e : j = r
      · subst e
        exact q
      · rw [if_neg e] at z
        omega
    · right
      obtain ⟨k, hk, hp⟩ := Sg_pos (n := stock.length) (f := fun k => g r k) (by
        show 0 < rowS stock.length g r
        omega)
      obtain ⟨_, _, _, ha⟩ := hg.out r k hp
      have hkc := h2 k hk
      have hcap := hg.cap k hk
      have hxk : k < x.length := by omega
      refine ⟨x.set k (fn x k + 1), (h _).mpr ⟨by rw [List.length_set]; exact h1, addC g r k (-1), ⟨fun r' k' => ?_, fun r' k' z => ?_, fun k' hk' => ?_, fun j m hj hm => ?_⟩, fun k' hk' => ?_⟩, k, ha, ?_, ?_⟩
      · by_cases e : r' = r ∧ k' = k
        · obtain ⟨rfl, rfl⟩ := e
          rw [addC_same]
          have hp : 0 < g r' k' := hp
          omega
        · rw [addC_ne _ _ e]
          exact hg.nn r' k'
      · by_cases e : r' = r ∧ k' = k
        · obtain ⟨rfl, rfl⟩ := e
          exact hg.out r' k' hp
        · rw [addC_ne _ _ e] at z
          exact hg.out r' k' z
      · rw [addC_col _ _ hr]
        have := hg.cap k' hk'
        split <;> omega
      · have em : m = c j := (Option.some.inj hm).symm
        have z := hg.bnd j (d j) hj rfl
        rw [hd j hj] at z
        rw [em, addC_row _ _ hk]
        by_cases e : j = r
        · rw [if_pos e] at z ⊢
          omega
        · rw [if_neg e] at z ⊢
          omega
      · rw [fn_set hxk, addC_col _ _ hr]
        by_cases e : k' = k
        · subst e
          rw [if_pos rfl, if_pos rfl, hkc]
          omega
        · rw [if_neg e, if_neg e, h2 k' hk']
          omega
      · rw [fn_set hxk, if_pos rfl]
        have q1 := Sg_term (f := fun r => g r k) (n := lots.length) (fun r _ => hg.nn r k) hr
        have q1 : g r k ≤ colS lots.length g k := q1
        have hcap : colS lots.length g k ≤ fn stock k := hcap
        omega
      · rw [fn_set hxk, if_pos rfl, List.set_set]
        refine fn_ext (by rw [List.length_set]) fun j hj => ?_
        rw [fn_set hxk]
        by_cases e : j = k
        · subst e
          rw [if_pos rfl]
          omega
        · rw [if_neg e]
/-- counts up to a type -/
def upto (counts : List Int) (n : Nat) (t : Int) : Nat → Int := fun j => if j < n then fn counts j else if j = n then t else 0
theorem leftsTo_mem (wf : WfL stock.length lots) (hs : ∀ k, 0 ≤ fn stock k) (h0 : ∀ r, 0 ≤ fn counts r) : ∀ n, n ≤ lots.length → ∀ x, x ∈ leftsTo lots stock counts n ↔ LeftOf lots stock (upto counts n 0) x
  | 0, _, x => by
    show x ∈ [stock] ↔ _
    rw [List.mem_singleton]
    constructor
    · rintro rfl
      refine ⟨rfl, noT, noT_tk (fun k _ => hs k) fun r m _ hm => ?_, fun k _ => ?_⟩
      · have em : m = upto counts 0 0 r := (Option.some.inj hm).symm
        rw [em]
        unfold upto
        rw [if_neg (by omega)]
        split <;> omega
      · rw [show colS lots.length noT k = 0 from Sg_zero fun _ _ => rfl]
        omega
    · rintro ⟨h1, g, hg, h2⟩
      refine fn_ext h1 fun k hk => ?_
      rw [h2 k (by omega), show colS lots.length g k = 0 from Sg_zero fun r hr => ?_]
      · omega
      · have z := hg.bnd r (upto counts 0 0 r) hr rfl
        have e : upto counts 0 0 r = 0 := by
          unfold upto
          rw [if_neg (by omega)]
          split <;> rfl
        rw [e] at z
        have q1 := Sg_term (f := fun k => g r k) (n := stock.length) (fun k _ => hg.nn r k) (i := k) (by omega)
        have q1 : g r k ≤ rowS stock.length g r := q1
        have := hg.nn r k
        omega
  | n + 1, hn, x => by
    have ih := leftsTo_mem wf hs h0 n (by omega)
    have turn : ∀ t : Nat, ∀ x, x ∈ stepN (lots.getD n []) t (leftsTo lots stock counts n) ↔ LeftOf lots stock (upto counts n t) x := by
      intro t
      induction t with
      | zero => exact ih
      | succ t iht =>
        refine leftOf_step wf (r := n) (by omega) (fun j hj => ?_) ?_ iht
        · unfold upto
          by_cases e : j < n
          · rw [if_pos e, if_pos e, if_neg (by omega)]
            omega
          · rw [if_neg e, if_neg e]
            by_cases q : j = n
            · rw [if_pos q, if_pos q, if_pos q]
              rfl
            · rw [if_neg q, if_neg q, if_neg q]
              rfl
        · unfold upto
          rw [if_neg (by omega), if_pos rfl]
          omega
    show x ∈ stepN (lots.getD n []) (fn counts n).toNat (leftsTo lots stock counts n) ↔ _
    rw [turn]
    have e : ∀ j, j < lots.length → upto counts n ((fn counts n).toNat : Int) j = upto counts (n + 1) 0 j := fun j _ => by
      unfold upto
      by_cases e : j < n
      · rw [if_pos e, if_pos (by omega)]
      · rw [if_neg e]
        by_cases q : j = n
        · subst q
          rw [if_pos rfl, if_pos (by omega), Int.toNat_of_nonneg (h0 j)]
        · rw [if_neg q, if_neg (by omega)]
          split <;> rfl
    constructor
    · rintro ⟨h1, g, hg, h2⟩
      exact ⟨h1, g, ⟨hg.nn, hg.out, hg.cap, fun j m hj hm => hg.bnd j m hj (by rw [show cnt (upto counts n ((fn counts n).toNat : Int)) j = some _ from rfl, e j hj]; exact hm)⟩, h2⟩
    · rintro ⟨h1, g, hg, h2⟩
      exact ⟨h1, g, ⟨hg.nn, hg.out, hg.cap, fun j m hj hm => hg.bnd j m hj (by rw [show cnt (upto counts (n + 1) 0) j = some _ from rfl, ← e j hj]; exact hm)⟩, h2⟩
/-- THE MOST SERVED, by trying: what a greatest taking takes -/
theorem msv_is (wf : WfL stock.length lots) (hs : ∀ k, 0 ≤ fn stock k) (h0 : ∀ r, 0 ≤ fn counts r) : msv lots stock counts = mx stock.length lots.length (accL lots) (fn stock) (cnt (fn counts)) allT := by
  have mem := leftsTo_mem (lots := lots) (counts := counts) wf hs h0 lots.length (Nat.le_refl _)
  have same : ∀ j, j < lots.length → upto counts lots.length 0 j = fn counts j := fun j hj => by unfold upto; rw [if_pos hj]
  have z : Tk stock.length lots.length (accL lots) (fn stock) (cnt (fn counts)) allT noT := noT_tk (fun k _ => hs k) fun r m _ hm => by
    have em : m = fn counts r := (Option.some.inj hm).symm
    rw [em]
    exact h0 r
  obtain ⟨g, hg, _⟩ := z.mx_ex
  rw [hg.mx_eq]
  have sumOf : ∀ (x : List Int) (f : Nat → Nat → Int), x.length = stock.length → (∀ k, k < stock.length → fn x k = fn stock k - colS lots.length f k) → x.sum = stock.sum - val stock.length lots.length f := fun x f h1 h2 => by
    rw [← sum_fn x, ← sum_fn stock, val_cols, ← Sg_sub, h1]
    exact Sg_congr h2
  have least : leastI ((leftsTo lots stock counts lots.length).map List.sum) = stock.sum - val stock.length lots.length g := by
    refine leastI_is (List.mem_map.mpr ⟨tab stock.length fun k => fn stock k - colS lots.length g k, (mem _).mpr ⟨tab_length _ _, g, ⟨hg.tk.nn, hg.tk.out, hg.tk.cap, fun j m hj hm => ?_⟩, fun k hk => fn_tab hk⟩, ?_⟩) fun s hsum => ?_
    · refine hg.tk.bnd j m hj ?_
      rw [← hm]
      show some _ = some _
      rw [same j hj]
    · exact sumOf _ g (tab_length _ _) fun k hk => fn_tab hk
    · obtain ⟨x, hx, rfl⟩ := List.mem_map.mp hsum
      obtain ⟨h1, f, hf, h2⟩ := (mem x).mp hx
      rw [sumOf x f h1 h2]
      have := hg.most (g := f) ⟨hf.nn, hf.out, hf.cap, fun j m hj hm => hf.bnd j m hj (by
        rw [← hm]
        show some _ = some _
        rw [same j hj])⟩
      omega
  unfold msv
  rw [least]
  omega
end
end K45
/-! All rows within the bounds, fewer requests first, then ascending; the first one of them. -/
namespace K45

def bnf (bl : List (Option Int)) : Nat → Option Int := fun r => bl.getD r none
def okR (bl : List (Option Int)) (row : List Nat) (t : Nat) : Bool := match bnf bl t with
  | none => true
  | some m => decide ((row.count t : Int) < m)
/-- the last request, 0 for a row without any -/
def lastO (row : List Nat) : Nat := row.getLast?.getD 0
def extR (bl : List (Option Int)) (row : List Nat) : List (List Nat) := ((List.range' (lastO row) (bl.length - lastO row)).filter (okR bl row)).map fun t => row ++ [t]
def layerR (bl : List (Option Int)) : Nat → List (List Nat)
  | 0 => [[]]
  | n + 1 => (layerR bl n).flatMap (extR bl)
def rowsTo (bl : List (Option Int)) : Nat → List (List Nat)
  | 0 => [[]]
  | n + 1 => rowsTo bl n ++ layerR bl (n + 1)

/-- ascending, of types, within the bounds -/
structure InB (bl : List (Option Int)) (R : List Nat) : Prop where
  asc : R.Pairwise (· ≤ ·)
  ty : ∀ r ∈ R, r < bl.length
  bd : ∀ r m, bnf bl r = some m → (R.count r : Int) ≤ m

theorem lastO_concat (row : List Nat) (t : Nat) : lastO (row ++ [t]) = t := by
  unfold lastO
  rw [List.getLast?_concat]
  rfl
theorem le_lastO {row : List Nat} (h : row.Pairwise (· ≤ ·)) : ∀ r ∈ row, r ≤ lastO row := by
  intro r hr
  rcases List.eq_nil_or_concat row with e | ⟨p, t, e⟩
  · rw [e] at hr
    cases hr
  · rw [List.concat_eq_append] at e
    rw [e, lastO_concat]
    rw [e] at hr h
    rcases List.mem_append.mp hr with q | q
    · exact (List.pairwise_append.mp h).2.2 r q t (by simp)
    · have : r = t := by simpa using q
      omega
theorem lastO_le {p : List Nat} {t : Nat} (h : (p ++ [t]).Pairwise (· ≤ ·)) : lastO p ≤ t := by
  rcases List.eq_nil_or_concat p with e | ⟨p', t', e⟩
  · rw [e]
    exact Nat.zero_le _
  · rw [List.concat_eq_append] at e
    rw [e, lastO_concat]
    rw [e] at h
    exact (List.pairwise_append.mp h).2.2 t' (by simp) t (by simp)
theorem mem_extR {bl : List (Option Int)} {row x : List Nat} : x ∈ extR bl row ↔ ∃ t, lastO row ≤ t ∧ t < bl.length ∧ okR bl row t = true ∧ x = row ++ [t] := by
  unfold extR
  rw [List.mem_map]
  constructor
  · rintro ⟨t, ht, rfl⟩
    rw [List.mem_filter, List.mem_range'_1] at ht
    exact ⟨t, ht.1.1, by omega, ht.2, rfl⟩
  · rintro ⟨t, h1, h2, h3, rfl⟩
    exact ⟨t, by rw [List.mem_filter, List.mem_range'_1]; exact ⟨⟨h1, by omega⟩, h3⟩, rfl⟩
theorem mem_layerR {bl : List (Option Int)} (hb : ∀ r m, bnf bl r = some m → 0 ≤ m) : ∀ {n : Nat} {x : List Nat}, x ∈ layerR bl n ↔ x.length = n ∧ InB bl x
  | 0, x => by
    show x ∈ [[]] ↔ _
    rw [List.mem_singleton]
    constructor
    · rintro rfl
      exact ⟨rfl, List.Pairwise.nil, fun r hr => (by cases hr), fun r m hm => by
        have := hb r m hm
        simpa using this⟩
    · rintro ⟨h, _⟩
      exact List.length_eq_zero_iff.mp h
  | n + 1, x => by
    show x ∈ (layerR bl n).flatMap (extR bl) ↔ _
    rw [List.mem_flatMap]
    constructor
    · rintro ⟨row, hrow, hx⟩
      obtain ⟨hl, hi⟩ := (mem_layerR hb).mp hrow
      obtain ⟨t, h1, h2, h3, rfl⟩ := mem_extR.mp hx
      refine ⟨by rw [List.length_append, hl]; rfl, List.pairwise_append.mpr ⟨hi.asc, by simp, fun a ha c hc => ?_⟩, fun r hr => ?_, fun r m hm => ?_⟩
      · have e : c = t := by simpa using hc
        have := le_lastO hi.asc a ha
        omega
      · rcases List.mem_append.mp hr with q | q
        · exact hi.ty r q
        · have e : r = t := by simpa using q
          omega
      · rw [List.count_append]
        have q := hi.bd r m hm
        by_cases e : t = r
        · subst e
          unfold okR at h3
          rw [hm] at h3
          have h3 : decide ((row.count t : Int) < m) = true := h3
          have := of_decide_eq_true h3
          rw [List.count_singleton_self]
          omega
        · have z0 : [t].count r = 0 := List.count_eq_zero.mpr (by rw [List.mem_singleton]; exact fun z => e z.symm)
          rw [z0]
          omega
    · rintro ⟨hl, hi⟩
      rcases List.eq_nil_or_concat x with e | ⟨row, t, e⟩
      · rw [e] at hl
        simp at hl
      · rw [List.concat_eq_append] at e
        subst e
        have hp := List.pairwise_append.mp hi.asc
        have cnt1 : ∀ r m, bnf bl r = some m → (row.count r : Int) ≤ m := fun r m hm => by
          have := hi.bd r m hm
          rw [List.count_append] at this
          omega
        refine ⟨row, (mem_layerR hb).mpr ⟨by rw [List.length_append] at hl; simpa using hl, hp.1, fun r hr => hi.ty r (List.mem_append_left _ hr), cnt1⟩, mem_extR.mpr ⟨t, lastO_le hi.asc, hi.ty t (by simp), ?_, rfl⟩⟩
        unfold okR
        cases hm : bnf bl t with
        | none => rfl
        | some m =>
          have := hi.bd t m hm
          rw [List.count_append, List.count_singleton_self] at this
          show decide ((row.count t : Int) < m) = true
          exact decide_eq_true (by omega)
theorem ltL_ext {x y : List Nat} (a c : List Nat) (h : ltL x y = true) (hl : x.length = y.length) : ltL (x ++ a) (y ++ c) = true := by
  induction x generalizing y with
  | nil =>
    cases y with
    | nil => cases h
    | cons _ _ => simp at hl
  | cons p x ih =>
    cases y with
    | nil => cases h
    | cons q y =>
      rw [List.cons_append, List.cons_append]
      rw [ltL_cons] at h ⊢
      rcases h with h | ⟨h1, h2⟩
      · exact .inl h
      · exact .inr ⟨h1, ih h2 (by simpa using hl)⟩
theorem extR_sorted (bl : List (Option Int)) (row : List Nat) : (extR bl row).Pairwise (fun x y => ltL x y = true) := by
  unfold extR
  rw [List.pairwise_map]
  refine (List.pairwise_lt_range' (s := lastO row) (n := bl.length - lastO row)).filter _ |>.imp fun {a c} h => ?_
  rw [ltL_app, ltL_cons]
  exact .inl h
theorem flatMap_sorted {α : Type} {P : α → α → Prop} {f : α → List α} : ∀ {l : List α}, (∀ x ∈ l, (f x).Pairwise P) → l.Pairwise (fun x y => ∀ a ∈ f x, ∀ c ∈ f y, P a c) → (l.flatMap f).Pairwise P
  | [], _, _ => List.Pairwise.nil
  | x :: l, h1, h2 => by
    rw [List.pairwise_cons] at h2
    rw [List.flatMap_cons, List.pairwise_append]
    refine ⟨h1 x List.mem_cons_self, flatMap_sorted (fun y hy => h1 y (List.mem_cons_of_mem _ hy)) h2.2, fun a ha c hc => ?_⟩
    obtain ⟨y, hy, hc⟩ := List.mem_flatMap.mp hc
    exact h2.1 y hy a ha c hc
theorem layerR_sorted {bl : List (Option Int)} (hb : ∀ r m, bnf bl r = some m → 0 ≤ m) : ∀ n, (layerR bl n).Pairwise (fun x y => ltL x y = true)
  | 0 => by simp [layerR]
  | n + 1 => by
    refine flatMap_sorted (fun x _ => extR_sorted bl x) ?_
    refine (List.Pairwise.and_mem.mp (layerR_sorted hb n)).imp fun {x y} h a ha c hc => ?_
    obtain ⟨hx, hy, h⟩ := h
    obtain ⟨_, _, _, _, rfl⟩ := mem_extR.mp ha
    obtain ⟨_, _, _, _, rfl⟩ := mem_extR.mp hc
    exact ltL_ext _ _ h (((mem_layerR hb).mp hx).1.trans ((mem_layerR hb).mp hy).1.symm)
/-- a row that is first: with fewer requests, or with as many and not greater -/
def fst_ (R R' : List Nat) : Prop := R.length < R'.length ∨ (R.length = R'.length ∧ ltL R' R = false)
theorem find_sorted {p : List Nat → Bool} : ∀ {l : List (List Nat)} {R : List Nat}, l.Pairwise (fun x y => ltL x y = true) → l.find? p = some R → ∀ R' ∈ l, p R' = true → ltL R' R = false
  | x :: l, R, hs, hf, R', hm, hp => by
    rw [List.pairwise_cons] at hs
    rw [List.find?_cons] at hf
    cases q : p x with
    | true =>
      rw [q] at hf
      have e : x = R := Option.some.inj hf
      subst e
      rcases List.mem_cons.mp hm with e | hm
      · subst e
        exact ltL_irr _
      · exact ltL_asymm (hs.1 R' hm)
    | false =>
      rw [q] at hf
      rcases List.mem_cons.mp hm with e | hm
      · subst e
        rw [q] at hp
        cases hp
      · exact find_sorted hs.2 hf R' hm hp
theorem rows_first {bl : List (Option Int)} (hb : ∀ r m, bnf bl r = some m → 0 ≤ m) (p : List Nat → Bool) : ∀ n,
    (∀ R, (rowsTo bl n).find? p = some R → InB bl R ∧ R.length ≤ n ∧ p R = true ∧ ∀ R', InB bl R' → p R' = true → fst_ R R') ∧
    ((rowsTo bl n).find? p = none → ∀ R', InB bl R' → R'.length ≤ n → p R' = false)
  | 0 => by
    have hnil : InB bl [] := ((mem_layerR hb (n := 0) (x := [])).mp (by simp [layerR])).2
    constructor
    · intro R h
      have h : ([[]] : List (List Nat)).find? p = some R := h
      rw [List.find?_cons] at h
      cases q : p [] with
      | false => rw [q] at h; cases h
      | true =>
        rw [q] at h
        have e : [] = R := Option.some.inj h
        subst e
        refine ⟨hnil, Nat.le_refl _, q, fun R' _ _ => ?_⟩
        cases R' with
        | nil => exact .inr ⟨rfl, rfl⟩
        | cons a x => exact .inl (by simp)
    · intro h R' _ hl
      have e : R' = [] := List.length_eq_zero_iff.mp (by omega)
      subst e
      have h : ([[]] : List (List Nat)).find? p = none := h
      rw [List.find?_cons] at h
      cases q : p [] with
      | false => rfl
      | true => rw [q] at h; cases h
  | n + 1 => by
    obtain ⟨h1, h2⟩ := rows_first hb p n
    have e : (rowsTo bl (n + 1)).find? p = ((rowsTo bl n).find? p).or ((layerR bl (n + 1)).find? p) := List.find?_append
    constructor
    · intro R h
      rw [e] at h
      cases q : (rowsTo bl n).find? p with
      | some R0 =>
        rw [q] at h
        have e : R0 = R := Option.some.inj h
        subst e
        obtain ⟨a1, a2, a3, a4⟩ := h1 R0 q
        exact ⟨a1, by omega, a3, a4⟩
      | none =>
        rw [q, Option.none_or] at h
        have hm := List.mem_of_find?_eq_some h
        obtain ⟨a1, a2⟩ := (mem_layerR hb).mp hm
        refine ⟨a2, by omega, List.find?_some h, fun R' i' p' => ?_⟩
        by_cases z : R'.length ≤ n
        · rw [h2 q R' i' z] at p'
          cases p'
        · by_cases z' : R'.length = n + 1
          · exact .inr ⟨by omega, find_sorted (layerR_sorted hb (n + 1)) h R' ((mem_layerR hb).mpr ⟨z', i'⟩) p'⟩
          · exact .inl (by omega)
    · intro h R' i' hl
      rw [e] at h
      cases q : (rowsTo bl n).find? p with
      | some R0 => rw [q] at h; cases h
      | none =>
        rw [q, Option.none_or] at h
        by_cases z : R'.length ≤ n
        · exact h2 q R' i' z
        · have := List.find?_eq_none.mp h R' ((mem_layerR hb).mpr ⟨by omega, i'⟩)
          simpa using this
end K45
/-! What the program finds: small full lots, the least row; it is what trying finds. -/
namespace K45
/-! ### the program's functions on plain lists -/
/-- the kinds that some types accept -/
def kot (nk : Nat) (lots : List (List Nat)) (l : List Nat) : List Nat := (List.range nk).filter fun k => l.any fun r => (lots.getD r []).contains k
def unitsL (stock : List Int) (ks : List Nat) : Int := (ks.map (fn stock)).sum
/-- the types that accept nothing but some kinds -/
def tw (lots : List (List Nat)) (ks : List Nat) : List Nat := (List.range lots.length).filter fun r => (lots.getD r []).all fun k => ks.contains k
/-- the types that do not accept a kind -/
def two (lots : List (List Nat)) (k : Nat) : List Nat := (List.range lots.length).filter fun r => !(lots.getD r []).contains k
abbrev FullL (lots : List (List Nat)) (stock : List Int) (bl : List (Option Int)) (L : Nat → Prop) : Prop := Full stock.length lots.length (accL lots) (fn stock) (bnf bl) L
open Classical in
/-- the greatest full lot within a lot -/
noncomputable def gw (lots : List (List Nat)) (stock : List Int) (bl : List (Option Int)) (l : List Nat) : List Nat :=
  l.filter fun r => decide (∃ L : Nat → Prop, (∀ r, L r → r ∈ l) ∧ FullL lots stock bl L ∧ L r)
/-- all lots of kinds with one kind and without another one -/
def lotsW (one other : Nat) : Nat → List (List Nat)
  | 0 => [[]]
  | n + 1 => if n = one then (lotsW one other n).map (fun l => l ++ [n]) else if n ≠ other then lotsW one other n ++ (lotsW one other n).map (fun l => l ++ [n]) else lotsW one other n
noncomputable def sflStep (lots : List (List Nat)) (stock : List Int) (bl : List (Option Int)) (one : Nat) (st : Option Int × List (List Nat)) (ks : List Nat) : Option Int × List (List Nat) :=
  let lot := gw lots stock bl (tw lots ks)
  let some_ := kot stock.length lots lot
  let u := unitsL stock some_
  if one ∈ some_ ∧ (∀ m, st.1 = some m → u ≤ m) then (some u, if (∀ m, st.1 = some m → u < m) then [lot] else st.2 ++ [lot]) else st
noncomputable def sfl (lots : List (List Nat)) (stock : List Int) (bl : List (Option Int)) (one other : Nat) : Option Int × List (List Nat) :=
  (lotsW one other stock.length).foldl (sflStep lots stock bl one) (none, [])
/-- whether a kind is safe against another one -/
noncomputable def safeL (lots : List (List Nat)) (stock : List Int) (bl : List (Option Int)) (one other : Nat) : Bool :=
  !((kot stock.length lots (gw lots stock bl (two lots other))).filter fun k => decide (0 < fn stock k)).contains one
noncomputable def fewest (lots : List (List Nat)) (stock : List Int) (bl : List (Option Int)) (one other : Nat) : Option Int :=
  if safeL lots stock bl one other = true then none else (sfl lots stock bl one other).1
noncomputable def rkL (lots : List (List Nat)) (stock : List Int) (bl : List (Option Int)) (l : List Nat) (i : Nat) : Int := rk stock.length lots.length (accL lots) (fn stock) (bnf bl) l i
/-- the least row of a full lot -/
noncomputable def lfr (lots : List (List Nat)) (stock : List Int) (bl : List (Option Int)) (l : List Nat) : List Nat :=
  (List.range l.length).flatMap fun i => List.replicate (rkL lots stock bl l (i + 1) - rkL lots stock bl l i).toNat (l.getD i 0)
def minL : List (List Nat) → List Nat
  | [] => []
  | x :: l => l.foldl (fun best y => if ltL y best = true then y else best) x
noncomputable def lrr (lots : List (List Nat)) (stock : List Int) (bl : List (Option Int)) (one other : Nat) : Option (List Nat) :=
  if fewest lots stock bl one other = none then none else some (minL ((sfl lots stock bl one other).2.map (lfr lots stock bl)))

/-! ### by trying -/
def cntL (nt : Nat) (row : List Nat) : List Int := (List.range nt).map fun r => (row.count r : Int)
def lessL (stock : List Int) (k : Nat) : List Int := stock.set k (fn stock k - 1)
def tellsL (lots : List (List Nat)) (stock : List Int) (one other : Nat) (row : List Nat) : Bool :=
  decide (msv lots (lessL stock one) (cntL lots.length row) < msv lots (lessL stock other) (cntL lots.length row))
def firstL (lots : List (List Nat)) (stock : List Int) (bl : List (Option Int)) (one other n : Nat) : Option (List Nat) := (rowsTo bl n).find? (tellsL lots stock one other)

/-! ### the case -/
/-- a table's lots, a stock and bounds for it -/
structure Case (lots : List (List Nat)) (stock : List Int) (bl : List (Option Int)) : Prop where
  wf : WfL stock.length lots
  st : ∀ k, 0 ≤ fn stock k
  bn : ∀ r m, bnf bl r = some m → 0 ≤ m
  len : bl.length = lots.length

section
variable {lots : List (List Nat)} {stock : List Int} {bl : List (Option Int)} {one other : Nat}

theorem fn_less {k : Nat} (h : k < stock.length) : fn (lessL stock k) = less (fn stock) k := by
  funext j
  unfold lessL less
  rw [fn_set h]
  split
  · rename_i e
    rw [e]
  · rfl
theorem fn_cntL {nt : Nat} {row : List Nat} {r : Nat} (h : r < nt) : fn (cntL nt row) r = (row.count r : Int) := fn_tab (f := fun r => (row.count r : Int)) h
theorem mx_congr {nk nt : Nat} {acc : Nat → Nat → Prop} {S S' : Nat → Int} {b b' : Nat → Option Int} {T : Nat → Prop} (hS : ∀ k, k < nk → S k = S' k) (hb : ∀ r, r < nt → b r = b' r) : mx nk nt acc S b T = mx nk nt acc S' b' T := by
  have tk : ∀ {S S' : Nat → Int} {b b' : Nat → Option Int} {f}, (∀ k, k < nk → S k = S' k) → (∀ r, r < nt → b r = b' r) → Tk nk nt acc S b T f → Tk nk nt acc S' b' T f := fun hS hb h =>
    ⟨h.nn, h.out, fun k hk => hS k hk ▸ h.cap k hk, fun r m hr hm => h.bnd r m hr (by rw [hb r hr]; exact hm)⟩
  by_cases e : ∃ f, Mx nk nt acc S b T f
  · obtain ⟨f, hf⟩ := e
    rw [hf.mx_eq]
    exact (mx_is (tk hS hb hf.tk) fun g hg => hf.most (tk (fun k hk => (hS k hk).symm) (fun r hr => (hb r hr).symm) hg)).symm
  · have e' : ¬ ∃ f, Mx nk nt acc S' b' T f := fun ⟨f, hf⟩ => e (by
      obtain ⟨g, hg, _⟩ := (tk (fun k hk => (hS k hk).symm) (fun r hr => (hb r hr).symm) hf.tk).mx_ex
      exact ⟨g, hg⟩)
    unfold mx
    rw [dif_neg e, dif_neg e']
/-- what trying says of a row is what is meant -/
theorem tellsL_iff (h : Case lots stock bl) (h1 : one < stock.length) (h2 : other < stock.length) (s1 : 1 ≤ fn stock one) (s2 : 1 ≤ fn stock other) (row : List Nat) :
    tellsL lots stock one other row = true ↔ Tells stock.length lots.length (accL lots) (fn stock) one other (fun r => (row.count r : Int)) := by
  have nn : ∀ x, x < stock.length → 1 ≤ fn stock x → ∀ k, 0 ≤ fn (lessL stock x) k := fun x hx sx k => by
    rw [fn_less hx]
    by_cases e : k = x
    · subst e
      rw [less_same]
      omega
    · rw [less_ne _ e]
      exact h.st k
  have n0 : ∀ r, 0 ≤ fn (cntL lots.length row) r := fun r => by
    by_cases e : r < lots.length
    · rw [fn_cntL e]
      omega
    · rw [fn_out (by
        show (tab lots.length _).length ≤ r
        rw [tab_length]
        omega)]
      exact Int.le_refl _
  have len : ∀ x, (lessL stock x).length = stock.length := fun x => List.length_set
  have each : ∀ x, x < stock.length → 1 ≤ fn stock x → msv lots (lessL stock x) (cntL lots.length row) = mx stock.length lots.length (accL lots) (less (fn stock) x) (cnt fun r => (row.count r : Int)) allT := fun x hx sx => by
    rw [msv_is (by rw [len]; exact h.wf) (nn x hx sx) n0, len, fn_less hx]
    exact mx_congr (fun _ _ => rfl) fun r hr => by
      show some _ = some _
      rw [fn_cntL hr]
  unfold tellsL Tells
  rw [each one h1 s1, each other h2 s2]
  exact decide_eq_true_iff

/-! ### kinds, types, the greatest full lot -/
theorem mem_kot {l : List Nat} {k : Nat} (hl : ∀ r ∈ l, r < lots.length) (wf : WfL stock.length lots) : k ∈ kot stock.length lots l ↔ NB lots.length (accL lots) (isIn l) k := by
  unfold kot
  rw [List.mem_filter, List.mem_range, List.any_eq_true]
  constructor
  · rintro ⟨_, r, hr, hk⟩
    exact ⟨r, hl r hr, hr, List.contains_iff_mem.mp hk⟩
  · rintro ⟨r, _, hr, hk⟩
    exact ⟨wf r k hk, r, hr, List.contains_iff_mem.mpr hk⟩
theorem Sg_range (p : Nat → Prop) [DecidablePred p] (f : Nat → Int) : ∀ n, (((List.range n).filter fun k => decide (p k)).map f).sum = Sg n fun k => on (p k) (f k)
  | 0 => rfl
  | n + 1 => by
    rw [List.range_succ, List.filter_append, List.map_append, List.sum_append, Sg_range p f n]
    show _ = Sg n (fun k => on (p k) (f k)) + on (p n) (f n)
    by_cases e : p n
    · have z : [n].filter (fun k => decide (p k)) = [n] := by simp [e]
      rw [on_yes e, z, List.map_singleton, List.sum_singleton]
    · have z : [n].filter (fun k => decide (p k)) = [] := by simp [e]
      rw [on_no e, z]
      rfl
theorem unitsL_kot {l : List Nat} (hl : ∀ r ∈ l, r < lots.length) (wf : WfL stock.length lots) : unitsL stock (kot stock.length lots l) = units stock.length lots.length (accL lots) (fn stock) (isIn l) := by
  unfold unitsL kot
  have e : ((List.range stock.length).filter fun k => l.any fun r => (lots.getD r []).contains k) = (List.range stock.length).filter fun k => decide ((l.any fun r => (lots.getD r []).contains k) = true) := by
    congr 1
    funext k
    cases (l.any fun r => (lots.getD r []).contains k) <;> rfl
  rw [e, Sg_range]
  refine Sg_congr fun k hk => ?_
  have q := mem_kot (stock := stock) (k := k) hl wf
  unfold kot at q
  rw [List.mem_filter, List.mem_range] at q
  by_cases z : (l.any fun r => (lots.getD r []).contains k) = true
  · rw [on_yes z, on_yes (q.mp ⟨hk, z⟩)]
  · rw [on_no z, on_no fun n => z (q.mpr n).2]
theorem gw_sub {l : List Nat} : ∀ r ∈ gw lots stock bl l, r ∈ l := fun r hr => (List.mem_filter.mp hr).1
theorem mem_gw {l : List Nat} {r : Nat} : r ∈ gw lots stock bl l ↔ ∃ L : Nat → Prop, (∀ r, L r → r ∈ l) ∧ FullL lots stock bl L ∧ L r := by
  unfold gw
  rw [List.mem_filter]
  constructor
  · intro h
    simpa using h.2
  · rintro ⟨L, h1, h2, h3⟩
    exact ⟨h1 r h3, by simpa using ⟨L, h1, h2, h3⟩⟩
/-- a greatest taking tells it -/
theorem gw_rest {l : List Nat} {f : Nat → Nat → Int} (hl : ∀ r ∈ l, r < lots.length) (h : Mx stock.length lots.length (accL lots) (fn stock) (bnf bl) (isIn l) f) {r : Nat} : r ∈ gw lots stock bl l ↔ Rest stock.length lots.length (accL lots) (fn stock) (isIn l) f r := by
  rw [mem_gw]
  constructor
  · rintro ⟨L, h1, h2, h3⟩
    exact h.rest_all (L := L) h1 h2 r (hl r (h1 r h3)) h3
  · intro hr
    exact ⟨_, fun r hr => hr.1, Mx.rest_full h.tk, hr⟩
theorem mx_in (h : Case lots stock bl) (l : List Nat) : ∃ f, Mx stock.length lots.length (accL lots) (fn stock) (bnf bl) (isIn l) f := by
  obtain ⟨f, hf, _⟩ := (noT_tk (nk := stock.length) (nt := lots.length) (acc := accL lots) (S := fn stock) (b := bnf bl) (T := isIn l) (fun k _ => h.st k) fun r m _ hm => h.bn r m hm).mx_ex
  exact ⟨f, hf⟩
theorem full_congr {L L' : Nat → Prop} (e : ∀ r, L r ↔ L' r) (h : FullL lots stock bl L) : FullL lots stock bl L' := by
  have q : L = L' := funext fun r => propext (e r)
  rw [← q]
  exact h
theorem gw_full (h : Case lots stock bl) {l : List Nat} (hl : ∀ r ∈ l, r < lots.length) : FullL lots stock bl (isIn (gw lots stock bl l)) := by
  obtain ⟨f, hf⟩ := mx_in h l
  exact full_congr (fun r => (gw_rest hl hf).symm) (Mx.rest_full hf.tk)
theorem NB_mono {L L' : Nat → Prop} {k : Nat} (h : NB lots.length (accL lots) L k) (q : ∀ r, r < lots.length → L r → L' r) : NB lots.length (accL lots) L' k :=
  let ⟨r, a, c, d⟩ := h
  ⟨r, a, q r a c, d⟩

/-! ### the lots of kinds -/
theorem lotsW_mem (ne : one ≠ other) : ∀ {n : Nat} {ks : List Nat}, ks ∈ lotsW one other n → (∀ k ∈ ks, k < n) ∧ other ∉ ks
  | 0, ks, h => by
    have e : ks = [] := by simpa [lotsW] using h
    rw [e]
    simp
  | n + 1, ks, h => by
    unfold lotsW at h
    have app : ∀ {ks : List Nat}, n ≠ other → ks ∈ (lotsW one other n).map (fun l => l ++ [n]) → (∀ k ∈ ks, k < n + 1) ∧ other ∉ ks := fun {ks} hn h => by
      obtain ⟨l, hl, rfl⟩ := List.mem_map.mp h
      obtain ⟨h1, h2⟩ := lotsW_mem ne hl
      refine ⟨fun k hk => ?_, fun z => ?_⟩
      · rcases List.mem_append.mp hk with q | q
        · have := h1 k q
          omega
        · have : k = n := by simpa using q
          omega
      · rcases List.mem_append.mp z with q | q
        · exact h2 q
        · have : other = n := by simpa using q
          exact hn this.symm
    by_cases e : n = one
    · rw [if_pos e] at h
      exact app (by omega) h
    · rw [if_neg e] at h
      by_cases e' : n ≠ other
      · rw [if_pos e'] at h
        rcases List.mem_append.mp h with q | q
        · obtain ⟨h1, h2⟩ := lotsW_mem ne q
          exact ⟨fun k hk => by have := h1 k hk; omega, h2⟩
        · exact app e' q
      · rw [if_neg e'] at h
        obtain ⟨h1, h2⟩ := lotsW_mem ne h
        exact ⟨fun k hk => by have := h1 k hk; omega, h2⟩
theorem lotsW_has {p : Nat → Bool} (h1 : p one = true) (h2 : p other = false) : ∀ n, (List.range n).filter p ∈ lotsW one other n
  | 0 => by simp [lotsW]
  | n + 1 => by
    have ih := lotsW_has h1 h2 n
    rw [List.range_succ, List.filter_append]
    unfold lotsW
    by_cases e : n = one
    · rw [if_pos e]
      have : [n].filter p = [n] := by rw [e]; simp [h1]
      rw [this]
      exact List.mem_map.mpr ⟨_, ih, rfl⟩
    · rw [if_neg e]
      by_cases e' : n ≠ other
      · rw [if_pos e']
        cases q : p n with
        | true =>
          have : [n].filter p = [n] := by simp [q]
          rw [this]
          exact List.mem_append_right _ (List.mem_map.mpr ⟨_, ih, rfl⟩)
        | false =>
          have : [n].filter p = [] := by simp [q]
          rw [this, List.append_nil]
          exact List.mem_append_left _ ih
      · rw [if_neg e']
        have e2 : n = other := by omega
        have : [n].filter p = [] := by rw [e2]; simp [h2]
        rw [this, List.append_nil]
        exact ih

/-! ### the lots with the fewest units -/
theorem sflStep_is (st : Option Int × List (List Nat)) (ks : List Nat) : sflStep lots stock bl one st ks =
    if one ∈ kot stock.length lots (gw lots stock bl (tw lots ks)) ∧ (∀ m, st.1 = some m → unitsL stock (kot stock.length lots (gw lots stock bl (tw lots ks))) ≤ m) then
      (some (unitsL stock (kot stock.length lots (gw lots stock bl (tw lots ks)))), if (∀ m, st.1 = some m → unitsL stock (kot stock.length lots (gw lots stock bl (tw lots ks))) < m) then [gw lots stock bl (tw lots ks)] else st.2 ++ [gw lots stock bl (tw lots ks)])
    else st := rfl
/-- the lot that is told for some kinds, its units, whether it counts -/
noncomputable abbrev lotK (lots : List (List Nat)) (stock : List Int) (bl : List (Option Int)) (ks : List Nat) : List Nat := gw lots stock bl (tw lots ks)
noncomputable abbrev unK (lots : List (List Nat)) (stock : List Int) (bl : List (Option Int)) (ks : List Nat) : Int := unitsL stock (kot stock.length lots (lotK lots stock bl ks))
abbrev goodK (lots : List (List Nat)) (stock : List Int) (bl : List (Option Int)) (one : Nat) (ks : List Nat) : Prop := one ∈ kot stock.length lots (lotK lots stock bl ks)
/-- what is found behind some of the lots of kinds -/
structure SflOk (lots : List (List Nat)) (stock : List Int) (bl : List (Option Int)) (one : Nat) (seen : List (List Nat)) (st : Option Int × List (List Nat)) : Prop where
  no : st.1 = none → st.2 = [] ∧ ∀ ks ∈ seen, ¬ goodK lots stock bl one ks
  yes : ∀ m, st.1 = some m → (∀ ks ∈ seen, goodK lots stock bl one ks → m ≤ unK lots stock bl ks) ∧ (∀ l, l ∈ st.2 ↔ ∃ ks ∈ seen, goodK lots stock bl one ks ∧ unK lots stock bl ks = m ∧ lotK lots stock bl ks = l) ∧ st.2 ≠ []
theorem sflOk_step {seen : List (List Nat)} {st : Option Int × List (List Nat)} {ks : List Nat} (h : SflOk lots stock bl one seen st) : SflOk lots stock bl one (seen ++ [ks]) (sflStep lots stock bl one st ks) := by
  have mem : ∀ {x}, x ∈ seen ++ [ks] ↔ x ∈ seen ∨ x = ks := by intro x; rw [List.mem_append, List.mem_singleton]
  rw [sflStep_is]
  by_cases c : goodK lots stock bl one ks ∧ (∀ m, st.1 = some m → unK lots stock bl ks ≤ m)
  · rw [if_pos c]
    by_cases d : ∀ m, st.1 = some m → unK lots stock bl ks < m
    · rw [if_pos d]
      refine ⟨fun e => (by cases e), fun m e => ?_⟩
      have e : m = unK lots stock bl ks := (Option.some.inj e).symm
      subst e
      refine ⟨fun x hx gx => ?_, fun l => ?_, by simp⟩
      · rcases mem.mp hx with hx | rfl
        · cases hs : st.1 with
          | none => exact absurd gx ((h.no hs).2 x hx)
          | some m =>
            have := (h.yes m hs).1 x hx gx
            have := d m hs
            omega
        · exact Int.le_refl _
      · show l ∈ [lotK lots stock bl ks] ↔ _
        rw [List.mem_singleton]
        constructor
        · rintro rfl
          exact ⟨ks, mem.mpr (.inr rfl), c.1, rfl, rfl⟩
        · rintro ⟨x, hx, gx, ux, lx⟩
          rcases mem.mp hx with hx | rfl
          · cases hs : st.1 with
            | none => exact absurd gx ((h.no hs).2 x hx)
            | some m =>
              have := (h.yes m hs).1 x hx gx
              have := d m hs
              omega
          · exact lx.symm
    · rw [if_neg d]
      obtain ⟨m, hm⟩ : ∃ m, st.1 = some m := by
        cases hs : st.1 with
        | none => exact absurd (fun m e => by rw [hs] at e; cases e) d
        | some m => exact ⟨m, rfl⟩
      have hle := c.2 m hm
      have em : unK lots stock bl ks = m := by
        by_cases q : unK lots stock bl ks < m
        · exact absurd (fun m' e => by rw [hm] at e; cases e; exact q) d
        · omega
      refine ⟨fun e => (by cases e), fun m' e => ?_⟩
      have e : m' = unK lots stock bl ks := (Option.some.inj e).symm
      subst e
      obtain ⟨y1, y2, _⟩ := h.yes m hm
      refine ⟨fun x hx gx => ?_, fun l => ?_, by simp⟩
      · rcases mem.mp hx with hx | rfl
        · have := y1 x hx gx
          omega
        · exact Int.le_refl _
      · show l ∈ st.2 ++ [lotK lots stock bl ks] ↔ _
        rw [List.mem_append, List.mem_singleton, y2]
        constructor
        · rintro (⟨x, hx, gx, ux, lx⟩ | rfl)
          · exact ⟨x, mem.mpr (.inl hx), gx, by rw [ux, em], lx⟩
          · exact ⟨ks, mem.mpr (.inr rfl), c.1, rfl, rfl⟩
        · rintro ⟨x, hx, gx, ux, lx⟩
          rcases mem.mp hx with hx | rfl
          · exact .inl ⟨x, hx, gx, by rw [ux, em], lx⟩
          · exact .inr lx.symm
  · rw [if_neg c]
    refine ⟨fun e => ⟨(h.no e).1, fun x hx => ?_⟩, fun m e => ?_⟩
    · rcases mem.mp hx with hx | rfl
      · exact (h.no e).2 x hx
      · exact fun g => c ⟨g, fun m z => by rw [e] at z; cases z⟩
    · obtain ⟨y1, y2, y3⟩ := h.yes m e
      have out : goodK lots stock bl one ks → m < unK lots stock bl ks := fun g => by
        by_cases q : unK lots stock bl ks ≤ m
        · exact absurd ⟨g, fun m' z => by rw [e] at z; cases z; exact q⟩ c
        · omega
      refine ⟨fun x hx gx => ?_, fun l => ?_, y3⟩
      · rcases mem.mp hx with hx | rfl
        · exact y1 x hx gx
        · have := out gx
          omega
      · rw [y2]
        constructor
        · rintro ⟨x, hx, r⟩
          exact ⟨x, mem.mpr (.inl hx), r⟩
        · rintro ⟨x, hx, gx, ux, lx⟩
          rcases mem.mp hx with hx | rfl
          · exact ⟨x, hx, gx, ux, lx⟩
          · have := out gx
            omega
theorem sflOk_fold : ∀ (todo seen : List (List Nat)) (st : Option Int × List (List Nat)), SflOk lots stock bl one seen st → SflOk lots stock bl one (seen ++ todo) (todo.foldl (sflStep lots stock bl one) st)
  | [], seen, st, h => by
    rw [List.append_nil]
    exact h
  | ks :: todo, seen, st, h => by
    have q := sflOk_fold todo (seen ++ [ks]) _ (sflOk_step (ks := ks) h)
    rw [List.append_assoc] at q
    exact q
theorem sfl_ok : SflOk lots stock bl one (lotsW one other stock.length) (sfl lots stock bl one other) := by
  have q := sflOk_fold (lots := lots) (stock := stock) (bl := bl) (one := one) (lotsW one other stock.length) [] (none, []) ⟨fun _ => ⟨rfl, fun _ h => by cases h⟩, fun m e => by cases e⟩
  rw [List.nil_append] at q
  exact q
end
end K45
/-! THE PLAIN LAW: the row that the program finds is the first one that is found by trying. -/
namespace K45
theorem minL_fold : ∀ (l : List (List Nat)) (x : List Nat), (l.foldl (fun best y => if ltL y best = true then y else best) x ∈ x :: l) ∧
    ∀ y ∈ x :: l, ltL y (l.foldl (fun best y => if ltL y best = true then y else best) x) = false
  | [], x => ⟨List.mem_cons_self, fun y hy => by
    have e : y = x := by simpa using hy
    rw [e]
    exact ltL_irr x⟩
  | a :: l, x => by
    show (l.foldl _ (if ltL a x = true then a else x) ∈ x :: a :: l) ∧ ∀ y ∈ x :: a :: l, ltL y (l.foldl _ (if ltL a x = true then a else x)) = false
    obtain ⟨h1, h2⟩ := minL_fold l (if ltL a x = true then a else x)
    refine ⟨?_, fun y hy => ?_⟩
    · rcases List.mem_cons.mp h1 with e | e
      · rw [e]
        split
        · simp
        · simp
      · exact List.mem_cons_of_mem _ (List.mem_cons_of_mem _ e)
    · have base := h2 _ List.mem_cons_self
      rcases List.mem_cons.mp hy with e | hy
      · subst e
        by_cases q : ltL a y = true
        · rw [if_pos q] at base ⊢
          exact leL_trans base (ltL_asymm q)
        · rw [if_neg q] at base ⊢
          exact base
      · rcases List.mem_cons.mp hy with e | hy
        · subst e
          by_cases q : ltL y x = true
          · rw [if_pos q] at base ⊢
            exact base
          · rw [if_neg q] at base ⊢
            exact leL_trans base (Bool.eq_false_iff.mpr q)
        · exact h2 y (List.mem_cons_of_mem _ hy)
theorem minL_mem {l : List (List Nat)} (h : l ≠ []) : minL l ∈ l := by
  cases l with
  | nil => exact absurd rfl h
  | cons x l => exact (minL_fold l x).1
theorem minL_le {l : List (List Nat)} {y : List Nat} (h : y ∈ l) : ltL y (minL l) = false := by
  cases l with
  | nil => cases h
  | cons x l => exact (minL_fold l x).2 y h

section
variable {lots : List (List Nat)} {stock : List Int} {bl : List (Option Int)} {one other : Nat}
/-- a full lot with the one kind and without the other one -/
structure Apart (lots : List (List Nat)) (stock : List Int) (bl : List (Option Int)) (one other : Nat) (L : Nat → Prop) : Prop where
  full : FullL lots stock bl L
  inn : NB lots.length (accL lots) L one
  out : ¬ NB lots.length (accL lots) L other
theorem tw_lt {ks : List Nat} : ∀ r ∈ tw lots ks, r < lots.length := fun r hr => List.mem_range.mp (List.mem_filter.mp hr).1
theorem two_lt {k : Nat} : ∀ r ∈ two lots k, r < lots.length := fun r hr => List.mem_range.mp (List.mem_filter.mp hr).1
theorem lotK_lt {ks : List Nat} : ∀ r ∈ lotK lots stock bl ks, r < lots.length := fun r hr => tw_lt r (gw_sub r hr)
theorem range_sorted (n : Nat) : (List.range n).Pairwise (· < ·) := List.pairwise_lt_range
theorem lotK_sorted {ks : List Nat} : (lotK lots stock bl ks).Pairwise (· < ·) := ((range_sorted _).filter _).filter _
theorem lotK_in {ks : List Nat} {k : Nat} (h : NB lots.length (accL lots) (isIn (lotK lots stock bl ks)) k) : k ∈ ks := by
  obtain ⟨r, _, hr, hk⟩ := h
  have q := (List.mem_filter.mp (gw_sub r hr)).2
  exact List.contains_iff_mem.mp (List.all_eq_true.mp q k hk)
theorem full_below {L : Nat → Prop} (h : FullL lots stock bl L) : FullL lots stock bl (fun r => L r ∧ r < lots.length) := by
  obtain ⟨g, hg, hc⟩ := h
  exact ⟨g, ⟨hg.nn, fun r k e => let ⟨a, c, d, z⟩ := hg.out r k e; ⟨a, c, ⟨d, a⟩, z⟩, hg.cap, hg.bnd⟩, fun k hk hn => hc k hk (NB_mono hn fun r _ q => q.1)⟩
/-- each such lot lies in one of those that are told, with as many units -/
theorem lot_for (h : Case lots stock bl) {L : Nat → Prop} (a : Apart lots stock bl one other L) : ∃ ks ∈ lotsW one other stock.length, goodK lots stock bl one ks ∧ unK lots stock bl ks = units stock.length lots.length (accL lots) (fn stock) L ∧ ∀ r, r < lots.length → L r → r ∈ lotK lots stock bl ks := by
  have dec : ∃ p : Nat → Bool, ∀ k, p k = true ↔ NB lots.length (accL lots) L k := by
    refine ⟨fun k => @decide (NB lots.length (accL lots) L k) (Classical.propDecidable _), fun k => ?_⟩
    exact @decide_eq_true_iff _ (Classical.propDecidable _)
  obtain ⟨p, hp⟩ := dec
  have p1 := (hp one).mpr a.inn
  have p2 : p other = false := by
    cases q : p other with
    | false => rfl
    | true => exact absurd ((hp other).mp q) a.out
  have hks := lotsW_has p1 p2 stock.length
  have sub : ∀ r, r < lots.length → L r → r ∈ lotK lots stock bl ((List.range stock.length).filter p) := fun r hr hL => by
    refine mem_gw.mpr ⟨_, fun r' hr' => ?_, full_below a.full, hL, hr⟩
    unfold tw
    rw [List.mem_filter, List.mem_range]
    refine ⟨hr'.2, List.all_eq_true.mpr fun k hk => List.contains_iff_mem.mpr ?_⟩
    rw [List.mem_filter, List.mem_range]
    exact ⟨h.wf r' k hk, (hp k).mpr ⟨r', hr'.2, hr'.1, hk⟩⟩
  have same : ∀ k, NB lots.length (accL lots) (isIn (lotK lots stock bl ((List.range stock.length).filter p))) k ↔ NB lots.length (accL lots) L k := fun k =>
    ⟨fun z => (hp k).mp (List.mem_filter.mp (lotK_in z)).2, fun z => NB_mono z fun r hr hL => sub r hr hL⟩
  refine ⟨_, hks, (mem_kot lotK_lt h.wf).mpr ((same one).mpr a.inn), ?_, sub⟩
  show unitsL stock (kot stock.length lots (lotK lots stock bl _)) = _
  rw [unitsL_kot lotK_lt h.wf]
  refine Sg_congr fun k _ => ?_
  by_cases e : NB lots.length (accL lots) L k
  · rw [on_yes e, on_yes ((same k).mpr e)]
  · rw [on_no e, on_no fun z => e ((same k).mp z)]
theorem lot_apart (h : Case lots stock bl) (ne : one ≠ other) {ks : List Nat} (hk : ks ∈ lotsW one other stock.length) (g : goodK lots stock bl one ks) : Apart lots stock bl one other (isIn (lotK lots stock bl ks)) :=
  ⟨gw_full h tw_lt, (mem_kot lotK_lt h.wf).mp g, fun z => (lotsW_mem ne hk).2 (lotK_in z)⟩
theorem unK_is (h : Case lots stock bl) (ks : List Nat) : unK lots stock bl ks = units stock.length lots.length (accL lots) (fn stock) (isIn (lotK lots stock bl ks)) := unitsL_kot lotK_lt h.wf
/-- safe: there is no such lot -/
theorem safeL_iff (h : Case lots stock bl) (h1 : one < stock.length) (s1 : 1 ≤ fn stock one) : safeL lots stock bl one other = true ↔ ¬ ∃ L, Apart lots stock bl one other L := by
  have key : one ∈ ((kot stock.length lots (gw lots stock bl (two lots other))).filter fun k => decide (0 < fn stock k)) ↔ ∃ L, Apart lots stock bl one other L := by
    have lt : ∀ r ∈ gw lots stock bl (two lots other), r < lots.length := fun r hr => two_lt r (gw_sub r hr)
    rw [List.mem_filter, mem_kot lt h.wf]
    constructor
    · rintro ⟨q, _⟩
      refine ⟨_, gw_full h two_lt, q, fun ⟨r, _, hr, hk⟩ => ?_⟩
      have z := (List.mem_filter.mp (gw_sub r hr)).2
      rw [List.contains_iff_mem.mpr (show other ∈ lots.getD r [] from hk)] at z
      cases z
    · rintro ⟨L, a⟩
      refine ⟨NB_mono a.inn fun r hr hL => ?_, decide_eq_true (by omega)⟩
      refine mem_gw.mpr ⟨_, fun r' hr' => ?_, full_below a.full, hL, hr⟩
      unfold two
      rw [List.mem_filter, List.mem_range]
      refine ⟨hr'.2, ?_⟩
      cases q : (lots.getD r' []).contains other with
      | false => rfl
      | true => exact absurd ⟨r', hr'.2, hr'.1, List.contains_iff_mem.mp q⟩ a.out
  unfold safeL
  cases q : (((kot stock.length lots (gw lots stock bl (two lots other))).filter fun k => decide (0 < fn stock k)).contains one) with
  | true =>
    constructor
    · intro z
      cases z
    · intro z
      exact absurd (key.mp (List.contains_iff_mem.mp q)) z
  | false =>
    constructor
    · intro _ z
      rw [List.contains_iff_mem.mpr (key.mpr z)] at q
      cases q
    · intro _
      rfl
/-- the fewest requests: the least number of units of such a lot -/
structure FewIs (lots : List (List Nat)) (stock : List Int) (bl : List (Option Int)) (one other : Nat) (o : Option Int) : Prop where
  no : o = none → ¬ ∃ L, Apart lots stock bl one other L
  yes : ∀ U, o = some U → (∃ L, Apart lots stock bl one other L ∧ units stock.length lots.length (accL lots) (fn stock) L = U) ∧ ∀ L, Apart lots stock bl one other L → U ≤ units stock.length lots.length (accL lots) (fn stock) L
theorem FewIs.one_ {o o' : Option Int} (h : FewIs lots stock bl one other o) (h' : FewIs lots stock bl one other o') : o = o' := by
  cases o with
  | none =>
    cases o' with
    | none => rfl
    | some U => exact absurd (let ⟨⟨L, a, _⟩, _⟩ := h'.yes U rfl; ⟨L, a⟩) (h.no rfl)
  | some U =>
    cases o' with
    | none => exact absurd (let ⟨⟨L, a, _⟩, _⟩ := h.yes U rfl; ⟨L, a⟩) (h'.no rfl)
    | some U' =>
      obtain ⟨⟨L, a, e⟩, q⟩ := h.yes U rfl
      obtain ⟨⟨L', a', e'⟩, q'⟩ := h'.yes U' rfl
      have := q L' a'
      have := q' L a
      congr 1
      omega
theorem Apart.ne {L : Nat → Prop} (a : Apart lots stock bl one other L) : one ≠ other := fun e => a.out (e ▸ a.inn)
theorem fewest_is (h : Case lots stock bl) (h1 : one < stock.length) (s1 : 1 ≤ fn stock one) : FewIs lots stock bl one other (fewest lots stock bl one other) := by
  have sf := safeL_iff (other := other) h h1 s1
  have ok := sfl_ok (lots := lots) (stock := stock) (bl := bl) (one := one) (other := other)
  unfold fewest
  by_cases q : safeL lots stock bl one other = true
  · rw [if_pos q]
    exact ⟨fun _ => sf.mp q, fun U e => by cases e⟩
  · rw [if_neg q]
    have ex : ∃ L, Apart lots stock bl one other L := Classical.byContradiction fun n => q (sf.mpr n)
    obtain ⟨L0, a0⟩ := ex
    obtain ⟨ks0, hk0, g0, _, _⟩ := lot_for h a0
    refine ⟨fun e => absurd g0 ((ok.no e).2 ks0 hk0), fun U e => ?_⟩
    obtain ⟨y1, y2, y3⟩ := ok.yes U e
    refine ⟨?_, fun L a => ?_⟩
    · obtain ⟨l, hl⟩ := List.exists_mem_of_ne_nil _ y3
      obtain ⟨ks, hk, g, u, _⟩ := (y2 l).mp hl
      exact ⟨_, lot_apart h a0.ne hk g, by rw [← unK_is h, u]⟩
    · obtain ⟨ks, hk, g, u, _⟩ := lot_for h a
      rw [← u]
      exact y1 ks hk g
theorem rowOf_places {c : Nat → Nat} : ∀ (l : List Nat) (g : Nat → Nat), (∀ (i t : Nat), l[i]? = some t → c t = g i) → (List.range l.length).flatMap (fun i => List.replicate (g i) (l.getD i 0)) = rowOf l c
  | [], _, _ => rfl
  | t :: l, g, h => by
    show (List.range (l.length + 1)).flatMap _ = List.replicate (c t) t ++ rowOf l c
    rw [List.range_succ_eq_map, List.flatMap_cons, List.flatMap_map, h 0 t rfl]
    congr 1
    exact rowOf_places l (fun i => g (i + 1)) fun i r e => h (i + 1) r (by rw [List.getElem?_cons_succ]; exact e)
theorem int_sum_toNat {α : Type} {c : α → Int} : ∀ {l : List α}, (∀ r ∈ l, 0 ≤ c r) → ((l.map fun r => (c r).toNat).sum : Int) = (l.map c).sum
  | [], _ => rfl
  | a :: l, h => by
    rw [List.map_cons, List.map_cons, List.sum_cons, List.sum_cons, ← int_sum_toNat (l := l) fun r hr => h r (List.mem_cons_of_mem _ hr)]
    have := h a List.mem_cons_self
    omega
/-- the row that is told for a full lot -/
theorem lfr_is (h : Case lots stock bl) {l : List Nat} (hs : l.Pairwise (· < ·)) (hl : ∀ r ∈ l, r < lots.length) (hf : FullL lots stock bl (isIn l)) :
    ∃ c : Nat → Int, FullRow stock.length lots.length (accL lots) (fn stock) (bnf bl) (isIn l) c ∧ (∀ r, r < lots.length → ((lfr lots stock bl l).count r : Int) = c r) ∧ lfr lots stock bl l = rowOf l (fun r => (c r).toNat) ∧
      ∀ i, i ≤ l.length → ((l.take i).map c).sum = rkL lots stock bl l i := by
  have nd : l.Nodup := hs.imp fun h => Nat.ne_of_lt h
  obtain ⟨c, hc, hg⟩ := greedy_full (fun k _ => h.st k) (fun r m _ hm => h.bn r m hm) nd hl hf
  have e : lfr lots stock bl l = rowOf l (fun r => (c r).toNat) := rowOf_places l (fun i => (rkL lots stock bl l (i + 1) - rkL lots stock bl l i).toNat) fun i t ht => by
    show (c t).toNat = _
    rw [hg i t ht]
    rfl
  refine ⟨c, hc, fun r hr => ?_, e, fun i => ?_⟩
  · rw [e, count_rowOf nd]
    by_cases q : r ∈ l
    · rw [if_pos q, Int.toNat_of_nonneg (hc.nonneg hr)]
    · rw [if_neg q, hc.zero hr q]
      rfl
  · induction i with
    | zero =>
      intro _
      show (0 : Int) = mx _ _ _ _ _ _
      have z : Tk stock.length lots.length (accL lots) (fn stock) (bnf bl) (isIn (l.take 0)) noT := noT_tk (fun k _ => h.st k) fun r m _ hm => h.bn r m hm
      rw [mx_is z fun g hg => ?_]
      · exact (Sg_zero fun r _ => Sg_zero fun k _ => rfl).symm
      · rw [show val stock.length lots.length g = 0 from Sg_zero fun r _ => hg.row_zero (by
          show ¬ r ∈ l.take 0
          simp)]
        exact Sg_nonneg fun r _ => Sg_nonneg fun k _ => Int.le_refl _
    | succ i ih =>
      intro hi
      obtain ⟨t, ht⟩ : ∃ t, l[i]? = some t := ⟨l[i], by simp⟩
      rw [take_succ_at ht, List.map_append, List.sum_append, ih (by omega), List.map_singleton, List.sum_singleton, hg i t ht]
      show rkL lots stock bl l i + (rkL lots stock bl l (i + 1) - rkL lots stock bl l i) = _
      omega
theorem sum_counts {R : List Nat} {n : Nat} (h : ∀ r ∈ R, r < n) : Sg n (fun r => (R.count r : Int)) = R.length := by
  induction R with
  | nil => exact Sg_zero fun _ _ => rfl
  | cons a R ih =>
    have e : Sg n (fun r => ((a :: R).count r : Int)) = Sg n (fun r => (R.count r : Int)) + 1 := Sg_one (i := a) (h a List.mem_cons_self) fun r _ => by
      show ((a :: R).count r : Int) = _
      rw [List.count_cons]
      by_cases q : r = a
      · subst q
        simp
      · have : ¬ a = r := fun z => q z.symm
        simp [q, this]
    rw [e, ih fun r hr => h r (List.mem_cons_of_mem _ hr), List.length_cons]
    omega
/-- such a row is within the bounds, ascending, tells the kinds apart -/
theorem lfr_good (h : Case lots stock bl) (h1 : one < stock.length) (h2 : other < stock.length) (s1 : 1 ≤ fn stock one) (s2 : 1 ≤ fn stock other) {l : List Nat} (hs : l.Pairwise (· < ·)) (hl : ∀ r ∈ l, r < lots.length) (a : Apart lots stock bl one other (isIn l)) :
    InB bl (lfr lots stock bl l) ∧ tellsL lots stock one other (lfr lots stock bl l) = true ∧ ((lfr lots stock bl l).length : Int) = units stock.length lots.length (accL lots) (fn stock) (isIn l) := by
  obtain ⟨c, hc, hcount, he, _⟩ := lfr_is h hs hl a.full
  have hmem : ∀ r ∈ lfr lots stock bl l, r < lots.length := fun r hr => hl r (rowOf_mem (c := fun r => (c r).toNat) (by rw [← he]; exact hr))
  have hrow : FullRow stock.length lots.length (accL lots) (fn stock) (bnf bl) (isIn l) (fun r => ((lfr lots stock bl l).count r : Int)) := by
    obtain ⟨g, g1, g2, g3⟩ := hc.run
    exact ⟨g, g1, fun r hr => by rw [g2 r hr, hcount r hr], g3⟩
  refine ⟨⟨by rw [he]; exact rowOf_sorted hs, fun r hr => by rw [h.len]; exact hmem r hr, fun r m hm => ?_⟩, (tellsL_iff h h1 h2 s1 s2 _).mpr (hrow.tells a.inn h1 a.out s1 s2), ?_⟩
  · by_cases q : r < lots.length
    · rw [hcount r q]
      exact hc.in_bounds q hm
    · rw [List.count_eq_zero.mpr fun z => q (hmem r z)]
      exact h.bn r m hm
  · rw [← sum_counts hmem, ← hrow.sum]
theorem units_lt (h : Case lots stock bl) (h2 : other < stock.length) {L : Nat → Prop} (a : Apart lots stock bl one other L) : units stock.length lots.length (accL lots) (fn stock) L ≤ stock.sum - fn stock other := by
  rw [← sum_fn stock]
  have e : Sg stock.length (fn stock) = Sg stock.length (fun k => if k = other then fn stock k + -fn stock other else fn stock k) + fn stock other := by
    have q := Sg_one (f := fn stock) (g := fun k => if k = other then fn stock k + -fn stock other else fn stock k) (d := -fn stock other) h2 fun j _ => rfl
    omega
  rw [e]
  have le : units stock.length lots.length (accL lots) (fn stock) L ≤ Sg stock.length (fun k => if k = other then fn stock k + -fn stock other else fn stock k) := Sg_le fun k _ => by
    by_cases e : k = other
    · subst e
      rw [if_pos rfl, on_no a.out]
      omega
    · rw [if_neg e]
      by_cases q : NB lots.length (accL lots) L k
      · rw [on_yes q]
        exact Int.le_refl _
      · rw [on_no q]
        exact h.st k
  omega
/-- THE LAW: what the program returns is the first row found by trying -/
theorem lrr_first (h : Case lots stock bl) (h1 : one < stock.length) (h2 : other < stock.length) (s1 : 1 ≤ fn stock one) (s2 : 1 ≤ fn stock other) :
    firstL lots stock bl one other (stock.sum - 1).toNat = lrr lots stock bl one other ∧ fewest lots stock bl one other = (lrr lots stock bl one other).map fun R => (R.length : Int) := by
  have few := fewest_is (other := other) h h1 s1
  have first := rows_first h.bn (tellsL lots stock one other) (stock.sum - 1).toNat
  -- a row that tells them apart has a full lot
  have back : ∀ R, InB bl R → tellsL lots stock one other R = true → ∃ (L : Nat → Prop) (c' : Nat → Int), FullRow stock.length lots.length (accL lots) (fn stock) (bnf bl) L c' ∧ Apart lots stock bl one other L ∧ ∀ r, r < lots.length → c' r ≤ (R.count r : Int) := fun R hi ht => by
    obtain ⟨L, c', g1, g2, g3, g4⟩ := tells_full (b := bnf bl) (fun k _ => h.st k) (fun r _ => by omega) (fun r m _ hm => hi.bd r m hm) h1 h2 s1 s2 ((tellsL_iff h h1 h2 s1 s2 R).mp ht)
    exact ⟨L, c', g1, ⟨g1.full, g2, g3⟩, g4⟩
  cases q : fewest lots stock bl one other with
  | none =>
    have e : lrr lots stock bl one other = none := by
      unfold lrr
      rw [if_pos q]
    rw [e]
    refine ⟨?_, rfl⟩
    cases z : firstL lots stock bl one other (stock.sum - 1).toNat with
    | none => rfl
    | some R =>
      obtain ⟨a1, _, a3, _⟩ := first.1 R z
      obtain ⟨L, c', _, a, _⟩ := back R a1 a3
      exact absurd ⟨L, a⟩ (few.no q)
  | some U =>
    have e : lrr lots stock bl one other = some (minL ((sfl lots stock bl one other).2.map (lfr lots stock bl))) := by
      unfold lrr
      rw [if_neg (by rw [q]; exact fun z => by cases z)]
    obtain ⟨⟨L0, a0, _⟩, least⟩ := few.yes U q
    have ne := a0.ne
    have e1 : (sfl lots stock bl one other).1 = some U := by
      unfold fewest at q
      by_cases z : safeL lots stock bl one other = true
      · rw [if_pos z] at q
        cases q
      · rw [if_neg z] at q
        exact q
    obtain ⟨y1, y2, y3⟩ := (sfl_ok (lots := lots) (stock := stock) (bl := bl) (one := one) (other := other)).yes U e1
    have hmap : (sfl lots stock bl one other).2.map (lfr lots stock bl) ≠ [] := fun z => y3 (List.map_eq_nil_iff.mp z)
    obtain ⟨l, hl, el⟩ := List.mem_map.mp (minL_mem hmap)
    obtain ⟨ks, hk, g, u, elk⟩ := (y2 l).mp hl
    subst elk
    have al := lot_apart h ne hk g
    obtain ⟨b1, b2, b3⟩ := lfr_good h h1 h2 s1 s2 lotK_sorted lotK_lt al
    rw [← unK_is h, u] at b3
    rw [el] at b1 b2 b3
    rw [e]
    generalize hM : minL ((sfl lots stock bl one other).2.map (lfr lots stock bl)) = M at b1 b2 b3 ⊢
    refine ⟨?_, (congrArg some b3).symm⟩
    have hU := units_lt h h2 al
    rw [← unK_is h, u] at hU
    have hlen : M.length ≤ (stock.sum - 1).toNat := by omega
    cases z : firstL lots stock bl one other (stock.sum - 1).toNat with
    | none =>
      have := first.2 z M b1 hlen
      rw [b2] at this
      cases this
    | some R =>
      obtain ⟨a1, _, a3, a4⟩ := first.1 R z
      obtain ⟨L, c', f1, aL, f2⟩ := back R a1 a3
      have hge := least L aL
      have ty : ∀ r ∈ R, r < lots.length := fun r hr => by rw [← h.len]; exact a1.ty r hr
      have sumc := f1.sum
      have sumR := sum_counts ty
      have sle := Sg_le f2
      have eqlen : R.length = M.length ∧ ltL M R = false := by
        rcases a4 M b1 b2 with w | w
        · omega
        · exact w
      have cs : ∀ r, r < lots.length → c' r = (R.count r : Int) := Sg_eq_of_le f2 (by omega)
      have fR : FullRow stock.length lots.length (accL lots) (fn stock) (bnf bl) L (fun r => (R.count r : Int)) := by
        obtain ⟨g', g1, g2, g3⟩ := f1.run
        exact ⟨g', g1, fun r hr => by rw [g2 r hr, cs r hr], g3⟩
      obtain ⟨ks', hk', g', u', sub⟩ := lot_for h aL
      have hU' : unK lots stock bl ks' = U := by
        have := fR.sum
        omega
      have hin : lfr lots stock bl (lotK lots stock bl ks') ∈ (sfl lots stock bl one other).2.map (lfr lots stock bl) := List.mem_map.mpr ⟨_, (y2 _).mpr ⟨ks', hk', g', hU', rfl⟩, rfl⟩
      have m1 := minL_le hin
      rw [hM] at m1
      have al' := lot_apart h ne hk' g'
      obtain ⟨c, hc, hcount, he, hpre⟩ := lfr_is h lotK_sorted lotK_lt al'.full
      have hR : R = rowOf (lotK lots stock bl ks') (fun r => R.count r) := row_is lotK_sorted a1.asc fun r hr => by
        have hrn := ty r hr
        refine sub r hrn (Classical.byContradiction fun n => ?_)
        have z0 := fR.zero hrn n
        have := List.count_pos_iff.mpr hr
        omega
      have nd : (lotK lots stock bl ks').Nodup := lotK_sorted.imp fun h => Nat.ne_of_lt h
      have toN : ∀ l' : List Nat, (∀ r ∈ l', r < lots.length) → ((l'.map fun r => (c r).toNat).sum : Int) = (l'.map c).sum := fun l' hl' => int_sum_toNat fun r hr => hc.nonneg (hl' r hr)
      have castR : ∀ l' : List Nat, ((l'.map fun r => R.count r).sum : Int) = (l'.map fun r => (R.count r : Int)).sum := fun l' => by
        induction l' with
        | nil => rfl
        | cons t l' ih => rw [List.map_cons, List.map_cons, List.sum_cons, List.sum_cons, ← ih]; omega
      have le1 : ltL R (lfr lots stock bl (lotK lots stock bl ks')) = false := by
        rw [he, hR]
        have cnt_eq : (fun r => (rowOf (lotK lots stock bl ks') fun r => R.count r).count r) = fun r => R.count r := by rw [← hR]
        refine rowOf_le lotK_sorted (fun i => ?_) ?_
        · have q1 := greedy_most (S := fn stock) (b := bnf bl) nd (fun r hr => lotK_lt r hr) fR i
          have q2 : (((lotK lots stock bl ks').take i).map c).sum = rkL lots stock bl (lotK lots stock bl ks') i := by
            by_cases hi : i ≤ (lotK lots stock bl ks').length
            · exact hpre i hi
            · have e1 := hpre _ (Nat.le_refl (lotK lots stock bl ks').length)
              unfold rkL rk at e1 ⊢
              rw [List.take_length] at e1
              rw [List.take_of_length_le (by omega)]
              exact e1
          have q3 := toN ((lotK lots stock bl ks').take i) fun r hr => lotK_lt r (List.mem_of_mem_take hr)
          have q4 := castR ((lotK lots stock bl ks').take i)
          have q1 : (((lotK lots stock bl ks').take i).map fun r => (R.count r : Int)).sum ≤ rkL lots stock bl (lotK lots stock bl ks') i := q1
          omega
        · have q1 := rowOf_length (fun r => R.count r) (lotK lots stock bl ks')
          rw [← hR] at q1
          have q2 := rowOf_length (fun r => (c r).toNat) (lotK lots stock bl ks')
          rw [← he] at q2
          obtain ⟨_, _, b3'⟩ := lfr_good h h1 h2 s1 s2 lotK_sorted lotK_lt al'
          rw [← unK_is h, hU'] at b3'
          omega
      have le2 := leL_trans m1 le1
      exact congrArg some (leL_antisymm eqlen.2 le2)
end
end K45
/-! Full lots told by lacks, for great stocks. -/
namespace K45
/-- all parts of a list, as they are built -/
def partsF (l : List Nat) : List (List Nat) := l.foldl (fun found a => found ++ found.map fun p => p ++ [a]) [[]]
theorem parts_fold {p : Nat → Bool} : ∀ (l : List Nat) (found : List (List Nat)) (q : List Nat), q ∈ found → q ++ l.filter p ∈ l.foldl (fun found a => found ++ found.map fun p => p ++ [a]) found
  | [], found, q, h => by
    show q ++ [] ∈ found
    rw [List.append_nil]
    exact h
  | a :: l, found, q, h => by
    show q ++ (a :: l).filter p ∈ l.foldl _ (found ++ found.map fun p => p ++ [a])
    cases e : p a with
    | true =>
      have z : (a :: l).filter p = a :: l.filter p := by rw [List.filter_cons, if_pos e]
      rw [z]
      have := parts_fold (p := p) l (found ++ found.map fun p => p ++ [a]) (q ++ [a]) (List.mem_append_right _ (List.mem_map.mpr ⟨q, h, rfl⟩))
      rw [List.append_assoc] at this
      exact this
    | false =>
      have z : (a :: l).filter p = l.filter p := by rw [List.filter_cons, if_neg (by rw [e]; decide)]
      rw [z]
      exact parts_fold (p := p) l _ q (List.mem_append_left _ h)
theorem parts_has (p : Nat → Bool) (l : List Nat) : l.filter p ∈ partsF l := by
  have := parts_fold (p := p) l [[]] [] (by simp)
  rw [List.nil_append] at this
  exact this
theorem parts_sub : ∀ (l : List Nat) (found : List (List Nat)) (q : List Nat), q ∈ l.foldl (fun found a => found ++ found.map fun p => p ++ [a]) found → ∃ f ∈ found, ∃ t, t.Sublist l ∧ q = f ++ t
  | [], found, q, h => ⟨q, h, [], List.Sublist.refl _, by rw [List.append_nil]⟩
  | a :: l, found, q, h => by
    obtain ⟨f, hf, t, ht, e⟩ := parts_sub l _ q h
    rcases List.mem_append.mp hf with hf | hf
    · exact ⟨f, hf, t, ht.cons a, e⟩
    · obtain ⟨f', hf', rfl⟩ := List.mem_map.mp hf
      exact ⟨f', hf', a :: t, ht.cons_cons a, by rw [e, List.append_assoc]; rfl⟩
theorem mem_parts {l q : List Nat} (h : q ∈ partsF l) : q.Sublist l := by
  obtain ⟨f, hf, t, ht, e⟩ := parts_sub l [[]] q h
  have : f = [] := by simpa using hf
  rw [e, this]
  exact ht

/-- the takers of some kinds among some types -/
def takersL (lots : List (List Nat)) (l ks : List Nat) : List Nat := l.filter fun r => (lots.getD r []).any fun k => ks.contains k
def sumO : List (Option Int) → Int
  | [] => 0
  | none :: l => sumO l
  | some m :: l => m + sumO l
/-- the lack of some kinds, none if one of their takers among some types has no bound -/
def lackL (lots : List (List Nat)) (stock : List Int) (bl : List (Option Int)) (l ks : List Nat) : Option Int :=
  let some_ := (takersL lots l ks).map (bnf bl)
  if none ∈ some_ then none else some (unitsL stock ks - sumO some_)
def posO : Option Int → Bool
  | none => false
  | some m => decide (0 < m)
/-- nothing that some types accept lacks anything -/
def fullC (lots : List (List Nat)) (stock : List Int) (bl : List (Option Int)) (l : List Nat) : Bool :=
  !((partsF (kot stock.length lots l)).map (lackL lots stock bl l)).any posO

section
variable {lots : List (List Nat)} {stock : List Int} {bl : List (Option Int)} {one other : Nat}
theorem mem_takersL {l ks : List Nat} {r : Nat} : r ∈ takersL lots l ks ↔ r ∈ l ∧ ∃ k, accL lots r k ∧ k ∈ ks := by
  unfold takersL
  rw [List.mem_filter, List.any_eq_true]
  constructor
  · rintro ⟨h1, k, h2, h3⟩
    exact ⟨h1, k, h2, List.contains_iff_mem.mp h3⟩
  · rintro ⟨h1, k, h2, h3⟩
    exact ⟨h1, k, h2, List.contains_iff_mem.mpr h3⟩
theorem sumO_some {l : List Nat} {b : Nat → Option Int} {v : Nat → Int} (h : ∀ r ∈ l, b r = some (v r)) : sumO (l.map b) = (l.map v).sum := by
  induction l with
  | nil => rfl
  | cons a l ih =>
    rw [List.map_cons, h a List.mem_cons_self, List.map_cons, List.sum_cons]
    show v a + sumO (l.map b) = _
    rw [ih fun r hr => h r (List.mem_cons_of_mem _ hr)]
theorem sum_range_in {n : Nat} {ks : List Nat} (h : Nat → Int) (nd : ks.Nodup) (hk : ∀ k ∈ ks, k < n) : (ks.map h).sum = Sg n fun k => on (k ∈ ks) (h k) := (Sg_list nd hk).symm
/-- HALL: a lot is full exactly if nothing that it accepts lacks anything -/
theorem fullC_iff (h : Case lots stock bl) {l : List Nat} (hs : l.Pairwise (· < ·)) (hl : ∀ r ∈ l, r < lots.length) : fullC lots stock bl l = true ↔ FullL lots stock bl (isIn l) := by
  have nd : l.Nodup := hs.imp fun h => Nat.ne_of_lt h
  constructor
  · intro hc
    obtain ⟨f, hf⟩ := mx_in h l
    refine ⟨f, hf.tk, fun k hk hn => Classical.byContradiction fun ne => ?_⟩
    have hlt : colS lots.length f k < fn stock k := by
      have := hf.tk.cap k hk
      omega
    -- the kinds that are reached lack something
    have dec : ∃ p : Nat → Bool, ∀ k, p k = true ↔ RK stock.length lots.length (accL lots) (fn stock) (isIn l) f k :=
      ⟨fun k => @decide (RK stock.length lots.length (accL lots) (fn stock) (isIn l) f k) (Classical.propDecidable _), fun k => @decide_eq_true_iff _ (Classical.propDecidable _)⟩
    obtain ⟨p, hp⟩ := dec
    have hkot : ∀ k, RK stock.length lots.length (accL lots) (fn stock) (isIn l) f k → k ∈ kot stock.length lots l := fun k e => by
      rw [mem_kot hl h.wf]
      cases e with
      | start a1 a2 a3 a4 a5 => exact ⟨_, a2, a3, a4⟩
      | step a1 a2 a3 a4 a5 =>
        obtain ⟨c1, c2, c3, c4⟩ := hf.tk.out _ _ a5
        exact ⟨_, c1, c3, c4⟩
    have mem : ∀ k, k ∈ (kot stock.length lots l).filter p ↔ RK stock.length lots.length (accL lots) (fn stock) (isIn l) f k := fun k => by
      rw [List.mem_filter, hp]
      exact ⟨fun z => z.2, fun z => ⟨hkot k z, z⟩⟩
    have hW := parts_has p (kot stock.length lots l)
    generalize hWd : (kot stock.length lots l).filter p = W at mem hW
    have rk : RK stock.length lots.length (accL lots) (fn stock) (isIn l) f k := by
      obtain ⟨r, a1, a2, a3⟩ := hn
      exact .start hk a1 a2 a3 hlt
    have tak : ∀ r, r ∈ takersL lots l W ↔ RT stock.length lots.length (accL lots) (fn stock) (isIn l) f r := fun r => by
      rw [mem_takersL]
      constructor
      · rintro ⟨q1, k', q2, q3⟩
        exact ⟨hl r q1, q1, k', (mem k').mp q3, q2⟩
      · rintro ⟨_, q1, k', q2, q3⟩
        exact ⟨q1, k', q3, (mem k').mpr q2⟩
    have bnds : ∀ r ∈ takersL lots l W, bnf bl r = some (rowS stock.length f r) := fun r hr => by
      obtain ⟨m, hm, em⟩ := hf.full r ((tak r).mp hr)
      rw [hm, em]
    have nn : ¬ (none : Option Int) ∈ (takersL lots l W).map (bnf bl) := fun z => by
      obtain ⟨r, hr, e⟩ := List.mem_map.mp z
      rw [bnds r hr] at e
      cases e
    have ndW : W.Nodup := by
      rw [← hWd]
      exact ((List.nodup_range (n := stock.length)).filter _).filter _
    have ndT : (takersL lots l W).Nodup := nd.filter _
    have lW : ∀ k ∈ W, k < stock.length := fun k hk => by
      have := hkot k ((mem k).mp hk)
      exact List.mem_range.mp (List.mem_filter.mp this).1
    have lT : ∀ r ∈ takersL lots l W, r < lots.length := fun r hr => hl r (mem_takersL.mp hr).1
    have lack : lackL lots stock bl l W = some (unitsL stock W - ((takersL lots l W).map (rowS stock.length f)).sum) := by
      show (if none ∈ (takersL lots l W).map (bnf bl) then none else some (unitsL stock W - sumO ((takersL lots l W).map (bnf bl)))) = _
      rw [if_neg nn, sumO_some bnds]
    have pos : ((takersL lots l W).map (rowS stock.length f)).sum < unitsL stock W := by
      unfold unitsL
      rw [sum_range_in _ ndW lW, sum_range_in _ ndT lT]
      -- what the takers take are units of the reached kinds
      have e1 : Sg lots.length (fun r => on (r ∈ takersL lots l W) (rowS stock.length f r)) ≤ Sg stock.length (fun k => on (k ∈ W) (colS lots.length f k)) := by
        have e0 : Sg stock.length (fun k => on (k ∈ W) (colS lots.length f k)) = Sg stock.length (fun k => Sg lots.length (fun r => on (k ∈ W) (f r k))) := Sg_congr fun k _ => by
          by_cases e : k ∈ W
          · rw [on_yes e]
            exact Sg_congr fun r _ => by rw [on_yes e]
          · rw [on_no e, Sg_zero fun r _ => on_no e]
        rw [e0, Sg_swap]
        refine Sg_le fun r hr => ?_
        by_cases e : r ∈ takersL lots l W
        · rw [on_yes e]
          refine Sg_le fun k _ => ?_
          by_cases e' : 0 < f r k
          · rw [on_yes ((mem k).mpr (((tak r).mp e).takes e'))]
            exact Int.le_refl _
          · have z : f r k = 0 := by have := hf.tk.nn r k; omega
            show f r k ≤ _
            rw [z]
            exact on_nonneg (Int.le_refl _)
        · rw [on_no e]
          exact Sg_nonneg fun k _ => on_nonneg (hf.tk.nn r k)
      have e2 : Sg stock.length (fun k => on (k ∈ W) (colS lots.length f k)) < Sg stock.length (fun k => on (k ∈ W) (fn stock k)) := by
        have le := Sg_le (n := stock.length) (f := fun k => on (k ∈ W) (colS lots.length f k)) (g := fun k => on (k ∈ W) (fn stock k)) fun j hj => by
          by_cases e : j ∈ W
          · rw [on_yes e, on_yes e]
            exact hf.tk.cap j hj
          · rw [on_no e, on_no e]
            exact Int.le_refl _
        by_cases q : Sg stock.length (fun k => on (k ∈ W) (fn stock k)) ≤ Sg stock.length (fun k => on (k ∈ W) (colS lots.length f k))
        · have z := Sg_eq_of_le (n := stock.length) (f := fun k => on (k ∈ W) (colS lots.length f k)) (g := fun k => on (k ∈ W) (fn stock k)) (fun j hj => by
            by_cases e : j ∈ W
            · rw [on_yes e, on_yes e]
              exact hf.tk.cap j hj
            · rw [on_no e, on_no e]
              exact Int.le_refl _) q k hk
          have kW := (mem k).mpr rk
          rw [on_yes kW, on_yes kW] at z
          omega
        · omega
      omega
    unfold fullC at hc
    have an : (((partsF (kot stock.length lots l)).map (lackL lots stock bl l)).any posO) = true := List.any_eq_true.mpr ⟨_, List.mem_map.mpr ⟨W, hW, rfl⟩, by
      rw [lack]
      exact decide_eq_true (by omega)⟩
    rw [an] at hc
    cases hc
  · rintro ⟨g, hg, hc⟩
    unfold fullC
    cases e : (((partsF (kot stock.length lots l)).map (lackL lots stock bl l)).any posO) with
    | false => rfl
    | true =>
      exfalso
      obtain ⟨x, hx, px⟩ := List.any_eq_true.mp e
      obtain ⟨ks, hks, rfl⟩ := List.mem_map.mp hx
      have sub := mem_parts hks
      have px : posO (if none ∈ (takersL lots l ks).map (bnf bl) then none else some (unitsL stock ks - sumO ((takersL lots l ks).map (bnf bl)))) = true := px
      by_cases q : none ∈ (takersL lots l ks).map (bnf bl)
      · rw [if_pos q] at px
        cases px
      · rw [if_neg q] at px
        have px := of_decide_eq_true px
        have some_ : ∀ r ∈ takersL lots l ks, bnf bl r = some ((bnf bl r).getD 0) := fun r hr => by
          cases z : bnf bl r with
          | none => exact absurd (List.mem_map.mpr ⟨r, hr, z⟩) q
          | some m => rfl
        rw [sumO_some some_] at px
        have ndk : ks.Nodup := ((List.nodup_range (n := stock.length)).filter _).sublist sub
        have lk : ∀ k ∈ ks, k < stock.length := fun k hk => List.mem_range.mp (List.mem_filter.mp (sub.subset hk)).1
        have ndT : (takersL lots l ks).Nodup := nd.filter _
        have lT : ∀ r ∈ takersL lots l ks, r < lots.length := fun r hr => hl r (mem_takersL.mp hr).1
        unfold unitsL at px
        rw [sum_range_in _ ndk lk, sum_range_in _ ndT lT] at px
        have e1 : Sg stock.length (fun k => on (k ∈ ks) (fn stock k)) ≤ Sg lots.length (fun r => on (r ∈ takersL lots l ks) (rowS stock.length g r)) := by
          have e0 : Sg stock.length (fun k => on (k ∈ ks) (fn stock k)) = Sg stock.length (fun k => Sg lots.length (fun r => on (k ∈ ks) (g r k))) := Sg_congr fun k hk => by
            by_cases e : k ∈ ks
            · rw [on_yes e, ← hc k hk ((mem_kot hl h.wf).mp (sub.subset e))]
              exact Sg_congr fun r _ => by rw [on_yes e]
            · rw [on_no e, Sg_zero fun r _ => on_no e]
          rw [e0, Sg_swap]
          refine Sg_le fun r hr => ?_
          by_cases e : r ∈ takersL lots l ks
          · rw [on_yes e]
            refine Sg_le fun k _ => ?_
            by_cases e' : k ∈ ks
            · rw [on_yes e']
              exact Int.le_refl _
            · rw [on_no e']
              exact hg.nn r k
          · rw [on_no e, Sg_zero fun k hk => ?_]
            · exact Int.le_refl _
            · by_cases e' : k ∈ ks
              · rw [on_yes e']
                exact hg.zero_of fun ⟨_, _, a3, a4⟩ => e (mem_takersL.mpr ⟨a3, k, a4, e'⟩)
              · rw [on_no e']
        have e2 : Sg lots.length (fun r => on (r ∈ takersL lots l ks) (rowS stock.length g r)) ≤ Sg lots.length (fun r => on (r ∈ takersL lots l ks) ((bnf bl r).getD 0)) := Sg_le fun r hr => by
          by_cases e : r ∈ takersL lots l ks
          · rw [on_yes e, on_yes e]
            exact hg.bnd r _ hr (some_ r e)
          · rw [on_no e, on_no e]
            exact Int.le_refl _
        omega
/-- the sizes of the full lots with one kind and without another one -/
def sizesL (lots : List (List Nat)) (stock : List Int) (bl : List (Option Int)) (one other : Nat) : List Int :=
  (((partsF (List.range lots.length)).filter (fullC lots stock bl)).filter fun l => decide (one ∈ kot stock.length lots l ∧ ¬ other ∈ kot stock.length lots l)).map fun l => unitsL stock (kot stock.length lots l)
def dueL (l : List Int) : Option Int := if l = [] then none else some (leastI l)
theorem due_is (h : Case lots stock bl) : FewIs lots stock bl one other (dueL (sizesL lots stock bl one other)) := by
  have lots_ : ∀ l ∈ partsF (List.range lots.length), l.Pairwise (· < ·) ∧ ∀ r ∈ l, r < lots.length := fun l hl =>
    ⟨(range_sorted _).sublist (mem_parts hl), fun r hr => List.mem_range.mp ((mem_parts hl).subset hr)⟩
  have there : ∀ L, Apart lots stock bl one other L → units stock.length lots.length (accL lots) (fn stock) L ∈ sizesL lots stock bl one other := fun L a => by
    have dec : ∃ p : Nat → Bool, ∀ r, p r = true ↔ L r := ⟨fun r => @decide (L r) (Classical.propDecidable _), fun r => @decide_eq_true_iff _ (Classical.propDecidable _)⟩
    obtain ⟨p, hp⟩ := dec
    have hm := parts_has p (List.range lots.length)
    have mem : ∀ r, r ∈ (List.range lots.length).filter p ↔ L r ∧ r < lots.length := fun r => by
      rw [List.mem_filter, List.mem_range, hp]
      exact ⟨fun z => ⟨z.2, z.1⟩, fun z => ⟨z.2, z.1⟩⟩
    obtain ⟨s1, s2⟩ := lots_ _ hm
    have full := full_congr (fun r => (mem r).symm) (full_below a.full)
    have same : ∀ k, NB lots.length (accL lots) (isIn ((List.range lots.length).filter p)) k ↔ NB lots.length (accL lots) L k := fun k =>
      ⟨fun z => NB_mono z fun r hr q => ((mem r).mp q).1, fun z => NB_mono z fun r hr q => (mem r).mpr ⟨q, hr⟩⟩
    refine List.mem_map.mpr ⟨_, List.mem_filter.mpr ⟨List.mem_filter.mpr ⟨hm, (fullC_iff h s1 s2).mpr full⟩, decide_eq_true ⟨?_, fun z => ?_⟩⟩, ?_⟩
    · rw [mem_kot s2 h.wf, same]
      exact a.inn
    · rw [mem_kot s2 h.wf, same] at z
      exact a.out z
    · rw [unitsL_kot s2 h.wf]
      refine Sg_congr fun k _ => ?_
      by_cases e : NB lots.length (accL lots) L k
      · rw [on_yes e, on_yes ((same k).mpr e)]
      · rw [on_no e, on_no fun z => e ((same k).mp z)]
  have back : ∀ U ∈ sizesL lots stock bl one other, ∃ L, Apart lots stock bl one other L ∧ units stock.length lots.length (accL lots) (fn stock) L = U := fun U hU => by
    obtain ⟨l, hl, rfl⟩ := List.mem_map.mp hU
    obtain ⟨hl, q⟩ := List.mem_filter.mp hl
    obtain ⟨hl, hf⟩ := List.mem_filter.mp hl
    obtain ⟨s1, s2⟩ := lots_ l hl
    have q := of_decide_eq_true q
    rw [mem_kot s2 h.wf, mem_kot s2 h.wf] at q
    exact ⟨isIn l, ⟨(fullC_iff h s1 s2).mp hf, q.1, q.2⟩, (unitsL_kot s2 h.wf).symm⟩
  unfold dueL
  by_cases e : sizesL lots stock bl one other = []
  · rw [if_pos e]
    refine ⟨fun _ ⟨L, a⟩ => ?_, fun U z => by cases z⟩
    have := there L a
    rw [e] at this
    cases this
  · rw [if_neg e]
    refine ⟨fun z => (by cases z), fun U z => ?_⟩
    have z : leastI (sizesL lots stock bl one other) = U := Option.some.inj z
    subst z
    exact ⟨back _ (leastI_mem e), fun L a => leastI_le (there L a)⟩
end
end K45
/-! How the program finds what is reached, and ways. -/
namespace K45
structure Ws where
  tk : List (Nat × Option Nat)
  tt : List (Nat × Nat)
  wt : List Nat
abbrev kyK (s : List (Nat × Option Nat)) : List Nat := s.map (·.1)
abbrev kyT (s : List (Nat × Nat)) : List Nat := s.map (·.1)
/-- one unit's kind seen -/
def inS (g : Nat → Int) (r : Nat) (s : Ws) (o : Nat) : Ws := if 0 < g o ∧ o ∉ kyK s.tk then ⟨s.tk ++ [(o, some r)], s.tt, s.wt ++ [o]⟩ else s
/-- one type seen, for a kind -/
def rqS (nk : Nat) (lots : List (List Nat)) (f : Nat → Nat → Int) (k : Nat) (s : Ws) (r : Nat) : Ws :=
  if r ∉ kyT s.tt ∧ k ∈ lots.getD r [] then (List.range nk).foldl (inS (f r) r) ⟨s.tk, s.tt ++ [(r, k)], s.wt⟩ else s

/-- what is true all along; c: the kind being looked at, rc: the type -/
structure WI (nk : Nat) (lots : List (List Nat)) (f : Nat → Nat → Int) (l ks : List Nat) (c rc : Nat) (s : Ws) : Prop where
  nd : (kyK s.tk).Nodup
  lt : ∀ k ∈ kyK s.tk, k < nk
  wk : ∀ k ∈ s.wt, k ∈ kyK s.tk
  ki : ∀ k ∈ ks, k ∈ kyK s.tk
  src0 : ∀ (i k : Nat), s.tk[i]? = some (k, none) → k ∈ ks
  src : ∀ (i k r : Nat), s.tk[i]? = some (k, some r) → 0 < f r k ∧ ∃ (k0 j : Nat) (o : Option Nat), (r, k0) ∈ s.tt ∧ j < i ∧ s.tk[j]? = some (k0, o)
  td : (kyT s.tt).Nodup
  tl : ∀ r k, (r, k) ∈ s.tt → r ∈ l ∧ k ∈ lots.getD r [] ∧ k ∈ kyK s.tk
  cl : ∀ k ∈ kyK s.tk, k ∉ s.wt → k ≠ c → ∀ r ∈ l, k ∈ lots.getD r [] → r ∈ kyT s.tt
  co : ∀ r ∈ kyT s.tt, r ≠ rc → ∀ o, o < nk → 0 < f r o → o ∈ kyK s.tk

section
variable {nk : Nat} {lots : List (List Nat)} {f : Nat → Nat → Int} {l ks : List Nat} {c rc nt : Nat} {s : Ws}
theorem inS_mono {g : Nat → Int} {r o : Nat} {k : Nat} (h : k ∈ kyK s.tk) : k ∈ kyK (inS g r s o).tk := by
  unfold inS
  split
  · rw [kyK, List.map_append]
    exact List.mem_append_left _ h
  · exact h
theorem inS_tt {g : Nat → Int} {r o : Nat} : (inS g r s o).tt = s.tt := by
  unfold inS
  split <;> rfl
theorem inS_len {g : Nat → Int} {r o : Nat} : (inS g r s o).wt.length + s.tk.length = s.wt.length + (inS g r s o).tk.length := by
  unfold inS
  split
  · simp only [List.length_append, List.length_singleton]
    omega
  · rfl
theorem WI.inS {g : Nat → Int} {o : Nat} (h : WI nk lots f l ks c rc s) (hg : g = f rc) (ho : o < nk) (hr : rc ∈ kyT s.tt) : WI nk lots f l ks c rc (inS g rc s o) ∧ (0 < g o → o ∈ kyK (K45.inS g rc s o).tk) := by
  subst hg
  unfold K45.inS
  split
  · rename_i hc
    obtain ⟨k0, hk0⟩ : ∃ k0, (rc, k0) ∈ s.tt := by
      obtain ⟨⟨a, b⟩, hm, e⟩ := List.mem_map.mp hr
      cases e
      exact ⟨b, hm⟩
    obtain ⟨_, _, hk0'⟩ := h.tl rc k0 hk0
    obtain ⟨⟨a, o0⟩, hm, e⟩ := List.mem_map.mp hk0'
    cases e
    obtain ⟨j, hj⟩ := List.getElem?_of_mem hm
    have hjl : j < s.tk.length := (List.getElem?_eq_some_iff.mp hj).1
    have mono : ∀ k, k ∈ kyK s.tk → k ∈ kyK (s.tk ++ [(o, some rc)]) := fun k hk => by
      rw [kyK, List.map_append]
      exact List.mem_append_left _ hk
    have oin : o ∈ kyK (s.tk ++ [(o, some rc)]) := by
      rw [kyK, List.map_append]
      exact List.mem_append_right _ List.mem_cons_self
    refine ⟨⟨?_, ?_, ?_, fun k hk => mono k (h.ki k hk), ?_, ?_, h.td, fun r k e => ⟨(h.tl r k e).1, (h.tl r k e).2.1, mono k (h.tl r k e).2.2⟩, ?_, fun r hr1 hr2 o' ho' e => mono o' (h.co r hr1 hr2 o' ho' e)⟩, fun _ => oin⟩
    · show (kyK (s.tk ++ _)).Nodup
      rw [kyK, List.map_append]
      exact List.nodup_append.mpr ⟨h.nd, List.nodup_cons.mpr ⟨List.not_mem_nil, List.nodup_nil⟩, fun a ha b hb e => by
        rw [List.map_cons, List.map_nil, List.mem_singleton] at hb
        subst hb
        subst e
        exact hc.2 ha⟩
    · intro k hk
      rw [kyK, List.map_append, List.mem_append] at hk
      rcases hk with hk | hk
      · exact h.lt k hk
      · rw [List.map_cons, List.map_nil, List.mem_singleton] at hk
        rw [hk]
        exact ho
    · intro k hk
      rcases List.mem_append.mp hk with hk | hk
      · exact mono k (h.wk k hk)
      · rw [List.mem_singleton.mp hk]
        exact oin
    · intro i k e
      by_cases hi : i < s.tk.length
      · rw [List.getElem?_append_left hi] at e
        exact h.src0 i k e
      · rw [List.getElem?_append_right (by omega)] at e
        have := List.mem_of_getElem? e
        rw [List.mem_singleton] at this
        cases this
    · intro i k r e
      by_cases hi : i < s.tk.length
      · rw [List.getElem?_append_left hi] at e
        obtain ⟨h1, k1, j1, o1, h2, h3, h4⟩ := h.src i k r e
        exact ⟨h1, k1, j1, o1, h2, h3, by rw [List.getElem?_append_left (by omega)]; exact h4⟩
      · rw [List.getElem?_append_right (by omega)] at e
        have := List.mem_of_getElem? e
        rw [List.mem_singleton] at this
        cases this
        exact ⟨hc.1, _, j, _, hk0, by omega, by rw [List.getElem?_append_left hjl]; exact hj⟩
    · intro k hk1 hk2 hk3 r hr1 hr2
      have hn : k ∉ s.wt := fun z => hk2 (List.mem_append_left _ z)
      rw [kyK, List.map_append, List.mem_append] at hk1
      rcases hk1 with hk1 | hk1
      · exact h.cl k hk1 hn hk3 r hr1 hr2
      · rw [List.map_cons, List.map_nil, List.mem_singleton] at hk1
        exact absurd (List.mem_append_right _ (by rw [hk1]; exact List.mem_cons_self)) hk2
  · rename_i hc
    refine ⟨h, fun e => ?_⟩
    by_cases q : o ∈ kyK s.tk
    · exact q
    · exact absurd ⟨e, q⟩ hc
theorem foldIn {g : Nat → Int} (hg : g = f rc) : ∀ (n : Nat), n ≤ nk → ∀ s, WI nk lots f l ks c rc s → rc ∈ kyT s.tt →
    WI nk lots f l ks c rc ((List.range n).foldl (inS g rc) s) ∧ ((List.range n).foldl (inS g rc) s).tt = s.tt ∧ (∀ k ∈ kyK s.tk, k ∈ kyK ((List.range n).foldl (inS g rc) s).tk) ∧
    ((List.range n).foldl (inS g rc) s).wt.length + s.tk.length = s.wt.length + ((List.range n).foldl (inS g rc) s).tk.length ∧ ∀ o, o < n → 0 < g o → o ∈ kyK ((List.range n).foldl (inS g rc) s).tk
  | 0, _, s, h, _ => ⟨h, rfl, fun _ hk => hk, rfl, fun o ho => absurd ho (Nat.not_lt_zero o)⟩
  | n + 1, hn, s, h, hr => by
    obtain ⟨h1, h2, h3, h4, h5⟩ := foldIn hg n (by omega) s h hr
    rw [List.range_succ, List.foldl_append]
    generalize (List.range n).foldl (inS g rc) s = t at h1 h2 h3 h4 h5 ⊢
    show WI nk lots f l ks c rc (inS g rc t n) ∧ (inS g rc t n).tt = s.tt ∧ (∀ k ∈ kyK s.tk, k ∈ kyK (inS g rc t n).tk) ∧ (inS g rc t n).wt.length + s.tk.length = s.wt.length + (inS g rc t n).tk.length ∧ ∀ o, o < n + 1 → 0 < g o → o ∈ kyK (inS g rc t n).tk
    obtain ⟨i1, i2⟩ := h1.inS hg (show n < nk by omega) (by rw [h2]; exact hr)
    refine ⟨i1, inS_tt.trans h2, fun k hk => inS_mono (h3 k hk), ?_, fun o ho e => ?_⟩
    · have := inS_len (s := t) (g := g) (r := rc) (o := n)
      omega
    · by_cases q : o = n
      · subst q
        exact i2 e
      · exact inS_mono (h5 o (by omega) e)
theorem rqS_ok {k r : Nat} (h : WI nk lots f l ks c nt s) (hnt : r ≠ nt) (hr : r ∈ l) (hk : k ∈ kyK s.tk) (free : ∀ r ∈ l, r ≠ nt) :
    WI nk lots f l ks c nt (rqS nk lots f k s r) ∧ (∀ x ∈ kyT s.tt, x ∈ kyT (rqS nk lots f k s r).tt) ∧ (∀ x ∈ kyK s.tk, x ∈ kyK (rqS nk lots f k s r).tk) ∧
    (rqS nk lots f k s r).wt.length + s.tk.length = s.wt.length + (rqS nk lots f k s r).tk.length ∧ (k ∈ lots.getD r [] → r ∈ kyT (rqS nk lots f k s r).tt) := by
  unfold rqS
  split
  · rename_i hc
    have tmono : ∀ x, x ∈ kyT s.tt → x ∈ kyT (s.tt ++ [(r, k)]) := fun x hx => by
      rw [kyT, List.map_append]
      exact List.mem_append_left _ hx
    have rin : r ∈ kyT (s.tt ++ [(r, k)]) := by
      rw [kyT, List.map_append]
      exact List.mem_append_right _ List.mem_cons_self
    have h0 : WI nk lots f l ks c r ⟨s.tk, s.tt ++ [(r, k)], s.wt⟩ := by
      refine ⟨h.nd, h.lt, h.wk, h.ki, h.src0, fun i k' r' e => ?_, ?_, fun r' k' e => ?_, fun k' h1 h2 h3 r' h4 h5 => tmono r' (h.cl k' h1 h2 h3 r' h4 h5), fun r' h1 h2 o ho e => ?_⟩
      · obtain ⟨h1, k0, j, o, h2, h3⟩ := h.src i k' r' e
        exact ⟨h1, k0, j, o, List.mem_append_left _ h2, h3⟩
      · show (kyT (s.tt ++ _)).Nodup
        rw [kyT, List.map_append]
        exact List.nodup_append.mpr ⟨h.td, List.nodup_cons.mpr ⟨List.not_mem_nil, List.nodup_nil⟩, fun a ha b hb e => by
          rw [List.map_cons, List.map_nil, List.mem_singleton] at hb
          subst hb
          subst e
          exact hc.1 ha⟩
      · rcases List.mem_append.mp e with e | e
        · exact h.tl r' k' e
        · rw [List.mem_singleton] at e
          cases e
          exact ⟨hr, hc.2, hk⟩
      · have h1 : r' ∈ kyT (s.tt ++ [(r, k)]) := h1
        rw [kyT, List.map_append, List.mem_append] at h1
        rcases h1 with h1 | h1
        · refine h.co r' h1 (fun z => ?_) o ho e
          obtain ⟨⟨a, b⟩, hm, e⟩ := List.mem_map.mp h1
          cases e
          exact free _ (h.tl _ _ hm).1 z
        · rw [List.map_cons, List.map_nil, List.mem_singleton] at h1
          exact absurd h1 h2
    obtain ⟨h1, h2, h3, h4, h5⟩ := foldIn (g := f r) rfl nk (Nat.le_refl _) _ h0 rin
    refine ⟨⟨h1.nd, h1.lt, h1.wk, h1.ki, h1.src0, h1.src, h1.td, h1.tl, h1.cl, fun r' q1 _ o ho e => ?_⟩, fun x hx => by rw [h2]; exact tmono x hx, h3, h4, fun _ => by rw [h2]; exact rin⟩
    by_cases q : r' = r
    · subst q
      exact h5 o ho e
    · exact h1.co r' q1 q o ho e
  · rename_i hc
    refine ⟨h, fun _ hx => hx, fun _ hx => hx, rfl, fun e => ?_⟩
    by_cases q : r ∈ kyT s.tt
    · exact q
    · exact absurd ⟨q, e⟩ hc
theorem foldRq {k : Nat} (free : ∀ r ∈ l, r ≠ nt) : ∀ (l' : List Nat) (s : Ws), (∀ r ∈ l', r ∈ l) → WI nk lots f l ks c nt s → k ∈ kyK s.tk →
    WI nk lots f l ks c nt (l'.foldl (rqS nk lots f k) s) ∧ (∀ x ∈ kyT s.tt, x ∈ kyT (l'.foldl (rqS nk lots f k) s).tt) ∧ (∀ x ∈ kyK s.tk, x ∈ kyK (l'.foldl (rqS nk lots f k) s).tk) ∧
    (l'.foldl (rqS nk lots f k) s).wt.length + s.tk.length = s.wt.length + (l'.foldl (rqS nk lots f k) s).tk.length ∧ ∀ r ∈ l', k ∈ lots.getD r [] → r ∈ kyT (l'.foldl (rqS nk lots f k) s).tt
  | [], s, _, h, _ => ⟨h, fun _ hx => hx, fun _ hx => hx, rfl, fun _ hr => nomatch hr⟩
  | r :: l', s, hl, h, hk => by
    obtain ⟨h1, h2, h3, h4, h5⟩ := rqS_ok (k := k) (r := r) h (free r (hl r List.mem_cons_self)) (hl r List.mem_cons_self) hk free
    obtain ⟨g1, g2, g3, g4, g5⟩ := foldRq free l' (rqS nk lots f k s r) (fun r hr => hl r (List.mem_cons_of_mem _ hr)) h1 (h3 k hk)
    refine ⟨g1, fun x hx => g2 x (h2 x hx), fun x hx => g3 x (h3 x hx), ?_, fun r' hr' e => ?_⟩
    · show (l'.foldl (rqS nk lots f k) (rqS nk lots f k s r)).wt.length + s.tk.length = s.wt.length + (l'.foldl (rqS nk lots f k) (rqS nk lots f k s r)).tk.length
      omega
    · rcases List.mem_cons.mp hr' with q | q
      · subst q
        exact g2 _ (h5 e)
      · exact g5 r' q e
theorem nodup_len : ∀ (l : List Nat) (n : Nat), l.Nodup → (∀ k ∈ l, k < n) → l.length ≤ n := fun l n hn hl => by
  induction n generalizing l with
  | zero => cases l with
    | nil => exact Nat.le_refl _
    | cons a l => exact absurd (hl a List.mem_cons_self) (Nat.not_lt_zero a)
  | succ n ih =>
    have h1 := ih (l.erase n) (hn.erase n) fun k hk => by
      have h2 := hl k (List.mem_of_mem_erase hk)
      have h3 : k ≠ n := fun z => by
        rw [z] at hk
        exact hn.not_mem_erase hk
      omega
    have h2 := List.length_erase (a := n) (l := l)
    split at h2 <;> omega
/-- one kind taken from what waits -/
def popS (nk : Nat) (lots : List (List Nat)) (f : Nat → Nat → Int) (l : List Nat) (k : Nat) (s : Ws) (wt : List Nat) : Ws := l.foldl (rqS nk lots f k) ⟨s.tk, s.tt, wt⟩
theorem WI.tk_len (h : WI nk lots f l ks c rc s) : s.tk.length ≤ nk := by
  have h1 := nodup_len (kyK s.tk) nk h.nd h.lt
  rw [List.length_map] at h1
  exact h1
theorem popS_ok {k : Nat} {wt : List Nat} (free : ∀ r ∈ l, r ≠ nt) (h : WI nk lots f l ks nk nt s) (e : s.wt = k :: wt) :
    WI nk lots f l ks nk nt (popS nk lots f l k s wt) ∧ nk + (popS nk lots f l k s wt).wt.length - (popS nk lots f l k s wt).tk.length < nk + s.wt.length - s.tk.length := by
  have hk : k ∈ kyK s.tk := h.wk k (by rw [e]; exact List.mem_cons_self)
  have h0 : WI nk lots f l ks k nt ⟨s.tk, s.tt, wt⟩ := ⟨h.nd, h.lt, fun k' hk' => h.wk k' (by rw [e]; exact List.mem_cons_of_mem _ hk'), h.ki, h.src0, h.src, h.td, h.tl, fun k' h1 h2 h3 r h4 h5 => by
    refine h.cl k' h1 (fun z => ?_) (Nat.ne_of_lt (h.lt k' h1)) r h4 h5
    rw [e] at z
    rcases List.mem_cons.mp z with z | z
    · exact h3 z
    · exact h2 z, h.co⟩
  obtain ⟨g1, g2, g3, g4, g5⟩ := foldRq free l _ (fun _ hr => hr) h0 hk
  have hl := h.tk_len
  have hl2 := g1.tk_len
  refine ⟨⟨g1.nd, g1.lt, g1.wk, g1.ki, g1.src0, g1.src, g1.td, g1.tl, fun k' h1 h2 _ r h4 h5 => ?_, g1.co⟩, ?_⟩
  · by_cases q : k' = k
    · subst q
      exact g5 r h4 h5
    · exact g1.cl k' h1 h2 q r h4 h5
  · have g4 : (popS nk lots f l k s wt).wt.length + s.tk.length = wt.length + (popS nk lots f l k s wt).tk.length := g4
    rw [e, List.length_cons]
    have hl2 : (popS nk lots f l k s wt).tk.length ≤ nk := hl2
    omega
theorem WI.start (hn : ks.Nodup) (hl : ∀ k ∈ ks, k < nk) : WI nk lots f l ks nk nt ⟨ks.map fun k => (k, none), [], ks⟩ := by
  have e : kyK (ks.map fun k => (k, (none : Option Nat))) = ks := by rw [kyK, List.map_map]; exact List.map_id _
  refine ⟨by show (kyK (ks.map fun k => (k, (none : Option Nat)))).Nodup; rw [e]; exact hn, fun k hk => hl k (by rw [← e]; exact hk), fun k hk => by show k ∈ kyK (ks.map fun k => (k, (none : Option Nat))); rw [e]; exact hk, fun k hk => by show k ∈ kyK (ks.map fun k => (k, (none : Option Nat))); rw [e]; exact hk, fun i k q => ?_, fun i k r q => ?_, List.nodup_nil, (fun _ _ z => nomatch z), (fun k hk hw _ => absurd (show k ∈ ks by rw [← e]; exact hk) hw), (fun _ z => nomatch z)⟩
  · have q : (ks.map fun k => (k, (none : Option Nat)))[i]? = some (k, none) := q
    rw [List.getElem?_map] at q
    cases z : ks[i]? with
    | none => rw [z] at q; cases q
    | some k' =>
      rw [z] at q
      cases q
      exact List.mem_of_getElem? z
  · have q : (ks.map fun k => (k, (none : Option Nat)))[i]? = some (k, some r) := q
    rw [List.getElem?_map] at q
    cases z : ks[i]? with
    | none => rw [z] at q; cases q
    | some k' =>
      rw [z] at q
      cases q
end
/-- nothing waits: what ways_from tells -/
def Ways (nk nt : Nat) (lots : List (List Nat)) (f : Nat → Nat → Int) (l ks : List Nat) (tk : List (Nat × Option Nat)) (tt : List (Nat × Nat)) : Prop := WI nk lots f l ks nk nt ⟨tk, tt, []⟩
end K45
/-! Reached kinds, reached types, ways: as the program finds them. -/
namespace K45
section
variable {nk nt : Nat} {lots : List (List Nat)} {f : Nat → Nat → Int} {l : List Nat} {S : Nat → Int} {tk : List (Nat × Option Nat)} {tt : List (Nat × Nat)} {b : Nat → Option Int}
/-- kinds that are open -/
def opn (nk nt : Nat) (lots : List (List Nat)) (S : Nat → Int) (f : Nat → Nat → Int) (l : List Nat) : List Nat := (kot nk lots l).filter fun k => decide (0 < S k - colS nt f k)
theorem mem_opn {k : Nat} : k ∈ opn nk nt lots S f l ↔ k < nk ∧ (∃ r ∈ l, k ∈ lots.getD r []) ∧ colS nt f k < S k := by
  unfold opn kot
  rw [List.mem_filter, List.mem_filter, List.mem_range, List.any_eq_true, decide_eq_true_eq]
  constructor
  · rintro ⟨⟨h1, r, h2, h3⟩, h4⟩
    exact ⟨h1, ⟨r, h2, List.contains_iff_mem.mp h3⟩, by omega⟩
  · rintro ⟨h1, ⟨r, h2, h3⟩, h4⟩
    exact ⟨⟨h1, r, h2, List.contains_iff_mem.mpr h3⟩, by omega⟩
theorem opn_nodup : (opn nk nt lots S f l).Nodup := (List.nodup_range.filter _).filter _
theorem opn_lt {k : Nat} (h : k ∈ opn nk nt lots S f l) : k < nk := (mem_opn.mp h).1
theorem mem_ky {k : Nat} (h : k ∈ kyK tk) : ∃ (i : Nat) (o : Option Nat), tk[i]? = some (k, o) := by
  obtain ⟨⟨a, o⟩, hm, e⟩ := List.mem_map.mp h
  cases e
  obtain ⟨i, hi⟩ := List.getElem?_of_mem hm
  exact ⟨i, o, hi⟩
theorem ky_of {i k : Nat} {o : Option Nat} (h : tk[i]? = some (k, o)) : k ∈ kyK tk := List.mem_map.mpr ⟨_, List.mem_of_getElem? h, rfl⟩
theorem kt_of {r k : Nat} (h : (r, k) ∈ tt) : r ∈ kyT tt := List.mem_map.mpr ⟨_, h, rfl⟩
theorem mem_kt {r : Nat} (h : r ∈ kyT tt) : ∃ k, (r, k) ∈ tt := by
  obtain ⟨⟨a, k⟩, hm, e⟩ := List.mem_map.mp h
  cases e
  exact ⟨k, hm⟩
theorem tk_inj {i j k : Nat} {o o' : Option Nat} (nd : (kyK tk).Nodup) (h : tk[i]? = some (k, o)) (h' : tk[j]? = some (k, o')) : i = j := by
  have h1 : (kyK tk)[i]? = some k := by rw [List.getElem?_map, h]; rfl
  have h2 : (kyK tk)[j]? = some k := by rw [List.getElem?_map, h']; rfl
  exact (List.getElem?_inj (List.getElem?_eq_some_iff.mp h1).1 nd).mp (h1.trans h2.symm)
/-- all that the program reaches is reached -/
theorem Ways.sound (h : Ways nk nt lots f l (opn nk nt lots S f l) tk tt) (hl : ∀ r ∈ l, r < nt) : ∀ (i k : Nat) (o : Option Nat), tk[i]? = some (k, o) → RK nk nt (accL lots) S (isIn l) f k := by
  intro i
  induction i using Nat.strongRecOn with
  | ind i ih =>
    intro k o e
    cases o with
    | none =>
      obtain ⟨h1, ⟨r, h2, h3⟩, h4⟩ := mem_opn.mp (h.src0 i k e)
      exact .start h1 (hl r h2) h2 h3 h4
    | some r =>
      obtain ⟨h1, k0, j, o, h2, h3, h4⟩ := h.src i k r e
      obtain ⟨g1, g2, g3⟩ := h.tl r k0 h2
      exact .step (ih j h3 k0 o h4) (hl r g1) g1 g2 h1
theorem Ways.rk (h : Ways nk nt lots f l (opn nk nt lots S f l) tk tt) (hl : ∀ r ∈ l, r < nt) (ht : Tk nk nt (accL lots) S b (isIn l) f) (k : Nat) : k ∈ kyK tk ↔ RK nk nt (accL lots) S (isIn l) f k := by
  constructor
  · intro hk
    obtain ⟨i, o, e⟩ := mem_ky hk
    exact h.sound hl i k o e
  · intro hk
    induction hk with
    | start h1 h2 h3 h4 h5 => exact h.ki _ (mem_opn.mpr ⟨h1, ⟨_, h3, h4⟩, h5⟩)
    | @step k r k' h1 h2 h3 h4 h5 ih => exact h.co r (h.cl k ih List.not_mem_nil (Nat.ne_of_lt (h.lt k ih)) r h3 h4) (Nat.ne_of_lt h2) k' (ht.out r k' h5).2.1 h5
theorem Ways.rt (h : Ways nk nt lots f l (opn nk nt lots S f l) tk tt) (hl : ∀ r ∈ l, r < nt) (ht : Tk nk nt (accL lots) S b (isIn l) f) (r : Nat) : r ∈ kyT tt ↔ RT nk nt (accL lots) S (isIn l) f r := by
  constructor
  · intro hr
    obtain ⟨k, hk⟩ := mem_kt hr
    obtain ⟨g1, g2, g3⟩ := h.tl r k hk
    exact ⟨hl r g1, g1, k, (h.rk hl ht k).mp g3, g2⟩
  · rintro ⟨h1, h2, k, h3, h4⟩
    have hk := (h.rk hl ht k).mpr h3
    exact h.cl k hk List.not_mem_nil (Nat.ne_of_lt (h.lt k hk)) r h2 h4
/-- the way that ends with a type, read off what is kept -/
inductive Wy (tk : List (Nat × Option Nat)) (tt : List (Nat × Nat)) : Nat → List (Nat × Nat) → Prop
  | base {r k : Nat} : (r, k) ∈ tt → (k, none) ∈ tk → Wy tk tt r [(k, r)]
  | step {r k r' : Nat} {w : List (Nat × Nat)} : (r, k) ∈ tt → (k, some r') ∈ tk → Wy tk tt r' w → Wy tk tt r (w ++ [(k, r)])
theorem Wy.ne {r : Nat} {w : List (Nat × Nat)} (h : Wy tk tt r w) : w ≠ [] := by
  cases h with
  | base _ _ => exact List.cons_ne_nil _ _
  | step _ _ _ => exact List.append_ne_nil_of_right_ne_nil _ (List.cons_ne_nil _ _)
theorem Ways.wy_ex {ks : List Nat} (h : Ways nk nt lots f l ks tk tt) : ∀ (i k : Nat) (o : Option Nat), tk[i]? = some (k, o) → ∀ r, (r, k) ∈ tt → ∃ w, Wy tk tt r w ∧ w.length ≤ i + 1 := by
  intro i
  induction i using Nat.strongRecOn with
  | ind i ih =>
    intro k o e r hr
    cases o with
    | none => exact ⟨_, .base hr (List.mem_of_getElem? e), by simp⟩
    | some r' =>
      obtain ⟨h1, k0, j, o, h2, h3, h4⟩ := h.src i k r' e
      obtain ⟨w, hw, hlen⟩ := ih j h3 k0 o h4 r' h2
      exact ⟨_, .step hr (List.mem_of_getElem? e) hw, by rw [List.length_append, List.length_singleton]; omega⟩
theorem Ways.wy {ks : List Nat} (h : Ways nk nt lots f l ks tk tt) {r : Nat} (hr : r ∈ kyT tt) : ∃ w, Wy tk tt r w ∧ w.length ≤ nk := by
  obtain ⟨k, hk⟩ := mem_kt hr
  obtain ⟨i, o, e⟩ := mem_ky (h.tl r k hk).2.2
  obtain ⟨w, hw, hl⟩ := h.wy_ex i k o e r hk
  have h1 := h.tk_len
  have h2 := (List.getElem?_eq_some_iff.mp e).1
  have h1 : tk.length ≤ nk := h1
  exact ⟨w, hw, by omega⟩
/-- what is true of it -/
structure WyIs (nk nt : Nat) (lots : List (List Nat)) (f : Nat → Nat → Int) (l ks : List Nat) (tk : List (Nat × Option Nat)) (r : Nat) (w : List (Nat × Nat)) : Prop where
  ok : ∀ (i k r : Nat), w[i]? = some (k, r) → k < nk ∧ r < nt ∧ r ∈ l ∧ k ∈ lots.getD r []
  lets : ∀ (i k r k' r' : Nat), w[i]? = some (k, r) → w[i + 1]? = some (k', r') → 0 < f r k'
  nd : (w.map (·.1)).Nodup
  last : ∃ k, w.getLast? = some (k, r)
  first : ∃ k0 r0 v, w = (k0, r0) :: v ∧ k0 ∈ ks
theorem Ways.wy_is {ks : List Nat} (h : Ways nk nt lots f l ks tk tt) (hl : ∀ r ∈ l, r < nt) {r : Nat} {w : List (Nat × Nat)} (hw : Wy tk tt r w) :
    WyIs nk nt lots f l ks tk r w ∧ ∃ (k i : Nat) (o : Option Nat), w.getLast? = some (k, r) ∧ (r, k) ∈ tt ∧ tk[i]? = some (k, o) ∧ ∀ k' ∈ w.map (·.1), ∃ (j : Nat) (o' : Option Nat), j ≤ i ∧ tk[j]? = some (k', o') := by
  induction hw with
  | @base r k h1 h2 =>
    obtain ⟨g1, g2, g3⟩ := h.tl r k h1
    obtain ⟨i, hi⟩ := List.getElem?_of_mem h2
    refine ⟨⟨fun i k' r' e => ?_, fun i k' r' k'' r'' e1 e2 => ?_, ?_, ⟨k, rfl⟩, ⟨k, r, [], rfl, h.src0 i k hi⟩⟩, k, i, none, rfl, h1, hi, fun k' hk' => ?_⟩
    · have := List.mem_of_getElem? e
      rw [List.mem_singleton] at this
      cases this
      exact ⟨h.lt k g3, hl r g1, g1, g2⟩
    · have := (List.getElem?_eq_some_iff.mp e2).1
      simp at this
    · exact List.nodup_cons.mpr ⟨List.not_mem_nil, List.nodup_nil⟩
    · rw [List.map_cons, List.map_nil, List.mem_singleton] at hk'
      subst hk'
      exact ⟨i, none, Nat.le_refl _, hi⟩
  | @step r k r' w h1 h2 hw ih =>
    obtain ⟨⟨i1, i2, i3, i4, i5⟩, kl, il, ol, j1, j2, j3, j4⟩ := ih
    obtain ⟨g1, g2, g3⟩ := h.tl r k h1
    obtain ⟨i, hi⟩ := List.getElem?_of_mem h2
    obtain ⟨s1, k0, j, o, s2, s3, s4⟩ := h.src i k r' hi
    have ek : k0 = kl := by
      obtain ⟨n1, e1⟩ := List.getElem?_of_mem s2
      obtain ⟨n2, e2⟩ := List.getElem?_of_mem j2
      have q1 : (kyT tt)[n1]? = some r' := by rw [List.getElem?_map, e1]; rfl
      have q2 : (kyT tt)[n2]? = some r' := by rw [List.getElem?_map, e2]; rfl
      have e : n1 = n2 := (List.getElem?_inj (List.getElem?_eq_some_iff.mp q1).1 h.td).mp (q1.trans q2.symm)
      subst e
      rw [e1] at e2
      cases e2
      rfl
    subst ek
    have ej : j = il := tk_inj h.nd s4 j3
    subst ej
    have lower : ∀ k' ∈ w.map (·.1), ∃ (j' : Nat) (o' : Option Nat), j' < i ∧ tk[j']? = some (k', o') := fun k' hk' => by
      obtain ⟨j', o', q1, q2⟩ := j4 k' hk'
      exact ⟨j', o', by omega, q2⟩
    refine ⟨⟨fun n k' r'' e => ?_, fun n k' r'' k'' r3 e1 e2 => ?_, ?_, ⟨k, by rw [List.getLast?_concat]⟩, ?_⟩, k, i, some r', by rw [List.getLast?_concat], h1, hi, fun k' hk' => ?_⟩
    · rw [List.getElem?_append] at e
      split at e
      · exact i1 n k' r'' e
      · have := List.mem_of_getElem? e
        rw [List.mem_singleton] at this
        cases this
        exact ⟨h.lt k g3, hl r g1, g1, g2⟩
    · by_cases hn : n + 1 < w.length
      · rw [List.getElem?_append_left (by omega)] at e1
        rw [List.getElem?_append_left hn] at e2
        exact i2 n k' r'' k'' r3 e1 e2
      · have hlt := (List.getElem?_eq_some_iff.mp e2).1
        rw [List.length_append, List.length_singleton] at hlt
        have hn' : n + 1 = w.length := by omega
        rw [List.getElem?_append_right (by omega), hn', Nat.sub_self] at e2
        have q : (k, r) = (k'', r3) := by simpa using e2
        cases q
        rw [List.getElem?_append_left (by omega)] at e1
        rw [List.getLast?_eq_getElem?] at j1
        have : w.length - 1 = n := by omega
        rw [this, e1] at j1
        cases j1
        exact s1
    · rw [List.map_append]
      refine List.nodup_append.mpr ⟨i3, List.nodup_cons.mpr ⟨List.not_mem_nil, List.nodup_nil⟩, fun a ha b hb e => ?_⟩
      rw [List.map_cons, List.map_nil, List.mem_singleton] at hb
      subst hb
      subst e
      obtain ⟨j', o', q1, q2⟩ := lower _ ha
      have := tk_inj h.nd q2 hi
      omega
    · obtain ⟨a, c, v, e, q⟩ := i5
      exact ⟨a, c, v ++ [(k, r)], by rw [e]; rfl, q⟩
    · rw [List.map_append, List.mem_append] at hk'
      rcases hk' with hk' | hk'
      · obtain ⟨j', o', q1, q2⟩ := lower k' hk'
        exact ⟨j', o', by omega, q2⟩
      · rw [List.map_cons, List.map_nil, List.mem_singleton] at hk'
        subst hk'
        exact ⟨i, _, Nat.le_refl _, hi⟩
/-- it is a way, at any width that its parts leave -/
theorem WyIs.way {ks : List Nat} {r : Nat} {w : List (Nat × Nat)} {m : Int} (h : WyIs nk nt lots f l ks tk r w) (hm : ∀ (i k r k' r' : Nat), w[i]? = some (k, r) → w[i + 1]? = some (k', r') → m ≤ f r k') : IsWay nk nt (accL lots) (isIn l) f m w :=
  ⟨h.ok, hm, h.nd⟩
end
end K45
/-! A set of ints, made by a comprehension with two clauses. Both clauses are one kind of loop: clause_run tells it once, for a turn whose body may be anything. -/
namespace K45
open PySem PySem.Spec PyProof.Rows L2
/-- the comprehension -/
abbrev twoE (elt t0 i0 t1 i1 : Expr) (fs0 fs1 : List Expr) (sc : Scope) (pos : Pos) : Expr := .SetComp elt [⟨t0, i0, fs0, 0⟩, ⟨t1, i1, fs1, 0⟩] sc pos
/-- do all tests hold? -/
abbrev passes (tests : List Expr) (env : Env) : Sem Bool :=
  forIn tests true fun c so => if so = true then do let b ← isTrue c env (eval c env); pure (ForInStep.yield b) else pure (ForInStep.yield so)
/-- a turn of a clause; its body is handed what comes behind it -/
def aTurn (tgt src : Expr) (tests : List Expr) (body : Sem Fin → Sem Fin) (rest : Sem Fin) (it : Value) (env : Env) : Sem Fin :=
  standAt src.pos >>= fun _ => pyNext it >>= fun r => match r with
    | none => pure (.done .next)
    | some v => letOwnedTupleGo tgt it v >>= fun _ => assign tgt env v >>= fun _ => passes tests env >>= fun b => if b = true then body rest else rest
/-- the outer clause's body: the inner clause is run -/
def runInner (E i1 : Expr) (acc : Value) (env : Env) (rest : Sem Fin) : Sem Fin :=
  eval i1 env >>= fun x => standAt i1.pos >>= fun _ => foldedSetIterable i1 env x >>= fun y => holding [y] (pyIter y) >>= fun j => runOwn (.compStart E 1 j acc env) env >>= fun _ => rest
/-- the inner clause's body: one element goes in -/
def putOne (elt : Expr) (acc : Value) (env : Env) (rest : Sem Fin) : Sem Fin :=
  (eval elt env >>= fun x => standAt elt.pos >>= fun _ => call (.builtin "set.add") [acc, x] >>= fun _ => pure PUnit.unit) >>= fun _ => rest
section
variable (elt t0 i0 t1 i1 : Expr) (fs0 fs1 : List Expr) (sc : Scope) (pos : Pos) (it acc : Value) (env : Env)
theorem outer_turn : compTurn (twoE elt t0 i0 t1 i1 fs0 fs1 sc pos) 0 it acc env = aTurn t0 i0 fs0 (runInner (twoE elt t0 i0 t1 i1 fs0 fs1 sc pos) i1 acc env) (again (.compLoop (twoE elt t0 i0 t1 i1 fs0 fs1 sc pos) 0 it acc env)) it env := rfl
theorem inner_turn : compTurn (twoE elt t0 i0 t1 i1 fs0 fs1 sc pos) 1 it acc env = aTurn t1 i1 fs1 (putOne elt acc env) (again (.compLoop (twoE elt t0 i0 t1 i1 fs0 fs1 sc pos) 1 it acc env)) it env := rfl
end

section
variable {prog : Program} {w : World} {A : Around} {R : Result → Shared → Prop} {env : Env} {acc : Value} {s : Shared} {P : Shared → Prop} {B : Value → Shared → Prop}
/-- where an error of a block's own code ends -/
abbrev Bad (prog : Program) (w : World) (A : Around) (env : Env) (R : Result → Shared → Prop) : Value → Shared → Prop := notedBy (model prog w) A env fun x z => R (.error x) z
/-- the body reaches its rest, at P -/
abbrev Does (prog : Program) (w : World) (A : Around) (B : Value → Shared → Prop) (body : Sem Fin → Sem Fin) (P : Shared → Prop) (s : Shared) : Prop :=
  ∀ (rest : Sem Fin) (Q : Fin → Shared → Prop), (∀ z, P z → wpAny (model prog w) A rest Q B z) → wpAny (model prog w) A (body rest) Q B s
theorem does_inner {E i1 : Expr} (hs : ∀ x, foldedSetIterable i1 env x = pure x)
    (h : wpAny (model prog w) A (eval i1 env) (fun x a => wpAny (model prog w) A (pyIter x) (fun j b => codeAny (model prog w) A (.compStart E 1 j acc env) (fun r z => match r with | .ok _ => P z | .error _ => False) b) B a) B s) :
    Does prog w A B (runInner E i1 acc env) P s := fun rest Q k => by
  refine wpAny_bind (thn h fun x a ha => wpAny_bind (wpAny_standAt (wpAny_bind (wpAny_of_eq (hs x) (wpAny_bind (wpAny_holding (thn ha fun j b hb => wpAny_bind (wpAny_runOwn ?_))))))))
  rw [Around.mark_none]
  refine codeAny_mono hb fun r z hz => ?_
  match r, hz with
  | .ok _, hz => first | exact k z hz | exact wpAny_pure (k z hz) | exact wpAny_bind (wpAny_pure (k z hz))
  | .error _, hz => exact False.elim hz
theorem does_put {elt : Expr} (h : wpAny (model prog w) A (eval elt env) (fun x a => wpAny (model prog w) A (call (.builtin "set.add") [acc, x]) (fun _ z => P z) B a) B s) :
    Does prog w A B (putOne elt acc env) P s := fun rest Q k =>
  wpAny_bind (wpAny_bind (thn h fun _ a ha => wpAny_bind (wpAny_standAt (wpAny_bind (thn ha fun _ z hz => wpAny_pure (k z hz))))))
/-- all turns of a clause: the measure falls at each of them -/
theorem clause_ok {elt tgt src : Expr} {gens : List Comprehension} {sc : Scope} {pos : Pos} {d : Nat} {tests : List Expr} {it : Value} {body : Sem Fin → Sem Fin} (hd : compTurn (.SetComp elt gens sc pos) d it acc env = aTurn tgt src tests body (again (.compLoop (.SetComp elt gens sc pos) d it acc env)) it env) (I : Nat → Shared → Prop)
    (turn : ∀ n z, I n z → wpAny (model prog w) A (pyNext it) (fun r a => match r with
      | none => R (.ok .next) a
      | some v => wpAny (model prog w) A (letOwnedTupleGo tgt it v) (fun _ b => wpAny (model prog w) A (assign tgt env v) (fun _ c => wpAny (model prog w) A (passes tests env)
          (fun so e => if so = true then Does prog w A (Bad prog w A env R) body (fun z => ∃ m, m < n ∧ I m z) e else ∃ m, m < n ∧ I m e) (Bad prog w A env R) c) (Bad prog w A env R) b) (Bad prog w A env R) a) (Bad prog w A env R) z)
    (n : Nat) (h : I n s) : codeAny (model prog w) A (.compLoop (.SetComp elt gens sc pos) d it acc env) R s := codeAny_loop rfl I (fun n z hz => by
  show wpAny _ A ((compTurn (.SetComp elt gens sc pos) d it acc env).onRaise fun x => do noteFrame x env; theTreesLotGoes x) _ _ z
  rw [hd]
  refine wpAny_noted (wpAny_bind (wpAny_standAt (wpAny_bind (thn (turn n z hz) fun r a ha => ?_))))
  match r, ha with
  | none, ha => exact wpAny_pure ha
  | some v, ha =>
    refine wpAny_bind (thn ha fun _ b hb => wpAny_bind (thn hb fun _ c hc => wpAny_bind (thn hc fun so e he => ?_)))
    match so, he with
    | false, he => exact wpAny_pure ⟨rfl, he⟩
    | true, he => exact he _ _ fun z hz => wpAny_pure ⟨rfl, hz⟩) n h
/-- from a clause's source to its turns -/
theorem start_ok {elt t0 i0 t1 i1 : Expr} {fs0 fs1 : List Expr} {sc : Scope} {pos : Pos} {it : Value} (loop : codeAny (model prog w) A (.compLoop (twoE elt t0 i0 t1 i1 fs0 fs1 sc pos) 1 it acc env) R s)
    (self : wpAny (model prog w) A (pyIter it) (fun j z => codeAny (model prog w) A (.compLoop (twoE elt t0 i0 t1 i1 fs0 fs1 sc pos) 1 j acc env) R z) (Bad prog w A env R) s) :
    codeAny (model prog w) A (.compStart (twoE elt t0 i0 t1 i1 fs0 fs1 sc pos) 1 it acc env) R s := by
  refine codeAny_of_tree (show wpAny _ _ ((compStart (twoE elt t0 i0 t1 i1 fs0 fs1 sc pos) 1 it acc env).onRaise fun x => do noteFrame x env; standAt theWindowsPlace) _ _ s from wpAny_notedAt ?_)
  show wpAny _ _ (ask >>= fun w => _) _ _ s
  refine wpAny_bind (wpAny_askSetting (wpAny_ite ?_))
  split
  · first | exact wpAny_pure ⟨rfl, loop⟩ | exact wpAny_bind (wpAny_pure (wpAny_pure ⟨rfl, loop⟩))
  · exact wpAny_bind (wpAny_rule (wpAny_bind (wpAny_standAt (wpAny_bind (thn self fun _ z hz => wpAny_pure ⟨rfl, hz⟩)))))
end

/-! ### the slots -/
/-- σ' holds all that σ0 holds -/
def Knows (σ0 σ' : L2.St) : Prop := σ0.length = σ'.length ∧ ∀ (j : Nat) v, σ0[j]? = some (some v) → σ'[j]? = some (some v)
theorem knows_wiped (σ' : L2.St) (vs : List Nat) : Knows (wipe σ' vs) σ' := ⟨wipe_length _ _, fun _ _ e => (wipe_some e).1⟩
theorem knows_less (σ' : L2.St) {vs vs1 : List Nat} (hv : ∀ i ∈ vs1, i ∈ vs) : Knows (wipe σ' vs) (wipe σ' vs1) :=
  ⟨(wipe_length _ _).trans (wipe_length _ _).symm, fun _ _ e => (wipe_out fun z => (wipe_some e).2 (hv _ z)).trans (wipe_some e).1⟩

/-! ### a clause in its block -/
/-- What the turns of a clause ask from H on: W i m is the invariant of turn i, m falls. A turn ends at Q where the source does, or stores an item and tests; B is asked of its body, which must reach Nx -/
abbrev Turns (J : It) (σ : L2.St) (vs : List Nat) (g : TG) (tt : TT) (Q : Hp → Prop) (B : (Hp → Prop) → L2.St → Hp → Prop) (H : Hp) : Prop :=
  ∃ W : Nat → Nat → Hp → Prop, (∃ m, W 0 m H) ∧ ∀ i m G, W i m G → (J.stop i G ∧ Q G) ∨ (J.go i G ∧ ∃ Nx : Hp → Prop, (∀ G', Nx G' → ∃ less, less < m ∧ W (i + 1) less G') ∧
    ∀ x G', J.yld i G x G' → g x (wipe σ vs) G' fun σ' G2 => wipe σ' vs = wipe σ vs ∧ tt σ' G2 fun b G3 => if b = true then B Nx σ' G3 else Nx G3)
theorem clause_run {Y : Cx} {pins : List (Addr × Obj)} {s : Shared} {σ : L2.St} {vs : List Nat} {H : Hp} {elt tgt src : Expr} {gens : List Comprehension} {sc : Scope} {pos : Pos} {d : Nat} {tests : List Expr} {it : Addr} {acc : Value} {body : Sem Fin → Sem Fin}
    {R : Result → Shared → Prop} {g : TG} {tt : TT} {J : It} {fp : List Addr} {tn : Nat → Heap → Prop} {Q : Hp → Prop} {B : (Hp → Prop) → L2.St → Hp → Prop} (calm : Y.calm = true) (ends : Y.xe = fun _ _ => False)
    (hd : compTurn (.SetComp elt gens sc pos) d (.ref it) acc Y.env = aTurn tgt src tests body (again (.compLoop (.SetComp elt gens sc pos) d (.ref it) acc Y.env)) (.ref it) Y.env)
    (pg : PG Y tgt g) (pt : PTs Y tests tt) (T : Turn Y.prog Y.w Y.K tgt J fp it tn) (inv : Inv Y pins (wipe σ vs) H s) (hf : ∀ b ∈ fp, FpOk Y pins H b) (st : tn 0 s.heap) (h : Turns J σ vs g tt Q B H)
    (hb : ∀ more σ' z G Nx (P : Shared → Prop), wipe σ' vs = wipe σ vs → Inv Y (pins ++ more) σ' G z → B Nx σ' G → (∀ {σ9 z9 G9}, Inv Y (pins ++ more) σ9 G9 z9 → Knows (wipe σ vs) σ9 → Nx G9 → P z9) → Does Y.prog Y.w Y.A (Bad Y.prog Y.w Y.A Y.env R) body P z)
    (hR : ∀ z G, Inv Y pins (wipe σ vs) G z → Q G → R (.ok .next) z) :
    codeAny (model Y.prog Y.w) Y.A (.compLoop (.SetComp elt gens sc pos) d (.ref it) acc Y.env) R s := by
  obtain ⟨W, ⟨m0, w0⟩, turn⟩ := h
  have ff : ∀ {G : Hp}, (∀ b ∈ fp, G b = none) → ∀ b ∈ fp, FpOk Y pins G b := fun z b m => ⟨z b m, (hf b m).2⟩
  refine clause_ok hd (fun n z => ∃ i G, Inv Y pins (wipe σ vs) G z ∧ tn i z.heap ∧ (∀ b ∈ fp, G b = none) ∧ W i n G) (fun n a ⟨i, Ga, Ia, sta, na, wa⟩ => ?_) m0 ⟨0, H, inv, st, fun b m => (hf b m).1, w0⟩
  rcases turn i n Ga wa with ⟨over, q⟩ | ⟨more, Nx, hNx, step⟩
  · refine thnF (T.done Y rfl rfl rfl calm i pins a _ Ga (fun _ _ => False) Ia (ff na) sta over) ?_
    rintro _ c ⟨rfl, Ic⟩
    exact hR c Ga Ic q
  · refine thnF (T.item Y rfl rfl rfl calm i pins a _ Ga (fun _ _ => False) Ia (ff na) sta more) ?_
    rintro _ c ⟨u, rfl, hc⟩
    refine thnF hc ?_
    rintro _ e ⟨x, Ge, Ie, re, ye, ste, ne⟩
    have hg := pg.run _ e _ Ge x u _ (Ie.pinned (ff ne) (T.obj _ _ ste)) re (step x Ge ye)
    rw [ends] at hg
    refine thnF hg ?_
    rintro _ f ⟨σf, Gf, If, wf, qf⟩
    have ht := pt.run _ f σf Gf _ If qf
    rw [ends] at ht
    refine thnF ht ?_
    rintro so k ⟨Gk, Ik, qk⟩
    have back : ∀ {σ9 z9 G9}, Inv Y (pins ++ pinsAt fp e.heap) σ9 G9 z9 → Knows (wipe σ vs) σ9 → Nx G9 → ∃ m, m < n ∧ ∃ i G, Inv Y pins (wipe σ vs) G z9 ∧ tn i z9.heap ∧ (∀ b ∈ fp, G b = none) ∧ W i m G := by
      intro σ9 z9 G9 I9 kn nx
      obtain ⟨m, lt, wm⟩ := hNx G9 nx
      have kept : ∀ b ∈ fp, ∀ o, e.heap.get? b = some o → z9.heap.get? b = some o ∧ G9 b = none := fun b hb o eo => by
        have p := I9.pin (b, o) (List.mem_append_right _ (List.mem_append_right _ (mem_pinsAt hb eo)))
        exact ⟨p.1, p.2.1⟩
      have gone : ∀ b ∈ fp, G9 b = none := fun b hb => by
        obtain ⟨o, eo, _⟩ := T.obj _ _ ste b hb
        exact (kept b hb o eo).2
      exact ⟨m, lt, i + 1, G9, I9.unpinned.weak kn.1 kn.2, T.keep _ _ _ ste fun b hb o eo => (kept b hb o eo).1, gone, wm⟩
    match so, qk with
    | false, qk => exact back Ik (wf ▸ knows_wiped σf vs) qk
    | true, qk => exact hb _ _ _ _ _ _ wf Ik qk back

/-! ### into the block and out of it -/
/-- P holds in every block of this scope -/
abbrev InBlk (X : Cx) (sc : Scope) (P : Cx → Prop) : Prop := ∀ (s : Shared) (H : Hp) (C : Addr) (cl : List (Str × Addr)) (fp : List Addr), P (X.blk s H sc (compEnvC sc cl C X.env) fp)
section
variable {X : Cx}
theorem enter {pins : List (Addr × Obj)} {s : Shared} {σ : L2.St} {H : Hp} {Q : VK} {elt tgt src : Expr} {tests : List Expr} {rest : List Comprehension} {sc : Scope} {own : List (Str × Nat)} {pos pos' : Pos} {wi : TI} {use : Option (Value → Sem Unit)} {Qf : Value → Shared → Prop}
    {Good : It → Addr → Hp → Prop} (calm : X.calm = true) (hN : X.N.Nodup) (inv : Inv X pins σ H s) (hi : PI X tgt src wi) (ok : BlkOk X.N X.env.scope sc own) (hs : ∀ x, foldedSetIterable src X.env x = pure x)
    (h : wi σ H fun J H1 => ∀ D, H1 D = none → Good J D H1)
    (out : ∀ D C z m G, Inv X pins σ G z → Q (.ref D) G → z.heap.Ns C m → FpOk X pins G C → compPost (model X.prog X.w) X.A X.xe use Qf (.ref D) C (.ok .next) z)
    (run : ∀ s0 H1 H0 C cl fp it tn J D a R, Good J D H1 → upd H1 D (SetO X.w D (fun _ => false) 0) = H0 → Turn X.prog X.w X.K tgt J fp it tn → Inv (X.blk s0 H0 sc (compEnvC sc cl C X.env) fp) [] (wipe σ (own.map (·.2))) H0 a → (∀ b ∈ fp, FpOk (X.blk s0 H0 sc (compEnvC sc cl C X.env) fp) [] H0 b) → tn 0 a.heap →
      (∀ z G, Inv (X.blk s0 H0 sc (compEnvC sc cl C X.env) fp) [] (wipe σ (own.map (·.2))) G z → Q (.ref D) G → R (.ok .next) z) →
      codeAny (model X.prog X.w) X.A (.compLoop (.SetComp elt (⟨tgt, src, tests, 0⟩ :: rest) sc pos) 0 (.ref it) (.ref D) (compEnvC sc cl C X.env)) R a) :
    wpAny (model X.prog X.w) X.A (comprehension (.SetComp elt (⟨tgt, src, tests, 0⟩ :: rest) sc pos) sc X.env pos' (newSet (.type "set")) false (eval src X.env) use) Qf X.xe s := by
  have clo : closureFor sc X.env = pure (cloFrom X.env.cells sc.names []) := closure_ok fun y hy e => inv.ok.has _ (ok.free y hy e)
  refine wpAny_comprehension_free (use := use) rfl hs clo ok.kind (fun y hy e => (ok.uniq y hy).trans (e ▸ rfl)) (thn (hi.run pins s σ H _ inv h) fun xv a ha => thn ha ?_)
  rintro _ b ⟨it, fp, tn, J, G, rfl, Ib, T, stb, fb, q⟩
  refine PpSet.newSet_ok (newEnv_comp ?_)
  -- the set
  have I1 : Inv X pins σ (upd G b.heap.objs.size (SetO X.w b.heap.objs.size (fun _ => false) 0)) { b with heap := b.heap.push { cls := .type "set", dict := none, data := .set #[] 0 (.fresh 0 0 (!X.w.params.followText "set-order")) } } :=
    Ib.laid (t' := b.toks) (fun _ _ e => Heap.get?_push_of_some _ e) (Nat.le_refl _) (setO_new (setR_fresh X.w))
  have below : ∀ c ∈ fp, c < b.heap.objs.size := fun c hc => let ⟨_, e, _⟩ := T.obj _ _ stb c hc; Heap.lt_size e
  have good := q b.heap.objs.size (Ib.hok.fresh (Nat.le_refl _))
  generalize hG : upd G b.heap.objs.size (SetO X.w b.heap.objs.size (fun _ => false) 0) = G1 at I1
  generalize hc : ({ b with heap := b.heap.push { cls := .type "set", dict := none, data := .set #[] 0 (.fresh 0 0 (!X.w.params.followText "set-order")) } } : Shared) = c at I1
  have hh : c.heap = b.heap.push { cls := .type "set", dict := none, data := .set #[] 0 (.fresh 0 0 (!X.w.params.followText "set-order")) } := by rw [← hc]
  have f1 : ∀ x ∈ fp, FpOk X pins G1 x ∧ x < c.heap.objs.size := fun x hx => by
    refine ⟨⟨?_, (fb x hx).2⟩, by rw [hh, Heap.size_push]; exact Nat.lt_succ_of_lt (below x hx)⟩
    rw [← hG, upd_ne (Nat.ne_of_lt (below x hx))]
    exact (fb x hx).1
  -- the block
  have I2 := block_start I1 ok hN f1
  have own1 : ∀ x ∈ fp, FpOk (X.blk c G1 sc (compEnvC sc (cellsFrom (c.heap.objs.size + 1) sc.names (cloFrom X.env.cells sc.names [])) c.heap.objs.size X.env) fp) [] G1 x := fun x hx =>
    ⟨(f1 x hx).1.1, (I2.ok.exf x hx).1, I2.ok.exfs x hx, .inl hx, (I2.ok.exf x hx).2, fun p hp => nomatch (show p ∈ ([] : List (Addr × Obj)) from hp)⟩
  have st2 : tn 0 (pushCells (c.heap.push { cls := .type "dict", data := .dict #[] }) sc.names) := T.keep _ _ _ stb fun x _ o e => pushCells_keeps _ _ _ _ (Heap.get?_push_of_some _ (by rw [hh]; exact Heap.get?_push_of_some _ e))
  have loop := run c G G1 c.heap.objs.size (cellsFrom (c.heap.objs.size + 1) sc.names (cloFrom X.env.cells sc.names [])) fp it tn J b.heap.objs.size _ (compPost (model X.prog X.w) X.A X.xe use Qf (.ref b.heap.objs.size) c.heap.objs.size) good hG T I2 own1 st2 fun z K Iz qz => by
    -- out again
    have Io : Inv X pins σ K z := I1.call' (ch := fp) Iz.os Iz.base Iz.hok Iz.bare fun x hx => let ⟨p, _⟩ := f1 x hx; ⟨p.2.2.2.1, p.2.1, p.2.2.2.2.1, p.2.2.2.2.2⟩
    obtain ⟨m, ns, _⟩ := Iz.loc
    exact out _ _ z m K Io qz ns (I1.fpOk (Nat.le_refl _) Iz.free)
  exact PpSet.codeAny_compStart_set loop (T.self X.A 0 _ _ _ st2 loop)

/-- a set comprehension with two clauses, every element a number: the outer clause's body is the inner clause, whose body puts the number into the set. vs, vs1: slots that the block and the inner target own -/
def tSc2 (w : World) (wi : TI) (g : TG) (tt : TT) (wi1 : TI) (g1 : TG) (tt1 : TT) (te : TE) (vs vs1 : List Nat) : TE := fun σ H Q => wi σ H fun J H1 => ∀ D, H1 D = none →
  Turns J σ vs g tt (Q (.ref D)) (fun Nx σ2 H2 => wi1 σ2 H2 fun J1 H3 => Turns J1 σ2 vs1 g1 tt1 Nx (fun Nx1 σ3 H4 => te σ3 H4 fun y H5 =>
    ∃ (c : Int) (S : Int → Bool) (n : Nat), y = .int c ∧ H5 D = some (SetO w D S n) ∧ n + 1 < scanBound ∧ Nx1 (upd H5 D (SetO w D (fun j => S j || decide (j = c)) (if S c = true then n else n + 1)))) H3)
    (upd H1 D (SetO w D (fun _ => false) 0))
theorem pe_sc2 {elt tg iter tg1 iter1 : Expr} {ifs ifs1 : List Expr} {scope : Scope} {own : List (Str × Nat)} {vs1 : List Nat} {pos : Pos} {wi wi1 : TI} {g g1 : TG} {tt tt1 : TT} {te : TE} (hc : X.calm = true) (hN : X.N.Nodup) (hi : PI X tg iter wi) (ok : BlkOk X.N X.env.scope scope own) (hv : ∀ i ∈ vs1, i ∈ own.map (·.2))
    (hg : InBlk X scope fun Y => PG Y tg g) (ht : InBlk X scope fun Y => PTs Y ifs tt) (hi1 : InBlk X scope fun Y => PI Y tg1 iter1 wi1) (hg1 : InBlk X scope fun Y => PG Y tg1 g1) (ht1 : InBlk X scope fun Y => PTs Y ifs1 tt1) (he : InBlk X scope fun Y => PE Y elt te)
    (hs : ∀ x, foldedSetIterable iter X.env x = pure x := by intro _; rfl) (hs1 : ∀ env x, foldedSetIterable iter1 env x = pure x := by intro _ _; rfl) :
    PE X (twoE elt tg iter tg1 iter1 ifs ifs1 scope pos) (tSc2 X.w wi g tt wi1 g1 tt1 te (own.map (·.2)) vs1) := by
  refine ⟨fun pins s σ H Q inv h => ?_⟩
  rw [PpSet.eval_SetComp]
  refine enter (Q := Q) hc hN inv hi ok hs h (fun D C z m G Iz q ns f => ⟨m, ns, fun h9 same => ?_⟩) fun s0 H1 H0 C cl fp it tn J D a R good e0 T Ia fa sta hR => ?_
  · obtain ⟨f0, f1, _, f3, f4, f5⟩ := f
    exact ⟨.ref D, G, Iz.turned (t' := z.toks) (fun b o hb e => (same.2 b hb).trans e) f0 f1 f3 f4 f5, rfl, q⟩
  · rw [e0] at good
    refine clause_run (Y := X.blk s0 H0 scope (compEnvC scope cl C X.env) fp) hc rfl (outer_turn ..) (hg ..) (ht ..) T Ia fa sta good (fun more σ2 z G Nx P w2 Iz qz fin => does_inner (hs1 _) ?_) hR
    refine thnF ((hi1 ..).run _ z σ2 G _ Iz qz) fun xv b hb => thnF hb ?_
    rintro _ c ⟨it1, fp1, tn1, J1, G1, rfl, Ic, T1, st1, f1, turns⟩
    have loop : codeAny (model X.prog X.w) X.A (.compLoop (twoE elt tg iter tg1 iter1 ifs ifs1 scope pos) 1 (.ref it1) (.ref D) (compEnvC scope cl C X.env)) (fun r z => match r with | .ok _ => P z | .error _ => False) c :=
      clause_run (Y := X.blk s0 H0 scope (compEnvC scope cl C X.env) fp) (vs := vs1) hc rfl (inner_turn ..) (hg1 ..) (ht1 ..) T1 (Ic.weak (knows_wiped σ2 vs1).1 (knows_wiped σ2 vs1).2) f1 st1 turns
        (fun more1 σ3 z3 G3 Nx1 P1 w3 I3 q3 fin1 => does_put (thnF ((he ..).run _ z3 σ3 G3 _ I3 q3) fun y a4 ⟨yv, G4, I4, r4, k, S, n, ek, hD, hz, nx⟩ => by
          subst ek
          exact thnF (mt_sadd (X := X.blk s0 H0 scope (compEnvC scope cl C X.env) fp) _ a4 σ3 G4 (.ref D) [.int k] (.ref D) [y] (fun _ G' => Nx1 G') I4 rfl (.cons r4 .nil) ⟨D, k, S, n, rfl, rfl, hD, hz, nx⟩) fun _ a5 ⟨_, G5, I5, _, q5⟩ => fin1 I5 (w3 ▸ knows_wiped σ3 vs1) q5))
        fun z4 G4 I4 q4 => fin I4 (w2 ▸ knows_less σ2 hv) q4
    exact start_ok loop (T1.self X.A 0 _ _ _ st1 loop)
end
end K45
/-! enumerate of a tuple. -/
namespace K45
open PySem Sem PySem.Spec PyProof.Rows L2
/-- an iterator of the tuple at l, not yet moved; an enumerate of it; both laid behind what a heap holds -/
abbrev tupIt (l : Addr) : Obj := { cls := .type "tuple_iterator", data := .fields #[.ref l, .int 0 0] }
abbrev enumOf (j : Addr) : Obj := { cls := .type "enumerate", data := .fields #[.none, .bool false, .ref j, rawInt 0, .none, .none] }
abbrev withEnum (h : Heap) (l : Addr) : Heap := (h.push (tupIt l)).push (enumOf h.objs.size)
theorem meets_enumT (l : Addr) (items : Array Value) :
    Meets (Builtin.«enumerate.__new__» ⟨[.type "enumerate", .ref l], []⟩) (fun _ R s => s.heap.IsTuple l items ∧ R (.ok (.ret (.ref (s.heap.push (tupIt l)).objs.size))) { s with heap := withEnum s.heap l }) := by
  refine .of_wp fun prog w A R s ⟨tup, post⟩ => ?_
  obtain ⟨hp, gl, dn, tk, os⟩ := s
  have known := sub_enumerate
  have it : ∀ {A' : Around} {E Q : Value → Shared → Prop}, Q (.ref hp.objs.size) ⟨hp.push (tupIt l), gl, dn, tk, os⟩ → wpAny (model prog w) A' (pyIter (.ref l)) Q E ⟨hp, gl, dn, tk, os⟩ := fun q => wpAny_pyIter_tuple tup q
  wp_walk using it
  refine wpAny_stack_any fun _ => wpAny_pure ?_
  split
  · rename_i who _ _ _ _ _
    cases (who == Value.type "enumerate") <;> (wp_walk using it; exact ⟨_, rfl, post⟩)
  · wp_walk using it
    exact ⟨_, rfl, post⟩
theorem call_enumT {prog : Program} {w : World} {A : Around} {E : Value → Shared → Prop} {s : Shared} {l : Addr} {items : Array Value} {Q : Value → Shared → Prop} (tup : s.heap.IsTuple l items)
    (k : ∀ g, IsEnum g (s.heap.objs.size + 1) s.heap.objs.size 0 .none → g.IsTupleIter s.heap.objs.size l 0 → g.objs.size = s.heap.objs.size + 2 → (∀ b o, s.heap.get? b = some o → g.get? b = some o) → Q (.ref (s.heap.objs.size + 1)) { s with heap := g }) :
    wpAny (model prog w) A (call (.type "enumerate") [.ref l]) Q E s := by
  have one : (s.heap.push (tupIt l)).objs.size = s.heap.objs.size + 1 := Heap.size_push ..
  have en : IsEnum (withEnum s.heap l) (s.heap.objs.size + 1) s.heap.objs.size 0 .none := by
    have z := Heap.get?_push_size (s.heap.push (tupIt l)) (o := enumOf s.heap.objs.size) rfl
    rwa [one] at z
  have done := k _ en ⟨_, Heap.get?_push_of_some _ (Heap.get?_push_size _ rfl), rfl, rfl⟩ (by rw [Heap.size_push, one]) fun b o q => Heap.get?_push_of_some _ (Heap.get?_push_of_some _ q)
  refine callType_new F.called_enumerate (by decide) (F.typeCall_enumerate_1 _) (F.newCall_enumerate_1 _) (fun made => F.args_object_init_2 made _) F.entry_enumerate_new (meets_enumT l items) ⟨tup, ?_⟩
  show _ ∧ _
  rw [one]
  exact ⟨⟨_, en, rfl⟩, done⟩

/-- the tuple at a, each item in a new pair -/
def IteT (K : PySem.W.Frag) (a : Addr) : It :=
  ⟨fun i H => ∃ (xs : List V) (x : V), SqT K H a xs ∧ xs[i]? = some x, fun i H v H' => ∃ T x, v = .ref T ∧ H T = none ∧ H' = upd H T (.tup [.int (i : Nat), x]) ∧ ∀ xs, SqT K H a xs → xs[i]? = some x, fun i H => ∃ xs : List V, SqT K H a xs ∧ xs.length ≤ i⟩
/-- e enumerates the tuple at a through the iterator j, i items are drawn -/
structure EnAt (a e j : Addr) (i : Nat) (h : Heap) : Prop where
  en : ∃ old, IsEnum h e j ((i : Nat) : Int) old
  src : h.IsTupleIter j a i
  ne : e ≠ j
section
variable {a e j : Addr} {i : Nat} {h g : Heap}
theorem of_two {P : Addr → Prop} (he : P e) (hj : P j) : ∀ b ∈ [e, j], P b := fun b hb => by
  rcases List.mem_cons.mp hb with rfl | hb
  · exact he
  · cases List.mem_singleton.mp hb
    exact hj
theorem EnAt.obj (z : EnAt a e j i h) : ∀ b ∈ [e, j], ∃ o, h.get? b = some o ∧ ∀ v, o.data ≠ .cell v := by
  obtain ⟨⟨_, q⟩, ⟨o, ho, _, hd⟩, _⟩ := z
  exact of_two ⟨_, q, fun _ c => nomatch c⟩ ⟨o, ho, fun _ c => nomatch (hd.symm.trans c)⟩
theorem EnAt.lt (z : EnAt a e j i h) : ∀ b ∈ [e, j], b < h.objs.size := fun b hb => let ⟨_, q, _⟩ := z.obj b hb; Heap.lt_size q
theorem EnAt.keep (z : EnAt a e j i h) (k : ∀ b ∈ [e, j], ∀ o, h.get? b = some o → g.get? b = some o) : EnAt a e j i g := by
  obtain ⟨⟨old, q⟩, src, ne⟩ := z
  exact ⟨⟨old, k e (List.mem_cons_self ..) _ q⟩, src.at fun o ho => k j (List.mem_cons_of_mem _ (List.mem_singleton.mpr rfl)) o ho, ne⟩
theorem EnAt.apart {items : Array Value} (z : EnAt a e j i h) (tup : h.IsTuple a items) : a ≠ j ∧ e ≠ a := by
  obtain ⟨⟨_, q⟩, ⟨o, ho, _, hd⟩, _⟩ := z
  obtain ⟨t, ht, _, _, td⟩ := tup
  refine ⟨fun same => ?_, fun same => ?_⟩
  · subst same
    cases Option.some.inj (ho.symm.trans ht)
    cases hd.symm.trans td
  · subst same
    cases Option.some.inj (ht.symm.trans q)
    cases td
theorem EnAt.next {old : Value} {u : Heap} (z : EnAt a e j i h) (q : IsEnum u e j (((i : Nat) : Int) + 1) old) (src : g.IsTupleIter j a (i + 1)) (same : u.get? j = g.get? j) : EnAt a e j (i + 1) u :=
  ⟨⟨old, by rwa [show ((i + 1 : Nat) : Int) = ((i : Nat) : Int) + 1 from by omega]⟩, src.at fun o ho => same.trans ho, z.ne⟩
end
theorem turn_enumT {P : Program} {w : World} {K : PySem.W.Frag} {elts : List Expr} {kk : Nat} {tpos : Pos} (a e j : Addr) : Turn P w K (.Tuple elts kk tpos) (IteT K a) [e, j] e (EnAt a e j) where
  mem := List.mem_cons_self ..
  obj := fun _ _ z => z.obj
  keep := fun _ _ _ z k => z.keep k
  item := by
    rintro X rfl rfl rfl calm i pins s σ H E inv free z ⟨xs, x, hq, hx⟩
    obtain ⟨its, rv, tup, _⟩ := inv.tuple hq
    obtain ⟨v, hv, vx⟩ := rv.get hx
    have tup : s.heap.IsTuple a its.toArray := tup
    obtain ⟨aj, ea⟩ := z.apart tup
    obtain ⟨old, en⟩ := z.en
    have inside : i < its.toArray.size := by simpa using (List.getElem?_eq_some_iff.mp hv).1
    refine wpAny_pyNext_enum_itemD (Draws.tuple (prog := X.prog) (w := X.w) (A := X.A.in1) (inv.ok.hd calm) j a aj its.toArray) en ⟨z.src, tup⟩ inside z.ne (by simp [z.ne, ea]) fun v' g tk hv' ho src pair _ rest => ?_
    obtain rfl : v' = v := Option.some.inj ((by simpa using hv' : its[i]? = some v').symm.trans hv)
    refine ⟨_, rfl, wpAny_letOwnedTupleGo_enum (s := { s with heap := g, toks := tk + 1 }) ho fun u en' sb => ?_⟩
    -- the pair is a new tuple
    have old1 : ∀ b ∈ [e, j], b < s.heap.objs.size := z.lt
    have got : u.get? s.heap.objs.size = some { cls := .type "tuple", data := .seq #[.int i tk, v'] } := (sb.2 _ (Nat.ne_of_gt (old1 e (List.mem_cons_self ..)))).trans pair
    have fresh : H s.heap.objs.size = none := inv.hok.fresh (Nat.le_refl _)
    have inv' : Inv X pins σ (upd H s.heap.objs.size (.tup [.int (i : Nat), x])) { s with heap := u, toks := tk + 1 } := by
      refine inv.turnedNew (ch := [e, j]) (fun b o out q => ?_) free (Nat.le_refl _) ⟨?_, _, .cons ⟨_, rfl⟩ (.cons vx .nil), ⟨_, got, rfl, _, rfl⟩⟩
      · have be : b ≠ e := fun y => out (y ▸ List.mem_cons_self ..)
        have bj : b ≠ j := fun y => out (y ▸ List.mem_cons_of_mem _ (List.mem_singleton.mpr rfl))
        exact (sb.2 b be).trans (rest b o be bj q)
      · show 2 ≤ sizeLine
        decide
    exact ⟨.ref s.heap.objs.size, _, inv', rfl, ⟨_, x, rfl, fresh, rfl, fun ys hy => inv.tuple_inj hy hq ▸ hx⟩, z.next en' src.1 (sb.2 j (Ne.symm z.ne)), fun b hb => by
      rw [upd_ne (Nat.ne_of_lt (old1 b hb))]
      exact (free b hb).1⟩
  done := by
    rintro X rfl rfl rfl calm i pins s σ H E inv free z ⟨xs, hq, hx⟩
    obtain ⟨its, rv, tup, _⟩ := inv.tuple hq
    obtain ⟨old, en⟩ := z.en
    have len := rv.length
    have tup : s.heap.IsTuple a its.toArray := tup
    have ty : s.TypeIs (.ref e) "enumerate" := ⟨_, en, rfl⟩
    unfold pyNext
    refine wpAny_bind (wpAny_attempt (wpAny_callSpecial?_slot (name := Str.ofString "__next__") ty F.slot_enumerate_next (wpAny_call_entry F.slot_enumerate_next ty F.entry_enumerate_next ?_ (F.args_enumerate_next_1 _))))
    show wpAny _ _ (field (.ref e) 2 >>= fun c => _) _ _ s
    refine wpAny_bind (wpAny_field en rfl (x := .ref j) rfl (wpAny_bind (wpAny_nextOf_tuple_end (inv.ok.hd calm) z.src tup (by simp; omega) fun g x same raised => ?_)))
    obtain ⟨o, ho, stop⟩ := raised
    refine wpAny_bind (wpAny_isInstance (T := "StopIteration") (b := true) ⟨o, ho, stop⟩ isSubtype_stop (wpAny_pure ⟨rfl, ?_⟩))
    have fj := free j (List.mem_cons_of_mem _ (List.mem_singleton.mpr rfl))
    exact inv.turned (t' := s.toks) (fun b o hb q => same b o hb q) fj.1 fj.2.1 fj.2.2.2.1 fj.2.2.2.2.1 fj.2.2.2.2.2
  self := fun _ _ _ _ _ z q => let ⟨_, en⟩ := z.en; wpAny_pyIter_enum en q
def iEnumT (K : PySem.W.Frag) (ta : TA) : TI := fun σ H R => ta σ H fun vs H1 => ∃ a xs, vs = [.ref a] ∧ SqT K H1 a xs ∧ R (IteT K a) H1
/-- enumerate of a tuple that stands, as a source -/
theorem enum_src {X : Cx} {pins : List (Addr × Obj)} {σ : L2.St} {H : Hp} {s : Shared} {a : Addr} {xs : List V} {elts : List Expr} {kk : Nat} {tpos : Pos} {R : It → Hp → Prop} {E : Value → Shared → Prop} (inv : Inv X pins σ H s) (hq : SqT X.K H a xs) (q : R (IteT X.K a) H) :
    wpAny (model X.prog X.w) X.A (call (.type "enumerate") [.ref a]) (fun v z => wpAny (model X.prog X.w) X.A (pyIter v) (PIE X pins σ (.Tuple elts kk tpos) R) E z) E s := by
  obtain ⟨its, _, tup, _⟩ := inv.tuple hq
  refine call_enumT (show s.heap.IsTuple a its.toArray from tup) fun g en src _ old => wpAny_pyIter_enum en ?_
  have new : ∀ b ∈ [s.heap.objs.size + 1, s.heap.objs.size], s.heap.objs.size ≤ b := of_two (Nat.le_add_right _ _) (Nat.le_refl _)
  exact ⟨_, _, _, _, H, rfl, inv.kept (t' := s.toks) old, turn_enumT a _ _, ⟨⟨.none, en⟩, src, Nat.succ_ne_self _⟩, fun b hb => inv.fpOk (new b hb) (inv.hok.fresh (new b hb)), q⟩
theorem k_enumT {X : Cx} (K : PySem.W.Frag) {e : Expr} {ta : TA} {p pos tpos : Pos} {elts : List Expr} {kk : Nat} (hg : Gl X "enumerate") (hm : X.mg "enumerate" = none) (ha : PA X [e] ta) (hs : starEach [e] X.env = [(false, eval e X.env)] := by rfl) (hK : X.K = K := by rfl) :
    PI X (.Tuple elts kk tpos) (.Call (.Name "enumerate" p) [e] [] pos) (iEnumT K ta) := hK ▸ ⟨fun pins s σ H R inv h => by
  refine Call_ (ld_blt inv hg hm boot_enumerate (PyProof.Rows.callWith_type1 (thn (ha.run pos pins s σ H _ inv h) ?_) hs rfl))
  rintro us z ⟨vs, H1, inv1, rs, a, xs, rfl, hq, q⟩
  match us, rs with
  | [_], .cons r .nil =>
    cases r
    exact enum_src inv1 hq q⟩
theorem k_enumL {X : Cx} (K : PySem.W.Frag) {e : Expr} {ta : TA} {p pos tpos : Pos} {elts : List Expr} {kk : Nat} (hg : Gl X "enumerate") (hm : X.mg "enumerate" = none) (ha : PA X [e] ta) (hs : starEach [e] X.env = [(false, eval e X.env)] := by rfl) (hK : X.K = K := by rfl) :
    PI X (.Tuple elts kk tpos) (.Call (.Name "enumerate" p) [e] [] pos) (iEnum K ta) := hK ▸ pi_enum hg hm ha hs
theorem walk_enumT {K : PySem.W.Frag} {a : Addr} {xs : List V} : Walk (IteT K a) xs.length (fun H => SqT K H a xs) (YPair (fun i => some (.int (i : Nat))) (fun i => xs[i]?)) :=
  ⟨fun i _ lt q => ⟨xs, xs[i], q, List.getElem?_eq_getElem lt⟩, fun _ q => ⟨xs, q, Nat.le_refl _⟩, fun i _ _ _ _ q ⟨T, x, ev, new, eh, hx⟩ => ⟨T, .int (i : Nat), x, ev, new, eh, rfl, hx xs q⟩⟩
end K45
/-! What a reading evaluates to, told by data: shapes that stay true while the heap grows. -/
namespace K45
open PySem L2
abbrev Ex := Evl.Ex
abbrev Fg := PySem.W.Frag

/-! ### tuples of data: they never change -/
mutual
inductive Tp (K : Fg) (H : Hp) : V → PyData → Prop
  | non : Tp K H .non .none
  | bl (b : Bool) : Tp K H (.bl b) (.bool b)
  | int (i : Int) : Tp K H (.int i) (.int i)
  | str (x : Str) : Tp K H (.str x) (.str x)
  | tup {a : Addr} {xs : List V} {ds : List PyData} : SqT K H a xs → TpAll K H xs ds → Tp K H (.ref a) (.tuple ds)
inductive TpAll (K : Fg) (H : Hp) : List V → List PyData → Prop
  | nil : TpAll K H [] []
  | cons {v : V} {vs : List V} {d : PyData} {ds : List PyData} : Tp K H v d → TpAll K H vs ds → TpAll K H (v :: vs) (d :: ds)
end
/-- tuples stay -/
def Gt (K : Fg) (H H' : Hp) : Prop := ∀ a xs, SqT K H a xs → SqT K H' a xs
theorem Gt.of_ex {K : Fg} {H H' : Hp} (e : Ex H H') : Gt K H H' := fun _ _ h => Evl.ex_t e h
theorem Gt.trans {K : Fg} {H H1 H2 : Hp} (a : Gt K H H1) (b : Gt K H1 H2) : Gt K H H2 := fun x xs h => b x xs (a x xs h)
/-- what is not a tuple -/
def NoTup : Option HO → Prop
  | some (.tup _) => False
  | some (.frz _ _) => False
  | _ => True
theorem Gt.upd {K : Fg} {H : Hp} {a : Addr} {o : HO} (h : NoTup (H a)) : Gt K H (L2.upd H a o) := fun b xs q => by
  have ne : ∀ u, H b = some u → (¬ NoTup (some u)) → b ≠ a := fun u e n z => by
    subst z
    rw [e] at h
    exact n h
  rcases q with (q | ⟨o', q⟩) | q
  · exact .inl (.inl (by rw [upd_ne (ne _ q fun z => z)]; exact q))
  · exact .inl (.inr ⟨o', by rw [upd_ne (ne _ q fun z => z)]; exact q⟩)
  · exact .inr q
theorem Gt.upd_lst {K : Fg} {H : Hp} {a : Addr} {o : HO} {xs : List V} (h : H a = some (.lst xs)) : Gt K H (L2.upd H a o) := Gt.upd (by rw [h]; trivial)
mutual
theorem Tp.mono {K : Fg} {H H' : Hp} (g : Gt K H H') : ∀ {v : V} {d : PyData}, Tp K H v d → Tp K H' v d
  | _, _, .non => .non
  | _, _, .bl b => .bl b
  | _, _, .int i => .int i
  | _, _, .str x => .str x
  | _, _, .tup h1 h2 => .tup (g _ _ h1) (TpAll.mono g h2)
theorem TpAll.mono {K : Fg} {H H' : Hp} (g : Gt K H H') : ∀ {vs : List V} {ds : List PyData}, TpAll K H vs ds → TpAll K H' vs ds
  | _, _, .nil => .nil
  | _, _, .cons h1 h2 => .cons (Tp.mono g h1) (TpAll.mono g h2)
end
mutual
theorem Tp.dp {K : Fg} {H : Hp} : ∀ {v : V} {d : PyData}, Tp K H v d → Dp K H v d
  | _, _, .non => .non
  | _, _, .bl b => .bl b
  | _, _, .int i => .int i
  | _, _, .str x => .str x
  | _, _, .tup h1 h2 => .tup h1 (TpAll.dp h2)
theorem TpAll.dp {K : Fg} {H : Hp} : ∀ {vs : List V} {ds : List PyData}, TpAll K H vs ds → DpAll K H vs ds
  | _, _, .nil => .nil
  | _, _, .cons h1 h2 => .cons (Tp.dp h1) (TpAll.dp h2)
end
theorem TpAll.len {K : Fg} {H : Hp} : ∀ {vs : List V} {ds : List PyData}, TpAll K H vs ds → vs.length = ds.length
  | _, _, .nil => rfl
  | _, _, .cons _ h => by rw [List.length_cons, List.length_cons, TpAll.len h]
theorem TpAll.get {K : Fg} {H : Hp} : ∀ {vs : List V} {ds : List PyData} {i : Nat} {d : PyData}, TpAll K H vs ds → ds[i]? = some d → ∃ v, vs[i]? = some v ∧ Tp K H v d
  | _, _, _, _, .nil, e => by simp at e
  | _, _, 0, _, .cons h _, e => by
    have e := Option.some.inj e
    subst e
    exact ⟨_, rfl, h⟩
  | _, _, i + 1, _, .cons _ h, e => TpAll.get (i := i) h e
theorem TpAll.get' {K : Fg} {H : Hp} : ∀ {vs : List V} {ds : List PyData} {i : Nat} {v : V}, TpAll K H vs ds → vs[i]? = some v → ∃ d, ds[i]? = some d ∧ Tp K H v d
  | _, _, _, _, .nil, e => by simp at e
  | _, _, 0, _, .cons h _, e => by
    have e := Option.some.inj e
    subst e
    exact ⟨_, rfl, h⟩
  | _, _, i + 1, _, .cons _ h, e => TpAll.get' (i := i) h e
theorem TpAll.app {K : Fg} {H : Hp} : ∀ {vs ws : List V} {ds es : List PyData}, TpAll K H vs ds → TpAll K H ws es → TpAll K H (vs ++ ws) (ds ++ es)
  | _, _, _, _, .nil, g => g
  | _, _, _, _, .cons h t, g => .cons h (TpAll.app t g)
theorem TpAll.snoc {K : Fg} {H : Hp} {vs : List V} {ds : List PyData} {v : V} {d : PyData} (h : TpAll K H vs ds) (g : Tp K H v d) : TpAll K H (vs ++ [v]) (ds ++ [d]) := h.app (.cons g .nil)
theorem TpAll.take {K : Fg} {H : Hp} : ∀ {vs : List V} {ds : List PyData} (n : Nat), TpAll K H vs ds → TpAll K H (vs.take n) (ds.take n)
  | _, _, 0, _ => by
    rw [List.take_zero, List.take_zero]
    exact .nil
  | _, _, _ + 1, .nil => .nil
  | _, _, n + 1, .cons h t => .cons h (TpAll.take n t)
theorem TpAll.drop {K : Fg} {H : Hp} : ∀ {vs : List V} {ds : List PyData} (n : Nat), TpAll K H vs ds → TpAll K H (vs.drop n) (ds.drop n)
  | _, _, 0, h => h
  | _, _, _ + 1, .nil => .nil
  | _, _, n + 1, .cons _ t => TpAll.drop n t
theorem TpAll.rev {K : Fg} {H : Hp} : ∀ {vs : List V} {ds : List PyData}, TpAll K H vs ds → TpAll K H vs.reverse ds.reverse
  | _, _, .nil => .nil
  | _, _, .cons h t => by
    rw [List.reverse_cons, List.reverse_cons]
    exact (TpAll.rev t).snoc h
theorem TpAll.rep {K : Fg} {H : Hp} {v : V} {d : PyData} (h : Tp K H v d) : ∀ n : Nat, TpAll K H (List.replicate n v) (List.replicate n d)
  | 0 => .nil
  | n + 1 => .cons h (TpAll.rep h n)
theorem Tp.int_inv {K : Fg} {H : Hp} {v : V} {i : Int} (h : Tp K H v (.int i)) : v = .int i := by cases h; rfl
theorem Tp.bl_inv {K : Fg} {H : Hp} {v : V} {b : Bool} (h : Tp K H v (.bool b)) : v = .bl b := by cases h; rfl
theorem Tp.str_inv {K : Fg} {H : Hp} {v : V} {x : Str} (h : Tp K H v (.str x)) : v = .str x := by cases h; rfl
theorem Tp.non_inv {K : Fg} {H : Hp} {v : V} (h : Tp K H v .none) : v = .non := by cases h; rfl
theorem Tp.tup_inv {K : Fg} {H : Hp} {v : V} {ds : List PyData} (h : Tp K H v (.tuple ds)) : ∃ a xs, v = .ref a ∧ SqT K H a xs ∧ TpAll K H xs ds := by
  cases h with
  | tup h1 h2 => exact ⟨_, _, rfl, h1, h2⟩
theorem TpAll.ints {K : Fg} {H : Hp} : ∀ {vs : List V} {ns : List Int}, TpAll K H vs (ns.map PyData.int) → vs = ns.map V.int
  | [], [], _ => rfl
  | [], _ :: _, h => by cases h
  | _ :: _, [], h => by cases h
  | v :: vs, n :: ns, h => by
    cases h with
    | cons h1 h2 => rw [h1.int_inv, TpAll.ints h2]; rfl
theorem TpAll.bls {K : Fg} {H : Hp} : ∀ {vs : List V} {ns : List Bool}, TpAll K H vs (ns.map PyData.bool) → vs = ns.map V.bl
  | [], [], _ => rfl
  | [], _ :: _, h => by cases h
  | _ :: _, [], h => by cases h
  | v :: vs, n :: ns, h => by
    cases h with
    | cons h1 h2 => rw [h1.bl_inv, TpAll.bls h2]; rfl
theorem tpAll_ints {K : Fg} {H : Hp} : ∀ ns : List Int, TpAll K H (ns.map V.int) (ns.map PyData.int)
  | [] => .nil
  | n :: ns => .cons (.int n) (tpAll_ints ns)

/-! ### shapes: what is true of a value, and stays true while the heap grows -/
structure Sh where
  P : V → Hp → Prop
  up : ∀ v H H', Ex H H' → P v H → P v H'
def vS (x : V) : Sh := ⟨fun v _ => v = x, fun _ _ _ _ h => h⟩
def dat (K : Fg) (d : PyData) : Sh := ⟨fun v H => Tp K H v d, fun _ _ _ e h => h.mono (Gt.of_ex e)⟩
/-- a list, of such data -/
def lstS (K : Fg) (ds : List PyData) : Sh := ⟨fun v H => ∃ p xs, v = .ref p ∧ H p = some (.lst xs) ∧ TpAll K H xs ds, fun _ _ _ e ⟨p, xs, a, b, c⟩ => ⟨p, xs, a, e p _ b, c.mono (Gt.of_ex e)⟩⟩
def intS (i : Int) : Sh := vS (.int i)
def blS (b : Bool) : Sh := vS (.bl b)
def AtAll (H : Hp) : List V → List Sh → Prop
  | [], [] => True
  | v :: vs, s :: ss => s.P v H ∧ AtAll H vs ss
  | _, _ => False
theorem AtAll.up {H H' : Hp} (e : Ex H H') : ∀ {vs : List V} {ss : List Sh}, AtAll H vs ss → AtAll H' vs ss
  | [], [], _ => trivial
  | _ :: _, _ :: _, h => ⟨Sh.up _ _ _ _ e h.1, AtAll.up e h.2⟩
  | [], _ :: _, h => h.elim
  | _ :: _, [], h => h.elim

/-! ### judgements -/
def EvS (te : TE) (σ : L2.St) (H : Hp) (s : Sh) : Prop := ∀ H1, Ex H H1 → ∀ Q : VK, (∀ v H2, Ex H1 H2 → s.P v H2 → Q v H2) → te σ H1 Q
abbrev EvT (tt : TT) (σ : L2.St) (H : Hp) (b : Bool) : Prop := Evl.EvT tt σ H b
def EvA (ta : TA) (σ : L2.St) (H : Hp) (ss : List Sh) : Prop := ∀ H1, Ex H H1 → ∀ Q : List V → Hp → Prop, (∀ vs H2, Ex H1 H2 → AtAll H2 vs ss → Q vs H2) → ta σ H1 Q
/-- what a def promises of its result -/
def Ret (s : Sh) (H : Hp) (Q : VK) : Prop := ∀ v H2, Ex H H2 → s.P v H2 → Q v H2

section
variable {K : Fg} {σ : L2.St} {H H' : Hp} {ta tb te tc : TE} {t u : TT} {x y z v : V} {s s' : Sh}
theorem EvS.mono (e : Ex H H') (h : EvS te σ H s) : EvS te σ H' s := fun H1 a Q q => h H1 (e.trans a) Q q
theorem EvT.mono {b : Bool} (le : Ex H H') (h : EvT t σ H b) : EvT t σ H' b := Evl.EvT.mono le h
theorem EvA.mono {ta : TA} {ss : List Sh} (e : Ex H H') (h : EvA ta σ H ss) : EvA ta σ H' ss := fun H1 a Q q => h H1 (e.trans a) Q q
/-- another shape of the same -/
theorem EvS.to (h : EvS te σ H s) (c : ∀ v H', s.P v H' → s'.P v H') : EvS te σ H s' := fun H1 a Q q => h H1 a Q fun v H2 e p => q v H2 e (c v H2 p)
theorem EvT.to {b b' : Bool} (h : EvT t σ H b) (e : b = b') : EvT t σ H b' := e ▸ h
theorem EvS.toD {i : Int} (h : EvS te σ H (intS i)) : EvS te σ H (dat K (.int i)) := h.to fun v H' p => by
  have p : v = .int i := p
  subst p
  exact Tp.int i
theorem EvS.ofD {i : Int} (h : EvS te σ H (dat K (.int i))) : EvS te σ H (intS i) := h.to fun v H' p => Tp.int_inv p
theorem EvS.toB {b : Bool} (h : EvS te σ H (blS b)) : EvS te σ H (dat K (.bool b)) := h.to fun v H' p => by
  have p : v = .bl b := p
  subst p
  exact Tp.bl b
theorem EvS.cast (h : EvS te σ H s) (e : s = s') : EvS te σ H s' := e ▸ h

theorem e_var {i : Nat} (h : σ[i]? = some (some v)) (p : s.P v H) : EvS (tVar i) σ H s := fun H1 e Q q => ⟨v, h, q v H1 (Evl.Ex.refl H1) (s.up v H H1 e p)⟩
theorem e_c : EvS (tC v) σ H (vS v) := fun H1 _ Q q => q v H1 (Evl.Ex.refl H1) rfl
theorem e_int {i : Int} : EvS (tC (.int i)) σ H (intS i) := e_c
theorem e_non : EvS (tC .non) σ H (dat K .none) := fun H1 _ Q q => q .non H1 (Evl.Ex.refl H1) .non
/-- two operands, then a step on values -/
theorem e_two {r : R2} {s1 s2 : Sh} (ha : EvS ta σ H s1) (hb : EvS tb σ H s2) (hr : ∀ x y H1, Ex H H1 → s1.P x H1 → s2.P y H1 → ∀ Q : VK, (∀ v H2, Ex H1 H2 → s.P v H2 → Q v H2) → r x y H1 Q) : EvS (tOp r ta tb) σ H s := fun H1 e Q q =>
  ha H1 e _ fun x H2 e2 px => hb H2 (e.trans e2) _ fun y H3 e3 py => hr x y H3 ((e.trans e2).trans e3) (s1.up _ _ _ e3 px) py Q fun v H4 e4 p => q v H4 ((e2.trans e3).trans e4) p
theorem e_I0 {g : Int → Int → V} {i j : Int} (ha : EvS ta σ H (intS i)) (hb : EvS tb σ H (intS j)) : EvS (tOp (rI0 g) ta tb) σ H (vS (g i j)) :=
  e_two ha hb fun x y H1 _ px py Q q => ⟨i, j, px, py, q _ H1 (Evl.Ex.refl H1) rfl⟩
theorem e_I {C : Int → Int → Prop} {g : Int → Int → V} {i j : Int} (ha : EvS ta σ H (intS i)) (hb : EvS tb σ H (intS j)) (hc : C i j) : EvS (tOp (rI C g) ta tb) σ H (vS (g i j)) :=
  e_two ha hb fun x y H1 _ px py Q q => ⟨i, j, px, py, hc, q _ H1 (Evl.Ex.refl H1) rfl⟩
theorem e_eq (ha : EvS ta σ H (vS x)) (hb : EvS tb σ H (vS y)) (h : scal x y = true) : EvS (tOp rEq ta tb) σ H (blS (decide (x = y))) :=
  e_two ha hb fun x' y' H1 _ px py Q q => by
    have px : x' = x := px
    have py : y' = y := py
    subst px py
    exact ⟨h, q _ H1 (Evl.Ex.refl H1) rfl⟩
theorem e_ne (ha : EvS ta σ H (vS x)) (hb : EvS tb σ H (vS y)) (h : scal x y = true) : EvS (tOp rNe ta tb) σ H (blS (!decide (x = y))) :=
  e_two ha hb fun x' y' H1 _ px py Q q => by
    have px : x' = x := px
    have py : y' = y := py
    subst px py
    exact ⟨h, q _ H1 (Evl.Ex.refl H1) rfl⟩
theorem e_eqI {i j : Int} (ha : EvS ta σ H (intS i)) (hb : EvS tb σ H (intS j)) : EvS (tOp rEq ta tb) σ H (blS (decide (i = j))) :=
  (e_eq ha hb rfl).cast (by show blS _ = blS _; rw [decide_eq_decide.mpr (show V.int i = V.int j ↔ i = j from ⟨fun z => V.int.inj z, fun z => z ▸ rfl⟩)])
theorem e_neI {i j : Int} (ha : EvS ta σ H (intS i)) (hb : EvS tb σ H (intS j)) : EvS (tOp rNe ta tb) σ H (blS (!decide (i = j))) :=
  (e_ne ha hb rfl).cast (by show blS _ = blS _; rw [decide_eq_decide.mpr (show V.int i = V.int j ↔ i = j from ⟨fun z => V.int.inj z, fun z => z ▸ rfl⟩)])
/-- == of data -/
theorem e_eqD {d e : PyData} (ha : EvS ta σ H (dat K d)) (hb : EvS tb σ H (dat K e)) (h1 : SeqAt.shaped d = true) (h2 : SeqAt.shaped e = true) : EvS (tOp (rEqD K) ta tb) σ H (blS (PyData.eqv d e)) :=
  e_two ha hb fun x y H1 _ px py Q q => ⟨d, e, px.dp, py.dp, h1, h2, q _ H1 (Evl.Ex.refl H1) rfl⟩
theorem e_neD {d e : PyData} (ha : EvS ta σ H (dat K d)) (hb : EvS tb σ H (dat K e)) (h1 : SeqAt.shaped d = true) (h2 : SeqAt.shaped e = true) : EvS (tOp (rNeD K) ta tb) σ H (blS (!PyData.eqv d e)) :=
  e_two ha hb fun x y H1 _ px py Q q => ⟨d, e, px.dp, py.dp, h1, h2, q _ H1 (Evl.Ex.refl H1) rfl⟩
/-- is None, of data -/
def isNon : PyData → Bool
  | .none => true
  | _ => false
theorem Tp.isNon {d : PyData} (h : Tp K H v d) : decide (v = .non) = K45.isNon d := by
  cases h with
  | non => rfl
  | bl b => exact decide_eq_false fun z => by cases z
  | int i => exact decide_eq_false fun z => by cases z
  | str x => exact decide_eq_false fun z => by cases z
  | tup _ _ => exact decide_eq_false fun z => by cases z
theorem e_isN {d : PyData} (ha : EvS ta σ H (dat K d)) : EvS (tIsN ta) σ H (blS (isNon d)) := fun H1 e Q q =>
  ha H1 e _ fun v H2 e2 p => q _ H2 e2 (by show V.bl _ = V.bl _; rw [Tp.isNon p])
theorem e_notN {d : PyData} (ha : EvS ta σ H (dat K d)) : EvS (tNotN ta) σ H (blS (!isNon d)) := fun H1 e Q q =>
  ha H1 e _ fun v H2 e2 p => q _ H2 e2 (by show V.bl _ = V.bl _; rw [Tp.isNon p])

/-! ### items -/
theorem e_ixT {ds : List PyData} {d : PyData} {i : Nat} (ha : EvS ta σ H (dat K (.tuple ds))) (hb : EvS tb σ H (intS (i : Int))) (h : ds[i]? = some d) : EvS (tOp (rIx K) ta tb) σ H (dat K d) :=
  e_two ha hb fun x y H1 _ px py Q q => by
    obtain ⟨a, xs, rfl, hq, hd⟩ := Tp.tup_inv px
    obtain ⟨v, hv, pv⟩ := hd.get h
    exact .inr (.inl ⟨a, xs, _, v, rfl, py, hq, atI_nat hv, q v H1 (Evl.Ex.refl H1) pv⟩)
theorem e_ixL {ds : List PyData} {d : PyData} {i : Nat} (ha : EvS ta σ H (lstS K ds)) (hb : EvS tb σ H (intS (i : Int))) (h : ds[i]? = some d) : EvS (tOp (rIx K) ta tb) σ H (dat K d) :=
  e_two ha hb fun x y H1 _ px py Q q => by
    obtain ⟨a, xs, rfl, hq, hd⟩ := px
    obtain ⟨v, hv, pv⟩ := hd.get h
    exact .inl ⟨a, xs, _, v, rfl, py, SqL.of hq, atI_nat hv, q v H1 (Evl.Ex.refl H1) pv⟩
/-- one of a list or a tuple -/
theorem atI_neg {α : Type} {xs : List α} {v : α} (h : xs.getLast? = some v) : atI xs (-1) = some v := by
  rcases List.eq_nil_or_concat xs with e | ⟨p, t, e⟩
  · rw [e] at h
    cases h
  · rw [List.concat_eq_append] at e
    rw [e, List.getLast?_concat] at h
    have h := Option.some.inj h
    subst h
    rw [e]
    exact atI_last p t
theorem TpAll.last : ∀ {vs : List V} {ds : List PyData} {d : PyData}, TpAll K H vs ds → ds.getLast? = some d → ∃ v, vs.getLast? = some v ∧ Tp K H v d := fun {vs ds d} h e => by
  rw [List.getLast?_eq_getElem?] at e
  obtain ⟨v, hv, p⟩ := h.get e
  exact ⟨v, by rw [List.getLast?_eq_getElem?, h.len]; exact hv, p⟩
theorem e_ixTm {ds : List PyData} {d : PyData} (ha : EvS ta σ H (dat K (.tuple ds))) (hb : EvS tb σ H (intS (-1))) (h : ds.getLast? = some d) : EvS (tOp (rIx K) ta tb) σ H (dat K d) :=
  e_two ha hb fun x y H1 _ px py Q q => by
    obtain ⟨a, xs, rfl, hq, hd⟩ := Tp.tup_inv px
    obtain ⟨v, hv, pv⟩ := hd.last h
    exact .inr (.inl ⟨a, xs, _, v, rfl, py, hq, atI_neg hv, q v H1 (Evl.Ex.refl H1) pv⟩)
theorem e_ixS {z : Str} {i : Nat} {c : Nat} (ha : EvS ta σ H (vS (.str z))) (hb : EvS tb σ H (intS (i : Int))) (hz : z.length ≤ 1000) (h : z.cps.toList[i]? = some c) : EvS (tOp (rIx K) ta tb) σ H (vS (.str ⟨#[c]⟩)) :=
  e_two ha hb fun x y H1 _ px py Q q => .inr (.inr ⟨z, _, c, px, py, Nat.le_of_lt (small1000 hz), atI_nat h, q _ H1 (Evl.Ex.refl H1) rfl⟩)

/-! ### tests -/
theorem t_test {b : Bool} (h : EvS te σ H (blS b)) : EvT (tTest te) σ H b := fun H1 e _ q => h H1 e _ fun v H2 e2 p => ⟨b, p, q H2 e2⟩
theorem t_B {b : Bool} (h : EvS te σ H (blS b)) : EvT (tB te) σ H b := fun H1 e _ q => h H1 e _ fun v H2 e2 p => ⟨b, p, q H2 e2⟩
theorem t_and {a b : Bool} (h1 : EvT t σ H a) (h2 : a = true → EvT u σ H b) : EvT (tAnd t u) σ H (a && b) := Evl.et_and h1 h2
theorem t_or {a b : Bool} (h1 : EvT t σ H a) (h2 : a = false → EvT u σ H b) : EvT (tOr t u) σ H (a || b) := Evl.et_or h1 h2
theorem t_not {a : Bool} (h1 : EvT t σ H a) : EvT (tNot t) σ H (!a) := Evl.et_not h1
theorem t_yes : EvT tYes σ H true := fun H1 _ _ q => q H1 (Evl.Ex.refl H1)
theorem e_andV {a b : Bool} (h1 : EvS ta σ H (blS a)) (h2 : a = true → EvS tb σ H (blS b)) : EvS (tAndV ta tb) σ H (blS (a && b)) := fun H1 e Q q => h1 H1 e _ fun v H2 e2 p => ⟨a, p, by
  cases a with
  | true => exact h2 rfl H2 (e.trans e2) Q fun v H3 e3 p3 => q v H3 (e2.trans e3) p3
  | false => exact q _ H2 e2 rfl⟩
theorem e_orV {a b : Bool} (h1 : EvS ta σ H (blS a)) (h2 : a = false → EvS tb σ H (blS b)) : EvS (tOrV ta tb) σ H (blS (a || b)) := fun H1 e Q q => h1 H1 e _ fun v H2 e2 p => ⟨a, p, by
  cases a with
  | true => exact q _ H2 e2 rfl
  | false => exact h2 rfl H2 (e.trans e2) Q fun v H3 e3 p3 => q v H3 (e2.trans e3) p3⟩
theorem e_notV {a : Bool} (h1 : EvS ta σ H (blS a)) : EvS (tNotV ta) σ H (blS (!a)) := fun H1 e _ q => h1 H1 e _ fun v H2 e2 p => ⟨a, p, q _ H2 e2 rfl⟩
theorem e_if {b : Bool} (h : EvT t σ H b) (h1 : b = true → EvS ta σ H s) (h2 : b = false → EvS tb σ H s) : EvS (tIf t ta tb) σ H s := fun H1 e Q q => h H1 e _ fun H2 e2 => by
  cases b with
  | true => exact h1 rfl H2 (e.trans e2) Q fun v H3 e3 p => q v H3 (e2.trans e3) p
  | false => exact h2 rfl H2 (e.trans e2) Q fun v H3 e3 p => q v H3 (e2.trans e3) p

/-! ### arguments, displays -/
theorem a_nil : EvA tNil σ H [] := fun H1 _ _ q => q [] H1 (Evl.Ex.refl H1) trivial
theorem a_cons {tr : TA} {ss : List Sh} (h : EvS ta σ H s) (hr : EvA tr σ H ss) : EvA (tCons ta tr) σ H (s :: ss) := fun H1 e _ q =>
  h H1 e _ fun v H2 e2 p => hr H2 (e.trans e2) _ fun vs H3 e3 ps => q _ H3 (e2.trans e3) ⟨s.up _ _ _ e3 p, ps⟩
theorem atAll_dats : ∀ {ds : List PyData} {vs : List V}, AtAll H vs (ds.map (dat K)) → TpAll K H vs ds
  | [], [], _ => .nil
  | [], _ :: _, h => h.elim
  | _ :: _, [], h => h.elim
  | _ :: _, _ :: _, h => .cons h.1 (atAll_dats h.2)
theorem e_tup {ta : TA} {ds : List PyData} (h : EvA ta σ H (ds.map (dat K))) (hl : ds.length ≤ 1000 := by decide) : EvS (tTup ta) σ H (dat K (.tuple ds)) := fun H1 e _ q =>
  h H1 e _ fun vs H2 e2 p => by
    have p := atAll_dats p
    refine ⟨by rw [p.len]; exact Nat.le_of_lt (small1000 hl), fun a ha => q _ _ (e2.trans (Evl.Ex.new ha)) ?_⟩
    exact .tup (SqT.of upd_same) (p.mono (Gt.of_ex (Evl.Ex.new ha)))
theorem e_lst {ta : TA} {ds : List PyData} (h : EvA ta σ H (ds.map (dat K))) (hl : ds.length ≤ 1000 := by decide) : EvS (tLst ta) σ H (lstS K ds) := fun H1 e _ q =>
  h H1 e _ fun vs H2 e2 p => by
    have p := atAll_dats p
    exact ⟨by rw [p.len]; exact Nat.le_of_lt (small1000 hl), fun a ha => q _ _ (e2.trans (Evl.Ex.new ha)) ⟨a, vs, rfl, upd_same, p.mono (Gt.of_ex (Evl.Ex.new ha))⟩⟩
/-- a call of a built-in, by what it gives on values -/
theorem e_CB {r : List V → Hp → VK → Prop} {ta : TA} {ss : List Sh} (h : EvA ta σ H ss) (hr : ∀ vs H1, Ex H H1 → AtAll H1 vs ss → ∀ Q : VK, (∀ v H2, Ex H1 H2 → s.P v H2 → Q v H2) → r vs H1 Q) : EvS (tCB r ta) σ H s := fun H1 e Q q =>
  h H1 e _ fun vs H2 e2 p => hr vs H2 (e.trans e2) p Q fun v H3 e3 p3 => q v H3 (e2.trans e3) p3
/-- a call of a def, by its promise -/
theorem e_call {sp : Sp} {E : XK} {ta : TA} {ss : List Sh} (h : EvA ta σ H ss) (hs : ∀ vs H1, AtAll H1 vs ss → ∀ Q : VK, Ret s H1 Q → sp vs H1 Q E) : EvS (tCall sp [] E ta) σ H s := fun H1 e Q q =>
  h H1 e _ fun vs H2 e2 p => by
    show sp (vs ++ []) H2 Q E
    rw [List.append_nil]
    exact hs vs H2 p Q fun v H3 e3 p3 => q v H3 (e2.trans e3) p3
theorem a1 {v1 : List V} {s1 : Sh} (h : AtAll H v1 [s1]) : ∃ x, v1 = [x] ∧ s1.P x H := by
  match v1, h with
  | [x], h => exact ⟨x, rfl, h.1⟩
theorem a2 {v1 : List V} {s1 s2 : Sh} (h : AtAll H v1 [s1, s2]) : ∃ x y, v1 = [x, y] ∧ s1.P x H ∧ s2.P y H := by
  match v1, h with
  | [x, y], h => exact ⟨x, y, rfl, h.1, h.2.1⟩
theorem a3 {v1 : List V} {s1 s2 s3 : Sh} (h : AtAll H v1 [s1, s2, s3]) : ∃ x y z, v1 = [x, y, z] ∧ s1.P x H ∧ s2.P y H ∧ s3.P z H := by
  match v1, h with
  | [x, y, z], h => exact ⟨x, y, z, rfl, h.1, h.2.1, h.2.2.1⟩
theorem a4 {v1 : List V} {s1 s2 s3 s4 : Sh} (h : AtAll H v1 [s1, s2, s3, s4]) : ∃ x y z w, v1 = [x, y, z, w] ∧ s1.P x H ∧ s2.P y H ∧ s3.P z H ∧ s4.P w H := by
  match v1, h with
  | [x, y, z, w], h => exact ⟨x, y, z, w, rfl, h.1, h.2.1, h.2.2.1, h.2.2.2.1⟩
theorem a5 {v1 : List V} {s1 s2 s3 s4 s5 : Sh} (h : AtAll H v1 [s1, s2, s3, s4, s5]) : ∃ x y z w u, v1 = [x, y, z, w, u] ∧ s1.P x H ∧ s2.P y H ∧ s3.P z H ∧ s4.P w H ∧ s5.P u H := by
  match v1, h with
  | [x, y, z, w, u], h => exact ⟨x, y, z, w, u, rfl, h.1, h.2.1, h.2.2.1, h.2.2.2.1, h.2.2.2.2.1⟩
end
end K45
/-! Sources, comprehensions, calls of built-ins, statements: what they evaluate to. -/
namespace K45
open PySem L2

section
variable {K : Fg} {σ : L2.St} {H H' : Hp} {ta tb te tc tl : TE} {t u tt : TT} {x y z v : V} {s s' : Sh}
/-- what is walked: n turns, at turn i something of which Y i is true -/
def EvI (K : Fg) (wi : TI) (σ : L2.St) (H : Hp) (n : Nat) (Y : Nat → V → Hp → Prop) : Prop :=
  ∀ H1, Ex H H1 → ∀ R : It → Hp → Prop, (∀ J H2, Ex H1 H2 → Walk J n (fun H3 => Ex H2 H3) (fun i Ha w Hb => Ex Ha Hb ∧ Y i w Hb) → R J H2) → wi σ H1 R
theorem Walk.of {J : It} {n : Nat} {G G' : Hp → Prop} {Y Y' : Nat → Hp → V → Hp → Prop} (w : Walk J n G Y) (hg : ∀ H, G' H → G H) (hy : ∀ i H x H', i < n → G' H → Y i H x H' → Y' i H x H') : Walk J n G' Y' := w.mono hg hy
/-- an item of a list of data -/
def YD (K : Fg) (ds : List PyData) : Nat → V → Hp → Prop := fun i w H => ∃ d, ds[i]? = some d ∧ Tp K H w d
theorem i_list {ds : List PyData} (h : EvS tl σ H (lstS K ds)) : EvI K (iList K tl) σ H ds.length (YD K ds) := fun H1 e R r =>
  h H1 e _ fun v H2 e2 ⟨p, xs, ev, hp, hd⟩ => ⟨p, ev, ⟨xs, SqL.of hp⟩, r _ H2 e2 (by
    rw [← hd.len]
    exact (walk_list (xs := xs)).mono (fun H3 e3 => Evl.ex_l e3 (SqL.of hp)) fun i Ha w Hb _ e3 ⟨e4, hx⟩ => by
      subst e4
      obtain ⟨d, hd', pd⟩ := hd.get' hx
      exact ⟨Evl.Ex.refl _, d, hd', pd.mono (Gt.of_ex e3)⟩)⟩
theorem i_tup {ds : List PyData} (h : EvS tl σ H (dat K (.tuple ds))) : EvI K (iTup K tl) σ H ds.length (YD K ds) := fun H1 e R r =>
  h H1 e _ fun v H2 e2 p => by
    obtain ⟨a, xs, ev, hq, hd⟩ := Tp.tup_inv p
    exact ⟨a, ev, ⟨xs, hq⟩, r _ H2 e2 (by
      rw [← hd.len]
      exact (walk_tup (xs := xs)).mono (fun H3 e3 => Evl.ex_t e3 hq) fun i Ha w Hb _ e3 ⟨e4, hx⟩ => by
        subst e4
        obtain ⟨d, hd', pd⟩ := hd.get' hx
        exact ⟨Evl.Ex.refl _, d, hd', pd.mono (Gt.of_ex e3)⟩)⟩
/-- lo, lo + 1, .. -/
def YR (lo : Int) : Nat → V → Hp → Prop := fun i w _ => w = .int (lo + (i : Int))
theorem i_rng1 {ta : TA} {n : Int} (h : EvA ta σ H [intS n]) (hn : -1000000 ≤ n ∧ n ≤ 1000000) : EvI K (iRng1 ta) σ H n.toNat (YR 0) := fun H1 e R r =>
  h H1 e _ fun vs H2 e2 p => by
    obtain ⟨w, rfl, pw⟩ := a1 p
    exact ⟨n, by rw [show w = .int n from pw], by omega, by omega, r _ H2 e2 (walk_range.mono (fun _ _ => trivial) fun i Ha w Hb _ e3 ⟨e4, hx⟩ => by
      subst e4
      exact ⟨Evl.Ex.refl _, hx⟩)⟩
theorem i_rng2 {ta : TA} {lo n : Int} (h : EvA ta σ H [intS lo, intS n]) (hl : -1000000 ≤ lo ∧ lo ≤ 1000000) (hn : -1000000 ≤ n ∧ n ≤ 1000000) : EvI K (iRng2 ta) σ H (n - lo).toNat (YR lo) := fun H1 e R r =>
  h H1 e _ fun vs H2 e2 p => by
    obtain ⟨w, w', rfl, pw, pw'⟩ := a2 p
    exact ⟨lo, n, by rw [show w = .int lo from pw, show w' = .int n from pw'], ⟨by omega, by omega, by omega, by omega⟩, r _ H2 e2 (walk_range.mono (fun _ _ => trivial) fun i Ha w Hb _ e3 ⟨e4, hx⟩ => by
      subst e4
      exact ⟨Evl.Ex.refl _, hx⟩)⟩
/-- the signs of a text -/
theorem i_str {z : Str} (h : EvS te σ H (vS (.str z))) : EvI K (iStr te) σ H z.cps.size (fun i w _ => ∃ c, z.cps[i]? = some c ∧ w = .str ⟨#[c]⟩) := fun H1 e R r =>
  h H1 e _ fun v H2 e2 p => ⟨z, p, r _ H2 e2 (walk_str.mono (fun _ _ => trivial) fun i Ha w Hb _ e3 ⟨e4, hx⟩ => by
    subst e4
    exact ⟨Evl.Ex.refl _, hx⟩)⟩

/-! ### comprehensions -/
/-- where a target stores -/
def Goes (g : TG) (x : V) (σ : L2.St) (H : Hp) (σ2 : L2.St) : Prop := ∀ Q : L2.St → Hp → Prop, Q σ2 H → g x σ H Q
theorem goes_name {j : Nat} : Goes (gName j) x σ H (σ.set j (some x)) := fun _ q => q
theorem e_lc {α : Type} {wi : TI} {g : TG} {vs : List Nat} {Y : Nat → V → Hp → Prop} (l : List α) (p : α → Bool) (f : α → PyData) (hi : EvI K wi σ H l.length Y) (hl : l.length ≤ 100000)
    (hb : ∀ (i : Nat) (a : α) (w : V) (H1 : Hp), Ex H H1 → l[i]? = some a → Y i w H1 → ∃ σ2, Goes g w (wipe σ vs) H1 σ2 ∧ wipe σ2 vs = wipe σ vs ∧ EvT tt σ2 H1 (p a) ∧ (p a = true → EvS te σ2 H1 (dat K (f a)))) :
    EvS (tLc wi g tt te vs) σ H (lstS K ((l.filter p).map f)) := fun H0 e0 Q q => hi H0 e0 _ fun J H1 e1 w D hD => by
  have exD : Ex H1 (upd H1 D (.lst [])) := Evl.Ex.new hD
  refine lc_it (w.mono (G' := fun H3 => Ex H1 H3) (fun _ h => h) fun _ _ _ _ _ _ y => y) (fun i H' => Ex H1 H' ∧ ∃ acc, H' D = some (.lst acc) ∧ TpAll K H' acc (((l.take i).filter p).map f)) ⟨exD, [], upd_same, by rw [List.take_zero]; exact .nil⟩ (fun i H' _ h => h.1) ?_ ?_
  · rintro i w H2 H3 hi' ⟨ex2, acc, hacc, hall⟩ ⟨ex23, hy⟩
    obtain ⟨a, ha⟩ : ∃ a, l[i]? = some a := ⟨l[i], by simp [hi']⟩
    obtain ⟨σ2, hg, hw, ht, he⟩ := hb i a w H3 ((e0.trans e1).trans (ex2.trans ex23)) ha hy
    refine hg _ ⟨hw, ht H3 (Evl.Ex.refl H3) _ fun H4 e4 => ?_⟩
    have tk : l.take (i + 1) = l.take i ++ [a] := by
      rw [List.take_add_one, ha]
      rfl
    have len : acc.length ≤ 100000 := by
      rw [hall.len, List.length_map]
      have h1 := List.length_filter_le p (l.take i)
      rw [List.length_take] at h1
      omega
    cases hp : p a with
    | false =>
      refine ⟨(ex2.trans ex23).trans e4, acc, e4 D _ (ex23 D _ hacc), ?_⟩
      have z : ((l.take (i + 1)).filter p).map f = ((l.take i).filter p).map f := by
        rw [tk, List.filter_append]
        simp [hp]
      rw [z]
      exact hall.mono (Gt.of_ex (ex23.trans e4))
    | true =>
      refine he hp H4 e4 _ fun y H5 e5 py => ⟨acc, e5 D _ (e4 D _ (ex23 D _ hacc)), Nat.lt_of_le_of_lt len (by decide), Evl.Ex.mut (((ex2.trans ex23).trans e4).trans e5) hD, acc ++ [y], upd_same, ?_⟩
      have z : ((l.take (i + 1)).filter p).map f = ((l.take i).filter p).map f ++ [f a] := by
        rw [tk, List.filter_append]
        simp [hp]
      rw [z]
      have hacc5 : H5 D = some (.lst acc) := e5 D _ (e4 D _ (ex23 D _ hacc))
      exact ((hall.mono (Gt.of_ex ((ex23.trans e4).trans e5))).snoc py).mono (Gt.upd_lst hacc5)
  · rintro H2 ⟨ex2, acc, hacc, hall⟩
    refine q _ H2 (e1.trans ex2) ⟨D, acc, rfl, hacc, ?_⟩
    rw [List.take_length] at hall
    exact hall
/-- over a tuple of data, told by a list of anything -/
theorem e_lcT {α : Type} {j : Nat} {vs : List Nat} (l : List α) (enc : α → PyData) (p : α → Bool) (f : α → PyData) (h : EvS tl σ H (dat K (.tuple (l.map enc)))) (hl : l.length ≤ 100000) (hw : ∀ w, wipe ((wipe σ vs).set j (some w)) vs = wipe σ vs)
    (hb : ∀ (a : α) (w : V) (H1 : Hp), Ex H H1 → a ∈ l → Tp K H1 w (enc a) → EvT tt ((wipe σ vs).set j (some w)) H1 (p a) ∧ (p a = true → EvS te ((wipe σ vs).set j (some w)) H1 (dat K (f a)))) :
    EvS (tLc (iTup K tl) (gName j) tt te vs) σ H (lstS K ((l.filter p).map f)) := by
  have hi := i_tup h
  rw [List.length_map] at hi
  refine e_lc l p f hi hl fun i a w H1 e1 ha ⟨d, hd, pd⟩ => ⟨_, goes_name, hw w, ?_⟩
  rw [List.getElem?_map, ha] at hd
  have hd : enc a = d := Option.some.inj hd
  subst hd
  exact hb a w H1 e1 (List.mem_of_getElem? ha) pd
theorem e_lcL {α : Type} {j : Nat} {vs : List Nat} (l : List α) (enc : α → PyData) (p : α → Bool) (f : α → PyData) (h : EvS tl σ H (lstS K (l.map enc))) (hl : l.length ≤ 100000) (hw : ∀ w, wipe ((wipe σ vs).set j (some w)) vs = wipe σ vs)
    (hb : ∀ (a : α) (w : V) (H1 : Hp), Ex H H1 → a ∈ l → Tp K H1 w (enc a) → EvT tt ((wipe σ vs).set j (some w)) H1 (p a) ∧ (p a = true → EvS te ((wipe σ vs).set j (some w)) H1 (dat K (f a)))) :
    EvS (tLc (iList K tl) (gName j) tt te vs) σ H (lstS K ((l.filter p).map f)) := by
  have hi := i_list h
  rw [List.length_map] at hi
  refine e_lc l p f hi hl fun i a w H1 e1 ha ⟨d, hd, pd⟩ => ⟨_, goes_name, hw w, ?_⟩
  rw [List.getElem?_map, ha] at hd
  have hd : enc a = d := Option.some.inj hd
  subst hd
  exact hb a w H1 e1 (List.mem_of_getElem? ha) pd
/-- over range(n) -/
theorem e_lcR {ta : TA} {j : Nat} {vs : List Nat} (n : Nat) (p : Nat → Bool) (f : Nat → PyData) (h : EvA ta σ H [intS (n : Int)]) (hn : n ≤ 100000) (hw : ∀ w, wipe ((wipe σ vs).set j (some w)) vs = wipe σ vs)
    (hb : ∀ (a : Nat) (H1 : Hp), Ex H H1 → a < n → EvT tt ((wipe σ vs).set j (some (.int (a : Int)))) H1 (p a) ∧ (p a = true → EvS te ((wipe σ vs).set j (some (.int (a : Int)))) H1 (dat K (f a)))) :
    EvS (tLc (iRng1 ta) (gName j) tt te vs) σ H (lstS K (((List.range n).filter p).map f)) := by
  have hi := i_rng1 (K := K) h (by omega)
  rw [Int.toNat_natCast] at hi
  have hi' : EvI K (iRng1 ta) σ H (List.range n).length (YR 0) := by rw [List.length_range]; exact hi
  refine e_lc (List.range n) p f hi' (by rw [List.length_range]; exact hn) fun i a w H1 e1 ha hy => ⟨_, goes_name, hw w, ?_⟩
  have hlt := (List.getElem?_eq_some_iff.mp ha).1
  rw [List.length_range] at hlt
  rw [List.getElem?_range hlt] at ha
  have ha : i = a := Option.some.inj ha
  subst ha
  have hy : w = .int (0 + (i : Int)) := hy
  rw [Int.zero_add] at hy
  subst hy
  exact hb i H1 e1 hlt

/-! ### calls of built-ins -/
theorem e_len {ta : TA} {ds : List PyData} (h : EvA ta σ H [dat K (.tuple ds)]) : EvS (tCB (fun xs H Q => ∃ p ys, xs = [.ref p] ∧ (SqL K H p ys ∨ SqT K H p ys) ∧ Q (.int ys.length) H) ta) σ H (intS ds.length) :=
  e_CB h fun vs H1 _ p Q q => by
    obtain ⟨w, rfl, pw⟩ := a1 p
    obtain ⟨a, xs, rfl, hq, hd⟩ := Tp.tup_inv pw
    exact ⟨a, xs, rfl, .inr hq, q _ H1 (Evl.Ex.refl _) (by rw [hd.len]; rfl)⟩
theorem e_lenL {ta : TA} {ds : List PyData} (h : EvA ta σ H [lstS K ds]) : EvS (tCB (fun xs H Q => ∃ p ys, xs = [.ref p] ∧ (SqL K H p ys ∨ SqT K H p ys) ∧ Q (.int ys.length) H) ta) σ H (intS ds.length) :=
  e_CB h fun vs H1 _ p Q q => by
    obtain ⟨w, rfl, a, xs, rfl, hq, hd⟩ := a1 p
    exact ⟨a, xs, rfl, .inl (SqL.of hq), q _ H1 (Evl.Ex.refl _) (by rw [hd.len]; rfl)⟩
theorem e_tupleL {ta : TA} {ds : List PyData} (h : EvA ta σ H [lstS K ds]) : EvS (tCB (fun xs H Q => ∃ p ys, xs = [.ref p] ∧ ((SqL K H p ys ∧ ∀ l, H l = none → Q (.ref l) (upd H l (.tup ys))) ∨ (SqT K H p ys ∧ Q (.ref p) H))) ta) σ H (dat K (.tuple ds)) :=
  e_CB h fun vs H1 _ p Q q => by
    obtain ⟨w, rfl, a, xs, rfl, hq, hd⟩ := a1 p
    exact ⟨a, xs, rfl, .inl ⟨SqL.of hq, fun l hl => q _ _ (Evl.Ex.new hl) (.tup (SqT.of upd_same) (hd.mono (Gt.of_ex (Evl.Ex.new hl))))⟩⟩
theorem e_listT {ta : TA} {ds : List PyData} (h : EvA ta σ H [dat K (.tuple ds)]) : EvS (tCB (fun xs H Q => ∃ p ys, xs = [.ref p] ∧ (SqL K H p ys ∨ SqT K H p ys) ∧ ∀ l, H l = none → Q (.ref l) (upd H l (.lst ys))) ta) σ H (lstS K ds) :=
  e_CB h fun vs H1 _ p Q q => by
    obtain ⟨w, rfl, pw⟩ := a1 p
    obtain ⟨a, xs, rfl, hq, hd⟩ := Tp.tup_inv pw
    exact ⟨a, xs, rfl, .inr hq, fun l hl => q _ _ (Evl.Ex.new hl) ⟨l, xs, rfl, upd_same, hd.mono (Gt.of_ex (Evl.Ex.new hl))⟩⟩
theorem e_sum {ta : TA} {ns : List Int} (h : EvA ta σ H [lstS K (ns.map .int)]) : EvS (tCB (rSum K) ta) σ H (intS ns.sum) :=
  e_CB h fun vs H1 _ p Q q => by
    obtain ⟨w, rfl, a, xs, rfl, hq, hd⟩ := a1 p
    exact ⟨a, ns, rfl, by rw [← hd.ints]; exact SqL.of hq, q _ H1 (Evl.Ex.refl _) rfl⟩
theorem e_min {ta : TA} {ns : List Int} {m : Int} (h : EvA ta σ H [lstS K (ns.map .int)]) (h1 : m ∈ ns) (h2 : ∀ y ∈ ns, m ≤ y) : EvS (tCB (rMin K) ta) σ H (intS m) :=
  e_CB h fun vs H1 _ p Q q => by
    obtain ⟨w, rfl, a, xs, rfl, hq, hd⟩ := a1 p
    refine ⟨a, ns, rfl, by rw [← hd.ints]; exact SqL.of hq, List.length_pos_of_mem h1, fun k k1 k2 => q _ H1 (Evl.Ex.refl _) ?_⟩
    have : k = m := Int.le_antisymm (k2 m h1) (h2 k k1)
    rw [this]
    rfl
theorem e_any {ta : TA} {bs : List Bool} (h : EvA ta σ H [lstS K (bs.map .bool)]) : EvS (tCB (rAny K) ta) σ H (blS (bs.any id)) :=
  e_CB h fun vs H1 _ p Q q => by
    obtain ⟨w, rfl, a, xs, rfl, hq, hd⟩ := a1 p
    exact ⟨a, bs, rfl, by rw [← hd.bls]; exact SqL.of hq, q _ H1 (Evl.Ex.refl _) rfl⟩
theorem e_all {ta : TA} {bs : List Bool} (h : EvA ta σ H [lstS K (bs.map .bool)]) : EvS (tCB (rAll K) ta) σ H (blS (bs.all id)) :=
  e_CB h fun vs H1 _ p Q q => by
    obtain ⟨w, rfl, a, xs, rfl, hq, hd⟩ := a1 p
    exact ⟨a, bs, rfl, by rw [← hd.bls]; exact SqL.of hq, q _ H1 (Evl.Ex.refl _) rfl⟩
theorem e_max2 {i j : Int} {ta : TA} (h : EvA ta σ H [intS i, intS j]) : EvS (tCB (fun xs H Q => ∃ i j, xs = [.int i, .int j] ∧ Q (.int (if j > i then j else i)) H) ta) σ H (intS (if j > i then j else i)) :=
  e_CB h fun vs H1 _ p Q q => by
    obtain ⟨w, w', rfl, pw, pw'⟩ := a2 p
    exact ⟨i, j, by rw [show w = .int i from pw, show w' = .int j from pw'], q _ H1 (Evl.Ex.refl _) rfl⟩
theorem e_intI {i : Int} {ta : TA} (h : EvA ta σ H [intS i]) : EvS (tCB (fun xs H Q => (∃ i, xs = [.int i] ∧ Q (.int i) H) ∨ ∃ k, xs = [.bl k] ∧ Q (.int (if k then 1 else 0)) H) ta) σ H (intS i) :=
  e_CB h fun vs H1 _ p Q q => by
    obtain ⟨w, rfl, pw⟩ := a1 p
    exact .inl ⟨i, by rw [show w = .int i from pw], q _ H1 (Evl.Ex.refl _) rfl⟩
theorem e_intB {b : Bool} {ta : TA} (h : EvA ta σ H [blS b]) : EvS (tCB (fun xs H Q => (∃ i, xs = [.int i] ∧ Q (.int i) H) ∨ ∃ k, xs = [.bl k] ∧ Q (.int (if k then 1 else 0)) H) ta) σ H (intS (if b then 1 else 0)) :=
  e_CB h fun vs H1 _ p Q q => by
    obtain ⟨w, rfl, pw⟩ := a1 p
    exact .inr ⟨b, by rw [show w = .bl b from pw], q _ H1 (Evl.Ex.refl _) rfl⟩
theorem e_abs {i : Int} {ta : TA} (h : EvA ta σ H [intS i]) : EvS (tCB (fun xs H Q => ∃ i, xs = [.int i] ∧ Q (.int (if i < 0 then -i else i)) H) ta) σ H (intS (if i < 0 then -i else i)) :=
  e_CB h fun vs H1 _ p Q q => by
    obtain ⟨w, rfl, pw⟩ := a1 p
    exact ⟨i, by rw [show w = .int i from pw], q _ H1 (Evl.Ex.refl _) rfl⟩
/-- sorted(list of ints) -/
theorem e_sorted {ta : TA} {ns ms : List Int} (h : EvA ta σ H [lstS K (ns.map .int)]) (hm : ms.Perm ns) (hs : ms.Pairwise (· ≤ ·)) : EvS (tCB (rSortedI K) ta) σ H (lstS K (ms.map .int)) :=
  e_CB h fun vs H1 _ p Q q => by
    obtain ⟨w, rfl, a, xs, rfl, hq, hd⟩ := a1 p
    refine ⟨a, ns, rfl, by rw [← hd.ints]; exact SqL.of hq, fun ks l k1 k2 hl => q _ _ (Evl.Ex.new hl) ?_⟩
    have e : ks = ms := (k1.trans hm.symm).eq_of_pairwise (le := fun a b : Int => a ≤ b) (fun a b _ _ h1 h2 => Int.le_antisymm h1 h2) k2 hs
    subst e
    exact ⟨l, _, rfl, upd_same, tpAll_ints ks⟩
/-- list + list -/
theorem e_cat {ds es : List PyData} (ha : EvS ta σ H (lstS K ds)) (hb : EvS tb σ H (lstS K es)) (hl : ds.length + es.length ≤ 100000) : EvS (tOp rCat ta tb) σ H (lstS K (ds ++ es)) :=
  e_two ha hb fun x y H1 _ px py Q q => by
    obtain ⟨a, xs, rfl, hq, hd⟩ := px
    obtain ⟨b, ys, rfl, hq', hd'⟩ := py
    exact ⟨a, b, xs, ys, rfl, rfl, hq, hq', by rw [hd.len, hd'.len]; exact Nat.le_trans hl (by decide), fun p hp => q _ _ (Evl.Ex.new hp) ⟨p, _, rfl, upd_same, (hd.app hd').mono (Gt.of_ex (Evl.Ex.new hp))⟩⟩
/-- tuple + tuple -/
theorem e_catT {ds es : List PyData} (ha : EvS ta σ H (dat K (.tuple ds))) (hb : EvS tb σ H (dat K (.tuple es))) (hl : ds.length + es.length ≤ 100000) : EvS (tOp (rCatA K) ta tb) σ H (dat K (.tuple (ds ++ es))) :=
  e_two ha hb fun x y H1 _ px py Q q => by
    obtain ⟨a, xs, rfl, hq, hd⟩ := Tp.tup_inv px
    obtain ⟨b, ys, rfl, hq', hd'⟩ := Tp.tup_inv py
    refine ⟨a, b, xs, ys, rfl, rfl, hq, hq', by rw [hd.len, hd'.len]; exact Nat.le_trans hl (by decide), fun e => q _ H1 (Evl.Ex.refl _) ?_, fun _ e => q _ H1 (Evl.Ex.refl _) ?_, fun _ _ p hp => q _ _ (Evl.Ex.new hp) ?_⟩
    · subst e
      cases hd
      exact .tup hq' hd'
    · subst e
      cases hd'
      rw [List.append_nil]
      exact .tup hq hd
    · exact .tup (SqT.of upd_same) ((hd.app hd').mono (Gt.of_ex (Evl.Ex.new hp)))
/-- [d] * n -/
theorem e_rep {d : PyData} {n : Int} (ha : EvS ta σ H (lstS K [d])) (hb : EvS tb σ H (intS n)) (hn : -100000 ≤ n ∧ n ≤ 100000) : EvS (tOp rRep ta tb) σ H (lstS K (List.replicate n.toNat d)) :=
  e_two ha hb fun x y H1 _ px py Q q => by
    obtain ⟨a, xs, rfl, hq, hd⟩ := px
    match xs, hd with
    | [w], .cons hw .nil =>
      refine ⟨a, n, [w], rfl, py, hq, by omega, by omega, by
        show 1 * n.toNat ≤ sizeLine
        rw [sizeLine_eq]
        omega, fun p hp => q _ _ (Evl.Ex.new hp) ⟨p, _, rfl, upd_same, ?_⟩⟩
      have e : ∀ k : Nat, (List.replicate k [w]).flatten = List.replicate k w := fun k => by
        induction k with
        | zero => rfl
        | succ k ih => rw [List.replicate_succ, List.replicate_succ, List.flatten_cons, ih]; rfl
      rw [e]
      exact (TpAll.rep hw n.toNat).mono (Gt.of_ex (Evl.Ex.new hp))

/-! ### slices -/
abbrev EvO (part : TO) (σ : L2.St) (H : Hp) (o : Option Int) : Prop := Evl.EvO part σ H o
theorem o_none : EvO tNoPart σ H none := Evl.eo_none
theorem o_some {i : Int} (h : EvS te σ H (intS i)) : EvO (tPart te) σ H (some i) := fun H1 e _ q => h H1 e _ fun v H2 e2 p => ⟨i, p, q H2 e2⟩
/-- the part of a list that a slice takes -/
def cutL {α : Type} (xs : List α) (lo hi : Option Int) : List α := (xs.drop (HT.sIx xs.length 0 lo)).take (HT.sIx xs.length xs.length hi - HT.sIx xs.length 0 lo)
theorem TpAll.cut {vs : List V} {ds : List PyData} (h : TpAll K H vs ds) (lo hi : Option Int) : TpAll K H (cutV vs lo hi) (cutL ds lo hi) := by
  unfold cutV cutL
  rw [h.len]
  exact (h.drop _).take _
theorem cut_whole {α : Type} {xs : List α} {lo hi : Option Int} (h : HT.sIx xs.length 0 lo = 0 ∧ HT.sIx xs.length xs.length hi = xs.length) : cutL xs lo hi = xs := by
  unfold cutL
  rw [h.1, h.2]
  simp
theorem e_slT {ds : List PyData} {tlo thi : TO} {lo hi : Option Int} (h : EvS te σ H (dat K (.tuple ds))) (h1 : EvO tlo σ H lo) (h2 : EvO thi σ H hi) : EvS (tSl (rSlA K) te tlo thi) σ H (dat K (.tuple (cutL ds lo hi))) := fun H1 e Q q =>
  h H1 e _ fun v H2 e2 p => h1 H2 (e.trans e2) _ fun H3 e3 => h2 H3 ((e.trans e2).trans e3) _ fun H4 e4 => by
    obtain ⟨a, xs, rfl, hq, hd⟩ := Tp.tup_inv p
    have e24 := e3.trans e4
    refine ⟨a, xs, rfl, Evl.ex_t e24 hq, fun z => q _ H4 (e2.trans e24) ?_, fun _ p hp => q _ _ ((e2.trans e24).trans (Evl.Ex.new hp)) ?_⟩
    · rw [cut_whole (by rw [← hd.len]; exact z)]
      exact .tup (Evl.ex_t e24 hq) (hd.mono (Gt.of_ex e24))
    · exact .tup (SqT.of upd_same) ((hd.cut lo hi).mono (Gt.of_ex (e24.trans (Evl.Ex.new hp))))
theorem e_slL {ds : List PyData} {tlo thi : TO} {lo hi : Option Int} (h : EvS te σ H (lstS K ds)) (h1 : EvO tlo σ H lo) (h2 : EvO thi σ H hi) : EvS (tSl (rSlL K) te tlo thi) σ H (lstS K (cutL ds lo hi)) := fun H1 e Q q =>
  h H1 e _ fun v H2 e2 ⟨a, xs, ev, hq, hd⟩ => h1 H2 (e.trans e2) _ fun H3 e3 => h2 H3 ((e.trans e2).trans e3) _ fun H4 e4 => by
    have e24 := e3.trans e4
    exact ⟨a, xs, ev, SqL.of (e24 a _ hq), fun p hp => q _ _ ((e2.trans e24).trans (Evl.Ex.new hp)) ⟨p, _, rfl, upd_same, (hd.cut lo hi).mono (Gt.of_ex (e24.trans (Evl.Ex.new hp)))⟩⟩

/-! ### in, not in: ints in a tuple or a list of ints (or None) -/
theorem inV_ints (i : Int) (ns : List Int) : inV (.int i) (ns.map V.int) = ns.contains i := by
  unfold inV
  rw [List.any_map]
  induction ns with
  | nil => rfl
  | cons n ns ih =>
    rw [List.any_cons, ih, List.contains_cons]
    congr 1
    show (n == i) = (i == n)
    exact BEq.comm
theorem flat_ints : ∀ ns : List Int, (ns.map V.int).all flatV = true
  | [] => rfl
  | n :: ns => by
    rw [List.map_cons, List.all_cons, flat_ints ns]
    rfl
theorem e_inT {neg : Bool} {ns : List Int} {i : Int} (ha : EvS ta σ H (intS i)) (hb : EvS tb σ H (dat K (.tuple (ns.map .int)))) : EvS (tOp (rIn K neg) ta tb) σ H (blS (if neg then !ns.contains i else ns.contains i)) :=
  e_two ha hb fun x y H1 _ px py Q q => by
    have px : x = .int i := px
    subst px
    obtain ⟨a, xs, rfl, hq, hd⟩ := Tp.tup_inv py
    have e := hd.ints
    subst e
    refine ⟨a, _, rfl, .inr hq, rfl, flat_ints ns, q _ H1 (Evl.Ex.refl _) ?_⟩
    rw [inV_ints]
    rfl
theorem e_inL {neg : Bool} {ns : List Int} {i : Int} (ha : EvS ta σ H (intS i)) (hb : EvS tb σ H (lstS K (ns.map .int))) : EvS (tOp (rIn K neg) ta tb) σ H (blS (if neg then !ns.contains i else ns.contains i)) :=
  e_two ha hb fun x y H1 _ px py Q q => by
    have px : x = .int i := px
    subst px
    obtain ⟨a, xs, rfl, hq, hd⟩ := py
    have e := hd.ints
    subst e
    refine ⟨a, _, rfl, .inl (SqL.of hq), rfl, flat_ints ns, q _ H1 (Evl.Ex.refl _) ?_⟩
    rw [inV_ints]
    rfl
end

/-! ### statements -/
section
variable {K : Fg} {σ : L2.St} {H H' : Hp} {ta tb te : TE} {t u : TT} {v : V} {s : Sh} {D : Ends} {tu tw tz : TS}
theorem s_set {i : Nat} (h : EvS te σ H s) (k : ∀ v H1, Ex H H1 → s.P v H1 → D.nx (σ.set i (some v)) H1) : tAsg te (gName i) D σ H := h H (Evl.Ex.refl H) _ fun v H1 e p => k v H1 e p
theorem q_set {i : Nat} (h : EvS te σ H s) (k : ∀ v H1, Ex H H1 → s.P v H1 → tz D (σ.set i (some v)) H1) : tSeq (tAsg te (gName i)) tz D σ H := h H (Evl.Ex.refl H) _ fun v H1 e p => k v H1 e p
theorem s_ret {Q : VK} (h : EvS te σ H s) (k : ∀ v H1, Ex H H1 → s.P v H1 → D.rt v H1) : tRet te D σ H := h H (Evl.Ex.refl H) _ fun v H1 e p => k v H1 e p
theorem s_retR (h : EvS te σ H s) (k : Ret s H D.rt) : tRet te D σ H := h H (Evl.Ex.refl H) _ fun v H1 e p => k v H1 e p
theorem Ret.of {Q : VK} (k : Ret s H Q) (e : Ex H H') : Ret s H' Q := fun v H2 e2 p => k v H2 (e.trans e2) p
theorem s_if {b : Bool} (h : EvT t σ H b) (h1 : b = true → ∀ H1, Ex H H1 → tu D σ H1) (h2 : b = false → ∀ H1, Ex H H1 → tw D σ H1) : tIfS t tu tw D σ H := Evl.s_if h h1 h2
theorem q_if {b : Bool} (h : EvT t σ H b) (h1 : b = true → ∀ H1, Ex H H1 → tu { D with nx := tz D } σ H1) (h2 : b = false → ∀ H1, Ex H H1 → tw { D with nx := tz D } σ H1) : tSeq (tIfS t tu tw) tz D σ H := Evl.q_if h h1 h2
/-- an if without else -/
theorem q_when {b : Bool} (h : EvT t σ H b) (h1 : b = true → ∀ H1, Ex H H1 → tu { D with nx := tz D } σ H1) (h2 : b = false → ∀ H1, Ex H H1 → tz D σ H1) : tSeq (tIfS t tu tNext) tz D σ H := Evl.q_when h h1 h2
theorem s_when {b : Bool} (h : EvT t σ H b) (h1 : b = true → ∀ H1, Ex H H1 → tu D σ H1) (h2 : b = false → ∀ H1, Ex H H1 → D.nx σ H1) : tIfS t tu tNext D σ H := Evl.s_when h h1 h2
/-- a for over a tuple of data: Pv by the turn, the slots, the heap -/
theorem s_forT {g : TG} {tl : TE} {ds : List PyData} (h : EvS tl σ H (dat K (.tuple ds)))
    (k : ∀ H1, Ex H H1 → ∃ Pv : Nat → L2.St → Hp → Prop, Pv 0 σ H1 ∧ (∀ i σ' H', Pv i σ' H' → Gt K H1 H') ∧
      (∀ (i : Nat) d w σ' H', ds[i]? = some d → Tp K H' w d → Pv i σ' H' → g w σ' H' fun σ2 H2 => tu { D with nx := Pv (i + 1), ct := Pv (i + 1), bk := D.nx } σ2 H2) ∧ ∀ σ' H', Pv ds.length σ' H' → D.nx σ' H') :
    tFor (iTup K tl) g tu D σ H := h H (Evl.Ex.refl H) _ fun v H1 e p => by
  obtain ⟨a, xs, ev, hq, hd⟩ := Tp.tup_inv p
  obtain ⟨Pv, p0, pg, ps, pd⟩ := k H1 e
  refine ⟨a, ev, ⟨xs, hq⟩, for_tup (xs := xs) Pv p0 (fun i σ' H' _ q => pg i σ' H' q a xs hq) (fun i w σ' H' hi q => ?_) fun σ' H' q => pd σ' H' (by rw [← hd.len]; exact q)⟩
  obtain ⟨d, hd', pd'⟩ := hd.get' hi
  exact ps i d w σ' H' hd' (pd'.mono (pg i σ' H' q)) q
/-- a for over a list of data that the body leaves as it is -/
theorem s_forL {g : TG} {tl : TE} {ds : List PyData} (h : EvS tl σ H (lstS K ds))
    (k : ∀ a xs H1, Ex H H1 → H1 a = some (.lst xs) → TpAll K H1 xs ds → ∃ Pv : Nat → L2.St → Hp → Prop, Pv 0 σ H1 ∧ (∀ i σ' H', Pv i σ' H' → H' a = some (.lst xs) ∧ Gt K H1 H') ∧
      (∀ (i : Nat) d w σ' H', ds[i]? = some d → Tp K H' w d → Pv i σ' H' → g w σ' H' fun σ2 H2 => tu { D with nx := Pv (i + 1), ct := Pv (i + 1), bk := D.nx } σ2 H2) ∧ ∀ σ' H', Pv ds.length σ' H' → D.nx σ' H') :
    tFor (iList K tl) g tu D σ H := h H (Evl.Ex.refl H) _ fun v H1 e ⟨a, xs, ev, hq, hd⟩ => by
  obtain ⟨Pv, p0, pg, ps, pd⟩ := k a xs H1 e hq hd
  refine ⟨a, ev, ⟨xs, SqL.of hq⟩, for_list (xs := xs) Pv p0 (fun i σ' H' _ q => SqL.of (pg i σ' H' q).1) (fun i w σ' H' hi q => ?_) fun σ' H' q => pd σ' H' (by rw [← hd.len]; exact q)⟩
  obtain ⟨d, hd', pd'⟩ := hd.get' hi
  exact ps i d w σ' H' hd' (pd'.mono (pg i σ' H' q).2) q
/-- a for over range(n), range(lo, n) -/
theorem s_forR1 {j : Nat} {ta : TA} {n : Int} (h : EvA ta σ H [intS n]) (hn : -1000000 ≤ n ∧ n ≤ 1000000)
    (k : ∀ H1, Ex H H1 → ∃ Pv : Nat → L2.St → Hp → Prop, Pv 0 σ H1 ∧
      (∀ (i : Nat) σ' H', (i : Int) < n → Pv i σ' H' → tu { D with nx := Pv (i + 1), ct := Pv (i + 1), bk := D.nx } (σ'.set j (some (.int (i : Int)))) H') ∧ ∀ σ' H', Pv n.toNat σ' H' → D.nx σ' H') :
    tFor (iRng1 ta) (gName j) tu D σ H := h H (Evl.Ex.refl H) _ fun vs H1 e p => by
  obtain ⟨w, rfl, pw⟩ := a1 p
  obtain ⟨Pv, p0, ps, pd⟩ := k H1 e
  refine ⟨n, by rw [show w = .int n from pw], by omega, by omega, for_range (lo := 0) (n := n.toNat) Pv p0 (fun i σ' H' hi q => ?_) pd⟩
  show tu _ (σ'.set j (some (.int ((0 : Int) + (i : Int))))) H'
  rw [Int.zero_add]
  exact ps i σ' H' (by omega) q
theorem s_forR2 {j : Nat} {ta : TA} {lo n : Int} (h : EvA ta σ H [intS lo, intS n]) (hl : -1000000 ≤ lo ∧ lo ≤ 1000000) (hn : -1000000 ≤ n ∧ n ≤ 1000000)
    (k : ∀ H1, Ex H H1 → ∃ Pv : Nat → L2.St → Hp → Prop, Pv 0 σ H1 ∧
      (∀ (i : Nat) σ' H', lo + (i : Int) < n → Pv i σ' H' → tu { D with nx := Pv (i + 1), ct := Pv (i + 1), bk := D.nx } (σ'.set j (some (.int (lo + (i : Int))))) H') ∧ ∀ σ' H', Pv (n - lo).toNat σ' H' → D.nx σ' H') :
    tFor (iRng2 ta) (gName j) tu D σ H := h H (Evl.Ex.refl H) _ fun vs H1 e p => by
  obtain ⟨w, w', rfl, pw, pw'⟩ := a2 p
  obtain ⟨Pv, p0, ps, pd⟩ := k H1 e
  exact ⟨lo, n, by rw [show w = .int lo from pw, show w' = .int n from pw'], ⟨by omega, by omega, by omega, by omega⟩, for_range (lo := lo) (n := (n - lo).toNat) Pv p0 (fun i σ' H' hi q => ps i σ' H' (by omega) q) pd⟩
/-- .. with something behind -/
theorem q_for {wi : TI} {g : TG} (h : tFor wi g tu { D with nx := tz D } σ H) : tSeq (tFor wi g tu) tz D σ H := h
/-- xs.append(e), xs a list of data -/
theorem q_app {l : Addr} {xs : List V} {ds : List PyData} {d : PyData} (hl : H l = some (.lst xs)) (hd : TpAll K H xs ds) (ha : EvS ta σ H (vS (.ref l))) (h : EvS te σ H (dat K d)) (hz : ds.length < 100000)
    (k : ∀ w H1, Ex H H1 → TpAll K (upd H1 l (.lst (xs ++ [w]))) (xs ++ [w]) (ds ++ [d]) → tz D σ (upd H1 l (.lst (xs ++ [w])))) : tSeq (tDrop (tBM K "list" rAppend ta (tCons te tNil))) tz D σ H :=
  ha H (Evl.Ex.refl H) _ fun v H1 e1 p1 => by
    have p1 : v = .ref l := p1
    subst p1
    refine ⟨Or.inl ⟨rfl, xs, SqL.of (e1 l _ hl)⟩, h H1 e1 _ fun w H2 e2 p2 => ⟨l, xs, w, rfl, rfl, e2 l _ (e1 l _ hl), by rw [hd.len]; exact Nat.lt_of_lt_of_le hz (by decide), k w H2 (e1.trans e2) ?_⟩⟩
    exact ((hd.mono (Gt.of_ex (e1.trans e2))).snoc p2).mono (Gt.upd_lst (e2 l _ (e1 l _ hl)))
theorem s_app {l : Addr} {xs : List V} {ds : List PyData} {d : PyData} (hl : H l = some (.lst xs)) (hd : TpAll K H xs ds) (ha : EvS ta σ H (vS (.ref l))) (h : EvS te σ H (dat K d)) (hz : ds.length < 100000)
    (k : ∀ w H1, Ex H H1 → TpAll K (upd H1 l (.lst (xs ++ [w]))) (xs ++ [w]) (ds ++ [d]) → D.nx σ (upd H1 l (.lst (xs ++ [w])))) : tDrop (tBM K "list" rAppend ta (tCons te tNil)) D σ H :=
  ha H (Evl.Ex.refl H) _ fun v H1 e1 p1 => by
    have p1 : v = .ref l := p1
    subst p1
    refine ⟨Or.inl ⟨rfl, xs, SqL.of (e1 l _ hl)⟩, h H1 e1 _ fun w H2 e2 p2 => ⟨l, xs, w, rfl, rfl, e2 l _ (e1 l _ hl), by rw [hd.len]; exact Nat.lt_of_lt_of_le hz (by decide), k w H2 (e1.trans e2) ?_⟩⟩
    exact ((hd.mono (Gt.of_ex (e1.trans e2))).snoc p2).mono (Gt.upd_lst (e2 l _ (e1 l _ hl)))
end
end K45
/-! The text by places, its defs as they are called; tables. -/
namespace K45
open PySem L2 RZ
def topS (i : Nat) : Stmt := PySem.Challenge.pw_neverregret_k45_whole_fewest_requests.main.body.getD i (.Pass ⟨0, 0, 0, 0⟩)
/-- a comprehension's scope -/
abbrev mkSc (l : List (String × NameKind)) : Scope := { kind := .function, names := l.map fun p => (Str.ofString p.1, p.2), isGenerator := false, isCoroutine := false }

/-- built-in names that the module leaves as they are; its constants -/
structure Bt (mg : Str → Option Value) : Prop where
  b_len : mg "len" = none
  b_sum : mg "sum" = none
  b_any : mg "any" = none
  b_all : mg "all" = none
  b_abs : mg "abs" = none
  b_max : mg "max" = none
  b_min : mg "min" = none
  b_sorted : mg "sorted" = none
  b_repr : mg "repr" = none
  b_tuple : mg "tuple" = none
  b_list : mg "list" = none
  b_int : mg "int" = none
  b_dict : mg "dict" = none
  b_str : mg "str" = none
  b_bool : mg "bool" = none
  b_range : mg "range" = none
  b_enumerate : mg "enumerate" = none
  b_zip : mg "zip" = none
  b_isinstance : mg "isinstance" = none
  b_super : mg "super" = none
  c_LETTERS : ∃ u, mg "LETTERS" = some u ∧ RelV (.str "abcdefghijklmnopqrstuvwxyz") u
  c_LONGEST_NAME : ∃ u, mg "LONGEST_NAME" = some u ∧ RelV (.int 8) u
  c_MOST_KINDS : ∃ u, mg "MOST_KINDS" = some u ∧ RelV (.int 8) u
  c_MOST_TYPES : ∃ u, mg "MOST_TYPES" = some u ∧ RelV (.int 12) u

/-- a def of the text -/
structure Df (K : Fg) (mg : Str → Option Value) (x : Str) (st : Stmt) (ps : List Str) : Prop where
  ex : ∃ f fd, Fun K x x st f fd ∧ mg x = some (.ref f) ∧ Binds K fd ps []
/-- a def that keeps a promise -/
structure OkD (P : Program) (w : World) (K : Fg) (mg : Str → Option Value) (base : Heap) (CX : CXT) (k : Nat) (x : Str) (ps : List Str) (sp : Sp) : Prop where
  ex : ∃ f fd, FnOk P w K mg base CX k f fd ps sp ∧ mg x = some (.ref f) ∧ PySem.W.keepIn K (.ref f) = true ∧ Binds K fd ps []
section
variable {P : Program} {w : World} {K : Fg} {mg : Str → Option Value} {base : Heap} {CX : CXT} {k : Nat} {x : Str} {st : Stmt} {ps : List Str} {sp : Sp}
theorem OkD.of (D : Df K mg x st ps) (h : ∀ f fd, Fun K x x st f fd → FnOk P w K mg base CX k f fd ps sp) : OkD P w K mg base CX k x ps sp :=
  let ⟨f, fd, F, m, b⟩ := D.ex
  ⟨f, fd, h f fd F, m, F.kp, b⟩
theorem atLen {H : Hp} : ∀ {vs : List V} {ss : List Sh}, AtAll H vs ss → vs.length = ss.length
  | [], [], _ => rfl
  | _ :: _, _ :: _, h => by rw [List.length_cons, List.length_cons, atLen h.2]
  | [], _ :: _, h => h.elim
  | _ :: _, [], h => h.elim
end
section
variable {X : Cx} {k j : Nat} {x : Str} {p pos : Pos} {e : Expr} {es : List Expr} {ps : List Str} {sp : Sp} {t : TA}
/-- the call of a def that nothing leaves -/
theorem pe_d (G : OkD X.prog X.w X.K X.mg X.base CX0 k x ps sp) (hr : Room j X.A) (ha : PA X (e :: es) t) (hk : k ≤ j := by decide) (hg : Gl X x := by rfl)
    (hdb : (x == ("__debug__" : Str)) = false := by decide) (he : starEach (e :: es) X.env = (false, eval e X.env) :: starEach es X.env := by rfl) (hpl : (backTo pos (starEach es X.env)).any (·.1) = false := by rfl) :
    PE X (.Call (.Name x p) (e :: es) [] pos) (tCall sp [] E0 t) := by
  obtain ⟨f, fd, F, m, kp, b⟩ := G.ex
  exact pe_call F (hr.mono hk) hg m kp b .nil pass0 ha hdb he hpl
end

/-! ### rules with the written part by its own name (within a comprehension's block too) -/
section
variable {X : Cx}
theorem k_ix (K : Fg) (h : X.K = K := by rfl) : IxR X (rIx K) := h ▸ ix_seq
theorem k_in (K : Fg) (h : X.K = K := by rfl) : OpR X (compareOp .In) (rIn K false) := h ▸ op_in_seq
theorem k_notIn (K : Fg) (h : X.K = K := by rfl) : OpR X (compareOp .NotIn) (rIn K true) := h ▸ op_notIn_seq
theorem k_len (K : Fg) (h : X.K = K := by rfl) : CallR X (.builtin "len") (fun xs H Q => ∃ p ys, xs = [.ref p] ∧ (SqL K H p ys ∨ SqT K H p ys) ∧ Q (.int ys.length) H) := h ▸ call_len_seq
theorem k_tuple (K : Fg) (h : X.K = K := by rfl) : CallR X (.type "tuple") (fun xs H Q => ∃ p ys, xs = [.ref p] ∧ ((SqL K H p ys ∧ ∀ l, H l = none → Q (.ref l) (upd H l (.tup ys))) ∨ (SqT K H p ys ∧ Q (.ref p) H))) := h ▸ call_tuple_of
theorem k_list (K : Fg) (h : X.K = K := by rfl) : CallR X (.type "list") (fun xs H Q => ∃ p ys, xs = [.ref p] ∧ (SqL K H p ys ∨ SqT K H p ys) ∧ ∀ l, H l = none → Q (.ref l) (upd H l (.lst ys))) := h ▸ call_list_of
theorem k_sum (K : Fg) (hc : X.calm = true := by rfl) (h : X.K = K := by rfl) : CallR X (.builtin "sum") (rSum K) := h ▸ cr_sum hc
theorem k_min (K : Fg) (hc : X.calm = true := by rfl) (h : X.K = K := by rfl) : CallR X (.builtin "min") (rMin K) := h ▸ cr_min hc
theorem k_any (K : Fg) (hc : X.calm = true := by rfl) (h : X.K = K := by rfl) : CallR X (.builtin "any") (rAny K) := h ▸ cr_any hc
theorem k_all (K : Fg) (hc : X.calm = true := by rfl) (h : X.K = K := by rfl) : CallR X (.builtin "all") (rAll K) := h ▸ cr_all hc
theorem k_sorted (K : Fg) (h : X.K = K := by rfl) : CallR X (.builtin "sorted") (rSortedI K) := h ▸ cr_sortedI
theorem k_cat : OpR X (binaryOp .Add) rCat := op_cat
theorem k_catT (K : Fg) (h : X.K = K := by rfl) : OpR X (binaryOp .Add) (rCatA K) := h ▸ op_catA
theorem k_slT (K : Fg) (h : X.K = K := by rfl) : SlR X (rSlA K) := h ▸ sl_tupA
theorem k_slL (K : Fg) (h : X.K = K := by rfl) : SlR X (rSlL K) := h ▸ sl_list
theorem k_eqD (K : Fg) (hu : X.A.units + 64 < cLine) (h : X.K = K := by rfl) : OpR X (compareOp .Eq) (rEqD K) := h ▸ op_eqD hu
theorem k_neD (K : Fg) (hu : X.A.units + 64 < cLine) (h : X.K = K := by rfl) : OpR X (compareOp .NotEq) (rNeD K) := h ▸ op_neD hu
theorem k_fld (K : Fg) {e : Expr} {f : Str} {ta : TE} {pos : Pos} (he : PE X e ta) (hb : attributeBase e f X.env (eval e X.env) = eval e X.env) (h : X.K = K := by rfl) : PE X (.Attribute e f pos) (tFld K ta f) := h ▸ pe_fld he hb
theorem k_pit (K : Fg) {tg l : Expr} {tl : TE} (hl : PE X l tl) (h : X.K = K := by rfl) : PI X tg l (iTup K tl) := h ▸ pi_tup hl
theorem k_pil (K : Fg) {tg l : Expr} {tl : TE} (hl : PE X l tl) (h : X.K = K := by rfl) : PI X tg l (iList K tl) := h ▸ pi_list hl
theorem k_pgt (K : Fg) {es : List Expr} {k : Nat} {t : TGs} {n : Nat} {pos : Pos} (hc : X.calm = true) (h : PGs X es t) (hn : (assignEach es X.env).length = n := by rfl) (hst : (assignEach es X.env).findIdx? (·.1) = none := by rfl) (hK : X.K = K := by rfl) : PG X (.Tuple es k pos) (gTup K n t) := hK ▸ pg_tup hc h hn hst
theorem k_zip (K : Fg) {e e2 : Expr} {ta : TA} {p pos tpos : Pos} {elts : List Expr} {kk : Nat} (hg : Gl X "zip") (hm : X.mg "zip" = none) (ha : PA X [e, e2] ta)
    (hs : starEach [e, e2] X.env = (false, eval e X.env) :: starEach [e2] X.env := by rfl) (hs2 : ((backTo pos (starEach [e2] X.env)).any fun x => x.1) = false := by rfl) (hK : X.K = K := by rfl) :
    PI X (.Tuple elts kk tpos) (.Call (.Name "zip" p) [e, e2] [] pos) (iZipA K ta) := hK ▸ pi_zipA hg hm ha hs hs2
end

/-! ### tables -/
/-- kinds and types, the lots that these accept -/
structure Tab where
  kinds : List Str
  types : List (Str × List Nat)
def Tab.nk (T : Tab) : Nat := T.kinds.length
def Tab.lots (T : Tab) : List (List Nat) := T.types.map (·.2)
def dN (n : Nat) : PyData := .int n
def dNs (l : List Nat) : PyData := .tuple (l.map dN)
def dIs (l : List Int) : PyData := .tuple (l.map .int)
def dO : Option Int → PyData
  | none => .none
  | some i => .int i
def dOs (l : List (Option Int)) : PyData := .tuple (l.map dO)
def dTy (t : Str × List Nat) : PyData := .tuple [.str t.1, dNs t.2]
def dTys (T : Tab) : PyData := .tuple (T.types.map dTy)
def dKs (T : Tab) : PyData := .tuple (T.kinds.map .str)
/-- the class Table, as the text leaves it -/
structure TabC (K : Fg) (C : Addr) : Prop where
  cl : Cls K C
  nk : NoAttr K C "kinds"
  nt : NoAttr K C "types"
/-- an instance of it -/
def tabS (K : Fg) (T : Tab) : Sh := ⟨fun v H => ∃ a C dx vk vt, v = .ref a ∧ H a = some (.ins C dx (putF "types" vt (putF "kinds" vk []))) ∧ TabC K C ∧ Tp K H vk (dKs T) ∧ Tp K H vt (dTys T),
  fun _ _ _ e ⟨a, C, dx, vk, vt, h1, h2, h3, h4, h5⟩ => ⟨a, C, dx, vk, vt, h1, e _ _ h2, h3, h4.mono (Gt.of_ex e), h5.mono (Gt.of_ex e)⟩⟩
theorem kt_ : ¬ (("kinds" : Str) = "types") := by decide +kernel
theorem tk_ : ¬ (("types" : Str) = "kinds") := by decide +kernel
theorem tf_kinds (a b : V) : (putF "types" b (putF "kinds" a [])).lookup ("kinds" : Str) = some a := by
  rw [lookup_putF, if_neg kt_, lookup_putF, if_pos rfl]
theorem tf_types (a b : V) : (putF "types" b (putF "kinds" a [])).lookup ("types" : Str) = some b := by
  rw [lookup_putF, if_pos rfl]
section
variable {K : Fg} {σ : L2.St} {H : Hp} {ta : TE} {T : Tab}
theorem e_kinds (h : EvS ta σ H (tabS K T)) : EvS (tFld K ta "kinds") σ H (dat K (dKs T)) := fun H1 e Q q =>
  h H1 e _ fun v H2 e2 ⟨a, C, dx, vk, vt, h1, h2, h3, h4, h5⟩ => ⟨a, C, dx, _, vk, h1, h2, h3.cl, h3.nk, tf_kinds _ _, q _ H2 e2 h4⟩
theorem e_types (h : EvS ta σ H (tabS K T)) : EvS (tFld K ta "types") σ H (dat K (dTys T)) := fun H1 e Q q =>
  h H1 e _ fun v H2 e2 ⟨a, C, dx, vk, vt, h1, h2, h3, h4, h5⟩ => ⟨a, C, dx, _, vt, h1, h2, h3.cl, h3.nt, tf_types _ _, q _ H2 e2 h5⟩
end
theorem map_dN (l : List Nat) : l.map dN = (l.map fun n : Nat => (n : Int)).map PyData.int := by rw [List.map_map]; rfl
theorem filter_map {α β : Type} (p : β → Bool) (f : α → β) (l : List α) : (l.map f).filter p = (l.filter fun a => p (f a)).map f := by
  induction l with
  | nil => rfl
  | cons a l ih =>
    rw [List.map_cons, List.filter_cons, List.filter_cons, ih]
    cases p (f a) <;> rfl
theorem filter_true' {α : Type} (l : List α) : l.filter (fun _ => true) = l := by simp
end K45
/-! More readings: types, texts, pairs that are walked. -/
namespace K45
open PySem L2 RZ
section
variable {K : Fg} {σ : L2.St} {H H' : Hp} {ta tb te tc tl : TE} {t u tt : TT} {x y z v : V} {s s' : Sh}
/-- the type of data -/
def tyD : PyData → String
  | .none => "NoneType"
  | .bool _ => "bool"
  | .int _ => "int"
  | .str _ => "str"
  | _ => "tuple"
theorem Tp.ty {d : PyData} (h : Tp K H v d) : TyX K H v (.type (tyD d)) := by
  cases h with
  | non => exact .base .non
  | bl b => exact .base (.bl b)
  | int i => exact .base (.int i)
  | str x => exact .base (.str x)
  | tup h1 _ =>
    rcases h1 with (q | ⟨o, q⟩) | ⟨o, its, n, q, c, _⟩
    · exact .base (.tup q)
    · exact .fTuple q
    · exact .kTuple q c
theorem k_isi {X : Cx} (K : Fg) (h : X.K = K := by rfl) : CallR X (.builtin "isinstance") (rIsi K) := h ▸ call_isi
theorem e_isi {ta : TA} {d : PyData} {n T : String} {b : Bool} (h : EvA ta σ H [dat K d, vS (.ty T)]) (hb : kitB n T = some b) (hn : tyD d = n := by rfl) : EvS (tCB (rIsi K) ta) σ H (blS b) := by
  subst hn
  exact
  e_CB h fun vs H1 _ p Q q => by
    obtain ⟨w, w', rfl, pw, pw'⟩ := a2 p
    have pw' : w' = .ty T := pw'
    subst pw'
    exact ⟨w, _, _, _, b, rfl, .ty T, Tp.ty pw, kit_ty hb, q _ H1 (Evl.Ex.refl _) rfl⟩
/-- a datum as a value of its own -/
theorem EvS.toS {z : Str} (h : EvS te σ H (dat K (.str z))) : EvS te σ H (vS (.str z)) := h.to fun v H' p => Tp.str_inv p
theorem EvS.toI {i : Int} (h : EvS te σ H (dat K (.int i))) : EvS te σ H (intS i) := h.to fun v H' p => Tp.int_inv p
theorem EvS.ofS {z : Str} (h : EvS te σ H (vS (.str z))) : EvS te σ H (dat K (.str z)) := h.to fun v H' p => by
  have p : v = .str z := p
  subst p
  exact .str z
/-- texts -/
theorem e_ltS {i j : Str} (ha : EvS ta σ H (vS (.str i))) (hb : EvS tb σ H (vS (.str j))) : EvS (tOp (fun x y H Q => ∃ i j : Str, x = .str i ∧ y = .str j ∧ Q (.bl (decide (i.cps.toList < j.cps.toList))) H) ta tb) σ H (blS (decide (i.cps.toList < j.cps.toList))) :=
  e_two ha hb fun x y H1 _ px py Q q => ⟨i, j, px, py, q _ H1 (Evl.Ex.refl _) rfl⟩
theorem e_inSign {c : Nat} {j : Str} (ha : EvS ta σ H (vS (.str ⟨#[c]⟩))) (hb : EvS tb σ H (vS (.str j))) : EvS (tOp (fun x y H Q => ∃ (c : Nat) (z : Str), x = .str ⟨#[c]⟩ ∧ y = .str z ∧ Q (.bl (decide (c ∈ z.cps.toList))) H) ta tb) σ H (blS (decide (c ∈ j.cps.toList))) :=
  e_two ha hb fun x y H1 _ px py Q q => ⟨c, j, px, py, q _ H1 (Evl.Ex.refl _) rfl⟩
/-- a <= b < c and the like, of ints -/
theorem e_chain {f g : Int → Int → Bool} {i j k : Int} (ha : EvS ta σ H (intS i)) (hb : EvS tb σ H (intS j)) (hc : EvS tc σ H (intS k)) : EvS (tChain (rI0 fun a b => .bl (f a b)) (rI0 fun a b => .bl (g a b)) ta tb tc) σ H (blS (f i j && g j k)) := fun H1 e Q q =>
  ha H1 e _ fun v H2 e2 p2 => hb H2 (e.trans e2) _ fun w H3 e3 p3 => ⟨i, j, p2, p3, f i j, rfl, by
    cases hf : f i j with
    | false => exact q _ H3 (e2.trans e3) (by show V.bl _ = V.bl _; rw [hf]; rfl)
    | true => exact hc H3 ((e.trans e2).trans e3) _ fun u H4 e4 p4 => ⟨j, k, p3, p4, q _ H4 ((e2.trans e3).trans e4) (by show V.bl _ = V.bl _; rw [hf]; rfl)⟩⟩

/-- a constant of the module -/
theorem k_gl {X : Cx} {x : Str} {v : V} {pos : Pos} (hm : ∃ u, X.mg x = some u ∧ RelV v u) (hg : Gl X x := by rfl) (hd : (x == ("__debug__" : Str)) = false := by decide) : PE X (.Name x pos) (tC v) :=
  let ⟨_, m, r⟩ := hm
  pe_glob hg m r hd
/-- < of two ints or of two texts -/
def rLt2 : R2 := fun x y H Q => (∃ i j : Int, x = .int i ∧ y = .int j ∧ Q (.bl (decide (i < j))) H) ∨ ∃ i j : Str, x = .str i ∧ y = .str j ∧ Q (.bl (decide (i.cps.toList < j.cps.toList))) H
theorem k_lt2 {X : Cx} : OpR X (compareOp .Lt) rLt2 := by
  intro pins s sl hp x y v u Q J rx ry h
  rcases h with h | h
  · exact op_lt pins s sl hp x y v u Q J rx ry h
  · exact op_lt_str pins s sl hp x y v u Q J rx ry h
/-- .. of data -/
def ltD : PyData → PyData → Bool
  | .int i, .int j => decide (i < j)
  | .str i, .str j => decide (i.cps.toList < j.cps.toList)
  | _, _ => false
def cmpD : PyData → PyData → Bool
  | .int _, .int _ => true
  | .str _, .str _ => true
  | _, _ => false
theorem e_lt2 {d e : PyData} (ha : EvS ta σ H (dat K d)) (hb : EvS tb σ H (dat K e)) (h : cmpD d e = true) : EvS (tOp rLt2 ta tb) σ H (blS (ltD d e)) :=
  e_two ha hb fun x y H1 _ px py Q q => by
    cases px <;> first | (cases h; done) | skip
    · cases py <;> first | (cases h; done) | skip
      exact .inl ⟨_, _, rfl, rfl, q _ H1 (Evl.Ex.refl _) rfl⟩
    · cases py <;> first | (cases h; done) | skip
      exact .inr ⟨_, _, rfl, rfl, q _ H1 (Evl.Ex.refl _) rfl⟩
theorem e_lenS {z : Str} {ta : TA} (h : EvA ta σ H [vS (.str z)]) (hz : z.length ≤ 1000) : EvS (tCB (fun xs H Q => ∃ z : Str, xs = [.str z] ∧ z.length ≤ sizeLine ∧ Q (.int z.length) H) ta) σ H (intS z.length) :=
  e_CB h fun vs H1 _ p Q q => by
    obtain ⟨w, rfl, pw⟩ := a1 p
    exact ⟨z, by rw [show w = .str z from pw], Nat.le_of_lt (small1000 hz), q _ H1 (Evl.Ex.refl _) rfl⟩

/-- all, any, sum of what a comprehension gave -/
theorem e_allF {α : Type} (l : List α) (f : α → Bool) (h : EvS te σ H (lstS K ((l.filter fun _ => true).map fun a => .bool (f a)))) : EvS (tCB (rAll K) (tCons te tNil)) σ H (blS (l.all f)) := by
  rw [filter_true'] at h
  have h2 : EvS te σ H (lstS K ((l.map f).map PyData.bool)) := by rw [List.map_map]; exact h
  exact (e_all (a_cons h2 a_nil)).cast (by rw [List.all_map]; rfl)
theorem e_anyF {α : Type} (l : List α) (f : α → Bool) (h : EvS te σ H (lstS K ((l.filter fun _ => true).map fun a => .bool (f a)))) : EvS (tCB (rAny K) (tCons te tNil)) σ H (blS (l.any f)) := by
  rw [filter_true'] at h
  have h2 : EvS te σ H (lstS K ((l.map f).map PyData.bool)) := by rw [List.map_map]; exact h
  exact (e_any (a_cons h2 a_nil)).cast (by rw [List.any_map]; rfl)
theorem e_sumF {α : Type} (l : List α) (f : α → Int) (h : EvS te σ H (lstS K ((l.filter fun _ => true).map fun a => .int (f a)))) : EvS (tCB (rSum K) (tCons te tNil)) σ H (intS ((l.map f).sum)) := by
  rw [filter_true'] at h
  have h2 : EvS te σ H (lstS K ((l.map f).map PyData.int)) := by rw [List.map_map]; exact h
  exact e_sum (a_cons h2 a_nil)
theorem EvS.map' {α : Type} (l : List α) (f : α → PyData) (h : EvS te σ H (lstS K ((l.filter fun _ => true).map f))) : EvS te σ H (lstS K (l.map f)) := by
  rw [filter_true'] at h
  exact h

/-! ### pairs -/
/-- the pair of i and the item there -/
def YE (K : Fg) (ds : List PyData) : Nat → V → Hp → Prop := fun i w H => ∃ d, ds[i]? = some d ∧ Tp K H w (.tuple [.int (i : Int), d])
theorem tp_pair {T : Addr} {x y : V} {d e : PyData} (hT : H T = none) (hx : Tp K H x d) (hy : Tp K H y e) : Tp K (upd H T (.tup [x, y])) (.ref T) (.tuple [d, e]) :=
  have g : Gt K H (upd H T (.tup [x, y])) := Gt.of_ex (Evl.Ex.new hT)
  .tup (SqT.of upd_same) (.cons (hx.mono g) (.cons (hy.mono g) .nil))
theorem i_enumT {ta : TA} {ds : List PyData} (h : EvA ta σ H [dat K (.tuple ds)]) : EvI K (iEnumT K ta) σ H ds.length (YE K ds) := fun H1 e R r =>
  h H1 e _ fun vs H2 e2 p => by
    obtain ⟨w, rfl, pw⟩ := a1 p
    obtain ⟨a, xs, rfl, hq, hd⟩ := Tp.tup_inv pw
    refine ⟨a, xs, rfl, hq, r _ H2 e2 ?_⟩
    rw [← hd.len]
    refine (walk_enumT (xs := xs)).mono (fun H3 e3 => Evl.ex_t e3 hq) ?_
    rintro i Ha w Hb _ e3 ⟨T, x, y, rfl, hT, rfl, hx, hy⟩
    have hx := Option.some.inj hx
    subst hx
    obtain ⟨d, hd', pd⟩ := hd.get' hy
    exact ⟨Evl.Ex.new hT, d, hd', tp_pair hT (.int _) (pd.mono (Gt.of_ex e3))⟩
theorem i_enumL {ta : TA} {ds : List PyData} (h : EvA ta σ H [lstS K ds]) : EvI K (iEnum K ta) σ H ds.length (YE K ds) := fun H1 e R r =>
  h H1 e _ fun vs H2 e2 p => by
    obtain ⟨w, rfl, a, xs, rfl, hq, hd⟩ := a1 p
    refine ⟨a, xs, rfl, SqL.of hq, r _ H2 e2 ?_⟩
    rw [← hd.len]
    refine (walk_enum (xs := xs)).mono (fun H3 e3 => Evl.ex_l e3 (SqL.of hq)) ?_
    rintro i Ha w Hb _ e3 ⟨T, x, y, rfl, hT, rfl, hx, hy⟩
    have hx := Option.some.inj hx
    subst hx
    obtain ⟨d, hd', pd⟩ := hd.get' hy
    exact ⟨Evl.Ex.new hT, d, hd', tp_pair hT (.int _) (pd.mono (Gt.of_ex e3))⟩
theorem Tp.two {d e : PyData} (h : Tp K H v (.tuple [d, e])) : ∃ a x y, v = .ref a ∧ SqT K H a [x, y] ∧ Tp K H x d ∧ Tp K H y e := by
  obtain ⟨a, xs, rfl, hq, hd⟩ := Tp.tup_inv h
  cases hd with
  | cons h1 h2 => cases h2 with
    | cons h2 h3 =>
      cases h3
      exact ⟨a, _, _, rfl, hq, h1, h2⟩
/-- i, x = a pair -/
theorem goes_two {i j : Nat} {d e : PyData} (h : Tp K H v (.tuple [d, e])) : ∃ x y, Tp K H x d ∧ Tp K H y e ∧ Goes (gTup K 2 (gCons (gName i) (gCons (gName j) gNil))) v σ H ((σ.set i (some x)).set j (some y)) := by
  obtain ⟨a, x, y, rfl, hq, hx, hy⟩ := h.two
  exact ⟨x, y, hx, hy, fun Q q => ⟨a, _, rfl, hq, rfl, x, [y], rfl, y, [], rfl, rfl, q⟩⟩
/-- i, (x, y) = a pair with a pair -/
theorem goes_three {i j l : Nat} {d e f : PyData} (h : Tp K H v (.tuple [d, .tuple [e, f]])) : ∃ x y z, Tp K H x d ∧ Tp K H y e ∧ Tp K H z f ∧
    Goes (gTup K 2 (gCons (gName i) (gCons (gTup K 2 (gCons (gName j) (gCons (gName l) gNil))) gNil))) v σ H (((σ.set i (some x)).set j (some y)).set l (some z)) := by
  obtain ⟨a, x, y, rfl, hq, hx, hy⟩ := h.two
  obtain ⟨b, y1, y2, rfl, hq', hy1, hy2⟩ := hy.two
  exact ⟨x, y1, y2, hx, hy1, hy2, fun Q q => ⟨a, _, rfl, hq, rfl, x, [.ref b], rfl, .ref b, [], rfl, b, _, rfl, hq', rfl, y1, [y2], rfl, y2, [], rfl, rfl, rfl, q⟩⟩
end
end K45
/-! A set of numbers by a comprehension with two clauses; sorted of it. -/
namespace K45
open PySem L2 RZ
theorem k_sortedSet {X : Cx} (w : World) (hc : X.calm = true := by rfl) (hw : X.w = w := by rfl) : CallR X (.builtin "sorted") (rSortedSet w) := hw ▸ cr_sortedSet hc
theorem k_sc2 {X : Cx} (w : World) {elt tg iter tg1 iter1 : Expr} {ifs ifs1 : List Expr} {scope : Scope} {own : List (Str × Nat)} {vs1 : List Nat} {pos : Pos} {wi wi1 : TI} {g g1 : TG} {tt tt1 : TT} {te : TE} (hc : X.calm = true) (hN : X.N.Nodup) (hi : PI X tg iter wi) (ok : BlkOk X.N X.env.scope scope own) (hv : ∀ i ∈ vs1, i ∈ own.map (·.2))
    (hg : InBlk X scope fun Y => PG Y tg g) (ht : InBlk X scope fun Y => PTs Y ifs tt) (hi1 : InBlk X scope fun Y => PI Y tg1 iter1 wi1) (hg1 : InBlk X scope fun Y => PG Y tg1 g1) (ht1 : InBlk X scope fun Y => PTs Y ifs1 tt1) (he : InBlk X scope fun Y => PE Y elt te)
    (hs : ∀ x, foldedSetIterable iter X.env x = pure x := by intro _; rfl) (hs1 : ∀ env x, foldedSetIterable iter1 env x = pure x := by intro _ _; rfl) (hw : X.w = w := by rfl) :
    PE X (twoE elt tg iter tg1 iter1 ifs ifs1 scope pos) (tSc2 w wi g tt wi1 g1 tt1 te (own.map (·.2)) vs1) := hw ▸ pe_sc2 hc hN hi ok hv hg ht hi1 hg1 ht1 he hs hs1
/-- the set of what stands in M, numbers below n -/
def SetM (w : World) (n : Nat) (M : List Nat) (D : Addr) (H : Hp) : Prop := ∃ (S : Int → Bool) (c : Nat), H D = some (SetO w D S c) ∧ (∀ k : Int, S k = true ↔ ∃ j ∈ M, k = (j : Int)) ∧ c = ((List.range n).filter fun k : Nat => S (k : Int)).length
theorem count_add {n c : Nat} {S : Int → Bool} (hc : c < n) : ((List.range n).filter fun k : Nat => S (k : Int) || decide ((k : Int) = (c : Int))).length = if S (c : Int) = true then ((List.range n).filter fun k : Nat => S (k : Int)).length else ((List.range n).filter fun k : Nat => S (k : Int)).length + 1 := by
  induction n with
  | zero => omega
  | succ n ih =>
    rw [List.range_succ, List.filter_append, List.filter_append, List.length_append, List.length_append]
    by_cases e : c = n
    · subst e
      have h1 : (List.range c).filter (fun k : Nat => S (k : Int) || decide ((k : Int) = (c : Int))) = (List.range c).filter fun k : Nat => S (k : Int) := List.filter_congr fun k hk => by
        have := List.mem_range.mp hk
        rw [decide_eq_false (by omega), Bool.or_false]
      rw [h1]
      cases hs : S (c : Int) <;> simp [hs]
    · have e2 : decide ((n : Int) = (c : Int)) = false := decide_eq_false (by omega)
      rw [ih (by omega)]
      cases hs : S (c : Int) <;> cases hn : S (n : Int) <;> simp [hn, e2] <;> omega
theorem SetM.add {w : World} {n : Nat} {M : List Nat} {D : Addr} {H : Hp} {c : Nat} (h : SetM w n M D H) (hc : c < n) (hn : n ≤ 1000) :
    ∃ (S : Int → Bool) (m : Nat), H D = some (SetO w D S m) ∧ m + 1 < scanBound ∧ SetM w n (M ++ [c]) D (upd H D (SetO w D (fun j => S j || decide (j = (c : Int))) (if S (c : Int) = true then m else m + 1))) := by
  obtain ⟨S, m, h1, h2, h3⟩ := h
  have hm : m ≤ 1000 := by
    rw [h3]
    exact Nat.le_trans (List.length_filter_le _ _) (by rw [List.length_range]; exact hn)
  refine ⟨S, m, h1, Nat.lt_of_le_of_lt (Nat.succ_le_succ hm) (by decide), _, _, upd_same, fun k => ?_, ?_⟩
  · rw [Bool.or_eq_true, h2, decide_eq_true_eq]
    constructor
    · rintro (⟨j, hj, e⟩ | e)
      · exact ⟨j, List.mem_append_left _ hj, e⟩
      · exact ⟨c, List.mem_append_right _ List.mem_cons_self, e⟩
    · rintro ⟨j, hj, e⟩
      rcases List.mem_append.mp hj with hj | hj
      · exact .inl ⟨j, hj, e⟩
      · rw [List.mem_singleton.mp hj] at e
        exact .inr e
  · rw [count_add hc, ← h3]
def setS (w : World) (n : Nat) (M : List Nat) : Sh := ⟨fun v H => ∃ D, v = .ref D ∧ SetM w n M D H, fun _ _ _ e ⟨D, h1, S, c, h2, h3⟩ => ⟨D, h1, S, c, e D _ h2, h3⟩⟩
section
variable {K : Fg} {w : World} {σ : L2.St} {H : Hp} {te : TE} {wi wi1 : TI}
theorem SetM.ex {n : Nat} {M : List Nat} {D : Addr} {H H' : Hp} (h : SetM w n M D H) (e : Ex H H') : SetM w n M D H' :=
  let ⟨S, c, h1, h2⟩ := h
  ⟨S, c, e D _ h1, h2⟩
theorem e_sc2 {α : Type} {j j1 : Nat} {tl1 : TE} {vs vs1 : List Nat} {Y : Nat → V → Hp → Prop} (l : List α) (g : α → List Nat) (n : Nat) (hn : n ≤ 1000) (hi : EvI K wi σ H l.length Y) (hvs : ∀ x, wipe ((wipe σ vs).set j (some x)) vs = wipe σ vs)
    (hv1 : ∀ x y, wipe ((wipe ((wipe σ vs).set j (some x)) vs1).set j1 (some y)) vs1 = wipe ((wipe σ vs).set j (some x)) vs1) (hj1 : ∀ x y, ((wipe ((wipe σ vs).set j (some x)) vs1).set j1 (some y))[j1]? = some (some y))
    (hb : ∀ (i : Nat) (a : α) (x : V) (H1 : Hp), Ex H H1 → l[i]? = some a → Y i x H1 → (∀ k ∈ g a, k < n) ∧ EvS tl1 ((wipe σ vs).set j (some x)) H1 (dat K (dNs (g a)))) :
    EvS (tSc2 w wi (gName j) tYes (iTup K tl1) (gName j1) tYes (tVar j1) vs vs1) σ H (setS w n (l.flatMap g)) := fun H0 e0 Q q => hi H0 e0 _ fun J H1 e1 wk D hD => by
  have exD : Ex H1 (upd H1 D (SetO w D (fun _ => false) 0)) := Evl.Ex.new hD
  have s0 : SetM w n [] D (upd H1 D (SetO w D (fun _ => false) 0)) := by
    refine ⟨_, 0, upd_same, fun k => Iff.intro (fun z => by cases z) (fun ⟨_, h, _⟩ => nomatch h), ?_⟩
    rw [List.filter_eq_nil_iff.mpr fun _ _ z => by cases z]
    rfl
  refine ⟨fun i m H' => m = l.length - i ∧ i ≤ l.length ∧ Ex H1 H' ∧ SetM w n ((l.take i).flatMap g) D H', ⟨l.length, rfl, Nat.zero_le _, exD, by rw [List.take_zero]; exact s0⟩, ?_⟩
  rintro i m H2 ⟨rfl, hle, ex2, sm⟩
  by_cases hlt : i < l.length
  · refine .inr ⟨wk.goes i H2 hlt ex2, fun H' => Ex H1 H' ∧ SetM w n ((l.take (i + 1)).flatMap g) D H', fun H' ⟨x1, x2⟩ => ⟨l.length - (i + 1), by omega, rfl, hlt, x1, x2⟩, fun x H3 y => ?_⟩
    obtain ⟨ex23, hy⟩ := wk.yields i H2 x H3 hlt ex2 y
    have ha : l[i]? = some l[i] := List.getElem?_eq_getElem hlt
    obtain ⟨hlo, hl1⟩ := hb i l[i] x H3 ((e0.trans e1).trans (ex2.trans ex23)) ha hy
    have tk : l.take (i + 1) = l.take i ++ [l[i]] := by rw [List.take_add_one, ha]; rfl
    refine ⟨hvs x, ?_⟩
    show tl1 _ _ _
    refine hl1 H3 (Evl.Ex.refl H3) _ fun v H4 e4 pv => ?_
    obtain ⟨a', xs, rfl, hq, hd⟩ := Tp.tup_inv pv
    have e24 : Ex H1 H4 := (ex2.trans ex23).trans e4
    have hlen : xs.length = (g l[i]).length := by rw [hd.len, List.length_map]
    refine ⟨a', rfl, ⟨xs, hq⟩, fun i1 m1 H' => m1 = (g l[i]).length - i1 ∧ i1 ≤ (g l[i]).length ∧ Ex H1 H' ∧ SqT K H' a' xs ∧ SetM w n ((l.take i).flatMap g ++ (g l[i]).take i1) D H', ⟨_, rfl, Nat.zero_le _, e24, hq, by rw [List.take_zero, List.append_nil]; exact sm.ex (ex23.trans e4)⟩, ?_⟩
    rintro i1 m1 H5 ⟨rfl, hle1, ex5, hq5, sm5⟩
    by_cases hlt1 : i1 < (g l[i]).length
    · have hk : (g l[i])[i1]? = some (g l[i])[i1] := List.getElem?_eq_getElem hlt1
      obtain ⟨y, hy1, py⟩ := hd.get (show ((g l[i]).map dN)[i1]? = some (dN (g l[i])[i1]) by rw [List.getElem?_map, hk]; rfl)
      have py := py.int_inv
      have tk1 : (g l[i]).take (i1 + 1) = (g l[i]).take i1 ++ [(g l[i])[i1]] := by rw [List.take_add_one, hk]; rfl
      refine .inr ⟨⟨xs, y, hq5, hy1⟩, fun H' => Ex H1 H' ∧ SqT K H' a' xs ∧ SetM w n ((l.take i).flatMap g ++ (g l[i]).take (i1 + 1)) D H', fun H' ⟨x1, x2, x3⟩ => ⟨(g l[i]).length - (i1 + 1), by omega, rfl, hlt1, x1, x2, x3⟩, fun z H6 yz => ?_⟩
      obtain ⟨e6, yz⟩ := yz
      subst e6
      have ez : z = y := by
        have := yz xs hq5
        rw [hy1] at this
        exact (Option.some.inj this).symm
      subst ez
      refine ⟨hv1 x z, ?_⟩
      unfold tYes
      dsimp only
      rw [if_pos rfl]
      refine ⟨z, hj1 x z, ?_⟩
      obtain ⟨S, c, h1, h2, h3⟩ := sm5.add (hlo _ (List.mem_of_getElem? hk)) hn
      refine ⟨_, S, c, py, h1, h2, ?_, ?_, ?_⟩
      · exact Evl.Ex.mut ex5 hD
      · exact Gt.upd (by rw [h1]; trivial) a' xs hq5
      · rw [tk1, ← List.append_assoc]
        exact h3
    · have e : i1 = (g l[i]).length := by omega
      subst e
      refine .inl ⟨⟨xs, hq5, Nat.le_of_eq hlen⟩, ex5, ?_⟩
      rw [List.take_length] at sm5
      rw [tk, List.flatMap_append]
      simpa using sm5
  · have e : i = l.length := by omega
    subst e
    refine .inl ⟨wk.stops H2 ex2, q _ H2 (e1.trans ex2) ⟨D, rfl, ?_⟩⟩
    rw [List.take_length] at sm
    exact sm
/-- sorted of it -/
theorem sorted_unique {a b : List Int} (ha : a.Pairwise (· < ·)) (hb : b.Pairwise (· < ·)) (h : ∀ k, k ∈ a ↔ k ∈ b) : a = b :=
  ((List.perm_ext_iff_of_nodup (ha.imp fun h => Int.ne_of_lt h) (hb.imp fun h => Int.ne_of_lt h)).mpr h : a.Perm b).eq_of_pairwise (le := fun x y : Int => x < y) (fun _ _ _ _ h1 h2 => by omega) ha hb
theorem pairwise_cast : ∀ {l : List Nat}, l.Pairwise (· < ·) → (l.map fun n : Nat => (n : Int)).Pairwise (· < ·) := fun h => List.pairwise_map.mpr (h.imp fun q => by omega)
theorem e_sortedS {n : Nat} {M ks : List Nat} (h : EvS te σ H (setS w n M)) (hn : n ≤ 60) (hp : ks.Pairwise (· < ·)) (hk : ∀ k, k ∈ ks ↔ k ∈ M) : EvS (tCB (rSortedSet w) (tCons te tNil)) σ H (lstS K (ks.map dN)) :=
  e_CB (a_cons h a_nil) fun vs H1 _ p Q q => by
    obtain ⟨v, rfl, D, rfl, S, c, h1, h2, h3⟩ := a1 p
    refine ⟨D, S, c, rfl, h1, ?_, fun ns p' n1 n2 n3 hp' => q _ _ (Evl.Ex.new hp') ?_⟩
    · rw [h3]
      exact Nat.lt_of_le_of_lt (List.length_filter_le _ _) (by rw [List.length_range]; omega)
    · have e : ns = ks.map fun n : Nat => (n : Int) := sorted_unique n1 (pairwise_cast hp) fun k => by
        rw [n2, h2, List.mem_map]
        exact ⟨fun ⟨j, hj, e⟩ => ⟨j, (hk j).mpr hj, e.symm⟩, fun ⟨j, hj, e⟩ => ⟨j, (hk j).mp hj, e.symm⟩⟩
      subst e
      exact ⟨p', _, rfl, upd_same, by rw [map_dN]; exact (tpAll_ints _)⟩
end
end K45
/-! sum of a list or of a tuple, tuple.count, min of tuples, repr. -/
namespace K45
open PySem PySem.Spec PyProof.Rows L2 RZ
theorem sum_tupA {prog : Program} {w : World} {A : Around} {E : Value → Shared → Prop} {s : Shared} {l : Addr} {its : List Value} {ns : List Int} {Q : Value → Shared → Prop} (hh : A.handled = none) (hl : s.heap.IsTuple l its.toArray) (hi : IntsAre its ns)
    (h : ∀ h' tk t', (∀ b o, s.heap.get? b = some o → h'.get? b = some o) → Q (.int ns.sum t') { s with heap := h', toks := tk }) : wpAny (model prog w) A (call (.builtin "sum") [.ref l]) Q E s := by
  obtain ⟨xs, e⟩ := hi.allInts.items
  have hn : numsOf (intItems xs).toList = ns := e ▸ hi.numsOf
  rw [nums_intItems] at hn
  rw [e] at hl
  refine PySem.W.ktm_sumG hh hl fun h' tk t' hk => ?_
  have q := h h' tk t' hk
  rw [preSum_eq, List.take_of_length_le (by simp), hn]
  exact q
/-- sum of a list or a tuple of ints -/
def rSumA (K : Fg) : List V → Hp → VK → Prop := fun vs H Q => ∃ (a : Addr) (ns : List Int), vs = [V.ref a] ∧ (SqL K H a (ns.map V.int) ∨ SqT K H a (ns.map V.int)) ∧ Q (.int ns.sum) H
theorem k_sumA {X : Cx} (K : Fg) (hc : X.calm = true := by rfl) (hK : X.K = K := by rfl) : CallR X (.builtin "sum") (rSumA K) := by
  subst hK
  intro pins s sl hp vs us Q J r h
  obtain ⟨a, ns, rfl, hs | hs, q⟩ := h
  · obtain ⟨its, rv, hl, _⟩ := J.list hs
    rw [Vals.ref1 r]
    exact sum_raw (J.ok.hd hc) hl.isList rv.ints fun h' tk t' hk => ⟨.int _, hp, J.kept hk, ⟨_, rfl⟩, q⟩
  · obtain ⟨its, rv, hl, _⟩ := J.tuple hs
    rw [Vals.ref1 r]
    exact sum_tupA (J.ok.hd hc) (show s.heap.IsTuple a its.toArray from hl) rv.ints fun h' tk t' hk => ⟨.int _, hp, J.kept hk, ⟨_, rfl⟩, q⟩
/-- tuple.count of data -/
def rCnt (K : Fg) : V → List V → Hp → VK → Prop := fun x xs H Q => ∃ (ds : List PyData) (d : PyData) (v : V), xs = [v] ∧ Dp K H x (.tuple ds) ∧ Dp K H v d ∧ PyData.plainAll ds = true ∧ d.plain = true ∧ PyData.depthAll ds ≤ 20 ∧ Q (.int ((ds.countP fun y => PyData.eqv y d : Nat) : Int)) H
theorem k_count {X : Cx} (K : Fg) (hu : X.A.units + 64 < cLine) (hK : X.K = K := by rfl) : MtR X "tuple.count" (rCnt K) := by
  subst hK
  intro pins s sl hp x xs v us Q J rx rxs h
  obtain ⟨ds, d, v1, rfl, hx, hv, hpl, hp1, hdp, q⟩ := h
  obtain ⟨u, rfl, ru⟩ := rxs.one
  cases hx with
  | tup hq hd =>
    cases rx
    obtain ⟨its, rv, ht, hz⟩ := J.tuple hq
    obtain ⟨as, r1⟩ := Dp.readsAll J _ _ _ hd rv
    obtain ⟨bs, r2⟩ := Dp.reads J _ _ _ hv ru
    exact PySem.SeqAt.count_tuple_data (show s.heap.IsTuple _ its.toArray from ht) r1 r2 hpl hp1 (by omega) ⟨.int _, hp, J.tok _, ⟨_, rfl⟩, q⟩
/-- min of a list of data -/
def rMinD (K : Fg) : List V → Hp → VK → Prop := fun vs H Q => ∃ (a : Addr) (ws : List V) (d : PyData) (ds : List PyData), vs = [V.ref a] ∧ SqL K H a ws ∧ DpAll K H ws (d :: ds) ∧ PySem.W.AlikeAll (d :: ds) ∧ PyData.depthAll (d :: ds) ≤ 20 ∧
  ∀ (i : Nat) (v : V), ws[i]? = some v → (d :: ds)[i]? = some (PySem.W.minD d ds) → Q v H
theorem readsAll_at {h : Heap} : ∀ {vs : List Value} {ds : List PyData} {as : List Addr} {i : Nat} {v : Value}, ReadsAll h vs ds as → vs[i]? = some v → ∃ d bs, ds[i]? = some d ∧ Reads h v d bs
  | _, _, _, _, _, .nil, e => by simp at e
  | _, _, _, 0, _, .cons r _, e => by
    have e := Option.some.inj e
    subst e
    exact ⟨_, _, rfl, r⟩
  | _, _, _, i + 1, _, .cons _ t, e => readsAll_at (i := i) t e
theorem dpAll_at {K : Fg} {H : Hp} : ∀ {vs : List V} {ds : List PyData} (i : Nat) {v : V} {d : PyData}, DpAll K H vs ds → vs[i]? = some v → ds[i]? = some d → Dp K H v d
  | _, _, _, _, _, .nil, e, _ => by simp at e
  | _, _, 0, _, _, .cons h _, e, e' => by
    have e := Option.some.inj e
    have e' := Option.some.inj e'
    subst e e'
    exact h
  | _, _, i + 1, _, _, .cons _ t, e, e' => dpAll_at i t e e'
theorem k_minD {X : Cx} (K : Fg) (hu : X.A.units + 64 < cLine) (hc : X.calm = true := by rfl) (hK : X.K = K := by rfl) : CallR X (.builtin "min") (rMinD K) := by
  subst hK
  intro pins s sl hp vs us Q J r h
  obtain ⟨a, ws, d, ds, rfl, hs, hd, ha, hdp, q⟩ := h
  obtain ⟨its, rv, hl, _⟩ := J.list hs
  rw [Vals.ref1 r]
  obtain ⟨as, r1⟩ := Dp.readsAll J _ _ _ hd rv
  refine PySem.W.min_list_data (J.ok.hd hc) hl.isList r1 ha (by omega) fun i v h' tk bs hv rr hk => ?_
  have hv' : its[i]? = some v := by simpa using hv
  have J' : Inv X pins sl hp { s with heap := h', toks := tk } := J.kept (t' := tk) hk
  obtain ⟨e, cs, he, re⟩ := readsAll_at r1 hv'
  have hi : i < ws.length := by
    have h1 := (List.getElem?_eq_some_iff.mp hv').1
    have h2 := rv.length
    omega
  obtain ⟨u, hu2, ru⟩ := rv.get (List.getElem?_eq_getElem hi)
  rw [hv'] at hu2
  have hu2 := Option.some.inj hu2
  subst hu2
  have hde := dpAll_at i hd (List.getElem?_eq_getElem hi) he
  obtain ⟨bs2, r3⟩ := Dp.reads J' _ _ _ hde ru
  have ee : e = PySem.W.minD d ds := (r3.unique _ _ rr).1
  exact ⟨ws[i], hp, J', ru, q i _ (List.getElem?_eq_getElem hi) (ee ▸ he)⟩
/-- repr of None, of an int, of a tuple of small numbers -/
def reprOk : PyData → Prop
  | .none => True
  | .int i => i.natAbs.log2 < 1920
  | .tuple ds => PyData.showableAll ds = true ∧ PyData.hasDictAll ds = false ∧ (PyData.shown (.tuple ds)).length ≤ 1000000 ∧ PyData.depthAll ds ≤ 20
  | _ => False
def rReprD (K : Fg) : List V → Hp → VK → Prop := fun vs H Q => ∃ (v : V) (d : PyData), vs = [v] ∧ Dp K H v d ∧ reprOk d ∧ Q (.str d.shown) H
theorem k_repr {X : Cx} (K : Fg) (hg : X.A.guards = some []) (hu : X.A.units + 64 < cLine) (hK : X.K = K := by rfl) : CallR X (.builtin "repr") (rReprD K) := by
  subst hK
  intro pins s sl hp vs us Q J r h
  obtain ⟨v, d, rfl, hd, ok, q⟩ := h
  obtain ⟨u, rfl, ru⟩ := vals1 r
  obtain ⟨as, r1⟩ := Dp.reads J _ _ _ hd ru
  cases hd with
  | non =>
    cases ru
    exact PySem.P.repr_of_none ⟨.str _, hp, J.tok _, ⟨_, rfl⟩, q⟩
  | int i =>
    obtain ⟨t, rfl⟩ := ru
    exact PySem.P.repr_of_int ok ⟨.str _, hp, J.tok _, ⟨_, rfl⟩, q⟩
  | tup hq hd =>
    cases ru
    obtain ⟨k1, k2, k3, k4⟩ := ok
    refine repr_of_reads' r1 k1 (fun z => ?_) hg (by show _ + (PyData.depthAll _ + 1 + 1) < _; omega) (fun _ _ e => e) (fun h' u tk hk => ⟨.str _, hp, J.kept (t' := tk) hk, ⟨_, rfl⟩, q⟩) (by rw [sizeLine_eq]; omega)
    have z : PyData.hasDictAll _ = true := z
    rw [k2] at z
    cases z
  | bl b => exact ok.elim
  | str x => exact ok.elim
  | lst _ _ => exact ok.elim
section
variable {K : Fg} {σ : L2.St} {H : Hp} {ta tb te : TE} {s : Sh}
/-- sum of a list, of a tuple -/
theorem e_sumL {ns : List Int} (h : EvS te σ H (lstS K (ns.map .int))) : EvS (tCB (rSumA K) (tCons te tNil)) σ H (intS ns.sum) :=
  e_CB (a_cons h a_nil) fun vs H1 _ p Q q => by
    obtain ⟨w, rfl, a, xs, rfl, hq, hd⟩ := a1 p
    exact ⟨a, ns, rfl, .inl (by rw [← hd.ints]; exact SqL.of hq), q _ H1 (Evl.Ex.refl _) rfl⟩
theorem e_sumT {ns : List Int} (h : EvS te σ H (dat K (.tuple (ns.map .int)))) : EvS (tCB (rSumA K) (tCons te tNil)) σ H (intS ns.sum) :=
  e_CB (a_cons h a_nil) fun vs H1 _ p Q q => by
    obtain ⟨w, rfl, pw⟩ := a1 p
    obtain ⟨a, xs, rfl, hq, hd⟩ := Tp.tup_inv pw
    exact ⟨a, ns, rfl, .inr (by rw [← hd.ints]; exact hq), q _ H1 (Evl.Ex.refl _) rfl⟩
theorem e_sumAF {α : Type} (l : List α) (f : α → Int) (h : EvS te σ H (lstS K ((l.filter fun _ => true).map fun a => .int (f a)))) : EvS (tCB (rSumA K) (tCons te tNil)) σ H (intS ((l.map f).sum)) := by
  rw [filter_true'] at h
  have h2 : EvS te σ H (lstS K ((l.map f).map PyData.int)) := by rw [List.map_map]; exact h
  exact e_sumL h2
theorem e_repr {d : PyData} (h : EvS te σ H (dat K d)) (ok : reprOk d) : EvS (tCB (rReprD K) (tCons te tNil)) σ H (vS (.str d.shown)) :=
  e_CB (a_cons h a_nil) fun vs H1 _ p Q q => by
    obtain ⟨w, rfl, pw⟩ := a1 p
    exact ⟨w, d, rfl, pw.dp, ok, q _ H1 (Evl.Ex.refl _) rfl⟩
/-- min of data -/
theorem e_minD {d : PyData} {ds : List PyData} (h : EvS te σ H (lstS K (d :: ds))) (ha : PySem.W.AlikeAll (d :: ds)) (hdp : PyData.depthAll (d :: ds) ≤ 20) : EvS (tCB (rMinD K) (tCons te tNil)) σ H (dat K (PySem.W.minD d ds)) :=
  e_CB (a_cons h a_nil) fun vs H1 _ p Q q => by
    obtain ⟨w, rfl, a, xs, rfl, hq, hd⟩ := a1 p
    refine ⟨a, xs, d, ds, rfl, SqL.of hq, hd.dp, ha, hdp, fun i v hv he => q _ H1 (Evl.Ex.refl _) ?_⟩
    obtain ⟨v', hv', pv⟩ := hd.get he
    rw [hv] at hv'
    exact Option.some.inj hv' ▸ pv
end

/-! ### tuples that hold no dict: t.count(e) -/
section
variable {X : Cx}
/-- a tuple just laid, its object told -/
def tTupF (t : TA) : TE := fun σ H Q => t σ H fun xs H1 => xs.length ≤ sizeLine ∧ ∀ a o, H1 a = none → o.dict = none → Q (.ref a) (upd H1 a (.frz o (.tup xs)))
theorem laid_frz {pins : List (Addr × Obj)} {sl : L2.St} {hp : Hp} {s : Shared} {vs : List V} {us : List Value} {Q : VK} (J : Inv X pins sl hp s) (r : Vals vs us) (hz : vs.length ≤ sizeLine) (h : ∀ a o, hp a = none → o.dict = none → Q (.ref a) (upd hp a (.frz o (.tup vs)))) :
    EP X pins sl Q (.ref s.heap.objs.size) { s with heap := s.heap.push { cls := .type "tuple", data := .seq us.toArray } } := by
  have nw : (s.heap.push { cls := .type "tuple", data := .seq us.toArray }).get? s.heap.objs.size = some { cls := .type "tuple", data := .seq us.toArray } := Heap.get?_push_size _ rfl
  refine ⟨.ref s.heap.objs.size, upd hp s.heap.objs.size (.frz { cls := .type "tuple", data := .seq us.toArray } (.tup vs)), J.laid (t' := s.toks) (fun b u e => Heap.get?_push_of_some _ e) (Nat.le_refl _) ?_, rfl, h _ _ (J.hok.fresh (Nat.le_refl _)) rfl⟩
  exact ⟨nw, hz, us, r, ⟨_, nw, rfl, _, rfl⟩⟩
theorem k_tupF {es : List Expr} {t : TA} {x1} {pos : Pos} (h : PA X es t) : PE X (.Tuple es x1 pos) (tTupF t) := by
  refine ⟨fun pins s sl hp Q J hq => ?_⟩
  refine wpAny_Tuple_spliced (thn (h.run pos pins s sl hp _ J hq) fun us s1 ⟨xs, H1, I1, r, z, q⟩ => ⟨by rw [← r.length]; exact z, ?_⟩)
  exact laid_frz I1 r z q
def rCatF (K : Fg) : R2 := fun x y H Q => ∃ a b xs ys, x = .ref a ∧ y = .ref b ∧ SqT K H a xs ∧ SqT K H b ys ∧ ys ≠ [] ∧ xs.length + ys.length ≤ sizeLine ∧
  (xs = [] → Q (.ref b) H) ∧ ∀ p o, H p = none → o.dict = none → Q (.ref p) (upd H p (.frz o (.tup (xs ++ ys))))
theorem k_catF (K : Fg) (hK : X.K = K := by rfl) : OpR X (binaryOp .Add) (rCatF K) := by
  subst hK
  intro pins s sl hp x y v u Q J rx ry h
  obtain ⟨a, b, xs, ys, rfl, rfl, ha, hb, ny, hz, q0, q1⟩ := h
  cases rx
  cases ry
  obtain ⟨its, r1, p1, _⟩ := J.tuple ha
  obtain ⟨its2, r2, p2, _⟩ := J.tuple hb
  by_cases hx : xs = []
  · subst hx
    cases r1
    exact cat_tup0 p1 p2 ⟨.ref b, hp, J, rfl, q0 rfl⟩
  · refine HT.cat_tup p1 p2 (fun z => hx (r1.nil_iff.mp z)) (fun z => absurd (r2.nil_iff.mp z) ny) (fun _ => ?_) (by rw [← r1.length, ← r2.length]; exact hz)
    exact laid_frz J (r1.append r2) (by rw [List.length_append]; exact hz) q1
/-- o.count(e), o such a tuple -/
def NdV (x : V) (H : Hp) : Prop := ∃ a o xs, x = .ref a ∧ H a = some (.frz o (.tup xs)) ∧ o.dict = none
def tCnt (K : Fg) (to : TE) (t : TA) : TE := fun σ H Q => to σ H fun x H1 => NdV x H1 ∧ t σ H1 fun xs H2 => rCnt K x xs H2 Q
theorem k_cnt (K : Fg) (hu : X.A.units + 64 < cLine) {o e : Expr} {to : TE} {t : TA} {apos cpos : Pos} (ho : PE X o to) (ha : PA X [e] t)
    (hbase : attributeBase o "count" X.env (eval o X.env) = eval o X.env := by rfl)
    (hfew : ((backTo cpos (starEach [e] X.env)).all (fun x => !x.1) && (backToKw cpos (keywordEach [] X.env)).all (fun x => x.1.isSome)
      && decide ([e].length + ([] : List Keyword).length + (if ([] : List Keyword).isEmpty then 0 else 1) < 30)) = true := by rfl)
    (hline : (apos.endLine == cpos.line) = true := by rfl) (hs : starEach [e] X.env = (false, eval e X.env) :: starEach [] X.env := by rfl) (hplain : (backTo cpos (starEach [] X.env)).any (·.1) = false := by rfl) (hK : X.K = K := by rfl) :
    PE X (.Call (.Attribute o "count" apos) [e] [] cpos) (tCnt K to t) := by
  refine ⟨fun pins s sl hp Q J h => ?_⟩
  refine wpAny_Call_method_late hbase hfew hline rfl (thn (ho.run pins s sl hp _ J h) fun v s1 ⟨x, H1, I1, r1, nd, q1⟩ => ?_)
  obtain ⟨a, ob, xs, rfl, hka, hdn⟩ := nd
  cases r1
  obtain ⟨hob, _, _, _, ⟨o2, ho2, hc2, _⟩⟩ := (show ObjOk X.prog X.w H1 s1.heap a (.frz ob (.tup xs)) from I1.hok a _ hka)
  refine ⟨"tuple", "tuple.count", PySem.F.plainAttrs_tuple, PySem.F.slot_tuple_count, PySem.F.type_tuple_count, ⟨o2, ho2, hc2⟩, fun b eb => ?_, ?_⟩
  · have eb := Value.ref.inj eb
    subst eb
    exact ⟨ob, hob, hdn⟩
  have hA := ha.run cpos pins s1 sl H1 _ I1 q1
  rw [hs] at hA ⊢
  refine Calls.callWith_builtin (by show (false || (backTo cpos (starEach [] X.env)).any (·.1)) = false; rw [hplain] <;> rfl) (Calls.evalArgs_plain ?_)
  exact thn hA fun us s2 ⟨vs, H2, I2, r2, q2⟩ => k_count K hu hK pins s2 sl H2 (.ref a) vs (.ref a) us Q I2 rfl r2 q2
end
/-- .. of numbers -/
def ndS (K : Fg) (l : List Nat) : Sh := ⟨fun v H => ∃ a o xs, v = .ref a ∧ H a = some (.frz o (.tup xs)) ∧ o.dict = none ∧ TpAll K H xs (l.map dN), fun _ _ _ e ⟨a, o, xs, h1, h2, h3, h4⟩ => ⟨a, o, xs, h1, e a _ h2, h3, h4.mono (Gt.of_ex e)⟩⟩
section
variable {K : Fg} {σ : L2.St} {H : Hp} {ta tb te : TE} {s : Sh}
theorem EvS.nd {l : List Nat} (h : EvS te σ H (ndS K l)) : EvS te σ H (dat K (dNs l)) := h.to fun v H' ⟨a, o, xs, e, h1, h2, h3⟩ => by
  subst e
  exact .tup (.inl (.inr ⟨o, h1⟩)) h3
theorem e_tupF {ta : TA} {l : List Nat} (h : EvA ta σ H (l.map fun n : Nat => intS (n : Int))) (hl : l.length ≤ 1000 := by decide) : EvS (tTupF ta) σ H (ndS K l) := fun H1 e _ q =>
  h H1 e _ fun vs H2 e2 p => by
    have p2 : TpAll K H2 vs (l.map dN) := by
      clear hl h q
      induction l generalizing vs with
      | nil => cases vs with
        | nil => exact .nil
        | cons => exact p.elim
      | cons n l ih => cases vs with
        | nil => exact p.elim
        | cons v vs =>
          have pv : v = .int (n : Int) := p.1
          subst pv
          exact .cons (.int _) (ih vs p.2)
    refine ⟨by rw [p2.len, List.length_map]; exact Nat.le_of_lt (small1000 hl), fun a o ha hd => q _ _ (e2.trans (Evl.Ex.new ha)) ?_⟩
    exact ⟨a, o, vs, rfl, upd_same, hd, p2.mono (Gt.of_ex (Evl.Ex.new ha))⟩
theorem e_catF {l m : List Nat} (ha : EvS ta σ H (ndS K l)) (hb : EvS tb σ H (ndS K m)) (hm : m ≠ []) (hl : l.length + m.length ≤ 100000) : EvS (tOp (rCatF K) ta tb) σ H (ndS K (l ++ m)) :=
  e_two ha hb fun x y H1 _ px py Q q => by
    obtain ⟨a, o, xs, rfl, h1, h2, h3⟩ := px
    obtain ⟨b, o', ys, rfl, g1, g2, g3⟩ := py
    refine ⟨a, b, xs, ys, rfl, rfl, .inl (.inr ⟨o, h1⟩), .inl (.inr ⟨o', g1⟩), fun z => ?_, by rw [h3.len, g3.len, List.length_map, List.length_map]; exact Nat.le_trans hl (by decide), fun z => q _ H1 (Evl.Ex.refl _) ?_, fun p op hp hd => q _ _ (Evl.Ex.new hp) ?_⟩
    · subst z
      cases m with
      | nil => exact hm rfl
      | cons => cases g3
    · subst z
      cases l with
      | nil => exact ⟨b, o', ys, rfl, g1, g2, g3⟩
      | cons => cases h3
    · exact ⟨p, op, _, rfl, upd_same, hd, by rw [List.map_append]; exact (h3.app g3).mono (Gt.of_ex (Evl.Ex.new hp))⟩
theorem plain_dN : ∀ l : List Nat, PyData.plainAll (l.map dN) = true
  | [] => rfl
  | n :: l => by
    show (PyData.plain (.int n) && PyData.plainAll (l.map dN)) = true
    rw [plain_dN l]
    rfl
theorem depth_dN : ∀ l : List Nat, PyData.depthAll (l.map dN) ≤ 20
  | [] => Nat.zero_le _
  | n :: l => Nat.max_le.mpr ⟨Nat.zero_le _, depth_dN l⟩
theorem count_dN (l : List Nat) (k : Nat) : (l.map dN).countP (fun y => PyData.eqv y (.int k)) = l.count k := by
  rw [List.countP_map, List.count]
  refine List.countP_congr fun n _ => ?_
  show PyData.eqv (.int n) (.int k) = true ↔ (n == k) = true
  simp [PyData.eqv]
  omega
/-- t.count(e) -/
theorem e_count {l : List Nat} {k : Nat} (ho : EvS ta σ H (ndS K l)) (he : EvS te σ H (intS (k : Int))) : EvS (tCnt K ta (tCons te tNil)) σ H (intS (l.count k : Int)) := fun H1 e Q q =>
  ho H1 e _ fun v H2 e2 ⟨a, o, xs, ev, h1, h2, h3⟩ => ⟨⟨a, o, xs, ev, h1, h2⟩, he H2 (e.trans e2) _ fun w H3 e3 pw => by
    have pw : w = .int k := pw
    subst pw ev
    refine ⟨l.map dN, .int k, .int k, rfl, .tup (.inl (.inr ⟨o, e3 _ _ h1⟩)) (h3.mono (Gt.of_ex e3)).dp, .int _, plain_dN l, rfl, depth_dN l, q _ H3 (e2.trans e3) ?_⟩
    show V.int _ = V.int _
    rw [count_dN]⟩
end
end K45
/-! The small defs. -/
namespace K45
open PySem L2
section
variable {P : Program} {w : World} {K : Fg} {mg : Str → Option Value} {base : Heap}
abbrev s_accepted : Stmt := topS 20
abbrev N_accepted : List Str := ["table", "request"]
theorem scaccepted : FnScope N_accepted ["table", "request"] (defScope s_accepted) := ⟨rfl, rfl, rfl, by decide +kernel, rfl, by decide +kernel, by decide +kernel⟩
/-- what accepted returns -/
def sp_accepted (K : Fg) : Sp := fun vs H Q _ => ∃ (T : Tab) (r : Nat), AtAll H vs [tabS K T, intS (r : Int)] ∧ r < T.types.length ∧ Ret (dat K (dNs (T.lots.getD r []))) H Q
theorem ok_accepted (T : Bt mg) (D : Df K mg "accepted" s_accepted ["table", "request"]) : OkD P w K mg base CX0 1 "accepted" ["table", "request"] (sp_accepted K) := by
  refine OkD.of D fun f fd F => F.ok scaccepted (fun vs H Q E ⟨_, _, h, _⟩ => atLen h) (fun cdv A outer s H vs Q E hr ⟨tb, r, h, hr', k⟩ => ?_)
  obtain ⟨x, y, rfl, hx, hy⟩ := a2 h
  refine ⟨_, (pss_one (ps_ret (pe_ix (k_ix K) (pe_ix (k_ix K) (k_fld K (pv 0) rfl) (pv 1) (fun _ _ => rfl)) pe_int (fun _ _ => rfl)))), s_retR ?_ k⟩
  have hd : tb.types[r]? = some tb.types[r] := List.getElem?_eq_getElem hr'
  refine (e_ixT (i := 1) (ds := [.str tb.types[r].1, dNs tb.types[r].2]) (d := dNs tb.types[r].2) (e_ixT (e_types (e_var (v := x) rfl hx)) (e_var (v := y) rfl hy) ?_) e_int rfl).cast ?_
  · rw [List.getElem?_map, hd]
    rfl
  rw [show tb.lots.getD r [] = tb.types[r].2 from ?_]
  unfold Tab.lots
  rw [List.getD_eq_getElem?_getD, List.getElem?_map, hd]
  rfl
abbrev s_units_in : Stmt := topS 24
abbrev N_units_in : List Str := ["stock", "kinds", "kind"]
theorem scunits_in : FnScope N_units_in ["stock", "kinds"] (defScope s_units_in) := ⟨rfl, rfl, rfl, by decide +kernel, rfl, by decide +kernel, by decide +kernel⟩
def sp_units_in (K : Fg) : Sp := fun vs H Q _ => ∃ (st : List Int) (ks : List Nat), AtAll H vs [dat K (dIs st), dat K (dNs ks)] ∧ (∀ k ∈ ks, k < st.length) ∧ ks.length ≤ 1000 ∧ Ret (intS (unitsL st ks)) H Q
theorem ok_units_in (T : Bt mg) (D : Df K mg "units_in" s_units_in ["stock", "kinds"]) : OkD P w K mg base CX0 1 "units_in" ["stock", "kinds"] (sp_units_in K) := by
  refine OkD.of D fun f fd F => F.ok scunits_in (fun vs H Q E ⟨_, _, h, _⟩ => atLen h) (fun cdv A outer s H vs Q E hr ⟨st, ks, h, hk, hl, k⟩ => ?_)
  obtain ⟨x, y, rfl, hx, hy⟩ := a2 h
  refine ⟨_, (pss_one (ps_ret (pe_callB (k_sumA K) (by rfl) T.b_sum (by decide +kernel) (pa_cons (pe_lc (own := [("kind", 2)]) (g := gName 2) (tt := tYes) rfl scunits_in.nd (k_pit K (pv 1)) (blkOk_by (N := N_units_in) (sc := (defScope s_units_in)) (by decide +kernel)) (fun _ _ _ _ _ => (pg_name (i := 2) scunits_in.nd rfl (by first | exact Or.inl rfl | exact Or.inr rfl))) (fun _ _ _ _ _ => pts_nil) (fun _ _ _ _ _ => (pe_ix (k_ix K) (pv 0) (pv 2) (fun _ _ => rfl)))) pa_nil)))), s_retR ?_ k⟩
  refine e_sumAF ks (fun k => fn st k) ?_
  refine e_lcT ks dN (fun _ => true) _ (e_var (v := y) rfl hy) (Nat.le_trans hl (by decide)) (fun _ => rfl) (fun a v H1 ex ha hv => ⟨t_yes, fun _ => ?_⟩)
  exact e_ixT (e_var (v := x) rfl ((dat K (dIs st)).up _ _ _ ex hx)) (e_var (v := v) rfl hv.int_inv) (by rw [List.getElem?_map, fn_get (hk a ha)]; rfl)
end
end K45
/-! Small defs over tables. -/
namespace K45
open PySem L2 RZ
/-- what the walks ask of a table -/
structure Tab.Ok (T : Tab) : Prop where
  nk : T.nk ≤ 8
  nt : T.types.length ≤ 12
  wf : WfL T.nk T.lots
  ln : ∀ l ∈ T.lots, l.length ≤ 8
theorem Tab.lots_len (T : Tab) : T.lots.length = T.types.length := List.length_map ..
theorem Tab.lot_get (T : Tab) {r : Nat} {t : Str × List Nat} (h : T.types[r]? = some t) : T.lots.getD r [] = t.2 := by
  unfold Tab.lots
  rw [List.getD_eq_getElem?_getD, List.getElem?_map, h]
  rfl
theorem Tab.Ok.lot_len {T : Tab} (g : T.Ok) (r : Nat) : (T.lots.getD r []).length ≤ 8 := by
  rw [List.getD_eq_getElem?_getD]
  cases h : T.lots[r]? with
  | none => exact Nat.zero_le _
  | some l => exact g.ln l (List.mem_of_getElem? h)
theorem Tab.Ok.lot_lt {T : Tab} (g : T.Ok) {r k : Nat} (h : k ∈ T.lots.getD r []) : k < T.nk := by
  rw [List.getD_eq_getElem?_getD] at h
  cases e : T.lots[r]? with
  | none => rw [e] at h; cases h
  | some l =>
    rw [e] at h
    refine g.wf r k ?_
    unfold accL
    rw [List.getD_eq_getElem?_getD, e]
    exact h
/-- rows of numbers -/
def dRow (nk : Nat) (g : Nat → Int) : PyData := dIs ((List.range nk).map g)
def dTk (nk nt : Nat) (f : Nat → Nat → Int) : PyData := .tuple ((List.range nt).map fun r => dRow nk (f r))
theorem contains_dN (k : Nat) (l : List Nat) : (l.map fun n : Nat => (n : Int)).contains (k : Int) = l.contains k := by
  induction l with
  | nil => rfl
  | cons a l ih =>
    rw [List.map_cons, List.contains_cons, List.contains_cons, ih]
    congr 1
    exact decide_eq_decide.mpr Int.ofNat_inj
theorem dNs_eq (l : List Nat) : dNs l = .tuple ((l.map fun n : Nat => (n : Int)).map PyData.int) := by unfold dNs; rw [map_dN]
section
variable {K : Fg} {σ : L2.St} {H : Hp} {ta tb : TE}
theorem e_inN {k : Nat} {l : List Nat} (ha : EvS ta σ H (intS (k : Int))) (hb : EvS tb σ H (dat K (dNs l))) : EvS (tOp (rIn K false) ta tb) σ H (blS (l.contains k)) :=
  (e_inT ha (hb.cast (by rw [dNs_eq]))).cast (by rw [contains_dN]; rfl)
theorem e_notInN {k : Nat} {l : List Nat} (ha : EvS ta σ H (intS (k : Int))) (hb : EvS tb σ H (dat K (dNs l))) : EvS (tOp (rIn K true) ta tb) σ H (blS (!l.contains k)) :=
  (e_inT ha (hb.cast (by rw [dNs_eq]))).cast (by rw [contains_dN]; rfl)
theorem Sg_sum (f : Nat → Int) : ∀ n, ((List.range n).map f).sum = Sg n f
  | 0 => rfl
  | n + 1 => by rw [List.range_succ, List.map_append, List.sum_append, Sg_sum f n]; simp [Sg]
theorem get_range {α : Type} (f : Nat → α) {n i : Nat} (h : i < n) : ((List.range n).map f)[i]? = some (f i) := by rw [List.getElem?_map, List.getElem?_range h]; rfl
end
section
variable {P : Program} {w : World} {K : Fg} {mg : Str → Option Value} {base : Heap}
abbrev s_types_without : Stmt := topS 21
abbrev N_types_without : List Str := ["table", "kind", "number", "name", "lot"]
theorem sctypes_without : FnScope N_types_without ["table", "kind"] (defScope s_types_without) := ⟨rfl, rfl, rfl, by decide +kernel, rfl, by decide +kernel, by decide +kernel⟩
def sp_types_without (K : Fg) : Sp := fun vs H Q _ => ∃ (T : Tab) (k : Nat), AtAll H vs [tabS K T, intS (k : Int)] ∧ T.Ok ∧ Ret (dat K (dNs (two T.lots k))) H Q
theorem ok_types_without (T : Bt mg) (D : Df K mg "types_without" s_types_without ["table", "kind"]) : OkD P w K mg base CX0 1 "types_without" ["table", "kind"] (sp_types_without K) := by
  refine OkD.of D fun f fd F => F.ok sctypes_without (fun vs H Q E ⟨_, _, h, _⟩ => atLen h) (fun cdv A outer s H vs Q E hr ⟨tb, k, h, g, kk⟩ => ?_)
  obtain ⟨x, y, rfl, hx, hy⟩ := a2 h
  refine ⟨_, (pss_one (ps_ret (pe_callTy (k_tuple K) (by rfl) T.b_tuple (by decide +kernel) (pa_cons (pe_lc (own := [("number", 2), ("name", 3), ("lot", 4)]) rfl sctypes_without.nd (k_enumT K (by rfl) T.b_enumerate (pa_cons (k_fld K (pv 0) rfl) pa_nil)) (blkOk_by (N := N_types_without) (sc := (defScope s_types_without)) (by decide +kernel)) (fun _ _ _ _ _ => (k_pgt K (n := 2) rfl (pgs_cons (pg_name (i := 2) sctypes_without.nd rfl (by first | exact Or.inl rfl | exact Or.inr rfl)) (pgs_cons (k_pgt K (n := 2) rfl (pgs_cons (pg_name (i := 3) sctypes_without.nd rfl (by first | exact Or.inl rfl | exact Or.inr rfl)) (pgs_cons (pg_name (i := 4) sctypes_without.nd rfl (by first | exact Or.inl rfl | exact Or.inr rfl)) pgs_nil))) pgs_nil)))) (fun _ _ _ _ _ => (pts_one (pt_cmpR (k_notIn K) (pv 1) (pv 4) (by rfl)))) (fun _ _ _ _ _ => (pv 2))) pa_nil)))), s_retR (e_tupleL (a_cons ?_ a_nil)) kk⟩
  have hi := i_enumT (a_cons (e_types (e_var (σ := L2.start N_types_without [x, y]) (i := 0) (v := x) rfl hx)) a_nil)
  rw [List.length_map] at hi
  have hl : (List.range tb.lots.length).length = tb.types.length := by rw [List.length_range, tb.lots_len]
  refine e_lc (List.range tb.lots.length) (fun r => !(tb.lots.getD r []).contains k) dN (hl ▸ hi) (by rw [hl]; exact Nat.le_trans g.nt (by decide)) fun i a v H1 ex ha ⟨d, hd, hv⟩ => ?_
  have hlt := (List.getElem?_eq_some_iff.mp ha).1
  rw [List.length_range] at hlt
  rw [List.getElem?_range hlt] at ha
  have ha : i = a := Option.some.inj ha
  subst ha
  rw [List.getElem?_map] at hd
  obtain ⟨t, ht, hd⟩ : ∃ t, tb.types[i]? = some t ∧ dTy t = d := by
    cases e : tb.types[i]? with
    | none => rw [e] at hd; cases hd
    | some t => exact ⟨t, rfl, by rw [e] at hd; exact Option.some.inj hd⟩
  subst hd
  obtain ⟨v1, v2, v3, h1, h2, h3, hg⟩ := goes_three (i := 2) (j := 3) (l := 4) (σ := wipe (L2.start N_types_without [x, y]) [2, 3, 4]) hv
  refine ⟨_, hg, rfl, ?_, fun _ => e_var (v := v1) rfl h1⟩
  rw [tb.lot_get ht]
  exact t_test (e_notInN (e_var (v := y) rfl hy) (e_var (v := v3) rfl h3))
abbrev s_units_by_kind : Stmt := topS 26
abbrev N_units_by_kind : List Str := ["table", "taking", "row", "kind"]
theorem scunits_by_kind : FnScope N_units_by_kind ["table", "taking"] (defScope s_units_by_kind) := ⟨rfl, rfl, rfl, by decide +kernel, rfl, by decide +kernel, by decide +kernel⟩
def sp_units_by_kind (K : Fg) : Sp := fun vs H Q _ => ∃ (T : Tab) (nt : Nat) (f : Nat → Nat → Int), AtAll H vs [tabS K T, dat K (dTk T.nk nt f)] ∧ T.nk ≤ 8 ∧ nt ≤ 12 ∧ Ret (dat K (dRow T.nk (colS nt f))) H Q
theorem ok_units_by_kind (T : Bt mg) (D : Df K mg "units_by_kind" s_units_by_kind ["table", "taking"]) : OkD P w K mg base CX0 1 "units_by_kind" ["table", "taking"] (sp_units_by_kind K) := by
  refine OkD.of D fun f fd F => F.ok scunits_by_kind (fun vs H Q E ⟨_, _, _, h, _⟩ => atLen h) (fun cdv A outer s H vs Q E hr ⟨tb, nt, f, h, g8, g12, kk⟩ => ?_)
  obtain ⟨x, y, rfl, hx, hy⟩ := a2 h
  refine ⟨_, (pss_one (ps_ret (pe_callTy (k_tuple K) (by rfl) T.b_tuple (by decide +kernel) (pa_cons (pe_lc (own := [("kind", 3)]) (g := gName 3) (tt := tYes) rfl scunits_by_kind.nd (pi_range1 rfl T.b_range (pa_cons (pe_callB (k_len K) (by rfl) T.b_len (by decide +kernel) (pa_cons (k_fld K (pv 0) rfl) pa_nil)) pa_nil)) (blkOk_by (N := N_units_by_kind) (sc := (defScope s_units_by_kind)) (by decide +kernel)) (fun _ _ _ _ _ => (pg_name (i := 3) scunits_by_kind.nd rfl (by first | exact Or.inl rfl | exact Or.inr rfl))) (fun _ _ _ _ _ => pts_nil) (fun _ _ _ _ _ => (pe_callB (k_sumA K) (by rfl) T.b_sum (by decide +kernel) (pa_cons (pe_lc (own := [("row", 2)]) (g := gName 2) (tt := tYes) rfl scunits_by_kind.nd (k_pit K (pv 1)) (blkOk_by (N := N_units_by_kind) (sc := (relS (mkSc [(".0", .local), ("kind", .cell), ("sum", .globalImplicit), ("taking", .free)]) (defScope s_units_by_kind))) (by decide +kernel)) (fun _ _ _ _ _ => (pg_name (i := 2) scunits_by_kind.nd rfl (by first | exact Or.inl rfl | exact Or.inr rfl))) (fun _ _ _ _ _ => pts_nil) (fun _ _ _ _ _ => (pe_ix (k_ix K) (pv 2) (pv 3) (fun _ _ => rfl)))) pa_nil)))) pa_nil)))), s_retR (EvS.cast (s := dat K (.tuple ((List.range tb.nk).map fun k => .int (colS nt f k)))) (e_tupleL (a_cons (EvS.map' _ _ ?_) a_nil)) (by unfold dRow dIs; rw [List.map_map]; rfl)) kk⟩
  refine e_lcR tb.nk (fun _ => true) _ (a_cons (EvS.cast (e_len (a_cons (e_kinds (e_var (v := x) rfl hx)) a_nil)) (by rw [List.length_map]; rfl)) a_nil) (by omega) (fun _ => rfl) fun k H1 ex hk => ⟨t_yes, fun _ => EvS.toD ?_⟩
  refine EvS.cast (e_sumAF (List.range nt) (fun r => f r k) ?_) (by rw [Sg_sum]; rfl)
  refine e_lcT (List.range nt) (fun r => dRow tb.nk (f r)) (fun _ => true) _ (e_var (v := y) rfl ((dat K (dTk tb.nk nt f)).up _ _ _ ex hy)) (by rw [List.length_range]; omega) (fun _ => rfl) fun r v H2 ex2 hr hv => ⟨t_yes, fun _ => ?_⟩
  exact e_ixT (e_var (v := v) rfl hv) (e_var (v := .int (k : Int)) rfl rfl) (by rw [List.map_map]; exact get_range _ hk)
abbrev s_taken_units : Stmt := topS 27
abbrev N_taken_units : List Str := ["taking", "row"]
theorem sctaken_units : FnScope N_taken_units ["taking"] (defScope s_taken_units) := ⟨rfl, rfl, rfl, by decide +kernel, rfl, by decide +kernel, by decide +kernel⟩
def sp_taken_units (K : Fg) : Sp := fun vs H Q _ => ∃ (nk nt : Nat) (f : Nat → Nat → Int), AtAll H vs [dat K (dTk nk nt f)] ∧ nk ≤ 8 ∧ nt ≤ 12 ∧ Ret (intS (val nk nt f)) H Q
theorem ok_taken_units (T : Bt mg) (D : Df K mg "taken_units" s_taken_units ["taking"]) : OkD P w K mg base CX0 1 "taken_units" ["taking"] (sp_taken_units K) := by
  refine OkD.of D fun f fd F => F.ok sctaken_units (fun vs H Q E ⟨_, _, _, h, _⟩ => atLen h) (fun cdv A outer s H vs Q E hr ⟨nk, nt, f, h, g8, g12, kk⟩ => ?_)
  obtain ⟨y, rfl, hy⟩ := a1 h
  refine ⟨_, (pss_one (ps_ret (pe_callB (k_sumA K) (by rfl) T.b_sum (by decide +kernel) (pa_cons (pe_lc (own := [("row", 1)]) (g := gName 1) (tt := tYes) rfl sctaken_units.nd (k_pit K (pv 0)) (blkOk_by (N := N_taken_units) (sc := (defScope s_taken_units)) (by decide +kernel)) (fun _ _ _ _ _ => (pg_name (i := 1) sctaken_units.nd rfl (by first | exact Or.inl rfl | exact Or.inr rfl))) (fun _ _ _ _ _ => pts_nil) (fun _ _ _ _ _ => (pe_callB (k_sumA K) (by rfl) T.b_sum (by decide +kernel) (pa_cons (pv 1) pa_nil)))) pa_nil)))), s_retR (EvS.cast (e_sumAF (List.range nt) (fun r => rowS nk (f) r) ?_) (by rw [Sg_sum]; rfl)) kk⟩
  refine e_lcT (List.range nt) (fun r => dRow nk (f r)) (fun _ => true) _ (e_var (v := y) rfl hy) (by rw [List.length_range]; omega) (fun _ => rfl) fun r v H2 ex2 hr hv => ⟨t_yes, fun _ => EvS.toD (EvS.cast (e_sumT (e_var (v := v) rfl hv)) (by rw [Sg_sum]; rfl))⟩
abbrev s_kinds_of_types : Stmt := topS 22
abbrev N_kinds_of_types : List Str := ["table", "types", "number", "kind"]
theorem sckinds_of_types : FnScope N_kinds_of_types ["table", "types"] (defScope s_kinds_of_types) := ⟨rfl, rfl, rfl, by decide +kernel, rfl, by decide +kernel, by decide +kernel⟩
def sp_kinds_of_types (K : Fg) : Sp := fun vs H Q _ => ∃ (T : Tab) (l : List Nat), AtAll H vs [tabS K T, dat K (dNs l)] ∧ T.Ok ∧ (∀ r ∈ l, r < T.types.length) ∧ l.length ≤ 1000 ∧ Ret (dat K (dNs (kot T.nk T.lots l))) H Q
theorem ok_kinds_of_types (T : Bt mg) (D : Df K mg "kinds_of_types" s_kinds_of_types ["table", "types"]) (G_accepted : OkD P w K mg base CX0 1 "accepted" ["table", "request"] (sp_accepted K)) : OkD P w K mg base CX0 2 "kinds_of_types" ["table", "types"] (sp_kinds_of_types K) := by
  refine OkD.of D fun f fd F => F.ok sckinds_of_types (fun vs H Q E ⟨_, _, h, _⟩ => atLen h) (fun cdv A outer s H vs Q E hr ⟨tb, l, h, g, hl, hn, kk⟩ => ?_)
  obtain ⟨x, y, rfl, hx, hy⟩ := a2 h
  refine ⟨_, (pss_one (ps_ret (pe_callTy (k_tuple K) (by rfl) T.b_tuple (by decide +kernel) (pa_cons (pe_callB (k_sortedSet w) (by rfl) T.b_sorted (by decide +kernel) (pa_cons (k_sc2 w (own := [("number", 2), ("kind", 3)]) (vs1 := [3]) (g := gName 2) (g1 := gName 3) (tt := tYes) (tt1 := tYes) rfl sckinds_of_types.nd (k_pit K (pv 1)) (blkOk_by (N := N_kinds_of_types) (sc := (defScope s_kinds_of_types)) (by decide +kernel)) (by decide) (fun _ _ _ _ _ => (pg_name (i := 2) sckinds_of_types.nd rfl (by first | exact Or.inl rfl | exact Or.inr rfl))) (fun _ _ _ _ _ => pts_nil) (fun _ _ _ _ _ => (k_pit K (pe_d G_accepted hr (pa_cons (pv 0) (pa_cons (pv 2) pa_nil))))) (fun _ _ _ _ _ => (pg_name (i := 3) sckinds_of_types.nd rfl (by first | exact Or.inl rfl | exact Or.inr rfl))) (fun _ _ _ _ _ => pts_nil) (fun _ _ _ _ _ => (pv 3))) pa_nil)) pa_nil)))), s_retR (e_tupleL (a_cons (e_sortedS (n := tb.nk) (M := l.flatMap fun r => tb.lots.getD r []) (ks := kot tb.nk tb.lots l) ?_ (by have := g.nk; omega) (List.Pairwise.filter _ List.pairwise_lt_range) fun k => ?_) a_nil)) kk⟩
  · have hi := i_tup (e_var (σ := L2.start N_kinds_of_types [x, y]) (i := 1) (v := y) rfl hy)
    rw [List.length_map] at hi
    refine e_sc2 l (fun r => tb.lots.getD r []) tb.nk (Nat.le_trans g.nk (by decide)) hi (fun _ => rfl) (fun _ _ => rfl) (fun _ _ => rfl) fun i r v H1 ex hr ⟨d, hd, pd⟩ => ⟨fun k hk => g.lot_lt hk, ?_⟩
    rw [List.getElem?_map, hr] at hd
    have hd := Option.some.inj hd
    subst hd
    exact e_call (a_cons (e_var (v := x) rfl ((tabS K tb).up _ _ _ ex hx)) (a_cons (e_var (v := v) rfl pd.int_inv) a_nil)) fun vs H2 p Q q => ⟨tb, r, p, hl r (List.mem_of_getElem? hr), q⟩
  · unfold kot
    rw [List.mem_filter, List.mem_flatMap, List.mem_range, List.any_eq_true]
    constructor
    · rintro ⟨_, r, hr, hk⟩
      exact ⟨r, hr, List.contains_iff_mem.mp hk⟩
    · rintro ⟨r, hr, hk⟩
      exact ⟨g.lot_lt hk, r, hr, List.contains_iff_mem.mpr hk⟩
abbrev s_open_kinds : Stmt := topS 29
abbrev N_open_kinds : List Str := ["table", "types", "left", "kind"]
theorem scopen_kinds : FnScope N_open_kinds ["table", "types", "left"] (defScope s_open_kinds) := ⟨rfl, rfl, rfl, by decide +kernel, rfl, by decide +kernel, by decide +kernel⟩
def sp_open_kinds (K : Fg) : Sp := fun vs H Q _ => ∃ (T : Tab) (l : List Nat) (left : Nat → Int), AtAll H vs [tabS K T, dat K (dNs l), lstS K ((List.range T.nk).map fun k => .int (left k))] ∧ T.Ok ∧ (∀ r ∈ l, r < T.types.length) ∧ l.length ≤ 1000 ∧ Ret (dat K (dNs ((kot T.nk T.lots l).filter fun k => decide (0 < left k)))) H Q
theorem kot_lt {nk : Nat} {lots : List (List Nat)} {l : List Nat} {k : Nat} (h : k ∈ kot nk lots l) : k < nk := List.mem_range.mp (List.mem_filter.mp h).1
theorem kot_len {nk : Nat} {lots : List (List Nat)} {l : List Nat} : (kot nk lots l).length ≤ nk := Nat.le_trans (List.length_filter_le _ _) (by rw [List.length_range]; exact Nat.le_refl _)
theorem ok_open_kinds (T : Bt mg) (D : Df K mg "open_kinds" s_open_kinds ["table", "types", "left"]) (G_kinds_of_types : OkD P w K mg base CX0 2 "kinds_of_types" ["table", "types"] (sp_kinds_of_types K)) : OkD P w K mg base CX0 3 "open_kinds" ["table", "types", "left"] (sp_open_kinds K) := by
  refine OkD.of D fun f fd F => F.ok scopen_kinds (fun vs H Q E ⟨_, _, _, h, _⟩ => atLen h) (fun cdv A outer s H vs Q E hr ⟨tb, l, left, h, g, hl, hn, kk⟩ => ?_)
  obtain ⟨x, y, z, rfl, hx, hy, hz⟩ := a3 h
  have g8 := g.nk
  refine ⟨_, (pss_one (ps_ret (pe_callTy (k_tuple K) (by rfl) T.b_tuple (by decide +kernel) (pa_cons (pe_lc (own := [("kind", 3)]) (g := gName 3) rfl scopen_kinds.nd (k_pit K (pe_d G_kinds_of_types hr (pa_cons (pv 0) (pa_cons (pv 1) pa_nil)))) (blkOk_by (N := N_open_kinds) (sc := (defScope s_open_kinds)) (by decide +kernel)) (fun _ _ _ _ _ => (pg_name (i := 3) scopen_kinds.nd rfl (by first | exact Or.inl rfl | exact Or.inr rfl))) (fun _ _ _ _ _ => (pts_one (pt_cmpR op_gt (pe_ix (k_ix K) (pv 2) (pv 3) (fun _ _ => rfl)) pe_int (nomark _)))) (fun _ _ _ _ _ => (pv 3))) pa_nil)))), s_retR (e_tupleL (a_cons ?_ a_nil)) kk⟩
  refine e_lcT (kot tb.nk tb.lots l) dN (fun k => decide (0 < left k)) dN (e_call (a_cons (e_var (v := x) rfl hx) (a_cons (e_var (v := y) rfl hy) a_nil)) fun vs H2 p Q q => ⟨tb, l, p, g, hl, hn, q⟩) (Nat.le_trans kot_len (by omega)) (fun _ => rfl) fun k v H1 ex hk hv => ⟨t_test (EvS.cast (e_I0 (g := fun a b => .bl (decide (a > b))) (EvS.toI (e_ixL (e_var (v := z) rfl ((lstS K _).up _ _ _ ex hz)) (e_var (v := v) rfl hv.int_inv) (get_range _ (kot_lt hk)))) e_int) rfl), fun _ => e_var (v := v) rfl hv⟩
abbrev s_takers_among : Stmt := topS 37
abbrev N_takers_among : List Str := ["table", "types", "kinds", "request", "kind"]
theorem sctakers_among : FnScope N_takers_among ["table", "types", "kinds"] (defScope s_takers_among) := ⟨rfl, rfl, rfl, by decide +kernel, rfl, by decide +kernel, by decide +kernel⟩
def takers (lots : List (List Nat)) (l ks : List Nat) : List Nat := l.filter fun r => (lots.getD r []).any fun k => ks.contains k
def sp_takers_among (K : Fg) : Sp := fun vs H Q _ => ∃ (T : Tab) (l ks : List Nat), AtAll H vs [tabS K T, dat K (dNs l), dat K (dNs ks)] ∧ T.Ok ∧ (∀ r ∈ l, r < T.types.length) ∧ l.length ≤ 1000 ∧ Ret (dat K (dNs (takers T.lots l ks))) H Q
theorem ok_takers_among (T : Bt mg) (D : Df K mg "takers_among" s_takers_among ["table", "types", "kinds"]) (G_accepted : OkD P w K mg base CX0 1 "accepted" ["table", "request"] (sp_accepted K)) : OkD P w K mg base CX0 2 "takers_among" ["table", "types", "kinds"] (sp_takers_among K) := by
  refine OkD.of D fun f fd F => F.ok sctakers_among (fun vs H Q E ⟨_, _, _, h, _⟩ => atLen h) (fun cdv A outer s H vs Q E hr ⟨tb, l, ks, h, g, hl, hn, kk⟩ => ?_)
  obtain ⟨x, y, z, rfl, hx, hy, hz⟩ := a3 h
  refine ⟨_, (pss_one (ps_ret (pe_callTy (k_tuple K) (by rfl) T.b_tuple (by decide +kernel) (pa_cons (pe_lc (own := [("request", 3)]) (g := gName 3) rfl sctakers_among.nd (k_pit K (pv 1)) (blkOk_by (N := N_takers_among) (sc := (defScope s_takers_among)) (by decide +kernel)) (fun _ _ _ _ _ => (pg_name (i := 3) sctakers_among.nd rfl (by first | exact Or.inl rfl | exact Or.inr rfl))) (fun _ _ _ _ _ => (pts_one (pt_val (pe_callB (k_any K) (by rfl) T.b_any (by decide +kernel) (pa_cons (pe_lc (own := [("kind", 4)]) (g := gName 4) (tt := tYes) rfl sctakers_among.nd (k_pit K (pe_d G_accepted hr (pa_cons (pv 0) (pa_cons (pv 3) pa_nil)))) (blkOk_by (N := N_takers_among) (sc := (relS (mkSc [(".0", .local), ("request", .local), ("any", .globalImplicit), ("accepted", .globalImplicit), ("kinds", .free), ("table", .free)]) (defScope s_takers_among))) (by decide +kernel)) (fun _ _ _ _ _ => (pg_name (i := 4) sctakers_among.nd rfl (by first | exact Or.inl rfl | exact Or.inr rfl))) (fun _ _ _ _ _ => pts_nil) (fun _ _ _ _ _ => (pe_cmpR (k_in K) (pv 4) (pv 2) (by rfl)))) pa_nil))))) (fun _ _ _ _ _ => (pv 3))) pa_nil)))), s_retR (e_tupleL (a_cons ?_ a_nil)) kk⟩
  refine e_lcT l dN (fun r => (tb.lots.getD r []).any fun k => ks.contains k) dN (e_var (v := y) rfl hy) (Nat.le_trans hn (by decide)) (fun _ => rfl) fun r v H1 ex hr hv => ⟨t_B ?_, fun _ => e_var (v := v) rfl hv⟩
  refine e_anyF (tb.lots.getD r []) (fun k => ks.contains k) ?_
  refine e_lcT (tb.lots.getD r []) dN (fun _ => true) _ (e_call (a_cons (e_var (v := x) rfl ((tabS K tb).up _ _ _ ex hx)) (a_cons (e_var (v := v) rfl hv.int_inv) a_nil)) fun vs H2 p Q q => ⟨tb, r, p, hl r hr, q⟩) (Nat.le_trans (g.lot_len r) (by decide)) (fun _ => rfl) fun k u H2 ex2 hk hu => ⟨t_yes, fun _ => EvS.toB ?_⟩
  exact e_inN (e_var (v := u) rfl hu.int_inv) (e_var (v := z) rfl ((dat K (dNs ks)).up _ _ _ (ex.trans ex2) hz))
abbrev s_types_within : Stmt := topS 49
abbrev N_types_within : List Str := ["table", "kinds", "at", "kind"]
theorem sctypes_within : FnScope N_types_within ["table", "kinds"] (defScope s_types_within) := ⟨rfl, rfl, rfl, by decide +kernel, rfl, by decide +kernel, by decide +kernel⟩
def sp_types_within (K : Fg) : Sp := fun vs H Q _ => ∃ (T : Tab) (ks : List Nat), AtAll H vs [tabS K T, dat K (dNs ks)] ∧ T.Ok ∧ Ret (dat K (dNs (tw T.lots ks))) H Q
theorem fn_types_within (T : Bt mg) (G_accepted : OkD P w K mg base CX0 1 "accepted" ["table", "request"] (sp_accepted K)) {f : Addr} {fd : FuncData} (F : Fun K "types_within" "types_within" s_types_within f fd) : FnOk P w K mg base CX0 2 f fd ["table", "kinds"] (sp_types_within K) := by
  refine F.ok sctypes_within (fun vs H Q E ⟨_, _, h, _⟩ => atLen h) (fun cdv A outer s H vs Q E hr ⟨tb, ks, h, g, kk⟩ => ?_)
  obtain ⟨x, y, rfl, hx, hy⟩ := a2 h
  refine ⟨_, (pss_one (ps_ret (pe_callTy (k_tuple K) (by rfl) T.b_tuple (by decide +kernel) (pa_cons (pe_lc (own := [("at", 2)]) (g := gName 2) rfl sctypes_within.nd (pi_range1 rfl T.b_range (pa_cons (pe_callB (k_len K) (by rfl) T.b_len (by decide +kernel) (pa_cons (k_fld K (pv 0) rfl) pa_nil)) pa_nil)) (blkOk_by (N := N_types_within) (sc := (defScope s_types_within)) (by decide +kernel)) (fun _ _ _ _ _ => (pg_name (i := 2) sctypes_within.nd rfl (by first | exact Or.inl rfl | exact Or.inr rfl))) (fun _ _ _ _ _ => (pts_one (pt_val (pe_callB (k_all K) (by rfl) T.b_all (by decide +kernel) (pa_cons (pe_lc (own := [("kind", 3)]) (g := gName 3) (tt := tYes) rfl sctypes_within.nd (k_pit K (pe_d G_accepted hr (pa_cons (pv 0) (pa_cons (pv 2) pa_nil)))) (blkOk_by (N := N_types_within) (sc := (relS (mkSc [(".0", .local), ("at", .local), ("all", .globalImplicit), ("accepted", .globalImplicit), ("kinds", .free), ("table", .free)]) (defScope s_types_within))) (by decide +kernel)) (fun _ _ _ _ _ => (pg_name (i := 3) sctypes_within.nd rfl (by first | exact Or.inl rfl | exact Or.inr rfl))) (fun _ _ _ _ _ => pts_nil) (fun _ _ _ _ _ => (pe_cmpR (k_in K) (pv 3) (pv 1) (by rfl)))) pa_nil))))) (fun _ _ _ _ _ => (pv 2))) pa_nil)))), s_retR (e_tupleL (a_cons ?_ a_nil)) kk⟩
  refine e_lcR tb.lots.length (fun r => (tb.lots.getD r []).all fun k => ks.contains k) dN (a_cons (EvS.cast (e_len (a_cons (e_types (e_var (v := x) rfl hx)) a_nil)) (by rw [List.length_map, tb.lots_len])) a_nil) (by rw [tb.lots_len]; exact Nat.le_trans g.nt (by decide)) (fun _ => rfl) fun r H1 ex hr => ⟨t_B ?_, fun _ => EvS.toD (e_var (v := .int (r : Int)) rfl rfl)⟩
  refine e_allF (tb.lots.getD r []) (fun k => ks.contains k) ?_
  refine e_lcT (tb.lots.getD r []) dN (fun _ => true) _ (e_call (a_cons (e_var (v := x) rfl ((tabS K tb).up _ _ _ ex hx)) (a_cons (e_var (v := .int (r : Int)) (s := intS (r : Int)) rfl rfl) a_nil)) fun vs H2 p Q q => ⟨tb, r, p, by rw [← tb.lots_len]; exact hr, q⟩) (Nat.le_trans (g.lot_len r) (by decide)) (fun _ => rfl) fun k u H2 ex2 hk hu => ⟨t_yes, fun _ => EvS.toB ?_⟩
  exact e_inN (e_var (v := u) rfl hu.int_inv) (e_var (v := y) rfl ((dat K (dNs ks)).up _ _ _ (ex.trans ex2) hy))
theorem ok_types_within (T : Bt mg) (D : Df K mg "types_within" s_types_within ["table", "kinds"]) (G1 : OkD P w K mg base CX0 1 "accepted" ["table", "request"] (sp_accepted K)) : OkD P w K mg base CX0 2 "types_within" ["table", "kinds"] (sp_types_within K) :=
  OkD.of D fun f fd F => fn_types_within T G1 F
end
end K45
/-! Rows that change, dicts, while: rules and readings. -/
namespace K45
open PySem L2 RZ PyProof.Rows
/-! ### slots -/
/-- the first slots -/
structure Sl (n : Nat) (vs : List V) (σ : L2.St) : Prop where
  len : σ.length = n
  at_ : ∀ (i : Nat) v, vs[i]? = some v → σ[i]? = some (some v)
theorem Sl.set {n j : Nat} {vs : List V} {σ : L2.St} {x : V} (h : Sl n vs σ) (hj : vs.length ≤ j) : Sl n vs (σ.set j (some x)) :=
  ⟨by rw [List.length_set]; exact h.len, fun i v e => by
    have := (List.getElem?_eq_some_iff.mp e).1
    rw [List.getElem?_set_ne (by omega)]
    exact h.at_ i v e⟩
theorem sl_same {σ : L2.St} {n j : Nat} {x : V} (h : σ.length = n) (hj : j < n) : (σ.set j (some x))[j]? = some (some x) := List.getElem?_set_self (by omega)
theorem sl_ne {σ : L2.St} {i j : Nat} {x : V} {o : Option (Option V)} (hj : j ≠ i) (h : σ[i]? = o) : (σ.set j (some x))[i]? = o := by
  rw [List.getElem?_set_ne hj]
  exact h
theorem Sl.start {n : Nat} {vs ws : List V} {σ : L2.St} (h : ∀ (i : Nat) v, vs[i]? = some v → σ[i]? = some (some v)) (e : σ.length = n) : Sl n vs σ := ⟨e, h⟩
section
variable {K : Fg} {σ : L2.St} {H H' : Hp} {ta tb te tc tl : TE} {t u tt : TT} {x y z v : V} {s s' : Sh} {D : Ends} {tu tw tz : TS}
theorem Sl.var {n i : Nat} {vs : List V} (h : Sl n vs σ) (e : vs[i]? = some v) (p : s.P v H) : EvS (tVar i) σ H s := e_var (h.at_ i v e) p
/-! ### new objects -/
theorem none_back {H H' : Hp} {l : Addr} (e : Ex H H') (h : H' l = none) : H l = none := by
  cases q : H l with
  | none => rfl
  | some o => rw [e l o q] at h; cases h
def EvF (te : TE) (σ : L2.St) (H : Hp) (o : HO) : Prop := ∀ H1, Ex H H1 → ∀ Q : VK, (∀ p H2, H1 p = none → Ex H1 H2 → H2 p = some o → Q (.ref p) H2) → te σ H1 Q
theorem f_lst0 : EvF (tLst tNil) σ H (.lst []) := fun H1 _ Q q => ⟨Nat.zero_le _, fun a ha => q a _ ha (Evl.Ex.new ha) upd_same⟩
theorem f_dnew : EvF tDNewK σ H (.dK []) := fun H1 _ Q q p hp => q p _ hp (Evl.Ex.new hp) upd_same
theorem f_listT {ns : List Int} (h : EvS te σ H (dat K (.tuple (ns.map .int)))) : EvF (tCB (fun xs H Q => ∃ p ys, xs = [.ref p] ∧ (SqL K H p ys ∨ SqT K H p ys) ∧ ∀ l, H l = none → Q (.ref l) (upd H l (.lst ys))) (tCons te tNil)) σ H (.lst (ns.map V.int)) := fun H1 e Q q =>
  h H1 e _ fun v H2 e2 pv => by
    obtain ⟨a, xs, rfl, hq, hd⟩ := Tp.tup_inv pv
    have e3 := hd.ints
    subst e3
    refine ⟨a, _, rfl, .inr hq, fun l hl => q l _ (none_back e2 hl) (e2.trans (Evl.Ex.new hl)) upd_same⟩
theorem f_rep {i : Int} {n : Nat} (hn : n ≤ 100000) (hb : EvS tb σ H (intS (n : Int))) : EvF (tOp rRep (tLst (tCons (tC (.int i)) tNil)) tb) σ H (.lst (List.replicate n (.int i))) := fun H1 e Q q =>
  ⟨Nat.le_of_lt (small1000 (show 1 ≤ 1000 by decide)), fun a ha => hb _ (e.trans (Evl.Ex.new ha)) _ fun v H2 e2 pv => by
    have e3 : ∀ k : Nat, (List.replicate k [V.int i]).flatten = List.replicate k (.int i) := fun k => by
      induction k with
      | zero => rfl
      | succ k ih => rw [List.replicate_succ, List.replicate_succ, List.flatten_cons, ih]; rfl
    refine ⟨a, n, [.int i], rfl, pv, e2 a _ upd_same, by omega, by omega, by
      show 1 * (n : Int).toNat ≤ sizeLine
      rw [sizeLine_eq]
      omega, fun p hp => ?_⟩
    rw [Int.toNat_natCast, e3]
    exact q p _ (none_back ((Evl.Ex.new ha).trans e2) hp) (((Evl.Ex.new ha).trans e2).trans (Evl.Ex.new hp)) upd_same⟩

theorem q_par3F {i j l : Nat} {t1 t2 t3 : TE} {o1 o2 o3 : HO} (h1 : EvF t1 σ H o1) (h2 : EvF t2 σ H o2) (h3 : EvF t3 σ H o3)
    (k : ∀ a b c H3, H a = none → H b = none → H c = none → a ≠ b → a ≠ c → b ≠ c → Ex H H3 → H3 a = some o1 → H3 b = some o2 → H3 c = some o3 → tz D (((σ.set i (some (.ref a))).set j (some (.ref b))).set l (some (.ref c))) H3) :
    tSeq (tPar3 i j l (tCons t1 (tCons t2 (tCons t3 tNil)))) tz D σ H :=
  h1 H (Evl.Ex.refl H) _ fun a H1 n1 e1 k1 => h2 H1 e1 _ fun b H2 n2 e2 k2 => h3 H2 (e1.trans e2) _ fun c H3 n3 e3 k3 =>
    ⟨_, _, _, rfl, k a b c H3 n1 (none_back e1 n2) (none_back (e1.trans e2) n3) (fun q => by rw [← q, k1] at n2; cases n2) (fun q => by rw [← q, e2 _ _ k1] at n3; cases n3) (fun q => by rw [← q, k2] at n3; cases n3)
      (e1.trans (e2.trans e3)) (e3 _ _ (e2 _ _ k1)) (e3 _ _ k2) k3⟩
theorem q_parF {i j : Nat} {t1 t2 : TE} {o1 : HO} {s : Sh} (h1 : EvF t1 σ H o1) (h2 : EvS t2 σ H s)
    (k : ∀ a v H2, H a = none → Ex H H2 → H2 a = some o1 → s.P v H2 → tz D ((σ.set i (some (.ref a))).set j (some v)) H2) :
    tSeq (tPar i j (tCons t1 (tCons t2 tNil))) tz D σ H :=
  h1 H (Evl.Ex.refl H) _ fun a H1 n1 e1 k1 => h2 H1 e1 _ fun v H2 e2 pv => ⟨_, _, rfl, k a v H2 n1 (e1.trans e2) (e2 _ _ k1) pv⟩
theorem q_parSF {i j : Nat} {t1 t2 : TE} {o1 : HO} {s : Sh} (h1 : EvS t1 σ H s) (h2 : EvF t2 σ H o1)
    (k : ∀ v b H2, H b = none → Ex H H2 → H2 b = some o1 → s.P v H2 → tz D ((σ.set i (some v)).set j (some (.ref b))) H2) :
    tSeq (tPar i j (tCons t1 (tCons t2 tNil))) tz D σ H :=
  h1 H (Evl.Ex.refl H) _ fun v H1 e1 pv => h2 H1 e1 _ fun b H2 n2 e2 k2 => ⟨_, _, rfl, k v b H2 (none_back e1 n2) (e1.trans e2) k2 (s.up _ _ _ e2 pv)⟩
theorem q_parS {i j : Nat} {t1 t2 : TE} {s1 s2 : Sh} (h1 : EvS t1 σ H s1) (h2 : EvS t2 σ H s2)
    (k : ∀ v w H2, Ex H H2 → s1.P v H2 → s2.P w H2 → tz D ((σ.set i (some v)).set j (some w)) H2) :
    tSeq (tPar i j (tCons t1 (tCons t2 tNil))) tz D σ H :=
  h1 H (Evl.Ex.refl H) _ fun v H1 e1 pv => h2 H1 e1 _ fun w H2 e2 pw => ⟨_, _, rfl, k v w H2 (e1.trans e2) (s1.up _ _ _ e2 pv) pw⟩

/-! ### dicts -/
def dicS (kvs : List (Key × V)) : Sh := ⟨fun v H => ∃ d, v = .ref d ∧ H d = some (.dK kvs), fun _ _ _ e ⟨d, h1, h2⟩ => ⟨d, h1, e d _ h2⟩⟩
theorem e_din {kvs : List (Key × V)} {i : Int} (ha : EvS ta σ H (intS i)) (hb : EvS tb σ H (dicS kvs)) : EvS (tDIn ta tb) σ H (blS (valV kvs (.inl i)).isSome) := fun H1 e Q q =>
  ha H1 e _ fun v H2 e2 pv => hb H2 (e.trans e2) _ fun w H3 e3 ⟨d, h1, h2⟩ => by
    have pv : v = .int i := pv
    subst pv
    exact ⟨d, _, h1, DGet.k (k := .inl i) h2, q _ H3 (e2.trans e3) rfl⟩
theorem e_dnotin {kvs : List (Key × V)} {i : Int} (ha : EvS ta σ H (intS i)) (hb : EvS tb σ H (dicS kvs)) : EvS (tDNotIn ta tb) σ H (blS (!(valV kvs (.inl i)).isSome)) := fun H1 e Q q =>
  ha H1 e _ fun v H2 e2 pv => hb H2 (e.trans e2) _ fun w H3 e3 ⟨d, h1, h2⟩ => by
    have pv : v = .int i := pv
    subst pv
    exact ⟨d, _, h1, DGet.k (k := .inl i) h2, q _ H3 (e2.trans e3) rfl⟩
theorem e_dget {kvs : List (Key × V)} {i : Int} {w : V} (ha : EvS ta σ H (dicS kvs)) (hb : EvS tb σ H (intS i)) (hw : valV kvs (.inl i) = some w) : EvS (tDGet ta tb) σ H (vS w) := fun H1 e Q q =>
  ha H1 e _ fun v H2 e2 pv => hb H2 (e.trans e2) _ fun w' H3 e3 pw => by
    have pw : w' = .int i := pw
    subst pw
    obtain ⟨d, h1, h2⟩ := pv
    exact ⟨d, w, h1, hw ▸ DGet.k (k := .inl i) (e3 d _ h2), q _ H3 (e2.trans e3) rfl⟩
/-- d[k] = v, both at hand -/
theorem q_dput {kvs : List (Key × V)} {d : Addr} {i : Int} {w : V} (hd : H d = some (.dK kvs)) (hl : kvs.length < 100000) (ha : EvS ta σ H (vS (.ref d))) (hb : EvS tb σ H (intS i)) (hc : EvS tc σ H (vS w)) (k : ∀ H1, Ex H H1 → tz D σ (upd H1 d (.dK (putK kvs (.inl i) w)))) : tSeq (sDPut ta tb tc) tz D σ H :=
  hc H (Evl.Ex.refl H) _ fun v H1 e1 p1 => ha H1 e1 _ fun u H2 e2 p2 => hb H2 (e1.trans e2) _ fun y H3 e3 p3 => by
    have p1 : v = w := p1
    have p2 : u = .ref d := p2
    have p3 : y = .int i := p3
    subst p1 p2 p3
    exact ⟨d, _, rfl, DPut.k (k := .inl i) ((e1.trans (e2.trans e3)) d _ hd) (Nat.lt_of_lt_of_le hl (by decide)), k H3 (e1.trans (e2.trans e3))⟩
/-- what is kept, as dicts -/
def ov : Option Nat → V
  | none => .non
  | some r => .int (r : Int)
def kvK (s : List (Nat × Option Nat)) : List (Key × V) := s.map fun p => (.inl (p.1 : Int), ov p.2)
def kvT (s : List (Nat × Nat)) : List (Key × V) := s.map fun p => (.inl (p.1 : Int), .int (p.2 : Int))
theorem valV_map {α : Type} (g : α → Nat) (h : α → V) : ∀ (s : List α) (k : Nat), (valV (s.map fun p => ((.inl (g p : Int) : Key), h p)) (.inl (k : Int))).isSome = decide (k ∈ s.map g)
  | [], k => rfl
  | p :: s, k => by
    rw [List.map_cons, List.map_cons]
    by_cases e : g p = k
    · rw [valV_pos (by show (Sum.inl (g p : Int) : Key) = .inl (k : Int); rw [e]), Option.isSome_some]
      exact (decide_eq_true (by rw [e]; exact List.mem_cons_self)).symm
    · have e2 : ¬ ((Sum.inl (g p : Int) : Key) = .inl (k : Int)) := fun z => e (by have := Sum.inl.inj z; omega)
      have := valV_map g h s k
      unfold valV at this ⊢
      rw [List.find?_cons_of_neg (by simp only [decide_eq_true_eq]; exact e2), this]
      exact decide_eq_decide.mpr ⟨fun z => List.mem_cons_of_mem _ z, fun z => by
        rcases List.mem_cons.mp z with z | z
        · exact absurd z.symm e
        · exact z⟩
theorem valV_kvK (s : List (Nat × Option Nat)) (k : Nat) : (valV (kvK s) (.inl (k : Int))).isSome = decide (k ∈ kyK s) := valV_map (fun p : Nat × Option Nat => p.1) (fun p => ov p.2) s k
theorem valV_kvT (s : List (Nat × Nat)) (k : Nat) : (valV (kvT s) (.inl (k : Int))).isSome = decide (k ∈ kyT s) := valV_map (fun p : Nat × Nat => p.1) (fun p => .int (p.2 : Int)) s k
theorem valV_at {α : Type} (g : α → Nat) (h : α → V) : ∀ (s : List α) (p : α), (s.map g).Nodup → p ∈ s → valV (s.map fun p => ((.inl (g p : Int) : Key), h p)) (.inl (g p : Int)) = some (h p)
  | q :: s, p, nd, hm => by
    rw [List.map_cons]
    rw [List.map_cons, List.nodup_cons] at nd
    rcases List.mem_cons.mp hm with e | hm
    · subst e
      exact valV_pos rfl
    · have e2 : ¬ ((Sum.inl (g q : Int) : Key) = .inl (g p : Int)) := fun z => nd.1 (by
        have : g q = g p := by have := Sum.inl.inj z; omega
        rw [this]
        exact List.mem_map.mpr ⟨p, hm, rfl⟩)
      have := valV_at g h s p nd.2 hm
      unfold valV at this ⊢
      rw [List.find?_cons_of_neg (by simp only [decide_eq_true_eq]; exact e2), this]
theorem putK_new {kvs : List (Key × V)} {k : Key} {w : V} (h : (valV kvs k).isSome = false) : putK kvs k w = kvs ++ [(k, w)] := by
  unfold putK
  rw [if_neg]
  intro z
  rw [List.any_eq_true] at z
  obtain ⟨p, hp, e⟩ := z
  unfold valV at h
  rw [Option.isSome_map, List.find?_isSome.mpr ⟨p, hp, e⟩] at h
  cases h
theorem putK_kvK {s : List (Nat × Option Nat)} {k : Nat} {o : Option Nat} (h : k ∉ kyK s) : putK (kvK s) (.inl (k : Int)) (ov o) = kvK (s ++ [(k, o)]) := by
  rw [putK_new (by rw [valV_kvK, decide_eq_false h])]
  unfold kvK
  rw [List.map_append]
  rfl
theorem putK_kvT {s : List (Nat × Nat)} {k o : Nat} (h : k ∉ kyT s) : putK (kvT s) (.inl (k : Int)) (.int (o : Int)) = kvT (s ++ [(k, o)]) := by
  rw [putK_new (by rw [valV_kvT, decide_eq_false h])]
  unfold kvT
  rw [List.map_append]
  rfl
/-- {k: None for k in numbers} -/
theorem f_dc {ks : List Nat} {j : Nat} {vs : List Nat} (h : EvS tl σ H (dat K (dNs ks))) (nd : ks.Nodup) (hl : ks.length ≤ 1000) (hv : ∀ w, wipe ((wipe σ vs).set j (some w)) vs = wipe σ vs) (hj : ∀ w, ((wipe σ vs).set j (some w))[j]? = some (some w)) :
    EvF (tDc (iTup K tl) (gName j) tYes (tVar j) (tC .non) vs) σ H (.dK (kvK (ks.map fun k => (k, none)))) := fun H1 e Q q => h H1 e _ fun v H2 e2 pv => by
  obtain ⟨a, xs, rfl, hq, hd⟩ := Tp.tup_inv pv
  rw [map_dN] at hd
  have ex := hd.ints
  subst ex
  rw [List.map_map] at hq
  refine ⟨a, rfl, ⟨_, hq⟩, fun Dd hD => ?_⟩
  refine ⟨fun i m H' => m = ks.length - i ∧ i ≤ ks.length ∧ Ex H2 H' ∧ H' Dd = some (.dK (kvK ((ks.take i).map fun k => (k, none)))), ⟨_, rfl, Nat.zero_le _, Evl.Ex.new hD, by rw [List.take_zero]; exact upd_same⟩, ?_⟩
  rintro i m H3 ⟨rfl, hi, e3, h3⟩
  have hq3 := Evl.ex_t e3 hq
  by_cases hlt : i < ks.length
  · have hx : (ks.map (V.int ∘ fun n : Nat => (n : Int)))[i]? = some (.int (ks[i] : Int)) := by rw [List.getElem?_map, List.getElem?_eq_getElem hlt]; rfl
    refine .inr ⟨⟨_, _, hq3, hx⟩, fun H' => Ex H2 H' ∧ H' Dd = some (.dK (kvK ((ks.take (i + 1)).map fun k => (k, none)))), fun H' h' => ⟨ks.length - (i + 1), by omega, rfl, hlt, h'.1, h'.2⟩, fun x H' y => ?_⟩
    obtain ⟨y1, y2⟩ := y
    subst y1
    have ey : x = .int (ks[i] : Int) := by
      have := y2 _ hq3
      rw [hx] at this
      exact (Option.some.inj this).symm
    subst ey
    refine ⟨hv _, ?_⟩
    unfold tYes
    dsimp only
    rw [if_pos rfl]
    have tk : ks.take (i + 1) = ks.take i ++ [ks[i]] := by rw [List.take_add_one, List.getElem?_eq_getElem hlt]; rfl
    have nin : ks[i] ∉ kyK ((ks.take i).map fun k => (k, (none : Option Nat))) := by
      have ez : kyK ((ks.take i).map fun k => (k, (none : Option Nat))) = ks.take i := by rw [kyK, List.map_map]; exact List.map_id _
      rw [ez]
      intro z
      rw [List.mem_take_iff_getElem] at z
      obtain ⟨j', hj', ej⟩ := z
      have := (List.getElem_inj nd).mp ej
      omega
    refine ⟨_, hj _, _, .inl (ks[i] : Int), rfl, h3, by
      unfold kvK
      rw [List.length_map, List.length_map, List.length_take]
      exact Nat.lt_of_le_of_lt (Nat.min_le_left _ _) (Nat.lt_of_lt_of_le hlt (Nat.le_trans hl (by decide))), Evl.Ex.mut e3 hD, ?_⟩
    rw [tk, List.map_append]
    rw [show putK (kvK ((ks.take i).map fun k => (k, none))) (.inl (ks[i] : Int)) V.non = _ from putK_kvK (o := none) nin]
    exact upd_same
  · have e' : i = ks.length := by omega
    subst e'
    refine .inl ⟨⟨_, hq3, by rw [List.length_map]; exact Nat.le_refl _⟩, ?_⟩
    rw [List.take_length] at h3
    exact q Dd H3 (none_back e2 hD) (e2.trans e3) h3

/-! ### rows, that are lists or tuples -/
def rowV (nk : Nat) (g : Nat → Int) : List V := (List.range nk).map fun k => .int (g k)
/-- a list or a tuple -/
def SqA (K : Fg) (H : Hp) (a : Addr) (xs : List V) : Prop := SqL K H a xs ∨ SqT K H a xs
theorem SqA.ex {a : Addr} {xs : List V} (h : SqA K H a xs) (e : Ex H H') : SqA K H' a xs := h.imp (Evl.ex_l e) (Evl.ex_t e)
structure RowsAt (K : Fg) (nk nt : Nat) (f : Nat → Nat → Int) (v : V) (p : Addr) (rs : List Addr) (H : Hp) : Prop where
  e : v = .ref p
  sq : SqA K H p (rs.map V.ref)
  len : rs.length = nt
  row : ∀ (i : Nat) (a : Addr), rs[i]? = some a → SqA K H a (rowV nk (f i))
theorem RowsAt.ex {nk nt : Nat} {f : Nat → Nat → Int} {p : Addr} {rs : List Addr} (h : RowsAt K nk nt f v p rs H) (e : Ex H H') : RowsAt K nk nt f v p rs H' := ⟨h.e, h.sq.ex e, h.len, fun i a q => (h.row i a q).ex e⟩
def rowsS (K : Fg) (nk nt : Nat) (f : Nat → Nat → Int) : Sh := ⟨fun v H => ∃ p rs, RowsAt K nk nt f v p rs H, fun _ _ _ e ⟨p, rs, h⟩ => ⟨p, rs, h.ex e⟩⟩
theorem e_row {nk nt r : Nat} {f : Nat → Nat → Int} {p a : Addr} {rs : List Addr} (h : RowsAt K nk nt f v p rs H) (ha : EvS ta σ H (vS v)) (hb : EvS tb σ H (intS (r : Int))) (hr : rs[r]? = some a) : EvS (tOp (rIx K) ta tb) σ H (vS (.ref a)) :=
  e_two ha hb fun x y H1 ex px py Q q => by
    have px : x = v := px
    have py : y = .int (r : Int) := py
    subst px py
    have hx : (rs.map V.ref)[r]? = some (.ref a) := by rw [List.getElem?_map, hr]; rfl
    have := h.e
    subst this
    rcases h.sq.ex ex with hs | hs
    · exact .inl ⟨p, _, _, _, rfl, rfl, hs, atI_nat hx, q _ H1 (Evl.Ex.refl _) rfl⟩
    · exact .inr (.inl ⟨p, _, _, _, rfl, rfl, hs, atI_nat hx, q _ H1 (Evl.Ex.refl _) rfl⟩)
theorem rowV_at {nk k : Nat} {g : Nat → Int} (h : k < nk) : (rowV nk g)[k]? = some (.int (g k)) := get_range (fun k => V.int (g k)) h
theorem e_cell {nk k : Nat} {g : Nat → Int} {a : Addr} (h : SqA K H a (rowV nk g)) (ha : EvS ta σ H (vS (.ref a))) (hb : EvS tb σ H (intS (k : Int))) (hk : k < nk) : EvS (tOp (rIx K) ta tb) σ H (intS (g k)) :=
  e_two ha hb fun x y H1 ex px py Q q => by
    have px : x = .ref a := px
    have py : y = .int (k : Int) := py
    subst px py
    rcases h.ex ex with hs | hs
    · exact .inl ⟨a, _, _, _, rfl, rfl, hs, atI_nat (rowV_at hk), q _ H1 (Evl.Ex.refl _) rfl⟩
    · exact .inr (.inl ⟨a, _, _, _, rfl, rfl, hs, atI_nat (rowV_at hk), q _ H1 (Evl.Ex.refl _) rfl⟩)
theorem rowV_ints (nk : Nat) (g : Nat → Int) : rowV nk g = ((List.range nk).map g).map V.int := by unfold rowV; rw [List.map_map]; rfl
theorem e_sumRow {nk : Nat} {g : Nat → Int} {a : Addr} (h : SqA K H a (rowV nk g)) (ha : EvS ta σ H (vS (.ref a))) : EvS (tCB (rSumA K) (tCons ta tNil)) σ H (intS (Sg nk g)) :=
  e_CB (a_cons ha a_nil) fun vs H1 ex p Q q => by
    obtain ⟨w, rfl, pw⟩ := a1 p
    have pw : w = .ref a := pw
    subst pw
    have h1 := h.ex ex
    rw [rowV_ints] at h1
    exact ⟨a, _, rfl, h1, by rw [Sg_sum]; exact q _ H1 (Evl.Ex.refl _) rfl⟩
/-- a tuple of tuples of numbers is such rows -/
theorem tk_rows {nk nt : Nat} {f : Nat → Nat → Int} (h : Tp K H v (dTk nk nt f)) : ∃ p rs, RowsAt K nk nt f v p rs H := by
  obtain ⟨a, xs, rfl, hq, hd⟩ := Tp.tup_inv h
  have hlen := hd.len
  rw [List.length_map, List.length_range] at hlen
  have key : ∀ i x, xs[i]? = some x → ∃ b, x = .ref b ∧ SqT K H b (rowV nk (f i)) := fun i x hx => by
    obtain ⟨d, hd', pd⟩ := hd.get' hx
    have hi : i < nt := by rw [← hlen]; exact (List.getElem?_eq_some_iff.mp hx).1
    rw [get_range _ hi] at hd'
    have hd' := Option.some.inj hd'
    subst hd'
    obtain ⟨b, ys, rfl, hy, hyd⟩ := Tp.tup_inv pd
    have := hyd.ints
    subst this
    rw [← rowV_ints] at hy
    exact ⟨b, rfl, hy⟩
  refine ⟨a, xs.map (fun x => match x with | .ref b => b | _ => 0), rfl, .inr ?_, by rw [List.length_map]; exact hlen, fun i b e => ?_⟩
  · have : (xs.map (fun x => match x with | .ref b => b | _ => (0 : Addr))).map V.ref = xs := by
      rw [List.map_map]
      refine (List.map_congr_left fun x hx => ?_).trans (List.map_id _)
      obtain ⟨i, hi⟩ := List.getElem?_of_mem hx
      obtain ⟨b, rfl, _⟩ := key i x hi
      rfl
    rw [this]
    exact hq
  · rw [List.getElem?_map] at e
    cases hx : xs[i]? with
    | none => rw [hx] at e; cases e
    | some x =>
      rw [hx] at e
      obtain ⟨b', rfl, hs⟩ := key i x hx
      cases e
      exact .inr hs

/-! ### enumerate of a list or of a tuple -/
def iEnumA (K : Fg) (ta : TA) : TI := fun σ H R => ta σ H fun vs H1 => ∃ a xs, vs = [.ref a] ∧ ((SqL K H1 a xs ∧ R (Ite K a) H1) ∨ (SqT K H1 a xs ∧ R (IteT K a) H1))
end
/-- enumerate of a list that stands, as a source -/
theorem enum_srcL {X : Cx} {pins : List (Addr × Obj)} {σ : L2.St} {H : Hp} {s : Shared} {a : Addr} {xs : List V} {elts : List Expr} {kk : Nat} {tpos : Pos} {R : It → Hp → Prop} {E : Value → Shared → Prop} (inv : Inv X pins σ H s) (hq : SqL X.K H a xs) (q : R (Ite X.K a) H) :
    wpAny (model X.prog X.w) X.A (call (.type "enumerate") [.ref a]) (fun v z => wpAny (model X.prog X.w) X.A (pyIter v) (PIE X pins σ (.Tuple elts kk tpos) R) E z) E s := by
  obtain ⟨_, _, lst, _⟩ := inv.list hq
  refine call_enumerate_list lst.isList fun g en src _ old => wpAny_pyIter_enum en ?_
  have new : ∀ b ∈ [s.heap.objs.size + 1, s.heap.objs.size], s.heap.objs.size ≤ b := of_two (Nat.le_add_right _ _) (Nat.le_refl _)
  exact ⟨_, _, _, _, H, rfl, inv.kept (t' := s.toks) old, turn_enum a _ _, ⟨⟨.none, en⟩, src, Nat.succ_ne_self _⟩, fun b hb => inv.fpOk (new b hb) (inv.hok.fresh (new b hb)), q⟩
theorem k_enumA {X : Cx} (K : Fg) {e : Expr} {ta : TA} {p pos tpos : Pos} {elts : List Expr} {kk : Nat} (hg : Gl X "enumerate") (hm : X.mg "enumerate" = none) (ha : PA X [e] ta) (hs : starEach [e] X.env = [(false, eval e X.env)] := by rfl) (hK : X.K = K := by rfl) :
    PI X (.Tuple elts kk tpos) (.Call (.Name "enumerate" p) [e] [] pos) (iEnumA K ta) := hK ▸ ⟨fun pins s σ H R inv h => by
  refine Call_ (ld_blt inv hg hm boot_enumerate (PyProof.Rows.callWith_type1 (thn (ha.run pos pins s σ H _ inv h) ?_) hs rfl))
  rintro us z ⟨vs, H1, inv1, rs, a, xs, rfl, q⟩
  match us, rs with
  | [_], .cons r .nil =>
    cases r
    exact q.elim (fun q => enum_srcL inv1 q.1 q.2) fun q => enum_src inv1 q.1 q.2⟩
/-- xs[i], by values, i not negative -/
def rGetL (K : Fg) : V → V → Hp → VK → Prop := fun x y H Q => ∃ (p : Addr) (xs : List V) (i : Nat) (v : V), x = .ref p ∧ y = .int (i : Int) ∧ SqL K H p xs ∧ xs[i]? = some v ∧ Q v H
theorem k_getL {X : Cx} (K : Fg) (hK : X.K = K := by rfl) : PGet X (rGetL K) := by
  subst hK
  intro pins s sl hp o i ov iv Q J ro ri h
  obtain ⟨p, xs, n, z, rfl, rfl, hq, hx, q⟩ := h
  cases ro
  obtain ⟨t, rfl⟩ := ri
  obtain ⟨its, r, pl, hz⟩ := J.list hq
  obtain ⟨u, hu, ru⟩ := r.get hx
  have h63 := line63
  have hlt := (List.getElem?_eq_some_iff.mp hx).1
  exact wpAny_getItem_list pl.isList (Int.natCast_nonneg n) (by omega) (by rw [Int.toNat_natCast]; simpa using hu) ⟨z, hp, J, ru, q⟩
section
variable {K : Fg} {σ : L2.St} {H H' : Hp} {ta tb te tc tl : TE} {t u tt : TT} {x y z v : V} {s s' : Sh} {D : Ends} {tu tw tz : TS}
/-- for i, x in enumerate(..): the pair is new each time -/
theorem s_forE {g : TG} {a : Addr} {xs : List V} (h : EvS te σ H (vS (.ref a))) (Pv : Nat → L2.St → Hp → Prop) (hx : (SqL K H a xs ∧ ∀ i σ' H', Pv i σ' H' → SqL K H' a xs) ∨ (SqT K H a xs ∧ ∀ i σ' H', Pv i σ' H' → SqT K H' a xs)) (h0 : ∀ H1, Ex H H1 → Pv 0 σ H1)
    (hs : ∀ (i : Nat) x σ' H' T, xs[i]? = some x → Pv i σ' H' → H' T = none → g (.ref T) σ' (upd H' T (.tup [.int (i : Int), x])) fun σ2 H2 => tu { D with nx := Pv (i + 1), ct := Pv (i + 1), bk := D.nx } σ2 H2) (hd : ∀ σ' H', Pv xs.length σ' H' → D.nx σ' H') : tFor (iEnumA K (tCons te tNil)) g tu D σ H :=
  h H (Evl.Ex.refl H) _ fun w H1 e1 pw => by
    have pw : w = .ref a := pw
    subst pw
    rcases hx with ⟨hx, hG⟩ | ⟨hx, hG⟩
    · refine ⟨a, xs, rfl, .inl ⟨Evl.ex_l e1 hx, L2.for_it (walk_enum (xs := xs)) Pv (h0 H1 e1) (fun i σ' H' _ q => hG i σ' H' q) ?_ hd⟩⟩
      rintro i w σ' H' H'' _ q ⟨T, y1, y2, rfl, hT, rfl, e1, e2⟩
      cases e1
      exact hs i y2 σ' H' T e2 q hT
    · refine ⟨a, xs, rfl, .inr ⟨Evl.ex_t e1 hx, L2.for_it (walk_enumT (xs := xs)) Pv (h0 H1 e1) (fun i σ' H' _ q => hG i σ' H' q) ?_ hd⟩⟩
      rintro i w σ' H' H'' _ q ⟨T, y1, y2, rfl, hT, rfl, e1, e2⟩
      cases e1
      exact hs i y2 σ' H' T e2 q hT
theorem q_whileW {b : Nat → L2.St → Hp → Prop} (W : Nat → L2.St → Hp → Prop) (m0 : Nat) (h0 : W m0 σ H)
    (hs : ∀ m σ' H', W m σ' H' → ∃ b, EvT t σ' H' b ∧ (b = true → ∀ H1, Ex H' H1 → tu { D with nx := fun σ2 H2 => ∃ m', m' < m ∧ W m' σ2 H2, ct := fun σ2 H2 => ∃ m', m' < m ∧ W m' σ2 H2, bk := tz D } σ' H1) ∧ (b = false → ∀ H1, Ex H' H1 → tz D σ' H1)) : tSeq (tWhile t tu) tz D σ H :=
  Evl.q_while W m0 h0 fun m σ' H' now => let ⟨b, hb, more, last⟩ := hs m σ' H' now; ⟨b, hb, fun q H1 e => ⟨_, fun _ _ z => z, more q H1 e⟩, last⟩
/-- x = xs.pop(0) -/
theorem q_pop0 {K' : Fg} {i j : Nat} {a : Addr} {xs : List V} (hi : σ[i]? = some (some (.ref a))) (ha : H a = some (.lst (x :: xs))) (hK : K' = K) (k : tz D (σ.set j (some x)) (upd H a (.lst xs))) : tSeq (tAsg (tBM K' "list" rPopAt (tVar i) (tCons (tC (.int 0)) tNil)) (gName j)) tz D σ H :=
  ⟨.ref a, hi, .inl ⟨rfl, _, SqL.of ha⟩, a, _, 0, 0, x, rfl, rfl, ha, by decide, by decide, by unfold seqIndex?; simp, rfl, k⟩
/-- xs.append(x), two slots -/
theorem s_appX {K' : Fg} {i j : Nat} {a : Addr} {xs : List V} (hi : σ[i]? = some (some (.ref a))) (hj : σ[j]? = some (some x)) (ha : H a = some (.lst xs)) (hz : xs.length < 100000) (k : D.nx σ (upd H a (.lst (xs ++ [x])))) : tDrop (tBM K' "list" rAppend (tVar i) (tCons (tVar j) tNil)) D σ H :=
  ⟨.ref a, hi, .inl ⟨rfl, _, SqL.of ha⟩, x, hj, a, xs, x, rfl, rfl, ha, Nat.lt_of_lt_of_le hz (by decide), k⟩
/-- return two slots as a pair -/
theorem s_ret2 {i j : Nat} {v1 v2 : V} (h1 : σ[i]? = some (some v1)) (h2 : σ[j]? = some (some v2)) (k : ∀ a, H a = none → D.rt (.ref a) (upd H a (.tup [v1, v2]))) : tRet (tTup (tCons (tVar i) (tCons (tVar j) tNil))) D σ H :=
  ⟨v1, h1, v2, h2, Nat.le_of_lt (small1000 (show 2 ≤ 1000 by decide)), k⟩
/-- a list against [] -/
theorem e_neNil {ns : List Nat} (ha : EvS ta σ H (lstS K (ns.map dN))) : EvS (tOp (rNeD K) ta (tLst tNil)) σ H (blS (!decide (ns = []))) := by
  refine e_two (s2 := lstS K []) ha (e_lst a_nil) fun x y H1 ex px py Q q => ?_
  obtain ⟨a, xs, rfl, h1, h2⟩ := px
  obtain ⟨b, ys, rfl, g1, g2⟩ := py
  refine ⟨.list (ns.map dN), .list [], .lst (SqL.of h1) h2.dp, .lst (SqL.of g1) g2.dp, ?_, by rfl, q _ H1 (Evl.Ex.refl _) ?_⟩
  · unfold SeqAt.shaped
    have : ∀ l : List Nat, PyData.canLayAll0 (l.map dN) = true := fun l => by
      induction l with
      | nil => rfl
      | cons n l ih => simp only [List.map_cons, PyData.canLayAll0, ih]; rfl
    rw [Bool.and_eq_true, decide_eq_true_eq]
    refine ⟨by simp only [PyData.canLay0, this], ?_⟩
    have := depth_dN ns
    show PyData.depthAll _ + 1 ≤ 64
    omega
  · show V.bl _ = V.bl _
    cases ns <;> rfl
end
end K45
/-! ways_from. -/
namespace K45
open PySem L2 RZ
def waysS (K : Fg) (nk nt : Nat) (lots : List (List Nat)) (f : Nat → Nat → Int) (l ks : List Nat) : Sh := ⟨fun v H => ∃ a d1 d2 tk tt, v = .ref a ∧ SqT K H a [.ref d1, .ref d2] ∧ H d1 = some (.dK (kvK tk)) ∧ H d2 = some (.dK (kvT tt)) ∧ Ways nk nt lots f l ks tk tt,
  fun _ _ _ e ⟨a, d1, d2, tk, tt, h1, h2, h3, h4, h5⟩ => ⟨a, d1, d2, tk, tt, h1, Evl.ex_t e h2, e _ _ h3, e _ _ h4, h5⟩⟩
def wtV (l : List Nat) : List V := l.map fun n : Nat => V.int (n : Int)
/-- the three objects that change -/
structure HW (H0 : Hp) (d1 d2 wl : Addr) (s : Ws) (H : Hp) : Prop where
  ex : Ex H0 H
  n1 : H0 d1 = none
  n2 : H0 d2 = none
  n3 : H0 wl = none
  h12 : d1 ≠ d2
  h13 : d1 ≠ wl
  h23 : d2 ≠ wl
  k : H d1 = some (.dK (kvK s.tk))
  t : H d2 = some (.dK (kvT s.tt))
  w : H wl = some (.lst (wtV s.wt))
section
variable {H0 H H' : Hp} {d1 d2 wl : Addr} {s : Ws}
theorem HW.mono (h : HW H0 d1 d2 wl s H) (e : Ex H H') : HW H0 d1 d2 wl s H' := ⟨h.ex.trans e, h.n1, h.n2, h.n3, h.h12, h.h13, h.h23, e _ _ h.k, e _ _ h.t, e _ _ h.w⟩
theorem HW.setW {wt : List Nat} (h : HW H0 d1 d2 wl s H) : HW H0 d1 d2 wl ⟨s.tk, s.tt, wt⟩ (upd H wl (.lst (wtV wt))) :=
  ⟨Evl.Ex.mut h.ex h.n3, h.n1, h.n2, h.n3, h.h12, h.h13, h.h23, by rw [upd_ne h.h13]; exact h.k, by rw [upd_ne h.h23]; exact h.t, upd_same⟩
theorem HW.setT {tt : List (Nat × Nat)} (h : HW H0 d1 d2 wl s H) : HW H0 d1 d2 wl ⟨s.tk, tt, s.wt⟩ (upd H d2 (.dK (kvT tt))) :=
  ⟨Evl.Ex.mut h.ex h.n2, h.n1, h.n2, h.n3, h.h12, h.h13, h.h23, by rw [upd_ne h.h12]; exact h.k, upd_same, by rw [upd_ne (Ne.symm h.h23)]; exact h.w⟩
theorem HW.setK {tk : List (Nat × Option Nat)} (h : HW H0 d1 d2 wl s H) : HW H0 d1 d2 wl ⟨tk, s.tt, s.wt⟩ (upd H d1 (.dK (kvK tk))) :=
  ⟨Evl.Ex.mut h.ex h.n1, h.n1, h.n2, h.n3, h.h12, h.h13, h.h23, upd_same, by rw [upd_ne (Ne.symm h.h12)]; exact h.t, by rw [upd_ne (Ne.symm h.h13)]; exact h.w⟩
end
theorem WI.pop {nk nt : Nat} {lots : List (List Nat)} {f : Nat → Nat → Int} {l ks : List Nat} {s : Ws} {k : Nat} {wt : List Nat} (h : WI nk lots f l ks nk nt s) (e : s.wt = k :: wt) : WI nk lots f l ks k nt ⟨s.tk, s.tt, wt⟩ ∧ k ∈ kyK s.tk :=
  ⟨⟨h.nd, h.lt, fun k' hk' => h.wk k' (by rw [e]; exact List.mem_cons_of_mem _ hk'), h.ki, h.src0, h.src, h.td, h.tl, fun k' h1 h2 h3 r h4 h5 => by
    refine h.cl k' h1 (fun z => ?_) (Nat.ne_of_lt (h.lt k' h1)) r h4 h5
    rw [e] at z
    rcases List.mem_cons.mp z with z | z
    · exact h3 z
    · exact h2 z, h.co⟩, h.wk k (by rw [e]; exact List.mem_cons_self)⟩
theorem WI.addT {nk nt : Nat} {lots : List (List Nat)} {f : Nat → Nat → Int} {l ks : List Nat} {c k r : Nat} {s : Ws} (h : WI nk lots f l ks c nt s) (h1 : r ∉ kyT s.tt) (hr : r ∈ l) (h2 : k ∈ lots.getD r []) (hk : k ∈ kyK s.tk) (hnt : r ≠ nt) (free : ∀ r ∈ l, r ≠ nt) :
    WI nk lots f l ks c r ⟨s.tk, s.tt ++ [(r, k)], s.wt⟩ ∧ r ∈ kyT (s.tt ++ [(r, k)]) := by
  have tmono : ∀ x, x ∈ kyT s.tt → x ∈ kyT (s.tt ++ [(r, k)]) := fun x hx => by
    rw [kyT, List.map_append]
    exact List.mem_append_left _ hx
  have rin : r ∈ kyT (s.tt ++ [(r, k)]) := by
    rw [kyT, List.map_append]
    exact List.mem_append_right _ List.mem_cons_self
  refine ⟨⟨h.nd, h.lt, h.wk, h.ki, h.src0, fun i k' r' e => ?_, ?_, fun r' k' e => ?_, fun k' g1 g2 g3 r' h4 h5 => tmono r' (h.cl k' g1 g2 g3 r' h4 h5), fun r' g1 g2 o ho e => ?_⟩, rin⟩
  · obtain ⟨q1, k0, j, o, q2, q3⟩ := h.src i k' r' e
    exact ⟨q1, k0, j, o, List.mem_append_left _ q2, q3⟩
  · show (kyT (s.tt ++ _)).Nodup
    rw [kyT, List.map_append]
    exact List.nodup_append.mpr ⟨h.td, List.nodup_cons.mpr ⟨List.not_mem_nil, List.nodup_nil⟩, fun a ha b hb e => by
      rw [List.map_cons, List.map_nil, List.mem_singleton] at hb
      subst hb
      subst e
      exact h1 ha⟩
  · rcases List.mem_append.mp e with e | e
    · exact h.tl r' k' e
    · rw [List.mem_singleton] at e
      cases e
      exact ⟨hr, h2, hk⟩
  · have g1 : r' ∈ kyT (s.tt ++ [(r, k)]) := g1
    rw [kyT, List.map_append, List.mem_append] at g1
    rcases g1 with g1 | g1
    · refine h.co r' g1 (fun z => ?_) o ho e
      obtain ⟨⟨a, b⟩, hm, e⟩ := List.mem_map.mp g1
      cases e
      exact free _ (h.tl _ _ hm).1 z
    · rw [List.map_cons, List.map_nil, List.mem_singleton] at g1
      exact absurd g1 g2
theorem WI.tt_len {nk nt c rc : Nat} {lots : List (List Nat)} {f : Nat → Nat → Int} {l ks : List Nat} {s : Ws} (h : WI nk lots f l ks c rc s) (hl : ∀ r ∈ l, r < nt) : s.tt.length ≤ nt := by
  have h1 := nodup_len (kyT s.tt) nt h.td fun r hr => by
    obtain ⟨k, hk⟩ := mem_kt hr
    exact hl r (h.tl r k hk).1
  rw [List.length_map] at h1
  exact h1
theorem wtV_dN (l : List Nat) {K : Fg} {H : Hp} : TpAll K H (wtV l) (l.map dN) := by
  unfold wtV
  rw [map_dN, show (l.map fun n : Nat => V.int (n : Int)) = (l.map fun n : Nat => (n : Int)).map V.int by rw [List.map_map]; rfl]
  exact tpAll_ints _
section
variable {P : Program} {w : World} {K : Fg} {mg : Str → Option Value} {base : Heap}
abbrev s_ways_from : Stmt := topS 30
abbrev N_ways_from : List Str := ["table", "types", "rows", "kinds", "to_kinds", "to_types", "waiting", "kind", "request", "other", "many"]
theorem scways_from : FnScope N_ways_from ["table", "types", "rows", "kinds"] (defScope s_ways_from) := ⟨rfl, rfl, rfl, by decide +kernel, rfl, by decide +kernel, by decide +kernel⟩
def sp_ways_from (K : Fg) : Sp := fun vs H Q _ => ∃ (T : Tab) (l ks : List Nat) (f : Nat → Nat → Int), AtAll H vs [tabS K T, dat K (dNs l), rowsS K T.nk T.types.length f, dat K (dNs ks)] ∧ T.Ok ∧ (∀ r ∈ l, r < T.types.length) ∧ l.length ≤ 1000 ∧ ks.Nodup ∧ (∀ k ∈ ks, k < T.nk) ∧
  Ret (waysS K T.nk T.types.length T.lots f l ks) H Q
theorem ok_ways_from (T : Bt mg) (D : Df K mg "ways_from" s_ways_from ["table", "types", "rows", "kinds"]) (G_accepted : OkD P w K mg base CX0 1 "accepted" ["table", "request"] (sp_accepted K)) : OkD P w K mg base CX0 2 "ways_from" ["table", "types", "rows", "kinds"] (sp_ways_from K) := by
  refine OkD.of D fun fa fd F => F.ok scways_from (fun vs H Q E ⟨_, _, _, _, h, _⟩ => atLen h) (fun cdv A outer s H vs Q E hr ⟨tb, l, ks, f, h, g, hl, hn, hnd, hks, kk⟩ => ?_)
  obtain ⟨x, y, z, u, rfl, hx, hy, hz, hu⟩ := a4 h
  refine ⟨_, (pss_cons (ps_par3 (i := 4) (j := 5) (l := 6) (by rfl) scways_from.nd rfl rfl rfl (by decide) (by decide) (by decide) rfl rfl rfl (pa_cons (pe_dc (own := [("kind", 7)]) (g := gName 7) (tt := tYes) rfl scways_from.nd (k_pit K (pv 3)) (blkOk_by (N := N_ways_from) (sc := (defScope s_ways_from)) (by decide +kernel)) (fun _ _ _ _ _ => (pg_name (i := 7) scways_from.nd rfl (by first | exact Or.inl rfl | exact Or.inr rfl))) (fun _ _ _ _ _ => pts_nil) (fun _ _ _ _ _ => (pv 7)) (fun _ _ _ _ _ => pe_non)) (pa_cons pe_dnewK (pa_cons (pe_callTy (k_list K) (by rfl) T.b_list (by decide +kernel) (pa_cons (pv 3) pa_nil)) pa_nil))) (by rfl)) (pss_cons (ps_while PassesOwn.never (pt_cmpR (k_neD K hr.units) (pv 6) (pe_lst pa_nil) (nomark _)) (pss_cons (ps_set (i := 7) scways_from.nd rfl (by first | exact Or.inl rfl | exact Or.inr rfl) (pe_bm PySem.F.plainAttrs_list PySem.F.slot_list_pop PySem.F.type_list_pop mt_popAt (pv 6) (pa_cons pe_int pa_nil))) (pss_one (ps_for PassesOwn.never rfl (k_pit K (pv 1)) (pg_name (i := 8) scways_from.nd rfl (by first | exact Or.inl rfl | exact Or.inr rfl)) (pss_one (ps_if (PW.pt (pw_and (pt_cmp (pc_dnotin (hu_of hr) (pv 8) (pv 5))) (pw_and1 (pt_cmpR (k_in K) (pv 7) (pe_d G_accepted hr (pa_cons (pv 0) (pa_cons (pv 8) pa_nil))) (by rfl))))) (pss_cons (ps_dput (hu_of hr) (pv 5) (pv 8) (pv 7) rfl) (pss_one (ps_for PassesOwn.never rfl (k_enumA K (by rfl) T.b_enumerate (pa_cons (pe_ix (k_ix K) (pv 2) (pv 8) (fun _ _ => rfl)) pa_nil)) (k_pgt K (n := 2) rfl (pgs_cons (pg_name (i := 9) scways_from.nd rfl (by first | exact Or.inl rfl | exact Or.inr rfl)) (pgs_cons (pg_name (i := 10) scways_from.nd rfl (by first | exact Or.inl rfl | exact Or.inr rfl)) pgs_nil))) (pss_one (ps_if (PW.pt (pw_and (pt_cmpR op_gt (pv 10) pe_int (nomark _)) (pw_and1 (pt_cmp (pc_dnotin (hu_of hr) (pv 9) (pv 4)))))) (pss_cons (ps_dput (hu_of hr) (pv 4) (pv 9) (pv 8) rfl) (pss_one (ps_expr (pe_bm PySem.F.plainAttrs_list PySem.F.slot_list_append PySem.F.type_list_append mt_append (pv 6) (pa_cons (pv 9) pa_nil))))) pss_nil))))) pss_nil)))))) (pss_one (ps_ret (pe_tup (pa_cons (pv 4) (pa_cons (pv 5) pa_nil))))))), ?_⟩
  have hnk := g.nk
  have hkl : ks.length ≤ 8 := Nat.le_trans (nodup_len ks tb.nk hnd hks) hnk
  have eu : EvS (tVar 3) (L2.start N_ways_from [x, y, z, u]) H (dat K (dNs ks)) := e_var (v := u) rfl hu
  refine q_par3F (f_dc (K := K) (j := 7) (vs := [7]) eu hnd (by omega) (fun _ => rfl) (fun _ => rfl)) f_dnew (f_listT (K := K) (ns := ks.map fun n : Nat => (n : Int)) (EvS.cast eu (by rw [dNs_eq]))) fun d1 d2 wl H3 n1 n2' n3' h12 h13 h23 e3 k1 k2 k3 => ?_
  have hw0 : HW H d1 d2 wl ⟨ks.map fun k => (k, none), [], ks⟩ H3 := ⟨e3, n1, n2', n3', h12, h13, h23, k1, k2, by rw [k3, List.map_map]; rfl⟩
  obtain ⟨rp, rs, hR⟩ := hz
  refine q_whileW (b := fun _ _ _ => True) (fun m σ' H' => ∃ st : Ws, m = tb.nk + st.wt.length - st.tk.length ∧ WI tb.nk tb.lots f l ks tb.nk tb.types.length st ∧ st.wt.length ≤ st.tk.length ∧ Sl 11 [x, y, z, u, .ref d1, .ref d2, .ref wl] σ' ∧ HW H d1 d2 wl st H') _ ⟨_, rfl, WI.start hnd hks, by rw [List.length_map]; exact Nat.le_refl _, ⟨rfl, fun i v e => ?_⟩, hw0⟩ ?_
  · match i, e with
    | 0, e => exact congrArg some e
    | 1, e => exact congrArg some e
    | 2, e => exact congrArg some e
    | 3, e => exact congrArg some e
    | 4, e => exact congrArg some e
    | 5, e => exact congrArg some e
    | 6, e => exact congrArg some e
    | i + 7, e => cases e
  rintro m σ' H' ⟨st, rfl, wi, hwl, sl, hw⟩
  have ewl : EvS (tVar 6) σ' H' (lstS K (st.wt.map dN)) := sl.var (v := .ref wl) rfl ⟨wl, _, rfl, hw.w, wtV_dN _⟩
  refine ⟨_, t_test (e_neNil ewl), fun hb H4 e4 => ?_, fun hb H4 e4 => ?_⟩
  · -- one kind
    cases hwt : st.wt with
    | nil => rw [hwt] at hb; cases hb
    | cons k wt =>
      obtain ⟨wiK, hkk⟩ := wi.pop hwt
      obtain ⟨wi', hm⟩ := popS_ok (fun r hr => Nat.ne_of_lt (hl r hr)) wi hwt
      have hw4 := hw.mono e4
      have hkw := hw4.w
      rw [hwt] at hkw
      refine q_pop0 (sl.at_ 6 _ rfl) hkw rfl ?_
      have hw6 : HW H d1 d2 wl ⟨st.tk, st.tt, wt⟩ (upd H4 wl (.lst (wtV wt))) := hw4.setW
      have sl7 : Sl 11 [x, y, z, u, .ref d1, .ref d2, .ref wl] (σ'.set 7 (some (.int (k : Int)))) := sl.set (Nat.le_refl _)
      have hk7 : (σ'.set 7 (some (V.int (k : Int))))[7]? = some (some (.int (k : Int))) := sl_same sl.len (by decide)
      have hy1 : (dat K (dNs l)).P y (upd H4 wl (.lst (wtV wt))) := (dat K (dNs l)).up _ _ _ hw6.ex hy
      refine s_forT (sl7.var (v := y) rfl hy1) fun H7 e7 => ⟨fun i σ8 H8 => Sl 11 [x, y, z, u, .ref d1, .ref d2, .ref wl] σ8 ∧ σ8[7]? = some (some (.int (k : Int))) ∧ HW H d1 d2 wl ((l.take i).foldl (rqS tb.nk tb.lots f k) ⟨st.tk, st.tt, wt⟩) H8 ∧ Gt K H7 H8, ⟨sl7, hk7, by rw [List.take_zero]; exact hw6.mono e7, fun _ _ q => q⟩, fun i σ8 H8 q => q.2.2.2, ?_, ?_⟩
      · rintro i d v8 σ8 H8 hd pv ⟨sl8, hk8, hw8, gt8⟩
        rw [List.getElem?_map] at hd
        cases hri : l[i]? with
        | none => rw [hri] at hd; cases hd
        | some r =>
          rw [hri] at hd
          have hd := Option.some.inj hd
          subst hd
          have pv := pv.int_inv
          subst pv
          have hrl : r ∈ l := List.mem_of_getElem? hri
          have hrt := hl r hrl
          have tk1 : l.take (i + 1) = l.take i ++ [r] := by rw [List.take_add_one, hri]; rfl
          have hst : (l.take (i + 1)).foldl (rqS tb.nk tb.lots f k) ⟨st.tk, st.tt, wt⟩ = rqS tb.nk tb.lots f k ((l.take i).foldl (rqS tb.nk tb.lots f k) ⟨st.tk, st.tt, wt⟩) r := by rw [tk1, List.foldl_append]; rfl
          generalize hst8 : (l.take i).foldl (rqS tb.nk tb.lots f k) ⟨st.tk, st.tt, wt⟩ = s8 at hw8 hst
          show tIfS _ _ _ _ (σ8.set 8 (some (.int (r : Int)))) H8
          have sl9 : Sl 11 [x, y, z, u, .ref d1, .ref d2, .ref wl] (σ8.set 8 (some (.int (r : Int)))) := sl8.set (show 7 ≤ 8 by decide)
          have hk9 : (σ8.set 8 (some (V.int (r : Int))))[7]? = some (some (.int (k : Int))) := sl_ne (by decide) hk8
          have hr9 : (σ8.set 8 (some (V.int (r : Int))))[8]? = some (some (.int (r : Int))) := sl_same sl8.len (by decide)
          have ed2 : EvS (tVar 5) (σ8.set 8 (some (.int (r : Int)))) H8 (dicS (kvT s8.tt)) := sl9.var (v := .ref d2) rfl ⟨d2, rfl, hw8.t⟩
          have hx8 : (tabS K tb).P x H8 := (tabS K tb).up _ _ _ hw8.ex hx
          refine s_when (b := !decide (r ∈ kyT s8.tt) && (tb.lots.getD r []).contains k) (t_and ((t_B (e_dnotin (e_var (v := .int (r : Int)) (s := intS r) hr9 rfl) ed2)).to (by rw [valV_kvT])) fun _ => t_test (e_inN (e_var (v := .int (k : Int)) hk9 rfl) (e_call (a_cons (sl9.var (v := x) rfl hx8) (a_cons (e_var (v := .int (r : Int)) (s := intS r) hr9 rfl) a_nil)) fun vs H2 p Q q => ⟨tb, r, p, hrt, q⟩))) (fun hc H9 e9 => ?_) (fun hc H9 e9 => ?_)
          · rw [Bool.and_eq_true, Bool.not_eq_true', decide_eq_false_iff_not, List.contains_iff_mem] at hc
            have hw9 := hw8.mono e9
            have hfold := foldRq (fun r hr => Nat.ne_of_lt (hl r hr)) (l.take i) _ (fun r hr => List.mem_of_mem_take hr) wiK hkk
            rw [hst8] at hfold
            obtain ⟨wi8, _, hk8m, hlen8, _⟩ := hfold
            have g12 := g.nt
            refine q_dput hw9.t (by
              unfold kvT
              rw [List.length_map]
              exact Nat.lt_of_le_of_lt (Nat.le_trans (wi8.tt_len hl) g12) (by decide)) (sl9.var (v := .ref d2) rfl rfl) (e_var (v := .int (r : Int)) (s := intS r) hr9 rfl) (e_var (v := .int (k : Int)) (s := vS (.int k)) hk9 rfl) fun H10 e10 => ?_
            rw [putK_kvT hc.1]
            have hw10 : HW H d1 d2 wl ⟨s8.tk, s8.tt ++ [(r, k)], s8.wt⟩ (upd H10 d2 (.dK (kvT (s8.tt ++ [(r, k)])))) := (hw9.mono e10).setT
            have hRr : rs[r]? = some (rs[r]'(by rw [hR.len]; exact hrt)) := List.getElem?_eq_getElem _
            have hrow : SqA K H (rs[r]'(by rw [hR.len]; exact hrt)) (rowV tb.nk (f r)) := hR.row r _ hRr
            generalize (rs[r]'(by rw [hR.len]; exact hrt)) = ra at hRr hrow
            generalize hH11 : upd H10 d2 (.dK (kvT (s8.tt ++ [(r, k)]))) = H11 at hw10
            have gt11 : Gt K H7 H11 := fun a xs q => by
              rw [← hH11]
              exact Gt.upd (by rw [e10 _ _ hw9.t]; trivial) a xs (Evl.ex_t e10 (Evl.ex_t e9 (gt8 a xs q)))
            -- the state that this type starts with
            have wi0 : WI tb.nk tb.lots f l ks k r ⟨s8.tk, s8.tt ++ [(r, k)], s8.wt⟩ ∧ r ∈ kyT (s8.tt ++ [(r, k)]) := wi8.addT hc.1 hrl hc.2 (hk8m k hkk) (Nat.ne_of_lt hrt) (fun r hr => Nat.ne_of_lt (hl r hr))
            obtain ⟨wi0, hrin⟩ := wi0
            refine s_forE (K := K) (xs := rowV tb.nk (f r)) (a := ra) (e_row (hR.ex hw10.ex) (sl9.var (v := z) (s := vS z) rfl rfl) (e_var (v := .int (r : Int)) (s := intS r) hr9 rfl) hRr)
              (fun j σ9 H12 => Sl 11 [x, y, z, u, .ref d1, .ref d2, .ref wl] σ9 ∧ σ9[7]? = some (some (.int (k : Int))) ∧ σ9[8]? = some (some (.int (r : Int))) ∧ HW H d1 d2 wl ((List.range j).foldl (inS (f r) r) ⟨s8.tk, s8.tt ++ [(r, k)], s8.wt⟩) H12 ∧ Gt K H11 H12)
              (hrow.imp (fun q => ⟨Evl.ex_l hw10.ex q, fun j σ9 H12 ⟨_, _, _, q2, _⟩ => Evl.ex_l q2.ex q⟩) fun q => ⟨Evl.ex_t hw10.ex q, fun j σ9 H12 ⟨_, _, _, q2, _⟩ => Evl.ex_t q2.ex q⟩)
              (fun H12 e12 => ⟨sl9, hk9, hr9, hw10.mono e12, Gt.of_ex e12⟩) ?_ ?_
            · rintro j v12 σ9 H12 tp hj ⟨sl12, hk12, hr12, hw12, gt12⟩ hT
              have hjn : j < tb.nk := by
                have := (List.getElem?_eq_some_iff.mp hj).1
                unfold rowV at this
                rw [List.length_map, List.length_range] at this
                exact this
              rw [rowV_at hjn] at hj
              have hj := Option.some.inj hj
              subst hj
              have exT : Ex H12 (upd H12 tp (.tup [.int (j : Int), .int (f r j)])) := Evl.Ex.new hT
              obtain ⟨v1, v2, p1, p2, hgo⟩ := goes_two (i := 9) (j := 10) (σ := σ9) (tp_pair (K := K) hT (.int (j : Int)) (.int (f r j)))
              have p1 := p1.int_inv
              have p2 := p2.int_inv
              subst p1 p2
              refine hgo _ ?_
              have hw13 := hw12.mono exT
              have gt13 : Gt K H11 (upd H12 tp (.tup [.int (j : Int), .int (f r j)])) := fun a xs q => Evl.ex_t exT (gt12 a xs q)
              generalize upd H12 tp (.tup [.int (j : Int), .int (f r j)]) = H13 at hw13 gt13
              have sl13 : Sl 11 [x, y, z, u, .ref d1, .ref d2, .ref wl] ((σ9.set 9 (some (.int (j : Int)))).set 10 (some (.int (f r j)))) := (sl12.set (show 7 ≤ 9 by decide)).set (show 7 ≤ 10 by decide)
              have hk13 : ((σ9.set 9 (some (V.int (j : Int)))).set 10 (some (.int (f r j))))[7]? = some (some (.int (k : Int))) := sl_ne (by decide) (sl_ne (by decide) hk12)
              have hr13 : ((σ9.set 9 (some (V.int (j : Int)))).set 10 (some (.int (f r j))))[8]? = some (some (.int (r : Int))) := sl_ne (by decide) (sl_ne (by decide) hr12)
              have hj13 : ((σ9.set 9 (some (V.int (j : Int)))).set 10 (some (.int (f r j))))[9]? = some (some (.int (j : Int))) := sl_ne (by decide) (sl_same sl12.len (by decide))
              have hf13 : ((σ9.set 9 (some (V.int (j : Int)))).set 10 (some (.int (f r j))))[10]? = some (some (.int (f r j))) := sl_same (n := 11) (by rw [List.length_set]; exact sl12.len) (by decide)
              generalize (σ9.set 9 (some (V.int (j : Int)))).set 10 (some (.int (f r j))) = σ13 at sl13 hk13 hr13 hj13 hf13
              have hfj := foldIn (g := f r) rfl j (by omega) _ wi0 hrin
              have hstj : (List.range (j + 1)).foldl (inS (f r) r) ⟨s8.tk, s8.tt ++ [(r, k)], s8.wt⟩ = inS (f r) r ((List.range j).foldl (inS (f r) r) ⟨s8.tk, s8.tt ++ [(r, k)], s8.wt⟩) j := by rw [List.range_succ, List.foldl_append]; rfl
              generalize (List.range j).foldl (inS (f r) r) ⟨s8.tk, s8.tt ++ [(r, k)], s8.wt⟩ = sj at hw13 hfj hstj
              obtain ⟨wij, _, _, hlenj, _⟩ := hfj
              have edk : EvS (tVar 4) σ13 H13 (dicS (kvK sj.tk)) := sl13.var (v := .ref d1) rfl ⟨d1, rfl, hw13.k⟩
              refine s_when (b := decide (0 < f r j) && !decide (j ∈ kyK sj.tk)) (t_and (t_test (EvS.cast (e_I0 (g := fun a b => .bl (decide (a > b))) (e_var (v := .int (f r j)) hf13 rfl) e_int) rfl)) fun _ => ((t_B (e_dnotin (e_var (v := .int (j : Int)) (s := intS j) hj13 rfl) edk)).to (by rw [valV_kvK]))) (fun hc2 H14 e14 => ?_) (fun hc2 H14 e14 => ?_)
              · rw [Bool.and_eq_true, decide_eq_true_eq, Bool.not_eq_true', decide_eq_false_iff_not] at hc2
                have hw14 := hw13.mono e14
                have hkl := wij.tk_len
                have htkl : sj.tk.length ≤ 8 := Nat.le_trans hkl hnk
                refine q_dput hw14.k (by
                  unfold kvK
                  rw [List.length_map]
                  omega) (sl13.var (v := .ref d1) rfl rfl) (e_var (v := .int (j : Int)) (s := intS j) hj13 rfl) (e_var (v := ov (some r)) (s := vS (ov (some r))) hr13 rfl) fun H15 e15 => ?_
                rw [putK_kvK hc2.2]
                have hw16 : HW H d1 d2 wl ⟨sj.tk ++ [(j, some r)], sj.tt, sj.wt⟩ (upd H15 d1 (.dK (kvK (sj.tk ++ [(j, some r)])))) := (hw14.mono e15).setK
                have gt16 : Gt K H11 (upd H15 d1 (.dK (kvK (sj.tk ++ [(j, some r)])))) := fun a xs q => Gt.upd (by rw [e15 _ _ hw14.k]; trivial) a xs (Evl.ex_t e15 (Evl.ex_t e14 (gt13 a xs q)))
                generalize upd H15 d1 (.dK (kvK (sj.tk ++ [(j, some r)]))) = H16 at hw16 gt16
                refine s_appX (sl13.at_ 6 _ rfl) hj13 hw16.w (by
                  unfold wtV
                  rw [List.length_map]
                  show sj.wt.length < 100000
                  have q1 : sj.wt.length + s8.tk.length = s8.wt.length + sj.tk.length := hlenj
                  have q2 : s8.wt.length + st.tk.length = wt.length + s8.tk.length := hlen8
                  rw [hwt, List.length_cons] at hwl
                  omega) ⟨sl13, hk13, hr13, ?_, fun a xs q => Gt.upd (by rw [hw16.w]; trivial) a xs (gt16 a xs q)⟩
                rw [hstj]
                unfold inS
                rw [if_pos hc2]
                have hw17 := hw16.setW (wt := sj.wt ++ [j])
                have ew : wtV (sj.wt ++ [j]) = wtV sj.wt ++ [.int (j : Int)] := by unfold wtV; rw [List.map_append]; rfl
                rw [ew] at hw17
                exact hw17
              · have hno : ¬ (0 < f r j ∧ j ∉ kyK sj.tk) := fun q => by
                  rw [decide_eq_true q.1, decide_eq_false q.2] at hc2
                  cases hc2
                refine ⟨sl13, hk13, hr13, ?_, fun a xs q => Evl.ex_t e14 (gt13 a xs q)⟩
                rw [hstj]
                unfold inS
                rw [if_neg hno]
                exact hw13.mono e14
            · rintro σ9 H12 ⟨sl12, hk12, hr12, hw12, gt12⟩
              refine ⟨sl12, hk12, ?_, fun a xs q => gt12 a xs (gt11 a xs q)⟩
              show HW H d1 d2 wl ((l.take (i + 1)).foldl (rqS tb.nk tb.lots f k) ⟨st.tk, st.tt, wt⟩) H12
              rw [hst]
              unfold rqS
              rw [if_pos hc]
              have el : (rowV tb.nk (f r)).length = tb.nk := by unfold rowV; rw [List.length_map, List.length_range]
              rw [el] at hw12
              exact hw12
          · have : ¬ (r ∉ kyT s8.tt ∧ k ∈ tb.lots.getD r []) := fun q => by
              rw [decide_eq_false q.1, List.contains_iff_mem.mpr q.2] at hc
              cases hc
            refine ⟨sl9, hk9, ?_, fun a xs q => Evl.ex_t e9 (gt8 a xs q)⟩
            show HW H d1 d2 wl ((l.take (i + 1)).foldl (rqS tb.nk tb.lots f k) ⟨st.tk, st.tt, wt⟩) H9
            rw [hst]
            unfold rqS
            rw [if_neg this]
            exact hw8.mono e9
      · rintro σ8 H8 ⟨sl8, hk8, hw8, gt8⟩
        rw [List.length_map, List.take_length] at hw8
        refine ⟨_, ?_, _, rfl, wi', ?_, sl8, hw8⟩
        rotate_left
        · have q1 := (foldRq (fun r hr => Nat.ne_of_lt (hl r hr)) l _ (fun r hr => hr) wiK hkk).2.2.2.1
          have q1 : (popS tb.nk tb.lots f l k st wt).wt.length + st.tk.length = wt.length + (popS tb.nk tb.lots f l k st wt).tk.length := q1
          rw [hwt, List.length_cons] at hwl
          omega
        rw [hwt] at hm
        exact hm
  · -- nothing waits
    have hnil : st.wt = [] := by
      cases hwt : st.wt with
      | nil => rfl
      | cons a b => rw [hwt] at hb; cases hb
    have hw4 := hw.mono e4
    refine s_ret2 (sl.at_ 4 _ rfl) (sl.at_ 5 _ rfl) fun a ha => kk _ _ (hw4.ex.trans (Evl.Ex.new ha)) ⟨a, d1, d2, st.tk, st.tt, rfl, SqT.of upd_same, (Evl.Ex.new ha) _ _ hw4.k, (Evl.Ex.new ha) _ _ hw4.t, ?_⟩
    unfold Ways
    rw [← hnil]
    exact wi
end
end K45
/-! has_room, way_of, next_way, way_width. -/
namespace K45
open PySem L2 RZ
def dPr (p : Nat × Nat) : PyData := .tuple [.int (p.1 : Int), .int (p.2 : Int)]
/-- whether a type has room -/
def hasR (bl : List (Option Int)) (nk : Nat) (f : Nat → Nat → Int) (r : Nat) : Bool := match bnf bl r with
  | none => true
  | some m => decide (rowS nk f r < m)
theorem bnf_get {bl : List (Option Int)} {r : Nat} (h : r < bl.length) : (bl.map dO)[r]? = some (dO (bnf bl r)) := by
  rw [List.getElem?_map, List.getElem?_eq_getElem h]
  unfold bnf
  rw [List.getD_eq_getElem?_getD, List.getElem?_eq_getElem h]
  rfl
theorem k_revL {X : Cx} (K : Fg) {e : Expr} {te : TE} {k : Nat} {p1 p2 p3 pos : Pos} (he : PE X e te) (hK : X.K = K := by rfl) : PE X (.Subscript e (.Slice none none (some (.UnaryOp .USub (.Constant (.int 1) k p1) p2)) p3) pos) (tRevL K te) := hK ▸ pe_revL he
section
variable {K : Fg} {σ : L2.St} {H : Hp} {te : TE}
theorem e_revL {ds : List PyData} (h : EvS te σ H (lstS K ds)) : EvS (tRevL K te) σ H (lstS K ds.reverse) := fun H1 e Q q =>
  h H1 e _ fun v H2 e2 ⟨a, xs, ev, h1, h2⟩ => ⟨a, xs, ev, SqL.of h1, fun p hp => q _ _ (e2.trans (Evl.Ex.new hp)) ⟨p, _, rfl, upd_same, (h2.mono (Gt.of_ex (Evl.Ex.new hp))).rev⟩⟩
end
theorem RowsAt.get {K : Fg} {nk nt : Nat} {f : Nat → Nat → Int} {v : V} {p : Addr} {rs : List Addr} {H : Hp} (h : RowsAt K nk nt f v p rs H) {r : Nat} (hr : r < nt) : ∃ a, rs[r]? = some a ∧ SqA K H a (rowV nk (f r)) := by
  have hl : r < rs.length := by rw [h.len]; exact hr
  exact ⟨rs[r], List.getElem?_eq_getElem hl, h.row r _ (List.getElem?_eq_getElem hl)⟩
section
variable {P : Program} {w : World} {K : Fg} {mg : Str → Option Value} {base : Heap}
abbrev s_has_room : Stmt := topS 28
abbrev N_has_room : List Str := ["bounds", "rows", "request"]
theorem schas_room : FnScope N_has_room ["bounds", "rows", "request"] (defScope s_has_room) := ⟨rfl, rfl, rfl, by decide +kernel, rfl, by decide +kernel, by decide +kernel⟩
def sp_has_room (K : Fg) : Sp := fun vs H Q _ => ∃ (bl : List (Option Int)) (nk nt r : Nat) (f : Nat → Nat → Int), AtAll H vs [dat K (dOs bl), rowsS K nk nt f, intS (r : Int)] ∧ r < nt ∧ bl.length = nt ∧ Ret (blS (hasR bl nk f r)) H Q
theorem ok_has_room (T : Bt mg) (D : Df K mg "has_room" s_has_room ["bounds", "rows", "request"]) : OkD P w K mg base CX0 1 "has_room" ["bounds", "rows", "request"] (sp_has_room K) := by
  refine OkD.of D fun fa fd F => F.ok schas_room (fun vs H Q E ⟨_, _, _, _, _, h, _⟩ => atLen h) (fun cdv A outer s H vs Q E hr ⟨bl, nk, nt, r, f, h, hrt, hbl, kk⟩ => ?_)
  obtain ⟨x, y, z, rfl, hx, ⟨p, rs, hR⟩, hz⟩ := a3 h
  obtain ⟨a, ha, hrow⟩ := hR.get hrt
  refine ⟨_, (pss_one (ps_ret (pe_or (pe_cmp (pc_isN (pe_ix (k_ix K) (pv 0) (pv 2) (fun _ _ => rfl))) rfl) (pe_one (pe_cmpR op_lt (pe_callB (k_sumA K) (by rfl) T.b_sum (by decide +kernel) (pa_cons (pe_ix (k_ix K) (pv 1) (pv 2) (fun _ _ => rfl)) pa_nil)) (pe_ix (k_ix K) (pv 0) (pv 2) (fun _ _ => rfl)) (nomark _)))))), s_retR ?_ kk⟩
  have er : EvS (tVar 2) (L2.start N_has_room [x, y, z]) H (intS (r : Int)) := e_var (v := z) rfl hz
  have eb : EvS (tOp (rIx K) (tVar 0) (tVar 2)) (L2.start N_has_room [x, y, z]) H (dat K (dO (bnf bl r))) := e_ixT (e_var (v := x) rfl hx) er (bnf_get (by rw [hbl]; exact hrt))
  have es : EvS (tCB (rSumA K) (tCons (tOp (rIx K) (tVar 1) (tVar 2)) tNil)) (L2.start N_has_room [x, y, z]) H (intS (rowS nk f r)) := e_sumRow hrow (e_row hR (e_var (v := y) (s := vS y) rfl rfl) er ha)
  unfold hasR
  cases hb : bnf bl r with
  | none =>
    rw [hb] at eb
    exact e_orV (a := true) (b := true) (e_isN eb) fun z => by cases z
  | some m =>
    rw [hb] at eb
    exact e_orV (a := false) (e_isN eb) fun _ => e_I0 (g := fun a b => .bl (decide (a < b))) es eb.toI
abbrev s_way_of : Stmt := topS 31
abbrev N_way_of : List Str := ["to_kinds", "to_types", "end", "found", "request"]
theorem scway_of : FnScope N_way_of ["to_kinds", "to_types", "end"] (defScope s_way_of) := ⟨rfl, rfl, rfl, by decide +kernel, rfl, by decide +kernel, by decide +kernel⟩
def sp_way_of (K : Fg) : Sp := fun vs H Q _ => ∃ (tk : List (Nat × Option Nat)) (tt : List (Nat × Nat)) (r : Nat) (wy : List (Nat × Nat)), AtAll H vs [dicS (kvK tk), dicS (kvT tt), intS (r : Int)] ∧ (kyK tk).Nodup ∧ (kyT tt).Nodup ∧ Wy tk tt r wy ∧ wy.length ≤ 100 ∧ Ret (lstS K (wy.map dPr)) H Q
theorem ok_way_of (T : Bt mg) (D : Df K mg "way_of" s_way_of ["to_kinds", "to_types", "end"]) : OkD P w K mg base CX0 1 "way_of" ["to_kinds", "to_types", "end"] (sp_way_of K) := by
  refine OkD.of D fun fa fd F => F.ok scway_of (fun vs H Q E ⟨_, _, _, _, h, _⟩ => atLen h) (fun cdv A outer s H vs Q E hr ⟨tk, tt, r, wy, h, ndk, ndt, hwy, hlen, kk⟩ => ?_)
  obtain ⟨x, y, z, rfl, hx, hy, hz⟩ := a3 h
  refine ⟨_, (pss_cons (ps_par (i := 3) (j := 4) (by rfl) scway_of.nd rfl rfl (by decide) rfl rfl (pa_cons (pe_lst pa_nil) (pa_cons (pv 2) pa_nil)) (by rfl)) (pss_cons (ps_while PassesOwn.never (pt_cmp (pc_notN (pv 4)) rfl) (pss_cons (ps_expr (pe_bm PySem.F.plainAttrs_list PySem.F.slot_list_append PySem.F.type_list_append mt_append (pv 3) (pa_cons (pe_tup (pa_cons (pe_dget (hu_of hr) (pv 1) (pv 4) (fun _ _ => rfl)) (pa_cons (pv 4) pa_nil))) pa_nil))) (pss_one (ps_set (i := 4) scway_of.nd rfl (by first | exact Or.inl rfl | exact Or.inr rfl) (pe_dget (hu_of hr) (pv 0) (pe_dget (hu_of hr) (pv 1) (pv 4) (fun _ _ => rfl)) (fun _ _ => rfl)))))) (pss_one (ps_ret (k_revL K (pv 3)))))), ?_⟩
  refine q_parF (s := intS (r : Int)) f_lst0 (e_var (v := z) rfl hz) fun fo v1 H1 n1 e1 k1 p1 => ?_
  have p1 : v1 = .int (r : Int) := p1
  subst p1
  refine q_whileW (b := fun _ _ _ => True) (fun m σ' H' => ∃ (rq : Option Nat) (w1 fd : List (Nat × Nat)) (xs : List V), m = w1.length ∧ (match rq with | none => w1 = [] | some q => Wy tk tt q w1) ∧ wy = w1 ++ fd.reverse ∧ Sl 5 [x, y, z, .ref fo] σ' ∧ σ'[4]? = some (some (ov rq)) ∧ H' fo = some (.lst xs) ∧ TpAll K H' xs (fd.map dPr) ∧ Ex H H') _
    ⟨some r, wy, [], [], rfl, hwy, by simp, ⟨rfl, fun i v e => ?_⟩, rfl, k1, .nil, e1⟩ ?_
  · match i, e with
    | 0, e => exact congrArg some e
    | 1, e => exact congrArg some e
    | 2, e => exact congrArg some e
    | 3, e => exact congrArg some e
    | i + 4, e => cases e
  rintro m σ' H' ⟨rq, w1, fdl, xs, rfl, hq, hwe, sl, h4, hfo, hxs, ex⟩
  cases rq with
  | none =>
    refine ⟨false, t_test (EvS.cast (e_notN (d := .none) (e_var (s := dat K .none) h4 .non)) rfl), (fun hb => by cases hb), fun _ H2 e2 => ?_⟩
    have hq : w1 = [] := hq
    rw [hq, List.nil_append] at hwe
    refine s_retR (EvS.cast (e_revL (K := K) (ds := fdl.map dPr) (sl.var (v := .ref fo) rfl ⟨fo, xs, rfl, e2 _ _ hfo, hxs.mono (Gt.of_ex e2)⟩)) ?_) (kk.of (ex.trans e2))
    rw [← List.map_reverse, ← hwe]
  | some q =>
    refine ⟨true, t_test (EvS.cast (e_notN (d := .int (q : Int)) (e_var (s := dat K (.int (q : Int))) h4 (.int _))) rfl), (fun _ H2 e2 => ?_), fun hb => by cases hb⟩
    have hq : Wy tk tt q w1 := hq
    -- what stands there
    obtain ⟨k, o, w2, hm1, hm2, hw1, hnext⟩ : ∃ (k : Nat) (o : Option Nat) (w2 : List (Nat × Nat)), (q, k) ∈ tt ∧ (k, o) ∈ tk ∧ w1 = w2 ++ [(k, q)] ∧ (match o with | none => w2 = [] | some q' => Wy tk tt q' w2) := by
      cases hq with
      | base h1 h2 => exact ⟨_, none, [], h1, h2, rfl, rfl⟩
      | step h1 h2 h3 => exact ⟨_, some _, _, h1, h2, rfl, h3⟩
    have hy2 : (dicS (kvT tt)).P y H2 := (dicS (kvT tt)).up _ _ _ (ex.trans e2) hy
    have ek : EvS (tDGet (tVar 1) (tVar 4)) σ' H2 (vS (.int (k : Int))) := e_dget (sl.var (v := y) rfl hy2) (e_var (v := .int (q : Int)) (s := intS q) h4 rfl) (valV_at (fun p : Nat × Nat => p.1) (fun p => .int (p.2 : Int)) tt (q, k) ndt hm1)
    have hlx : (fdl.map dPr).length < 100000 := by
      have h1 : wy.length = w1.length + fdl.length := by rw [hwe, List.length_append, List.length_reverse]
      rw [List.length_map]
      omega
    refine q_app (K := K) (d := dPr (k, q)) (e2 _ _ hfo) (hxs.mono (Gt.of_ex e2)) (sl.var (v := .ref fo) (s := vS (.ref fo)) rfl rfl) (e_tup (ds := [.int (k : Int), .int (q : Int)]) (a_cons ek.toD (a_cons (e_var (v := .int (q : Int)) (s := dat K (.int (q : Int))) h4 (.int _)) a_nil)) (by show 2 ≤ 1000; decide)) hlx fun w3 H3 e3 h3 => ?_
    have e3' : Ex H (upd H3 fo (.lst (xs ++ [w3]))) := Evl.Ex.mut ((ex.trans e2).trans e3) n1
    have hx3 : (dicS (kvK tk)).P x (upd H3 fo (.lst (xs ++ [w3]))) := (dicS (kvK tk)).up _ _ _ e3' hx
    have hy3 : (dicS (kvT tt)).P y (upd H3 fo (.lst (xs ++ [w3]))) := (dicS (kvT tt)).up _ _ _ e3' hy
    refine s_set (e_dget (w := ov o) (sl.var (v := x) rfl hx3) (e_dget (w := .int (k : Int)) (sl.var (v := y) rfl hy3) (e_var (v := .int (q : Int)) (s := intS q) h4 rfl) (valV_at (fun p : Nat × Nat => p.1) (fun p => .int (p.2 : Int)) tt (q, k) ndt hm1)) (valV_at (fun p : Nat × Option Nat => p.1) (fun p => ov p.2) tk (k, o) ndk hm2)) fun v4 H4 e4 p4 => ?_
    have p4 : v4 = ov o := p4
    subst p4
    refine ⟨w2.length, by rw [hw1, List.length_append, List.length_singleton]; omega, o, w2, fdl ++ [(k, q)], xs ++ [w3], rfl, hnext, ?_, sl.set (Nat.le_refl _), sl_same sl.len (by decide), e4 _ _ upd_same, ?_, e3'.trans e4⟩
    · rw [hwe, hw1, List.reverse_append, List.append_assoc]
      rfl
    · rw [List.map_append]
      exact h3.mono (Gt.of_ex e4)
/-- what next_way tells -/
def nextS (K : Fg) (nk nt : Nat) (lots : List (List Nat)) (S : Nat → Int) (bl : List (Option Int)) (f : Nat → Nat → Int) (l : List Nat) : Sh := ⟨fun v H => (v = .non ∧ ∀ r, RT nk nt (accL lots) S (isIn l) f r → hasR bl nk f r = false) ∨
    ∃ (wy : List (Nat × Nat)) (r : Nat) (tk : List (Nat × Option Nat)), (lstS K (wy.map dPr)).P v H ∧ WyIs nk nt lots f l (opn nk nt lots S f l) tk r wy ∧ hasR bl nk f r = true ∧ wy.length ≤ nk,
  fun _ _ _ e h => h.imp id fun ⟨wy, r, tk, h1, h2⟩ => ⟨wy, r, tk, Sh.up _ _ _ _ e h1, h2⟩⟩
theorem waysS.two {K : Fg} {nk nt : Nat} {lots : List (List Nat)} {f : Nat → Nat → Int} {l ks : List Nat} {v : V} {H : Hp} {i j : Nat} {σ : L2.St} (h : (waysS K nk nt lots f l ks).P v H) :
    ∃ d1 d2 tk tt, H d1 = some (.dK (kvK tk)) ∧ H d2 = some (.dK (kvT tt)) ∧ Ways nk nt lots f l ks tk tt ∧ Goes (gTup K 2 (gCons (gName i) (gCons (gName j) gNil))) v σ H ((σ.set i (some (.ref d1))).set j (some (.ref d2))) := by
  obtain ⟨a, d1, d2, tk, tt, rfl, hq, h1, h2, h3⟩ := h
  exact ⟨d1, d2, tk, tt, h1, h2, h3, fun Q q => ⟨a, _, rfl, hq, rfl, .ref d1, [.ref d2], rfl, .ref d2, [], rfl, rfl, q⟩⟩
abbrev s_next_way : Stmt := topS 32
abbrev N_next_way : List Str := ["table", "bounds", "types", "rows", "left", "to_kinds", "to_types", "request"]
theorem scnext_way : FnScope N_next_way ["table", "bounds", "types", "rows", "left"] (defScope s_next_way) := ⟨rfl, rfl, rfl, by decide +kernel, rfl, by decide +kernel, by decide +kernel⟩
def sp_next_way (K : Fg) : Sp := fun vs H Q _ => ∃ (T : Tab) (bl : List (Option Int)) (l : List Nat) (S : Nat → Int) (f : Nat → Nat → Int), AtAll H vs [tabS K T, dat K (dOs bl), dat K (dNs l), rowsS K T.nk T.types.length f, lstS K ((List.range T.nk).map fun k => .int (S k - colS T.types.length f k))] ∧
  T.Ok ∧ (∀ r ∈ l, r < T.types.length) ∧ l.length ≤ 1000 ∧ bl.length = T.types.length ∧ Tk T.nk T.types.length (accL T.lots) S (bnf bl) (isIn l) f ∧ Ret (nextS K T.nk T.types.length T.lots S bl f l) H Q
theorem ok_next_way (T : Bt mg) (D : Df K mg "next_way" s_next_way ["table", "bounds", "types", "rows", "left"]) (G_open_kinds : OkD P w K mg base CX0 3 "open_kinds" ["table", "types", "left"] (sp_open_kinds K))
    (G_ways_from : OkD P w K mg base CX0 2 "ways_from" ["table", "types", "rows", "kinds"] (sp_ways_from K)) (G_has_room : OkD P w K mg base CX0 1 "has_room" ["bounds", "rows", "request"] (sp_has_room K)) (G_way_of : OkD P w K mg base CX0 1 "way_of" ["to_kinds", "to_types", "end"] (sp_way_of K)) :
    OkD P w K mg base CX0 4 "next_way" ["table", "bounds", "types", "rows", "left"] (sp_next_way K) := by
  refine OkD.of D fun fa fd F => F.ok scnext_way (fun vs H Q E ⟨_, _, _, _, _, h, _⟩ => atLen h) (fun cdv A outer s H vs Q E hr ⟨tb, bl, l, S, f, h, g, hl, hn, hbl, htk, kk⟩ => ?_)
  obtain ⟨x, y, z, u, q, rfl, hx, hy, hz, hu, hq⟩ := a5 h
  refine ⟨_, (pss_cons (ps_asg (pe_d G_ways_from hr (pa_cons (pv 0) (pa_cons (pv 2) (pa_cons (pv 3) (pa_cons (pe_d G_open_kinds hr (pa_cons (pv 0) (pa_cons (pv 2) (pa_cons (pv 4) pa_nil)))) pa_nil))))) (k_pgt K (n := 2) rfl (pgs_cons (pg_name (i := 5) scnext_way.nd rfl (by first | exact Or.inl rfl | exact Or.inr rfl)) (pgs_cons (pg_name (i := 6) scnext_way.nd rfl (by first | exact Or.inl rfl | exact Or.inr rfl)) pgs_nil)))) (pss_cons (ps_for PassesOwn.never rfl (k_pit K (pv 2)) (pg_name (i := 7) scnext_way.nd rfl (by first | exact Or.inl rfl | exact Or.inr rfl)) (pss_one (ps_if (PW.pt (pw_and (pt_cmp (pc_din (hu_of hr) (pv 7) (pv 6))) (pw_and1 (pt_val (pe_d G_has_room hr (pa_cons (pv 1) (pa_cons (pv 3) (pa_cons (pv 7) pa_nil)))))))) (pss_one (ps_ret (pe_d G_way_of hr (pa_cons (pv 5) (pa_cons (pv 6) (pa_cons (pv 7) pa_nil)))))) pss_nil))) (pss_one (ps_ret pe_non)))), ?_⟩
  have hnk := g.nk
  have ex0 : ∀ {H' : Hp}, Ex H H' → (tabS K tb).P x H' := fun e => (tabS K tb).up _ _ _ e hx
  have eW : EvS (tCall (sp_ways_from K) [] E0 (tCons (tVar 0) (tCons (tVar 2) (tCons (tVar 3) (tCons (tCall (sp_open_kinds K) [] E0 (tCons (tVar 0) (tCons (tVar 2) (tCons (tVar 4) tNil)))) tNil))))) (L2.start N_next_way [x, y, z, u, q]) H (waysS K tb.nk tb.types.length tb.lots f l (opn tb.nk tb.types.length tb.lots S f l)) :=
    e_call (a_cons (e_var (v := x) rfl hx) (a_cons (e_var (v := z) rfl hz) (a_cons (e_var (v := u) rfl hu) (a_cons (e_call (a_cons (e_var (v := x) rfl hx) (a_cons (e_var (v := z) rfl hz) (a_cons (e_var (v := q) rfl hq) a_nil))) fun vs H1 p Q q => ⟨tb, l, _, p, g, hl, hn, q⟩) a_nil)))) fun vs H1 p Q q => ⟨tb, l, _, f, p, g, hl, hn, opn_nodup, fun k hk => opn_lt hk, q⟩
  refine eW H (Evl.Ex.refl H) _ fun v1 H1 e1 pv => ?_
  obtain ⟨d1, d2, tk, tt, k1, k2, hW, hgo⟩ := waysS.two (i := 5) (j := 6) (σ := L2.start N_next_way [x, y, z, u, q]) pv
  refine hgo _ ?_
  have hz1 : (dat K (dNs l)).P z H1 := (dat K (dNs l)).up _ _ _ e1 hz
  have sl0 : Sl 8 [x, y, z, u, q, .ref d1, .ref d2] (((L2.start N_next_way [x, y, z, u, q]).set 5 (some (.ref d1))).set 6 (some (.ref d2))) := ⟨rfl, fun i v e => by
    match i, e with
    | 0, e => exact congrArg some e
    | 1, e => exact congrArg some e
    | 2, e => exact congrArg some e
    | 3, e => exact congrArg some e
    | 4, e => exact congrArg some e
    | 5, e => exact congrArg some e
    | 6, e => exact congrArg some e
    | i + 7, e => cases e⟩
  refine q_for (s_forT (sl0.var (v := z) rfl hz1) fun H2 e2 => ⟨fun i σ' H' => Sl 8 [x, y, z, u, q, .ref d1, .ref d2] σ' ∧ Ex H1 H' ∧ Ex H2 H' ∧ ∀ r ∈ l.take i, r ∈ kyT tt → hasR bl tb.nk f r = false, ⟨sl0, e2, Evl.Ex.refl _, fun r hr => by rw [List.take_zero] at hr; cases hr⟩, fun i σ' H' q => Gt.of_ex q.2.2.1, ?_, ?_⟩)
  · rintro i d v σ' H' hd pv ⟨sl, e1', e2', hno⟩
    rw [List.getElem?_map] at hd
    cases hri : l[i]? with
    | none => rw [hri] at hd; cases hd
    | some r =>
      rw [hri] at hd
      have hd := Option.some.inj hd
      subst hd
      have pv := pv.int_inv
      subst pv
      have hrl : r ∈ l := List.mem_of_getElem? hri
      have hrt := hl r hrl
      have tk1 : l.take (i + 1) = l.take i ++ [r] := by rw [List.take_add_one, hri]; rfl
      show tIfS _ _ _ _ (σ'.set 7 (some (.int (r : Int)))) H'
      have slr : Sl 8 [x, y, z, u, q, .ref d1, .ref d2] (σ'.set 7 (some (.int (r : Int)))) := sl.set (Nat.le_refl _)
      have hr7 : (σ'.set 7 (some (V.int (r : Int))))[7]? = some (some (.int (r : Int))) := sl_same sl.len (by decide)
      have exH : Ex H H' := e1.trans e1'
      have ed2 : EvS (tVar 6) (σ'.set 7 (some (.int (r : Int)))) H' (dicS (kvT tt)) := slr.var (v := .ref d2) rfl ⟨d2, rfl, e1' _ _ k2⟩
      have ed1 : EvS (tVar 5) (σ'.set 7 (some (.int (r : Int)))) H' (dicS (kvK tk)) := slr.var (v := .ref d1) rfl ⟨d1, rfl, e1' _ _ k1⟩
      have err : EvS (tVar 7) (σ'.set 7 (some (.int (r : Int)))) H' (intS (r : Int)) := e_var (v := .int (r : Int)) hr7 rfl
      refine s_when (b := decide (r ∈ kyT tt) && hasR bl tb.nk f r) (t_and ((t_B (e_din err ed2)).to (by rw [valV_kvT])) fun _ => t_B (e_call (a_cons (slr.var (v := y) rfl ((dat K (dOs bl)).up _ _ _ exH hy)) (a_cons (slr.var (v := u) rfl ((rowsS K _ _ f).up _ _ _ exH hu)) (a_cons err a_nil))) fun vs H2 p Q q => ⟨bl, tb.nk, tb.types.length, r, f, p, hrt, hbl, q⟩)) (fun hc H3 e3 => ?_) (fun hc H3 e3 => ?_)
      · rw [Bool.and_eq_true, decide_eq_true_eq] at hc
        obtain ⟨wy, hwy, hlen⟩ := hW.wy hc.1
        refine s_retR (s := nextS K tb.nk tb.types.length tb.lots S bl f l) (EvS.to (s := lstS K (wy.map dPr)) (EvS.mono e3 (e_call (a_cons ed1 (a_cons ed2 (a_cons err a_nil))) fun vs H2 p Q q => ⟨tk, tt, r, wy, p, hW.nd, hW.td, hwy, by omega, q⟩)) fun v H' p => Or.inr ⟨wy, r, tk, p, (hW.wy_is hl hwy).1, hc.2, hlen⟩) (kk.of (exH.trans e3))
      · refine ⟨slr, e1'.trans e3, e2'.trans e3, fun r' hr' hk' => ?_⟩
        have hr' : r' ∈ l.take (i + 1) := hr'
        rw [tk1] at hr'
        rcases List.mem_append.mp hr' with q | q
        · exact hno r' q hk'
        · rw [List.mem_singleton] at q
          subst q
          rw [decide_eq_true hk', Bool.true_and] at hc
          exact hc
  · rintro σ' H' ⟨sl, e1', e2', hno⟩
    rw [List.length_map, List.take_length] at hno
    refine (s_retR (D := { nx := fun _ H' => Q .non H', rt := Q }) (te := tC .non) (s := nextS K tb.nk tb.types.length tb.lots S bl f l) (EvS.to (s := dat K .none) e_non fun v H' p => Or.inl ⟨Tp.non_inv p, fun r hr => ?_⟩) (kk.of (e1.trans e1')) : tRet (tC .non) { nx := fun _ H' => Q .non H', rt := Q } σ' H')
    have hk := (hW.rt hl htk r).mpr hr
    exact hno r hr.2.1 hk
theorem min_ex : ∀ (l : List Int) (a : Int), ∃ m ∈ a :: l, ∀ y ∈ a :: l, m ≤ y
  | [], a => ⟨a, List.mem_cons_self, fun y hy => by rw [List.mem_singleton.mp hy]; exact Int.le_refl _⟩
  | b :: l, a => by
    obtain ⟨m, hm, h⟩ := min_ex l b
    by_cases q : a ≤ m
    · exact ⟨a, List.mem_cons_self, fun y hy => by
        rcases List.mem_cons.mp hy with e | hy
        · rw [e]; exact Int.le_refl _
        · exact Int.le_trans q (h y hy)⟩
    · exact ⟨m, List.mem_cons_of_mem _ hm, fun y hy => by
        rcases List.mem_cons.mp hy with e | hy
        · rw [e]; omega
        · exact h y hy⟩
theorem e_ixLm {σ : L2.St} {H : Hp} {ta tb : TE} {ds : List PyData} {d : PyData} (ha : EvS ta σ H (lstS K ds)) (hb : EvS tb σ H (intS (-1))) (h : ds.getLast? = some d) : EvS (tOp (rIx K) ta tb) σ H (dat K d) :=
  e_two ha hb fun x y H1 _ px py Q q => by
    obtain ⟨a, xs, rfl, hq, hd⟩ := px
    obtain ⟨v, hv, pv⟩ := hd.last h
    exact .inl ⟨a, xs, _, v, rfl, py, SqL.of hq, atI_neg hv, q v H1 (Evl.Ex.refl H1) pv⟩
theorem e_un {σ : L2.St} {H : Hp} {ta : TE} {i : Int} (h : EvS ta σ H (intS i)) : EvS (tUn (rU fun i => .int (-i)) ta) σ H (intS (-i)) := fun H1 e Q q =>
  h H1 e _ fun v H2 e2 p => ⟨i, p, q _ H2 e2 rfl⟩
theorem way_at {wy : List (Nat × Nat)} {i k r : Nat} (h : wy[i]? = some (k, r)) : (wy.map dPr)[i]? = some (.tuple [.int (k : Int), .int (r : Int)]) := by rw [List.getElem?_map, h]; rfl
abbrev s_way_width : Stmt := topS 33
abbrev N_way_width : List Str := ["bounds", "rows", "left", "way", "end", "many", "at"]
theorem scway_width : FnScope N_way_width ["bounds", "rows", "left", "way"] (defScope s_way_width) := ⟨rfl, rfl, rfl, by decide +kernel, rfl, by decide +kernel, by decide +kernel⟩
def sp_way_width (K : Fg) : Sp := fun vs H Q _ => ∃ (bl : List (Option Int)) (nk nt : Nat) (lots : List (List Nat)) (l ks : List Nat) (tk : List (Nat × Option Nat)) (f : Nat → Nat → Int) (left : Nat → Int) (k0 r0 rn : Nat) (wy : List (Nat × Nat)),
  AtAll H vs [dat K (dOs bl), rowsS K nk nt f, lstS K ((List.range nk).map fun k => .int (left k)), lstS K (((k0, r0) :: wy).map dPr)] ∧ bl.length = nt ∧ WyIs nk nt lots f l ks tk rn ((k0, r0) :: wy) ∧ hasR bl nk f rn = true ∧ 0 < left k0 ∧ ((k0, r0) :: wy).length ≤ 100 ∧
  ∀ (m : Int) H2, Ex H H2 → 0 < m → m ≤ left k0 → (∀ (i k r k' r' : Nat), ((k0, r0) :: wy)[i]? = some (k, r) → ((k0, r0) :: wy)[i + 1]? = some (k', r') → m ≤ f r k') → (∀ x, bnf bl rn = some x → rowS nk f rn + m ≤ x) → Q (.int m) H2
theorem ok_way_width (T : Bt mg) (D : Df K mg "way_width" s_way_width ["bounds", "rows", "left", "way"]) : OkD P w K mg base CX0 1 "way_width" ["bounds", "rows", "left", "way"] (sp_way_width K) := by
  refine OkD.of D fun fa fd F => F.ok scway_width (fun vs H Q E ⟨_, _, _, _, _, _, _, _, _, _, _, _, _, h, _⟩ => atLen h) (fun cdv A outer s H vs Q E hr ⟨bl, nk, nt, lots, l, ks, tk, f, left, k0, r0, rn, wy, h, hbl, hw, hroom, hleft, hlen, kk⟩ => ?_)
  obtain ⟨x, y, z, u, rfl, hx, hy, hz, hu⟩ := a4 h
  refine ⟨_, (pss_cons (ps_set (i := 4) scway_width.nd rfl (by first | exact Or.inl rfl | exact Or.inr rfl) (pe_ix (k_ix K) (pe_ix (k_ix K) (pv 3) (pe_un un_neg pe_int) (fun _ _ => rfl)) pe_int (fun _ _ => rfl))) (pss_cons (ps_set (i := 5) scway_width.nd rfl (by first | exact Or.inl rfl | exact Or.inr rfl) (pe_op k_cat (pe_lst (pa_cons (pe_ix (k_ix K) (pv 2) (pe_ix (k_ix K) (pe_ix (k_ix K) (pv 3) pe_int (fun _ _ => rfl)) pe_int (fun _ _ => rfl)) (fun _ _ => rfl)) pa_nil)) (pe_lc (own := [("at", 6)]) (g := gName 6) (tt := tYes) rfl scway_width.nd (pi_range1 rfl T.b_range (pa_cons (pe_op op_sub (pe_callB (k_len K) (by rfl) T.b_len (by decide +kernel) (pa_cons (pv 3) pa_nil)) pe_int) pa_nil)) (blkOk_by (N := N_way_width) (sc := (defScope s_way_width)) (by decide +kernel)) (fun _ _ _ _ _ => (pg_name (i := 6) scway_width.nd rfl (by first | exact Or.inl rfl | exact Or.inr rfl))) (fun _ _ _ _ _ => pts_nil) (fun _ _ _ _ _ => (pe_ix (k_ix K) (pe_ix (k_ix K) (pv 1) (pe_ix (k_ix K) (pe_ix (k_ix K) (pv 3) (pv 6) (fun _ _ => rfl)) pe_int (fun _ _ => rfl)) (fun _ _ => rfl)) (pe_ix (k_ix K) (pe_ix (k_ix K) (pv 3) (pe_op op_add (pv 6) pe_int) (fun _ _ => rfl)) pe_int (fun _ _ => rfl)) (fun _ _ => rfl)))))) (pss_one (ps_ret (pe_ifExp (pt_cmp (pc_isN (pe_ix (k_ix K) (pv 0) (pv 4) (fun _ _ => rfl))) rfl) (pe_callB (k_min K) (by rfl) T.b_min (by decide +kernel) (pa_cons (pv 5) pa_nil)) (pe_callB (k_min K) (by rfl) T.b_min (by decide +kernel) (pa_cons (pe_op k_cat (pv 5) (pe_lst (pa_cons (pe_op op_sub (pe_ix (k_ix K) (pv 0) (pv 4) (fun _ _ => rfl)) (pe_callB (k_sumA K) (by rfl) T.b_sum (by decide +kernel) (pa_cons (pe_ix (k_ix K) (pv 1) (pv 4) (fun _ _ => rfl)) pa_nil))) pa_nil))) pa_nil))))))), ?_⟩
  obtain ⟨kn, hlast⟩ := hw.last
  have hlast' : (((k0, r0) :: wy).map dPr).getLast? = some (dPr (kn, rn)) := by
    rw [List.getLast?_map, hlast]
    rfl
  have hwn : ∀ i k r, ((k0, r0) :: wy)[i]? = some (k, r) → k < nk ∧ r < nt := fun i k r e => ⟨(hw.ok i k r e).1, (hw.ok i k r e).2.1⟩
  have hrn : rn < nt := by
    rw [List.getLast?_eq_getElem?] at hlast
    exact (hwn _ _ _ hlast).2
  have hk0 : k0 < nk := (hwn 0 k0 r0 rfl).1
  have eu : EvS (tVar 3) (L2.start N_way_width [x, y, z, u]) H (lstS K (((k0, r0) :: wy).map dPr)) := e_var (v := u) rfl hu
  refine q_set (EvS.toI (e_ixT (i := 1) (ds := [.int (kn : Int), .int (rn : Int)]) (e_ixLm eu (e_un (e_int (i := 1))) hlast') e_int rfl)) fun v1 H1 e1 p1 => ?_
  have p1 : v1 = .int (rn : Int) := p1
  subst p1
  have sl : Sl 7 [x, y, z, u, .int (rn : Int)] ((L2.start N_way_width [x, y, z, u]).set 4 (some (.int (rn : Int)))) := ⟨rfl, fun i v e => by
    match i, e with
    | 0, e => exact congrArg some e
    | 1, e => exact congrArg some e
    | 2, e => exact congrArg some e
    | 3, e => exact congrArg some e
    | 4, e => exact congrArg some e
    | i + 5, e => cases e⟩
  have hu1 := (lstS K (((k0, r0) :: wy).map dPr)).up _ _ _ e1 hu
  have hz1 := (lstS K ((List.range nk).map fun k => .int (left k))).up _ _ _ e1 hz
  obtain ⟨p, rs, hR⟩ := (rowsS K nk nt f).up _ _ _ e1 hy
  have hx1 := (dat K (dOs bl)).up _ _ _ e1 hx
  -- the widths
  have eL : EvS (tLst (tCons (tOp (rIx K) (tVar 2) (tOp (rIx K) (tOp (rIx K) (tVar 3) (tC (.int 0))) (tC (.int 0)))) tNil)) ((L2.start N_way_width [x, y, z, u]).set 4 (some (.int (rn : Int)))) H1 (lstS K [.int (left k0)]) :=
    e_lst (a_cons (e_ixL (sl.var (v := z) rfl hz1) (EvS.toI (e_ixT (i := 0) (e_ixL (i := 0) (sl.var (v := u) rfl hu1) e_int (way_at (i := 0) (k := k0) (r := r0) rfl)) e_int rfl)) (get_range _ hk0)) a_nil) (by show 1 ≤ 1000; decide)
  refine q_set (e_cat (es := (List.range wy.length).map fun i => .int (f ((((k0, r0) :: wy).getD i (0, 0)).2) ((((k0, r0) :: wy).getD (i + 1) (0, 0)).1))) eL (EvS.map' _ _ ?_) (by rw [List.length_map, List.length_range]; simp at hlen ⊢; omega)) fun v2 H2 e2 p2 => ?_
  · refine e_lcR wy.length (fun _ => true) _ (a_cons (EvS.cast (e_I0 (g := fun a b => .int (a - b)) (e_lenL (a_cons (sl.var (v := u) rfl hu1) a_nil)) (e_int (i := 1))) (by
      rw [List.length_map, List.length_cons]
      show vS _ = vS _
      congr 2
      omega)) a_nil) (by simp at hlen; omega) (fun _ => rfl) fun i H2 e2 hi => ⟨t_yes, fun _ => EvS.toD ?_⟩
    have hi0 : ((k0, r0) :: wy)[i]? = some (((k0, r0) :: wy).getD i (0, 0)) := by rw [List.getD_eq_getElem?_getD, List.getElem?_eq_getElem (by simp; omega)]; rfl
    have hi1 : ((k0, r0) :: wy)[i + 1]? = some (((k0, r0) :: wy).getD (i + 1) (0, 0)) := by rw [List.getD_eq_getElem?_getD, List.getElem?_eq_getElem (by simp; omega)]; rfl
    generalize ((k0, r0) :: wy).getD i (0, 0) = a0 at hi0 ⊢
    generalize ((k0, r0) :: wy).getD (i + 1) (0, 0) = a1 at hi1 ⊢
    obtain ⟨ka, ra⟩ := a0
    obtain ⟨kb, rb⟩ := a1
    obtain ⟨ad, had, hrow⟩ := (hR.ex e2).get (hwn _ _ _ hi0).2
    have eu2 : EvS (tVar 3) ((wipe ((L2.start N_way_width [x, y, z, u]).set 4 (some (.int (rn : Int)))) [6]).set 6 (some (.int (i : Int)))) H2 (lstS K (((k0, r0) :: wy).map dPr)) := e_var (v := u) rfl (Sh.up _ _ _ _ e2 hu1)
    have ei : EvS (tVar 6) ((wipe ((L2.start N_way_width [x, y, z, u]).set 4 (some (.int (rn : Int)))) [6]).set 6 (some (.int (i : Int)))) H2 (intS (i : Int)) := e_var (v := .int (i : Int)) rfl rfl
    exact e_cell hrow (e_row (hR.ex e2) (e_var (v := y) (s := vS y) rfl rfl) (EvS.toI (e_ixT (i := 1) (e_ixL eu2 ei (way_at hi0)) e_int rfl)) had) (EvS.toI (e_ixT (i := 0) (e_ixL (i := i + 1) eu2 (e_I0 (g := fun a b => .int (a + b)) ei (e_int (i := 1))) (way_at hi1)) e_int rfl)) (hwn _ _ _ hi1).1
  have slm : Sl 7 [x, y, z, u, .int (rn : Int), v2] (((L2.start N_way_width [x, y, z, u]).set 4 (some (.int (rn : Int)))).set 5 (some v2)) := ⟨rfl, fun i v e => by
    match i, e with
    | 0, e => exact congrArg some e
    | 1, e => exact congrArg some e
    | 2, e => exact congrArg some e
    | 3, e => exact congrArg some e
    | 4, e => exact congrArg some e
    | 5, e => exact congrArg some e
    | i + 6, e => cases e⟩
  generalize hwd : (List.range wy.length).map (fun i => f ((((k0, r0) :: wy).getD i (0, 0)).2) ((((k0, r0) :: wy).getD (i + 1) (0, 0)).1)) = wd
  have hwd' : ((List.range wy.length).map fun i => PyData.int (f ((((k0, r0) :: wy).getD i (0, 0)).2) ((((k0, r0) :: wy).getD (i + 1) (0, 0)).1))) = wd.map PyData.int := by rw [← hwd, List.map_map]; rfl
  have hlets : ∀ m : Int, (∀ y ∈ left k0 :: wd, m ≤ y) → ∀ (i k r k' r' : Nat), ((k0, r0) :: wy)[i]? = some (k, r) → ((k0, r0) :: wy)[i + 1]? = some (k', r') → m ≤ f r k' := fun m hm i k r k' r' q1 q2 => by
    have hi : i < wy.length := by
      have := (List.getElem?_eq_some_iff.mp q2).1
      simp at this
      exact this
    refine hm _ (List.mem_cons_of_mem _ ?_)
    rw [← hwd]
    refine List.mem_map.mpr ⟨i, List.mem_range.mpr hi, ?_⟩
    rw [List.getD_eq_getElem?_getD, List.getD_eq_getElem?_getD, q1, q2]
    rfl
  have hpos : ∀ y ∈ left k0 :: wd, 0 < y := fun y hy => by
    rcases List.mem_cons.mp hy with e | hy
    · rw [e]; exact hleft
    · rw [← hwd] at hy
      obtain ⟨i, hi, e⟩ := List.mem_map.mp hy
      have hi := List.mem_range.mp hi
      have hi0 : ((k0, r0) :: wy)[i]? = some (((k0, r0) :: wy).getD i (0, 0)) := by rw [List.getD_eq_getElem?_getD, List.getElem?_eq_getElem (by simp; omega)]; rfl
      have hi1 : ((k0, r0) :: wy)[i + 1]? = some (((k0, r0) :: wy).getD (i + 1) (0, 0)) := by rw [List.getD_eq_getElem?_getD, List.getElem?_eq_getElem (by simp; omega)]; rfl
      rw [← e]
      exact hw.lets i _ _ _ _ hi0 hi1
  have em : EvS (tVar 5) (((L2.start N_way_width [x, y, z, u]).set 4 (some (.int (rn : Int)))).set 5 (some v2)) H2 (lstS K ((left k0 :: wd).map PyData.int)) := slm.var (v := v2) rfl (by rw [hwd'] at p2; exact p2)
  have er : EvS (tVar 4) (((L2.start N_way_width [x, y, z, u]).set 4 (some (.int (rn : Int)))).set 5 (some v2)) H2 (intS (rn : Int)) := slm.var (v := .int (rn : Int)) rfl rfl
  have eb : EvS (tOp (rIx K) (tVar 0) (tVar 4)) (((L2.start N_way_width [x, y, z, u]).set 4 (some (.int (rn : Int)))).set 5 (some v2)) H2 (dat K (dO (bnf bl rn))) := e_ixT (slm.var (v := x) rfl (Sh.up _ _ _ _ e2 hx1)) er (bnf_get (by rw [hbl]; exact hrn))
  obtain ⟨ad, had, hrow⟩ := (hR.ex e2).get hrn
  unfold hasR at hroom
  cases hb : bnf bl rn with
  | none =>
    rw [hb] at eb
    obtain ⟨m, hm1, hm2⟩ := min_ex wd (left k0)
    refine s_retR (e_if (b := true) (s := intS m) (t_B (e_isN eb)) (fun _ => e_min (a_cons em a_nil) hm1 hm2) fun z => by cases z) fun v H3 e3 pv => ?_
    have pv : v = .int m := pv
    subst pv
    exact kk m H3 ((e1.trans e2).trans e3) (hpos m hm1) (hm2 _ List.mem_cons_self) (hlets m hm2) fun x hx => by rw [hb] at hx; cases hx
  | some bx =>
    rw [hb] at eb hroom
    have hroom : rowS nk f rn < bx := of_decide_eq_true hroom
    have es : EvS (tCB (rSumA K) (tCons (tOp (rIx K) (tVar 1) (tVar 4)) tNil)) (((L2.start N_way_width [x, y, z, u]).set 4 (some (.int (rn : Int)))).set 5 (some v2)) H2 (intS (rowS nk f rn)) := e_sumRow hrow (e_row (hR.ex e2) (slm.var (v := y) (s := vS y) rfl rfl) er had)
    have e5 := e_cat em (e_lst (ds := [.int (bx - rowS nk f rn)]) (a_cons (EvS.toD (e_I0 (g := fun a b => .int (a - b)) eb.toI es)) a_nil) (by show 1 ≤ 1000; decide)) (by
      rw [List.length_map, List.length_cons, ← hwd, List.length_map, List.length_range]
      simp at hlen ⊢
      omega)
    have e6 : (left k0 :: wd).map PyData.int ++ [.int (bx - rowS nk f rn)] = (left k0 :: (wd ++ [bx - rowS nk f rn])).map PyData.int := by simp
    rw [e6] at e5
    obtain ⟨m, hm1, hm2⟩ := min_ex (wd ++ [bx - rowS nk f rn]) (left k0)
    have hm3 : ∀ y ∈ left k0 :: wd, m ≤ y := fun y hy => hm2 y (by
      rcases List.mem_cons.mp hy with e | hy
      · rw [e]; exact List.mem_cons_self
      · exact List.mem_cons_of_mem _ (List.mem_append_left _ hy))
    have hm4 : m ≤ bx - rowS nk f rn := hm2 _ (List.mem_cons_of_mem _ (List.mem_append_right _ List.mem_cons_self))
    have hm5 : 0 < m := by
      rcases List.mem_cons.mp hm1 with e | hm
      · rw [e]; exact hleft
      · rcases List.mem_append.mp hm with hm | hm
        · exact hpos m (List.mem_cons_of_mem _ hm)
        · rw [List.mem_singleton.mp hm]; omega
    refine s_retR (e_if (b := false) (s := intS m) (t_B (e_isN eb)) (fun z => by cases z) fun _ => e_min (a_cons e5 a_nil) hm1 hm2) fun v H3 e3 pv => ?_
    have pv : v = .int m := pv
    subst pv
    exact kk m H3 ((e1.trans e2).trans e3) hm5 (hm3 _ List.mem_cons_self) (hlets m hm3) fun x hx => by
      rw [hb] at hx
      cases hx
      omega
end
end K45
/-! turn_way, greatest_taking. -/
namespace K45
open PySem L2 RZ
/-- rows, all lists and unlike -/
structure MatM (nk nt : Nat) (f : Nat → Nat → Int) (p : Addr) (rs : List Addr) (H : Hp) : Prop where
  at_ : H p = some (.lst (rs.map V.ref))
  len : rs.length = nt
  nd : rs.Nodup
  np : p ∉ rs
  row : ∀ (i : Nat) (a : Addr), rs[i]? = some a → H a = some (.lst (rowV nk (f i)))
theorem MatM.ex {nk nt : Nat} {f : Nat → Nat → Int} {p : Addr} {rs : List Addr} {H H' : Hp} (h : MatM nk nt f p rs H) (e : Ex H H') : MatM nk nt f p rs H' := ⟨e _ _ h.at_, h.len, h.nd, h.np, fun i a q => e _ _ (h.row i a q)⟩
theorem MatM.rows {K : Fg} {nk nt : Nat} {f : Nat → Nat → Int} {p : Addr} {rs : List Addr} {H : Hp} (h : MatM nk nt f p rs H) : RowsAt K nk nt f (.ref p) p rs H := ⟨rfl, .inl (SqL.of h.at_), h.len, fun i a q => .inl (SqL.of (h.row i a q))⟩
theorem rowV_set {nk k : Nat} {g : Nat → Int} {v : Int} : (rowV nk g).set k (.int v) = rowV nk (fun j => if j = k then v else g j) := by
  refine List.ext_getElem? fun i => ?_
  rw [List.getElem?_set]
  unfold rowV
  rw [List.length_map, List.length_range, List.getElem?_map, List.getElem?_map]
  by_cases hi : i < nk
  · rw [List.getElem?_range hi]
    by_cases e : k = i
    · subst e
      rw [if_pos rfl, if_pos hi]
      simp
    · rw [if_neg e]
      simp [show ¬ i = k from fun z => e z.symm]
  · have : (List.range nk)[i]? = none := List.getElem?_eq_none (by rw [List.length_range]; omega)
    rw [this]
    by_cases e : k = i
    · subst e
      rw [if_pos rfl, if_neg hi]
      rfl
    · rw [if_neg e]
      rfl
theorem rowV_congr {nk : Nat} {g g' : Nat → Int} (h : ∀ k, k < nk → g k = g' k) : rowV nk g = rowV nk g' := List.map_congr_left fun k hk => by rw [h k (List.mem_range.mp hk)]
theorem MatM.setR {nk nt r : Nat} {f g : Nat → Nat → Int} {p a : Addr} {rs : List Addr} {H : Hp} (h : MatM nk nt f p rs H) (ha : rs[r]? = some a) (hg : ∀ r' k, r' ≠ r → g r' k = f r' k) : MatM nk nt g p rs (upd H a (.lst (rowV nk (g r)))) := by
  have hm : a ∈ rs := List.mem_of_getElem? ha
  refine ⟨by rw [upd_ne (fun z => h.np (by rw [z]; exact hm) : p ≠ a)]; exact h.at_, h.len, h.nd, h.np, fun i b hb => ?_⟩
  by_cases e : i = r
  · subst e
    rw [ha] at hb
    cases hb
    exact upd_same
  · have ne : b ≠ a := fun z => by
      subst z
      exact e ((List.getElem?_inj (List.getElem?_eq_some_iff.mp hb).1 h.nd).mp (hb.trans ha.symm))
    rw [upd_ne ne, h.row i b hb]
    congr 2
    exact rowV_congr fun k _ => (hg i k e).symm
theorem q_id {t u : TS} {D : Ends} {σ : L2.St} {H : Hp} (h : t { D with nx := u D } σ H) : tSeq t u D σ H := h
/-- all but a list and some rows stays -/
def Stay (la : Addr) (rs : List Addr) (H H' : Hp) : Prop := ∀ a o, a ≠ la → a ∉ rs → H a = some o → H' a = some o
theorem Stay.ex {la : Addr} {rs : List Addr} {H H' H'' : Hp} (h : Stay la rs H H') (e : Ex H' H'') : Stay la rs H H'' := fun a o h1 h2 h3 => e _ _ (h a o h1 h2 h3)
theorem Stay.of {la : Addr} {rs : List Addr} {H H' : Hp} (e : Ex H H') : Stay la rs H H' := fun a o _ _ h3 => e _ _ h3
theorem Stay.updL {la : Addr} {rs : List Addr} {H H' : Hp} {o : HO} (h : Stay la rs H H') : Stay la rs H (upd H' la o) := fun a o h1 h2 h3 => by rw [upd_ne h1]; exact h a o h1 h2 h3
theorem Stay.updR {la b : Addr} {rs : List Addr} {H H' : Hp} {o : HO} (h : Stay la rs H H') (hb : b ∈ rs) : Stay la rs H (upd H' b o) := fun a o h1 h2 h3 => by rw [upd_ne (fun z => h2 (by rw [z]; exact hb) : a ≠ b)]; exact h a o h1 h2 h3
theorem Stay.gt {K : Fg} {nk nt : Nat} {f : Nat → Nat → Int} {p la : Addr} {rs : List Addr} {H H' : Hp} {left : List V} (h : Stay la rs H H') (hl : H la = some (.lst left)) (hM : MatM nk nt f p rs H) : Gt K H H' := fun a xs q => by
  have ne : ∀ o, H a = some o → (∀ l, o ≠ .lst l) → H' a = some o := fun o e hn => by
    refine h a o (fun z => ?_) (fun z => ?_) e
    · subst z
      rw [hl] at e
      exact hn left (Option.some.inj e).symm
    · obtain ⟨i, hi⟩ := List.getElem?_of_mem z
      rw [hM.row i a hi] at e
      exact hn _ (Option.some.inj e).symm
  rcases q with (q | ⟨o, q⟩) | q
  · exact .inl (.inl (ne _ q fun l z => nomatch z))
  · exact .inl (.inr ⟨o, ne _ q fun l z => nomatch z⟩)
  · exact .inr q
section
variable {K : Fg} {σ : L2.St} {H H' : Hp} {to ti te : TE} {D : Ends} {tz : TS}
theorem s_augRow {fop : Int → Int → Int} {a : Addr} {nk k : Nat} {g : Nat → Int} {m : Int} (ho : EvS to σ H (vS (.ref a))) (hi : EvS ti σ H (intS (k : Int))) (he : EvS te σ H (intS m)) (ha : H a = some (.lst (rowV nk g))) (hk : k < nk)
    (kk : ∀ H1, Ex H H1 → D.nx σ (upd H1 a (.lst (rowV nk fun j => if j = k then fop (g k) m else g j)))) : tAugS to ti te (rGetL K) (ipI fop) rSetL D σ H :=
  ho H (Evl.Ex.refl H) _ fun v H1 e1 p1 => hi H1 e1 _ fun u H2 e2 p2 => by
    have p1 : v = .ref a := p1
    have p2 : u = .int (k : Int) := p2
    subst p1 p2
    refine ⟨a, _, k, .int (g k), rfl, rfl, SqL.of ((e1.trans e2) _ _ ha), rowV_at hk, ?_⟩
    refine he H2 (e1.trans e2) _ fun y H3 e3 p3 => ?_
    have p3 : y = .int m := p3
    subst p3
    refine ⟨g k, m, rfl, rfl, a, _, (k : Int), k, rfl, rfl, ((e1.trans e2).trans e3) _ _ ha, ?_, ?_⟩
    · unfold ixN
      have el : (rowV nk g).length = nk := by unfold rowV; rw [List.length_map, List.length_range]
      rw [el]
      simp [hk]
    · rw [rowV_set]
      exact kk H3 ((e1.trans e2).trans e3)
theorem q_augRow {fop : Int → Int → Int} {a : Addr} {nk k : Nat} {g : Nat → Int} {m : Int} (ho : EvS to σ H (vS (.ref a))) (hi : EvS ti σ H (intS (k : Int))) (he : EvS te σ H (intS m)) (ha : H a = some (.lst (rowV nk g))) (hk : k < nk)
    (kk : ∀ H1, Ex H H1 → tz D σ (upd H1 a (.lst (rowV nk fun j => if j = k then fop (g k) m else g j)))) : tSeq (tAugS to ti te (rGetL K) (ipI fop) rSetL) tz D σ H := s_augRow (D := { D with nx := tz D }) ho hi he ha hk kk
end
section
variable {P : Program} {w : World} {K : Fg} {mg : Str → Option Value} {base : Heap}
abbrev s_turn_way : Stmt := topS 34
abbrev N_turn_way : List Str := ["rows", "left", "way", "many", "at", "kind", "request"]
theorem scturn_way : FnScope N_turn_way ["rows", "left", "way", "many"] (defScope s_turn_way) := ⟨rfl, rfl, rfl, by decide +kernel, rfl, by decide +kernel, by decide +kernel⟩
def sp_turn_way (K : Fg) : Sp := fun vs H Q _ => ∃ (nk nt : Nat) (f : Nat → Nat → Int) (left : Nat → Int) (m : Int) (p la : Addr) (rs : List Addr) (wv : V) (k0 r0 : Nat) (wy : List (Nat × Nat)), vs = [.ref p, .ref la, wv, .int m] ∧ MatM nk nt f p rs H ∧ H la = some (.lst (rowV nk left)) ∧ la ∉ rs ∧ la ≠ p ∧
  (lstS K (((k0, r0) :: wy).map dPr)).P wv H ∧ (∀ (i k r : Nat), ((k0, r0) :: wy)[i]? = some (k, r) → k < nk ∧ r < nt) ∧
  ∀ H2, Stay la rs H H2 → H2 la = some (.lst (rowV nk fun k => if k = k0 then left k0 - m else left k)) → MatM nk nt (turnW m ((k0, r0) :: wy) f) p rs H2 → Q .non H2
theorem ok_turn_way (T : Bt mg) (D : Df K mg "turn_way" s_turn_way ["rows", "left", "way", "many"]) : OkD P w K mg base CX0 1 "turn_way" ["rows", "left", "way", "many"] (sp_turn_way K) := by
  refine OkD.of D fun fa fd F => F.ok scturn_way (fun vs H Q E ⟨_, _, _, _, _, _, _, _, _, _, _, _, h, _⟩ => by rw [h]; rfl) (fun cdv A outer s H vs Q E hr ⟨nk, nt, f, left, m, p, la, rs, wv, k0, r0, wy, hvs, hM, hla, hlr, hlp, hw, hok, kk⟩ => ?_)
  subst hvs
  obtain ⟨wa, xs, rfl, hwa, hxs⟩ := hw
  refine ⟨_, (pss_cons (ps_augS (pv 1) (pe_ix (k_ix K) (pe_ix (k_ix K) (pv 2) pe_int (fun _ _ => rfl)) pe_int (fun _ _ => rfl)) (k_getL K) (pv 3) ip_sub set_list) (pss_one (ps_for PassesOwn.never rfl (k_enumA K (by rfl) T.b_enumerate (pa_cons (pv 2) pa_nil)) (k_pgt K (n := 2) rfl (pgs_cons (pg_name (i := 4) scturn_way.nd rfl (by first | exact Or.inl rfl | exact Or.inr rfl)) (pgs_cons (k_pgt K (n := 2) rfl (pgs_cons (pg_name (i := 5) scturn_way.nd rfl (by first | exact Or.inl rfl | exact Or.inr rfl)) (pgs_cons (pg_name (i := 6) scturn_way.nd rfl (by first | exact Or.inl rfl | exact Or.inr rfl)) pgs_nil))) pgs_nil))) (pss_cons (ps_augS (pe_ix (k_ix K) (pv 0) (pv 6) (fun _ _ => rfl)) (pv 5) (k_getL K) (pv 3) ip_add set_list) (pss_one (ps_if (pt_cmpR op_lt (pe_op op_add (pv 4) pe_int) (pe_callB (k_len K) (by rfl) T.b_len (by decide +kernel) (pa_cons (pv 2) pa_nil)) (nomark _)) (pss_one (ps_augS (pe_ix (k_ix K) (pv 0) (pv 6) (fun _ _ => rfl)) (pe_ix (k_ix K) (pe_ix (k_ix K) (pv 2) (pe_op op_add (pv 4) pe_int) (fun _ _ => rfl)) pe_int (fun _ _ => rfl)) (k_getL K) (pv 3) ip_sub set_list)) pss_nil)))))), ?_⟩
  -- the way is no list of numbers
  obtain ⟨x0, xr, hx0, hx0r⟩ : ∃ b xr, xs = .ref b :: xr ∧ True := by
    cases hxs with
    | cons h1 h2 =>
      obtain ⟨b, ys, rfl, _, _⟩ := Tp.tup_inv h1
      exact ⟨b, _, rfl, trivial⟩
  have nrow : ∀ g : Nat → Int, xs ≠ rowV nk g := fun g e => by
    rw [hx0] at e
    have h0 := congrArg (fun l : List V => l[0]?) e
    unfold rowV at h0
    simp only [List.getElem?_map] at h0
    cases hz : (List.range nk)[0]? with
    | none => rw [hz] at h0; cases h0
    | some z => rw [hz] at h0; cases h0
  have wla : wa ≠ la := fun e => nrow left (by
    rw [e, hla] at hwa
    cases hwa
    rfl)
  have wrs : wa ∉ rs := fun e => by
    obtain ⟨i, hi⟩ := List.getElem?_of_mem e
    have := hM.row i wa hi
    rw [hwa] at this
    cases this
    exact nrow (f i) rfl
  have lenw : xs.length = wy.length + 1 := by rw [hxs.len, List.length_map, List.length_cons]
  have sl0 : Sl 7 [.ref p, .ref la, .ref wa, .int m] (L2.start N_turn_way [.ref p, .ref la, .ref wa, .int m]) := ⟨rfl, fun i v e => by
    match i, e with
    | 0, e => exact congrArg some e
    | 1, e => exact congrArg some e
    | 2, e => exact congrArg some e
    | 3, e => exact congrArg some e
    | i + 4, e => cases e⟩
  have eway : ∀ {σ' : L2.St} {H' : Hp}, Sl 7 [.ref p, .ref la, .ref wa, .int m] σ' → Stay la rs H H' → EvS (tVar 2) σ' H' (lstS K (((k0, r0) :: wy).map dPr)) := fun sl st => sl.var (v := .ref wa) rfl ⟨wa, xs, rfl, st _ _ wla wrs hwa, hxs.mono (st.gt hla hM)⟩
  have hk0 := (hok 0 k0 r0 rfl).1
  refine q_augRow (K := K) (nk := nk) (g := left) (k := k0) (m := m) (sl0.var (v := .ref la) rfl rfl) (EvS.toI (e_ixT (i := 0) (e_ixL (i := 0) (eway sl0 (Stay.of (Evl.Ex.refl H))) e_int (way_at (i := 0) (k := k0) (r := r0) rfl)) e_int rfl)) (sl0.var (v := .int m) rfl rfl) hla hk0 fun H1 e1 => ?_
  have hst1 : Stay la rs H (upd H1 la (.lst (rowV nk fun j => if j = k0 then left k0 - m else left j))) := (Stay.of e1).updL
  have hM1 : MatM nk nt f p rs (upd H1 la (.lst (rowV nk fun j => if j = k0 then left k0 - m else left j))) := by
    have h1 := hM.ex e1
    have hpl : p ≠ la := Ne.symm hlp
    exact ⟨by rw [upd_ne hpl]; exact h1.at_, h1.len, h1.nd, h1.np, fun i a q => by rw [upd_ne (fun z => hlr (by rw [← z]; exact List.mem_of_getElem? q) : a ≠ la)]; exact h1.row i a q⟩
  have hl1 : (upd H1 la (.lst (rowV nk fun j => if j = k0 then left k0 - m else left j))) la = some (.lst (rowV nk fun j => if j = k0 then left k0 - m else left j)) := upd_same
  generalize upd H1 la (.lst (rowV nk fun j => if j = k0 then left k0 - m else left j)) = H2 at hst1 hM1 hl1
  have hwa2 : H2 wa = some (.lst xs) := hst1 _ _ wla wrs hwa
  refine s_forE (K := K) (xs := xs) (a := wa) (sl0.var (v := .ref wa) rfl rfl)
    (fun i σ' H' => Sl 7 [.ref p, .ref la, .ref wa, .int m] σ' ∧ Stay la rs H H' ∧ H' la = some (.lst (rowV nk fun j => if j = k0 then left k0 - m else left j)) ∧ ∃ g, MatM nk nt g p rs H' ∧ turnW m (((k0, r0) :: wy).drop i) g = turnW m ((k0, r0) :: wy) f)
    (.inl ⟨SqL.of hwa2, fun i σ' H' ⟨_, q, _⟩ => SqL.of (q _ _ wla wrs hwa)⟩) (fun H3 e3 => ⟨sl0, hst1.ex e3, e3 _ _ hl1, f, hM1.ex e3, rfl⟩) ?_ ?_
  · rintro i v σ' H' tp hi ⟨sl, st, hl', g, hg, htw⟩ hT
    obtain ⟨d, hd, pd⟩ := hxs.get' hi
    rw [List.getElem?_map] at hd
    cases hwi : ((k0, r0) :: wy)[i]? with
    | none => rw [hwi] at hd; cases hd
    | some kr =>
      obtain ⟨k, r⟩ := kr
      rw [hwi] at hd
      have hd := Option.some.inj hd
      subst hd
      obtain ⟨hk, hr⟩ := hok i k r hwi
      have hlt := (List.getElem?_eq_some_iff.mp hwi).1
      rw [List.length_cons] at hlt
      have exT : Ex H' (upd H' tp (.tup [.int (i : Int), v])) := Evl.Ex.new hT
      obtain ⟨v1, v2, v3, p1, p2, p3, hgo⟩ := goes_three (i := 4) (j := 5) (l := 6) (σ := σ') (tp_pair (K := K) hT (.int (i : Int)) (pd.mono (st.gt hla hM)))
      have p1 := p1.int_inv
      have p2 := p2.int_inv
      have p3 := p3.int_inv
      subst p1 p2 p3
      refine hgo _ ?_
      have st2 := st.ex exT
      have hl2 := exT _ _ hl'
      have hg2 := hg.ex exT
      generalize upd H' tp (.tup [.int (i : Int), v]) = H3 at st2 hl2 hg2
      have sl3 : Sl 7 [.ref p, .ref la, .ref wa, .int m] (((σ'.set 4 (some (.int (i : Int)))).set 5 (some (.int (k : Int)))).set 6 (some (.int (r : Int)))) := ((sl.set (show 4 ≤ 4 by decide)).set (show 4 ≤ 5 by decide)).set (show 4 ≤ 6 by decide)
      have hi4 : (((σ'.set 4 (some (V.int (i : Int)))).set 5 (some (.int (k : Int)))).set 6 (some (.int (r : Int))))[4]? = some (some (.int (i : Int))) := sl_ne (by decide) (sl_ne (by decide) (sl_same sl.len (by decide)))
      have hi5 : (((σ'.set 4 (some (V.int (i : Int)))).set 5 (some (.int (k : Int)))).set 6 (some (.int (r : Int))))[5]? = some (some (.int (k : Int))) := sl_ne (by decide) (sl_same (n := 7) (by rw [List.length_set]; exact sl.len) (by decide))
      have hi6 : (((σ'.set 4 (some (V.int (i : Int)))).set 5 (some (.int (k : Int)))).set 6 (some (.int (r : Int))))[6]? = some (some (.int (r : Int))) := sl_same (n := 7) (by rw [List.length_set, List.length_set]; exact sl.len) (by decide)
      generalize ((σ'.set 4 (some (V.int (i : Int)))).set 5 (some (.int (k : Int)))).set 6 (some (.int (r : Int))) = σ3 at sl3 hi4 hi5 hi6
      obtain ⟨ra, hra⟩ : ∃ ra, rs[r]? = some ra := ⟨rs[r]'(by rw [hg2.len]; exact hr), List.getElem?_eq_getElem _⟩
      have erow : ∀ {g' : Nat → Nat → Int} {H' : Hp}, MatM nk nt g' p rs H' → EvS (tOp (rIx K) (tVar 0) (tVar 6)) σ3 H' (vS (.ref ra)) := fun hg' => e_row hg'.rows (sl3.var (v := .ref p) (s := vS (.ref p)) rfl rfl) (e_var (v := .int (r : Int)) (s := intS r) hi6 rfl) hra
      refine q_augRow (nk := nk) (g := g r) (k := k) (m := m) (erow hg2) (e_var (v := .int (k : Int)) (s := intS k) hi5 rfl) (sl3.var (v := .int m) rfl rfl) (hg2.row r ra hra) hk fun H4 e4 => ?_
      have hg5 : MatM nk nt (addC g r k m) p rs (upd H4 ra (.lst (rowV nk fun j => if j = k then g r k + m else g r j))) := by
        have h1 := (hg2.ex e4).setR (g := addC g r k m) hra fun r' k' hr' => addC_ne _ _ (fun z => hr' z.1)
        rw [rowV_congr (g := fun j => if j = k then g r k + m else g r j) (g' := addC g r k m r) fun j _ => by
          unfold addC
          by_cases e : j = k
          · subst e
            simp
          · simp [e]]
        exact h1
      have st5 : Stay la rs H (upd H4 ra (.lst (rowV nk fun j => if j = k then g r k + m else g r j))) := (st2.ex e4).updR (List.mem_of_getElem? hra)
      have hl5 : (upd H4 ra (.lst (rowV nk fun j => if j = k then g r k + m else g r j))) la = some (.lst (rowV nk fun j => if j = k0 then left k0 - m else left j)) := by
        rw [upd_ne (fun z => hlr (by rw [z]; exact List.mem_of_getElem? hra) : la ≠ ra)]
        exact e4 _ _ hl2
      generalize upd H4 ra (.lst (rowV nk fun j => if j = k then g r k + m else g r j)) = H5 at hg5 st5 hl5
      have hdrop : ((k0, r0) :: wy).drop i = (k, r) :: ((k0, r0) :: wy).drop (i + 1) := by
        rw [List.drop_eq_getElem_cons (by rw [List.length_cons]; exact hlt)]
        congr 1
        exact (List.getElem?_eq_some_iff.mp hwi).2
      have ei : EvS (tVar 4) σ3 H5 (intS (i : Int)) := e_var (v := .int (i : Int)) hi4 rfl
      refine s_when (b := decide (i + 1 < wy.length + 1)) (t_test (EvS.cast (e_I0 (g := fun a b => .bl (decide (a < b))) (e_I0 (g := fun a b => .int (a + b)) ei (e_int (i := 1))) (e_lenL (a_cons (eway sl3 st5) a_nil))) (by
        rw [List.length_map, List.length_cons]
        show vS _ = vS _
        congr 2
        exact decide_eq_decide.mpr ⟨fun z => by omega, fun z => by omega⟩))) (fun hc H6 e6 => ?_) (fun hc H6 e6 => ?_)
      · have hc := of_decide_eq_true hc
        cases hwi1 : ((k0, r0) :: wy)[i + 1]? with
        | none =>
          have := List.getElem?_eq_none_iff.mp hwi1
          rw [List.length_cons] at this
          omega
        | some kr1 =>
          obtain ⟨k1, r1⟩ := kr1
          have hk1 := (hok _ _ _ hwi1).1
          have hg6 := hg5.ex e6
          refine s_augRow (nk := nk) (g := addC g r k m r) (k := k1) (m := m) (erow hg6) (EvS.toI (e_ixT (i := 0) (e_ixL (i := i + 1) (eway sl3 (st5.ex e6)) (e_I0 (g := fun a b => .int (a + b)) (ei.mono e6) (e_int (i := 1))) (way_at hwi1)) e_int rfl)) (sl3.var (v := .int m) rfl rfl) (hg6.row r ra hra) hk1 fun H7 e7 => ⟨sl3, (st5.ex (e6.trans e7)).updR (List.mem_of_getElem? hra), ?_, addC (addC g r k m) r k1 (-m), ?_, ?_⟩
          · rw [upd_ne (fun z => hlr (by rw [z]; exact List.mem_of_getElem? hra) : la ≠ ra)]
            exact e7 _ _ (e6 _ _ hl5)
          · have h1 := (hg6.ex e7).setR (g := addC (addC g r k m) r k1 (-m)) hra fun r' k' hr' => addC_ne _ _ (fun z => hr' z.1)
            rw [rowV_congr (g := fun j => if j = k1 then addC g r k m r k1 - m else addC g r k m r j) (g' := addC (addC g r k m) r k1 (-m) r) fun j _ => by
              rw [show addC (addC g r k m) r k1 (-m) r j = if r = r ∧ j = k1 then addC g r k m r j + (-m) else addC g r k m r j from rfl]
              by_cases e : j = k1
              · subst e
                rw [if_pos rfl, if_pos ⟨rfl, rfl⟩]
                omega
              · rw [if_neg e, if_neg fun z => e z.2]]
            exact h1
          · rw [← htw, hdrop]
            have hd2 : ((k0, r0) :: wy).drop (i + 1) = (k1, r1) :: ((k0, r0) :: wy).drop (i + 1 + 1) := by
              rw [List.drop_eq_getElem_cons (by rw [List.length_cons]; exact hc)]
              congr 1
              exact (List.getElem?_eq_some_iff.mp hwi1).2
            rw [hd2]
            rfl
      · have hc := of_decide_eq_false hc
        refine ⟨sl3, st5.ex e6, e6 _ _ hl5, addC g r k m, hg5.ex e6, ?_⟩
        have hd2 : ((k0, r0) :: wy).drop (i + 1) = [] := List.drop_eq_nil_of_le (by rw [List.length_cons]; omega)
        rw [← htw, hdrop, hd2]
        rfl
  · rintro σ' H' ⟨sl, st, hl', g, hg, htw⟩
    rw [lenw, List.drop_eq_nil_of_le (by rw [List.length_cons]; exact Nat.le_refl _)] at htw
    have htw : g = turnW m ((k0, r0) :: wy) f := htw
    subst htw
    exact kk H' st hl' hg
end
/-! ### rows at the start, at the end -/
section
variable {K : Fg} {σ : L2.St} {H H' : Hp} {tl te : TE}
theorem mat0 {ds : List PyData} {j nk : Nat} {vs : List Nat} (h : EvS tl σ H (dat K (.tuple ds))) (hl : ds.length ≤ 1000) (hv : ∀ w, wipe ((wipe σ vs).set j (some w)) vs = wipe σ vs) (hr : ∀ w H1, Ex H H1 → EvF te ((wipe σ vs).set j (some w)) H1 (.lst (rowV nk fun _ => 0)))
    (Q : VK) (q : ∀ p rs H2, Ex H H2 → H p = none → (∀ a ∈ rs, H a = none) → MatM nk ds.length (fun _ _ => 0) p rs H2 → Q (.ref p) H2) : tLc (iTup K tl) (gName j) tYes te vs σ H Q := by
  refine i_tup h H (Evl.Ex.refl H) _ fun J H1 e1 wk D hD => ?_
  have exD : Ex H1 (upd H1 D (.lst [])) := Evl.Ex.new hD
  refine lc_it (wk.mono (G' := fun H3 => Ex H1 H3) (fun _ h => h) fun _ _ _ _ _ _ y => y) (fun i H' => Ex H1 H' ∧ ∃ rs : List Addr, H' D = some (.lst (rs.map V.ref)) ∧ rs.length = i ∧ rs.Nodup ∧ D ∉ rs ∧ ∀ a ∈ rs, H1 a = none ∧ H' a = some (.lst (rowV nk fun _ => 0))) ⟨exD, [], upd_same, rfl, List.nodup_nil, List.not_mem_nil, fun a z => nomatch z⟩ (fun i H' _ h => h.1) ?_ ?_
  · rintro i w H2 H3 hi ⟨ex2, rs, k1, k2, k3, k4, k5⟩ ⟨ex23, hy⟩
    refine ⟨hv w, ?_⟩
    unfold tYes
    dsimp only
    rw [if_pos rfl]
    refine hr w H3 (e1.trans (ex2.trans ex23)) H3 (Evl.Ex.refl _) _ fun a H4 na e4 ka => ?_
    have e24 := ex23.trans e4
    refine ⟨rs.map V.ref, e24 _ _ k1, by rw [List.length_map, k2]; exact Nat.lt_of_lt_of_le (show i < 1001 by omega) (by decide), Evl.Ex.mut ((ex2.trans ex23).trans e4) hD, rs ++ [a], ?_, by rw [List.length_append, k2]; rfl, ?_, ?_, ?_⟩
    · rw [List.map_append]
      exact upd_same
    · refine List.nodup_append.mpr ⟨k3, List.nodup_cons.mpr ⟨List.not_mem_nil, List.nodup_nil⟩, fun b hb c hc e => ?_⟩
      rw [List.mem_singleton] at hc
      subst hc
      subst e
      rw [ex23 _ _ (k5 b hb).2] at na
      cases na
    · intro z
      rcases List.mem_append.mp z with z | z
      · exact k4 z
      · rw [List.mem_singleton] at z
        subst z
        rw [ex23 _ _ k1] at na
        cases na
    · intro b hb
      rcases List.mem_append.mp hb with z | z
      · exact ⟨(k5 b z).1, by rw [upd_ne (fun y => k4 (by rw [← y]; exact z) : b ≠ D)]; exact e24 _ _ (k5 b z).2⟩
      · rw [List.mem_singleton] at z
        subst z
        refine ⟨none_back (ex2.trans ex23) na, ?_⟩
        have hne : b ≠ D := fun y => by
          rw [y, ex23 _ _ k1] at na
          cases na
        rw [upd_ne hne]
        exact ka
  · rintro H2 ⟨ex2, rs, k1, k2, k3, k4, k5⟩
    exact q D rs H2 (e1.trans ex2) (none_back e1 hD) (fun a ha => none_back e1 (k5 a ha).1) ⟨k1, k2, k3, k4, fun i a ha => (k5 a (List.mem_of_getElem? ha)).2⟩
theorem q_parMat {i j nk nt : Nat} {t1 t2 : TE} {o2 : HO} {D : Ends} {tz : TS} (h1 : ∀ Q : VK, (∀ p rs H2, Ex H H2 → H p = none → (∀ a ∈ rs, H a = none) → MatM nk nt (fun _ _ => 0) p rs H2 → Q (.ref p) H2) → t1 σ H Q) (h2 : EvF t2 σ H o2)
    (k : ∀ p rs la H1 H2, Ex H H1 → H p = none → (∀ a ∈ rs, H a = none) → MatM nk nt (fun _ _ => 0) p rs H1 → H1 la = none → Ex H1 H2 → H2 la = some o2 → tz D ((σ.set i (some (.ref p))).set j (some (.ref la))) H2) :
    tSeq (tPar i j (tCons t1 (tCons t2 tNil))) tz D σ H :=
  h1 _ fun p rs H1 e1 n1 n2 hM => h2 H1 e1 _ fun la H2 n3 e2 k2 => ⟨_, _, rfl, k p rs la H1 H2 e1 n1 n2 hM n3 e2 k2⟩
/-- each row as a tuple -/
theorem e_matT {nk nt j : Nat} {f : Nat → Nat → Int} {p : Addr} {rs : List Addr} {vs : List Nat} {i : Nat} (h : MatM nk nt f p rs H) (hi : σ[i]? = some (some (.ref p))) (hn : nt ≤ 1000) (hv : ∀ w, wipe ((wipe σ vs).set j (some w)) vs = wipe σ vs) (hj : ∀ w, ((wipe σ vs).set j (some w))[j]? = some (some w)) :
    EvS (tLc (iList K (tVar i)) (gName j) tYes (tCB (fun xs H Q => ∃ p ys, xs = [.ref p] ∧ ((SqL K H p ys ∧ ∀ l, H l = none → Q (.ref l) (upd H l (.tup ys))) ∨ (SqT K H p ys ∧ Q (.ref p) H))) (tCons (tVar j) tNil)) vs) σ H (lstS K ((List.range nt).map fun r => dRow nk (f r))) := by
  have src : EvI K (iList K (tVar i)) σ H (List.range nt).length (fun n w _ => ∃ a, rs[n]? = some a ∧ w = .ref a) := fun H1 e1 R r => by
    refine ⟨.ref p, hi, p, rfl, ⟨_, SqL.of (e1 _ _ h.at_)⟩, r _ H1 (Evl.Ex.refl _) ?_⟩
    rw [List.length_range, ← h.len, ← List.length_map (f := V.ref) (as := rs)]
    refine (walk_list (xs := rs.map V.ref)).mono (fun H3 e3 => SqL.of (e3 _ _ (e1 _ _ h.at_))) fun n Ha w Hb _ _ ⟨z, hx⟩ => ?_
    subst z
    rw [List.getElem?_map] at hx
    cases hz : rs[n]? with
    | none => rw [hz] at hx; cases hx
    | some a =>
      rw [hz] at hx
      exact ⟨Evl.Ex.refl _, a, hz, (Option.some.inj hx).symm⟩
  refine EvS.map' _ _ (e_lc (List.range nt) (fun _ => true) _ src (by rw [List.length_range]; omega) fun n r w H1 e1 hr ⟨a, ha, hw⟩ => ⟨_, goes_name, hv w, t_yes, fun _ => ?_⟩)
  subst hw
  have hlt := (List.getElem?_eq_some_iff.mp hr).1
  rw [List.length_range] at hlt
  rw [List.getElem?_range hlt] at hr
  have hr := Option.some.inj hr
  subst hr
  have hrow := e1 _ _ (h.row n a ha)
  refine e_CB (a_cons (e_var (v := .ref a) (s := vS (.ref a)) (hj _) rfl) a_nil) fun vs H2 e2 pv Q q => ?_
  obtain ⟨u, rfl, pu⟩ := a1 pv
  have pu : u = .ref a := pu
  subst pu
  refine ⟨a, _, rfl, .inl ⟨SqL.of (e2 _ _ hrow), fun b hb => q _ _ (Evl.Ex.new hb) (.tup (SqT.of upd_same) ?_)⟩⟩
  rw [rowV_ints]
  exact tpAll_ints _
end
section
variable {P : Program} {w : World} {K : Fg} {mg : Str → Option Value} {base : Heap}
abbrev s_greatest_taking : Stmt := topS 35
abbrev N_greatest_taking : List Str := ["table", "stock", "bounds", "types", "rows", "left", "item", "way", "row"]
theorem scgreatest_taking : FnScope N_greatest_taking ["table", "stock", "bounds", "types"] (defScope s_greatest_taking) := ⟨rfl, rfl, rfl, by decide +kernel, rfl, by decide +kernel, by decide +kernel⟩
def sp_greatest_taking (K : Fg) : Sp := fun vs H Q _ => ∃ (T : Tab) (st : List Int) (bl : List (Option Int)) (l : List Nat), AtAll H vs [tabS K T, dat K (dIs st), dat K (dOs bl), dat K (dNs l)] ∧ T.Ok ∧ Case T.lots st bl ∧ st.length = T.nk ∧ (∀ r ∈ l, r < T.types.length) ∧ l.length ≤ 1000 ∧
  ∀ f, Mx T.nk T.types.length (accL T.lots) (fn st) (bnf bl) (isIn l) f → Ret (dat K (dTk T.nk T.types.length f)) H Q
theorem ok_greatest_taking (T : Bt mg) (D : Df K mg "greatest_taking" s_greatest_taking ["table", "stock", "bounds", "types"]) (G_next_way : OkD P w K mg base CX0 4 "next_way" ["table", "bounds", "types", "rows", "left"] (sp_next_way K))
    (G_way_width : OkD P w K mg base CX0 1 "way_width" ["bounds", "rows", "left", "way"] (sp_way_width K)) (G_turn_way : OkD P w K mg base CX0 1 "turn_way" ["rows", "left", "way", "many"] (sp_turn_way K)) :
    OkD P w K mg base CX0 5 "greatest_taking" ["table", "stock", "bounds", "types"] (sp_greatest_taking K) := by
  refine OkD.of D fun fa fd F => F.ok scgreatest_taking (fun vs H Q E ⟨_, _, _, _, h, _⟩ => atLen h) (fun cdv A outer s H vs Q E hr ⟨tb, st, bl, l, h, g, hc, hst, hl, hn, kk⟩ => ?_)
  obtain ⟨x, y, z, u, rfl, hx, hy, hz, hu⟩ := a4 h
  refine ⟨_, (pss_cons (ps_par (i := 4) (j := 5) (by rfl) scgreatest_taking.nd rfl rfl (by decide) rfl rfl (pa_cons (pe_lc (own := [("item", 6)]) (g := gName 6) (tt := tYes) rfl scgreatest_taking.nd (k_pit K (k_fld K (pv 0) rfl)) (blkOk_by (N := N_greatest_taking) (sc := (defScope s_greatest_taking)) (by decide +kernel)) (fun _ _ _ _ _ => (pg_name (i := 6) scgreatest_taking.nd rfl (by first | exact Or.inl rfl | exact Or.inr rfl))) (fun _ _ _ _ _ => pts_nil) (fun _ _ _ _ _ => (pe_op op_rep (pe_lst (pa_cons pe_int pa_nil)) (pe_callB (k_len K) (by rfl) T.b_len (by decide +kernel) (pa_cons (k_fld K (pv 0) rfl) pa_nil))))) (pa_cons (pe_callTy (k_list K) (by rfl) T.b_list (by decide +kernel) (pa_cons (pv 1) pa_nil)) pa_nil)) (by rfl)) (pss_cons (ps_set (i := 7) scgreatest_taking.nd rfl (by first | exact Or.inl rfl | exact Or.inr rfl) (pe_d G_next_way hr (pa_cons (pv 0) (pa_cons (pv 2) (pa_cons (pv 3) (pa_cons (pv 4) (pa_cons (pv 5) pa_nil))))))) (pss_cons (ps_while PassesOwn.never (pt_cmp (pc_notN (pv 7)) rfl) (pss_cons (ps_expr (pe_d G_turn_way hr (pa_cons (pv 4) (pa_cons (pv 5) (pa_cons (pv 7) (pa_cons (pe_d G_way_width hr (pa_cons (pv 2) (pa_cons (pv 4) (pa_cons (pv 5) (pa_cons (pv 7) pa_nil))))) pa_nil)))))) (pss_one (ps_set (i := 7) scgreatest_taking.nd rfl (by first | exact Or.inl rfl | exact Or.inr rfl) (pe_d G_next_way hr (pa_cons (pv 0) (pa_cons (pv 2) (pa_cons (pv 3) (pa_cons (pv 4) (pa_cons (pv 5) pa_nil)))))))))) (pss_one (ps_ret (pe_callTy (k_tuple K) (by rfl) T.b_tuple (by decide +kernel) (pa_cons (pe_lc (own := [("row", 8)]) (g := gName 8) (tt := tYes) rfl scgreatest_taking.nd (k_pil K (pv 4)) (blkOk_by (N := N_greatest_taking) (sc := (defScope s_greatest_taking)) (by decide +kernel)) (fun _ _ _ _ _ => (pg_name (i := 8) scgreatest_taking.nd rfl (by first | exact Or.inl rfl | exact Or.inr rfl))) (fun _ _ _ _ _ => pts_nil) (fun _ _ _ _ _ => (pe_callTy (k_tuple K) (by rfl) T.b_tuple (by decide +kernel) (pa_cons (pv 8) pa_nil)))) pa_nil))))))), ?_⟩
  have hnk := g.nk
  have hnt := g.nt
  have hst8 : st.length ≤ 8 := by omega
  have sl0 : Sl 9 [x, y, z, u] (L2.start N_greatest_taking [x, y, z, u]) := ⟨rfl, fun i v e => by
    match i, e with
    | 0, e => exact congrArg some e
    | 1, e => exact congrArg some e
    | 2, e => exact congrArg some e
    | 3, e => exact congrArg some e
    | i + 4, e => cases e⟩
  refine q_parMat (nk := tb.nk) (nt := (tb.types.map dTy).length) (mat0 (K := K) (σ := L2.start N_greatest_taking [x, y, z, u]) (nk := tb.nk) (j := 6) (vs := [6]) (ds := tb.types.map dTy) (e_types (e_var (v := x) rfl hx)) (by rw [List.length_map]; omega) (fun _ => rfl) (fun w1 H1 e1 => ?_)) (f_listT (K := K) (ns := st) (e_var (σ := L2.start N_greatest_taking [x, y, z, u]) (i := 1) (v := y) rfl hy)) fun p rs la H1 H2 e1 np nrs hM0 nla e2 kla => ?_
  · have := f_rep (σ := ((wipe (L2.start N_greatest_taking [x, y, z, u]) [6]).set 6 (some w1))) (H := H1) (i := 0) (n := tb.nk) (by omega) (EvS.cast (e_len (a_cons (e_kinds (e_var (σ := ((wipe (L2.start N_greatest_taking [x, y, z, u]) [6]).set 6 (some w1))) (i := 0) (v := x) rfl ((tabS K tb).up _ _ _ e1 hx))) a_nil)) (by rw [List.length_map]; rfl))
    have er : List.replicate tb.nk (V.int 0) = rowV tb.nk fun _ => 0 := by
      unfold rowV
      rw [List.map_const', List.length_range]
    rw [er] at this
    exact this
  rw [List.length_map] at hM0
  have hM2 := hM0.ex e2
  have la0 : H la = none := none_back e1 nla
  have lars : la ∉ rs := fun zz => by
    obtain ⟨i, hi⟩ := List.getElem?_of_mem zz
    rw [hM0.row i la hi] at nla
    cases nla
  have lap : la ≠ p := fun zz => by
    rw [zz, hM0.at_] at nla
    cases nla
  have kl0 : st.map V.int = rowV tb.nk fun k => fn st k - colS tb.types.length (fun _ _ => 0) k := by
    rw [rowV_ints]
    congr 1
    refine List.ext_getElem? fun i => ?_
    by_cases hi : i < st.length
    · rw [get_range _ (by omega), fn_get hi]
      congr 1
      rw [show colS tb.types.length (fun _ _ => 0) i = 0 from Sg_zero fun _ _ => rfl]
      omega
    · rw [List.getElem?_eq_none (by omega), List.getElem?_eq_none (by rw [List.length_map, List.length_range]; omega)]
  rw [kl0] at kla
  have htk0 : Tk tb.nk tb.types.length (accL tb.lots) (fn st) (bnf bl) (isIn l) (fun _ _ => 0) := noT_tk (fun k _ => hc.st k) fun r m _ e => hc.bn r m e
  have sl2 : Sl 9 [x, y, z, u, .ref p, .ref la] (((L2.start N_greatest_taking [x, y, z, u]).set 4 (some (.ref p))).set 5 (some (.ref la))) := ⟨rfl, fun i v e => by
    match i, e with
    | 0, e => exact congrArg some e
    | 1, e => exact congrArg some e
    | 2, e => exact congrArg some e
    | 3, e => exact congrArg some e
    | 4, e => exact congrArg some e
    | 5, e => exact congrArg some e
    | i + 6, e => cases e⟩
  have hbl : bl.length = tb.types.length := by rw [hc.len, tb.lots_len]
  -- the call that looks for a way
  have enext : ∀ {σ' : L2.St} {H' : Hp} {f : Nat → Nat → Int}, Sl 9 [x, y, z, u, .ref p, .ref la] σ' → Ex H H' → MatM tb.nk tb.types.length f p rs H' → H' la = some (.lst (rowV tb.nk fun k => fn st k - colS tb.types.length f k)) → Tk tb.nk tb.types.length (accL tb.lots) (fn st) (bnf bl) (isIn l) f →
      EvS (tCall (sp_next_way K) [] E0 (tCons (tVar 0) (tCons (tVar 2) (tCons (tVar 3) (tCons (tVar 4) (tCons (tVar 5) tNil)))))) σ' H' (nextS K tb.nk tb.types.length tb.lots (fn st) bl f l) := fun {σ' H' f} sl ex hM hla htk =>
    e_call (a_cons (sl.var (v := x) rfl ((tabS K tb).up _ _ _ ex hx)) (a_cons (sl.var (v := z) rfl ((dat K (dOs bl)).up _ _ _ ex hz)) (a_cons (sl.var (v := u) rfl ((dat K (dNs l)).up _ _ _ ex hu)) (a_cons (sl.var (v := .ref p) (s := rowsS K tb.nk tb.types.length f) rfl ⟨p, rs, hM.rows⟩) (a_cons (sl.var (v := .ref la) (s := lstS K ((List.range tb.nk).map fun k => .int (fn st k - colS tb.types.length f k))) rfl ⟨la, _, rfl, hla, by
      rw [rowV_ints, show (List.range tb.nk).map (fun k => PyData.int (fn st k - colS tb.types.length f k)) = ((List.range tb.nk).map fun k => fn st k - colS tb.types.length f k).map PyData.int by rw [List.map_map]; rfl]
      exact tpAll_ints _⟩) a_nil))))) fun vs H1 p Q q => ⟨tb, bl, l, fn st, f, p, g, hl, hn, hbl, htk, q⟩
  refine q_set (enext sl2 (e1.trans e2) hM2 kla htk0) fun wv H3 e3 hwv => ?_
  refine q_whileW (b := fun _ _ _ => True) (fun m σ' H' => ∃ (f : Nat → Nat → Int) (wv : V), m = (Sg tb.nk (fn st) - val tb.nk tb.types.length f).toNat ∧ Tk tb.nk tb.types.length (accL tb.lots) (fn st) (bnf bl) (isIn l) f ∧ MatM tb.nk tb.types.length f p rs H' ∧
    H' la = some (.lst (rowV tb.nk fun k => fn st k - colS tb.types.length f k)) ∧ Sl 9 [x, y, z, u, .ref p, .ref la] σ' ∧ σ'[7]? = some (some wv) ∧ (nextS K tb.nk tb.types.length tb.lots (fn st) bl f l).P wv H' ∧ Ex H H') _
    ⟨_, wv, rfl, htk0, hM2.ex e3, e3 _ _ kla, sl2.set (by show 6 ≤ 7; decide), sl_same (n := 9) rfl (by decide), hwv, (e1.trans e2).trans e3⟩ ?_
  rintro m σ' H' ⟨f, wv, rfl, htk, hM, hla, sl, h7, hwv, ex⟩
  rcases hwv with ⟨rfl, hno⟩ | ⟨wy, rn, tk, hw, hwi, hroom, hwl⟩
  · -- no way more
    refine ⟨false, t_test (EvS.cast (e_notN (d := .none) (e_var (s := dat K .none) h7 .non)) rfl), (fun hb => by cases hb), fun _ H4 e4 => ?_⟩
    have hMx : Mx tb.nk tb.types.length (accL tb.lots) (fn st) (bnf bl) (isIn l) f := ⟨htk, fun r hr => by
      have h1 := hno r hr
      unfold hasR at h1
      cases hb : bnf bl r with
      | none => rw [hb] at h1; cases h1
      | some m =>
        rw [hb] at h1
        have h1 := of_decide_eq_false h1
        have h2 := htk.bnd r m hr.1 hb
        exact ⟨m, rfl, by omega⟩⟩
    refine s_retR (e_tupleL (a_cons (e_matT (K := K) (j := 8) (vs := [8]) (hM.ex e4) (sl.at_ 4 _ rfl) (by omega) (fun w => ?_) (fun w => ?_)) a_nil)) ((kk f hMx).of (ex.trans e4))
    · show ((σ'.set 8 none).set 8 (some w)).set 8 none = σ'.set 8 none
      rw [List.set_set, List.set_set]
    · have : (wipe σ' [8]).length = 9 := by rw [wipe_length]; exact sl.len
      exact sl_same this (by decide)
  · -- a way: it is turned
    obtain ⟨k0, r0, wt, rfl, hk0⟩ := hwi.first
    obtain ⟨hk0n, _, hk0l⟩ := mem_opn.mp hk0
    obtain ⟨wa, wxs, hwe, hwa, hwx⟩ := id hw
    refine ⟨true, ?_, fun _ H4 e4 => ?_, fun hb => by cases hb⟩
    · refine t_test fun H5 e5 Q q => ?_
      exact ⟨wv, h7, q _ H5 (Evl.Ex.refl _) (by
        rw [hwe]
        show V.bl (!decide (V.ref wa = V.non)) = V.bl true
        rfl)⟩
    have hM4 := hM.ex e4
    have hla4 := e4 _ _ hla
    have ex4 := ex.trans e4
    have hw4 : (lstS K (((k0, r0) :: wt).map dPr)).P wv H4 := Sh.up _ _ _ _ e4 hw
    have eww : ∀ Q : VK, (∀ (m : Int) H5, Ex H4 H5 → 0 < m → m ≤ fn st k0 - colS tb.types.length f k0 → (∀ (i k r k' r' : Nat), ((k0, r0) :: wt)[i]? = some (k, r) → ((k0, r0) :: wt)[i + 1]? = some (k', r') → m ≤ f r k') → (∀ x, bnf bl rn = some x → rowS tb.nk f rn + m ≤ x) → Q (.int m) H5) →
        tCall (sp_way_width K) [] E0 (tCons (tVar 2) (tCons (tVar 4) (tCons (tVar 5) (tCons (tVar 7) tNil)))) σ' H4 Q := fun Q qq => by
      refine ⟨z, sl.at_ 2 _ rfl, .ref p, sl.at_ 4 _ rfl, .ref la, sl.at_ 5 _ rfl, wv, h7, ?_⟩
      show sp_way_width K [z, .ref p, .ref la, wv] H4 _ E0
      refine ⟨bl, tb.nk, tb.types.length, tb.lots, l, opn tb.nk tb.types.length tb.lots (fn st) f l, tk, f, fun k => fn st k - colS tb.types.length f k, k0, r0, rn, wt, ⟨(dat K (dOs bl)).up _ _ _ ex4 hz, ⟨p, rs, hM4.rows⟩, ⟨la, _, rfl, hla4, ?_⟩, hw4, trivial⟩, hbl, hwi, hroom, by show 0 < fn st k0 - _; omega, by omega, fun m H5 e5 m1 m2 m3 m4 => qq m H5 e5 m1 m2 m3 m4⟩
      rw [rowV_ints, show (List.range tb.nk).map (fun k => PyData.int (fn st k - colS tb.types.length f k)) = ((List.range tb.nk).map fun k => fn st k - colS tb.types.length f k).map PyData.int by rw [List.map_map]; rfl]
      exact tpAll_ints _
    have eturn : ∀ Dn : Ends, (∀ (m : Int) H6, Stay la rs H4 H6 → MatM tb.nk tb.types.length (turnW m ((k0, r0) :: wt) f) p rs H6 → 0 < m → m ≤ fn st k0 - colS tb.types.length f k0 → (∀ (i k r k' r' : Nat), ((k0, r0) :: wt)[i]? = some (k, r) → ((k0, r0) :: wt)[i + 1]? = some (k', r') → m ≤ f r k') → (∀ x, bnf bl rn = some x → rowS tb.nk f rn + m ≤ x) →
        H6 la = some (.lst (rowV tb.nk fun k => if k = k0 then fn st k0 - colS tb.types.length f k0 - m else fn st k - colS tb.types.length f k)) → Dn.nx σ' H6) →
        tDrop (tCall (sp_turn_way K) [] E0 (tCons (tVar 4) (tCons (tVar 5) (tCons (tVar 7) (tCons (tCall (sp_way_width K) [] E0 (tCons (tVar 2) (tCons (tVar 4) (tCons (tVar 5) (tCons (tVar 7) tNil))))) tNil))))) Dn σ' H4 := fun Dn qq => by
      refine ⟨.ref p, sl.at_ 4 _ rfl, .ref la, sl.at_ 5 _ rfl, wv, h7, eww _ fun m H5 e5 m1 m2 m3 m4 => ?_⟩
      show sp_turn_way K [.ref p, .ref la, wv, .int m] H5 (fun _ H1 => Dn.nx σ' H1) E0
      refine ⟨tb.nk, tb.types.length, f, fun k => fn st k - colS tb.types.length f k, m, p, la, rs, wv, k0, r0, wt, rfl, hM4.ex e5, e5 _ _ hla4, lars, lap, Sh.up _ _ _ _ e5 hw4, fun i k r q => ⟨(hwi.ok i k r q).1, (hwi.ok i k r q).2.1⟩, fun H6 hs hl6 hM6 => qq m H6 (fun a o q1 q2 q3 => hs a o q1 q2 (e5 _ _ q3)) hM6 m1 m2 m3 m4 hl6⟩
    refine q_id (eturn _ fun m H6 hs hM6 m1 m2 m3 m4 hl6 => ?_)
    obtain ⟨kn, hlast⟩ := hwi.last
    have htu := turn_ok m1 wt f k0 r0 kn rn htk (hwi.way m3) hlast (by omega) m4
    have ex6 : Ex H H6 := fun a o q => hs a o (fun zz => by rw [zz, la0] at q; cases q) (fun zz => by rw [nrs a zz] at q; cases q) (ex4 _ _ q)
    have hl6' : H6 la = some (.lst (rowV tb.nk fun k => fn st k - colS tb.types.length (turnW m ((k0, r0) :: wt) f) k)) := by
      rw [hl6]
      congr 2
      refine rowV_congr fun k _ => ?_
      rw [htu.col]
      by_cases e : k = k0
      · subst e
        rw [if_pos rfl, if_pos rfl]
        omega
      · rw [if_neg e, if_neg e]
        omega
    have hrn : rn < tb.types.length := by
      rw [List.getLast?_eq_getElem?] at hlast
      exact (hwi.ok _ _ _ hlast).2.1
    have hval := htu.val hrn
    have hle := htu.tk.val_le
    refine s_set (enext sl ex6 hM6 hl6' htu.tk) fun wv7 H7 e7 hwv7 => ⟨(Sg tb.nk (fn st) - val tb.nk tb.types.length (turnW m ((k0, r0) :: wt) f)).toNat, by omega, _, wv7, rfl, htu.tk, hM6.ex e7, e7 _ _ hl6', sl.set (by show 6 ≤ 7; decide), sl_same sl.len (by decide), hwv7, ex6.trans e7⟩
end
end K45
/-! gap_beside .. greatest_full. -/
namespace K45
open PySem L2 RZ
theorem EvI.cast {K : Fg} {wi : TI} {σ : L2.St} {H : Hp} {n m : Nat} {Y : Nat → V → Hp → Prop} (h : EvI K wi σ H n Y) (e : n = m) : EvI K wi σ H m Y := e ▸ h
/-! ### zip of two tuples -/
section
variable {K : Fg} {σ : L2.St} {H : Hp} {ta tb te : TE}
theorem walk_zipT {a b : Addr} {xs ys : List V} {n : Nat} (hn : n = xs.length) (hn2 : n = ys.length) : Walk (ItzT K a b) n (fun H => SqT K H a xs ∧ SqT K H b ys) (YPair (fun i => xs[i]?) (fun i => ys[i]?)) := by
  refine ⟨fun i _ hi q => ⟨xs, ys, xs[i]'(by omega), ys[i]'(by omega), q.1, q.2, List.getElem?_eq_getElem _, List.getElem?_eq_getElem _⟩, fun _ q => ⟨xs, ys, q.1, q.2, by omega⟩, fun i H v H' _ q y => ?_⟩
  obtain ⟨T, x, z, h1, h2, h3, h4, h5⟩ := y
  exact ⟨T, x, z, h1, h2, h3, h4 xs q.1, h5 ys q.2⟩
theorem i_zipT {ds es : List PyData} (ha : EvS ta σ H (dat K (.tuple ds))) (hb : EvS tb σ H (dat K (.tuple es))) (hl : ds.length = es.length) : EvI K (iZipA K (tCons ta (tCons tb tNil))) σ H ds.length (fun i w H => ∃ d e, ds[i]? = some d ∧ es[i]? = some e ∧ Tp K H w (.tuple [d, e])) := fun H1 e1 R r =>
  ha H1 e1 _ fun v H2 e2 pv => hb H2 (e1.trans e2) _ fun w H3 e3 pw => by
    obtain ⟨a, xs, rfl, hq, hd⟩ := Tp.tup_inv pv
    obtain ⟨b, ys, rfl, hq', hd'⟩ := Tp.tup_inv pw
    have hq3 := Evl.ex_t e3 hq
    have hd3 := hd.mono (Gt.of_ex e3)
    refine ⟨a, b, xs, ys, rfl, .inr ⟨hq3, hq', r _ H3 (e2.trans e3) ?_⟩⟩
    refine (walk_zipT (xs := xs) (ys := ys) (by rw [hd.len]) (by rw [hd'.len, hl])).mono (fun H4 e4 => ⟨Evl.ex_t e4 hq3, Evl.ex_t e4 hq'⟩) fun i Ha w' Hb _ e4 ⟨T, x, y, h1, h2, h3, h4, h5⟩ => ?_
    obtain ⟨d, g1, g2⟩ := hd3.get' h4
    obtain ⟨e, g3, g4⟩ := hd'.get' h5
    subst h1 h3
    exact ⟨Evl.Ex.new h2, d, e, g1, g3, tp_pair h2 (g2.mono (Gt.of_ex e4)) (g4.mono (Gt.of_ex e4))⟩
end
/-- kinds that are reached, as a dict -/
def kinS (nk nt : Nat) (lots : List (List Nat)) (f : Nat → Nat → Int) (l ks : List Nat) : Sh := ⟨fun v H => ∃ d tk tt, v = .ref d ∧ H d = some (.dK (kvK tk)) ∧ Ways nk nt lots f l ks tk tt, fun _ _ _ e ⟨d, tk, tt, h1, h2, h3⟩ => ⟨d, tk, tt, h1, e _ _ h2, h3⟩⟩
section
variable {K : Fg} {σ : L2.St} {H : Hp} {ta tb te : TE}
theorem e_ways0 {nk nt : Nat} {lots : List (List Nat)} {f : Nat → Nat → Int} {l ks : List Nat} (ha : EvS ta σ H (waysS K nk nt lots f l ks)) : EvS (tOp (rIx K) ta (tC (.int 0))) σ H (kinS nk nt lots f l ks) :=
  e_two ha (e_int (i := 0)) fun x y H1 ex px py Q q => by
    have py : y = .int 0 := py
    subst py
    obtain ⟨a, d1, d2, tk, tt, rfl, h1, h2, h3, h4⟩ := px
    exact .inr (.inl ⟨a, _, 0, .ref d1, rfl, rfl, h1, show atI [V.ref d1, V.ref d2] (0 : Int) = some (.ref d1) from rfl, q _ H1 (Evl.Ex.refl _) ⟨d1, tk, tt, rfl, h2, h4⟩⟩)
theorem e_sortedK {nk nt : Nat} {lots : List (List Nat)} {f : Nat → Nat → Int} {l ks gs : List Nat} (h : EvS te σ H (kinS nk nt lots f l ks)) (hn : nk ≤ 60) (hp : gs.Pairwise (· < ·)) (hg : ∀ tk tt, Ways nk nt lots f l ks tk tt → ∀ k, k ∈ gs ↔ k ∈ kyK tk) :
    EvS (tCB (fun xs H Q => ∃ (a : Addr) (kvs : List (Key × V)) (ks : List Int), xs = [.ref a] ∧ Rd H a (.dK kvs) ∧ kvs.map (·.1) = ks.map Sum.inl ∧ ks.length < 64 ∧ ∀ (ys : List Int) (p : Addr), ys.Perm ks → ys.Pairwise (· ≤ ·) → H p = none → Q (.ref p) (upd H p (.lst (ys.map V.int)))) (tCons te tNil)) σ H (lstS K (gs.map dN)) :=
  e_CB (a_cons h a_nil) fun vs H1 _ p Q q => by
    obtain ⟨v, rfl, d, tk, tt, rfl, h1, h2⟩ := a1 p
    have hlen : tk.length ≤ nk := h2.tk_len
    refine ⟨d, _, (kyK tk).map fun n : Nat => (n : Int), rfl, .inl h1, ?_, by rw [List.length_map, List.length_map]; omega, fun ys p' hp' hs hn' => q _ _ (Evl.Ex.new hn') ?_⟩
    · unfold kvK
      rw [List.map_map, List.map_map, List.map_map]
      rfl
    · have e : ys = gs.map fun n : Nat => (n : Int) := by
        have pg := pairwise_cast hp
        have nd1 : (gs.map fun n : Nat => (n : Int)).Nodup := pg.imp fun h => Int.ne_of_lt h
        have nd2 : ((kyK tk).map fun n : Nat => (n : Int)).Nodup := List.pairwise_map.mpr (List.Pairwise.imp (fun h z => h (by omega)) h2.nd)
        have pm : (gs.map fun n : Nat => (n : Int)).Perm ((kyK tk).map fun n : Nat => (n : Int)) := (List.perm_ext_iff_of_nodup nd1 nd2).mpr fun k => by
          rw [List.mem_map, List.mem_map]
          exact ⟨fun ⟨j, a, b⟩ => ⟨j, (hg tk tt h2 j).mp a, b⟩, fun ⟨j, a, b⟩ => ⟨j, (hg tk tt h2 j).mpr a, b⟩⟩
        exact (hp'.trans pm.symm).eq_of_pairwise (le := fun a b : Int => a ≤ b) (fun a b _ _ h1 h2 => Int.le_antisymm h1 h2) hs (pg.imp fun h => Int.le_of_lt h)
      subst e
      exact ⟨p', _, rfl, upd_same, by rw [map_dN]; exact tpAll_ints _⟩
end
noncomputable def gapL (nk nt : Nat) (lots : List (List Nat)) (S : Nat → Int) (l : List Nat) (f : Nat → Nat → Int) : List Nat := (List.range nk).filter fun k => @decide (RK nk nt (accL lots) S (isIn l) f k) (Classical.propDecidable _)
theorem gapL_sorted {nk nt : Nat} {lots : List (List Nat)} {S : Nat → Int} {l : List Nat} {f : Nat → Nat → Int} : (gapL nk nt lots S l f).Pairwise (· < ·) := List.Pairwise.filter _ List.pairwise_lt_range
theorem RK.lt {nk nt : Nat} {acc : Nat → Nat → Prop} {S : Nat → Int} {b : Nat → Option Int} {T : Nat → Prop} {f : Nat → Nat → Int} {k : Nat} (h : RK nk nt acc S T f k) (ht : Tk nk nt acc S b T f) : k < nk := by
  cases h with
  | start h1 _ _ _ _ => exact h1
  | step _ _ _ _ h5 => exact (ht.out _ _ h5).2.1
theorem mem_gapL {nk nt : Nat} {lots : List (List Nat)} {S : Nat → Int} {b : Nat → Option Int} {l : List Nat} {f : Nat → Nat → Int} {k : Nat} (ht : Tk nk nt (accL lots) S b (isIn l) f) (hl : ∀ r ∈ l, r < nt) : k ∈ gapL nk nt lots S l f ↔ RK nk nt (accL lots) S (isIn l) f k := by
  unfold gapL
  rw [List.mem_filter, List.mem_range]
  exact ⟨fun h => @of_decide_eq_true _ (Classical.propDecidable _) h.2, fun h => ⟨h.lt ht, @decide_eq_true _ (Classical.propDecidable _) h⟩⟩
theorem filter_eq {l l' : List Nat} {p q : Nat → Bool} (h : l' = l.filter p) (hs : ∀ r, r ∈ l' ↔ r ∈ l ∧ q r = true) : l' = l.filter q := by
  rw [h]
  refine List.filter_congr fun r hr => ?_
  have h1 := hs r
  rw [h, List.mem_filter] at h1
  cases h2 : q r with
  | true => exact (h1.mpr ⟨hr, h2⟩).2
  | false =>
    cases h3 : p r with
    | false => rfl
    | true =>
      have := (h1.mp ⟨hr, h3⟩).2
      rw [h2] at this
      cases this
theorem gw_filter {lots : List (List Nat)} {st : List Int} {bl : List (Option Int)} {l : List Nat} : ∃ p : Nat → Bool, gw lots st bl l = l.filter p := ⟨_, rfl⟩
theorem sorted_eqN {a b : List Nat} (ha : a.Pairwise (· < ·)) (hb : b.Pairwise (· < ·)) (h : ∀ k, k ∈ a ↔ k ∈ b) : a = b :=
  ((List.perm_ext_iff_of_nodup (ha.imp fun h => Nat.ne_of_lt h) (hb.imp fun h => Nat.ne_of_lt h)).mpr h).eq_of_pairwise (le := fun x y : Nat => x < y) (fun _ _ _ _ h1 h2 => by omega) ha hb
/-- some greatest taking; its gap; those who take of it -/
def mxS (K : Fg) (nk nt : Nat) (lots : List (List Nat)) (st : List Int) (bl : List (Option Int)) (l : List Nat) : Sh := ⟨fun v H => ∃ f, Mx nk nt (accL lots) (fn st) (bnf bl) (isIn l) f ∧ Tp K H v (dTk nk nt f), fun _ _ _ e ⟨f, h1, h2⟩ => ⟨f, h1, h2.mono (Gt.of_ex e)⟩⟩
def gapS (K : Fg) (nk nt : Nat) (lots : List (List Nat)) (st : List Int) (bl : List (Option Int)) (l : List Nat) : Sh := ⟨fun v H => ∃ f, Mx nk nt (accL lots) (fn st) (bnf bl) (isIn l) f ∧ Tp K H v (dNs (gapL nk nt lots (fn st) l f)), fun _ _ _ e ⟨f, h1, h2⟩ => ⟨f, h1, h2.mono (Gt.of_ex e)⟩⟩
def gonS (K : Fg) (nk nt : Nat) (lots : List (List Nat)) (st : List Int) (bl : List (Option Int)) (l : List Nat) : Sh := ⟨fun v H => ∃ f, Mx nk nt (accL lots) (fn st) (bnf bl) (isIn l) f ∧ Tp K H v (dNs (takers lots l (gapL nk nt lots (fn st) l f))), fun _ _ _ e ⟨f, h1, h2⟩ => ⟨f, h1, h2.mono (Gt.of_ex e)⟩⟩
section
variable {P : Program} {w : World} {K : Fg} {mg : Str → Option Value} {base : Heap}
abbrev s_gap_beside : Stmt := topS 38
abbrev N_gap_beside : List Str := ["table", "stock", "types", "taking", "left", "units", "taken"]
theorem scgap_beside : FnScope N_gap_beside ["table", "stock", "types", "taking"] (defScope s_gap_beside) := ⟨rfl, rfl, rfl, by decide +kernel, rfl, by decide +kernel, by decide +kernel⟩
def sp_gap_beside (K : Fg) : Sp := fun vs H Q _ => ∃ (T : Tab) (st : List Int) (l gs : List Nat) (b : Nat → Option Int) (f : Nat → Nat → Int), AtAll H vs [tabS K T, dat K (dIs st), dat K (dNs l), dat K (dTk T.nk T.types.length f)] ∧ T.Ok ∧ st.length = T.nk ∧ (∀ r ∈ l, r < T.types.length) ∧ l.length ≤ 1000 ∧
  Tk T.nk T.types.length (accL T.lots) (fn st) b (isIn l) f ∧ gs.Pairwise (· < ·) ∧ (∀ k, k ∈ gs ↔ RK T.nk T.types.length (accL T.lots) (fn st) (isIn l) f k) ∧ Ret (dat K (dNs gs)) H Q
theorem ok_gap_beside (T : Bt mg) (D : Df K mg "gap_beside" s_gap_beside ["table", "stock", "types", "taking"]) (G_units_by_kind : OkD P w K mg base CX0 1 "units_by_kind" ["table", "taking"] (sp_units_by_kind K)) (G_open_kinds : OkD P w K mg base CX0 3 "open_kinds" ["table", "types", "left"] (sp_open_kinds K))
    (G_ways_from : OkD P w K mg base CX0 2 "ways_from" ["table", "types", "rows", "kinds"] (sp_ways_from K)) : OkD P w K mg base CX0 4 "gap_beside" ["table", "stock", "types", "taking"] (sp_gap_beside K) := by
  refine OkD.of D fun fa fd F => F.ok scgap_beside (fun vs H Q E ⟨_, _, _, _, _, _, h, _⟩ => atLen h) (fun cdv A outer s H vs Q E hr ⟨tb, st, l, gs, b, f, h, g, hst, hl, hn, htk, hp, hg, kk⟩ => ?_)
  obtain ⟨x, y, z, u, rfl, hx, hy, hz, hu⟩ := a4 h
  refine ⟨_, (pss_cons (ps_setLc (i := 4) (own := [("units", 5), ("taken", 6)]) (tt := tYes) rfl scgap_beside.nd rfl rfl (sw_true rfl rfl rfl (by decide +kernel)) (k_zip K (by rfl) T.b_zip (pa_cons (pv 1) (pa_cons (pe_d G_units_by_kind hr (pa_cons (pv 0) (pa_cons (pv 3) pa_nil))) pa_nil))) (blkOk_by (N := N_gap_beside) (sc := (defScope s_gap_beside)) (by decide +kernel)) (fun _ _ _ _ _ => (k_pgt K (n := 2) rfl (pgs_cons (pg_name (i := 5) scgap_beside.nd rfl (by first | exact Or.inl rfl | exact Or.inr rfl)) (pgs_cons (pg_name (i := 6) scgap_beside.nd rfl (by first | exact Or.inl rfl | exact Or.inr rfl)) pgs_nil)))) (fun _ _ _ _ _ => pts_nil) (fun _ _ _ _ _ => (pe_op op_sub (pv 5) (pv 6)))) (pss_one (ps_ret (pe_callTy (k_tuple K) (by rfl) T.b_tuple (by decide +kernel) (pa_cons (pe_callB (call_sortedDI rfl) (by rfl) T.b_sorted (by decide +kernel) (pa_cons (pe_ix (k_ix K) (pe_d G_ways_from hr (pa_cons (pv 0) (pa_cons (pv 2) (pa_cons (pv 3) (pa_cons (pe_d G_open_kinds hr (pa_cons (pv 0) (pa_cons (pv 2) (pa_cons (pv 4) pa_nil)))) pa_nil))))) pe_int (fun _ _ => rfl)) pa_nil)) pa_nil))))), ?_⟩
  have hnk := g.nk
  have hnt := g.nt
  have e1 : EvS (tCall (sp_units_by_kind K) [] E0 (tCons (tVar 0) (tCons (tVar 3) tNil))) (L2.start N_gap_beside [x, y, z, u]) H (dat K (dRow tb.nk (colS tb.types.length f))) :=
    e_call (a_cons (e_var (v := x) rfl hx) (a_cons (e_var (v := u) rfl hu) a_nil)) fun vs H1 p Q q => ⟨tb, _, f, p, hnk, hnt, q⟩
  have hi := i_zipT (K := K) (e_var (σ := L2.start N_gap_beside [x, y, z, u]) (i := 1) (v := y) rfl hy) e1 (by rw [List.length_map, List.length_map, List.length_map, List.length_range]; exact hst)
  rw [List.length_map, hst] at hi
  refine q_set (EvS.map' (List.range tb.nk) (fun k => .int (fn st k - colS tb.types.length f k)) (e_lc (List.range tb.nk) (fun _ => true) _ (hi.cast List.length_range.symm) (by rw [List.length_range]; omega) fun i k v H1 ex hk ⟨d, e, hd, he, hv⟩ => ?_)) fun v1 H1 e1 p1 => ?_
  · have hlt := (List.getElem?_eq_some_iff.mp hk).1
    rw [List.length_range] at hlt
    rw [List.getElem?_range hlt] at hk
    have hk := Option.some.inj hk
    subst hk
    rw [List.getElem?_map, fn_get (by omega)] at hd
    have hd := Option.some.inj hd
    have he : (((List.range tb.nk).map (colS tb.types.length f)).map PyData.int)[i]? = some e := he
    rw [List.map_map, get_range _ hlt] at he
    have he := Option.some.inj he
    subst hd he
    obtain ⟨w1, w2, q1, q2, hgo⟩ := goes_two (i := 5) (j := 6) (σ := wipe (L2.start N_gap_beside [x, y, z, u]) [5, 6]) hv
    exact ⟨_, hgo, rfl, t_yes, fun _ => EvS.toD (e_I0 (g := fun a b => .int (a - b)) (e_var (v := w1) rfl q1.int_inv) (e_var (v := w2) rfl q2.int_inv))⟩
  · have hx1 := (tabS K tb).up _ _ _ e1 hx
    have hz1 := (dat K (dNs l)).up _ _ _ e1 hz
    have hu1 := (dat K (dTk tb.nk tb.types.length f)).up _ _ _ e1 hu
    refine s_retR (e_tupleL (a_cons (e_sortedK (nk := tb.nk) (nt := tb.types.length) (lots := tb.lots) (f := f) (l := l) (ks := opn tb.nk tb.types.length tb.lots (fn st) f l) (e_ways0 (e_call (a_cons (e_var (v := x) rfl hx1) (a_cons (e_var (v := z) rfl hz1) (a_cons (e_var (v := u) (s := rowsS K tb.nk tb.types.length f) rfl (tk_rows hu1)) (a_cons (e_call (a_cons (e_var (v := x) rfl hx1) (a_cons (e_var (v := z) rfl hz1) (a_cons (e_var (v := v1) rfl p1) a_nil))) fun vs H2 p Q q => ⟨tb, l, _, p, g, hl, hn, q⟩) a_nil)))) fun vs H2 p Q q => ⟨tb, l, _, f, p, g, hl, hn, opn_nodup, fun k hk => opn_lt hk, q⟩)) (by omega) hp fun tk tt hW k => ?_) a_nil)) (kk.of e1)
    rw [hg, hW.rk hl htk]
abbrev s_worst_gap : Stmt := topS 39
abbrev N_worst_gap : List Str := ["table", "stock", "bounds", "types"]
theorem scworst_gap : FnScope N_worst_gap ["table", "stock", "bounds", "types"] (defScope s_worst_gap) := ⟨rfl, rfl, rfl, by decide +kernel, rfl, by decide +kernel, by decide +kernel⟩
def sp_worst_gap (K : Fg) : Sp := fun vs H Q _ => ∃ (T : Tab) (st : List Int) (bl : List (Option Int)) (l : List Nat), AtAll H vs [tabS K T, dat K (dIs st), dat K (dOs bl), dat K (dNs l)] ∧ T.Ok ∧ Case T.lots st bl ∧ st.length = T.nk ∧ (∀ r ∈ l, r < T.types.length) ∧ l.length ≤ 1000 ∧
  ∀ f gs, Mx T.nk T.types.length (accL T.lots) (fn st) (bnf bl) (isIn l) f → gs.Pairwise (· < ·) → (∀ k, k ∈ gs ↔ RK T.nk T.types.length (accL T.lots) (fn st) (isIn l) f k) → Ret (dat K (dNs gs)) H Q
theorem ok_worst_gap (T : Bt mg) (D : Df K mg "worst_gap" s_worst_gap ["table", "stock", "bounds", "types"]) (G_gap_beside : OkD P w K mg base CX0 4 "gap_beside" ["table", "stock", "types", "taking"] (sp_gap_beside K)) (G_greatest_taking : OkD P w K mg base CX0 5 "greatest_taking" ["table", "stock", "bounds", "types"] (sp_greatest_taking K)) :
    OkD P w K mg base CX0 6 "worst_gap" ["table", "stock", "bounds", "types"] (sp_worst_gap K) := by
  refine OkD.of D fun fa fd F => F.ok scworst_gap (fun vs H Q E ⟨_, _, _, _, h, _⟩ => atLen h) (fun cdv A outer s H vs Q E hr ⟨tb, st, bl, l, h, g, hc, hst, hl, hn, kk⟩ => ?_)
  obtain ⟨x, y, z, u, rfl, hx, hy, hz, hu⟩ := a4 h
  refine ⟨_, (pss_one (ps_ret (pe_d G_gap_beside hr (pa_cons (pv 0) (pa_cons (pv 1) (pa_cons (pv 3) (pa_cons (pe_d G_greatest_taking hr (pa_cons (pv 0) (pa_cons (pv 1) (pa_cons (pv 2) (pa_cons (pv 3) pa_nil))))) pa_nil))))))), ?_⟩
  exact s_retR (e_call (a_cons (e_var (v := x) rfl hx) (a_cons (e_var (v := y) rfl hy) (a_cons (e_var (v := u) rfl hu) (a_cons (s := mxS K tb.nk tb.types.length tb.lots st bl l) (e_call (a_cons (e_var (v := x) rfl hx) (a_cons (e_var (v := y) rfl hy) (a_cons (e_var (v := z) rfl hz) (a_cons (e_var (v := u) rfl hu) a_nil)))) fun vs H1 p Q q => ⟨tb, st, bl, l, p, g, hc, hst, hl, hn, fun f hf v H2 e p => q v H2 e ⟨f, hf, p⟩⟩) a_nil)))) fun vs H1 p Q q => by
    obtain ⟨x1, x2, x3, x4, rfl, p1, p2, p3, f, hf, p4⟩ := a4 p
    exact ⟨tb, st, l, gapL tb.nk tb.types.length tb.lots (fn st) l f, bnf bl, f, ⟨p1, p2, p3, p4, trivial⟩, g, hst, hl, hn, hf.tk, gapL_sorted, fun k => mem_gapL hf.tk hl, fun v H2 e p => q v H2 e ⟨f, hf, p⟩⟩) (s := gapS K tb.nk tb.types.length tb.lots st bl l) fun v H1 e ⟨f, hf, p⟩ => kk f _ hf gapL_sorted (fun k => mem_gapL hf.tk hl) v H1 e p
abbrev s_greatest_within : Stmt := topS 41
abbrev N_greatest_within : List Str := ["table", "stock", "bounds", "types", "gone", "request"]
theorem scgreatest_within : FnScope N_greatest_within ["table", "stock", "bounds", "types"] (defScope s_greatest_within) := ⟨rfl, rfl, rfl, by decide +kernel, rfl, by decide +kernel, by decide +kernel⟩
def sp_greatest_within (K : Fg) : Sp := fun vs H Q _ => ∃ (T : Tab) (st : List Int) (bl : List (Option Int)) (l : List Nat), AtAll H vs [tabS K T, dat K (dIs st), dat K (dOs bl), dat K (dNs l)] ∧ T.Ok ∧ Case T.lots st bl ∧ st.length = T.nk ∧ (∀ r ∈ l, r < T.types.length) ∧ l.length ≤ 1000 ∧ Ret (dat K (dNs (gw T.lots st bl l))) H Q
theorem ok_greatest_within (T : Bt mg) (D : Df K mg "greatest_within" s_greatest_within ["table", "stock", "bounds", "types"]) (G_worst_gap : OkD P w K mg base CX0 6 "worst_gap" ["table", "stock", "bounds", "types"] (sp_worst_gap K)) (G_takers_among : OkD P w K mg base CX0 2 "takers_among" ["table", "types", "kinds"] (sp_takers_among K)) :
    OkD P w K mg base CX0 7 "greatest_within" ["table", "stock", "bounds", "types"] (sp_greatest_within K) := by
  refine OkD.of D fun fa fd F => F.ok scgreatest_within (fun vs H Q E ⟨_, _, _, _, h, _⟩ => atLen h) (fun cdv A outer s H vs Q E hr ⟨tb, st, bl, l, h, g, hc, hst, hl, hn, kk⟩ => ?_)
  obtain ⟨x, y, z, u, rfl, hx, hy, hz, hu⟩ := a4 h
  refine ⟨_, (pss_cons (ps_set (i := 4) scgreatest_within.nd rfl (by first | exact Or.inl rfl | exact Or.inr rfl) (pe_d G_takers_among hr (pa_cons (pv 0) (pa_cons (pv 3) (pa_cons (pe_d G_worst_gap hr (pa_cons (pv 0) (pa_cons (pv 1) (pa_cons (pv 2) (pa_cons (pv 3) pa_nil))))) pa_nil))))) (pss_one (ps_ret (pe_callTy (k_tuple K) (by rfl) T.b_tuple (by decide +kernel) (pa_cons (pe_lc (own := [("request", 5)]) (g := gName 5) rfl scgreatest_within.nd (k_pit K (pv 3)) (blkOk_by (N := N_greatest_within) (sc := (defScope s_greatest_within)) (by decide +kernel)) (fun _ _ _ _ _ => (pg_name (i := 5) scgreatest_within.nd rfl (by first | exact Or.inl rfl | exact Or.inr rfl))) (fun _ _ _ _ _ => (pts_one (pt_cmpR (k_notIn K) (pv 5) (pv 4) (by rfl)))) (fun _ _ _ _ _ => (pv 5))) pa_nil))))), ?_⟩
  have hll : ∀ r ∈ l, r < tb.lots.length := fun r hr => by rw [tb.lots_len]; exact hl r hr
  refine q_set (s := gonS K tb.nk tb.types.length tb.lots st bl l) (e_call (a_cons (e_var (v := x) rfl hx) (a_cons (e_var (v := u) rfl hu) (a_cons (s := gapS K tb.nk tb.types.length tb.lots st bl l) (e_call (a_cons (e_var (v := x) rfl hx) (a_cons (e_var (v := y) rfl hy) (a_cons (e_var (v := z) rfl hz) (a_cons (e_var (v := u) rfl hu) a_nil)))) fun vs H1 p Q q => ⟨tb, st, bl, l, p, g, hc, hst, hl, hn, fun f gs hf h1 h2 v H2 e p => q v H2 e ⟨f, hf, by
      have : gs = gapL tb.nk tb.types.length tb.lots (fn st) l f := sorted_eqN h1 gapL_sorted fun k => by rw [h2, mem_gapL hf.tk hl]
      rw [← this]
      exact p⟩⟩) a_nil))) fun vs H1 p Q q => by
    obtain ⟨x1, x2, x3, rfl, p1, p2, f, hf, p3⟩ := a3 p
    exact ⟨tb, l, _, ⟨p1, p2, p3, trivial⟩, g, hl, hn, fun v H2 e p => q v H2 e ⟨f, hf, p⟩⟩) fun v1 H1 e1 p1 => ?_
  obtain ⟨f, hf, p1⟩ := p1
  refine s_retR (EvS.cast (e_tupleL (a_cons (e_lcT l dN (fun r => !(takers tb.lots l (gapL tb.nk tb.types.length tb.lots (fn st) l f)).contains r) dN (e_var (v := u) rfl ((dat K (dNs l)).up _ _ _ e1 hu)) (by omega) (fun _ => rfl) fun r v H2 ex hr hv => ⟨t_test (e_notInN (e_var (v := v) rfl hv.int_inv) (e_var (v := v1) rfl (p1.mono (Gt.of_ex ex)))), fun _ => e_var (v := v) rfl hv⟩) a_nil)) ?_) (kk.of e1)
  have hf' : Mx st.length tb.lots.length (accL tb.lots) (fn st) (bnf bl) (isIn l) f := by rw [hst, tb.lots_len]; exact hf
  have e : gw tb.lots st bl l = l.filter fun r => !(takers tb.lots l (gapL tb.nk tb.types.length tb.lots (fn st) l f)).contains r := by
    have hsub : ∀ r, r ∈ gw tb.lots st bl l ↔ r ∈ l ∧ (!(takers tb.lots l (gapL tb.nk tb.types.length tb.lots (fn st) l f)).contains r) = true := fun r => by
      rw [gw_rest hll hf', Bool.not_eq_true', ← Bool.not_eq_true, List.contains_iff_mem]
      unfold Rest takers
      rw [List.mem_filter, List.any_eq_true]
      constructor
      · rintro ⟨h1, h2⟩
        refine ⟨h1, fun ⟨_, k, hk, hk2⟩ => h2 ⟨hll r h1, h1, k, ?_, hk⟩⟩
        rw [hst, tb.lots_len]
        exact (mem_gapL hf.tk hl).mp (List.contains_iff_mem.mp hk2)
      · rintro ⟨h1, h2⟩
        refine ⟨h1, fun ⟨_, _, k, hk, hk2⟩ => h2 ⟨h1, k, hk2, List.contains_iff_mem.mpr ((mem_gapL hf.tk hl).mpr ?_)⟩⟩
        rw [hst, tb.lots_len] at hk
        exact hk
    obtain ⟨pp, hpp⟩ := gw_filter (lots := tb.lots) (st := st) (bl := bl) (l := l)
    exact filter_eq hpp hsub
  rw [e]
  rfl
abbrev s_greatest_full : Stmt := topS 42
abbrev N_greatest_full : List Str := ["table", "stock", "bounds", "kind"]
theorem scgreatest_full : FnScope N_greatest_full ["table", "stock", "bounds", "kind"] (defScope s_greatest_full) := ⟨rfl, rfl, rfl, by decide +kernel, rfl, by decide +kernel, by decide +kernel⟩
def sp_greatest_full (K : Fg) : Sp := fun vs H Q _ => ∃ (T : Tab) (st : List Int) (bl : List (Option Int)) (k : Nat), AtAll H vs [tabS K T, dat K (dIs st), dat K (dOs bl), intS (k : Int)] ∧ T.Ok ∧ Case T.lots st bl ∧ st.length = T.nk ∧ Ret (dat K (dNs (gw T.lots st bl (two T.lots k)))) H Q
theorem ok_greatest_full (T : Bt mg) (D : Df K mg "greatest_full" s_greatest_full ["table", "stock", "bounds", "kind"]) (G_greatest_within : OkD P w K mg base CX0 7 "greatest_within" ["table", "stock", "bounds", "types"] (sp_greatest_within K)) (G_types_without : OkD P w K mg base CX0 1 "types_without" ["table", "kind"] (sp_types_without K)) :
    OkD P w K mg base CX0 8 "greatest_full" ["table", "stock", "bounds", "kind"] (sp_greatest_full K) := by
  refine OkD.of D fun fa fd F => F.ok scgreatest_full (fun vs H Q E ⟨_, _, _, _, h, _⟩ => atLen h) (fun cdv A outer s H vs Q E hr ⟨tb, st, bl, k, h, g, hc, hst, kk⟩ => ?_)
  obtain ⟨x, y, z, u, rfl, hx, hy, hz, hu⟩ := a4 h
  refine ⟨_, (pss_one (ps_ret (pe_d G_greatest_within hr (pa_cons (pv 0) (pa_cons (pv 1) (pa_cons (pv 2) (pa_cons (pe_d G_types_without hr (pa_cons (pv 0) (pa_cons (pv 3) pa_nil))) pa_nil))))))), s_retR (e_call (a_cons (e_var (v := x) rfl hx) (a_cons (e_var (v := y) rfl hy) (a_cons (e_var (v := z) rfl hz) (a_cons (e_call (a_cons (e_var (v := x) rfl hx) (a_cons (e_var (v := u) rfl hu) a_nil)) fun vs H1 p Q q => ⟨tb, k, p, g, q⟩) a_nil)))) fun vs H1 p Q q => ⟨tb, st, bl, _, p, g, hc, hst, fun r hr => ?_, ?_, q⟩) kk⟩
  · unfold two at hr
    rw [← tb.lots_len]
    exact List.mem_range.mp (List.mem_filter.mp hr).1
  · have h1 := List.length_filter_le (fun r => !(tb.lots.getD r []).contains k) (List.range tb.lots.length)
    rw [List.length_range, tb.lots_len] at h1
    have h2 := g.nt
    unfold two
    rw [tb.lots_len]
    omega
end
end K45
/-! lots_with, small_full_lots, least_full_row. -/
namespace K45
open PySem L2 RZ
theorem lotsW_len (one other : Nat) : ∀ n, (lotsW one other n).length ≤ 2 ^ n
  | 0 => Nat.le_refl _
  | n + 1 => by
    have h := lotsW_len one other n
    unfold lotsW
    rw [Nat.pow_succ]
    split
    · rw [List.length_map]; omega
    · split
      · rw [List.length_append, List.length_map]; omega
      · omega
theorem lotsW_item (one other : Nat) : ∀ n, ∀ l ∈ lotsW one other n, l.length ≤ n ∧ ∀ k ∈ l, k < n
  | 0, l, h => by
    rw [List.mem_singleton.mp h]
    exact ⟨Nat.le_refl _, fun k z => nomatch z⟩
  | n + 1, l, h => by
    unfold lotsW at h
    have up : ∀ l, l ∈ lotsW one other n → l.length ≤ n + 1 ∧ ∀ k ∈ l, k < n + 1 := fun l hl => ⟨Nat.le_succ_of_le (lotsW_item one other n l hl).1, fun k hk => Nat.lt_succ_of_lt ((lotsW_item one other n l hl).2 k hk)⟩
    have ap : ∀ l, l ∈ (lotsW one other n).map (fun l => l ++ [n]) → l.length ≤ n + 1 ∧ ∀ k ∈ l, k < n + 1 := fun l hl => by
      obtain ⟨l', h1, rfl⟩ := List.mem_map.mp hl
      obtain ⟨h2, h3⟩ := lotsW_item one other n l' h1
      refine ⟨by rw [List.length_append, List.length_singleton]; omega, fun k hk => ?_⟩
      rcases List.mem_append.mp hk with q | q
      · exact Nat.lt_succ_of_lt (h3 k q)
      · rw [List.mem_singleton.mp q]; exact Nat.lt_succ_self _
    split at h
    · exact ap l h
    · split at h
      · rcases List.mem_append.mp h with h | h
        · exact up l h
        · exact ap l h
      · exact up l h
theorem Tk.val_eq0 {nk nt : Nat} {acc : Nat → Nat → Prop} {S : Nat → Int} {b : Nat → Option Int} {T : Nat → Prop} {f : Nat → Nat → Int} (h : Tk nk nt acc S b T f) (n : ∀ r, ¬ T r) : val nk nt f = 0 := Sg_zero fun r _ => h.row_zero (n r)
/-- for i, x in enumerate(a tuple) -/
theorem s_forET {K : Fg} {σ : L2.St} {H : Hp} {te : TE} {D : Ends} {tu : TS} {g : TG} {a : Addr} {xs : List V} (h : EvS te σ H (vS (.ref a))) (hx : SqT K H a xs) (Pv : Nat → L2.St → Hp → Prop) (hG : ∀ i σ' H', Pv i σ' H' → SqT K H' a xs) (h0 : ∀ H1, Ex H H1 → Pv 0 σ H1)
    (hs : ∀ (i : Nat) x σ' H' T, xs[i]? = some x → Pv i σ' H' → H' T = none → g (.ref T) σ' (upd H' T (.tup [.int (i : Int), x])) fun σ2 H2 => tu { D with nx := Pv (i + 1), ct := Pv (i + 1), bk := D.nx } σ2 H2) (hd : ∀ σ' H', Pv xs.length σ' H' → D.nx σ' H') : tFor (iEnumT K (tCons te tNil)) g tu D σ H :=
  h H (Evl.Ex.refl H) _ fun w H1 e1 pw => by
    have pw : w = .ref a := pw
    subst pw
    refine ⟨a, xs, rfl, Evl.ex_t e1 hx, L2.for_it (walk_enumT (xs := xs)) Pv (h0 H1 e1) (fun i σ' H' _ q => hG i σ' H' q) ?_ hd⟩
    rintro i w σ' H' H'' _ q ⟨T, y1, y2, rfl, hT, rfl, e1, e2⟩
    cases e1
    exact hs i y2 σ' H' T e2 q hT
section
variable {P : Program} {w : World} {K : Fg} {mg : Str → Option Value} {base : Heap}
abbrev s_lots_with : Stmt := topS 50
abbrev N_lots_with : List Str := ["many", "one", "other", "found", "kind", "lot"]
theorem sclots_with : FnScope N_lots_with ["many", "one", "other"] (defScope s_lots_with) := ⟨rfl, rfl, rfl, by decide +kernel, rfl, by decide +kernel, by decide +kernel⟩
def sp_lots_with (K : Fg) : Sp := fun vs H Q _ => ∃ (n one other : Nat), AtAll H vs [intS (n : Int), intS (one : Int), intS (other : Int)] ∧ n ≤ 8 ∧ Ret (lstS K ((lotsW one other n).map dNs)) H Q
theorem ok_lots_with (T : Bt mg) (D : Df K mg "lots_with" s_lots_with ["many", "one", "other"]) : OkD P w K mg base CX0 1 "lots_with" ["many", "one", "other"] (sp_lots_with K) := by
  refine OkD.of D fun fa fd F => F.ok sclots_with (fun vs H Q E ⟨_, _, _, h, _⟩ => atLen h) (fun cdv A outer s H vs Q E hr ⟨n, one, other, h, hn, kk⟩ => ?_)
  obtain ⟨x, y, z, rfl, hx, hy, hz⟩ := a3 h
  refine ⟨_, (pss_cons (ps_set (i := 3) sclots_with.nd rfl (by first | exact Or.inl rfl | exact Or.inr rfl) (pe_lst (pa_cons (pe_tup pa_nil) pa_nil))) (pss_cons (ps_for PassesOwn.never rfl (pi_range1 rfl T.b_range (pa_cons (pv 0) pa_nil)) (pg_name (i := 4) sclots_with.nd rfl (by first | exact Or.inl rfl | exact Or.inr rfl)) (pss_one (ps_if (pt_cmpR op_eq (pv 4) (pv 1) (nomark _)) (pss_one (ps_setLc (i := 3) (own := [("lot", 5)]) (g := gName 5) (tt := tYes) rfl sclots_with.nd rfl rfl (sw_true rfl rfl rfl (by decide +kernel)) (k_pil K (pv 3)) (blkOk_by (N := N_lots_with) (sc := (defScope s_lots_with)) (by decide +kernel)) (fun _ _ _ _ _ => (pg_name (i := 5) sclots_with.nd rfl (by first | exact Or.inl rfl | exact Or.inr rfl))) (fun _ _ _ _ _ => pts_nil) (fun _ _ _ _ _ => (pe_op (k_catT K) (pv 5) (pe_tup (pa_cons (pv 4) pa_nil)))))) (pss_one (ps_if (pt_cmpR op_ne (pv 4) (pv 2) (nomark _)) (pss_one (ps_set (i := 3) sclots_with.nd rfl (by first | exact Or.inl rfl | exact Or.inr rfl) (pe_op k_cat (pv 3) (pe_lc (own := [("lot", 5)]) (g := gName 5) (tt := tYes) rfl sclots_with.nd (k_pil K (pv 3)) (blkOk_by (N := N_lots_with) (sc := (defScope s_lots_with)) (by decide +kernel)) (fun _ _ _ _ _ => (pg_name (i := 5) sclots_with.nd rfl (by first | exact Or.inl rfl | exact Or.inr rfl))) (fun _ _ _ _ _ => pts_nil) (fun _ _ _ _ _ => (pe_op (k_catT K) (pv 5) (pe_tup (pa_cons (pv 4) pa_nil)))))))) pss_nil))))) (pss_one (ps_ret (pv 3))))), ?_⟩
  have hx : x = .int (n : Int) := hx
  have hy : y = .int (one : Int) := hy
  have hz : z = .int (other : Int) := hz
  subst hx hy hz
  refine q_set (s := lstS K [dNs []]) (e_lst (ds := [dNs []]) (a_cons (e_tup (ds := []) a_nil (by decide)) a_nil) (by show 1 ≤ 1000; decide)) fun v1 H1 e1 p1 => ?_
  have sl0 : Sl 6 [.int (n : Int), .int (one : Int), .int (other : Int)] ((L2.start N_lots_with [.int (n : Int), .int (one : Int), .int (other : Int)]).set 3 (some v1)) := ⟨rfl, fun i v e => by
    match i, e with
    | 0, e => exact congrArg some e
    | 1, e => exact congrArg some e
    | 2, e => exact congrArg some e
    | i + 3, e => cases e⟩
  refine q_for (s_forR1 (a_cons (sl0.var (v := .int (n : Int)) (s := intS (n : Int)) rfl rfl) a_nil) (by omega) fun H2 e2 => ⟨fun i σ' H' => Sl 6 [.int (n : Int), .int (one : Int), .int (other : Int)] σ' ∧ Ex H H' ∧ ∃ v, σ'[3]? = some (some v) ∧ (lstS K ((lotsW one other i).map dNs)).P v H', ⟨sl0, e1.trans e2, v1, rfl, Sh.up _ _ _ _ e2 p1⟩, ?_, ?_⟩)
  · rintro i σ' H' hi ⟨sl, ex, v, h3, pv⟩
    have hi : i < n := by omega
    have hpow : (lotsW one other i).length ≤ 256 := Nat.le_trans (lotsW_len one other i) (Nat.le_trans (Nat.pow_le_pow_right (by decide) (show i ≤ 8 by omega)) (by decide))
    have sl4 : Sl 6 [.int (n : Int), .int (one : Int), .int (other : Int)] (σ'.set 4 (some (.int (i : Int)))) := sl.set (by show 3 ≤ 4; decide)
    have h3' : (σ'.set 4 (some (V.int (i : Int))))[3]? = some (some v) := sl_ne (by decide) h3
    have h4' : (σ'.set 4 (some (V.int (i : Int))))[4]? = some (some (.int (i : Int))) := sl_same sl.len (by decide)
    generalize σ'.set 4 (some (V.int (i : Int))) = σ4 at sl4 h3' h4'
    have ecomp : ∀ H5, Ex H' H5 → EvS (tLc (iList K (tVar 3)) (gName 5) tYes (tOp (rCatA K) (tVar 5) (tTup (tCons (tVar 4) tNil))) [5]) σ4 H5 (lstS K (((lotsW one other i).map (fun l => l ++ [i])).map dNs)) := fun H5 e5 => by
      rw [List.map_map]
      refine EvS.map' _ _ (e_lcL (lotsW one other i) dNs (fun _ => true) _ (e_var (v := v) h3' (Sh.up _ _ _ _ e5 pv)) (by omega) (fun w => ?_) fun l u H6 e6 hl hu => ⟨t_yes, fun _ => ?_⟩)
      · show ((σ4.set 5 none).set 5 (some w)).set 5 none = σ4.set 5 none
        rw [List.set_set, List.set_set]
      · have hlen := (lotsW_item one other i l hl).1
        have hu5 : ((wipe σ4 [5]).set 5 (some u))[5]? = some (some u) := sl_same (n := 6) (by rw [wipe_length]; exact sl4.len) (by decide)
        have hi5 : ((wipe σ4 [5]).set 5 (some u))[4]? = some (some (.int (i : Int))) := by
          show ((σ4.set 5 none).set 5 (some u))[4]? = _
          rw [List.getElem?_set_ne (by decide), List.getElem?_set_ne (by decide)]
          exact h4'
        refine EvS.cast (e_catT (ds := l.map dN) (es := [dN i]) (e_var (v := u) hu5 hu) (e_tup (ds := [dN i]) (a_cons (e_var (v := .int (i : Int)) (s := dat K (dN i)) hi5 (.int _)) a_nil) (by show 1 ≤ 1000; decide)) (by rw [List.length_map, List.length_singleton]; omega)) ?_
        show dat K (.tuple (l.map dN ++ [dN i])) = dat K (.tuple ((l ++ [i]).map dN))
        rw [List.map_append]
        rfl
    refine s_if (b := decide ((i : Int) = (one : Int))) (t_test (e_eqI (e_var (v := .int (i : Int)) (s := intS (i : Int)) h4' rfl) (sl4.var (v := .int (one : Int)) (s := intS (one : Int)) rfl rfl))) (fun hb H5 e5 => ?_) (fun hb H5 e5 => ?_)
    · have hb : i = one := by have := of_decide_eq_true hb; omega
      refine s_set (ecomp H5 e5) fun w6 H6 e6 p6 => ⟨sl4.set (Nat.le_refl _), ex.trans (e5.trans e6), w6, sl_same sl4.len (by decide), ?_⟩
      unfold lotsW
      rw [if_pos hb]
      exact p6
    · have hb : ¬ i = one := fun z => by have := of_decide_eq_false hb; omega
      refine s_when (b := !decide ((i : Int) = (other : Int))) (t_test (e_neI (e_var (v := .int (i : Int)) (s := intS (i : Int)) h4' rfl) (sl4.var (v := .int (other : Int)) (s := intS (other : Int)) rfl rfl))) (fun hc H6 e6 => ?_) (fun hc H6 e6 => ?_)
      · have hc : i ≠ other := fun z => by
          rw [z] at hc
          simp at hc
        refine s_set (e_cat (e_var (v := v) h3' (Sh.up _ _ _ _ (e5.trans e6) pv)) (ecomp H6 (e5.trans e6)) (by rw [List.length_map, List.length_map, List.length_map]; omega)) fun w7 H7 e7 p7 => ⟨sl4.set (Nat.le_refl _), ex.trans ((e5.trans e6).trans e7), w7, sl_same sl4.len (by decide), ?_⟩
        unfold lotsW
        rw [if_neg hb, if_pos hc, List.map_append]
        exact p7
      · have hc : i = other := by
          have : decide ((i : Int) = (other : Int)) = true := by simpa using hc
          have := of_decide_eq_true this
          omega
        refine ⟨sl4, ex.trans (e5.trans e6), v, h3', ?_⟩
        unfold lotsW
        rw [if_neg hb, if_neg (fun z => z hc)]
        exact Sh.up _ _ _ _ (e5.trans e6) pv
  · rintro σ' H' ⟨sl, ex, v, h3, pv⟩
    rw [Int.toNat_natCast] at pv
    exact (s_retR (D := { nx := fun _ H' => Q .non H', rt := Q }) (te := tVar 3) (e_var (v := v) h3 pv) (kk.of ex) : tRet (tVar 3) { nx := fun _ H' => Q .non H', rt := Q } σ' H')
/-- how many units at the least, and the lots -/
def sflS (K : Fg) (m : Option Int) (lots : List (List Nat)) : Sh := ⟨fun v H => ∃ a v1 v2, v = .ref a ∧ SqT K H a [v1, v2] ∧ Tp K H v1 (dO m) ∧ (lstS K (lots.map dNs)).P v2 H, fun _ _ _ e ⟨a, v1, v2, h1, h2, h3, h4⟩ => ⟨a, v1, v2, h1, Evl.ex_t e h2, h3.mono (Gt.of_ex e), Sh.up _ _ _ _ e h4⟩⟩
/-- a lot is taken -/
def takesL (m : Option Int) (u : Int) : Bool := match m with
  | none => true
  | some x => decide (u ≤ x)
def lessM (m : Option Int) (u : Int) : Bool := match m with
  | none => true
  | some x => decide (u < x)
theorem takesL_iff {m : Option Int} {u : Int} : takesL m u = true ↔ ∀ x, m = some x → u ≤ x := by
  cases m with
  | none => exact ⟨(fun _ x z => nomatch z), fun _ => rfl⟩
  | some y => exact ⟨fun h x z => by cases z; exact of_decide_eq_true h, fun h => decide_eq_true (h y rfl)⟩
theorem lessM_iff {m : Option Int} {u : Int} : lessM m u = true ↔ ∀ x, m = some x → u < x := by
  cases m with
  | none => exact ⟨(fun _ x z => nomatch z), fun _ => rfl⟩
  | some y => exact ⟨fun h x z => by cases z; exact of_decide_eq_true h, fun h => decide_eq_true (h y rfl)⟩
theorem sflStep_yes {lots : List (List Nat)} {st : List Int} {bl : List (Option Int)} {one : Nat} {s : Option Int × List (List Nat)} {ks : List Nat} (h1 : (kot st.length lots (gw lots st bl (tw lots ks))).contains one = true) (h2 : takesL s.1 (unitsL st (kot st.length lots (gw lots st bl (tw lots ks)))) = true) :
    sflStep lots st bl one s ks = (some (unitsL st (kot st.length lots (gw lots st bl (tw lots ks)))), if lessM s.1 (unitsL st (kot st.length lots (gw lots st bl (tw lots ks)))) = true then [gw lots st bl (tw lots ks)] else s.2 ++ [gw lots st bl (tw lots ks)]) := by
  unfold sflStep
  simp only
  rw [if_pos ⟨List.contains_iff_mem.mp h1, takesL_iff.mp h2⟩]
  by_cases h3 : lessM s.1 (unitsL st (kot st.length lots (gw lots st bl (tw lots ks)))) = true
  · rw [if_pos h3, if_pos (lessM_iff.mp h3)]
  · rw [if_neg h3, if_neg fun z => h3 (lessM_iff.mpr z)]
theorem sflStep_no {lots : List (List Nat)} {st : List Int} {bl : List (Option Int)} {one : Nat} {s : Option Int × List (List Nat)} {ks : List Nat} (h : ((kot st.length lots (gw lots st bl (tw lots ks))).contains one && takesL s.1 (unitsL st (kot st.length lots (gw lots st bl (tw lots ks))))) = false) : sflStep lots st bl one s ks = s := by
  unfold sflStep
  simp only
  rw [if_neg]
  intro z
  rw [List.contains_iff_mem.mpr z.1, takesL_iff.mpr z.2] at h
  cases h
theorem e_takes {σ : L2.St} {H : Hp} {ta tb tc : TE} {m : Option Int} {u : Int} (ha : EvS ta σ H (dat K (dO m))) (hb : EvS tb σ H (intS u)) : EvT (tOr (tB (tIsN ta)) (tTest (tOp (rI0 fun i j => .bl (decide (i ≤ j))) tb ta))) σ H (takesL m u) := by
  cases m with
  | none => exact (t_or (a := true) (b := true) (t_B (e_isN ha)) fun z => by cases z)
  | some x => exact (t_or (a := false) (t_B (e_isN ha)) fun _ => t_test (e_I0 (g := fun i j => .bl (decide (i ≤ j))) hb ha.toI))
theorem e_less {σ : L2.St} {H : Hp} {ta tb tc : TE} {m : Option Int} {u : Int} (ha : EvS ta σ H (dat K (dO m))) (hb : EvS tb σ H (intS u)) : EvT (tOr (tB (tIsN ta)) (tTest (tOp (rI0 fun i j => .bl (decide (i < j))) tb ta))) σ H (lessM m u) := by
  cases m with
  | none => exact (t_or (a := true) (b := true) (t_B (e_isN ha)) fun z => by cases z)
  | some x => exact (t_or (a := false) (t_B (e_isN ha)) fun _ => t_test (e_I0 (g := fun i j => .bl (decide (i < j))) hb ha.toI))
abbrev s_small_full_lots : Stmt := topS 51
abbrev N_small_full_lots : List Str := ["table", "stock", "bounds", "one", "other", "most", "found", "kinds", "lot", "some", "units"]
theorem scsmall_full_lots : FnScope N_small_full_lots ["table", "stock", "bounds", "one", "other"] (defScope s_small_full_lots) := ⟨rfl, rfl, rfl, by decide +kernel, rfl, by decide +kernel, by decide +kernel⟩
def sp_small_full_lots (K : Fg) : Sp := fun vs H Q _ => ∃ (T : Tab) (st : List Int) (bl : List (Option Int)) (one other : Nat), AtAll H vs [tabS K T, dat K (dIs st), dat K (dOs bl), intS (one : Int), intS (other : Int)] ∧ T.Ok ∧ Case T.lots st bl ∧ st.length = T.nk ∧ Ret (sflS K (sfl T.lots st bl one other).1 (sfl T.lots st bl one other).2) H Q
theorem ok_small_full_lots (T : Bt mg) (D : Df K mg "small_full_lots" s_small_full_lots ["table", "stock", "bounds", "one", "other"]) (G_lots_with : OkD P w K mg base CX0 1 "lots_with" ["many", "one", "other"] (sp_lots_with K)) (G_greatest_within : OkD P w K mg base CX0 7 "greatest_within" ["table", "stock", "bounds", "types"] (sp_greatest_within K))
    (G_types_within : OkD P w K mg base CX0 2 "types_within" ["table", "kinds"] (sp_types_within K)) (G_kinds_of_types : OkD P w K mg base CX0 2 "kinds_of_types" ["table", "types"] (sp_kinds_of_types K)) (G_units_in : OkD P w K mg base CX0 1 "units_in" ["stock", "kinds"] (sp_units_in K)) :
    OkD P w K mg base CX0 8 "small_full_lots" ["table", "stock", "bounds", "one", "other"] (sp_small_full_lots K) := by
  refine OkD.of D fun fa fd F => F.ok scsmall_full_lots (fun vs H Q E ⟨_, _, _, _, _, h, _⟩ => atLen h) (fun cdv A outer s H vs Q E hr ⟨tb, st, bl, one, other, h, g, hc, hst, kk⟩ => ?_)
  obtain ⟨x, y, z, u, q, rfl, hx, hy, hz, hu, hq⟩ := a5 h
  refine ⟨_, (pss_cons (ps_par (i := 5) (j := 6) (by rfl) scsmall_full_lots.nd rfl rfl (by decide) rfl rfl (pa_cons pe_non (pa_cons (pe_lst pa_nil) pa_nil)) (by rfl)) (pss_cons (ps_for PassesOwn.never rfl (k_pil K (pe_d G_lots_with hr (pa_cons (pe_callB (k_len K) (by rfl) T.b_len (by decide +kernel) (pa_cons (k_fld K (pv 0) rfl) pa_nil)) (pa_cons (pv 3) (pa_cons (pv 4) pa_nil))))) (pg_name (i := 7) scsmall_full_lots.nd rfl (by first | exact Or.inl rfl | exact Or.inr rfl)) (pss_cons (ps_set (i := 8) scsmall_full_lots.nd rfl (by first | exact Or.inl rfl | exact Or.inr rfl) (pe_d G_greatest_within hr (pa_cons (pv 0) (pa_cons (pv 1) (pa_cons (pv 2) (pa_cons (pe_d G_types_within hr (pa_cons (pv 0) (pa_cons (pv 7) pa_nil))) pa_nil)))))) (pss_cons (ps_set (i := 9) scsmall_full_lots.nd rfl (by first | exact Or.inl rfl | exact Or.inr rfl) (pe_d G_kinds_of_types hr (pa_cons (pv 0) (pa_cons (pv 8) pa_nil)))) (pss_cons (ps_set (i := 10) scsmall_full_lots.nd rfl (by first | exact Or.inl rfl | exact Or.inr rfl) (pe_d G_units_in hr (pa_cons (pv 1) (pa_cons (pv 9) pa_nil)))) (pss_one (ps_if (PW.pt (pw_and (pt_cmpR (k_in K) (pv 3) (pv 9) (by rfl)) (pw_and1 (PW.pt (pw_or (pt_cmp (pc_isN (pv 5)) rfl) (pw_or1 (pt_cmpR op_le (pv 10) (pv 5) (nomark _)))))))) (pss_cons (ps_set (i := 6) scsmall_full_lots.nd rfl (by first | exact Or.inl rfl | exact Or.inr rfl) (pe_ifExp (PW.pt (pw_or (pt_cmp (pc_isN (pv 5)) rfl) (pw_or1 (pt_cmpR op_lt (pv 10) (pv 5) (nomark _))))) (pe_lst (pa_cons (pv 8) pa_nil)) (pe_op k_cat (pv 6) (pe_lst (pa_cons (pv 8) pa_nil))))) (pss_one (ps_set (i := 5) scsmall_full_lots.nd rfl (by first | exact Or.inl rfl | exact Or.inr rfl) (pv 10)))) pss_nil)))))) (pss_one (ps_ret (pe_tup (pa_cons (pv 5) (pa_cons (pv 6) pa_nil))))))), ?_⟩
  have hnk := g.nk
  have hnt := g.nt
  have hu : u = .int (one : Int) := hu
  have hq : q = .int (other : Int) := hq
  subst hu hq
  refine q_parSF (s := dat K .none) (o1 := .lst []) e_non f_lst0 fun v1 b1 H1 nb e1 kb p1 => ?_
  have p1 := p1.non_inv
  subst p1
  have sl1 : Sl 11 [x, y, z, .int (one : Int), .int (other : Int)] (((L2.start N_small_full_lots [x, y, z, .int (one : Int), .int (other : Int)]).set 5 (some .non)).set 6 (some (.ref b1))) := ⟨rfl, fun i v e => by
    match i, e with
    | 0, e => exact congrArg some e
    | 1, e => exact congrArg some e
    | 2, e => exact congrArg some e
    | 3, e => exact congrArg some e
    | 4, e => exact congrArg some e
    | i + 5, e => cases e⟩
  have hpow : (lotsW one other tb.nk).length ≤ 256 := Nat.le_trans (lotsW_len one other tb.nk) (Nat.le_trans (Nat.pow_le_pow_right (by decide) hnk) (by decide))
  have hx1 := (tabS K tb).up _ _ _ e1 hx
  refine q_for (s_forL (K := K) (ds := (lotsW one other tb.nk).map dNs) (e_call (a_cons (EvS.cast (e_len (a_cons (e_kinds (sl1.var (v := x) rfl hx1)) a_nil)) (by rw [List.length_map]; rfl)) (a_cons (sl1.var (v := .int (one : Int)) (s := intS (one : Int)) rfl rfl) (a_cons (sl1.var (v := .int (other : Int)) (s := intS (other : Int)) rfl rfl) a_nil))) fun vs H1 p Q q => ⟨tb.nk, one, other, p, hnk, q⟩) fun la lxs H2 e2 hla hlx =>
    ⟨fun i σ' H' => Sl 11 [x, y, z, .int (one : Int), .int (other : Int)] σ' ∧ Ex H2 H' ∧ ∃ vm vf, σ'[5]? = some (some vm) ∧ σ'[6]? = some (some vf) ∧ Tp K H' vm (dO (((lotsW one other tb.nk).take i).foldl (sflStep tb.lots st bl one) (none, [])).1) ∧
      (lstS K ((((lotsW one other tb.nk).take i).foldl (sflStep tb.lots st bl one) (none, [])).2.map dNs)).P vf H' ∧ (((lotsW one other tb.nk).take i).foldl (sflStep tb.lots st bl one) (none, [])).2.length ≤ i, ⟨sl1, Evl.Ex.refl _, .non, .ref b1, rfl, rfl, .non, ⟨b1, [], rfl, e2 _ _ kb, .nil⟩, Nat.le_refl _⟩,
      fun i σ' H' ⟨_, q, _⟩ => ⟨q _ _ hla, Gt.of_ex q⟩, ?_, ?_⟩)
  · rintro i d v σ' H' hd pv ⟨sl, ex2, vm, vf, h5, h6, pm, pf, hlen⟩
    rw [List.getElem?_map] at hd
    cases hli : (lotsW one other tb.nk)[i]? with
    | none => rw [hli] at hd; cases hd
    | some ks =>
      rw [hli] at hd
      have hd := Option.some.inj hd
      subst hd
      have hi256 : i < 256 := by have := (List.getElem?_eq_some_iff.mp hli).1; omega
      have hks := lotsW_item one other tb.nk ks (List.mem_of_getElem? hli)
      have hstep : ((lotsW one other tb.nk).take (i + 1)).foldl (sflStep tb.lots st bl one) (none, []) = sflStep tb.lots st bl one (((lotsW one other tb.nk).take i).foldl (sflStep tb.lots st bl one) (none, [])) ks := by
        rw [List.take_add_one, hli, List.foldl_append]
        rfl
      generalize hss : ((lotsW one other tb.nk).take i).foldl (sflStep tb.lots st bl one) (none, []) = ss at pm pf hlen hstep
      have exH : Ex H H' := (e1.trans e2).trans ex2
      have sl7 : Sl 11 [x, y, z, .int (one : Int), .int (other : Int)] (σ'.set 7 (some v)) := sl.set (by show 5 ≤ 7; decide)
      have h77 : (σ'.set 7 (some v))[7]? = some (some v) := sl_same sl.len (by decide)
      have h75 : (σ'.set 7 (some v))[5]? = some (some vm) := sl_ne (by decide) h5
      have h76 : (σ'.set 7 (some v))[6]? = some (some vf) := sl_ne (by decide) h6
      show tSeq _ _ _ (σ'.set 7 (some v)) H'
      generalize σ'.set 7 (some v) = σ7 at sl7 h77 h75 h76
      have hxH := (tabS K tb).up _ _ _ exH hx
      have htw : ∀ r ∈ tw tb.lots ks, r < tb.types.length := fun r hr => by
        unfold tw at hr
        rw [← tb.lots_len]
        exact List.mem_range.mp (List.mem_filter.mp hr).1
      have htwl : (tw tb.lots ks).length ≤ 1000 := by
        have h1 := List.length_filter_le (fun r => (tb.lots.getD r []).all fun k => ks.contains k) (List.range tb.lots.length)
        rw [List.length_range, tb.lots_len] at h1
        unfold tw
        rw [tb.lots_len]
        omega
      have hgw : ∀ r ∈ gw tb.lots st bl (tw tb.lots ks), r < tb.types.length := fun r hr => htw r (gw_sub r hr)
      have hgwl : (gw tb.lots st bl (tw tb.lots ks)).length ≤ 1000 := by
        obtain ⟨pp, hpp⟩ := gw_filter (lots := tb.lots) (st := st) (bl := bl) (l := tw tb.lots ks)
        rw [hpp]
        exact Nat.le_trans (List.length_filter_le _ _) htwl
      refine q_set (e_call (a_cons (sl7.var (v := x) rfl hxH) (a_cons (sl7.var (v := y) rfl ((dat K (dIs st)).up _ _ _ exH hy)) (a_cons (sl7.var (v := z) rfl ((dat K (dOs bl)).up _ _ _ exH hz)) (a_cons (e_call (a_cons (sl7.var (v := x) rfl hxH) (a_cons (e_var (v := v) h77 pv) a_nil)) fun vs H1 p Q q => ⟨tb, ks, p, g, q⟩) a_nil)))) fun vs H1 p Q q => ⟨tb, st, bl, _, p, g, hc, hst, htw, htwl, q⟩) fun v8 H8 e8 p8 => ?_
      have sl8 : Sl 11 [x, y, z, .int (one : Int), .int (other : Int)] (σ7.set 8 (some v8)) := sl7.set (by show 5 ≤ 8; decide)
      have h88 : (σ7.set 8 (some v8))[8]? = some (some v8) := sl_same sl7.len (by decide)
      have h85 : (σ7.set 8 (some v8))[5]? = some (some vm) := sl_ne (by decide) h75
      have h86 : (σ7.set 8 (some v8))[6]? = some (some vf) := sl_ne (by decide) h76
      generalize σ7.set 8 (some v8) = σ8 at sl8 h88 h85 h86
      refine q_set (e_call (a_cons (sl8.var (v := x) rfl ((tabS K tb).up _ _ _ e8 hxH)) (a_cons (e_var (v := v8) h88 p8) a_nil)) fun vs H1 p Q q => ⟨tb, _, p, g, hgw, hgwl, q⟩) fun v9 H9 e9 p9 => ?_
      have sl9 : Sl 11 [x, y, z, .int (one : Int), .int (other : Int)] (σ8.set 9 (some v9)) := sl8.set (by show 5 ≤ 9; decide)
      have h99 : (σ8.set 9 (some v9))[9]? = some (some v9) := sl_same sl8.len (by decide)
      have h98 : (σ8.set 9 (some v9))[8]? = some (some v8) := sl_ne (by decide) h88
      have h95 : (σ8.set 9 (some v9))[5]? = some (some vm) := sl_ne (by decide) h85
      have h96 : (σ8.set 9 (some v9))[6]? = some (some vf) := sl_ne (by decide) h86
      generalize σ8.set 9 (some v9) = σ9 at sl9 h99 h98 h95 h96
      refine q_set (e_call (a_cons (sl9.var (v := y) rfl ((dat K (dIs st)).up _ _ _ ((exH.trans e8).trans e9) hy)) (a_cons (e_var (v := v9) h99 p9) a_nil)) fun vs H1 p Q q => ⟨st, _, p, fun k hk => by rw [hst]; exact kot_lt hk, Nat.le_trans kot_len (by omega), q⟩) fun v10 H10 e10 p10 => ?_
      have p10 : v10 = .int _ := p10
      subst p10
      have sl10 := sl9.set (x := .int (unitsL st (kot tb.nk tb.lots (gw tb.lots st bl (tw tb.lots ks))))) (show 5 ≤ 10 by decide)
      have hA : (σ9.set 10 (some (.int (unitsL st (kot tb.nk tb.lots (gw tb.lots st bl (tw tb.lots ks)))))))[10]? = some (some (.int (unitsL st (kot tb.nk tb.lots (gw tb.lots st bl (tw tb.lots ks)))))) := sl_same sl9.len (by decide)
      have hA9 : (σ9.set 10 (some (.int (unitsL st (kot tb.nk tb.lots (gw tb.lots st bl (tw tb.lots ks)))))))[9]? = some (some v9) := sl_ne (by decide) h99
      have hA8 : (σ9.set 10 (some (.int (unitsL st (kot tb.nk tb.lots (gw tb.lots st bl (tw tb.lots ks)))))))[8]? = some (some v8) := sl_ne (by decide) h98
      have hA5 : (σ9.set 10 (some (.int (unitsL st (kot tb.nk tb.lots (gw tb.lots st bl (tw tb.lots ks)))))))[5]? = some (some vm) := sl_ne (by decide) h95
      have hA6 : (σ9.set 10 (some (.int (unitsL st (kot tb.nk tb.lots (gw tb.lots st bl (tw tb.lots ks)))))))[6]? = some (some vf) := sl_ne (by decide) h96
      generalize hu : unitsL st (kot tb.nk tb.lots (gw tb.lots st bl (tw tb.lots ks))) = un at hA hA9 hA8 hA5 hA6 sl10
      generalize σ9.set 10 (some (.int un)) = σA at sl10 hA hA9 hA8 hA5 hA6
      have e810 : Ex H' H10 := (e8.trans e9).trans e10
      have emost : ∀ {H'' : Hp}, Ex H' H'' → EvS (tVar 5) σA H'' (dat K (dO ss.1)) := fun e => e_var (v := vm) hA5 (pm.mono (Gt.of_ex e))
      have eun : ∀ {H'' : Hp}, EvS (tVar 10) σA H'' (intS un) := e_var (v := .int un) hA rfl
      have elot : ∀ {H'' : Hp}, Ex H8 H'' → EvS (tLst (tCons (tVar 8) tNil)) σA H'' (lstS K [dNs (gw tb.lots st bl (tw tb.lots ks))]) := fun e => e_lst (a_cons (e_var (v := v8) hA8 (p8.mono (Gt.of_ex e))) a_nil) (by show 1 ≤ 1000; decide)
      refine s_when (b := (kot tb.nk tb.lots (gw tb.lots st bl (tw tb.lots ks))).contains one && takesL ss.1 un) (t_and (t_test (e_inN (sl10.var (v := .int (one : Int)) (s := intS (one : Int)) rfl rfl) (e_var (v := v9) hA9 (p9.mono (Gt.of_ex e10))))) fun _ => e_takes (tc := tVar 0) (emost e810) eun) (fun hcc H11 e11 => ?_) (fun hcc H11 e11 => ?_)
      · rw [Bool.and_eq_true] at hcc
        have hst2 : sflStep tb.lots st bl one ss ks = (some un, if lessM ss.1 un = true then [gw tb.lots st bl (tw tb.lots ks)] else ss.2 ++ [gw tb.lots st bl (tw tb.lots ks)]) := by
          rw [← hu, ← hst]
          rw [← hu, ← hst] at hcc
          exact sflStep_yes hcc.1 hcc.2
        refine q_set (s := lstS K ((if lessM ss.1 un = true then [gw tb.lots st bl (tw tb.lots ks)] else ss.2 ++ [gw tb.lots st bl (tw tb.lots ks)]).map dNs)) (e_if (e_less (tc := tVar 0) (emost (e810.trans e11)) eun) (fun hb => by
          rw [if_pos hb]
          exact elot ((e9.trans e10).trans e11)) (fun hb => by
          rw [if_neg (by rw [hb]; decide), List.map_append]
          exact e_cat (e_var (v := vf) hA6 (Sh.up _ _ _ _ (e810.trans e11) pf)) (elot ((e9.trans e10).trans e11)) (by rw [List.length_map, List.length_map, List.length_singleton]; omega))) fun v12 H12 e12 p12 => ?_
        refine s_set (e_var (v := .int un) (s := intS un) (sl_ne (by decide) hA) rfl) fun v13 H13 e13 p13 => ?_
        have p13 : v13 = .int un := p13
        subst p13
        refine ⟨(sl10.set (by show 5 ≤ 6; decide)).set (Nat.le_refl _), ex2.trans (((e810.trans e11).trans e12).trans e13), .int un, v12, sl_same (n := 11) (by rw [List.length_set]; exact sl10.len) (by decide), sl_ne (by decide) (sl_same sl10.len (by decide)), ?_, ?_, ?_⟩
        · rw [hstep, hst2]
          exact .int un
        · rw [hstep, hst2]
          exact Sh.up _ _ _ _ e13 p12
        · rw [hstep, hst2]
          show (if lessM ss.1 un = true then _ else _ : List (List Nat)).length ≤ i + 1
          split
          · rw [List.length_singleton]; omega
          · rw [List.length_append, List.length_singleton]; omega
      · have hst2 : sflStep tb.lots st bl one ss ks = ss := by
          rw [← hu, ← hst] at hcc
          exact sflStep_no hcc
        refine ⟨sl10, ex2.trans (e810.trans e11), vm, vf, hA5, hA6, ?_, ?_, ?_⟩
        · rw [hstep, hst2]
          exact pm.mono (Gt.of_ex (e810.trans e11))
        · rw [hstep, hst2]
          exact Sh.up _ _ _ _ (e810.trans e11) pf
        · rw [hstep, hst2]
          omega
  · rintro σ' H' ⟨sl, ex2, vm, vf, h5, h6, pm, pf, hlen⟩
    rw [List.length_map, List.take_length] at pm pf
    refine (s_ret2 (D := { nx := fun _ H' => Q .non H', rt := Q }) h5 h6 fun a ha => kk _ _ (((e1.trans e2).trans ex2).trans (Evl.Ex.new ha)) ⟨a, vm, vf, rfl, SqT.of upd_same, ?_, ?_⟩ : tRet _ { nx := fun _ H' => Q .non H', rt := Q } σ' H')
    · unfold sfl
      rw [hst]
      exact pm.mono (Gt.of_ex (Evl.Ex.new ha))
    · unfold sfl
      rw [hst]
      exact Sh.up _ _ _ _ (Evl.Ex.new ha) pf
theorem cut_take {α : Type} (xs : List α) {i : Nat} (h : i ≤ xs.length) : cutL xs none (some (i : Int)) = xs.take i := by
  unfold cutL
  rw [HT.sIx_none, HT.sIx_nat, Nat.min_eq_left h, List.drop_zero, Nat.sub_zero]
/-- row.extend(a new list of one number) -/
theorem q_extRep {σ : L2.St} {H : Hp} {D : Ends} {tz : TS} {i : Nat} {tr tb : TE} {K' : Fg} {a : Addr} {xs : List V} {r : Nat} {n : Int} (hi : σ[i]? = some (some (.ref a))) (ha : H a = some (.lst xs)) (hr : EvS tr σ H (intS (r : Int))) (hn : EvS tb σ H (intS n)) (h0 : -100000 ≤ n ∧ n ≤ 100000) (hx : xs.length ≤ 100000)
    (k : ∀ H1, Ex H H1 → tz D σ (upd H1 a (.lst (xs ++ List.replicate n.toNat (.int (r : Int)))))) : tSeq (tDrop (tBM K' "list" rExtend (tVar i) (tCons (tOp rRep (tLst (tCons tr tNil)) tb) tNil))) tz D σ H :=
  ⟨.ref a, hi, .inl ⟨rfl, _, SqL.of ha⟩, by
    refine e_rep (K := K') (d := .int (r : Int)) (n := n) (e_lst (ds := [.int (r : Int)]) (a_cons hr.toD a_nil) (by show 1 ≤ 1000; decide)) hn h0 H (Evl.Ex.refl H) _ fun v H1 e1 ⟨b, ys, hv, hb, hy⟩ => ?_
    subst hv
    rw [show List.replicate n.toNat (PyData.int (r : Int)) = (List.replicate n.toNat (r : Int)).map PyData.int by rw [List.map_replicate]] at hy
    have hy := hy.ints
    subst hy
    rw [List.map_replicate] at hb
    refine ⟨a, b, xs, _, rfl, rfl, e1 _ _ ha, hb, ?_, k H1 e1⟩
    rw [List.length_replicate, sizeLine_eq]
    omega⟩
abbrev s_least_full_row : Stmt := topS 53
abbrev N_least_full_row : List Str := ["table", "stock", "bounds", "types", "row", "taken", "at", "request", "units"]
theorem scleast_full_row : FnScope N_least_full_row ["table", "stock", "bounds", "types"] (defScope s_least_full_row) := ⟨rfl, rfl, rfl, by decide +kernel, rfl, by decide +kernel, by decide +kernel⟩
def sp_least_full_row (K : Fg) : Sp := fun vs H Q _ => ∃ (T : Tab) (st : List Int) (bl : List (Option Int)) (l : List Nat), AtAll H vs [tabS K T, dat K (dIs st), dat K (dOs bl), dat K (dNs l)] ∧ T.Ok ∧ Case T.lots st bl ∧ st.length = T.nk ∧ (∀ r ∈ l, r < T.types.length) ∧ l.length ≤ 12 ∧ Sg T.nk (fn st) ≤ 1000 ∧ Ret (dat K (dNs (lfr T.lots st bl l))) H Q
theorem rkL_le {lots : List (List Nat)} {st : List Int} {bl : List (Option Int)} (hc : Case lots st bl) (l : List Nat) (i : Nat) : 0 ≤ rkL lots st bl l i ∧ rkL lots st bl l i ≤ Sg st.length (fn st) := by
  obtain ⟨f, hf⟩ := mx_in hc (l.take i)
  unfold rkL rk
  rw [hf.mx_eq]
  exact ⟨Sg_nonneg fun r _ => hf.tk.row_nonneg r, hf.tk.val_le⟩
theorem ok_least_full_row (T : Bt mg) (D : Df K mg "least_full_row" s_least_full_row ["table", "stock", "bounds", "types"]) (G_taken_units : OkD P w K mg base CX0 1 "taken_units" ["taking"] (sp_taken_units K)) (G_greatest_taking : OkD P w K mg base CX0 5 "greatest_taking" ["table", "stock", "bounds", "types"] (sp_greatest_taking K)) :
    OkD P w K mg base CX0 6 "least_full_row" ["table", "stock", "bounds", "types"] (sp_least_full_row K) := by
  refine OkD.of D fun fa fd F => F.ok scleast_full_row (fun vs H Q E ⟨_, _, _, _, h, _⟩ => atLen h) (fun cdv A outer s H vs Q E hr ⟨tb, st, bl, l, h, g, hc, hst, hl, hn, hS, kk⟩ => ?_)
  obtain ⟨x, y, z, u, rfl, hx, hy, hz, hu⟩ := a4 h
  refine ⟨_, (pss_cons (ps_par (i := 4) (j := 5) (by rfl) scleast_full_row.nd rfl rfl (by decide) rfl rfl (pa_cons (pe_lst pa_nil) (pa_cons pe_int pa_nil)) (by rfl)) (pss_cons (ps_for PassesOwn.never rfl (k_enumT K (by rfl) T.b_enumerate (pa_cons (pv 3) pa_nil)) (k_pgt K (n := 2) rfl (pgs_cons (pg_name (i := 6) scleast_full_row.nd rfl (by first | exact Or.inl rfl | exact Or.inr rfl)) (pgs_cons (pg_name (i := 7) scleast_full_row.nd rfl (by first | exact Or.inl rfl | exact Or.inr rfl)) pgs_nil))) (pss_cons (ps_set (i := 8) scleast_full_row.nd rfl (by first | exact Or.inl rfl | exact Or.inr rfl) (pe_d G_taken_units hr (pa_cons (pe_d G_greatest_taking hr (pa_cons (pv 0) (pa_cons (pv 1) (pa_cons (pv 2) (pa_cons (pe_slice (k_slT K) (pv 3) po_none (po_some (pe_op op_add (pv 6) pe_int))) pa_nil))))) pa_nil))) (pss_cons (ps_expr (pe_bm PySem.F.plainAttrs_list PySem.F.slot_list_extend PySem.F.type_list_extend mt_extend (pv 4) (pa_cons (pe_op op_rep (pe_lst (pa_cons (pv 7) pa_nil)) (pe_op op_sub (pv 8) (pv 5))) pa_nil))) (pss_one (ps_set (i := 5) scleast_full_row.nd rfl (by first | exact Or.inl rfl | exact Or.inr rfl) (pv 8)))))) (pss_one (ps_ret (pe_callTy (k_tuple K) (by rfl) T.b_tuple (by decide +kernel) (pa_cons (pv 4) pa_nil)))))), ?_⟩
  have hnk := g.nk
  have hnt := g.nt
  refine q_parF (s := intS 0) f_lst0 (e_int (i := 0)) fun ra v1 H1 na e1 ka p1 => ?_
  have p1 : v1 = .int 0 := p1
  subst p1
  have sl1 : Sl 9 [x, y, z, u, .ref ra] (((L2.start N_least_full_row [x, y, z, u]).set 4 (some (.ref ra))).set 5 (some (.int 0))) := ⟨rfl, fun i v e => by
    match i, e with
    | 0, e => exact congrArg some e
    | 1, e => exact congrArg some e
    | 2, e => exact congrArg some e
    | 3, e => exact congrArg some e
    | 4, e => exact congrArg some e
    | i + 5, e => cases e⟩
  have hu1 := (dat K (dNs l)).up _ _ _ e1 hu
  obtain ⟨ua, uxs, rfl, huq, hud⟩ := Tp.tup_inv hu1
  have hud2 := hud
  rw [map_dN] at hud2
  have hue := hud2.ints
  have hulen : uxs.length = l.length := by rw [hud.len, List.length_map]
  have hrk0 : rkL tb.lots st bl l 0 = 0 := by
    obtain ⟨f, hf⟩ := mx_in hc (l.take 0)
    unfold rkL rk
    rw [hf.mx_eq, hf.tk.val_eq0 (by rw [List.take_zero]; exact fun r z => nomatch z)]
  refine q_id (s_forET (K := K) (a := ua) (xs := uxs) (sl1.var (v := .ref ua) (s := vS (.ref ua)) rfl rfl) huq (fun i σ' H' => Sl 9 [x, y, z, .ref ua, .ref ra] σ' ∧ σ'[5]? = some (some (.int (rkL tb.lots st bl l i))) ∧ Ex H H' ∧ SqT K H' ua uxs ∧ ∃ rw, H' ra = some (.lst (wtV rw)) ∧ rw = (List.range i).flatMap (fun i => List.replicate (rkL tb.lots st bl l (i + 1) - rkL tb.lots st bl l i).toNat (l.getD i 0)) ∧ rw.length ≤ 1000 * i)
    (fun i σ' H' q => q.2.2.2.1) (fun H2 e2 => ⟨sl1, by rw [hrk0]; rfl, e1.trans e2, Evl.ex_t e2 huq, [], e2 _ _ ka, rfl, Nat.zero_le _⟩) ?_ ?_)
  · rintro i v σ' H' tp hi ⟨sl, h5, ex, hq', rw, hra, hrw, hrl⟩ hT
    have hil : i < l.length := by rw [← hulen]; exact (List.getElem?_eq_some_iff.mp hi).1
    rw [hue, List.map_map, List.getElem?_map, List.getElem?_eq_getElem hil] at hi
    have hi := Option.some.inj hi
    subst hi
    generalize hr0 : l[i] = r0
    have hrl0 : l.getD i 0 = r0 := by rw [List.getD_eq_getElem?_getD, List.getElem?_eq_getElem hil, ← hr0]; rfl
    have exT : Ex H' (upd H' tp (.tup [.int (i : Int), .int (r0 : Int)])) := Evl.Ex.new hT
    obtain ⟨w1, w2, q1, q2, hgo⟩ := goes_two (i := 6) (j := 7) (σ := σ') (tp_pair (K := K) hT (.int (i : Int)) (.int (r0 : Int)))
    have q1 := q1.int_inv
    have q2 := q2.int_inv
    subst q1 q2
    show gTup K 2 (gCons (gName 6) (gCons (gName 7) gNil)) (.ref tp) σ' (upd H' tp (.tup [.int (i : Int), .int (r0 : Int)])) _
    refine hgo _ ?_
    have exH := ex.trans exT
    have hra2 := exT _ _ hra
    have hq2 := Evl.ex_t exT hq'
    generalize upd H' tp (.tup [.int (i : Int), .int (r0 : Int)]) = H2 at exH hra2 hq2
    have sl2 : Sl 9 [x, y, z, .ref ua, .ref ra] ((σ'.set 6 (some (.int (i : Int)))).set 7 (some (.int (r0 : Int)))) := (sl.set (by show 5 ≤ 6; decide)).set (by show 5 ≤ 7; decide)
    have h6 : ((σ'.set 6 (some (V.int (i : Int)))).set 7 (some (.int (r0 : Int))))[6]? = some (some (.int (i : Int))) := sl_ne (by decide) (sl_same sl.len (by decide))
    have h7 : ((σ'.set 6 (some (V.int (i : Int)))).set 7 (some (.int (r0 : Int))))[7]? = some (some (.int (r0 : Int))) := sl_same (n := 9) (by rw [List.length_set]; exact sl.len) (by decide)
    have h55 : ((σ'.set 6 (some (V.int (i : Int)))).set 7 (some (.int (r0 : Int))))[5]? = some (some (.int (rkL tb.lots st bl l i))) := sl_ne (by decide) (sl_ne (by decide) h5)
    generalize (σ'.set 6 (some (V.int (i : Int)))).set 7 (some (.int (r0 : Int))) = σ2 at sl2 h6 h7 h55
    have hcut : cutL (l.map dN) none (some ((i : Int) + 1)) = (l.take (i + 1)).map dN := by
      have := cut_take (l.map dN) (i := i + 1) (by rw [List.length_map]; exact hil)
      rw [← List.map_take] at this
      exact this
    have hlt : ∀ r ∈ l.take (i + 1), r < tb.types.length := fun r hr => hl r (List.mem_of_mem_take hr)
    have hdu : Tp K H2 (.ref ua) (.tuple (l.map dN)) := .tup hq2 (by rw [map_dN, hue]; exact tpAll_ints _)
    refine q_set (s := intS (rkL tb.lots st bl l (i + 1))) (e_call (ss := [mxS K tb.nk tb.types.length tb.lots st bl (l.take (i + 1))]) (a_cons (e_call (a_cons (sl2.var (v := x) rfl ((tabS K tb).up _ _ _ exH hx)) (a_cons (sl2.var (v := y) rfl ((dat K (dIs st)).up _ _ _ exH hy)) (a_cons (sl2.var (v := z) rfl ((dat K (dOs bl)).up _ _ _ exH hz)) (a_cons (EvS.cast (s' := dat K (dNs (l.take (i + 1)))) (e_slT (lo := none) (hi := some ((i : Int) + 1)) (sl2.var (v := .ref ua) rfl hdu) o_none (o_some (e_I0 (g := fun a b => .int (a + b)) (e_var (v := .int (i : Int)) (s := intS (i : Int)) h6 rfl) (e_int (i := 1))))) (by rw [hcut]; rfl)) a_nil)))) fun vs H1 p Q q => ⟨tb, st, bl, _, p, g, hc, hst, hlt, Nat.le_trans (List.length_take_le _ _) (by omega), fun f hf v H2 e p => q v H2 e ⟨f, hf, p⟩⟩) a_nil) fun vs H1 p Q q => by
      obtain ⟨x1, rfl, f, hf, p1⟩ := a1 p
      refine ⟨tb.nk, tb.types.length, f, ⟨p1, trivial⟩, hnk, hnt, fun v H2 e pv => q v H2 e ?_⟩
      have pv : v = .int _ := pv
      rw [pv]
      show V.int _ = V.int _
      unfold rkL rk
      rw [hst, tb.lots_len, hf.mx_eq]) fun v8 H3 e3 p8 => ?_
    have p8 : v8 = .int _ := p8
    subst p8
    have sl3 := sl2.set (x := .int (rkL tb.lots st bl l (i + 1))) (show 5 ≤ 8 by decide)
    have h38 : (σ2.set 8 (some (.int (rkL tb.lots st bl l (i + 1)))))[8]? = some (some (.int (rkL tb.lots st bl l (i + 1)))) := sl_same sl2.len (by decide)
    have h37 : (σ2.set 8 (some (.int (rkL tb.lots st bl l (i + 1)))))[7]? = some (some (.int (r0 : Int))) := sl_ne (by decide) h7
    have h35 : (σ2.set 8 (some (.int (rkL tb.lots st bl l (i + 1)))))[5]? = some (some (.int (rkL tb.lots st bl l i))) := sl_ne (by decide) h55
    generalize σ2.set 8 (some (.int (rkL tb.lots st bl l (i + 1)))) = σ3 at sl3 h38 h37 h35
    have b1 := rkL_le hc l (i + 1)
    have b2 := rkL_le hc l i
    rw [hst] at b1 b2
    refine q_extRep (a := ra) (r := r0) (n := rkL tb.lots st bl l (i + 1) - rkL tb.lots st bl l i) (sl3.at_ 4 _ rfl) (e3 _ _ hra2) (e_var (v := .int (r0 : Int)) (s := intS r0) h37 rfl) (e_I0 (g := fun a b => .int (a - b)) (e_var (v := .int _) (s := intS _) h38 rfl) (e_var (v := .int _) (s := intS _) h35 rfl)) (by omega) (by
      unfold wtV
      rw [List.length_map]
      omega) fun H4 e4 => ?_
    refine s_set (e_var (v := .int (rkL tb.lots st bl l (i + 1))) (s := intS _) h38 rfl) fun v9 H5 e5 p9 => ?_
    have p9 : v9 = .int _ := p9
    subst p9
    have ex5 : Ex H (upd H4 ra (.lst (wtV rw ++ List.replicate (rkL tb.lots st bl l (i + 1) - rkL tb.lots st bl l i).toNat (.int (r0 : Int))))) := Evl.Ex.mut ((exH.trans e3).trans e4) na
    refine ⟨sl3.set (Nat.le_refl _), sl_same sl3.len (by decide), ex5.trans e5, ?_, rw ++ List.replicate (rkL tb.lots st bl l (i + 1) - rkL tb.lots st bl l i).toNat r0, ?_, ?_, ?_⟩
    · exact Evl.ex_t e5 (Gt.upd (by rw [e4 _ _ (e3 _ _ hra2)]; trivial) _ _ (Evl.ex_t (e3.trans e4) hq2))
    · rw [e5 _ _ upd_same]
      unfold wtV
      rw [List.map_append, List.map_replicate]
    · rw [List.range_succ, List.flatMap_append, hrw, List.flatMap_singleton, hrl0]
    · rw [List.length_append, List.length_replicate]
      omega
  · rintro σ' H' ⟨sl, h5, ex, hq', rw, hra, hrw, hrl⟩
    rw [hulen] at hrw
    refine (s_retR (D := { nx := fun _ H' => Q .non H', rt := Q }) (e_tupleL (K := K) (ds := rw.map dN) (a_cons (sl.var (i := 4) (v := .ref ra) rfl ⟨ra, _, rfl, hra, wtV_dN _⟩) a_nil)) ?_ : tRet _ { nx := fun _ H' => Q .non H', rt := Q } σ' H')
    rw [hrw]
    exact kk.of ex
end
end K45
/-! An own exception whose __init__ says super().__init__(a text), over ValueError through another class. -/
namespace K45
open PySem PySem.Spec PySem.Calls PyProof.Rows L2 NdefX PySem.W
abbrev N_rinit : List Str := ["self", "word", "__class__"]
abbrev s_rinit : Stmt := inClass (topS 4) 0
abbrev F_rinit (cc cda : Addr) : NF := ⟨"__init__", "Refused.__init__", defArgs s_rinit, defBody s_rinit, defScope s_rinit, [(Str.ofString "__class__", cc)], cda⟩
/-- what the written part tells of it -/
structure RefIs (P : Program) (K : Frag) (mg : Str → Option Value) (C f cc cda : Addr) (fd : FuncData) : Prop where
  lk : ∃ oc od osl doc pm ct, fd = (F_rinit cc cda).fd doc pm ct ∧ K.lookup f = some ⟨oc, od, .func fd, osl⟩
  hcd : codeIn K (.ref cda) "Refused.__init__" = true
  code : ∃ ccl cdd vs ccs file tf, K.lookup cda = some ⟨ccl, cdd, .fields vs, ccs⟩ ∧ vs[2]? = some (.str file tf) ∧ ((P.main.file : Str) == file) = true
  cell : ∃ ccl cld csl, K.lookup cc = some ⟨ccl, cld, .cell (some (.ref C)), csl⟩
  T : OexC K C
  nw : findIn K (.ref C) "word" = some none
  sub : mroIn K C (.ref C) = some true
  sup : mg "super" = none
  op : nsIn K cStatics "thirdparty.any" = some none
  al : ks_superIn K C C "__init__" = some (some (.builtin "ValueError.__init__"))
  isB : subIn K (.ref C) (.type "ValueError") = some true
  top : (P.main.scope.names.lookup ("super" : Str)).isSome = false
theorem sc_rinit : NScope N_rinit ["self", "word"] ["__class__"] (defScope s_rinit) := nscope_by (by decide +kernel)
/-- what it does -/
def sp_rinit (K : Frag) (C : Addr) : Sp := fun vs H Q _ => ∃ (e : Addr) (z : V), vs = [.ref e, z] ∧ H e = some (exo e C none) ∧ ∀ dx, H dx = none → dx ≠ e → Q .non (upd (upd H dx (exd dx [("word", z)])) e (exo e C (some dx)))
theorem ok_rinit {P : Program} {w : World} {K : Frag} {mg : Str → Option Value} {base : Heap} {CX : CXT} {C f cc cda : Addr} {fd : FuncData} (R : RefIs P K mg C f cc cda fd) : FnOk P w K mg base CX 1 f fd ["self", "word"] (sp_rinit K C) := by
  refine ⟨fun vs H Q E ⟨e, z, h, _⟩ => by rw [h]; rfl, fun A outer s H args us vs Q E hr e0 hb r ⟨e, z, hvs, he, kk⟩ => ?_⟩
  subst hvs
  obtain ⟨oc, od, osl, doc, pm, ct, rfl, lk⟩ := R.lk
  obtain ⟨ccl, cdd, cvs, ccs, file, tf, hcode, hvs2, hfile⟩ := R.code
  obtain ⟨kcl, kld, ksl, hcell⟩ := R.cell
  have KX : K.In s.heap := e0.mod.kin.keeps fun b o e => (e0.bs b o e).1
  have lim : s.heap.NoLimit := e0.mod.nolimit.keeps fun b o e => (e0.bs b o e).1
  have hcn : H cc = none := (e0.bs cc _ (e0.mod.kin _ _ hcell)).2
  cases r with
  | @cons _ u0 _ ur ra rr =>
  cases rr with
  | @cons _ u1 _ ur2 rz rr2 =>
  cases rr2
  cases ra
  refine ks_codeAny_call_defAt (fd := (F_rinit cc cda).fd doc pm ct) (body := defBody s_rinit) (binds := (["self", "word"] : List Str).zip [.ref e, u1]) hr.depth (KX _ _ lk) rfl lim (codeRec_of KX R.hcd) rfl hb (show ∀ x ∈ (defScope s_rinit).names, x.2 ≠ .cell by decide +kernel) (fun y hy => ?_) (fun h₁ hns kp => ?_)
  · have : y.1 ∈ (["self", "word"] : List Str) := (List.of_mem_zip hy).1
    exact sc_rinit.par _ this
  have CA : CellsAt (F_rinit cc cda).cl ["__class__"] [some (.ref C)] s.heap H := by
    have lkc : ∀ y c, (F_rinit cc cda).cl.lookup y = some c → y = Str.ofString "__class__" ∧ c = cc := fun y c h => by
      have h : (match y == Str.ofString "__class__" with | true => some cc | false => none) = some c := h
      cases q : y == Str.ofString "__class__" with
      | true =>
        rw [q] at h
        exact ⟨eq_of_beq q, (Option.some.inj h).symm⟩
      | false =>
        rw [q] at h
        cases h
    refine ⟨rfl, fun y c h => ?_, fun x y c h1 h2 => ?_, fun i y h => ?_⟩
    · obtain ⟨_, rfl⟩ := lkc y c h
      exact ⟨hcn, some (.ref C), _, KX _ _ hcell, rfl⟩
    · rw [(lkc x c h1).1, (lkc y c h2).1]
    · match i, h with
      | 0, h =>
        have h := Option.some.inj h
        subst h
        refine ⟨cc, by simp [List.lookup], fun v hv => ?_⟩
        have hv : (some (V.ref C)) = some v := Option.some.inj hv
        cases hv
        exact ⟨.ref C, rfl, _, KX _ _ hcell, rfl⟩
      | i + 1, h => cases h
  have I0 := inv_startN (CX := CX) (F := F_rinit cc cda) (f := f) (E := E) (us := [.ref e, u1]) (vs := [.ref e, z]) (tk := s.toks + ((["self", "word"] : List Str).zip [Value.ref e, u1]).length) sc_rinit hr.hd e0 rfl (.cons rfl (.cons rz .nil)) CA hns kp
  have H1 : H e = some (exo e C none) := he
  obtain ⟨nm, q, Nc, bs, bm, sn, sub, ab, col, dd, k0, k1, k2, k3, k5, hC, hbm⟩ := R.T.cls
  have hcls : clsIn K C = some { name := nm, bases := bs, mro := .ref C :: bm, ns := Nc, qualname := q, hasDict := true, slotNames := sn, subclasses := sub, abstract := ab, collection := col, hasDel := false } := by unfold clsIn; rw [hC] <;> rfl
  generalize hs1 : ({ s with heap := h₁, toks := s.toks + ((["self", "word"] : List Str).zip [Value.ref e, u1]).length } : Shared) = s1 at I0
  have X1 : K.In s1.heap := I0.kIn
  have hf1 : s1.heap.get? f = some ⟨oc, od, .func ((F_rinit cc cda).fd doc pm ct), osl⟩ := X1 _ _ lk
  obtain ⟨t1, ho1⟩ := exo_at I0.hok H1
  obtain ⟨mb, hb1, hb2⟩ := I0.mod.blt
  have hns1 : s1.heap.Ns s.heap.objs.size (fun y => ((["self", "word"] : List Str).zip [Value.ref e, u1]).reverse.lookup y) := by
    rw [← hs1]
    exact hns
  refine ks_wpAt_execs_cons (ks_wpAt_Expr_any (ks_wpAt_MethodCall (ks_wpAt_super_base (by rfl) (by rfl) (by rfl) rfl hf1 rfl rfl rfl (X1 _ _ hcode) rfl hvs2 hfile R.top ?_)))
  refine ks_loadName_global (by rfl) (by rfl) (loadGlobal_builtin (mg := mg) (mb := mb) (I0.mod.glob.keeps I0.bk) R.sup (hb1.keeps I0.bk) ((hb2 _ (by decide)).trans (by decide +kernel : bootBuiltins "super" = some (.type "super"))) ⟨rfl, ?_⟩)
  refine wpAny_loadName_free (by rfl) (by rfl) (c := cc) (by rfl) (v := .ref C) ⟨_, X1 _ _ hcell, rfl⟩ ?_
  refine wpAny_loadName_local (by rfl) (by rfl) hns1 (v := .ref e) (by rfl) ?_
  have hCget := X1 _ _ hC
  refine ks_wpAny_isType_cls hCget rfl ⟨rfl, ?_⟩
  obtain ⟨hh, g, d, tk, os⟩ := s1
  refine ks_wpAny_call_super hCget rfl ho1 rfl (fun c z => by cases z) (looks_mroIn X1 R.sub) (fun h2 hso kp2 => ?_)
  have I2 : L2.Inv (ncx CX P w K mg base N_rinit (F_rinit cc cda) f A outer s H E) [] (startF N_rinit [.ref e, z] [some (.ref C)]) H ⟨h2, g, d, tk, os⟩ := I0.kept (t' := tk) kp2
  have X2 : K.In h2 := I2.kIn
  obtain ⟨t2, ho2⟩ := exo_at I2.hok H1
  have hal : alongIn K "__init__" (((Value.ref C :: bm).dropWhile (· != .ref C)).drop 1) = some (some (.builtin "ValueError.__init__")) := by
    have := R.al
    unfold ks_superIn at this
    rw [hcls] at this
    exact this
  have hIn : Looks (model P w) h2 (isInstance (.ref e) (.type "ValueError")) true := by
    have I : InstAt h2 e { cls := .ref C, dict := none, data := .fields #[.ref t2, .none, .none, .none, .bool false, .none] } C none := ⟨ho2, rfl, rfl, trivial⟩
    exact I.type.andThen (looks_subIn X2 R.isB)
  have hne : e ≠ C := fun zz => by
    rw [zz] at ho2
    rw [X2 _ _ hC] at ho2
    cases ho2
  refine kxs_getMethod kxs_ValueError hso (looks_opaque X2 R.op) (l₀ := .ref C :: bm) (fun A Q E s k q => wpAny_bind ((looks_clsIn X2 hcls) A _ E s k (wpAny_pure q))) rfl X2 hal hIn hne rfl ?_
  have hu3 : (h2.push (kxs_mw "ValueError.__init__" e)).get? h2.objs.size = some (kxs_mw "ValueError.__init__" e) := Heap.get?_push_at rfl rfl
  have kp3 : ∀ b o, h2.get? b = some o → (h2.push (kxs_mw "ValueError.__init__" e)).get? b = some o := fun b o q => Heap.get?_push_of_some _ q
  refine kxs_callWith (i := "ValueError.__init__") (x := e) (by rfl) (evalArgs_plain (Calls.spliced_cons (Calls.Constant_str (k := 0) (pos := ⟨17, 25, 17, 34⟩) (Calls.spliced_nil ⟨hu3, ?_⟩))))
  have I3 : L2.Inv (ncx CX P w K mg base N_rinit (F_rinit cc cda) f A outer s H E) [] (startF N_rinit [.ref e, z] [some (.ref C)]) H ⟨h2.push (kxs_mw "ValueError.__init__" e), g, d, tk + 1 + 1, os⟩ := I2.kept (t' := tk + 1 + 1) kp3
  have ho3 := kp3 _ _ ho2
  have hC3 := kp3 _ _ (X2 _ _ hC)
  refine wpAny_call (codeAny_of_tree ?_)
  show wpAny _ _ (callAny (.ref h2.objs.size) ⟨[.str "refused" (tk + 1)], []⟩) _ _ _
  simp only [callAny]
  refine wpAny_bind (wpAny_load hu3 ?_)
  simp only [kxs_mw, show (Value.type "method-wrapper" == Value.type "method" || Value.type "method-wrapper" == Value.type "builtin_function_or_method" || Value.type "method-wrapper" == Value.type "method-wrapper") = true by decide, if_true]
  refine KFB.if_so (by decide) ?_
  refine wpAny_bind (check_bound_init F.excBase_ValueError.toExcCallFacts hC3 ho3 rfl ?_)
  refine wpAny_bind (wpAny_pure (wpAny_pure ?_))
  refine ⟨plainId_quiet F.excBase_ValueError.init.plain _, codeAny_builtin F.excBase_ValueError.initEntry ?_⟩
  refine exc_init_tree (cls := .ref C) (t0 := t2) (dv := none) (c2 := .none) (c3 := .none) (b4 := .bool false) ho3 (by show 1 ≤ sizeLine; rw [sizeLine_eq]; omega) fun h4 k4 e4 _ => ?_
  have I4 : L2.Inv (ncx CX P w K mg base N_rinit (F_rinit cc cda) f A outer s H E) [] (startF N_rinit [.ref e, z] [some (.ref C)]) H ⟨h4, g, d, tk + 1 + 1, os⟩ := by
    have J := I3.write (t' := tk + 1 + 1) (x := e) (e := e) (o := exo e C none) (by rw [H1]; exact True.intro) (.inl rfl) k4 ⟨_, e4⟩ (exo_ok e4)
    have eu : upd H e (exo e C none) = H := by
      funext b
      by_cases hb : b = e
      · rw [hb, upd_same, H1]
      · rw [upd_ne hb]
    rw [eu] at J
    exact J
  have pt : PSs (ncx CX P w K mg base N_rinit (F_rinit cc cda) f A outer s H E) [.Assign [.Attribute (.Name "self" ⟨18, 8, 18, 12⟩) "word" ⟨18, 8, 18, 17⟩] (.Name "word" ⟨18, 20, 18, 24⟩) ⟨18, 8, 18, 24⟩] (tOst K "word" (tVar 0) (tVar 1)) := pss_one (ps_ost (pv 0) (pv 1))
  refine (wpAt_of_wpAny (wpAny_mono (pt.run [] _ (startF N_rinit [.ref e, z] [some (.ref C)]) H { nx := fun _ H' => Q .non H', rt := Q } I4 ?_) (fun fl s' hs => ?_) fun e s' hs => hs) : PySem.wpAt _ _ _ (execs _ _) _ _ _)
  · exact ⟨z, rfl, .ref e, rfl, e, C, rfl, R.T, R.nw, .inl ⟨H1, fun dx n ne => kk dx n ne⟩⟩
  · have fin : ∀ {σ' : L2.St} {H' : Hp} {v : V} {u : Value}, L2.Inv (ncx CX P w K mg base N_rinit (F_rinit cc cda) f A outer s H E) [] σ' H' s' → L2.RelV v u → Q v H' → CE outer P w H s Q u s' :=
      fun {σ' H' v u} J rv q => ⟨v, H', J.os, J.bare, J.base, J.hok, rv, q⟩
    cases fl with
    | ret u =>
      obtain ⟨v, σ', H', J, rv, q⟩ := hs
      exact fin J rv q
    | next =>
      obtain ⟨σ', H', J, q⟩ := hs
      exact fin (v := V.non) (u := Value.none) J rfl q
    | brk =>
      obtain ⟨_, _, _, q⟩ := hs
      exact False.elim q
    | cont =>
      obtain ⟨_, _, _, q⟩ := hs
      exact False.elim q
end K45
/-! need_unit and those that call it. -/
namespace K45
open PySem L2 RZ
/-- the class Refused, its __init__ -/
structure RefC (P : Program) (w : World) (K : Fg) (mg : Str → Option Value) (base : Heap) (C fI : Addr) (fdI : FuncData) : Prop where
  T : OexC K C
  iC : PySem.W.findIn K (.ref C) "__init__" = some (some (.ref fI))
  tI : PySem.W.typeIn K (.ref fI) = some (.type "function")
  init : FnOk P w K mg base CX0 1 fI fdI ["self", "word"] (sp_rinit K C)
  bI : Binds K fdI ["self", "word"] []
  gC : mg "Refused" = some (.ref C)
/-- what leaves: Refused('unit') -/
def UnitX (C : Addr) (H : Hp) (E : XK) : Prop := ∀ (d : Addr) H', Ex H H' → H' d = some (.xd [("word", .str "unit")]) → E (.ref C) (some d) H'
theorem UnitX.of {C : Addr} {H H' : Hp} {E : XK} (h : UnitX C H E) (e : Ex H H') : UnitX C H' E := fun d H2 e2 k => h d H2 (e.trans e2) k
section
variable {X : Cx} {CX : CXT} {k j : Nat} {x : Str} {p pos : Pos} {e : Expr} {es : List Expr} {ps : List Str} {sp : Sp} {t : TA} {E : XK}
/-- the call of a def that may raise -/
theorem pe_dx (G : OkD X.prog X.w X.K X.mg X.base CX k x ps sp) (hr : Room j X.A) (hx : Passes CX X E) (ha : PA X (e :: es) t) (hk : k ≤ j := by decide) (hg : Gl X x := by rfl)
    (hdb : (x == ("__debug__" : Str)) = false := by decide) (he : starEach (e :: es) X.env = (false, eval e X.env) :: starEach es X.env := by rfl) (hpl : (backTo pos (starEach es X.env)).any (·.1) = false := by rfl) :
    PE X (.Call (.Name x p) (e :: es) [] pos) (tCall sp [] E t) := by
  obtain ⟨f, fd, F, m, kp, b⟩ := G.ex
  exact pe_call F (hr.mono hk) hg m kp b .nil hx ha hdb he hpl
end
theorem OkD.ofX {P : Program} {w : World} {K : Fg} {mg : Str → Option Value} {base : Heap} {k : Nat} {x : Str} {st : Stmt} {ps : List Str} {sp : Sp} (D : Df K mg x st ps) (h : ∀ f fd, Fun K x x st f fd → FnOk P w K mg base (L2.CX P w) k f fd ps sp) : OkD P w K mg base (L2.CX P w) k x ps sp :=
  let ⟨f, fd, F, m, b⟩ := D.ex
  ⟨f, fd, h f fd F, m, F.kp, b⟩
theorem pass_cx {P : Program} {w : World} {K : Fg} {mg : Str → Option Value} {base : Heap} {N : List Str} {qual : Str} {scope : Scope} {f : Addr} {cdv : Value} {A : Around} {outer : List Env} {s : Shared} {H : Hp} {E : XK} :
    Passes (L2.CX P w) (cxOf (L2.CX P w) P w K mg base N qual scope f cdv A outer s H E) E := passes_call (X := cxOf (L2.CX P w) P w K mg base N qual scope f cdv A outer s H E) (takes_of (E := E) rfl rfl rfl rfl) fun _ _ _ _ h => h
/-- what never gives a value: an exception leaves -/
def EvR (te : TE) (σ : L2.St) (H : Hp) : Prop := ∀ H1, Ex H H1 → ∀ Q : VK, te σ H1 Q
section
variable {K : Fg} {σ : L2.St} {H : Hp} {ta tb te : TE} {s : Sh}
theorem r_two {r : R2} (ha : EvS ta σ H s) (hb : EvR tb σ H) : EvR (tOp r ta tb) σ H := fun H1 e Q => ha H1 e _ fun x H2 e2 _ => hb H2 (e.trans e2) _
theorem q_ifR {tu tw tz : TS} {D : Ends} (h : EvR te σ H) : tSeq (tIfS (tB te) tu tw) tz D σ H := h H (Evl.Ex.refl H) _
theorem r_isN (h : EvR te σ H) : EvR (tIsN te) σ H := fun H1 e Q => h H1 e _
theorem r_call {sp : Sp} {E : XK} {ta : TA} {ss : List Sh} (h : EvA ta σ H ss) (hs : ∀ vs H1, Ex H H1 → AtAll H1 vs ss → ∀ Q : VK, sp vs H1 Q E) : EvR (tCall sp [] E ta) σ H := fun H1 e Q =>
  h H1 e _ fun vs H2 e2 p => by
    show sp (vs ++ []) H2 Q E
    rw [List.append_nil]
    exact hs vs H2 (e.trans e2) p Q
end
section
variable {P : Program} {w : World} {K : Fg} {mg : Str → Option Value} {base : Heap} {C fI : Addr} {fdI : FuncData}
abbrev s_need_unit : Stmt := topS 44
abbrev N_need_unit : List Str := ["stock", "kind"]
theorem scneed_unit : FnScope N_need_unit ["stock", "kind"] (defScope s_need_unit) := ⟨rfl, rfl, rfl, by decide +kernel, rfl, by decide +kernel, by decide +kernel⟩
def sp_need_unit (K : Fg) (C : Addr) : Sp := fun vs H Q E => ∃ (st : List Int) (k : Nat), AtAll H vs [dat K (dIs st), intS (k : Int)] ∧ k < st.length ∧ (fn st k ≠ 0 → Ret (dat K .none) H Q) ∧ (fn st k = 0 → UnitX C H E)
theorem ok_need_unit (T : Bt mg) (RF : RefC P w K mg base C fI fdI) (D : Df K mg "need_unit" s_need_unit ["stock", "kind"]) : OkD P w K mg base (L2.CX P w) 3 "need_unit" ["stock", "kind"] (sp_need_unit K C) := by
  refine OkD.ofX D fun fa fd F => F.okX scneed_unit (fun vs H Q E ⟨_, _, h, _⟩ => atLen h) (fun cdv A outer s H vs Q E hr ⟨st, k, h, hk, k1, k2⟩ => ?_)
  obtain ⟨x, y, rfl, hx, hy⟩ := a2 h
  refine ⟨_, (pss_one (ps_if (pt_cmpR op_eq (pe_ix (k_ix K) (pv 0) (pv 1) (fun _ _ => rfl)) pe_int (nomark _)) (pss_one (ps_raise rfl (takes_of rfl rfl rfl rfl) (pmk_oex RF.T RF.iC RF.tI RF.init hr RF.bI .nil pass0 rfl RF.gC (pa_cons pe_str pa_nil)))) pss_nil)), ?_⟩
  refine s_when (b := decide (fn st k = 0)) (t_test (e_eqI (EvS.toI (e_ixT (e_var (v := x) rfl hx) (e_var (v := y) rfl hy) (by rw [List.getElem?_map, fn_get hk]; rfl))) e_int)) (fun hb H1 e1 => ?_) (fun hb H1 e1 => ?_)
  · have hb := of_decide_eq_true hb
    have hu := (k2 hb).of e1
    refine ⟨by decide, fun a ha => ⟨a, .str "unit", rfl, upd_same, fun dx n ne => ⟨rfl, dx, [("word", .str "unit")], upd_same, by rw [upd_ne ne, upd_same], ?_, ?_⟩⟩⟩
    · rw [upd_ne ne] at n
      exact n
    · rw [upd_ne ne] at n
      refine hu dx _ (fun b o hb => ?_) upd_same
      have h1 : b ≠ dx := fun z => by rw [z, n] at hb; cases hb
      have h2 : b ≠ a := fun z => by rw [z, ha] at hb; cases hb
      rw [upd_ne h1, del_ne h2, upd_ne h2, upd_ne h1, upd_ne h2]
      exact hb
  · have hb := of_decide_eq_false hb
    exact (k1 hb) .non H1 e1 .non
abbrev s_worse_kinds : Stmt := topS 46
abbrev N_worse_kinds : List Str := ["table", "stock", "bounds", "kind", "some", "other"]
theorem scworse_kinds : FnScope N_worse_kinds ["table", "stock", "bounds", "kind"] (defScope s_worse_kinds) := ⟨rfl, rfl, rfl, by decide +kernel, rfl, by decide +kernel, by decide +kernel⟩
def worseL (lots : List (List Nat)) (st : List Int) (bl : List (Option Int)) (k : Nat) : List Nat → List Nat := fun some_ => some_.filter fun o => decide (0 < fn st o)
def sp_worse_kinds (K : Fg) (C : Addr) : Sp := fun vs H Q E => ∃ (T : Tab) (st : List Int) (bl : List (Option Int)) (k : Nat), AtAll H vs [tabS K T, dat K (dIs st), dat K (dOs bl), intS (k : Int)] ∧ T.Ok ∧ Case T.lots st bl ∧ st.length = T.nk ∧ k < T.nk ∧
  (fn st k ≠ 0 → Ret (dat K (dNs ((kot T.nk T.lots (gw T.lots st bl (two T.lots k))).filter fun o => decide (0 < fn st o)))) H Q) ∧ (fn st k = 0 → UnitX C H E)
/-- need_unit(..) as a statement -/
theorem q_need {σ : L2.St} {H : Hp} {D : Ends} {tz : TS} {ta tb : TE} {E : XK} {st : List Int} {k : Nat} (ha : EvS ta σ H (dat K (dIs st))) (hb : EvS tb σ H (intS (k : Int))) (hk : k < st.length) (h1 : fn st k ≠ 0 → ∀ H1, Ex H H1 → tz D σ H1) (h2 : fn st k = 0 → UnitX C H E) :
    tSeq (tDrop (tCall (sp_need_unit K C) [] E (tCons ta (tCons tb tNil)))) tz D σ H :=
  ha H (Evl.Ex.refl H) _ fun v H1 e1 pv => hb H1 e1 _ fun u H2 e2 pu => by
    show sp_need_unit K C [v, u] H2 (fun _ H' => tz D σ H') E
    exact ⟨st, k, ⟨(dat K (dIs st)).up _ _ _ e2 pv, pu, trivial⟩, hk, fun n _ H3 e3 _ => h1 n H3 ((e1.trans e2).trans e3), fun z => (h2 z).of (e1.trans e2)⟩
theorem ok_worse_kinds (T : Bt mg) (D : Df K mg "worse_kinds" s_worse_kinds ["table", "stock", "bounds", "kind"]) (G_need_unit : OkD P w K mg base (L2.CX P w) 3 "need_unit" ["stock", "kind"] (sp_need_unit K C))
    (G_kinds_of_types : OkD P w K mg base CX0 2 "kinds_of_types" ["table", "types"] (sp_kinds_of_types K)) (G_greatest_full : OkD P w K mg base CX0 8 "greatest_full" ["table", "stock", "bounds", "kind"] (sp_greatest_full K)) :
    OkD P w K mg base (L2.CX P w) 9 "worse_kinds" ["table", "stock", "bounds", "kind"] (sp_worse_kinds K C) := by
  refine OkD.ofX D fun fa fd F => F.okX scworse_kinds (fun vs H Q E ⟨_, _, _, _, h, _⟩ => atLen h) (fun cdv A outer s H vs Q E hr ⟨tb, st, bl, k, h, g, hc, hst, hk, k1, k2⟩ => ?_)
  obtain ⟨x, y, z, u, rfl, hx, hy, hz, hu⟩ := a4 h
  have px := @pass_cx P w K mg base N_worse_kinds "worse_kinds" (defScope s_worse_kinds) fa cdv A outer s H E
  have hnk := g.nk
  refine ⟨_, (pss_cons (ps_expr (pe_dx G_need_unit hr px (pa_cons (pv 1) (pa_cons (pv 3) pa_nil)))) (pss_cons (ps_set (i := 4) scworse_kinds.nd rfl (by first | exact Or.inl rfl | exact Or.inr rfl) (pe_d G_kinds_of_types hr (pa_cons (pv 0) (pa_cons (pe_d G_greatest_full hr (pa_cons (pv 0) (pa_cons (pv 1) (pa_cons (pv 2) (pa_cons (pv 3) pa_nil))))) pa_nil)))) (pss_one (ps_ret (pe_callTy (k_tuple K) (by rfl) T.b_tuple (by decide +kernel) (pa_cons (pe_lc (own := [("other", 5)]) (g := gName 5) rfl scworse_kinds.nd (k_pit K (pv 4)) (blkOk_by (N := N_worse_kinds) (sc := (defScope s_worse_kinds)) (by decide +kernel)) (fun _ _ _ _ _ => (pg_name (i := 5) scworse_kinds.nd rfl (by first | exact Or.inl rfl | exact Or.inr rfl))) (fun _ _ _ _ _ => (pts_one (pt_cmpR op_gt (pe_ix (k_ix K) (pv 1) (pv 5) (fun _ _ => rfl)) pe_int (nomark _)))) (fun _ _ _ _ _ => (pv 5))) pa_nil)))))), ?_⟩
  refine q_need (K := K) (e_var (v := y) rfl hy) (e_var (v := u) rfl hu) (by rw [hst]; exact hk) (fun hn H1 e1 => ?_) k2
  have hx1 := (tabS K tb).up _ _ _ e1 hx
  have htwo : ∀ r ∈ gw tb.lots st bl (two tb.lots k), r < tb.types.length := fun r hr => by
    have := gw_sub r hr
    unfold two at this
    rw [← tb.lots_len]
    exact List.mem_range.mp (List.mem_filter.mp this).1
  have htl : (gw tb.lots st bl (two tb.lots k)).length ≤ 1000 := by
    obtain ⟨pp, hpp⟩ := gw_filter (lots := tb.lots) (st := st) (bl := bl) (l := two tb.lots k)
    rw [hpp]
    refine Nat.le_trans (List.length_filter_le _ _) ?_
    have h1 := List.length_filter_le (fun r => !(tb.lots.getD r []).contains k) (List.range tb.lots.length)
    rw [List.length_range, tb.lots_len] at h1
    have h2 := g.nt
    unfold two
    rw [tb.lots_len]
    omega
  refine q_set (e_call (a_cons (e_var (v := x) rfl hx1) (a_cons (e_call (a_cons (e_var (v := x) rfl hx1) (a_cons (e_var (v := y) rfl ((dat K (dIs st)).up _ _ _ e1 hy)) (a_cons (e_var (v := z) rfl ((dat K (dOs bl)).up _ _ _ e1 hz)) (a_cons (e_var (v := u) rfl hu) a_nil)))) fun vs H1 p Q q => ⟨tb, st, bl, k, p, g, hc, hst, q⟩) a_nil)) fun vs H1 p Q q => ⟨tb, _, p, g, htwo, htl, q⟩) fun v2 H2 e2 p2 => ?_
  refine s_retR (e_tupleL (a_cons (e_lcT (kot tb.nk tb.lots (gw tb.lots st bl (two tb.lots k))) dN (fun o => decide (0 < fn st o)) dN (e_var (v := v2) rfl p2) (Nat.le_trans kot_len (by omega)) (fun _ => rfl) fun o v H3 e3 ho hv => ⟨t_test (EvS.cast (e_I0 (g := fun a b => .bl (decide (a > b))) (EvS.toI (e_ixT (e_var (v := y) rfl ((dat K (dIs st)).up _ _ _ ((e1.trans e2).trans e3) hy)) (e_var (v := v) rfl hv.int_inv) (by rw [List.getElem?_map, fn_get (by rw [hst]; exact kot_lt ho)]; rfl))) e_int) rfl), fun _ => e_var (v := v) rfl hv⟩) a_nil)) ((k1 hn).of (e1.trans e2))
abbrev s_is_safe : Stmt := topS 47
abbrev N_is_safe : List Str := ["table", "stock", "bounds", "one", "other"]
theorem scis_safe : FnScope N_is_safe ["table", "stock", "bounds", "one", "other"] (defScope s_is_safe) := ⟨rfl, rfl, rfl, by decide +kernel, rfl, by decide +kernel, by decide +kernel⟩
def sp_is_safe (K : Fg) (C : Addr) : Sp := fun vs H Q E => ∃ (T : Tab) (st : List Int) (bl : List (Option Int)) (one other : Nat), AtAll H vs [tabS K T, dat K (dIs st), dat K (dOs bl), intS (one : Int), intS (other : Int)] ∧ T.Ok ∧ Case T.lots st bl ∧ st.length = T.nk ∧ one < T.nk ∧ other < T.nk ∧
  (fn st one ≠ 0 → fn st other ≠ 0 → Ret (blS (safeL T.lots st bl one other)) H Q) ∧ (fn st one = 0 ∨ fn st other = 0 → UnitX C H E)
theorem ok_is_safe (T : Bt mg) (D : Df K mg "is_safe" s_is_safe ["table", "stock", "bounds", "one", "other"]) (G_need_unit : OkD P w K mg base (L2.CX P w) 3 "need_unit" ["stock", "kind"] (sp_need_unit K C))
    (G_worse_kinds : OkD P w K mg base (L2.CX P w) 9 "worse_kinds" ["table", "stock", "bounds", "kind"] (sp_worse_kinds K C)) : OkD P w K mg base (L2.CX P w) 10 "is_safe" ["table", "stock", "bounds", "one", "other"] (sp_is_safe K C) := by
  refine OkD.ofX D fun fa fd F => F.okX scis_safe (fun vs H Q E ⟨_, _, _, _, _, h, _⟩ => atLen h) (fun cdv A outer s H vs Q E hr ⟨tb, st, bl, one, other, h, g, hc, hst, ho1, ho2, k1, k2⟩ => ?_)
  obtain ⟨x, y, z, u, q, rfl, hx, hy, hz, hu, hq⟩ := a5 h
  have px := @pass_cx P w K mg base N_is_safe "is_safe" (defScope s_is_safe) fa cdv A outer s H E
  refine ⟨_, (pss_cons (ps_expr (pe_dx G_need_unit hr px (pa_cons (pv 1) (pa_cons (pv 3) pa_nil)))) (pss_one (ps_ret (pe_cmpR (k_notIn K) (pv 3) (pe_dx G_worse_kinds hr px (pa_cons (pv 0) (pa_cons (pv 1) (pa_cons (pv 2) (pa_cons (pv 4) pa_nil))))) (by rfl))))), ?_⟩
  refine q_need (K := K) (e_var (v := y) rfl hy) (e_var (v := u) rfl hu) (by rw [hst]; exact ho1) (fun hn H1 e1 => ?_) fun z => k2 (.inl z)
  have eu : EvS (tVar 3) (L2.start N_is_safe [x, y, z, u, q]) H1 (intS (one : Int)) := e_var (v := u) rfl hu
  have hx1 := (tabS K tb).up _ _ _ e1 hx
  have hy1 := (dat K (dIs st)).up _ _ _ e1 hy
  have hz1 := (dat K (dOs bl)).up _ _ _ e1 hz
  have eargs : EvA (tCons (tVar 0) (tCons (tVar 1) (tCons (tVar 2) (tCons (tVar 4) tNil)))) (L2.start N_is_safe [x, y, z, u, q]) H1 [tabS K tb, dat K (dIs st), dat K (dOs bl), intS (other : Int)] := a_cons (e_var (v := x) rfl hx1) (a_cons (e_var (v := y) rfl hy1) (a_cons (e_var (v := z) rfl hz1) (a_cons (e_var (v := q) rfl hq) a_nil)))
  by_cases hn2 : fn st other = 0
  · exact (r_two eu (r_call (E := E) eargs fun vs H2 e2 p Q => ⟨tb, st, bl, other, p, g, hc, hst, ho2, fun n => absurd hn2 n, fun _ => (k2 (.inr hn2)).of (e1.trans e2)⟩)) H1 (Evl.Ex.refl _) _
  · refine s_retR (EvS.cast (e_notInN eu (e_call (E := E) eargs fun vs H2 p Q q => ⟨tb, st, bl, other, p, g, hc, hst, ho2, fun _ => q, fun z => absurd z hn2⟩)) ?_) ((k1 hn hn2).of e1)
    unfold safeL
    rw [hst]
abbrev s_fewest_requests : Stmt := topS 52
abbrev N_fewest_requests : List Str := ["table", "stock", "bounds", "one", "other"]
theorem scfewest_requests : FnScope N_fewest_requests ["table", "stock", "bounds", "one", "other"] (defScope s_fewest_requests) := ⟨rfl, rfl, rfl, by decide +kernel, rfl, by decide +kernel, by decide +kernel⟩
def sp_fewest_requests (K : Fg) (C : Addr) : Sp := fun vs H Q E => ∃ (T : Tab) (st : List Int) (bl : List (Option Int)) (one other : Nat), AtAll H vs [tabS K T, dat K (dIs st), dat K (dOs bl), intS (one : Int), intS (other : Int)] ∧ T.Ok ∧ Case T.lots st bl ∧ st.length = T.nk ∧ one < T.nk ∧ other < T.nk ∧
  (fn st one ≠ 0 → fn st other ≠ 0 → Ret (dat K (dO (fewest T.lots st bl one other))) H Q) ∧ (fn st one = 0 ∨ fn st other = 0 → UnitX C H E)
theorem e_sfl0 {σ : L2.St} {H : Hp} {ta : TE} {m : Option Int} {l : List (List Nat)} (h : EvS ta σ H (sflS K m l)) : EvS (tOp (rIx K) ta (tC (.int 0))) σ H (dat K (dO m)) :=
  e_two h (e_int (i := 0)) fun x y H1 ex px py Q q => by
    have py : y = .int 0 := py
    subst py
    obtain ⟨a, v1, v2, rfl, h1, h2, h3⟩ := px
    exact .inr (.inl ⟨a, _, 0, v1, rfl, rfl, h1, show atI [v1, v2] (0 : Int) = some v1 from rfl, q _ H1 (Evl.Ex.refl _) h2⟩)
theorem e_sfl1 {σ : L2.St} {H : Hp} {ta : TE} {m : Option Int} {l : List (List Nat)} (h : EvS ta σ H (sflS K m l)) : EvS (tOp (rIx K) ta (tC (.int 1))) σ H (lstS K (l.map dNs)) :=
  e_two h (e_int (i := 1)) fun x y H1 ex px py Q q => by
    have py : y = .int 1 := py
    subst py
    obtain ⟨a, v1, v2, rfl, h1, h2, h3⟩ := px
    exact .inr (.inl ⟨a, _, 1, v2, rfl, rfl, h1, show atI [v1, v2] (1 : Int) = some v2 from rfl, q _ H1 (Evl.Ex.refl _) h3⟩)
theorem fn_fewest_requests (T : Bt mg) (G_is_safe : OkD P w K mg base (L2.CX P w) 10 "is_safe" ["table", "stock", "bounds", "one", "other"] (sp_is_safe K C))
    (G_small_full_lots : OkD P w K mg base CX0 8 "small_full_lots" ["table", "stock", "bounds", "one", "other"] (sp_small_full_lots K)) {fa : Addr} {fd : FuncData} (F : Fun K "fewest_requests" "fewest_requests" s_fewest_requests fa fd) : FnOk P w K mg base (L2.CX P w) 11 fa fd ["table", "stock", "bounds", "one", "other"] (sp_fewest_requests K C) := by
  refine F.okX scfewest_requests (fun vs H Q E ⟨_, _, _, _, _, h, _⟩ => atLen h) (fun cdv A outer s H vs Q E hr ⟨tb, st, bl, one, other, h, g, hc, hst, ho1, ho2, k1, k2⟩ => ?_)
  obtain ⟨x, y, z, u, q, rfl, hx, hy, hz, hu, hq⟩ := a5 h
  have px := @pass_cx P w K mg base N_fewest_requests "fewest_requests" (defScope s_fewest_requests) fa cdv A outer s H E
  refine ⟨_, (pss_cons (ps_if (pt_val (pe_dx G_is_safe hr px (pa_cons (pv 0) (pa_cons (pv 1) (pa_cons (pv 2) (pa_cons (pv 3) (pa_cons (pv 4) pa_nil))))))) (pss_one (ps_ret pe_non)) pss_nil) (pss_one (ps_ret (pe_ix (k_ix K) (pe_d G_small_full_lots hr (pa_cons (pv 0) (pa_cons (pv 1) (pa_cons (pv 2) (pa_cons (pv 3) (pa_cons (pv 4) pa_nil)))))) pe_int (fun _ _ => rfl))))), ?_⟩
  have eargs : EvA (tCons (tVar 0) (tCons (tVar 1) (tCons (tVar 2) (tCons (tVar 3) (tCons (tVar 4) tNil))))) (L2.start N_fewest_requests [x, y, z, u, q]) H [tabS K tb, dat K (dIs st), dat K (dOs bl), intS (one : Int), intS (other : Int)] := a_cons (e_var (v := x) rfl hx) (a_cons (e_var (v := y) rfl hy) (a_cons (e_var (v := z) rfl hz) (a_cons (e_var (v := u) rfl hu) (a_cons (e_var (v := q) rfl hq) a_nil))))
  by_cases hn : fn st one = 0 ∨ fn st other = 0
  · exact (r_call (E := E) eargs fun vs H2 e2 p Q => ⟨tb, st, bl, one, other, p, g, hc, hst, ho1, ho2, fun n1 n2 => absurd hn fun z => z.elim n1 n2, fun _ => (k2 hn).of e2⟩) H (Evl.Ex.refl _) _
  · have hn1 : fn st one ≠ 0 := fun z => hn (.inl z)
    have hn2 : fn st other ≠ 0 := fun z => hn (.inr z)
    refine q_when (t_B (e_call (E := E) eargs fun vs H2 p Q q => ⟨tb, st, bl, one, other, p, g, hc, hst, ho1, ho2, fun _ _ => q, fun z => absurd z hn⟩)) (fun hb H1 e1 => ?_) (fun hb H1 e1 => ?_)
    · refine s_retR (s := dat K .none) e_non (fun v H2 e2 p => k1 hn1 hn2 v H2 (e1.trans e2) ?_)
      unfold fewest
      rw [if_pos hb]
      exact p
    · refine s_retR (e_sfl0 (e_call (eargs.mono e1) fun vs H2 p Q q => ⟨tb, st, bl, one, other, p, g, hc, hst, q⟩)) (fun v H2 e2 p => k1 hn1 hn2 v H2 (e1.trans e2) ?_)
      unfold fewest
      rw [if_neg (by rw [hb]; decide)]
      exact p
theorem sfl_len (lots : List (List Nat)) (st : List Int) (bl : List (Option Int)) (one : Nat) : ∀ (todo : List (List Nat)) (s : Option Int × List (List Nat)), (todo.foldl (sflStep lots st bl one) s).2.length ≤ s.2.length + todo.length
  | [], s => Nat.le_refl _
  | ks :: todo, s => by
    have h := sfl_len lots st bl one todo (sflStep lots st bl one s ks)
    have h2 : (sflStep lots st bl one s ks).2.length ≤ s.2.length + 1 := by
      rw [sflStep_is]
      split
      · show (if _ then _ else _ : List (List Nat)).length ≤ _
        split
        · rw [List.length_singleton]; omega
        · rw [List.length_append, List.length_singleton]; omega
      · omega
    rw [List.foldl_cons, List.length_cons]
    omega
theorem lex_dN : ∀ x y : List Nat, PyProof.Rows.lexLt PyProof.Rows.itemOrd (PySem.W.keyToksAll (x.map dN)) (PySem.W.keyToksAll (y.map dN)) = ltL x y
  | [], [] => by decide
  | [], b :: y => by
    rw [List.map_cons, PySem.W.toks_all_cons]
    exact (PyProof.Rows.lex_diff (O := PyProof.Rows.itemOrd) (x := .inl 0) (y := .inl 1) (fun z => by cases z)).trans rfl
  | a :: x, [] => by
    rw [List.map_cons, PySem.W.toks_all_cons]
    exact (PyProof.Rows.lex_diff (O := PyProof.Rows.itemOrd) (x := .inl 1) (y := .inl 0) (fun z => by cases z)).trans rfl
  | a :: x, b :: y => by
    rw [List.map_cons, List.map_cons]
    have hal : PySem.W.alike (dN a) (dN b) = true := rfl
    by_cases e : a = b
    · subst e
      rw [PySem.W.dataLt_all_yes hal (by show PyData.eqv (.int a) (.int a) = true; simp [PyData.eqv]), lex_dN x y]
      show ltL x y = (decide (a < a) || (decide (a = a) && ltL x y))
      simp
    · have ne : PyData.eqv (dN a) (dN b) = false := by
        show PyData.eqv (.int a) (.int b) = false
        have : ¬ ((a : Int) = b) := by omega
        simp [PyData.eqv, this]
      rw [PySem.W.dataLt_all_no hal ne]
      rw [show PySem.W.dataLt (dN a) (dN b) = decide ((a : Int) < (b : Int)) from PySem.W.dataLt_int a b]
      show _ = (decide (a < b) || (decide (a = b) && ltL x y))
      rw [decide_eq_false e, Bool.false_and, Bool.or_false]
      exact decide_eq_decide.mpr Int.ofNat_lt
theorem dataLt_dNs (x y : List Nat) : PySem.W.dataLt (dNs x) (dNs y) = ltL x y := (PySem.W.dataLt_tuple _ _).trans (lex_dN x y)
theorem minD_dNs (x : List Nat) (l : List (List Nat)) : PySem.W.minD (dNs x) (l.map dNs) = dNs (minL (x :: l)) := by
  show (l.map dNs).foldl (fun a y => if PySem.W.dataLt y a then y else a) (dNs x) = dNs (l.foldl (fun best y => if ltL y best = true then y else best) x)
  induction l generalizing x with
  | nil => rfl
  | cons y l ih =>
    rw [List.map_cons, List.foldl_cons, List.foldl_cons, dataLt_dNs]
    cases h : ltL y x with
    | true => exact ih y
    | false => exact ih x
theorem alike_dNs (x y : List Nat) : PySem.W.alike (dNs x) (dNs y) = true := by
  show PySem.W.alikeAll (x.map dN) (y.map dN) = true
  induction x generalizing y with
  | nil => rfl
  | cons a x ih =>
    cases y with
    | nil => rfl
    | cons b y =>
      show (PySem.W.alike (.int a) (.int b) && PySem.W.alikeAll (x.map dN) (y.map dN)) = true
      rw [ih]
      rfl
theorem depth_dNs : ∀ l : List (List Nat), PyData.depthAll (l.map dNs) ≤ 20
  | [] => Nat.zero_le _
  | x :: l => by
    refine Nat.max_le.mpr ⟨?_, depth_dNs l⟩
    show PyData.depthAll (x.map dN) + 1 ≤ 20
    have : ∀ l : List Nat, PyData.depthAll (l.map dN) = 0 := fun l => by
      induction l with
      | nil => rfl
      | cons n l ih => show max 0 (PyData.depthAll (l.map dN)) = 0; rw [ih]; rfl
    rw [this]
    decide
abbrev s_least_regret_row : Stmt := topS 54
abbrev N_least_regret_row : List Str := ["table", "stock", "bounds", "one", "other", "lots", "lot"]
theorem scleast_regret_row : FnScope N_least_regret_row ["table", "stock", "bounds", "one", "other"] (defScope s_least_regret_row) := ⟨rfl, rfl, rfl, by decide +kernel, rfl, by decide +kernel, by decide +kernel⟩
def dOr : Option (List Nat) → PyData
  | none => .none
  | some l => dNs l
def sp_least_regret_row (K : Fg) (C : Addr) : Sp := fun vs H Q E => ∃ (T : Tab) (st : List Int) (bl : List (Option Int)) (one other : Nat), AtAll H vs [tabS K T, dat K (dIs st), dat K (dOs bl), intS (one : Int), intS (other : Int)] ∧ T.Ok ∧ Case T.lots st bl ∧ st.length = T.nk ∧ one < T.nk ∧ other < T.nk ∧ Sg T.nk (fn st) ≤ 1000 ∧
  (fn st one ≠ 0 → fn st other ≠ 0 → Ret (dat K (dOr (lrr T.lots st bl one other))) H Q) ∧ (fn st one = 0 ∨ fn st other = 0 → UnitX C H E)
theorem fn_least_regret_row (T : Bt mg) (G_fewest_requests : OkD P w K mg base (L2.CX P w) 11 "fewest_requests" ["table", "stock", "bounds", "one", "other"] (sp_fewest_requests K C))
    (G_small_full_lots : OkD P w K mg base CX0 8 "small_full_lots" ["table", "stock", "bounds", "one", "other"] (sp_small_full_lots K)) (G_least_full_row : OkD P w K mg base CX0 6 "least_full_row" ["table", "stock", "bounds", "types"] (sp_least_full_row K)) {fa : Addr} {fd : FuncData} (F : Fun K "least_regret_row" "least_regret_row" s_least_regret_row fa fd) :
    FnOk P w K mg base (L2.CX P w) 12 fa fd ["table", "stock", "bounds", "one", "other"] (sp_least_regret_row K C) := by
  refine F.okX scleast_regret_row (fun vs H Q E ⟨_, _, _, _, _, h, _⟩ => atLen h) (fun cdv A outer s H vs Q E hr ⟨tb, st, bl, one, other, h, g, hc, hst, ho1, ho2, hS, k1, k2⟩ => ?_)
  obtain ⟨x, y, z, u, q, rfl, hx, hy, hz, hu, hq⟩ := a5 h
  have px := @pass_cx P w K mg base N_least_regret_row "least_regret_row" (defScope s_least_regret_row) fa cdv A outer s H E
  refine ⟨_, (pss_cons (ps_if (pt_cmp (pc_isN (pe_dx G_fewest_requests hr px (pa_cons (pv 0) (pa_cons (pv 1) (pa_cons (pv 2) (pa_cons (pv 3) (pa_cons (pv 4) pa_nil))))))) rfl) (pss_one (ps_ret pe_non)) pss_nil) (pss_cons (ps_set (i := 5) scleast_regret_row.nd rfl (by first | exact Or.inl rfl | exact Or.inr rfl) (pe_ix (k_ix K) (pe_d G_small_full_lots hr (pa_cons (pv 0) (pa_cons (pv 1) (pa_cons (pv 2) (pa_cons (pv 3) (pa_cons (pv 4) pa_nil)))))) pe_int (fun _ _ => rfl))) (pss_one (ps_ret (pe_callB (k_minD K hr.units) (by rfl) T.b_min (by decide +kernel) (pa_cons (pe_lc (own := [("lot", 6)]) (g := gName 6) (tt := tYes) rfl scleast_regret_row.nd (k_pil K (pv 5)) (blkOk_by (N := N_least_regret_row) (sc := (defScope s_least_regret_row)) (by decide +kernel)) (fun _ _ _ _ _ => (pg_name (i := 6) scleast_regret_row.nd rfl (by first | exact Or.inl rfl | exact Or.inr rfl))) (fun _ _ _ _ _ => pts_nil) (fun _ _ _ _ _ => (pe_d G_least_full_row hr (pa_cons (pv 0) (pa_cons (pv 1) (pa_cons (pv 2) (pa_cons (pv 6) pa_nil))))))) pa_nil)))))), ?_⟩
  have eargs : EvA (tCons (tVar 0) (tCons (tVar 1) (tCons (tVar 2) (tCons (tVar 3) (tCons (tVar 4) tNil))))) (L2.start N_least_regret_row [x, y, z, u, q]) H [tabS K tb, dat K (dIs st), dat K (dOs bl), intS (one : Int), intS (other : Int)] := a_cons (e_var (v := x) rfl hx) (a_cons (e_var (v := y) rfl hy) (a_cons (e_var (v := z) rfl hz) (a_cons (e_var (v := u) rfl hu) (a_cons (e_var (v := q) rfl hq) a_nil))))
  by_cases hn : fn st one = 0 ∨ fn st other = 0
  · exact q_ifR (r_isN (r_call (E := E) eargs fun vs H2 e2 p Q => ⟨tb, st, bl, one, other, p, g, hc, hst, ho1, ho2, fun n1 n2 => absurd hn fun z => z.elim n1 n2, fun _ => (k2 hn).of e2⟩))
  · have hn1 : fn st one ≠ 0 := fun z => hn (.inl z)
    have hn2 : fn st other ≠ 0 := fun z => hn (.inr z)
    refine q_when (t_B (e_isN (e_call (E := E) eargs fun vs H2 p Q q => ⟨tb, st, bl, one, other, p, g, hc, hst, ho1, ho2, fun _ _ => q, fun z => absurd z hn⟩))) (fun hb H1 e1 => ?_) (fun hb H1 e1 => ?_)
    · refine s_retR (s := dat K .none) e_non (fun v H2 e2 p => k1 hn1 hn2 v H2 (e1.trans e2) ?_)
      have hf : fewest tb.lots st bl one other = none := by
        cases h : fewest tb.lots st bl one other with
        | none => rfl
        | some m => rw [h] at hb; cases hb
      unfold lrr
      rw [if_pos hf]
      exact p
    · have hf : fewest tb.lots st bl one other ≠ none := fun h => by rw [h] at hb; cases hb
      have hl : lrr tb.lots st bl one other = some (minL ((sfl tb.lots st bl one other).2.map (lfr tb.lots st bl))) := by
        unfold lrr
        rw [if_neg hf]
      have hs1 : ∃ m, (sfl tb.lots st bl one other).1 = some m := by
        unfold fewest at hf
        split at hf
        · exact absurd rfl hf
        · cases h : (sfl tb.lots st bl one other).1 with
          | none => exact absurd h hf
          | some m => exact ⟨m, rfl⟩
      obtain ⟨m, hm⟩ := hs1
      obtain ⟨_, hmem, hne⟩ := (sfl_ok (lots := tb.lots) (stock := st) (bl := bl) (one := one) (other := other)).yes m hm
      have hlt : ∀ l ∈ (sfl tb.lots st bl one other).2, (∀ r ∈ l, r < tb.types.length) ∧ l.length ≤ 12 := fun l hl => by
        obtain ⟨ks, _, _, _, e⟩ := (hmem l).mp hl
        subst e
        refine ⟨fun r hr => by rw [← tb.lots_len]; exact lotK_lt r hr, ?_⟩
        have h1 := nodup_len _ _ ((lotK_sorted (lots := tb.lots) (stock := st) (bl := bl) (ks := ks)).imp fun h => Nat.ne_of_lt h) fun r hr => lotK_lt (lots := tb.lots) (stock := st) (bl := bl) r hr
        rw [tb.lots_len] at h1
        exact Nat.le_trans h1 g.nt
      refine q_set (e_sfl1 (e_call (eargs.mono e1) fun vs H2 p Q q => ⟨tb, st, bl, one, other, p, g, hc, hst, q⟩)) fun v2 H2 e2 p2 => ?_
      have ex2 := e1.trans e2
      have hlen : (sfl tb.lots st bl one other).2.length ≤ 256 := by
        have h1 := sfl_len tb.lots st bl one (lotsW one other st.length) (none, [])
        rw [hst] at h1
        have h2 := lotsW_len one other tb.nk
        have h3 : 2 ^ tb.nk ≤ 256 := Nat.le_trans (Nat.pow_le_pow_right (by decide) g.nk) (by decide)
        unfold sfl
        rw [hst]
        simp only [List.length_nil, Nat.zero_add] at h1
        omega
      have erow : EvS (tLc (iList K (tVar 5)) (gName 6) tYes (tCall (sp_least_full_row K) [] E0 (tCons (tVar 0) (tCons (tVar 1) (tCons (tVar 2) (tCons (tVar 6) tNil))))) [6]) ((L2.start N_least_regret_row [x, y, z, u, q]).set 5 (some v2)) H2 (lstS K (((sfl tb.lots st bl one other).2.map (lfr tb.lots st bl)).map dNs)) := by
        rw [List.map_map]
        refine EvS.map' _ _ (e_lcL (sfl tb.lots st bl one other).2 dNs (fun _ => true) _ (e_var (v := v2) rfl p2) (by omega) (fun _ => rfl) fun l v H3 e3 hl hv => ⟨t_yes, fun _ => ?_⟩)
        exact e_call (a_cons (e_var (v := x) rfl ((tabS K tb).up _ _ _ (ex2.trans e3) hx)) (a_cons (e_var (v := y) rfl ((dat K (dIs st)).up _ _ _ (ex2.trans e3) hy)) (a_cons (e_var (v := z) rfl ((dat K (dOs bl)).up _ _ _ (ex2.trans e3) hz)) (a_cons (e_var (v := v) rfl hv) a_nil)))) fun vs H2 p Q q => ⟨tb, st, bl, l, p, g, hc, hst, (hlt l hl).1, (hlt l hl).2, hS, q⟩
      cases hrows : (sfl tb.lots st bl one other).2.map (lfr tb.lots st bl) with
      | nil => exact absurd (List.map_eq_nil_iff.mp hrows) hne
      | cons r rs =>
        rw [hrows, List.map_cons] at erow
        refine s_retR (EvS.cast (e_minD erow ⟨fun a ha b hb => ?_, fun a ha z => ?_⟩ (depth_dNs (r :: rs))) (by rw [minD_dNs])) (fun v H3 e3 p => k1 hn1 hn2 v H3 (ex2.trans e3) ?_)
        · rw [← List.map_cons] at ha hb
          obtain ⟨a', _, rfl⟩ := List.mem_map.mp ha
          obtain ⟨b', _, rfl⟩ := List.mem_map.mp hb
          exact alike_dNs a' b'
        · rw [← List.map_cons] at ha
          obtain ⟨a', _, rfl⟩ := List.mem_map.mp ha
          cases z
        · rw [hl, hrows]
          exact p
theorem ok_fewest_requests (T : Bt mg) (D : Df K mg "fewest_requests" s_fewest_requests ["table", "stock", "bounds", "one", "other"]) (G1 : OkD P w K mg base (L2.CX P w) 10 "is_safe" ["table", "stock", "bounds", "one", "other"] (sp_is_safe K C))
    (G2 : OkD P w K mg base CX0 8 "small_full_lots" ["table", "stock", "bounds", "one", "other"] (sp_small_full_lots K)) : OkD P w K mg base (L2.CX P w) 11 "fewest_requests" ["table", "stock", "bounds", "one", "other"] (sp_fewest_requests K C) :=
  OkD.ofX D fun fa fd F => fn_fewest_requests T G1 G2 F
theorem ok_least_regret_row (T : Bt mg) (D : Df K mg "least_regret_row" s_least_regret_row ["table", "stock", "bounds", "one", "other"]) (G1 : OkD P w K mg base (L2.CX P w) 11 "fewest_requests" ["table", "stock", "bounds", "one", "other"] (sp_fewest_requests K C))
    (G2 : OkD P w K mg base CX0 8 "small_full_lots" ["table", "stock", "bounds", "one", "other"] (sp_small_full_lots K)) (G3 : OkD P w K mg base CX0 6 "least_full_row" ["table", "stock", "bounds", "types"] (sp_least_full_row K)) :
    OkD P w K mg base (L2.CX P w) 12 "least_regret_row" ["table", "stock", "bounds", "one", "other"] (sp_least_regret_row K C) := OkD.ofX D fun fa fd F => fn_least_regret_row T G1 G2 G3 F
end
end K45
/-! What tells kinds and types. -/
namespace K45
open PySem L2 RZ
/-- a name -/
def nameOk (x : Str) : Bool := decide (1 ≤ x.length ∧ x.length ≤ 8) && x.cps.toList.all fun c => decide (c ∈ (Str.ofString "abcdefghijklmnopqrstuvwxyz").cps.toList)
/-- what ascends -/
def Asc (ds : List PyData) : Prop := ∀ i d e, ds[i]? = some d → ds[i + 1]? = some e → ltD d e = true
theorem ltD_cmp {d e : PyData} (h : ltD d e = true) : cmpD d e = true := by
  unfold ltD at h
  split at h <;> first | rfl | cases h
theorem all_true {α : Type} {l : List α} {f : α → Bool} (h : ∀ a ∈ l, f a = true) : (l.map f).all id = true := by
  rw [List.all_map, List.all_eq_true]
  intro a ha
  exact h a ha
theorem map_bool {α : Type} (l : List α) (f : α → Bool) : (l.map fun a => PyData.bool (f a)) = (l.map f).map PyData.bool := by rw [List.map_map]; rfl
/-- a table as the text takes it -/
structure Tab.Good (T : Tab) : Prop where
  n0 : 1 ≤ T.kinds.length
  n8 : T.kinds.length ≤ 8
  nm : ∀ x ∈ T.kinds, nameOk x = true
  asc : Asc (T.kinds.map .str)
  t12 : T.types.length ≤ 12
  tn : ∀ t ∈ T.types, nameOk t.1 = true
  tl : ∀ t ∈ T.types, (∀ k ∈ t.2, k < T.kinds.length) ∧ Asc (t.2.map dN)
  ta : Asc (T.types.map fun t => .str t.1)
section
variable {P : Program} {w : World} {K : Fg} {mg : Str → Option Value} {base : Heap}
abbrev s_is_integer : Stmt := topS 8
abbrev N_is_integer : List Str := ["value"]
theorem scis_integer : FnScope N_is_integer ["value"] (defScope s_is_integer) := ⟨rfl, rfl, rfl, by decide +kernel, rfl, by decide +kernel, by decide +kernel⟩
def sp_is_integer (K : Fg) : Sp := fun vs H Q _ => ∃ i : Int, AtAll H vs [intS i] ∧ Ret (blS true) H Q
theorem ok_is_integer (T : Bt mg) (D : Df K mg "is_integer" s_is_integer ["value"]) : OkD P w K mg base CX0 1 "is_integer" ["value"] (sp_is_integer K) := by
  refine OkD.of D fun f fd F => F.ok scis_integer (fun vs H Q E ⟨_, h, _⟩ => atLen h) (fun cdv A outer s H vs Q E hr ⟨i, h, k⟩ => ?_)
  obtain ⟨x, rfl, hx⟩ := a1 h
  refine ⟨_, (pss_one (ps_ret (pe_and (pe_callB (k_isi K) (by rfl) T.b_isinstance (by decide +kernel) (pa_cons (pv 0) (pa_cons (pe_bltn (v := .ty "int") (by rfl) T.b_int (by decide +kernel) rfl) pa_nil))) (pe_one (pe_not (pe_callB (k_isi K) (by rfl) T.b_isinstance (by decide +kernel) (pa_cons (pv 0) (pa_cons (pe_bltn (v := .ty "bool") (by rfl) T.b_bool (by decide +kernel) rfl) pa_nil)))))))), s_retR ?_ k⟩
  have hv : EvS (tVar 0) (start N_is_integer [x]) H (dat K (.int i)) := EvS.toD (e_var (v := x) rfl hx)
  exact (e_andV (e_isi (n := "int") (b := true) (a_cons hv (a_cons e_c a_nil)) (by decide +kernel)) fun _ => e_notV (e_isi (n := "int") (b := false) (a_cons hv (a_cons e_c a_nil)) (by decide +kernel)))
abbrev s_is_number : Stmt := topS 9
abbrev N_is_number : List Str := ["value"]
theorem scis_number : FnScope N_is_number ["value"] (defScope s_is_number) := ⟨rfl, rfl, rfl, by decide +kernel, rfl, by decide +kernel, by decide +kernel⟩
def sp_is_number (K : Fg) : Sp := fun vs H Q _ => ∃ n : Nat, AtAll H vs [intS n] ∧ Ret (blS true) H Q
theorem ok_is_number (T : Bt mg) (D : Df K mg "is_number" s_is_number ["value"]) (G_is_integer : OkD P w K mg base CX0 1 "is_integer" ["value"] (sp_is_integer K)) : OkD P w K mg base CX0 2 "is_number" ["value"] (sp_is_number K) := by
  refine OkD.of D fun f fd F => F.ok scis_number (fun vs H Q E ⟨_, h, _⟩ => atLen h) (fun cdv A outer s H vs Q E hr ⟨i, h, k⟩ => ?_)
  obtain ⟨x, rfl, hx⟩ := a1 h
  refine ⟨_, (pss_one (ps_ret (pe_and (pe_d G_is_integer hr (pa_cons (pv 0) pa_nil)) (pe_one (pe_cmpR op_ge (pv 0) pe_int (nomark _)))))), s_retR ?_ k⟩
  refine (e_andV (a := true) (b := true) (e_call (a_cons (e_var (v := x) rfl hx) a_nil) fun vs H1 p Q q => ⟨_, p, q⟩) fun _ => (e_I0 (e_var (v := x) rfl hx) e_int).cast ?_)
  show vS _ = vS _
  rw [decide_eq_true (Int.natCast_nonneg i)]
abbrev s_is_name : Stmt := topS 10
abbrev N_is_name : List Str := ["value", "sign"]
theorem scis_name : FnScope N_is_name ["value"] (defScope s_is_name) := ⟨rfl, rfl, rfl, by decide +kernel, rfl, by decide +kernel, by decide +kernel⟩
def sp_is_name (K : Fg) : Sp := fun vs H Q _ => ∃ z : Str, AtAll H vs [vS (.str z)] ∧ nameOk z = true ∧ Ret (blS true) H Q
theorem ok_is_name (T : Bt mg) (D : Df K mg "is_name" s_is_name ["value"]) : OkD P w K mg base CX0 1 "is_name" ["value"] (sp_is_name K) := by
  refine OkD.of D fun f fd F => F.ok scis_name (fun vs H Q E ⟨_, h, _⟩ => atLen h) (fun cdv A outer s H vs Q E hr ⟨z, h, hz, k⟩ => ?_)
  obtain ⟨x, rfl, hx⟩ := a1 h
  refine ⟨_, (pss_cons (ps_if (PW.pt (pw_or (pt_not (pt_val (pe_callB (k_isi K) (by rfl) T.b_isinstance (by decide +kernel) (pa_cons (pv 0) (pa_cons (pe_bltn (v := .ty "str") (by rfl) T.b_str (by decide +kernel) rfl) pa_nil))))) (pw_or1 (pt_not (pt_chain op_le op_le pe_int (pe_callB call_len_str (by rfl) T.b_len (by decide +kernel) (pa_cons (pv 0) pa_nil)) (k_gl T.c_LONGEST_NAME)))))) (pss_one (ps_ret pe_bl)) pss_nil) (pss_one (ps_ret (pe_callB (k_all K) (by rfl) T.b_all (by decide +kernel) (pa_cons (pe_lc (own := [("sign", 1)]) (g := gName 1) (tt := tYes) rfl scis_name.nd (pi_str (pv 0)) (blkOk_by (N := N_is_name) (sc := (defScope s_is_name)) (by decide +kernel)) (fun _ _ _ _ _ => (pg_name (i := 1) scis_name.nd rfl (by first | exact Or.inl rfl | exact Or.inr rfl))) (fun _ _ _ _ _ => pts_nil) (fun _ _ _ _ _ => (pe_cmpR op_in_sign (pv 1) (k_gl T.c_LETTERS) (by rfl)))) pa_nil))))), ?_⟩
  unfold nameOk at hz
  rw [Bool.and_eq_true, decide_eq_true_eq, List.all_eq_true] at hz
  obtain ⟨⟨z1, z8⟩, zl⟩ := hz
  have hv : EvS (tVar 0) (start N_is_name [x]) H (vS (.str z)) := e_var (v := x) rfl hx
  refine q_when (b := false) (t_or (a := false) (b := false) (t_not (t_B (b := true) (e_isi (n := "str") (a_cons hv.ofS (a_cons e_c a_nil)) (by decide +kernel)))) fun _ => t_not ((t_test (e_chain e_int (e_lenS (a_cons hv a_nil) (by omega)) e_c)).to (b' := true) ?_)) (fun z => by cases z) fun _ H1 ex => ?_
  · rw [Bool.and_eq_true, decide_eq_true_eq, decide_eq_true_eq]
    omega
  refine s_retR ?_ (k.of ex)
  have hv1 := hv.mono ex
  refine (e_allF z.cps.toList (fun c => decide (c ∈ (Str.ofString "abcdefghijklmnopqrstuvwxyz").cps.toList)) ?_).cast (by rw [List.all_eq_true.mpr zl])
  refine e_lc z.cps.toList (fun _ => true) _ (i_str hv1) (Nat.le_trans (show z.cps.toList.length ≤ 8 from z8) (by decide)) (fun i a w H2 ex2 ha ⟨c, hc, hw⟩ => ⟨_, goes_name, rfl, t_yes, fun _ => ?_⟩)
  subst hw
  have e : c = a := by
    rw [← Array.getElem?_toList, ha] at hc
    exact (Option.some.inj hc).symm
  subst e
  exact EvS.toB (e_inSign (e_var (v := .str ⟨#[c]⟩) rfl rfl) e_c)
abbrev s_are_numbers : Stmt := topS 11
abbrev N_are_numbers : List Str := ["value", "item"]
theorem scare_numbers : FnScope N_are_numbers ["value"] (defScope s_are_numbers) := ⟨rfl, rfl, rfl, by decide +kernel, rfl, by decide +kernel, by decide +kernel⟩
def sp_are_numbers (K : Fg) : Sp := fun vs H Q _ => ∃ l : List Nat, AtAll H vs [dat K (dNs l)] ∧ l.length ≤ 1000 ∧ Ret (blS true) H Q
theorem ok_are_numbers (T : Bt mg) (D : Df K mg "are_numbers" s_are_numbers ["value"]) (G_is_number : OkD P w K mg base CX0 2 "is_number" ["value"] (sp_is_number K)) : OkD P w K mg base CX0 3 "are_numbers" ["value"] (sp_are_numbers K) := by
  refine OkD.of D fun f fd F => F.ok scare_numbers (fun vs H Q E ⟨_, h, _⟩ => atLen h) (fun cdv A outer s H vs Q E hr ⟨l, h, hl, k⟩ => ?_)
  obtain ⟨x, rfl, hx⟩ := a1 h
  refine ⟨_, (pss_one (ps_ret (pe_and (pe_callB (k_isi K) (by rfl) T.b_isinstance (by decide +kernel) (pa_cons (pv 0) (pa_cons (pe_bltn (v := .ty "tuple") (by rfl) T.b_tuple (by decide +kernel) rfl) pa_nil))) (pe_one (pe_callB (k_all K) (by rfl) T.b_all (by decide +kernel) (pa_cons (pe_lc (own := [("item", 1)]) (g := gName 1) (tt := tYes) rfl scare_numbers.nd (k_pit K (pv 0)) (blkOk_by (N := N_are_numbers) (sc := (defScope s_are_numbers)) (by decide +kernel)) (fun _ _ _ _ _ => (pg_name (i := 1) scare_numbers.nd rfl (by first | exact Or.inl rfl | exact Or.inr rfl))) (fun _ _ _ _ _ => pts_nil) (fun _ _ _ _ _ => (pe_d G_is_number hr (pa_cons (pv 1) pa_nil)))) pa_nil)))))), s_retR ?_ k⟩
  have hv : EvS (tVar 0) (L2.start N_are_numbers [x]) H (dat K (dNs l)) := e_var (v := x) rfl hx
  refine e_andV (a := true) (b := true) (e_isi (n := "tuple") (a_cons hv (a_cons e_c a_nil)) (by decide +kernel)) fun _ => (e_allF l (fun _ => true) ?_).cast (by rw [List.all_eq_true.mpr fun _ _ => rfl])
  refine e_lcT l dN (fun _ => true) _ hv (Nat.le_trans hl (by decide)) (fun _ => rfl) fun a w H1 ex ha hw => ⟨t_yes, fun _ => EvS.toB (b := true) ?_⟩
  exact e_call (a_cons (e_var (v := w) rfl hw.int_inv) a_nil) fun vs H1 p Q q => ⟨a, p, q⟩
abbrev s_is_ascending : Stmt := topS 12
abbrev N_is_ascending : List Str := ["items", "at"]
theorem scis_ascending : FnScope N_is_ascending ["items"] (defScope s_is_ascending) := ⟨rfl, rfl, rfl, by decide +kernel, rfl, by decide +kernel, by decide +kernel⟩
def sp_is_ascending (K : Fg) : Sp := fun vs H Q _ => ∃ ds : List PyData, AtAll H vs [dat K (.tuple ds)] ∧ Asc ds ∧ ds.length ≤ 1000 ∧ Ret (blS true) H Q
theorem ok_is_ascending (T : Bt mg) (D : Df K mg "is_ascending" s_is_ascending ["items"]) : OkD P w K mg base CX0 1 "is_ascending" ["items"] (sp_is_ascending K) := by
  refine OkD.of D fun f fd F => F.ok scis_ascending (fun vs H Q E ⟨_, h, _⟩ => atLen h) (fun cdv A outer s H vs Q E hr ⟨ds, h, hd, hl, k⟩ => ?_)
  obtain ⟨x, rfl, hx⟩ := a1 h
  refine ⟨_, (pss_one (ps_ret (pe_callB (k_all K) (by rfl) T.b_all (by decide +kernel) (pa_cons (pe_lc (own := [("at", 1)]) (g := gName 1) (tt := tYes) rfl scis_ascending.nd (pi_range1 rfl T.b_range (pa_cons (pe_op op_sub (pe_callB (k_len K) (by rfl) T.b_len (by decide +kernel) (pa_cons (pv 0) pa_nil)) pe_int) pa_nil)) (blkOk_by (N := N_is_ascending) (sc := (defScope s_is_ascending)) (by decide +kernel)) (fun _ _ _ _ _ => (pg_name (i := 1) scis_ascending.nd rfl (by first | exact Or.inl rfl | exact Or.inr rfl))) (fun _ _ _ _ _ => pts_nil) (fun _ _ _ _ _ => (pe_cmpR k_lt2 (pe_ix (k_ix K) (pv 0) (pv 1) (fun _ _ => rfl)) (pe_ix (k_ix K) (pv 0) (pe_op op_add (pv 1) pe_int) (fun _ _ => rfl)) (nomark _)))) pa_nil)))), s_retR ?_ k⟩
  have hv : EvS (tVar 0) (L2.start N_is_ascending [x]) H (dat K (.tuple ds)) := e_var (v := x) rfl hx
  refine (e_allF (List.range (ds.length - 1)) (fun _ => true) ?_).cast (by rw [List.all_eq_true.mpr fun _ _ => rfl])
  have hi := i_rng1 (K := K) (a_cons (e_I0 (g := fun a b => .int (a - b)) (e_len (a_cons hv a_nil)) (e_int (i := 1))) a_nil) (n := (ds.length : Int) - 1) (by omega)
  refine e_lc (List.range (ds.length - 1)) (fun _ => true) (fun _ => .bool true) (by rw [List.length_range, show ds.length - 1 = ((ds.length : Int) - 1).toNat from by omega]; exact hi) (by rw [List.length_range]; omega) fun i a w H1 ex ha hy => ⟨_, goes_name, rfl, t_yes, fun _ => ?_⟩
  have hlt := (List.getElem?_eq_some_iff.mp ha).1
  rw [List.length_range] at hlt
  rw [List.getElem?_range hlt] at ha
  have ha : i = a := Option.some.inj ha
  subst ha
  have hy : w = .int (0 + (i : Int)) := hy
  rw [Int.zero_add] at hy
  subst hy
  have h0 : ds[i]? = some ds[i] := List.getElem?_eq_getElem (by omega)
  have h1 : ds[i + 1]? = some ds[i + 1] := List.getElem?_eq_getElem (by omega)
  have hlt2 := hd i _ _ h0 h1
  have hv' : EvS (tVar 0) ((wipe (L2.start N_is_ascending [x]) [1]).set 1 (some (.int (i : Int)))) H1 (dat K (.tuple ds)) := e_var (v := x) rfl ((dat K (.tuple ds)).up _ _ _ ex hx)
  have hi' : EvS (tVar 1) ((wipe (L2.start N_is_ascending [x]) [1]).set 1 (some (.int (i : Int)))) H1 (intS (i : Int)) := e_var (v := .int (i : Int)) rfl rfl
  exact EvS.toB ((e_lt2 (e_ixT hv' hi' h0) (e_ixT (i := i + 1) hv' (e_I0 (g := fun a b => .int (a + b)) hi' (e_int (i := 1))) h1) (ltD_cmp hlt2)).cast (by rw [hlt2]))
abbrev s_is_listing : Stmt := topS 13
abbrev N_is_listing : List Str := ["value", "bound", "item"]
theorem scis_listing : FnScope N_is_listing ["value", "bound"] (defScope s_is_listing) := ⟨rfl, rfl, rfl, by decide +kernel, rfl, by decide +kernel, by decide +kernel⟩
def sp_is_listing (K : Fg) : Sp := fun vs H Q _ => ∃ (l : List Nat) (n : Nat), AtAll H vs [dat K (dNs l), intS n] ∧ (∀ k ∈ l, k < n) ∧ Asc (l.map dN) ∧ l.length ≤ 1000 ∧ Ret (blS true) H Q
theorem ok_is_listing (T : Bt mg) (D : Df K mg "is_listing" s_is_listing ["value", "bound"]) (G_are_numbers : OkD P w K mg base CX0 3 "are_numbers" ["value"] (sp_are_numbers K)) (G_is_ascending : OkD P w K mg base CX0 1 "is_ascending" ["items"] (sp_is_ascending K)) : OkD P w K mg base CX0 4 "is_listing" ["value", "bound"] (sp_is_listing K) := by
  refine OkD.of D fun f fd F => F.ok scis_listing (fun vs H Q E ⟨_, _, h, _⟩ => atLen h) (fun cdv A outer s H vs Q E hr ⟨l, n, h, hn, hd, hl, k⟩ => ?_)
  obtain ⟨x, y, rfl, hx, hy⟩ := a2 h
  refine ⟨_, (pss_one (ps_ret (pe_and (pe_d G_are_numbers hr (pa_cons (pv 0) pa_nil)) (pe_and (pe_callB (k_all K) (by rfl) T.b_all (by decide +kernel) (pa_cons (pe_lc (own := [("item", 2)]) (g := gName 2) (tt := tYes) rfl scis_listing.nd (k_pit K (pv 0)) (blkOk_by (N := N_is_listing) (sc := (defScope s_is_listing)) (by decide +kernel)) (fun _ _ _ _ _ => (pg_name (i := 2) scis_listing.nd rfl (by first | exact Or.inl rfl | exact Or.inr rfl))) (fun _ _ _ _ _ => pts_nil) (fun _ _ _ _ _ => (pe_cmpR op_lt (pv 2) (pv 1) (nomark _)))) pa_nil)) (pe_one (pe_d G_is_ascending hr (pa_cons (pv 0) pa_nil))))))), s_retR ?_ k⟩
  have hv : EvS (tVar 0) (L2.start N_is_listing [x, y]) H (dat K (dNs l)) := e_var (v := x) rfl hx
  refine e_andV (a := true) (b := true) (e_call (a_cons hv a_nil) fun vs H1 p Q q => ⟨l, p, hl, q⟩) fun _ => e_andV (a := true) (b := true) ?_ fun _ => e_call (a_cons hv a_nil) fun vs H1 p Q q => ⟨_, p, hd, by rw [List.length_map]; exact hl, q⟩
  refine (e_allF l (fun _ => true) ?_).cast (by rw [List.all_eq_true.mpr fun _ _ => rfl])
  refine e_lcT l dN (fun _ => true) _ hv (Nat.le_trans hl (by decide)) (fun _ => rfl) fun a w H1 ex ha hw => ⟨t_yes, fun _ => EvS.toB (b := true) ?_⟩
  refine EvS.cast (e_I0 (g := fun a b => .bl (decide (a < b))) (e_var (v := w) rfl hw.int_inv) (e_var (v := y) rfl hy)) ?_
  show vS _ = vS _
  rw [decide_eq_true (Int.ofNat_lt.mpr (hn a ha))]
abbrev s_are_kinds : Stmt := topS 17
abbrev N_are_kinds : List Str := ["value", "name"]
theorem scare_kinds : FnScope N_are_kinds ["value"] (defScope s_are_kinds) := ⟨rfl, rfl, rfl, by decide +kernel, rfl, by decide +kernel, by decide +kernel⟩
def sp_are_kinds (K : Fg) : Sp := fun vs H Q _ => ∃ T : Tab, AtAll H vs [dat K (dKs T)] ∧ T.Good ∧ Ret (blS true) H Q
theorem ok_are_kinds (T : Bt mg) (D : Df K mg "are_kinds" s_are_kinds ["value"]) (G_is_name : OkD P w K mg base CX0 1 "is_name" ["value"] (sp_is_name K)) (G_is_ascending : OkD P w K mg base CX0 1 "is_ascending" ["items"] (sp_is_ascending K)) : OkD P w K mg base CX0 2 "are_kinds" ["value"] (sp_are_kinds K) := by
  refine OkD.of D fun f fd F => F.ok scare_kinds (fun vs H Q E ⟨_, h, _⟩ => atLen h) (fun cdv A outer s H vs Q E hr ⟨tb, h, g, k⟩ => ?_)
  obtain ⟨x, rfl, hx⟩ := a1 h
  refine ⟨_, (pss_cons (ps_if (PW.pt (pw_or (pt_not (pt_val (pe_callB (k_isi K) (by rfl) T.b_isinstance (by decide +kernel) (pa_cons (pv 0) (pa_cons (pe_bltn (v := .ty "tuple") (by rfl) T.b_tuple (by decide +kernel) rfl) pa_nil))))) (pw_or1 (pt_not (pt_chain op_le op_le pe_int (pe_callB (k_len K) (by rfl) T.b_len (by decide +kernel) (pa_cons (pv 0) pa_nil)) (k_gl T.c_MOST_KINDS)))))) (pss_one (ps_ret pe_bl)) pss_nil) (pss_one (ps_ret (pe_and (pe_callB (k_all K) (by rfl) T.b_all (by decide +kernel) (pa_cons (pe_lc (own := [("name", 1)]) (g := gName 1) (tt := tYes) rfl scare_kinds.nd (k_pit K (pv 0)) (blkOk_by (N := N_are_kinds) (sc := (defScope s_are_kinds)) (by decide +kernel)) (fun _ _ _ _ _ => (pg_name (i := 1) scare_kinds.nd rfl (by first | exact Or.inl rfl | exact Or.inr rfl))) (fun _ _ _ _ _ => pts_nil) (fun _ _ _ _ _ => (pe_d G_is_name hr (pa_cons (pv 1) pa_nil)))) pa_nil)) (pe_one (pe_d G_is_ascending hr (pa_cons (pv 0) pa_nil))))))), ?_⟩
  have n8 := g.n8
  have n1 := g.n0
  have hv : EvS (tVar 0) (L2.start N_are_kinds [x]) H (dat K (dKs tb)) := e_var (v := x) rfl hx
  refine q_when (b := false) (t_or (a := false) (b := false) (t_not (t_B (b := true) (e_isi (n := "tuple") (a_cons hv (a_cons e_c a_nil)) (by decide +kernel)))) fun _ => t_not ((t_test (e_chain e_int (e_len (a_cons hv a_nil)) e_c)).to (b' := true) ?_)) (fun z => by cases z) fun _ H1 ex => ?_
  · rw [Bool.and_eq_true, decide_eq_true_eq, decide_eq_true_eq, List.length_map]
    omega
  have hv1 := hv.mono ex
  refine s_retR (e_andV (a := true) (b := true) ?_ fun _ => e_call (a_cons hv1 a_nil) fun vs H1 p Q q => ⟨_, p, g.asc, by rw [List.length_map]; omega, q⟩) (k.of ex)
  refine (e_allF tb.kinds (fun _ => true) ?_).cast (by rw [List.all_eq_true.mpr fun _ _ => rfl])
  refine e_lcT tb.kinds .str (fun _ => true) _ hv1 (by omega) (fun _ => rfl) fun a w H1 ex ha hw => ⟨t_yes, fun _ => EvS.toB (b := true) ?_⟩
  exact e_call (a_cons (e_var (v := w) rfl hw.str_inv) a_nil) fun vs H1 p Q q => ⟨a, p, g.nm a ha, q⟩
abbrev s_is_type : Stmt := topS 18
abbrev N_is_type : List Str := ["kinds", "value", "last"]
theorem scis_type : FnScope N_is_type ["kinds", "value", "last"] (defScope s_is_type) := ⟨rfl, rfl, rfl, by decide +kernel, rfl, by decide +kernel, by decide +kernel⟩
/-- what stands ahead of a type's name -/
def LastOk (last : PyData) (x : Str) : Prop := last = .none ∨ ltD last (.str x) = true
def sp_is_type (K : Fg) : Sp := fun vs H Q _ => ∃ (T : Tab) (t : Str × List Nat) (last : PyData), AtAll H vs [dat K (dKs T), dat K (dTy t), dat K last] ∧ t ∈ T.types ∧ LastOk last t.1 ∧ T.Good ∧ (∀ t ∈ T.types, t.2.length ≤ 1000) ∧ Ret (blS true) H Q
theorem ok_is_type (T : Bt mg) (D : Df K mg "is_type" s_is_type ["kinds", "value", "last"]) (G_is_name : OkD P w K mg base CX0 1 "is_name" ["value"] (sp_is_name K)) (G_is_listing : OkD P w K mg base CX0 4 "is_listing" ["value", "bound"] (sp_is_listing K)) : OkD P w K mg base CX0 5 "is_type" ["kinds", "value", "last"] (sp_is_type K) := by
  refine OkD.of D fun f fd F => F.ok scis_type (fun vs H Q E ⟨_, _, _, h, _⟩ => atLen h) (fun cdv A outer s H vs Q E hr ⟨tb, ty, last, h, ht, hlast, g, hln, k⟩ => ?_)
  obtain ⟨x, y, z, rfl, hx, hy, hz⟩ := a3 h
  refine ⟨_, (pss_cons (ps_if (PW.pt (pw_or (pt_not (pt_val (pe_callB (k_isi K) (by rfl) T.b_isinstance (by decide +kernel) (pa_cons (pv 1) (pa_cons (pe_bltn (v := .ty "tuple") (by rfl) T.b_tuple (by decide +kernel) rfl) pa_nil))))) (pw_or (pt_cmpR op_ne (pe_callB (k_len K) (by rfl) T.b_len (by decide +kernel) (pa_cons (pv 1) pa_nil)) pe_int (nomark _)) (pw_or1 (pt_not (pt_val (pe_d G_is_name hr (pa_cons (pe_ix (k_ix K) (pv 1) pe_int (fun _ _ => rfl)) pa_nil)))))))) (pss_one (ps_ret pe_bl)) pss_nil) (pss_one (ps_ret (pe_and (pe_or (pe_cmp (pc_isN (pv 2)) rfl) (pe_one (pe_cmpR k_lt2 (pv 2) (pe_ix (k_ix K) (pv 1) pe_int (fun _ _ => rfl)) (nomark _)))) (pe_one (pe_d G_is_listing hr (pa_cons (pe_ix (k_ix K) (pv 1) pe_int (fun _ _ => rfl)) (pa_cons (pe_callB (k_len K) (by rfl) T.b_len (by decide +kernel) (pa_cons (pv 0) pa_nil)) pa_nil)))))))), ?_⟩
  have hv : EvS (tVar 1) (L2.start N_is_type [x, y, z]) H (dat K (dTy ty)) := e_var (v := y) rfl hy
  have hn : EvS (tOp (rIx K) (tVar 1) (tC (.int 0))) (L2.start N_is_type [x, y, z]) H (dat K (.str ty.1)) := e_ixT (i := 0) hv e_int rfl
  refine q_when (b := false) (t_or (a := false) (b := false) (t_not (t_B (b := true) (e_isi (n := "tuple") (a_cons hv (a_cons e_c a_nil)) (by decide +kernel)))) fun _ => t_or (a := false) (b := false) ((t_test (e_neI (e_len (a_cons hv a_nil)) e_int)).to (by rfl)) fun _ => t_not (t_B (b := true) (e_call (a_cons hn.toS a_nil) fun vs H1 p Q q => ⟨_, p, g.tn _ ht, q⟩))) (fun z => by cases z) fun _ H1 ex => ?_
  have hn1 := hn.mono ex
  refine s_retR (e_andV (a := true) (b := true) (EvS.to (s := blS (isNon last || true)) (e_orV (a := isNon last) (b := true) (e_isN (e_var (v := z) rfl ((dat K last).up _ _ _ ex hz))) fun e => ?_) (fun v H' p => ?_)) fun _ => ?_) (k.of ex)
  · rcases hlast with e' | e'
    · rw [e'] at e
      cases e
    · exact (e_lt2 (e_var (v := z) rfl ((dat K last).up _ _ _ ex hz)) hn1 (ltD_cmp e')).cast (by rw [e'])
  · have p : v = .bl _ := p
    rw [Bool.or_true] at p
    exact p
  · refine e_call (a_cons (e_ixT (i := 1) (hv.mono ex) e_int rfl) (a_cons (e_len (a_cons (e_var (v := x) rfl ((dat K (dKs tb)).up _ _ _ ex hx)) a_nil)) a_nil)) fun vs H1 p Q q => ⟨ty.2, tb.kinds.length, by rw [List.length_map] at p; exact p, (g.tl _ ht).1, (g.tl _ ht).2, hln _ ht, q⟩
end
end K45
/-! Table's __init__. -/
namespace K45
open PySem L2 RZ
theorem Sl.of {n : Nat} {vs : List V} {σ : L2.St} (h : σ.length = n) (e : σ.take vs.length = vs.map some) : Sl n vs σ := ⟨h, fun i v hv => by
  have h1 := (List.getElem?_eq_some_iff.mp hv).1
  have h2 : (σ.take vs.length)[i]? = some (some v) := by rw [e, List.getElem?_map, hv]; rfl
  rw [List.getElem?_take_of_lt h1] at h2
  exact h2⟩
theorem s_fldX {K : Fg} {σ : L2.St} {H : Hp} {ta tv : TE} {D : Ends} {a C dx : Addr} {fs : List (Str × V)} {f : Str} {y : V} (hv : EvS tv σ H (vS y)) (ha : EvS ta σ H (vS (.ref a))) (h : H a = some (.ins C dx fs)) (c : Cls K C) (n : NoAttr K C f) (hl : fs.length < 1000) (k : ∀ H1, Ex H H1 → D.nx σ (upd H1 a (.ins C dx (putF f y fs)))) : sFld K ta tv f D σ H :=
  hv H (Evl.Ex.refl H) _ fun y1 H1 e1 p1 => ha H1 e1 _ fun x1 H2 e2 p2 => by
    have p1 : y1 = y := p1
    have p2 : x1 = .ref a := p2
    subst p1 p2
    exact ⟨a, C, dx, fs, rfl, (e1.trans e2) _ _ h, c, n, hl, k H2 (e1.trans e2)⟩
theorem q_fldX {K : Fg} {σ : L2.St} {H : Hp} {ta tv : TE} {D : Ends} {tz : TS} {a C dx : Addr} {fs : List (Str × V)} {f : Str} {y : V} (hv : EvS tv σ H (vS y)) (ha : EvS ta σ H (vS (.ref a))) (h : H a = some (.ins C dx fs)) (c : Cls K C) (n : NoAttr K C f) (hl : fs.length < 1000) (k : ∀ H1, Ex H H1 → tz D σ (upd H1 a (.ins C dx (putF f y fs)))) : tSeq (sFld K ta tv f) tz D σ H :=
  s_fldX (D := { D with nx := tz D }) hv ha h c n hl k
section
variable {P : Program} {w : World} {K : Fg} {mg : Str → Option Value} {base : Heap} {C : Addr}
abbrev s_Table_init : Stmt := inClass (topS 19) 0
abbrev N_Table_init : List Str := ["self", "kinds", "types", "last", "at", "item"]
theorem scTable_init : FnScope N_Table_init ["self", "kinds", "types"] (defScope s_Table_init) := ⟨rfl, rfl, rfl, by decide +kernel, rfl, by decide +kernel, by decide +kernel⟩
def sp_tinit (K : Fg) (C : Addr) : Sp := fun vs H Q _ => ∃ (T : Tab) (a dx : Addr) (kv tv : V), vs = [.ref a, kv, tv] ∧ H a = some (.ins C dx []) ∧ TabC K C ∧ Tp K H kv (dKs T) ∧ Tp K H tv (dTys T) ∧ T.Good ∧ (∀ t ∈ T.types, t.2.length ≤ 1000) ∧
  ∀ H1, (∀ b o, b ≠ a → H b = some o → H1 b = some o) → H1 a = some (.ins C dx (putF "types" tv (putF "kinds" kv []))) → Q .non H1
theorem ok_tinit (T : Bt mg) {f : Addr} {fd : FuncData} (F : Fun K "__init__" "Table.__init__" s_Table_init f fd) (G_are_kinds : OkD P w K mg base CX0 2 "are_kinds" ["value"] (sp_are_kinds K)) (G_is_type : OkD P w K mg base CX0 5 "is_type" ["kinds", "value", "last"] (sp_is_type K)) :
    FnOk P w K mg base CX0 6 f fd ["self", "kinds", "types"] (sp_tinit K C) := by
  refine F.ok scTable_init (fun vs H Q E ⟨_, _, _, _, _, h, _⟩ => by rw [h]; rfl) (fun cdv A outer s H vs Q E hr ⟨tb, a, dx, kv, tv, hvs, ha, hC, hk, ht, g, hln, kk⟩ => ?_)
  subst hvs
  refine ⟨_, (pss_cons (ps_if (pt_not (pt_val (pe_d G_are_kinds hr (pa_cons (pv 1) pa_nil)))) (pss_one ps_never) pss_nil) (pss_cons (ps_if (PW.pt (pw_or (pt_not (pt_val (pe_callB (k_isi K) (by rfl) T.b_isinstance (by decide +kernel) (pa_cons (pv 2) (pa_cons (pe_bltn (v := .ty "tuple") (by rfl) T.b_tuple (by decide +kernel) rfl) pa_nil))))) (pw_or1 (pt_cmpR op_gt (pe_callB (k_len K) (by rfl) T.b_len (by decide +kernel) (pa_cons (pv 2) pa_nil)) (k_gl T.c_MOST_TYPES) (nomark _))))) (pss_one ps_never) pss_nil) (pss_cons (ps_set (i := 3) scTable_init.nd rfl (by first | exact Or.inl rfl | exact Or.inr rfl) pe_non) (pss_cons (ps_for PassesOwn.never rfl (k_enumT K (by rfl) T.b_enumerate (pa_cons (pv 2) pa_nil)) (k_pgt K (n := 2) rfl (pgs_cons (pg_name (i := 4) scTable_init.nd rfl (by first | exact Or.inl rfl | exact Or.inr rfl)) (pgs_cons (pg_name (i := 5) scTable_init.nd rfl (by first | exact Or.inl rfl | exact Or.inr rfl)) pgs_nil))) (pss_cons (ps_if (pt_not (pt_val (pe_d G_is_type hr (pa_cons (pv 1) (pa_cons (pv 5) (pa_cons (pv 3) pa_nil)))))) (pss_one ps_never) pss_nil) (pss_one (ps_set (i := 3) scTable_init.nd rfl (by first | exact Or.inl rfl | exact Or.inr rfl) (pe_ix (k_ix K) (pv 5) pe_int (fun _ _ => rfl)))))) (pss_cons (ps_fld (pv 0) (pv 1) rfl) (pss_one (ps_fld (pv 0) (pv 2) rfl))))))), ?_⟩
  have sl0 : Sl 6 [.ref a, kv, tv] (L2.start N_Table_init [.ref a, kv, tv]) := Sl.of rfl rfl
  have t12 := g.t12
  refine q_when (b := false) (t_not (t_B (b := true) (e_call (a_cons (sl0.var (i := 1) (v := kv) (s := dat K (dKs tb)) rfl hk) a_nil) fun vs H1 p Q q => ⟨tb, p, g, q⟩))) (fun z => by cases z) fun _ H1 e1 => ?_
  have etv : ∀ {H' : Hp} {σ : L2.St}, Ex H H' → Sl 6 [.ref a, kv, tv] σ → EvS (tVar 2) σ H' (dat K (dTys tb)) := fun {H' σ} e sl => sl.var (i := 2) (v := tv) rfl (ht.mono (Gt.of_ex e))
  refine q_when (b := false) (t_or (a := false) (b := false) (t_not (t_B (b := true) (e_isi (n := "tuple") (a_cons (etv e1 sl0) (a_cons e_c a_nil)) (by decide +kernel)))) fun _ => (t_test (EvS.cast (e_I0 (g := fun a b => .bl (decide (a > b))) (e_len (a_cons (etv e1 sl0) a_nil)) e_c) rfl)).to (by
    rw [List.length_map]
    exact decide_eq_false (by omega))) (fun z => by cases z) fun _ H2 e2 => ?_
  refine q_set (s := dat K .none) e_non fun v3 H3 e3 p3 => ?_
  have p3 := p3.non_inv
  subst p3
  have ex3 := (e1.trans e2).trans e3
  have sl1 : Sl 6 [.ref a, kv, tv] ((L2.start N_Table_init [.ref a, kv, tv]).set 3 (some .non)) := sl0.set (by show 3 ≤ 3; decide)
  obtain ⟨ua, uxs, rfl, huq, hud⟩ := Tp.tup_inv (ht.mono (Gt.of_ex ex3))
  have hlen : uxs.length = tb.types.length := by rw [hud.len, List.length_map]
  refine q_id (s_forET (K := K) (a := ua) (xs := uxs) (sl1.var (i := 2) (v := .ref ua) (s := vS (.ref ua)) rfl rfl) huq (fun i σ' H' => Sl 6 [.ref a, kv, .ref ua] σ' ∧ Ex H3 H' ∧ ∃ last lv, σ'[3]? = some (some lv) ∧ Tp K H' lv last ∧ (last = .none ∧ i = 0 ∨ ∃ t, 0 < i ∧ tb.types[i - 1]? = some t ∧ last = .str t.1))
    (fun i σ' H' q => Evl.ex_t q.2.1 huq) (fun H4 e4 => ⟨sl1, e4, .none, .non, rfl, .non, .inl ⟨rfl, rfl⟩⟩) ?_ ?_)
  · rintro i v σ' H' tp hi ⟨sl, ex, last, lv, h3, pl, hlast⟩ hT
    obtain ⟨d, hd, pd⟩ := hud.get' hi
    rw [List.getElem?_map] at hd
    cases hti : tb.types[i]? with
    | none => rw [hti] at hd; cases hd
    | some t =>
      rw [hti] at hd
      have hd := Option.some.inj hd
      subst hd
      have exT : Ex H' (upd H' tp (.tup [.int (i : Int), v])) := Evl.Ex.new hT
      obtain ⟨w1, w2, q1, q2, hgo⟩ := goes_two (i := 4) (j := 5) (σ := σ') (tp_pair (K := K) hT (.int (i : Int)) (pd.mono (Gt.of_ex ex)))
      refine hgo _ ?_
      have ex5 := ex.trans exT
      have pl5 := pl.mono (Gt.of_ex exT)
      generalize upd H' tp (.tup [.int (i : Int), v]) = H5 at ex5 pl5 q2
      have sl5 : Sl 6 [.ref a, kv, .ref ua] ((σ'.set 4 (some w1)).set 5 (some w2)) := (sl.set (by show 3 ≤ 4; decide)).set (by show 3 ≤ 5; decide)
      have h53 : ((σ'.set 4 (some w1)).set 5 (some w2))[3]? = some (some lv) := sl_ne (by decide) (sl_ne (by decide) h3)
      have h55 : ((σ'.set 4 (some w1)).set 5 (some w2))[5]? = some (some w2) := sl_same (n := 6) (by rw [List.length_set]; exact sl.len) (by decide)
      generalize (σ'.set 4 (some w1)).set 5 (some w2) = σ5 at sl5 h53 h55
      have hmem : t ∈ tb.types := List.mem_of_getElem? hti
      have hlo : LastOk last t.1 := by
        rcases hlast with ⟨h1, _⟩ | ⟨t', h1, h2, h3'⟩
        · exact .inl h1
        · refine .inr ?_
          rw [h3']
          exact g.ta (i - 1) _ _ (by rw [List.getElem?_map, h2]; rfl) (by rw [show i - 1 + 1 = i by omega, List.getElem?_map, hti]; rfl)
      refine q_when (b := false) (t_not (t_B (b := true) (e_call (a_cons (sl5.var (i := 1) (v := kv) (s := dat K (dKs tb)) rfl (hk.mono (Gt.of_ex (ex3.trans ex5)))) (a_cons (e_var (v := w2) h55 q2) (a_cons (e_var (v := lv) (s := dat K last) h53 pl5) a_nil))) fun vs H1 p Q q => ⟨tb, t, last, p, hmem, hlo, g, hln, q⟩))) (fun z => by cases z) fun _ H6 e6 => ?_
      refine s_set (e_ixT (i := 0) (d := .str t.1) (e_var (v := w2) h55 (q2.mono (Gt.of_ex e6))) e_int rfl) fun v7 H7 e7 p7 => ⟨sl5.set (by show 3 ≤ 3; decide), ex5.trans (e6.trans e7), .str t.1, v7, sl_same sl5.len (by decide), p7, .inr ⟨t, by omega, by rw [show i + 1 - 1 = i by omega]; exact hti, rfl⟩⟩
  · rintro σ' H' ⟨sl, ex, _⟩
    have ha' : H' a = some (.ins C dx []) := (ex3.trans ex) _ _ ha
    refine (q_fldX (K := K) (C := C) (fs := []) (sl.var (i := 1) (v := kv) (s := vS kv) rfl rfl) (sl.var (i := 0) (v := .ref a) (s := vS (.ref a)) rfl rfl) ha' hC.cl hC.nk (by decide) fun H8 e8 => ?_ : tSeq _ _ { nx := fun _ H' => Q .non H', rt := Q } σ' H')
    refine s_fldX (K := K) (C := C) (sl.var (i := 2) (v := .ref ua) (s := vS (.ref ua)) rfl rfl) (sl.var (i := 0) (v := .ref a) (s := vS (.ref a)) rfl rfl) upd_same hC.cl hC.nt (by show 1 < 1000; decide) fun H9 e9 => ?_
    refine kk _ (fun b o hb q => ?_) upd_same
    rw [upd_ne hb]
    refine e9 _ _ ?_
    rw [upd_ne hb]
    exact e8 _ _ ((ex3.trans ex) _ _ q)
end
end K45
/-! The law's heap of draws: two lists that change, told by what stays true of them. -/
namespace K45
open PySem L2 RZ PyProof.Rows
/-- the outer list: the inner one, a number -/
def drwO (oa ia : Addr) : HO := .ext fun h => ∃ (n : Int) (t : Tok) (m : Nat), -2147483648 < n ∧ n < 2147483648 ∧ h.get? oa = some { cls := .type "list", data := .seq #[.ref ia, .int n t] m }
/-- the inner list: numbers -/
def drwI (ia : Addr) : HO := .ext fun h => ∃ (xs : List Int) (its : List Value) (m : Nat), xs.length ≤ 100 ∧ Vals (xs.map V.int) its ∧ h.get? ia = some { cls := .type "list", data := .seq its.toArray m }
/-- both as lists -/
def conc (H : Hp) (oa ia : Addr) (xs : List Int) (n : Int) : Hp := upd (upd H oa (.lst [.ref ia, .int n])) ia (.lst (xs.map V.int))
def abst (H : Hp) (oa ia : Addr) : Hp := upd (upd H oa (drwO oa ia)) ia (drwI ia)
theorem conc_o {H : Hp} {oa ia : Addr} {xs : List Int} {n : Int} (h : oa ≠ ia) : conc H oa ia xs n oa = some (.lst [.ref ia, .int n]) := by unfold conc; rw [upd_ne h, upd_same]
theorem conc_i {H : Hp} {oa ia : Addr} {xs : List Int} {n : Int} : conc H oa ia xs n ia = some (.lst (xs.map V.int)) := upd_same
theorem conc_ne {H : Hp} {oa ia b : Addr} {xs : List Int} {n : Int} (h1 : b ≠ oa) (h2 : b ≠ ia) : conc H oa ia xs n b = H b := by unfold conc; rw [upd_ne h2, upd_ne h1]
theorem abst_o {H : Hp} {oa ia : Addr} (h : oa ≠ ia) : abst H oa ia oa = some (drwO oa ia) := by unfold abst; rw [upd_ne h, upd_same]
theorem abst_i {H : Hp} {oa ia : Addr} : abst H oa ia ia = some (drwI ia) := upd_same
theorem abst_ne {H : Hp} {oa ia b : Addr} (h1 : b ≠ oa) (h2 : b ≠ ia) : abst H oa ia b = H b := by unfold abst; rw [upd_ne h2, upd_ne h1]
theorem drwO_ok {P : Program} {w : World} {H : Hp} {h : Heap} {oa ia : Addr} (x : ObjOk P w H h oa (drwO oa ia)) : ∃ (n : Int) (t : Tok) (m : Nat), -2147483648 < n ∧ n < 2147483648 ∧ h.get? oa = some { cls := .type "list", data := .seq #[.ref ia, .int n t] m } := by
  obtain ⟨z, _, _⟩ := (show ObjOk P w H h oa (.ext _) from x)
  exact z
theorem drwI_ok {P : Program} {w : World} {H : Hp} {h : Heap} {ia : Addr} (x : ObjOk P w H h ia (drwI ia)) : ∃ (xs : List Int) (its : List Value) (m : Nat), xs.length ≤ 100 ∧ Vals (xs.map V.int) its ∧ h.get? ia = some { cls := .type "list", data := .seq its.toArray m } := by
  obtain ⟨z, _, _⟩ := (show ObjOk P w H h ia (.ext _) from x)
  exact z
theorem drwO_mk {P : Program} {w : World} {H : Hp} {h : Heap} {oa ia : Addr} {n : Int} {t : Tok} {m : Nat} (h1 : -2147483648 < n) (h2 : n < 2147483648) (e : h.get? oa = some { cls := .type "list", data := .seq #[.ref ia, .int n t] m }) : ObjOk P w H h oa (drwO oa ia) :=
  ⟨⟨n, t, m, h1, h2, e⟩, ⟨_, e⟩, fun a b ⟨n, t, m, h1, h2, e⟩ k => ⟨n, t, m, h1, h2, k _ e⟩⟩
theorem drwI_mk {P : Program} {w : World} {H : Hp} {h : Heap} {ia : Addr} {xs : List Int} {its : List Value} {m : Nat} (hl : xs.length ≤ 100) (r : Vals (xs.map V.int) its) (e : h.get? ia = some { cls := .type "list", data := .seq its.toArray m }) : ObjOk P w H h ia (drwI ia) :=
  ⟨⟨xs, its, m, hl, r, e⟩, ⟨_, e⟩, fun a b ⟨xs, its, m, hl, r, e⟩ k => ⟨xs, its, m, hl, r, k _ e⟩⟩
theorem drwO_own {oa ia x : Addr} : drwO oa ia ≠ .own x := fun z => nomatch (show HO.ext _ = HO.own x from z)
theorem drwI_own {ia x : Addr} : drwI ia ≠ .own x := fun z => nomatch (show HO.ext _ = HO.own x from z)
theorem drwO_tup {oa ia : Addr} {xs : List V} : drwO oa ia ≠ .tup xs := fun z => nomatch (show HO.ext _ = HO.tup xs from z)
theorem drwI_tup {ia : Addr} {xs : List V} : drwI ia ≠ .tup xs := fun z => nomatch (show HO.ext _ = HO.tup xs from z)
theorem drwO_frz {oa ia : Addr} {o : Obj} {u : HO} : drwO oa ia ≠ .frz o u := fun z => nomatch (show HO.ext _ = HO.frz o u from z)
theorem drwI_frz {ia : Addr} {o : Obj} {u : HO} : drwI ia ≠ .frz o u := fun z => nomatch (show HO.ext _ = HO.frz o u from z)
theorem drwO_tbl {oa ia : Addr} {ps : Array Value} : drwO oa ia ≠ .tbl ps := fun z => nomatch (show HO.ext _ = HO.tbl ps from z)
theorem drwI_tbl {ia : Addr} {ps : Array Value} : drwI ia ≠ .tbl ps := fun z => nomatch (show HO.ext _ = HO.tbl ps from z)
/-- the heap told so is held too -/
theorem hok_abst {P : Program} {w : World} {H : Hp} {h : Heap} {oa ia : Addr} {xs : List Int} {n : Int} (ok : HOk P w H h) (ho : H oa = some (.lst [.ref ia, .int n])) (hi : H ia = some (.lst (xs.map V.int))) (hn : -2147483648 < n ∧ n < 2147483648) (hl : xs.length ≤ 100) (ne : oa ≠ ia) : HOk P w (abst H oa ia) h := fun b o q => by
  by_cases h2 : b = ia
  · subst h2
    rw [abst_i] at q
    cases q
    obtain ⟨_, its, m, r, e⟩ := (show ObjOk P w H h b (.lst (xs.map V.int)) from ok b _ hi)
    exact drwI_mk hl r e
  by_cases h1 : b = oa
  · subst h1
    rw [abst_o ne] at q
    cases q
    obtain ⟨_, its, m, r, e⟩ := (show ObjOk P w H h b (.lst [.ref ia, .int n]) from ok b _ ho)
    cases r with
    | cons r1 r2 => cases r2 with
      | cons r2 r3 =>
        cases r3
        cases r1
        obtain ⟨t, rfl⟩ := r2
        exact drwO_mk hn.1 hn.2 e
  rw [abst_ne h1 h2] at q
  refine (ok b o q).stay (fun c v _ z => z) (fun c hc => ?_) (fun c ys hc => ?_)
  · rw [abst_ne (fun z => by rw [z, ho] at hc; cases hc) (fun z => by rw [z, hi] at hc; cases hc)]
    exact hc
  · rw [abst_ne (fun z => by rw [z, ho] at hc; cases hc) (fun z => by rw [z, hi] at hc; cases hc)]
    exact hc
theorem hok_conc {P : Program} {w : World} {H : Hp} {h : Heap} {oa ia : Addr} (ok : HOk P w H h) (ho : H oa = some (drwO oa ia)) (hi : H ia = some (drwI ia)) (ne : oa ≠ ia) : ∃ (xs : List Int) (n : Int), xs.length ≤ 100 ∧ -2147483648 < n ∧ n < 2147483648 ∧ HOk P w (conc H oa ia xs n) h := by
  obtain ⟨n, t, m, h1, h2, e⟩ := drwO_ok (ok oa _ ho)
  obtain ⟨xs, its, m2, hl, r, e2⟩ := drwI_ok (ok ia _ hi)
  refine ⟨xs, n, hl, h1, h2, fun b o q => ?_⟩
  by_cases hb2 : b = ia
  · subst hb2
    rw [conc_i] at q
    cases q
    exact ⟨by rw [List.length_map]; exact Nat.le_of_lt (small1000 (by omega)), its, m2, r, e2⟩
  by_cases hb1 : b = oa
  · subst hb1
    rw [conc_o ne] at q
    cases q
    exact ⟨Nat.le_of_lt (small1000 (show 2 ≤ 1000 by decide)), [.ref ia, .int n t], m, .cons rfl (.cons ⟨t, rfl⟩ .nil), e⟩
  rw [conc_ne hb1 hb2] at q
  refine (ok b o q).stay (fun c v _ z => z) (fun c hc => ?_) (fun c ys hc => ?_)
  · rw [conc_ne (fun z => by rw [z, ho] at hc; exact drwO_own (Option.some.inj hc)) (fun z => by rw [z, hi] at hc; exact drwI_own (Option.some.inj hc))]
    exact hc
  · rw [conc_ne (fun z => by rw [z, ho] at hc; exact drwO_tup (Option.some.inj hc)) (fun z => by rw [z, hi] at hc; exact drwI_tup (Option.some.inj hc))]
    exact hc
/-- a def told by lists is one told so -/
theorem FnOk.draws {P : Program} {w : World} {K : Fg} {mg : Str → Option Value} {base : Heap} {k : Nat} {f : Addr} {fd : FuncData} {ps : List Str} {spC spA : Sp} (F : FnOk P w K mg base CX0 k f fd ps spC) (len : ∀ vs H Q E, spA vs H Q E → vs.length = ps.length)
    (h : ∀ vs H Q E, spA vs H Q E → ∃ oa ia, oa ≠ ia ∧ H oa = some (drwO oa ia) ∧ H ia = some (drwI ia) ∧ ∀ xs n, xs.length ≤ 100 → -2147483648 < n → n < 2147483648 →
      spC vs (conc H oa ia xs n) (fun v H2 => ∃ xs' n', xs'.length ≤ 100 ∧ -2147483648 < n' ∧ n' < 2147483648 ∧ H2 oa = some (.lst [.ref ia, .int n']) ∧ H2 ia = some (.lst (List.map V.int xs')) ∧ Q v (abst H2 oa ia)) E) :
    FnOk P w K mg base CX0 k f fd ps spA := by
  refine ⟨len, fun A outer s H args us vs Q E hr e0 hb r hsp => ?_⟩
  obtain ⟨oa, ia, ne, ho, hi, hC⟩ := h vs H Q E hsp
  obtain ⟨xs, n, hl, h1, h2, hok⟩ := hok_conc e0.hok ho hi ne
  have nn : ∀ {b : Addr}, H b = none → b ≠ oa ∧ b ≠ ia := fun {b} z => ⟨(fun e => by rw [e, ho] at z; cases z), (fun e => by rw [e, hi] at z; cases z)⟩
  have e1 : Env0 P w K mg base A outer s (conc H oa ia xs n) := ⟨e0.frames, e0.mod, fun b o q => ⟨(e0.bs b o q).1, by rw [conc_ne (nn (e0.bs b o q).2).1 (nn (e0.bs b o q).2).2]; exact (e0.bs b o q).2⟩, e0.bsz, e0.funs, fun b hb => by rw [conc_ne (nn (e0.frf b hb)).1 (nn (e0.frf b hb)).2]; exact e0.frf b hb, hok, e0.bare⟩
  refine codeAny_mono (F.run A outer s _ args us vs _ E hr e1 hb r (hC xs n hl h1 h2)) fun rr s' hq => ?_
  cases rr with
  | error e => exact hq
  | ok fl =>
    cases fl with
    | next => exact hq
    | brk => exact hq
    | cont => exact hq
    | ret u =>
      obtain ⟨v, H2, os, bare, un, hok2, rv, xs', n', hl', g1, g2, ko, ki, q⟩ := hq
      refine ⟨v, abst H2 oa ia, os, bare, ?_, hok_abst hok2 ko ki ⟨g1, g2⟩ hl' ne, rv, q⟩
      have cn : ∀ {b : Addr}, H b = none → conc H oa ia xs n b = none := fun {b} z => by rw [conc_ne (nn z).1 (nn z).2]; exact z
      have cs : ∀ {b : Addr} {o : HO}, H b = some o → o ≠ drwO oa ia → o ≠ drwI ia → b ≠ oa ∧ b ≠ ia := fun {b o} z n1 n2 => ⟨(fun e => by rw [e, ho] at z; exact n1 (Option.some.inj z).symm), (fun e => by rw [e, hi] at z; exact n2 (Option.some.inj z).symm)⟩
      exact {
        keep := fun b o z m hf hx => un.keep b o z (cn m) hf hx
        slot := fun b o z m hf hx => un.slot b o z (cn m) hf hx
        free := fun b o z m hx => by rw [abst_ne (nn m).1 (nn m).2]; exact un.free b o z (cn m) hx
        there := fun b o z hx => un.there b o z hx
        tups := fun b ys z => by
          obtain ⟨c1, c2⟩ := cs z (fun e => drwO_tup e.symm) (fun e => drwI_tup e.symm)
          rw [abst_ne c1 c2]
          exact un.tups b ys (by rw [conc_ne c1 c2]; exact z)
        frzs := fun b o u z => by
          obtain ⟨c1, c2⟩ := cs z (fun e => drwO_frz e.symm) (fun e => drwI_frz e.symm)
          rw [abst_ne c1 c2]
          exact un.frzs b o u (by rw [conc_ne c1 c2]; exact z)
        tbls := fun b ps z => by
          obtain ⟨c1, c2⟩ := cs z (fun e => drwO_tbl e.symm) (fun e => drwI_tbl e.symm)
          rw [abst_ne c1 c2]
          exact un.tbls b ps (by rw [conc_ne c1 c2]; exact z) }
/-- .. that makes them -/
theorem FnOk.drawsNew {P : Program} {w : World} {K : Fg} {mg : Str → Option Value} {base : Heap} {k : Nat} {f : Addr} {fd : FuncData} {ps : List Str} {spC spA : Sp} (F : FnOk P w K mg base CX0 k f fd ps spC) (len : ∀ vs H Q E, spA vs H Q E → vs.length = ps.length)
    (h : ∀ vs H Q E, spA vs H Q E → spC vs H (fun v H2 => ∃ oa ia xs' n', oa ≠ ia ∧ H oa = none ∧ H ia = none ∧ xs'.length ≤ 100 ∧ -2147483648 < n' ∧ n' < 2147483648 ∧ H2 oa = some (.lst [.ref ia, .int n']) ∧ H2 ia = some (.lst (List.map V.int xs')) ∧ Q v (abst H2 oa ia)) E) :
    FnOk P w K mg base CX0 k f fd ps spA := by
  refine ⟨len, fun A outer s H args us vs Q E hr e0 hb r hsp => ?_⟩
  refine codeAny_mono (F.run A outer s _ args us vs _ E hr e0 hb r (h vs H Q E hsp)) fun rr s' hq => ?_
  cases rr with
  | error e => exact hq
  | ok fl =>
    cases fl with
    | next => exact hq
    | brk => exact hq
    | cont => exact hq
    | ret u =>
      obtain ⟨v, H2, os, bare, un, hok2, rv, oa, ia, xs', n', ne, no, ni, hl', g1, g2, ko, ki, q⟩ := hq
      refine ⟨v, abst H2 oa ia, os, bare, ?_, hok_abst hok2 ko ki ⟨g1, g2⟩ hl' ne, rv, q⟩
      have fr : ∀ {b : Addr} {o : Obj}, s.heap.get? b = some o → H b = none → b ≠ oa ∧ b ≠ ia := fun {b o} z m => by
        have y := un.free b o z m (by simp)
        exact ⟨(fun e => by rw [e, ko] at y; cases y), (fun e => by rw [e, ki] at y; cases y)⟩
      have cs : ∀ {b : Addr} {o : HO}, H b = some o → b ≠ oa ∧ b ≠ ia := fun {b o} z => ⟨(fun e => by rw [e, no] at z; cases z), (fun e => by rw [e, ni] at z; cases z)⟩
      exact {
        keep := fun b o z m hf hx => un.keep b o z m hf hx
        slot := fun b o z m hf hx => un.slot b o z m hf hx
        free := fun b o z m hx => by rw [abst_ne (fr z m).1 (fr z m).2]; exact un.free b o z m hx
        there := fun b o z hx => un.there b o z hx
        tups := fun b ys z => by rw [abst_ne (cs z).1 (cs z).2]; exact un.tups b ys z
        frzs := fun b o u z => by rw [abst_ne (cs z).1 (cs z).2]; exact un.frzs b o u z
        tbls := fun b ps z => by rw [abst_ne (cs z).1 (cs z).2]; exact un.tbls b ps z }
end K45
/-! The law's own defs: small ones. -/
namespace K45
open PySem L2 RZ
theorem cut_drop {α : Type} (xs : List α) {i : Nat} (h : i ≤ xs.length) : cutL xs (some (i : Int)) none = xs.drop i := by
  unfold cutL
  rw [HT.sIx_none, HT.sIx_nat, Nat.min_eq_left h]
  exact List.take_of_length_le (by rw [List.length_drop]; exact Nat.le_refl _)
/-- what is found of kinds, after some types -/
def foundK (lots : List (List Nat)) (l : List Nat) : List Nat := l.foldl (fun F r => F ++ (lots.getD r []).filter fun k => !F.contains k) []
theorem foundK_snoc (lots : List (List Nat)) (l : List Nat) (r : Nat) : foundK lots (l ++ [r]) = foundK lots l ++ (lots.getD r []).filter fun k => !(foundK lots l).contains k := by
  unfold foundK
  rw [List.foldl_append]
  rfl
theorem snoc_ind {α : Type} {p : List α → Prop} (h0 : p []) (h1 : ∀ l a, p l → p (l ++ [a])) (l : List α) : p l := by
  have : ∀ n (l : List α), l.length = n → p l := fun n => by
    induction n with
    | zero => intro l e; rw [List.length_eq_zero_iff.mp e]; exact h0
    | succ n ih =>
      intro l e
      rcases List.eq_nil_or_concat l with z | ⟨l', a, z⟩
      · rw [z] at e; cases e
      · rw [List.concat_eq_append] at z
        subst z
        rw [List.length_append, List.length_singleton] at e
        exact h1 l' a (ih l' (by omega))
  exact this _ l rfl
theorem mem_foundK {lots : List (List Nat)} {k : Nat} (l : List Nat) : k ∈ foundK lots l ↔ ∃ r ∈ l, k ∈ lots.getD r [] := by
  refine snoc_ind (p := fun l => k ∈ foundK lots l ↔ ∃ r ∈ l, k ∈ lots.getD r []) ?_ (fun l r ih => ?_) l
  · exact ⟨(fun h => nomatch h), (fun ⟨_, h, _⟩ => nomatch h)⟩
  · rw [foundK_snoc, List.mem_append, List.mem_filter, ih]
    constructor
    · rintro (⟨r', h1, h2⟩ | ⟨h1, _⟩)
      · exact ⟨r', List.mem_append_left _ h1, h2⟩
      · exact ⟨r, List.mem_append_right _ (List.mem_singleton.mpr rfl), h1⟩
    · rintro ⟨r', h1, h2⟩
      rcases List.mem_append.mp h1 with h1 | h1
      · exact .inl ⟨r', h1, h2⟩
      · rw [List.mem_singleton.mp h1] at h2
        by_cases z : k ∈ foundK lots l
        · exact .inl (ih.mp z)
        · exact .inr ⟨h2, by rw [Bool.not_eq_true', ← Bool.not_eq_true, List.contains_iff_mem]; exact z⟩
theorem foundK_nodup {lots : List (List Nat)} (hn : ∀ r, (lots.getD r []).Nodup) (l : List Nat) : (foundK lots l).Nodup := by
  refine snoc_ind (p := fun l => (foundK lots l).Nodup) List.nodup_nil (fun l r ih => ?_) l
  rw [foundK_snoc]
  refine List.nodup_append.mpr ⟨ih, List.Pairwise.filter _ (hn r), fun a ha b hb e => ?_⟩
  have := (List.mem_filter.mp hb).2
  rw [Bool.not_eq_true', ← Bool.not_eq_true, List.contains_iff_mem] at this
  exact this (e ▸ ha)
theorem kot_asc {nk : Nat} {lots : List (List Nat)} {l : List Nat} : (kot nk lots l).Pairwise (· < ·) := List.Pairwise.filter _ List.pairwise_lt_range
theorem mem_kotN {nk : Nat} {lots : List (List Nat)} {l : List Nat} {k : Nat} : k ∈ kot nk lots l ↔ k < nk ∧ ∃ r ∈ l, k ∈ lots.getD r [] := by
  unfold kot
  rw [List.mem_filter, List.mem_range, List.any_eq_true]
  constructor
  · rintro ⟨h, r, hr, hk⟩
    exact ⟨h, r, hr, List.contains_iff_mem.mp hk⟩
  · rintro ⟨h, r, hr, hk⟩
    exact ⟨h, r, hr, List.contains_iff_mem.mpr hk⟩
theorem foundK_perm {nk : Nat} {lots : List (List Nat)} (wf : WfL nk lots) (hn : ∀ r, (lots.getD r []).Nodup) (l : List Nat) : (kot nk lots l).Perm (foundK lots l) :=
  (List.perm_ext_iff_of_nodup (kot_asc.imp fun h => Nat.ne_of_lt h) (foundK_nodup hn l)).mpr fun k => by
    rw [mem_kotN, mem_foundK]
    exact ⟨fun h => h.2, fun h => ⟨let ⟨r, _, hk⟩ := h; wf r k hk, h⟩⟩
/-- what the law's walks ask of lots -/
structure LOk (nk : Nat) (lots : List (List Nat)) : Prop where
  n8 : nk ≤ 8
  nt : lots.length ≤ 12
  wf : WfL nk lots
  asc : ∀ r, (lots.getD r []).Pairwise (· < ·)
theorem LOk.len {nk : Nat} {lots : List (List Nat)} (g : LOk nk lots) (r : Nat) : (lots.getD r []).length ≤ nk := by
  have h : lots.getD r [] = (List.range nk).filter fun k => (lots.getD r []).contains k := sorted_eqN (g.asc r) (List.Pairwise.filter _ List.pairwise_lt_range) fun k => by
    rw [List.mem_filter, List.mem_range, List.contains_iff_mem]
    exact ⟨fun z => ⟨g.wf r k z, z⟩, fun z => z.2⟩
  have h2 := List.length_filter_le (fun k => (lots.getD r []).contains k) (List.range nk)
  rw [← h, List.length_range] at h2
  exact h2
section
variable {P : Program} {w : World} {K : Fg} {mg : Str → Option Value} {base : Heap}
abbrev s__law_less : Stmt := topS 67
abbrev N__law_less : List Str := ["_law_stock", "_law_kind"]
theorem sc_law_less : FnScope N__law_less ["_law_stock", "_law_kind"] (defScope s__law_less) := ⟨rfl, rfl, rfl, by decide +kernel, rfl, by decide +kernel, by decide +kernel⟩
def sp_less (K : Fg) : Sp := fun vs H Q _ => ∃ (st : List Int) (k : Nat), AtAll H vs [dat K (dIs st), intS (k : Int)] ∧ k < st.length ∧ st.length ≤ 8 ∧ Ret (dat K (dIs (lessL st k))) H Q
theorem ok_less (T : Bt mg) (D : Df K mg "_law_less" s__law_less ["_law_stock", "_law_kind"]) : OkD P w K mg base CX0 1 "_law_less" ["_law_stock", "_law_kind"] (sp_less K) := by
  refine OkD.of D fun f fd F => F.ok sc_law_less (fun vs H Q E ⟨_, _, h, _⟩ => atLen h) (fun cdv A outer s H vs Q E hr ⟨st, k, h, hk, h8, kk⟩ => ?_)
  obtain ⟨x, y, rfl, hx, hy⟩ := a2 h
  refine ⟨_, (pss_one (ps_ret (pe_op (k_catT K) (pe_op (k_catT K) (pe_slice (k_slT K) (pv 0) po_none (po_some (pv 1))) (pe_tup (pa_cons (pe_op op_sub (pe_ix (k_ix K) (pv 0) (pv 1) (fun _ _ => rfl)) pe_int) pa_nil))) (pe_slice (k_slT K) (pv 0) (po_some (pe_op op_add (pv 1) pe_int)) po_none)))), ?_⟩
  have hlen : (st.map PyData.int).length = st.length := List.length_map ..
  have hg : (st.map PyData.int)[k]? = some (.int (fn st k)) := by
    rw [List.getElem?_map, List.getElem?_eq_getElem hk]
    show some (PyData.int _) = some (PyData.int _)
    unfold fn
    rw [List.getD_eq_getElem?_getD, List.getElem?_eq_getElem hk]
    rfl
  have e0 : EvS (tVar 0) (L2.start N__law_less [x, y]) H (dat K (dIs st)) := e_var (v := x) rfl hx
  have e1 : EvS (tVar 1) (L2.start N__law_less [x, y]) H (intS (k : Int)) := e_var (v := y) rfl hy
  refine s_retR (EvS.cast (e_catT (e_catT (e_slT (lo := none) (hi := some (k : Int)) e0 o_none (o_some e1)) (e_tup (ds := [.int (fn st k - 1)]) (a_cons (EvS.toD (e_I0 (g := fun a b => .int (a - b)) (EvS.toI (e_ixT e0 e1 hg)) (e_int (i := 1)))) a_nil) (by show 1 ≤ 1000; decide)) ?_) (e_slT (lo := some ((k : Int) + 1)) (hi := none) e0 (o_some (e_I0 (g := fun a b => .int (a + b)) e1 (e_int (i := 1)))) o_none) ?_) ?_) kk
  · rw [cut_take _ (by omega), List.length_take, List.length_singleton]; omega
  · rw [cut_take _ (by omega), show ((k : Int) + 1) = ((k + 1 : Nat) : Int) from rfl, cut_drop _ (by omega), List.length_append, List.length_take, List.length_singleton, List.length_drop]; omega
  · rw [cut_take _ (by omega), show ((k : Int) + 1) = ((k + 1 : Nat) : Int) from rfl, cut_drop _ (by omega)]
    unfold dIs lessL
    rw [List.set_eq_take_append_cons_drop, if_pos hk, List.map_append, List.map_cons, List.map_take, List.map_drop, List.append_assoc]
    rfl
abbrev s__law_kinds : Stmt := topS 64
abbrev N__law_kinds : List Str := ["_law_lots_here", "_law_types", "_law_found", "_law_at", "_law_kind"]
theorem sc_law_kinds : FnScope N__law_kinds ["_law_lots_here", "_law_types"] (defScope s__law_kinds) := ⟨rfl, rfl, rfl, by decide +kernel, rfl, by decide +kernel, by decide +kernel⟩
def sp_kinds (K : Fg) : Sp := fun vs H Q _ => ∃ (nk : Nat) (lots : List (List Nat)) (l : List Nat), AtAll H vs [lstS K (lots.map dNs), dat K (dNs l)] ∧ LOk nk lots ∧ (∀ r ∈ l, r < lots.length) ∧ l.length ≤ 12 ∧ Ret (dat K (dNs (kot nk lots l))) H Q
theorem ok_kinds (T : Bt mg) (D : Df K mg "_law_kinds" s__law_kinds ["_law_lots_here", "_law_types"]) : OkD P w K mg base CX0 1 "_law_kinds" ["_law_lots_here", "_law_types"] (sp_kinds K) := by
  refine OkD.of D fun f fd F => F.ok sc_law_kinds (fun vs H Q E ⟨_, _, _, h, _⟩ => atLen h) (fun cdv A outer s H vs Q E hr ⟨nk, lots, l, h, g, hl, hn, kk⟩ => ?_)
  obtain ⟨x, y, rfl, hx, hy⟩ := a2 h
  refine ⟨_, (pss_cons (ps_set (i := 2) sc_law_kinds.nd rfl (by first | exact Or.inl rfl | exact Or.inr rfl) (pe_lst pa_nil)) (pss_cons (ps_for PassesOwn.never rfl (k_pit K (pv 1)) (pg_name (i := 3) sc_law_kinds.nd rfl (by first | exact Or.inl rfl | exact Or.inr rfl)) (pss_one (ps_set (i := 2) sc_law_kinds.nd rfl (by first | exact Or.inl rfl | exact Or.inr rfl) (pe_op k_cat (pv 2) (pe_lc (own := [("_law_kind", 4)]) (g := gName 4) rfl sc_law_kinds.nd (k_pit K (pe_ix (k_ix K) (pv 0) (pv 3) (fun _ _ => rfl))) (blkOk_by (N := N__law_kinds) (sc := (defScope s__law_kinds)) (by decide +kernel)) (fun _ _ _ _ _ => (pg_name (i := 4) sc_law_kinds.nd rfl (by first | exact Or.inl rfl | exact Or.inr rfl))) (fun _ _ _ _ _ => (pts_one (pt_cmpR (k_notIn K) (pv 4) (pv 2) (by rfl)))) (fun _ _ _ _ _ => (pv 4))))))) (pss_one (ps_ret (pe_callTy (k_tuple K) (by rfl) T.b_tuple (by decide +kernel) (pa_cons (pe_callB (k_sorted K) (by rfl) T.b_sorted (by decide +kernel) (pa_cons (pv 2) pa_nil)) pa_nil)))))), ?_⟩
  refine q_set (s := lstS K (([] : List Nat).map dN)) (e_lst (ds := []) a_nil (by decide)) fun v1 H1 e1 p1 => ?_
  have sl0 : Sl 5 [x, y] ((L2.start N__law_kinds [x, y]).set 2 (some v1)) := ⟨rfl, fun i v e => by
    match i, e with
    | 0, e => exact congrArg some e
    | 1, e => exact congrArg some e
    | i + 2, e => cases e⟩
  have hnd : ∀ r, (lots.getD r []).Nodup := fun r => (g.asc r).imp fun h => Nat.ne_of_lt h
  have hfl : ∀ l', (foundK lots l').length ≤ 8 := fun l' => by
    rw [← (foundK_perm g.wf hnd l').length_eq]
    exact Nat.le_trans kot_len g.n8
  refine q_for (s_forT (e_var (v := y) rfl (Sh.up _ _ _ _ e1 hy)) fun H2 e2 => ⟨fun i σ' H' => Sl 5 [x, y] σ' ∧ Ex H H' ∧ Ex H2 H' ∧ ∃ v, σ'[2]? = some (some v) ∧ (lstS K ((foundK lots (l.take i)).map dN)).P v H', ⟨sl0, e1.trans e2, Evl.Ex.refl _, v1, rfl, Sh.up _ _ _ _ e2 p1⟩, fun i σ' H' q => Gt.of_ex q.2.2.1, ?_, ?_⟩)
  · rintro i d wv σ' H' hd hw ⟨sl, ex, ex2, v, h3, pv⟩
    obtain ⟨r, hr2, rfl⟩ : ∃ r, l[i]? = some r ∧ dN r = d := by
      rw [List.getElem?_map] at hd
      cases q : l[i]? with
      | none => rw [q] at hd; cases hd
      | some r => exact ⟨r, rfl, by rw [q] at hd; exact Option.some.inj hd⟩
    have hw : wv = .int (r : Int) := hw.int_inv
    subst hw
    have hi := (List.getElem?_eq_some_iff.mp hr2).1
    have hrl := hl r (List.mem_of_getElem? hr2)
    have sl4 : Sl 5 [x, y] (σ'.set 3 (some (.int (r : Int)))) := sl.set (by show 2 ≤ 3; decide)
    have h3' : (σ'.set 3 (some (V.int (r : Int))))[2]? = some (some v) := sl_ne (by decide) h3
    have h4' : (σ'.set 3 (some (V.int (r : Int))))[3]? = some (some (.int (r : Int))) := sl_same sl.len (by decide)
    show tAsg _ _ _ (σ'.set 3 (some (V.int (r : Int)))) H'
    generalize σ'.set 3 (some (V.int (r : Int))) = σ4 at sl4 h3' h4'
    have hlot : (lots.map dNs)[r]? = some (dNs (lots.getD r [])) := by
      rw [List.getElem?_map, List.getD_eq_getElem?_getD, List.getElem?_eq_getElem hrl]
      rfl
    refine s_set (s := lstS K ((foundK lots (l.take (i + 1))).map dN)) (EvS.cast (e_cat (ds := (foundK lots (l.take i)).map dN) (e_var (v := v) h3' pv) (e_lcT (lots.getD r []) dN (fun k => !(foundK lots (l.take i)).contains k) dN (e_ixL (sl4.var (v := x) rfl (Sh.up _ _ _ _ ex hx)) (e_var (v := .int (r : Int)) (s := intS (r : Int)) h4' rfl) hlot) (Nat.le_trans (g.len r) (Nat.le_trans g.n8 (by decide))) (fun w => ?_) fun k u H5 e5 hk hu => ⟨?_, fun _ => ?_⟩) ?_) ?_) fun v6 H6 e6 p6 => ⟨sl4.set (Nat.le_refl _), ex.trans e6, ex2.trans e6, v6, sl_same sl4.len (by decide), p6⟩
    · show ((σ4.set 4 none).set 4 (some w)).set 4 none = σ4.set 4 none
      rw [List.set_set, List.set_set]
    · have hu : u = .int (k : Int) := hu.int_inv
      subst hu
      have hk4 : ((wipe σ4 [4]).set 4 (some (V.int (k : Int))))[4]? = some (some (.int (k : Int))) := sl_same (n := 5) (by rw [wipe_length]; exact sl4.len) (by decide)
      have h25 : ((wipe σ4 [4]).set 4 (some (V.int (k : Int))))[2]? = some (some v) := by
        show ((σ4.set 4 none).set 4 (some (V.int (k : Int))))[2]? = _
        rw [List.getElem?_set_ne (by decide), List.getElem?_set_ne (by decide)]
        exact h3'
      refine t_test (EvS.cast (e_inL (neg := true) (ns := (foundK lots (l.take i)).map fun n : Nat => (n : Int)) (e_var (v := .int (k : Int)) (s := intS (k : Int)) hk4 rfl) (EvS.cast (e_var (v := v) h25 (Sh.up _ _ _ _ e5 pv)) (by rw [map_dN]))) (by rw [contains_dN]; rfl))
    · have hk4 : ((wipe σ4 [4]).set 4 (some u))[4]? = some (some u) := sl_same (n := 5) (by rw [wipe_length]; exact sl4.len) (by decide)
      exact e_var (v := u) hk4 hu
    · have h1 := hfl (l.take i)
      have h2 := g.len r
      have h3 := g.n8
      have h4 : ((lots.getD r []).filter fun k => !(foundK lots (l.take i)).contains k).length ≤ (lots.getD r []).length := List.length_filter_le _ _
      rw [List.length_map, List.length_map]
      omega
    · rw [List.take_add_one, hr2, Option.toList_some, foundK_snoc, List.map_append]
  · rintro σ' H' ⟨sl, ex, ex2, v, h3, pv⟩
    rw [List.length_map, List.take_length] at pv
    have pv : (lstS K (((foundK lots l).map fun n : Nat => (n : Int)).map .int)).P v H' := by rw [← map_dN]; exact pv
    exact s_retR (D := { nx := fun _ H' => Q .non H', rt := Q }) (EvS.cast (e_tupleL (a_cons (e_sorted (ms := (kot nk lots l).map fun n : Nat => (n : Int)) (a_cons (e_var (v := v) h3 pv) a_nil) ((foundK_perm g.wf hnd l).map _) ((pairwise_cast kot_asc).imp fun h => Int.le_of_lt h)) a_nil)) (by rw [dNs_eq])) (kk.of ex)
end
end K45
/-! The law's own defs: parts, lacks, full ones. -/
namespace K45
open PySem L2 RZ
theorem parts_snoc (l : List Nat) (a : Nat) : partsF (l ++ [a]) = partsF l ++ (partsF l).map fun p => p ++ [a] := by
  unfold partsF
  rw [List.foldl_append]
  rfl
theorem parts_len (l : List Nat) : (partsF l).length = 2 ^ l.length := by
  refine snoc_ind (p := fun l => (partsF l).length = 2 ^ l.length) rfl (fun l a ih => ?_) l
  rw [parts_snoc, List.length_append, List.length_map, ih, List.length_append, List.length_singleton, Nat.pow_succ]
  omega
section
variable {P : Program} {w : World} {K : Fg} {mg : Str → Option Value} {base : Heap}
abbrev s__law_parts : Stmt := topS 63
abbrev N__law_parts : List Str := ["_law_some", "_law_found", "_law_one", "_law_part"]
theorem sc_law_parts : FnScope N__law_parts ["_law_some"] (defScope s__law_parts) := ⟨rfl, rfl, rfl, by decide +kernel, rfl, by decide +kernel, by decide +kernel⟩
def sp_parts (K : Fg) : Sp := fun vs H Q _ => ∃ (l : List Nat), AtAll H vs [dat K (dNs l)] ∧ l.length ≤ 12 ∧ Ret (lstS K ((partsF l).map dNs)) H Q
def sp_partsL (K : Fg) : Sp := fun vs H Q _ => ∃ (l : List Nat), AtAll H vs [lstS K (l.map dN)] ∧ l.length ≤ 12 ∧ Ret (lstS K ((partsF l).map dNs)) H Q
theorem ok_parts (T : Bt mg) (D : Df K mg "_law_parts" s__law_parts ["_law_some"]) : OkD P w K mg base CX0 1 "_law_parts" ["_law_some"] (sp_parts K) := by
  refine OkD.of D fun f fd F => F.ok sc_law_parts (fun vs H Q E ⟨_, h, _⟩ => atLen h) (fun cdv A outer s H vs Q E hr ⟨l, h, hn, kk⟩ => ?_)
  obtain ⟨x, rfl, hx⟩ := a1 h
  refine ⟨_, (pss_cons (ps_set (i := 1) sc_law_parts.nd rfl (by first | exact Or.inl rfl | exact Or.inr rfl) (pe_lst (pa_cons (pe_tup pa_nil) pa_nil))) (pss_cons (ps_for PassesOwn.never rfl (k_pit K (pv 0)) (pg_name (i := 2) sc_law_parts.nd rfl (by first | exact Or.inl rfl | exact Or.inr rfl)) (pss_one (ps_set (i := 1) sc_law_parts.nd rfl (by first | exact Or.inl rfl | exact Or.inr rfl) (pe_op k_cat (pv 1) (pe_lc (own := [("_law_part", 3)]) (g := gName 3) (tt := tYes) rfl sc_law_parts.nd (k_pil K (pv 1)) (blkOk_by (N := N__law_parts) (sc := (defScope s__law_parts)) (by decide +kernel)) (fun _ _ _ _ _ => (pg_name (i := 3) sc_law_parts.nd rfl (by first | exact Or.inl rfl | exact Or.inr rfl))) (fun _ _ _ _ _ => pts_nil) (fun _ _ _ _ _ => (pe_op (k_catT K) (pv 3) (pe_tup (pa_cons (pv 2) pa_nil))))))))) (pss_one (ps_ret (pv 1))))), ?_⟩
  refine q_set (s := lstS K [dNs []]) (e_lst (ds := [dNs []]) (a_cons (e_tup (ds := []) a_nil (by decide)) a_nil) (by show 1 ≤ 1000; decide)) fun v1 H1 e1 p1 => ?_
  have sl0 : Sl 4 [x] ((L2.start N__law_parts [x]).set 1 (some v1)) := ⟨rfl, fun i v e => by
    match i, e with
    | 0, e => exact congrArg some e
    | i + 1, e => cases e⟩
  have hlen : ∀ l', l'.length ≤ l.length → (partsF l').length ≤ 4096 := fun l' h => by
    rw [parts_len]
    exact Nat.le_trans (Nat.pow_le_pow_right (by decide) (Nat.le_trans h hn)) (by decide)
  refine q_for (s_forT (e_var (v := x) rfl (Sh.up _ _ _ _ e1 hx)) fun H2 e2 => ⟨fun i σ' H' => Sl 4 [x] σ' ∧ Ex H H' ∧ Ex H2 H' ∧ ∃ v, σ'[1]? = some (some v) ∧ (lstS K ((partsF (l.take i)).map dNs)).P v H', ⟨sl0, e1.trans e2, Evl.Ex.refl _, v1, rfl, Sh.up _ _ _ _ e2 p1⟩, fun i σ' H' q => Gt.of_ex q.2.2.1, ?_, ?_⟩)
  · rintro i d wv σ' H' hd hw ⟨sl, ex, ex2, v, h3, pv⟩
    obtain ⟨r, hr2, rfl⟩ : ∃ r, l[i]? = some r ∧ dN r = d := by
      rw [List.getElem?_map] at hd
      cases q : l[i]? with
      | none => rw [q] at hd; cases hd
      | some r => exact ⟨r, rfl, by rw [q] at hd; exact Option.some.inj hd⟩
    have hw : wv = .int (r : Int) := hw.int_inv
    subst hw
    have sl4 : Sl 4 [x] (σ'.set 2 (some (.int (r : Int)))) := sl.set (by show 1 ≤ 2; decide)
    have h3' : (σ'.set 2 (some (V.int (r : Int))))[1]? = some (some v) := sl_ne (by decide) h3
    have h4' : (σ'.set 2 (some (V.int (r : Int))))[2]? = some (some (.int (r : Int))) := sl_same sl.len (by decide)
    show tAsg _ _ _ (σ'.set 2 (some (V.int (r : Int)))) H'
    generalize σ'.set 2 (some (V.int (r : Int))) = σ4 at sl4 h3' h4'
    have hpl := hlen (l.take i) (List.length_take_le' _ _)
    refine s_set (s := lstS K ((partsF (l.take (i + 1))).map dNs)) (EvS.cast (e_cat (ds := (partsF (l.take i)).map dNs) (es := ((partsF (l.take i)).map (fun p => p ++ [r])).map dNs) (e_var (v := v) h3' pv) ?_ ?_) ?_) fun v6 H6 e6 p6 => ⟨sl4.set (by show 1 ≤ 1; decide), ex.trans e6, ex2.trans e6, v6, sl_same sl4.len (by decide), p6⟩
    · rw [List.map_map]
      refine EvS.map' _ _ (e_lcL (partsF (l.take i)) dNs (fun _ => true) _ (e_var (v := v) h3' pv) (by omega) (fun w => ?_) fun q u H6 e6 hq hu => ⟨t_yes, fun _ => ?_⟩)
      · show ((σ4.set 3 none).set 3 (some w)).set 3 none = σ4.set 3 none
        rw [List.set_set, List.set_set]
      · have hql := (mem_parts hq).length_le
        have hq2 := List.length_take_le' i l
        have hu5 : ((wipe σ4 [3]).set 3 (some u))[3]? = some (some u) := sl_same (n := 4) (by rw [wipe_length]; exact sl4.len) (by decide)
        have hi5 : ((wipe σ4 [3]).set 3 (some u))[2]? = some (some (.int (r : Int))) := by
          show ((σ4.set 3 none).set 3 (some u))[2]? = _
          rw [List.getElem?_set_ne (by decide), List.getElem?_set_ne (by decide)]
          exact h4'
        refine EvS.cast (e_catT (ds := q.map dN) (es := [dN r]) (e_var (v := u) hu5 hu) (e_tup (ds := [dN r]) (a_cons (e_var (v := .int (r : Int)) (s := dat K (dN r)) hi5 (.int _)) a_nil) (by show 1 ≤ 1000; decide)) (by rw [List.length_map, List.length_singleton]; omega)) ?_
        show dat K (.tuple (q.map dN ++ [dN r])) = dat K (.tuple ((q ++ [r]).map dN))
        rw [List.map_append]
        rfl
    · rw [List.length_map, List.length_map, List.length_map]
      omega
    · rw [List.take_add_one, hr2, Option.toList_some, parts_snoc, List.map_append]
  · rintro σ' H' ⟨sl, ex, ex2, v, h3, pv⟩
    rw [List.length_map, List.take_length] at pv
    exact (s_retR (D := { nx := fun _ H' => Q .non H', rt := Q }) (te := tVar 1) (e_var (v := v) h3 pv) (kk.of ex) : tRet (tVar 1) { nx := fun _ H' => Q .non H', rt := Q } σ' H')
theorem ok_partsL (T : Bt mg) (D : Df K mg "_law_parts" s__law_parts ["_law_some"]) : OkD P w K mg base CX0 1 "_law_parts" ["_law_some"] (sp_partsL K) := by
  refine OkD.of D fun f fd F => F.ok sc_law_parts (fun vs H Q E ⟨_, h, _⟩ => atLen h) (fun cdv A outer s H vs Q E hr ⟨l, h, hn, kk⟩ => ?_)
  obtain ⟨x, rfl, hx⟩ := a1 h
  refine ⟨_, (pss_cons (ps_set (i := 1) sc_law_parts.nd rfl (by first | exact Or.inl rfl | exact Or.inr rfl) (pe_lst (pa_cons (pe_tup pa_nil) pa_nil))) (pss_cons (ps_for PassesOwn.never rfl (k_pil K (pv 0)) (pg_name (i := 2) sc_law_parts.nd rfl (by first | exact Or.inl rfl | exact Or.inr rfl)) (pss_one (ps_set (i := 1) sc_law_parts.nd rfl (by first | exact Or.inl rfl | exact Or.inr rfl) (pe_op k_cat (pv 1) (pe_lc (own := [("_law_part", 3)]) (g := gName 3) (tt := tYes) rfl sc_law_parts.nd (k_pil K (pv 1)) (blkOk_by (N := N__law_parts) (sc := (defScope s__law_parts)) (by decide +kernel)) (fun _ _ _ _ _ => (pg_name (i := 3) sc_law_parts.nd rfl (by first | exact Or.inl rfl | exact Or.inr rfl))) (fun _ _ _ _ _ => pts_nil) (fun _ _ _ _ _ => (pe_op (k_catT K) (pv 3) (pe_tup (pa_cons (pv 2) pa_nil))))))))) (pss_one (ps_ret (pv 1))))), ?_⟩
  refine q_set (s := lstS K [dNs []]) (e_lst (ds := [dNs []]) (a_cons (e_tup (ds := []) a_nil (by decide)) a_nil) (by show 1 ≤ 1000; decide)) fun v1 H1 e1 p1 => ?_
  have sl0 : Sl 4 [x] ((L2.start N__law_parts [x]).set 1 (some v1)) := ⟨rfl, fun i v e => by
    match i, e with
    | 0, e => exact congrArg some e
    | i + 1, e => cases e⟩
  have hlen : ∀ l', l'.length ≤ l.length → (partsF l').length ≤ 4096 := fun l' h => by
    rw [parts_len]
    exact Nat.le_trans (Nat.pow_le_pow_right (by decide) (Nat.le_trans h hn)) (by decide)
  refine q_for (s_forL (e_var (v := x) rfl (Sh.up _ _ _ _ e1 hx)) fun a xs H2 e2 hq hd => ⟨fun i σ' H' => Sl 4 [x] σ' ∧ Ex H H' ∧ Ex H2 H' ∧ ∃ v, σ'[1]? = some (some v) ∧ (lstS K ((partsF (l.take i)).map dNs)).P v H', ⟨sl0, e1.trans e2, Evl.Ex.refl _, v1, rfl, Sh.up _ _ _ _ e2 p1⟩, fun i σ' H' q => ⟨q.2.2.1 _ _ hq, Gt.of_ex q.2.2.1⟩, ?_, ?_⟩)
  · rintro i d wv σ' H' hd hw ⟨sl, ex, ex2, v, h3, pv⟩
    obtain ⟨r, hr2, rfl⟩ : ∃ r, l[i]? = some r ∧ dN r = d := by
      rw [List.getElem?_map] at hd
      cases q : l[i]? with
      | none => rw [q] at hd; cases hd
      | some r => exact ⟨r, rfl, by rw [q] at hd; exact Option.some.inj hd⟩
    have hw : wv = .int (r : Int) := hw.int_inv
    subst hw
    have sl4 : Sl 4 [x] (σ'.set 2 (some (.int (r : Int)))) := sl.set (by show 1 ≤ 2; decide)
    have h3' : (σ'.set 2 (some (V.int (r : Int))))[1]? = some (some v) := sl_ne (by decide) h3
    have h4' : (σ'.set 2 (some (V.int (r : Int))))[2]? = some (some (.int (r : Int))) := sl_same sl.len (by decide)
    show tAsg _ _ _ (σ'.set 2 (some (V.int (r : Int)))) H'
    generalize σ'.set 2 (some (V.int (r : Int))) = σ4 at sl4 h3' h4'
    have hpl := hlen (l.take i) (List.length_take_le' _ _)
    refine s_set (s := lstS K ((partsF (l.take (i + 1))).map dNs)) (EvS.cast (e_cat (ds := (partsF (l.take i)).map dNs) (es := ((partsF (l.take i)).map (fun p => p ++ [r])).map dNs) (e_var (v := v) h3' pv) ?_ ?_) ?_) fun v6 H6 e6 p6 => ⟨sl4.set (by show 1 ≤ 1; decide), ex.trans e6, ex2.trans e6, v6, sl_same sl4.len (by decide), p6⟩
    · rw [List.map_map]
      refine EvS.map' _ _ (e_lcL (partsF (l.take i)) dNs (fun _ => true) _ (e_var (v := v) h3' pv) (by omega) (fun w => ?_) fun q u H6 e6 hq hu => ⟨t_yes, fun _ => ?_⟩)
      · show ((σ4.set 3 none).set 3 (some w)).set 3 none = σ4.set 3 none
        rw [List.set_set, List.set_set]
      · have hql := (mem_parts hq).length_le
        have hq2 := List.length_take_le' i l
        have hu5 : ((wipe σ4 [3]).set 3 (some u))[3]? = some (some u) := sl_same (n := 4) (by rw [wipe_length]; exact sl4.len) (by decide)
        have hi5 : ((wipe σ4 [3]).set 3 (some u))[2]? = some (some (.int (r : Int))) := by
          show ((σ4.set 3 none).set 3 (some u))[2]? = _
          rw [List.getElem?_set_ne (by decide), List.getElem?_set_ne (by decide)]
          exact h4'
        refine EvS.cast (e_catT (ds := q.map dN) (es := [dN r]) (e_var (v := u) hu5 hu) (e_tup (ds := [dN r]) (a_cons (e_var (v := .int (r : Int)) (s := dat K (dN r)) hi5 (.int _)) a_nil) (by show 1 ≤ 1000; decide)) (by rw [List.length_map, List.length_singleton]; omega)) ?_
        show dat K (.tuple (q.map dN ++ [dN r])) = dat K (.tuple ((q ++ [r]).map dN))
        rw [List.map_append]
        rfl
    · rw [List.length_map, List.length_map, List.length_map]
      omega
    · rw [List.take_add_one, hr2, Option.toList_some, parts_snoc, List.map_append]
  · rintro σ' H' ⟨sl, ex, ex2, v, h3, pv⟩
    rw [List.length_map, List.take_length] at pv
    exact (s_retR (D := { nx := fun _ H' => Q .non H', rt := Q }) (te := tVar 1) (e_var (v := v) h3 pv) (kk.of ex) : tRet (tVar 1) { nx := fun _ H' => Q .non H', rt := Q } σ' H')
/-! ### lacks -/
def ovI : Option Int → V
  | none => .non
  | some i => .int i
theorem tpAll_dO {H : Hp} : ∀ {vs : List V} {os : List (Option Int)}, TpAll K H vs (os.map dO) → vs = os.map ovI
  | _, [], h => by cases h; rfl
  | _, none :: os, h => by
    cases h with
    | cons h t =>
      have h := h.non_inv
      subst h
      rw [tpAll_dO t]
      rfl
  | _, some i :: os, h => by
    cases h with
    | cons h t =>
      have h := h.int_inv
      subst h
      rw [tpAll_dO t]
      rfl
theorem inV_none : ∀ os : List (Option Int), inV .non (os.map ovI) = decide (none ∈ os)
  | [] => rfl
  | none :: os => by
    rw [show decide (none ∈ none :: os) = true from decide_eq_true List.mem_cons_self]
    show (eqV .non .non || inV .non (os.map ovI)) = true
    rfl
  | some i :: os => by
    have h := inV_none os
    show (eqV (.int i) .non || inV .non (os.map ovI)) = _
    rw [h, show eqV (.int i) .non = false from rfl, Bool.false_or]
    exact decide_eq_decide.mpr ⟨fun z => List.mem_cons_of_mem _ z, fun z => by
      rcases List.mem_cons.mp z with q | q
      · cases q
      · exact q⟩
theorem flat_ovI : ∀ os : List (Option Int), (os.map ovI).all flatV = true
  | [] => rfl
  | none :: os => by rw [List.map_cons, List.all_cons, flat_ovI os]; rfl
  | some i :: os => by rw [List.map_cons, List.all_cons, flat_ovI os]; rfl
theorem e_inNone {σ : L2.St} {H : Hp} {ta tb : TE} {os : List (Option Int)} (ha : EvS ta σ H (dat K .none)) (hb : EvS tb σ H (lstS K (os.map dO))) : EvS (tOp (rIn K false) ta tb) σ H (blS (decide (none ∈ os))) :=
  e_two ha hb fun x y H1 _ px py Q q => by
    have px : x = .non := px.non_inv
    subst px
    obtain ⟨a, xs, rfl, hq, hd⟩ := py
    have e := tpAll_dO hd
    subst e
    refine ⟨a, _, rfl, .inl (SqL.of hq), rfl, flat_ovI os, q _ H1 (Evl.Ex.refl _) ?_⟩
    rw [inV_none]
    rfl
theorem sumO_map : ∀ ns : List Int, sumO (ns.map some) = ns.sum
  | [] => rfl
  | n :: ns => by
    show n + sumO (ns.map some) = _
    rw [sumO_map ns, List.sum_cons]
theorem all_some : ∀ {os : List (Option Int)}, none ∉ os → ∃ ns : List Int, os = ns.map some
  | [], _ => ⟨[], rfl⟩
  | none :: os, h => absurd List.mem_cons_self h
  | some i :: os, h =>
    let ⟨ns, e⟩ := all_some (os := os) fun z => h (List.mem_cons_of_mem _ z)
    ⟨i :: ns, by rw [e]; rfl⟩
abbrev s__law_lack : Stmt := topS 65
abbrev N__law_lack : List Str := ["_law_lots_here", "_law_stock", "_law_bounds_here", "_law_types", "_law_kinds_here", "_law_some", "_law_at", "_law_kind"]
theorem sc_law_lack : FnScope N__law_lack ["_law_lots_here", "_law_stock", "_law_bounds_here", "_law_types", "_law_kinds_here"] (defScope s__law_lack) := ⟨rfl, rfl, rfl, by decide +kernel, rfl, by decide +kernel, by decide +kernel⟩
def sp_lack (K : Fg) : Sp := fun vs H Q _ => ∃ (lots : List (List Nat)) (st : List Int) (bl : List (Option Int)) (l ks : List Nat), AtAll H vs [lstS K (lots.map dNs), dat K (dIs st), dat K (dOs bl), dat K (dNs l), dat K (dNs ks)] ∧ LOk st.length lots ∧ bl.length = lots.length ∧ (∀ r ∈ l, r < lots.length) ∧ l.length ≤ 12 ∧ (∀ k ∈ ks, k < st.length) ∧ ks.length ≤ 8 ∧ Ret (dat K (dO (lackL lots st bl l ks))) H Q
theorem ok_lack (T : Bt mg) (D : Df K mg "_law_lack" s__law_lack ["_law_lots_here", "_law_stock", "_law_bounds_here", "_law_types", "_law_kinds_here"]) : OkD P w K mg base CX0 1 "_law_lack" ["_law_lots_here", "_law_stock", "_law_bounds_here", "_law_types", "_law_kinds_here"] (sp_lack K) := by
  refine OkD.of D fun f fd F => F.ok sc_law_lack (fun vs H Q E ⟨_, _, _, _, _, h, _⟩ => atLen h) (fun cdv A outer s H vs Q E hr ⟨lots, st, bl, l, ks, h, g, hb, hl, hn, hk, h8, kk⟩ => ?_)
  obtain ⟨x, y, z, p, q, rfl, hx, hy, hz, hp, hq⟩ := a5 h
  refine ⟨_, (pss_cons (ps_setLc (i := 5) (own := [("_law_at", 6)]) (g := gName 6) rfl sc_law_lack.nd rfl rfl (sw_true rfl rfl rfl (by decide +kernel)) (k_pit K (pv 3)) (blkOk_by (N := N__law_lack) (sc := (defScope s__law_lack)) (by decide +kernel)) (fun _ _ _ _ _ => (pg_name (i := 6) sc_law_lack.nd rfl (by first | exact Or.inl rfl | exact Or.inr rfl))) (fun _ _ _ _ _ => (pts_one (pt_val (pe_callB (k_any K) (by rfl) T.b_any (by decide +kernel) (pa_cons (pe_lc (own := [("_law_kind", 7)]) (g := gName 7) (tt := tYes) rfl sc_law_lack.nd (k_pit K (pe_ix (k_ix K) (pv 0) (pv 6) (fun _ _ => rfl))) (blkOk_by (N := N__law_lack) (sc := (relS (mkSc [(".0", .local), ("_law_at", .local), ("any", .globalImplicit), ("_law_bounds_here", .free), ("_law_kinds_here", .free), ("_law_lots_here", .free)]) (defScope s__law_lack))) (by decide +kernel)) (fun _ _ _ _ _ => (pg_name (i := 7) sc_law_lack.nd rfl (by first | exact Or.inl rfl | exact Or.inr rfl))) (fun _ _ _ _ _ => pts_nil) (fun _ _ _ _ _ => (pe_cmpR (k_in K) (pv 7) (pv 4) (by rfl)))) pa_nil))))) (fun _ _ _ _ _ => (pe_ix (k_ix K) (pv 2) (pv 6) (fun _ _ => rfl)))) (pss_one (ps_ret (pe_ifExp (pt_cmpR (k_in K) pe_non (pv 5) (by rfl)) pe_non (pe_op op_sub (pe_callB (k_sumA K) (by rfl) T.b_sum (by decide +kernel) (pa_cons (pe_lc (own := [("_law_kind", 7)]) (g := gName 7) (tt := tYes) rfl sc_law_lack.nd (k_pit K (pv 4)) (blkOk_by (N := N__law_lack) (sc := (defScope s__law_lack)) (by decide +kernel)) (fun _ _ _ _ _ => (pg_name (i := 7) sc_law_lack.nd rfl (by first | exact Or.inl rfl | exact Or.inr rfl))) (fun _ _ _ _ _ => pts_nil) (fun _ _ _ _ _ => (pe_ix (k_ix K) (pv 1) (pv 7) (fun _ _ => rfl)))) pa_nil)) (pe_callB (k_sumA K) (by rfl) T.b_sum (by decide +kernel) (pa_cons (pv 5) pa_nil))))))), ?_⟩
  have hlot : ∀ r, r < lots.length → (lots.map dNs)[r]? = some (dNs (lots.getD r [])) := fun r hr => by
    rw [List.getElem?_map, List.getD_eq_getElem?_getD, List.getElem?_eq_getElem hr]
    rfl
  refine q_set (s := lstS K (((takersL lots l ks).map (bnf bl)).map dO)) (EvS.cast (e_lcT l dN (fun r => (lots.getD r []).any fun k => ks.contains k) (fun r => dO (bnf bl r)) (e_var (v := p) rfl hp) (Nat.le_trans hn (by decide)) (fun _ => rfl) fun r v H1 ex hr hv => ⟨t_B ?_, fun _ => ?_⟩) (by rw [List.map_map]; rfl)) fun v1 H1 e1 p1 => ?_
  · refine e_anyF (lots.getD r []) (fun k => ks.contains k) ?_
    refine e_lcT (lots.getD r []) dN (fun _ => true) _ (e_ixL (e_var (v := x) rfl (Sh.up _ _ _ _ ex hx)) (e_var (v := v) rfl hv.int_inv) (hlot r (hl r hr))) (Nat.le_trans (g.len r) (Nat.le_trans g.n8 (by decide))) (fun _ => rfl) fun k u H2 ex2 hk2 hu => ⟨t_yes, fun _ => EvS.toB ?_⟩
    exact e_inN (e_var (v := u) rfl hu.int_inv) (e_var (v := q) rfl (Sh.up _ _ _ _ (ex.trans ex2) hq))
  · exact e_ixT (e_var (v := z) rfl (Sh.up _ _ _ _ ex hz)) (e_var (v := v) rfl hv.int_inv) (bnf_get (by rw [hb]; exact hl r hr))
  · refine s_retR (e_if (t_test (e_inNone e_non (e_var (v := v1) rfl p1))) (fun hc => ?_) (fun hc => ?_)) (kk.of e1)
    · have hc := of_decide_eq_true hc
      refine EvS.cast (e_non (K := K)) ?_
      unfold lackL
      rw [if_pos hc]
      rfl
    · have hc := of_decide_eq_false hc
      obtain ⟨ns, hns⟩ := all_some hc
      rw [hns, List.map_map] at p1
      refine EvS.cast (EvS.toD (K := K) (e_I0 (g := fun a b => .int (a - b)) (i := unitsL st ks) (j := ns.sum) (e_sumAF ks (fun k => fn st k) (e_lcT ks dN (fun _ => true) _ (e_var (v := q) rfl (Sh.up _ _ _ _ e1 hq)) (Nat.le_trans h8 (by decide)) (fun _ => rfl) fun a v H2 ex2 ha hv => ⟨t_yes, fun _ => e_ixT (e_var (v := y) rfl (Sh.up _ _ _ _ (e1.trans ex2) hy)) (e_var (v := v) rfl hv.int_inv) (by rw [List.getElem?_map, fn_get (hk a ha)]; rfl)⟩)) (e_sumL (ns := ns) (e_var (v := v1) rfl p1)))) ?_
      unfold lackL
      rw [if_neg hc, hns, sumO_map]
      rfl
abbrev s__law_is_full : Stmt := topS 73
abbrev N__law_is_full : List Str := ["_law_lots_here", "_law_stock", "_law_bounds_here", "_law_types", "_law_lacks", "_law_part", "_law_lack_here"]
theorem sc_law_is_full : FnScope N__law_is_full ["_law_lots_here", "_law_stock", "_law_bounds_here", "_law_types"] (defScope s__law_is_full) := ⟨rfl, rfl, rfl, by decide +kernel, rfl, by decide +kernel, by decide +kernel⟩
def sp_isfull (K : Fg) : Sp := fun vs H Q _ => ∃ (lots : List (List Nat)) (st : List Int) (bl : List (Option Int)) (l : List Nat), AtAll H vs [lstS K (lots.map dNs), dat K (dIs st), dat K (dOs bl), dat K (dNs l)] ∧ LOk st.length lots ∧ bl.length = lots.length ∧ (∀ r ∈ l, r < lots.length) ∧ l.length ≤ 12 ∧ Ret (blS (fullC lots st bl l)) H Q
theorem ok_isfull (T : Bt mg) (D : Df K mg "_law_is_full" s__law_is_full ["_law_lots_here", "_law_stock", "_law_bounds_here", "_law_types"]) (G__law_parts : OkD P w K mg base CX0 1 "_law_parts" ["_law_some"] (sp_parts K)) (G__law_kinds : OkD P w K mg base CX0 1 "_law_kinds" ["_law_lots_here", "_law_types"] (sp_kinds K))
    (G__law_lack : OkD P w K mg base CX0 1 "_law_lack" ["_law_lots_here", "_law_stock", "_law_bounds_here", "_law_types", "_law_kinds_here"] (sp_lack K)) : OkD P w K mg base CX0 2 "_law_is_full" ["_law_lots_here", "_law_stock", "_law_bounds_here", "_law_types"] (sp_isfull K) := by
  refine OkD.of D fun f fd F => F.ok sc_law_is_full (fun vs H Q E ⟨_, _, _, _, h, _⟩ => atLen h) (fun cdv A outer s H vs Q E hr ⟨lots, st, bl, l, h, g, hb, hl, hn, kk⟩ => ?_)
  obtain ⟨x, y, z, p, rfl, hx, hy, hz, hp⟩ := a4 h
  refine ⟨_, (pss_cons (ps_setLc (i := 4) (own := [("_law_part", 5)]) (g := gName 5) (tt := tYes) rfl sc_law_is_full.nd rfl rfl (sw_true rfl rfl rfl (by decide +kernel)) (k_pil K (pe_d G__law_parts hr (pa_cons (pe_d G__law_kinds hr (pa_cons (pv 0) (pa_cons (pv 3) pa_nil))) pa_nil))) (blkOk_by (N := N__law_is_full) (sc := (defScope s__law_is_full)) (by decide +kernel)) (fun _ _ _ _ _ => (pg_name (i := 5) sc_law_is_full.nd rfl (by first | exact Or.inl rfl | exact Or.inr rfl))) (fun _ _ _ _ _ => pts_nil) (fun _ _ _ _ _ => (pe_d G__law_lack hr (pa_cons (pv 0) (pa_cons (pv 1) (pa_cons (pv 2) (pa_cons (pv 3) (pa_cons (pv 5) pa_nil)))))))) (pss_one (ps_ret (pe_not (pe_callB (k_any K) (by rfl) T.b_any (by decide +kernel) (pa_cons (pe_lc (own := [("_law_lack_here", 6)]) (g := gName 6) (tt := tYes) rfl sc_law_is_full.nd (k_pil K (pv 4)) (blkOk_by (N := N__law_is_full) (sc := (defScope s__law_is_full)) (by decide +kernel)) (fun _ _ _ _ _ => (pg_name (i := 6) sc_law_is_full.nd rfl (by first | exact Or.inl rfl | exact Or.inr rfl))) (fun _ _ _ _ _ => pts_nil) (fun _ _ _ _ _ => (pe_and (pe_cmp (pc_notN (pv 6)) rfl) (pe_one (pe_cmpR op_gt (pv 6) pe_int (nomark _)))))) pa_nil)))))), ?_⟩
  have hkl : (kot st.length lots l).length ≤ 8 := Nat.le_trans kot_len g.n8
  have hpl : (partsF (kot st.length lots l)).length ≤ 4096 := by
    rw [parts_len]
    exact Nat.le_trans (Nat.pow_le_pow_right (by decide) hkl) (by decide)
  refine q_set (s := lstS K (((partsF (kot st.length lots l)).map (lackL lots st bl l)).map dO)) (EvS.cast (EvS.map' (partsF (kot st.length lots l)) (fun ks => dO (lackL lots st bl l ks)) (e_lcL (partsF (kot st.length lots l)) dNs (fun _ => true) _ ?_ (by omega) (fun _ => rfl) fun ks v H1 ex hks hv => ⟨t_yes, fun _ => ?_⟩)) (by rw [List.map_map]; rfl)) fun v1 H1 e1 p1 => ?_
  · refine e_call (a_cons (e_call (s := dat K (dNs (kot st.length lots l))) (a_cons (e_var (v := x) rfl hx) (a_cons (e_var (v := p) rfl hp) a_nil)) fun vs H2 pp Q q => ⟨st.length, lots, l, pp, g, hl, hn, q⟩) a_nil) fun vs H2 pp Q q => ⟨_, pp, by omega, q⟩
  · refine e_call (a_cons (e_var (v := x) rfl (Sh.up _ _ _ _ ex hx)) (a_cons (e_var (v := y) rfl (Sh.up _ _ _ _ ex hy)) (a_cons (e_var (v := z) rfl (Sh.up _ _ _ _ ex hz)) (a_cons (e_var (v := p) rfl (Sh.up _ _ _ _ ex hp)) (a_cons (e_var (v := v) rfl hv) a_nil))))) fun vs H2 pp Q q => ⟨lots, st, bl, l, ks, pp, g, hb, hl, hn, fun k hk => kot_lt ((mem_parts hks).subset hk), Nat.le_trans (mem_parts hks).length_le hkl, q⟩
  · refine s_retR (e_notV (EvS.cast (e_anyF ((partsF (kot st.length lots l)).map (lackL lots st bl l)) posO ?_) rfl)) (kk.of e1)
    refine e_lcL ((partsF (kot st.length lots l)).map (lackL lots st bl l)) dO (fun _ => true) _ (e_var (v := v1) rfl p1) (by rw [List.length_map]; omega) (fun _ => rfl) fun o v H2 ex2 ho hv => ⟨t_yes, fun _ => EvS.toB ?_⟩
    cases o with
    | none => exact EvS.cast (e_andV (b := false) (e_notN (e_var (v := v) rfl hv)) fun hc => nomatch hc) rfl
    | some m => exact EvS.cast (e_andV (b := decide (m > 0)) (e_notN (e_var (v := v) rfl hv)) fun _ => e_I0 (g := fun a b => .bl (decide (a > b))) (e_var (v := v) (s := intS m) rfl hv.int_inv) (e_int (i := 0))) (by show blS (true && _) = _; rw [Bool.true_and]; rfl)
end
end K45
/-! The law's own defs: rows. -/
namespace K45
open PySem L2 RZ
/-! ### lists of any shapes -/
def lsS (ss : List Sh) : Sh := ⟨fun v H => ∃ a xs, v = .ref a ∧ H a = some (.lst xs) ∧ AtAll H xs ss, fun _ _ _ e ⟨a, xs, h1, h2, h3⟩ => ⟨a, xs, h1, e a _ h2, h3.up e⟩⟩
theorem AtAll.get {H : Hp} : ∀ {vs : List V} {ss : List Sh} {i : Nat} {v : V} {s : Sh}, AtAll H vs ss → vs[i]? = some v → ss[i]? = some s → s.P v H
  | [], _, _, _, _, _, e, _ => by simp at e
  | _ :: _, [], _, _, _, h, _, _ => h.elim
  | _ :: _, _ :: _, 0, _, _, h, e, e' => by
    have e := Option.some.inj e
    have e' := Option.some.inj e'
    subst e e'
    exact h.1
  | _ :: _, _ :: _, i + 1, _, _, h, e, e' => AtAll.get (i := i) h.2 e e'
theorem AtAll.app {H : Hp} : ∀ {vs ws : List V} {ss ts : List Sh}, AtAll H vs ss → AtAll H ws ts → AtAll H (vs ++ ws) (ss ++ ts)
  | [], _, [], _, _, g => g
  | _ :: _, _, _ :: _, _, h, g => ⟨h.1, AtAll.app h.2 g⟩
  | [], _, _ :: _, _, h, _ => h.elim
  | _ :: _, _, [], _, h, _ => h.elim
section
variable {K : Fg} {σ : L2.St} {H : Hp} {ta tb te tl : TE} {s : Sh} {ss ts : List Sh} {D : Ends} {tu tz : TS}
theorem e_lstS {ta : TA} (h : EvA ta σ H ss) (hl : ss.length ≤ 1000 := by decide) : EvS (tLst ta) σ H (lsS ss) := fun H1 e _ q =>
  h H1 e _ fun vs H2 e2 p => ⟨by rw [atLen p]; exact Nat.le_of_lt (small1000 hl), fun a ha => q _ _ (e2.trans (Evl.Ex.new ha)) ⟨a, vs, rfl, upd_same, p.up (Evl.Ex.new ha)⟩⟩
theorem e_catS (ha : EvS ta σ H (lsS ss)) (hb : EvS tb σ H (lsS ts)) (hl : ss.length + ts.length ≤ 100000) : EvS (tOp rCat ta tb) σ H (lsS (ss ++ ts)) :=
  e_two ha hb fun x y H1 _ px py Q q => by
    obtain ⟨a, xs, rfl, hq, hd⟩ := px
    obtain ⟨b, ys, rfl, hq', hd'⟩ := py
    exact ⟨a, b, xs, ys, rfl, rfl, hq, hq', by rw [atLen hd, atLen hd']; exact Nat.le_trans hl (by decide), fun p hp => q _ _ (Evl.Ex.new hp) ⟨p, _, rfl, upd_same, (hd.app hd').up (Evl.Ex.new hp)⟩⟩
/-- a for over a list that is known -/
theorem s_forLV {g : TG} {a : Addr} {xs : List V} (h : EvS tl σ H (vS (.ref a))) (Pv : Nat → L2.St → Hp → Prop) (hl : ∀ i σ' H', Pv i σ' H' → H' a = some (.lst xs)) (h0 : ∀ H1, Ex H H1 → Pv 0 σ H1)
    (hs : ∀ (i : Nat) w σ' H', xs[i]? = some w → Pv i σ' H' → g w σ' H' fun σ2 H2 => tu { D with nx := Pv (i + 1), ct := Pv (i + 1), bk := D.nx } σ2 H2) (hd : ∀ σ' H', Pv xs.length σ' H' → D.nx σ' H') : tFor (iList K tl) g tu D σ H :=
  h H (Evl.Ex.refl H) _ fun v H1 e pv => ⟨a, pv, ⟨xs, SqL.of (hl 0 _ _ (h0 H1 e))⟩, for_list (xs := xs) Pv (h0 H1 e) (fun i σ' H' _ q => SqL.of (hl i σ' H' q)) hs hd⟩
/-- xs.append(e), of any shape -/
theorem s_appS {l : Addr} {xs : List V} (hl : H l = some (.lst xs)) (ha : EvS ta σ H (vS (.ref l))) (h : EvS te σ H s) (hz : xs.length < 100000)
    (k : ∀ w H1, Ex H H1 → s.P w H1 → D.nx σ (upd H1 l (.lst (xs ++ [w])))) : tDrop (tBM K "list" rAppend ta (tCons te tNil)) D σ H :=
  ha H (Evl.Ex.refl H) _ fun v H1 e1 p1 => by
    have p1 : v = .ref l := p1
    subst p1
    exact ⟨Or.inl ⟨rfl, xs, SqL.of (e1 l _ hl)⟩, h H1 e1 _ fun w H2 e2 p2 => ⟨l, xs, w, rfl, rfl, e2 l _ (e1 l _ hl), Nat.lt_of_lt_of_le hz (by decide), k w H2 (e1.trans e2) p2⟩⟩
/-- a new list in a slot -/
theorem q_setF {i : Nat} {o : HO} (h : EvF te σ H o) (k : ∀ p H1, H p = none → Ex H H1 → H1 p = some o → tz D (σ.set i (some (.ref p))) H1) : tSeq (tAsg te (gName i)) tz D σ H := h H (Evl.Ex.refl H) _ fun p H1 n e kp => k p H1 n e kp
theorem s_parS {i j : Nat} {t1 t2 : TE} {s1 s2 : Sh} (h1 : EvS t1 σ H s1) (h2 : EvS t2 σ H s2)
    (k : ∀ v w H2, Ex H H2 → s1.P v H2 → s2.P w H2 → D.nx ((σ.set i (some v)).set j (some w)) H2) : tPar i j (tCons t1 (tCons t2 tNil)) D σ H :=
  h1 H (Evl.Ex.refl H) _ fun v H1 e1 pv => h2 H1 e1 _ fun w H2 e2 pw => ⟨_, _, rfl, k v w H2 (e1.trans e2) (s1.up _ _ _ e2 pv) pw⟩
/-- a write to what was not there -/
theorem ex_upd {H H' : Hp} {l : Addr} {o : HO} (e : Ex H H') (hl : H l = none) : Ex H (upd H' l o) := fun a u h => by
  rw [upd_ne (fun z => by rw [z, hl] at h; cases h)]
  exact e a u h
end
theorem shaped_dNs (l : List Nat) : SeqAt.shaped (dNs l) = true := by
  have h : ∀ l : List Nat, PyData.canLayAll0 (l.map dN) = true := fun l => by
    induction l with
    | nil => rfl
    | cons n l ih => simp only [List.map_cons, PyData.canLayAll0, ih]; rfl
  unfold SeqAt.shaped
  rw [Bool.and_eq_true, decide_eq_true_eq]
  refine ⟨by unfold dNs; simp only [PyData.canLay0, h], ?_⟩
  have := depth_dN l
  show PyData.depthAll _ + 1 ≤ 64
  omega
theorem nd_upd {K : Fg} {H : Hp} {l : List Nat} {v : V} {la : Addr} {ys : List V} {o : HO} (h : (ndS K l).P v H) (hl : H la = some (.lst ys)) : (ndS K l).P v (upd H la o) := by
  obtain ⟨a, ob, xs, e, h1, h2, h3⟩ := h
  exact ⟨a, ob, xs, e, by rw [upd_ne (fun z => by rw [z, hl] at h1; cases h1)]; exact h1, h2, h3.mono (Gt.upd_lst hl)⟩
theorem nds_upd {K : Fg} {H : Hp} {la : Addr} {ys : List V} {o : HO} (hl : H la = some (.lst ys)) : ∀ {vs : List V} {ls : List (List Nat)}, AtAll H vs (ls.map (ndS K)) → AtAll (upd H la o) vs (ls.map (ndS K))
  | [], [], _ => trivial
  | _ :: _, _ :: _, h => ⟨nd_upd h.1 hl, nds_upd hl h.2⟩
  | [], _ :: _, h => h.elim
  | _ :: _, [], h => h.elim
/-- rows -/
abbrev ndLs (K : Fg) (ls : List (List Nat)) : Sh := lsS (ls.map (ndS K))
theorem extR_len (bl : List (Option Int)) (row : List Nat) : (extR bl row).length ≤ bl.length := by
  unfold extR
  rw [List.length_map]
  refine Nat.le_trans (List.length_filter_le _ _) ?_
  rw [List.length_range']
  omega
theorem flat_len {α β : Type} {f : α → List β} {n : Nat} (h : ∀ a, (f a).length ≤ n) : ∀ l : List α, (l.flatMap f).length ≤ l.length * n
  | [] => by simp
  | a :: l => by
    have := flat_len h l
    have h2 := h a
    rw [List.flatMap_cons, List.length_append, List.length_cons, Nat.add_mul]
    omega
theorem layer_len (bl : List (Option Int)) (hb : bl.length ≤ 5) : ∀ n, (layerR bl n).length ≤ 5 ^ n
  | 0 => Nat.le_refl _
  | n + 1 => by
    have h := layer_len bl hb n
    have h2 := flat_len (fun a => Nat.le_trans (extR_len bl a) hb) (layerR bl n)
    show ((layerR bl n).flatMap (extR bl)).length ≤ _
    rw [Nat.pow_succ]
    omega
theorem layer_row {bl : List (Option Int)} : ∀ {n : Nat} {l : List Nat}, l ∈ layerR bl n → l.length = n ∧ lastO l ≤ bl.length
  | 0, l, h => by
    rw [List.mem_singleton.mp h]
    exact ⟨rfl, Nat.zero_le _⟩
  | n + 1, l, h => by
    obtain ⟨row, h1, h2⟩ := List.mem_flatMap.mp h
    obtain ⟨t, _, h4, _, rfl⟩ := mem_extR.mp h2
    refine ⟨by rw [List.length_append, (layer_row h1).1]; rfl, ?_⟩
    rw [lastO_concat]
    omega
theorem rows_len (bl : List (Option Int)) (hb : bl.length ≤ 5) : ∀ n, n ≤ 4 → (rowsTo bl n).length ≤ 5 ^ (n + 1)
  | 0, _ => by show 1 ≤ 5 ^ 1; decide
  | n + 1, hn => by
    have h := rows_len bl hb n (by omega)
    have h2 := layer_len bl hb (n + 1)
    show (rowsTo bl n ++ layerR bl (n + 1)).length ≤ _
    rw [List.length_append, Nat.pow_succ]
    omega
section
variable {P : Program} {w : World} {K : Fg} {mg : Str → Option Value} {base : Heap}
abbrev s__law_rows : Stmt := topS 68
abbrev N__law_rows : List Str := ["_law_bounds_here", "_law_most", "_law_found", "_law_layer", "_law_turn", "_law_longer", "_law_row", "_law_at"]
theorem sc_law_rows : FnScope N__law_rows ["_law_bounds_here", "_law_most"] (defScope s__law_rows) := ⟨rfl, rfl, rfl, by decide +kernel, rfl, by decide +kernel, by decide +kernel⟩
def sp_rows (K : Fg) : Sp := fun vs H Q _ => ∃ (bl : List (Option Int)) (n : Nat), AtAll H vs [dat K (dOs bl), intS (n : Int)] ∧ bl.length ≤ 5 ∧ n ≤ 4 ∧ Ret (ndLs K (rowsTo bl n)) H Q
theorem ok_rows (T : Bt mg) (D : Df K mg "_law_rows" s__law_rows ["_law_bounds_here", "_law_most"]) : OkD P w K mg base CX0 1 "_law_rows" ["_law_bounds_here", "_law_most"] (sp_rows K) := by
  refine OkD.of D fun f fd F => F.ok sc_law_rows (fun vs H Q E ⟨_, _, h, _⟩ => atLen h) (fun cdv A outer s H vs Q E hr ⟨bl, n, h, hb, hn, kk⟩ => ?_)
  obtain ⟨x, y, rfl, hx, hy⟩ := a2 h
  refine ⟨_, (pss_cons (ps_par (i := 2) (j := 3) (by rfl) sc_law_rows.nd rfl rfl (by decide) rfl rfl (pa_cons (pe_lst (pa_cons (k_tupF pa_nil) pa_nil)) (pa_cons (pe_lst (pa_cons (k_tupF pa_nil) pa_nil)) pa_nil)) (by rfl)) (pss_cons (ps_for PassesOwn.never rfl (pi_range1 rfl T.b_range (pa_cons (pv 1) pa_nil)) (pg_name (i := 4) sc_law_rows.nd rfl (by first | exact Or.inl rfl | exact Or.inr rfl)) (pss_cons (ps_set (i := 5) sc_law_rows.nd rfl (by first | exact Or.inl rfl | exact Or.inr rfl) (pe_lst pa_nil)) (pss_cons (ps_for PassesOwn.never rfl (k_pil K (pv 3)) (pg_name (i := 6) sc_law_rows.nd rfl (by first | exact Or.inl rfl | exact Or.inr rfl)) (pss_one (ps_for PassesOwn.never rfl (pi_range2 rfl T.b_range (pa_cons (pe_ifExp (pt_cmpR (k_neD K hr.units) (pv 6) (k_tupF pa_nil) (nomark _)) (pe_ix (k_ix K) (pv 6) (pe_un un_neg pe_int) (fun _ _ => rfl)) pe_int) (pa_cons (pe_callB (k_len K) (by rfl) T.b_len (by decide +kernel) (pa_cons (pv 0) pa_nil)) pa_nil))) (pg_name (i := 7) sc_law_rows.nd rfl (by first | exact Or.inl rfl | exact Or.inr rfl)) (pss_one (ps_if (PW.pt (pw_or (pt_cmp (pc_isN (pe_ix (k_ix K) (pv 0) (pv 7) (fun _ _ => rfl))) rfl) (pw_or1 (pt_cmpR op_lt (k_cnt K hr.units (pv 6) (pa_cons (pv 7) pa_nil)) (pe_ix (k_ix K) (pv 0) (pv 7) (fun _ _ => rfl)) (nomark _))))) (pss_one (ps_expr (pe_bm PySem.F.plainAttrs_list PySem.F.slot_list_append PySem.F.type_list_append mt_append (pv 5) (pa_cons (pe_op (k_catF K) (pv 6) (k_tupF (pa_cons (pv 7) pa_nil))) pa_nil)))) pss_nil))))) (pss_one (ps_par (i := 2) (j := 3) (by rfl) sc_law_rows.nd rfl rfl (by decide) rfl rfl (pa_cons (pe_op k_cat (pv 2) (pv 5)) (pa_cons (pv 5) pa_nil)) (by rfl)))))) (pss_one (ps_ret (pv 2))))), ?_⟩
  have h1 : EvS (tLst (tCons (tTupF tNil) tNil)) (L2.start N__law_rows [x, y]) H (ndLs K [[]]) := e_lstS (ss := [ndS K []]) (a_cons (e_tupF (l := []) a_nil) a_nil) (by show 1 ≤ 1000; decide)
  refine q_parS h1 h1 fun v1 v2 H1 e1 p1 p2 => ?_
  have sl0 : Sl 8 [x, y] (((L2.start N__law_rows [x, y]).set 2 (some v1)).set 3 (some v2)) := ⟨rfl, fun i v e => by
    match i, e with
    | 0, e => exact congrArg some e
    | 1, e => exact congrArg some e
    | i + 2, e => cases e⟩
  refine q_for (s_forR1 (a_cons (sl0.var (v := y) (s := intS (n : Int)) rfl hy) a_nil) (by omega) fun H2 e2 => ⟨fun i σ' H' => Sl 8 [x, y] σ' ∧ Ex H H' ∧ (∃ v, σ'[2]? = some (some v) ∧ (ndLs K (rowsTo bl i)).P v H') ∧ ∃ v, σ'[3]? = some (some v) ∧ (ndLs K (layerR bl i)).P v H',
    ⟨sl0, e1.trans e2, ⟨v1, rfl, Sh.up _ _ _ _ e2 p1⟩, v2, rfl, Sh.up _ _ _ _ e2 p2⟩, ?_, ?_⟩)
  · rintro i σ' H0 hi ⟨sl, ex0, ⟨vf, h2, pf⟩, vl, h3, pl⟩
    have hi : i < n := by omega
    have sl4 : Sl 8 [x, y] (σ'.set 4 (some (.int (i : Int)))) := sl.set (by show 2 ≤ 4; decide)
    have h2' : (σ'.set 4 (some (V.int (i : Int))))[2]? = some (some vf) := sl_ne (by decide) h2
    have h3' : (σ'.set 4 (some (V.int (i : Int))))[3]? = some (some vl) := sl_ne (by decide) h3
    generalize σ'.set 4 (some (V.int (i : Int))) = σ4 at sl4 h2' h3'
    refine q_setF f_lst0 fun la H3 hla e3 k3 => ?_
    obtain ⟨wa, ws, ewl, hwa, hws⟩ := pl
    subst ewl
    have hll := layer_len bl hb i
    have hpow : 5 ^ i ≤ 625 := Nat.le_trans (Nat.pow_le_pow_right (by decide) (show i ≤ 4 by omega)) (by decide)
    have hwl : ws.length = (layerR bl i).length := by rw [atLen hws, List.length_map]
    have sl5 : Sl 8 [x, y] (σ4.set 5 (some (.ref la))) := sl4.set (by show 2 ≤ 5; decide)
    have h25 : (σ4.set 5 (some (.ref la)))[2]? = some (some vf) := sl_ne (by decide) h2'
    have h35 : (σ4.set 5 (some (.ref la)))[3]? = some (some (.ref wa)) := sl_ne (by decide) h3'
    have h55 : (σ4.set 5 (some (.ref la)))[5]? = some (some (.ref la)) := sl_same sl4.len (by decide)
    generalize σ4.set 5 (some (.ref la)) = σ5 at sl5 h25 h35 h55
    refine q_for (s_forLV (a := wa) (xs := ws) (e_var (v := .ref wa) h35 rfl) (fun j σ' H' => Sl 8 [x, y] σ' ∧ Ex H0 H' ∧ σ'[2]? = some (some vf) ∧ σ'[5]? = some (some (.ref la)) ∧ ∃ xs, H' la = some (.lst xs) ∧ AtAll H' xs ((((layerR bl i).take j).flatMap (extR bl)).map (ndS K)))
      (fun j σ' H' q => q.2.1 _ _ hwa) (fun H4 e4 => ⟨sl5, e3.trans e4, h25, h55, [], e4 _ _ k3, trivial⟩) ?_ ?_)
    · rintro j u σ' H4 hu ⟨sl, ex4, h26, h56, xs, hxs, hat⟩
      have hj : j < (layerR bl i).length := by rw [← hwl]; exact (List.getElem?_eq_some_iff.mp hu).1
      obtain ⟨row, hrow⟩ : ∃ row, (layerR bl i)[j]? = some row := ⟨_, List.getElem?_eq_getElem hj⟩
      have pu : (ndS K row).P u H0 := hws.get hu (by rw [List.getElem?_map, hrow]; rfl)
      obtain ⟨hrl, hrt⟩ := layer_row (List.mem_of_getElem? hrow)
      have sl6 : Sl 8 [x, y] (σ'.set 6 (some u)) := sl.set (by show 2 ≤ 6; decide)
      have h2' : (σ'.set 6 (some u))[2]? = some (some vf) := sl_ne (by decide) h26
      have h5' : (σ'.set 6 (some u))[5]? = some (some (.ref la)) := sl_ne (by decide) h56
      have h6' : (σ'.set 6 (some u))[6]? = some (some u) := sl_same sl.len (by decide)
      show tFor _ _ _ _ (σ'.set 6 (some u)) H4
      generalize σ'.set 6 (some u) = σ6 at sl6 h2' h5' h6'
      have hfl : ((((layerR bl i).take j).flatMap (extR bl)).map (ndS K)).length ≤ 625 * 5 := by
        rw [List.length_map]
        refine Nat.le_trans (flat_len (fun a => Nat.le_trans (extR_len bl a) hb) _) (Nat.mul_le_mul_right 5 ?_)
        have := List.length_take_le' j (layerR bl i)
        omega
      have er : EvS (tVar 6) σ6 H4 (ndS K row) := e_var (v := u) h6' (Sh.up _ _ _ _ ex4 pu)
      have elo : EvS (tIf (tTest (tOp (rNeD K) (tVar 6) (tTupF tNil))) (tOp (rIx K) (tVar 6) (tUn (rU fun i => .int (-i)) (tC (.int 1)))) (tC (.int 0))) σ6 H4 (intS (lastO row : Int)) := by
        refine e_if (b := !decide (row = [])) (t_test (EvS.cast (e_neD er.nd (EvS.nd (e_tupF (l := []) a_nil)) ?_ rfl) ?_)) (fun hc => ?_) (fun hc => ?_)
        · exact shaped_dNs row
        · cases row <;> rfl
        · have hne : row ≠ [] := fun z => by rw [z] at hc; cases hc
          refine EvS.toI (e_ixTm er.nd (e_un e_int) ?_)
          rw [List.getLast?_map]
          unfold lastO
          rw [List.getLast?_eq_some_getLast hne]
          rfl
        · have he : row = [] := by
            cases row with
            | nil => rfl
            | cons => cases hc
          rw [he]
          exact e_int
      refine s_forR2 (a_cons elo (a_cons (EvS.cast (e_len (a_cons (sl6.var (v := x) rfl (Sh.up _ _ _ _ (ex0.trans ex4) hx)) a_nil)) (by rw [List.length_map])) a_nil)) (by omega) (by omega) fun H5 e5 => ⟨fun m σ' H' => Sl 8 [x, y] σ' ∧ Ex H0 H' ∧ σ'[2]? = some (some vf) ∧ σ'[5]? = some (some (.ref la)) ∧ σ'[6]? = some (some u) ∧ ∃ xs, H' la = some (.lst xs) ∧
          AtAll H' xs (((((layerR bl i).take j).flatMap (extR bl)) ++ ((List.range' (lastO row) m).filter (okR bl row)).map fun t => row ++ [t]).map (ndS K)),
        ⟨sl6, ex4.trans e5, h2', h5', h6', xs, e5 _ _ hxs, ?_⟩, ?_, ?_⟩
      · show AtAll H5 xs (((((layerR bl i).take j).flatMap (extR bl)) ++ []).map (ndS K))
        rw [List.append_nil]
        exact hat.up e5
      · rintro m σ' H6 hm ⟨sl, ex6, h27, h57, h67, ys, hys, hay⟩
        have ht : lastO row + m < bl.length := by omega
        have sl7 : Sl 8 [x, y] (σ'.set 7 (some (.int ((lastO row + m : Nat) : Int)))) := sl.set (by show 2 ≤ 7; decide)
        have h28 : (σ'.set 7 (some (V.int ((lastO row + m : Nat) : Int))))[2]? = some (some vf) := sl_ne (by decide) h27
        have h58 : (σ'.set 7 (some (V.int ((lastO row + m : Nat) : Int))))[5]? = some (some (.ref la)) := sl_ne (by decide) h57
        have h68 : (σ'.set 7 (some (V.int ((lastO row + m : Nat) : Int))))[6]? = some (some u) := sl_ne (by decide) h67
        have h78 : (σ'.set 7 (some (V.int ((lastO row + m : Nat) : Int))))[7]? = some (some (.int ((lastO row + m : Nat) : Int))) := sl_same sl.len (by decide)
        show tIfS _ _ _ _ (σ'.set 7 (some (V.int ((lastO row + m : Nat) : Int)))) H6
        generalize σ'.set 7 (some (V.int ((lastO row + m : Nat) : Int))) = σ7 at sl7 h28 h58 h68 h78
        have hrange : List.range' (lastO row) (m + 1) = List.range' (lastO row) m ++ [lastO row + m] := List.range'_1_concat
        generalize lastO row + m = t at ht h78 hrange
        have ebl : EvS (tOp (rIx K) (tVar 0) (tVar 7)) σ7 H6 (dat K (dO (bnf bl t))) := e_ixT (sl7.var (v := x) rfl (Sh.up _ _ _ _ (ex0.trans ex6) hx)) (e_var (v := .int (t : Int)) (s := intS (t : Int)) h78 rfl) (bnf_get ht)
        have er7 : EvS (tVar 6) σ7 H6 (ndS K row) := e_var (v := u) h68 (Sh.up _ _ _ _ ex6 pu)
        have et : EvS (tVar 7) σ7 H6 (intS (t : Int)) := e_var (v := .int (t : Int)) h78 rfl
        have hyl : ys.length ≤ 4000 := by
          rw [atLen hay, List.length_map, List.length_append, List.length_map]
          rw [List.length_map] at hfl
          have h5 := List.length_filter_le (okR bl row) (List.range' (lastO row) m)
          rw [List.length_range'] at h5
          omega
        have htest : EvT (tOr (tB (tIsN (tOp (rIx K) (tVar 0) (tVar 7)))) (tTest (tOp (rI0 fun i j => .bl (decide (i < j))) (tCnt K (tVar 6) (tCons (tVar 7) tNil)) (tOp (rIx K) (tVar 0) (tVar 7))))) σ7 H6 (okR bl row t) := by
          unfold okR
          cases hbt : bnf bl t with
          | none =>
            rw [hbt] at ebl
            exact (t_or (b := false) (t_B (e_isN ebl)) fun hc => nomatch hc).to rfl
          | some b =>
            rw [hbt] at ebl
            exact (t_or (t_B (e_isN ebl)) fun hc => t_test (e_I0 (g := fun i j => .bl (decide (i < j))) (e_count er7 et) ebl.toI)).to rfl
        refine s_when htest (fun hc H7 e7 => ?_) (fun hc H7 e7 => ?_)
        · refine s_appS (s := ndS K (row ++ [t])) (xs := ys) (e7 _ _ hys) (e_var (v := .ref la) h58 rfl) (e_catF (er7.mono e7) (e_tupF (l := [t]) (a_cons (et.mono e7) a_nil) (by show 1 ≤ 1000; decide)) (by simp) (by rw [hrl, List.length_singleton]; omega)) (by omega) fun v H8 e8 pv => ?_
          have hys8 : H8 la = some (.lst ys) := e8 _ _ (e7 _ _ hys)
          refine ⟨sl7, ex_upd (ex6.trans (e7.trans e8)) hla, h28, h58, h68, ys ++ [v], upd_same, ?_⟩
          have ef : [t].filter (okR bl row) = [t] := by rw [List.filter_cons, if_pos hc]; rfl
          have e9 : ∀ (A : List (List Nat)) (B : List Nat), A ++ (B ++ [t]).map (fun t => row ++ [t]) = (A ++ B.map fun t => row ++ [t]) ++ [row ++ [t]] := fun A B => by rw [List.map_append, List.append_assoc]; rfl
          rw [hrange, List.filter_append, ef, e9, List.map_append]
          exact AtAll.app (nds_upd hys8 (hay.up (e7.trans e8))) ⟨nd_upd pv hys8, trivial⟩
        · refine ⟨sl7, ex6.trans e7, h28, h58, h68, ys, e7 _ _ hys, ?_⟩
          rw [hrange, List.filter_append, show [t].filter (okR bl row) = [] by rw [List.filter_cons, if_neg (by rw [hc]; decide)]; rfl, List.append_nil]
          exact hay.up e7
      · rintro σ' H6 ⟨sl, ex6, h27, h57, h67, ys, hys, hay⟩
        rw [show ((bl.length : Int) - (lastO row : Int)).toNat = bl.length - lastO row by omega] at hay
        refine ⟨sl, ex6, h27, h57, ys, hys, ?_⟩
        rw [List.take_add_one, hrow, Option.toList_some, List.flatMap_append, List.flatMap_singleton]
        exact hay
    · rintro σ' H6 ⟨sl, ex6, h27, h57, ys, hys, hay⟩
      rw [hwl, List.take_length] at hay
      have hll2 := layer_len bl hb (i + 1)
      have hpow2 : 5 ^ (i + 1) ≤ 625 := Nat.le_trans (Nat.pow_le_pow_right (by decide) (show i + 1 ≤ 4 by omega)) (by decide)
      have hrl := rows_len bl hb i (by omega)
      have hpow3 : 5 ^ (i + 1) ≤ 3125 := by omega
      refine s_parS (s1 := ndLs K (rowsTo bl (i + 1))) (s2 := ndLs K (layerR bl (i + 1))) (EvS.cast (e_catS (ts := (layerR bl (i + 1)).map (ndS K)) (e_var (v := vf) h27 (Sh.up _ _ _ _ ex6 pf)) (e_var (v := .ref la) h57 ⟨la, ys, rfl, hys, hay⟩) (by rw [List.length_map, List.length_map]; omega)) (by rw [← List.map_append]; rfl)) (e_var (v := .ref la) h57 ⟨la, ys, rfl, hys, hay⟩) fun v w H7 e7 p1 p2 => ?_
      have sl3 : Sl 8 [x, y] ((σ'.set 2 (some v)).set 3 (some w)) := (sl.set (Nat.le_refl _)).set (by show 2 ≤ 3; decide)
      exact ⟨sl3, ex0.trans (ex6.trans e7), ⟨v, sl_ne (by decide) (sl_same sl.len (by decide)), p1⟩, w, sl_same (n := 8) (by rw [List.length_set]; exact sl.len) (by decide), p2⟩
  · rintro σ' H' ⟨sl, ex, ⟨vf, h2, pf⟩, _⟩
    rw [Int.toNat_natCast] at pf
    exact (s_retR (D := { nx := fun _ H' => Q .non H', rt := Q }) (te := tVar 2) (e_var (v := vf) h2 pf) (kk.of ex) : tRet (tVar 2) { nx := fun _ H' => Q .non H', rt := Q } σ' H')
end
end K45
/-! Dicts whose keys are tuples, each value True. -/
namespace K45
open PySem PySem.Spec PySem.W PyProof.Rows PySem.Calls L2 RZ
def kyI (l : List Int) : List L2.Key := l.map Sum.inl
theorem kyI_kV (l : List Int) : (kyI l).map kV = l.map V.int := by unfold kyI; rw [List.map_map]; rfl
theorem kyI_inj : ∀ {a b : List Int}, kyI a = kyI b → a = b
  | [], [], _ => rfl
  | [], _ :: _, h => by cases h
  | _ :: _, [], h => by cases h
  | x :: a, y :: b, h => by
    have h1 := (List.cons.inj h).1
    have h2 := kyI_inj (List.cons.inj h).2
    rw [Sum.inl.inj h1, h2]
abbrev mkT (ks : List (List Int)) : List (List L2.Key × V) := ks.map fun k => (kyI k, V.bl true)
theorem putK_mk (ks : List (List Int)) (k : List Int) : putK (mkT ks) (kyI k) (.bl true) = mkT (insL ks k) := by
  unfold putK insL
  have h : ((mkT ks).any fun kv => decide (kv.1 = kyI k)) = decide (k ∈ ks) := by
    unfold mkT
    rw [List.any_map]
    by_cases z : k ∈ ks
    · rw [decide_eq_true z, List.any_eq_true]
      exact ⟨k, z, decide_eq_true rfl⟩
    · rw [decide_eq_false z, List.any_eq_false]
      intro a ha e
      have e := of_decide_eq_true e
      exact z (kyI_inj e ▸ ha)
  rw [h]
  by_cases z : k ∈ ks
  · rw [if_pos (decide_eq_true z), if_pos z]
    unfold mkT
    rw [List.map_map]
    refine List.map_congr_left fun a _ => ?_
    show (if kyI a = kyI k then (kyI a, V.bl true) else (kyI a, V.bl true)) = (kyI a, V.bl true)
    split <;> rfl
  · rw [if_neg (by rw [decide_eq_false z]; decide), if_neg z]
    unfold mkT
    rw [List.map_append]
    rfl
theorem foldl_insL : ∀ (ks acc : List (List Int)), (acc ++ ks).Nodup → ks.foldl insL acc = acc ++ ks
  | [], acc, _ => by rw [List.append_nil]; rfl
  | k :: ks, acc, h => by
    have hk : k ∉ acc := fun z => (List.nodup_append.mp h).2.2 k z k List.mem_cons_self rfl
    show ks.foldl insL (insL acc k) = _
    have e : insL acc k = acc ++ [k] := by unfold insL; rw [if_neg hk]
    rw [e, foldl_insL ks (acc ++ [k]) (by rw [List.append_assoc]; exact h), List.append_assoc]
    rfl
/-! ### {t: e} -/
/-- a dict with one key, a tuple -/
def tDispT (te tv : TE) : TE := fun σ H Q => ∀ p, H p = none → tPairs [(te, tv)] σ (upd H p (.dT [])) fun ps H2 => H2 p = some (.dT []) ∧ ∃ b k y, ps = [(.ref b, y)] ∧ H2 b = some (.tup (k.map kV)) ∧ Q (.ref p) (upd H2 p (.dT [(k, y)]))
theorem pe_dispT {X : Cx} {pos : Pos} {k v : Expr} {te tv : TE} (hu : X.A.units + 1 < cLine) (hk : PE X k te) (hv : PE X v tv) : PE X (.Dict [some k] [v] pos) (tDispT te tv) := by
  refine ⟨fun pins s sl hp Q J q => ?_⟩
  have hn := J.hok.fresh (Nat.le_refl s.heap.objs.size)
  have J1 := J.laid (a := s.heap.objs.size) (o := .dT []) (h' := s.heap.push { cls := .type "dict", data := .dict #[] }) (t' := s.toks) (fun _ _ q => Heap.get?_push_of_some _ q) (Nat.le_refl _) (dt_empty s.heap J.big)
  rw [arm_eval_Dict, zip_pairTrees [some k] [v] X.env pos rfl rfl, dictDisplay_pairs _ (by unfold pairTrees; simp) (by unfold pairTrees; simp [pairTrees])]
  refine wpAny_bind (wpAny_standAt (wpAny_bind (wpAny_subDictH (knd := tupleKind (mixKind X.prog X.w)) (Q := fun d s' => wpAny (model X.prog X.w) X.A (pure (Value.ref d)) (EP X pins sl Q) X.xe s') (show X.A.units < cLine by omega) (by simp [pairTrees]) ?_)))
  refine thn ((pps_cons hk hv pps_nil).run pins _ sl _ _ J1 (q _ hn)) fun ws s2 ⟨ps, H2, J2, rel, e1, b, kk, y, e2, e3, q2⟩ => ?_
  subst e2
  cases rel with
  | @cons pp wp ps2 ws2 r rr =>
    cases rr
    obtain ⟨r1, r2⟩ := r
    obtain ⟨w1, w2⟩ := wp
    cases (show w1 = Value.ref b from r1)
    obtain ⟨_, hd, xs, rel0, dd⟩ := dt_of J2.hok e1
    cases rel0
    refine ⟨[(kk, b, w2)], ⟨rfl, rfl, key_of J2.hok e3, trivial⟩, dd, fun h' tk dd' hs => wpAny_pure ⟨.ref s.heap.objs.size, _, ?_, rfl, q2⟩⟩
    obtain ⟨ob, es, ep, hq, h2, h3, h4, _, h5⟩ := dd'
    refine d_write J2 (by rw [e1]; exact True.intro) hs ⟨ob, hq⟩ ⟨Nat.le_of_lt (small1000 (show 1 ≤ 1000 by decide)), hd, [(kk, b, w2)], .cons ⟨rfl, ?_, r2⟩ .nil, ob, es, ep, hq, h2, h3, h4, h5⟩
    rw [upd_ne (ne_of e3 e1 (fun z => nomatch z))]
    exact e3
/-! ### list(d.items()) -/
section
variable {prog : Program} {w : World} {A : Around} {E : Value → Shared → Prop} {s : Shared} {vw d : Addr} {es : Array DictEntry} {ep : Nat}
theorem itT_init {R : Result → Shared → Prop} (calm : A.handled = none) (hw : s.heap.IsItemsView vw d) (raw : DT.Raw s.heap d es ep) (S : Addr) (nv : S ≠ vw) (nd : d ≠ S) (hS : s.heap.get? S = some { cls := .type "list", data := .seq #[] }) (hn : es.size ≤ sizeLine)
    (ends : ∀ h2 tk acc c as, (∀ b o, b ≠ S → s.heap.get? b = some o → h2.get? b = some o) → h2.get? S = some { cls := .type "list", dict := none, data := .seq acc c, slots := #[] } → as.length = es.size → DT.Made es S h2 as → acc.toList = as.map Value.ref → R (.ok (.ret .none)) { s with heap := h2, toks := tk }) :
    wpAny (model prog w) A.in1 (Builtin.«list.__init__» ⟨[.ref S, .ref vw], []⟩)
      (fun fin s2 => match fin with | .done f => R (.ok f) s2 | .again c2 => c2.quiet = true ∧ codeAny (model prog w) A c2 R s2) (fun e s2 => R (.error e) s2) s := by
  show wpAny _ _ (Builtin.List.listItems (.ref S) >>= fun old => Builtin.List.listUpdate (.ref S) (fun _ => #[]) >>= fun _ => letGo old.toList.reverse >>= fun _ => Builtin.List.listExtendWith (.ref S) (.ref vw) .none) _ _ s
  refine wpAny_bind ?_
  unfold Builtin.List.listItems
  refine wpAny_bind (wpAny_seqItems hS rfl (wpAny_pure ?_))
  refine wpAny_bind (show wpAny _ _ (updateSeq S (fun _ => #[])) _ _ s from ?_)
  refine wpAny_updateSeq hS rfl ?_
  have at2 := Heap.get?_update_self (Obj.mapSeq (fun _ => (#[] : Array Value))) hS rfl
  have off : ∀ b o, b ≠ S → s.heap.get? b = some o → (s.heap.update S (Obj.mapSeq (fun _ => (#[] : Array Value)))).get? b = some o := fun b o nb z => (Heap.get?_update_other _ _ (Ne.symm nb)).trans z
  refine wpAny_bind (wpAny_letGo ?_)
  obtain ⟨ov, hov, rest⟩ := hw
  exact DT.extI (ep := ep) calm ⟨ov, off vw ov nv.symm hov, rest⟩ (raw.at' fun o z => off d o nd z) S nv nd .none _ at2 (fun h2 tk acc c as kp hS2 hl made hacc => ends h2 tk acc c as (fun b o nb z => kp b o nb (off b o nb z)) hS2 hl (made.low (Nat.le_of_lt (Heap.lt_size at2))) hacc) hn
theorem itT_call {Q : Value → Shared → Prop} (calm : A.handled = none) (hw : s.heap.IsItemsView vw d) (raw : DT.Raw s.heap d es ep) (hn : es.size ≤ sizeLine)
    (ends : ∀ h2 tk acc c as, (∀ b o, s.heap.get? b = some o → h2.get? b = some o) → h2.get? s.heap.objs.size = some { cls := .type "list", dict := none, data := .seq acc c, slots := #[] } → as.length = es.size → DT.Made es s.heap.objs.size h2 as → acc.toList = as.map Value.ref → Q (.ref s.heap.objs.size) { s with heap := h2, toks := tk }) :
    wpAny (model prog w) A (call (.type "list") [.ref vw]) Q E s := by
  refine callType_codes (Q₁ := fun ob s2 => ob = .ref s.heap.objs.size ∧ s2 = { s with heap := s.heap.push { cls := .type "list", data := .seq #[] } }) PySem.F.called_list (PySem.F.typeCall_list_1 _) PySem.F.entry_list_init (code_list_new _ ⟨rfl, rfl⟩) fun ob s2 hob => ?_
  obtain ⟨rfl, rfl⟩ := hob
  have at0 : (s.heap.push { cls := .type "list", data := .seq #[] }).get? s.heap.objs.size = some { cls := .type "list", data := .seq #[] } := Heap.get?_push_size _ rfl
  have lv : vw < s.heap.objs.size := let ⟨_, ho, _⟩ := hw; Heap.lt_size ho
  have ld : d < s.heap.objs.size := raw.lt
  obtain ⟨ov, hov, rest⟩ := hw
  refine ⟨⟨_, at0, rfl⟩, PySem.F.args_list_init_2 _ _, itT_init (ep := ep) (A := A.in1) calm ⟨ov, Heap.get?_push_of_some _ hov, rest⟩ (raw.push _) _ (Nat.ne_of_gt lv) (Nat.ne_of_lt ld) at0 hn fun h2 tk acc c as kp hS2 hl made hacc => ?_⟩
  exact ⟨rfl, ends h2 tk acc c as (fun b o z => kp b o (Nat.ne_of_lt (Heap.lt_size z)) (Heap.get?_push_of_some _ z)) hS2 hl made hacc⟩
end
/-! ### .. told by values -/
def putP : Hp → List Addr → List Addr → Hp
  | H, t :: ts, b :: bs => putP (upd H t (.tup [.ref b, .bl true])) ts bs
  | H, _, _ => H
theorem putP_off {x : Addr} : ∀ (ts bs : List Addr) (H : Hp), x ∉ ts → putP H ts bs x = H x
  | [], _, _, _ => rfl
  | _ :: _, [], _, _ => rfl
  | t :: ts, b :: bs, H, h => (putP_off ts bs _ fun z => h (List.mem_cons_of_mem _ z)).trans (upd_ne fun z => h (by rw [z]; exact List.mem_cons_self))
theorem putP_at : ∀ (ts bs : List Addr) (H : Hp), ts.length = bs.length → ts.Nodup → Paired (fun (t b : Addr) => putP H ts bs t = some (.tup [.ref b, .bl true])) ts bs
  | [], [], _, _, _ => .nil
  | [], _ :: _, _, h, _ => nomatch h
  | _ :: _, [], _, h, _ => nomatch h
  | t :: ts, b :: bs, H, h, hn => by
    obtain ⟨n1, n2⟩ := List.nodup_cons.mp hn
    exact .cons ((putP_off ts bs (upd H t (.tup [.ref b, .bl true])) n1).trans upd_same) (putP_at ts bs _ (Nat.succ.inj h) n2)
section
variable {X : Cx}
theorem itT_laid {pins : List (Addr × Obj)} {sl : L2.St} {H : Hp} {s : Shared} {h2 : Heap} {tk : Nat} {ks : List (List Int)} {xs : List (List L2.Key × Addr × Value)} {acc : Array Value} {c : Nat} {ts : List Addr} {es : Array DictEntry} (J : Inv X pins sl H s) (hz : ks.length ≤ sizeLine) (kt : KT H (mkT ks) xs)
    (he : es.toList = xs.map (entryOfKey (tupleKind (mixKind X.prog X.w)))) (kp : ∀ b o, s.heap.get? b = some o → h2.get? b = some o) (hS : h2.get? s.heap.objs.size = some { cls := .type "list", dict := none, data := .seq acc c, slots := #[] }) (hl : ts.length = es.size) (made : DT.Made es s.heap.objs.size h2 ts) (hacc : acc.toList = ts.map Value.ref) :
    ∃ H2 : Hp, Evl.Ex H H2 ∧ H s.heap.objs.size = none ∧ H2 s.heap.objs.size = some (.lst (ts.map V.ref)) ∧ Paired (fun (t b : Addr) => H2 t = some (.tup [.ref b, .bl true])) ts (xs.map fun x => x.2.1) ∧ Inv X pins sl H2 { s with heap := h2, toks := tk } := by
  have lx : es.size = xs.length := size_of_entries he
  have lk : (mkT ks).length = xs.length := Paired.length kt
  rw [List.length_map] at lk
  have noS : s.heap.objs.size ∉ ts := fun z => Nat.lt_irrefl _ (made.above _ z)
  have uniq : ts.Nodup := made.rise.imp fun {a b} (h : a < b) => Nat.ne_of_lt h
  have fresh : ∀ t ∈ ts, H t = none := fun t ht => J.hok.fresh (Nat.le_of_lt (made.above t ht))
  have freshS : H s.heap.objs.size = none := J.hok.fresh (Nat.le_refl _)
  have lt : ts.length = (xs.map fun x => x.2.1).length := by rw [List.length_map]; omega
  have pairs := putP_at ts (xs.map fun x => x.2.1) (upd H s.heap.objs.size (.lst (ts.map V.ref))) lt uniq
  generalize hH2 : putP (upd H s.heap.objs.size (.lst (ts.map V.ref))) ts (xs.map fun x => x.2.1) = H2 at pairs
  have off : ∀ b, b ∉ ts → b ≠ s.heap.objs.size → H2 b = H b := fun b n1 n2 => by rw [← hH2, putP_off _ _ _ n1, upd_ne n2]
  have atS : H2 s.heap.objs.size = some (.lst (ts.map V.ref)) := by rw [← hH2, putP_off _ _ _ noS, upd_same]
  have ex : Evl.Ex H H2 := fun b u z => by
    rw [off b (fun q => by rw [fresh b q] at z; cases z) (fun q => by rw [q, freshS] at z; cases z)]
    exact z
  refine ⟨H2, ex, freshS, atS, pairs, ?_⟩
  refine J.call' (ch := []) rfl ⟨fun b o q _ _ _ => kp b o q, fun b o q _ _ _ => ⟨o.slots, kp b o q⟩, fun b o q n _ => ?_, fun b o q _ => ⟨o, kp b o q⟩, fun b ys q => ex b _ q, fun b o u q => ex b _ q, fun b ps q => ⟨#[], by rw [ex b _ q]; simp⟩⟩ (fun b u q => ?_) J.bare fun b z => by simp at z
  · have lo := Heap.lt_size q
    rw [off b (fun z => absurd (made.above b z) (Nat.not_lt.mpr (Nat.le_of_lt lo))) (Nat.ne_of_lt lo)]
    exact n
  · by_cases m : b ∈ ts
    · obtain ⟨j, kb, f1, f2, f3⟩ := LiI.paired_ix pairs m
      rw [f3] at q
      cases q
      obtain ⟨e, g1, g2⟩ := made.pairs j b f1
      rw [entry_at he j] at g1
      rw [List.getElem?_map] at f2
      cases hx : xs[j]? with
      | none => rw [hx] at f2; cases f2
      | some x =>
        rw [hx] at f2 g1
        have f2 : x.2.1 = kb := Option.some.inj f2
        have g1 : entryOfKey (tupleKind (mixKind X.prog X.w)) x = e := Option.some.inj g1
        subst f2 g1
        have hj : j < (mkT ks).length := by
          have := (List.getElem?_eq_some_iff.mp hx).1
          rw [List.length_map]; omega
        obtain ⟨y, hy, r1, r2, r3⟩ := LiI.paired_get kt (List.getElem?_eq_getElem hj)
        rw [hx] at hy
        have hy := Option.some.inj hy
        subst hy
        have r4 : RelV (.bl true) x.2.2 := by
          rw [List.getElem_map] at r3
          exact r3
        exact ⟨by show 2 ≤ sizeLine; decide, [.ref x.2.1, x.2.2], .cons rfl (.cons r4 .nil), ⟨_, g2, rfl, _, rfl⟩⟩
    · by_cases m2 : b = s.heap.objs.size
      · rw [m2] at q ⊢
        rw [atS] at q
        cases q
        exact ⟨by rw [List.length_map]; omega, acc.toList, c, by rw [hacc]; exact LiI.vals_refs ts, by rw [Array.toArray_toList]; exact hS⟩
      · rw [off b m m2] at q
        exact (J.hok b u q).stay (fun x v _ y => kp x v y) (fun x y => ex x _ y) fun x ys y => ex x _ y
/-- list(v), v the view of the items -/
def rListV : List V → Hp → VK → Prop := fun vs H Q => ∃ (p d : Addr) (ks : List (List Int)), vs = [.ref p] ∧ H p = some (L2.DX.itemsO p d) ∧ H d = some (.dT (mkT ks)) ∧
  ∀ (H2 : Hp) (q : Addr) (ts bs : List Addr), Evl.Ex H H2 → H q = none → H2 q = some (.lst (ts.map V.ref)) → IsKeys H (mkT ks) bs → Paired (fun (t b : Addr) => H2 t = some (.tup [.ref b, .bl true])) ts bs → Q (.ref q) H2
theorem k_listV (hc : X.calm = true := by rfl) : CallR X (.type "list") rListV := by
  intro pins s sl hp vs us Q J r h
  obtain ⟨p, d, ks, rfl, hv, hd, q⟩ := h
  obtain ⟨u, rfl, rx⟩ := r.one
  cases rx
  obtain ⟨z, hs, xs, kt, o, es, ep, ho, hx, hdt, he, hn⟩ := (show ObjOk X.prog X.w hp s.heap d (.dT (mkT ks)) from J.hok d _ hd)
  obtain ⟨view, _, _⟩ := (show ObjOk X.prog X.w hp s.heap p (.ext _) from J.hok p _ hv)
  have l1 : es.size = xs.length := size_of_entries he
  have l2 : (mkT ks).length = xs.length := Paired.length kt
  refine itT_call (ep := ep) (J.ok.hd hc) view ⟨o, ho, hx, hdt⟩ (by omega) fun h2 tk acc c as kp hS hl made hacc => ?_
  obtain ⟨H2, ex, n1, a1, pr, J2⟩ := itT_laid (tk := tk) J (by rw [List.length_map] at z; exact z) kt he kp hS hl made hacc
  exact ⟨.ref _, H2, J2, rfl, q H2 _ as _ ex n1 a1 (isKeys_of kt) pr⟩
end
/-! ### dict(a list of pairs) -/
section
variable {prog : Program} {w : World} {A : Around} {E : Value → Shared → Prop}
theorem key_at {k : List L2.Key} {a : Addr} {h h2 : Heap} (x : (tupleKind (mixKind prog w)).is h k a) (m : ∀ o, h.get? a = some o → h2.get? a = some o) : (tupleKind (mixKind prog w)).is h2 k a := by
  obtain ⟨o, its, n, h1, r⟩ := x
  exact ⟨o, its, n, m o h1, r⟩
end
theorem ktT_of {H : Hp} : ∀ {ks : List (List Int)} {bs : List Addr}, IsKeys H (mkT ks) bs → KT H (mkT ks) ((ks.zip bs).map fun z => (kyI z.1, z.2, Value.bool true)) ∧ ks.length = bs.length
  | [], [], _ => ⟨.nil, rfl⟩
  | [], _ :: _, h => nomatch h
  | _ :: _, [], h => nomatch h
  | k :: ks, b :: bs, h => by
    cases h with
    | cons h t =>
      obtain ⟨r, l⟩ := ktT_of (ks := ks) t
      exact ⟨.cons ⟨rfl, h, rfl⟩ r, by rw [List.length_cons, List.length_cons, l]⟩
section
variable {X : Cx}
/-- dict(l), l a list of such pairs -/
def rDictT : List V → Hp → VK → Prop := fun vs H Q => ∃ (l : Addr) (ks : List (List Int)) (ts bs : List Addr), vs = [.ref l] ∧ H l = some (.lst (ts.map V.ref)) ∧ Paired (fun (t b : Addr) => H t = some (.tup [.ref b, .bl true])) ts bs ∧ IsKeys H (mkT ks) bs ∧ ks.Nodup ∧ ∀ p, H p = none → Q (.ref p) (upd H p (.dT (mkT ks)))
theorem k_dictT (hu : X.A.units + 64 < cLine) (hc : X.calm = true := by rfl) : CallR X (.type "dict") rDictT := by
  intro pins s sl hp vs us Q J r h
  obtain ⟨l, ks, ts, bs, rfl, hl, hts, hbs, hn, q⟩ := h
  obtain ⟨u, rfl, rx⟩ := r.one
  cases rx
  obtain ⟨hz, its, n, rv, pl⟩ := (show ObjOk X.prog X.w hp s.heap l (.lst (ts.map V.ref)) from J.hok l _ hl)
  have ei := refs_at rv
  subst ei
  obtain ⟨kt, lk⟩ := ktT_of hbs
  have lt : ts.length = bs.length := Paired.length hts
  generalize hxs : (ks.zip bs).map (fun z => (kyI z.1, z.2, Value.bool true)) = xs at kt
  have hxl : xs.length = bs.length := by rw [← hxs, List.length_map, List.length_zip, lk, Nat.min_self]
  have hxn : (xs.map (·.1)).Nodup := by
    have e : xs.map (·.1) = ks.map kyI := by
      rw [← hxs, List.map_map]
      show (ks.zip bs).map (fun z => kyI z.1) = _
      rw [show (fun z : List Int × Addr => kyI z.1) = kyI ∘ Prod.fst from rfl, ← List.map_map, List.map_fst_zip (Nat.le_of_eq lk)]
    rw [e]
    exact List.pairwise_map.mpr (hn.imp fun h z => h (kyI_inj z))
  have hx : ∀ {j : Nat} {x : List L2.Key × Addr × Value}, xs[j]? = some x → ∃ k b, ks[j]? = some k ∧ bs[j]? = some b ∧ x = (kyI k, b, .bool true) := fun {j x} z => by
    rw [← hxs, List.getElem?_map] at z
    cases hzz : (ks.zip bs)[j]? with
    | none => rw [hzz] at z; cases z
    | some y =>
      rw [hzz] at z
      obtain ⟨z1, z2⟩ := List.getElem?_zip_eq_some.mp hzz
      exact ⟨y.1, y.2, z1, z2, (Option.some.inj z).symm⟩
  have hat : ∀ j t b, ts[j]? = some t → bs[j]? = some b → s.heap.IsTuple t #[.ref b, .bool true] := fun j t b h1 h2 => by
    obtain ⟨y, g1, g2⟩ := LiI.paired_get hts h1
    rw [h2] at g1
    have g1 := Option.some.inj g1
    subst g1
    obtain ⟨_, its, rv2, ho⟩ := (show ObjOk X.prog X.w hp s.heap t (.tup [.ref b, .bl true]) from J.hok t _ g2)
    cases rv2 with
    | cons r1 r2 => cases r2 with
      | cons r2 r3 =>
        cases r3
        cases r1
        cases r2
        exact ho
  refine call_dict_pairsH (knd := tupleKind (mixKind X.prog X.w)) (ps := xs) (PairArg.list l _ (fun j => ts.getD j 0) (bs.map fun b => (Value.ref b, Value.bool true))) (J.ok.hd hc) (show X.A.units + 1 + 1 < cLine by omega) ⟨⟨_, n, pl, rfl, rfl, rfl⟩, ?_, ?_⟩ ⟨?_, ?_⟩ ?_ ?_ fun h2 tk dd kp => ?_
  · rw [List.length_map, ← lt]
    simp
  · intro j k v hj
    rw [List.getElem?_map] at hj
    cases hb : bs[j]? with
    | none => rw [hb] at hj; cases hj
    | some b =>
      rw [hb] at hj
      have hj := Option.some.inj hj
      cases hj
      have hlt : j < ts.length := by rw [lt]; exact (List.getElem?_eq_some_iff.mp hb).1
      have ht : ts[j]? = some (ts.getD j 0) := by rw [List.getD_eq_getElem?_getD, List.getElem?_eq_getElem hlt]; rfl
      exact ⟨by rw [List.getElem?_toArray, List.getElem?_map, ht]; rfl, .inl (hat j _ b ht hb)⟩
  · rw [hxl, List.length_map]
  · intro i key v hr
    have hr : (bs.map fun b => (Value.ref b, Value.bool true))[i]? = some (key, v) := hr
    rw [List.getElem?_map] at hr
    cases hb : bs[i]? with
    | none => rw [hb] at hr; cases hr
    | some b =>
      rw [hb] at hr
      have hr := Option.some.inj hr
      cases hr
      have hlt : i < xs.length := by rw [hxl]; exact (List.getElem?_eq_some_iff.mp hb).1
      obtain ⟨k, b2, _, g2, g3⟩ := hx (List.getElem?_eq_getElem hlt)
      rw [hb] at g2
      cases g2
      exact ⟨kyI k, b, by rw [List.getElem?_eq_getElem hlt, g3], rfl⟩
  · intro h2 kp x hxm
    obtain ⟨j, hj⟩ := List.mem_iff_getElem?.mp hxm
    obtain ⟨k, b, g1, g2, g3⟩ := hx hj
    subst g3
    have hj2 : j < (mkT ks).length := by rw [List.length_map]; exact (List.getElem?_eq_some_iff.mp g1).1
    obtain ⟨y, f1, f2, f3, _⟩ := LiI.paired_get kt (List.getElem?_eq_getElem hj2)
    rw [hj] at f1
    cases f1
    have hk := key_of (ks := kyI k) J.hok (by
      have e : (mkT ks)[j].1 = kyI k := f2
      rw [← e]; exact f3)
    obtain ⟨ob, it2, n2, q1, q2⟩ := hk
    exact ⟨ob, it2, n2, kp b ob (Nat.ne_of_lt (Heap.lt_size q1)) (fun z => nomatch z) q1, q2⟩
  · rw [List.length_map, ← lt]
    rw [List.length_map] at hz
    exact hz
  · rw [storedAllH_nil_of_nodup xs hxn] at dd
    obtain ⟨ob, es, ep, g1, g2, g3, g4, _, g5⟩ := dd
    have kp2 : ∀ b o, s.heap.get? b = some o → h2.get? b = some o := fun b o z => kp b o (fun m => nomatch m) z
    refine ⟨.ref s.heap.objs.size, _, J.laid (t' := tk) (o := .dT (mkT ks)) kp2 (Nat.le_refl _) ?_, rfl, q _ (J.hok.fresh (Nat.le_refl _))⟩
    refine ⟨by rw [List.length_map, lk, ← lt]; rw [List.length_map] at hz; exact hz, beq_eq_false_iff_ne.mpr (Nat.ne_of_gt J.big), xs, kt.keeps fun b ys z => ?_, ob, es, ep, g1, g2, g3, g4, g5⟩
    rw [upd_ne (fun e => by rw [e, J.hok.fresh (Nat.le_refl _)] at z; cases z)]
    exact z
end
end K45
/-! The law's own defs: the most that is served. -/
namespace K45
open PySem L2 RZ
/-- a tuple of ints that stands as one -/
def tupS (l : List Int) : Sh := ⟨fun v H => ∃ a, v = .ref a ∧ H a = some (.tup (l.map V.int)), fun _ _ _ e ⟨a, h1, h2⟩ => ⟨a, h1, e a _ h2⟩⟩
section
variable {K : Fg} {σ : L2.St} {H : Hp} {ta tb te tk : TE}
theorem EvS.tupD {l : List Int} (h : EvS te σ H (tupS l)) : EvS te σ H (dat K (dIs l)) := h.to fun v H2 ⟨a, e, q⟩ => by
  subst e
  exact .tup (SqT.of q) (tpAll_ints l)
theorem tupS_dat {l : List Int} {v : V} (h : (tupS l).P v H) : (dat K (dIs l)).P v H := by
  obtain ⟨a, e, q⟩ := h
  subst e
  exact .tup (SqT.of q) (tpAll_ints l)
theorem cutV_map (l : List Int) (lo hi : Option Int) : cutV (l.map V.int) lo hi = (cutL l lo hi).map V.int := by
  unfold cutV cutL
  rw [List.length_map, List.map_take, List.map_drop]
theorem e_slTT {l : List Int} {tlo thi : TO} {lo hi : Option Int} (h : EvS te σ H (dat K (dIs l))) (h1 : EvO tlo σ H lo) (h2 : EvO thi σ H hi) (nw : ¬ (HT.sIx l.length 0 lo = 0 ∧ HT.sIx l.length l.length hi = l.length)) : EvS (tSl (rSlA K) te tlo thi) σ H (tupS (cutL l lo hi)) := fun H1 e Q q =>
  h H1 e _ fun v H2 e2 p => h1 H2 (e.trans e2) _ fun H3 e3 => h2 H3 ((e.trans e2).trans e3) _ fun H4 e4 => by
    obtain ⟨a, xs, rfl, hq, hd⟩ := Tp.tup_inv p
    have ei := hd.ints
    subst ei
    refine ⟨a, _, rfl, Evl.ex_t (e3.trans e4) hq, fun z => absurd z (by rw [List.length_map]; exact nw), fun _ p hp => q _ _ ((e2.trans (e3.trans e4)).trans (Evl.Ex.new hp)) ⟨p, rfl, ?_⟩⟩
    rw [upd_same, cutV_map]
theorem e_catTT {l m : List Int} (ha : EvS ta σ H (tupS l)) (hb : EvS tb σ H (tupS m)) (hl : l.length + m.length ≤ 100000) : EvS (tOp (rCatA K) ta tb) σ H (tupS (l ++ m)) :=
  e_two ha hb fun x y H1 _ px py Q q => by
    obtain ⟨a, rfl, h1⟩ := px
    obtain ⟨b, rfl, h2⟩ := py
    refine ⟨a, b, _, _, rfl, rfl, SqT.of h1, SqT.of h2, by rw [List.length_map, List.length_map]; exact Nat.le_trans hl (by decide), fun e => q _ H1 (Evl.Ex.refl _) ⟨b, rfl, ?_⟩, fun _ e => q _ H1 (Evl.Ex.refl _) ⟨a, rfl, ?_⟩, fun _ _ p hp => q _ _ (Evl.Ex.new hp) ⟨p, rfl, ?_⟩⟩
    · rw [List.map_eq_nil_iff.mp e]
      exact h2
    · rw [List.map_eq_nil_iff.mp e, List.append_nil]
      exact h1
    · rw [upd_same, List.map_append]
theorem e_tup1 {i : Int} (h : EvS te σ H (intS i)) : EvS (tTup (tCons te tNil)) σ H (tupS [i]) := fun H1 e Q q =>
  h H1 e _ fun v H2 e2 pv => by
    have pv : v = .int i := pv
    subst pv
    exact ⟨Nat.le_of_lt (small1000 (show 1 ≤ 1000 by decide)), fun a ha => q _ _ (e2.trans (Evl.Ex.new ha)) ⟨a, rfl, upd_same⟩⟩
/-- one unit of a kind less -/
theorem e_lessE {l : List Int} {k : Nat} (ha : EvS ta σ H (dat K (dIs l))) (hk : EvS tk σ H (intS (k : Int))) (h : k < l.length) (h8 : l.length ≤ 8) :
    EvS (tOp (rCatA K) (tOp (rCatA K) (tSl (rSlA K) ta tNoPart (tPart tk)) (tTup (tCons (tOp (rI0 fun i j => .int (i - j)) (tOp (rIx K) ta tk) (tC (.int 1))) tNil))) (tSl (rSlA K) ta (tPart (tOp (rI0 fun i j => .int (i + j)) tk (tC (.int 1)))) tNoPart)) σ H (tupS (lessL l k)) := by
  have hg : (l.map PyData.int)[k]? = some (.int (fn l k)) := by
    rw [List.getElem?_map, fn_get h]
    rfl
  have c1 : cutL l none (some (k : Int)) = l.take k := cut_take l (by omega)
  have c2 : cutL l (some ((k : Int) + 1)) none = l.drop (k + 1) := cut_drop l (i := k + 1) (by omega)
  have n1 : ¬ (HT.sIx l.length 0 none = 0 ∧ HT.sIx l.length l.length (some (k : Int)) = l.length) := fun z => by
    have := z.2
    rw [HT.sIx_nat] at this
    omega
  have n2 : ¬ (HT.sIx l.length 0 (some ((k : Int) + 1)) = 0 ∧ HT.sIx l.length l.length none = l.length) := fun z => by
    have := z.1
    rw [show ((k : Int) + 1) = ((k + 1 : Nat) : Int) from rfl, HT.sIx_nat] at this
    omega
  have z1 := e_slTT (lo := none) (hi := some (k : Int)) ha o_none (o_some hk) n1
  have z2 := e_slTT (lo := some ((k : Int) + 1)) (hi := none) ha (o_some (e_I0 (g := fun i j => .int (i + j)) hk (e_int (i := 1)))) o_none n2
  rw [c1] at z1
  rw [c2] at z2
  refine EvS.cast (e_catTT (e_catTT z1 (e_tup1 (e_I0 (g := fun i j => .int (i - j)) (EvS.toI (e_ixT ha hk hg)) (e_int (i := 1)))) ?_) z2 ?_) ?_
  · rw [List.length_take, List.length_singleton]; omega
  · rw [List.length_append, List.length_take, List.length_singleton, List.length_drop]; omega
  · unfold lessL
    rw [List.set_eq_take_append_cons_drop, if_pos h, List.append_assoc]
    rfl
end
section
variable {P : Program} {w : World} {K : Fg} {mg : Str → Option Value} {base : Heap}
def sp_lessT (K : Fg) : Sp := fun vs H Q _ => ∃ (st : List Int) (k : Nat), AtAll H vs [dat K (dIs st), intS (k : Int)] ∧ k < st.length ∧ st.length ≤ 8 ∧ Ret (tupS (lessL st k)) H Q
theorem ok_lessT (T : Bt mg) (D : Df K mg "_law_less" s__law_less ["_law_stock", "_law_kind"]) : OkD P w K mg base CX0 1 "_law_less" ["_law_stock", "_law_kind"] (sp_lessT K) := by
  refine OkD.of D fun f fd F => F.ok sc_law_less (fun vs H Q E ⟨_, _, h, _⟩ => atLen h) (fun cdv A outer s H vs Q E hr ⟨st, k, h, hk, h8, kk⟩ => ?_)
  obtain ⟨x, y, rfl, hx, hy⟩ := a2 h
  exact ⟨_, (pss_one (ps_ret (pe_op (k_catT K) (pe_op (k_catT K) (pe_slice (k_slT K) (pv 0) po_none (po_some (pv 1))) (pe_tup (pa_cons (pe_op op_sub (pe_ix (k_ix K) (pv 0) (pv 1) (fun _ _ => rfl)) pe_int) pa_nil))) (pe_slice (k_slT K) (pv 0) (po_some (pe_op op_add (pv 1) pe_int)) po_none)))), s_retR (e_lessE (e_var (v := x) rfl hx) (e_var (v := y) rfl hy) hk h8) kk⟩
/-! ### the most that is served -/
theorem insL_nodup {acc : List (List Int)} {x : List Int} (h : acc.Nodup) : (insL acc x).Nodup := by
  unfold insL
  split
  · exact h
  · rename_i n
    exact List.nodup_append.mpr ⟨h, List.pairwise_singleton _ _, fun a ha b hb e => n (by rw [← List.mem_singleton.mp hb, ← e]; exact ha)⟩
theorem insL_len (acc : List (List Int)) (x : List Int) : (insL acc x).length ≤ acc.length + 1 := by
  unfold insL
  split
  · omega
  · rw [List.length_append, List.length_singleton]; exact Nat.le_refl _
theorem steps1_ok {l : List Int} : ∀ (lot : List Nat) (acc : List (List Int)), (acc.Nodup → (lot.foldl (step1 l) acc).Nodup) ∧ (lot.foldl (step1 l) acc).length ≤ acc.length + lot.length
  | [], acc => ⟨id, Nat.le_refl _⟩
  | k :: lot, acc => by
    obtain ⟨h1, h2⟩ := steps1_ok lot (step1 l acc k)
    have h3 : (acc.Nodup → (step1 l acc k).Nodup) ∧ (step1 l acc k).length ≤ acc.length + 1 := by
      unfold step1
      split
      · exact ⟨insL_nodup, insL_len _ _⟩
      · exact ⟨id, Nat.le_succ _⟩
    exact ⟨fun h => h1 (h3.1 h), by rw [List.length_cons]; show (lot.foldl (step1 l) (step1 l acc k)).length ≤ _; omega⟩
theorem stepsL_ok {lot : List Nat} : ∀ (L acc : List (List Int)), (acc.Nodup → (L.foldl (stepL lot) acc).Nodup) ∧ (L.foldl (stepL lot) acc).length ≤ acc.length + L.length * lot.length
  | [], acc => ⟨id, Nat.le_add_right _ _⟩
  | l :: L, acc => by
    obtain ⟨h1, h2⟩ := stepsL_ok L (stepL lot acc l)
    obtain ⟨h3, h4⟩ := steps1_ok (l := l) lot acc
    have h4 : (stepL lot acc l).length ≤ acc.length + lot.length := h4
    exact ⟨fun h => h1 (h3 h), by rw [List.length_cons, Nat.add_mul]; show (L.foldl (stepL lot) (stepL lot acc l)).length ≤ _; omega⟩
/-- what is left: few, no two alike, all of the stock's length -/
structure Few (n m : Nat) (L : List (List Int)) : Prop where
  nd : L.Nodup
  few : L.length ≤ 9 ^ m
  len : ∀ l ∈ L, l.length = n
theorem Few.step {n m : Nat} {L : List (List Int)} {lot : List Nat} (h : Few n m L) (h8 : lot.length ≤ 8) : Few n (m + 1) (stepR lot L) := by
  obtain ⟨h1, h2⟩ := stepsL_ok (lot := lot) L L
  refine ⟨h1 h.nd, ?_, fun l hl => ?_⟩
  · have h3 := h.few
    have h4 : L.length * lot.length ≤ L.length * 8 := Nat.mul_le_mul_left _ h8
    rw [Nat.pow_succ]
    show (L.foldl (stepL lot) L).length ≤ _
    omega
  · rcases mem_stepR.mp hl with q | ⟨y, hy, k, _, _, e⟩
    · exact h.len l q
    · rw [e, List.length_set]
      exact h.len y hy
theorem Few.steps {n m : Nat} {L : List (List Int)} {lot : List Nat} (h : Few n m L) (h8 : lot.length ≤ 8) : ∀ t, Few n (m + t) (stepN lot t L)
  | 0 => h
  | t + 1 => (Few.steps h h8 t).step h8
def csum (cs : List Int) (n : Nat) : Nat := ((cs.take n).map Int.toNat).sum
theorem csum_succ {cs : List Int} {n : Nat} (h : n < cs.length) : csum cs (n + 1) = csum cs n + (fn cs n).toNat := by
  unfold csum
  rw [List.take_add_one, List.getElem?_eq_getElem h, Option.toList_some, List.map_append, List.sum_append]
  unfold fn
  rw [List.getD_eq_getElem?_getD, List.getElem?_eq_getElem h]
  simp
theorem Few.lefts {lots : List (List Nat)} {st cs : List Int} (g : LOk st.length lots) (hl : cs.length = lots.length) : ∀ n, n ≤ lots.length → Few st.length (csum cs n) (leftsTo lots st cs n)
  | 0, _ => ⟨List.pairwise_singleton _ _, Nat.le_refl _, fun l h => by rw [List.mem_singleton.mp h]⟩
  | n + 1, h => by
    rw [csum_succ (by omega)]
    exact (Few.lefts g hl n (by omega)).steps (Nat.le_trans (g.len n) g.n8) _
section
variable {σ : L2.St} {H : Hp}
theorem tpKeys : ∀ {L : List (List Int)} {bs : List Addr}, IsKeys H (mkT L) bs → TpAll K H (bs.map V.ref) (L.map dIs)
  | [], [], _ => .nil
  | [], _ :: _, h => nomatch h
  | _ :: _, [], h => nomatch h
  | l :: L, b :: bs, h => by
    cases h with
    | cons h t =>
      have h : H b = some (.tup ((kyI l).map kV)) := h
      rw [kyI_kV] at h
      exact .cons (.tup (SqT.of h) (tpAll_ints l)) (tpKeys t)
theorem e_keysL {i : Nat} {d : Addr} {L : List (List Int)} (hi : σ[i]? = some (some (.ref d))) (hd : H d = some (.dT (mkT L))) : EvS (tCB (fun xs H Q => ∃ d kvs, xs = [V.ref d] ∧ Rd H d (.dT kvs) ∧ ∀ p bs, H p = none → IsKeys H kvs bs → Q (.ref p) (upd H p (.lst (bs.map V.ref)))) (tCons (tVar i) tNil)) σ H (lstS K (L.map dIs)) := fun H1 e Q q =>
  ⟨.ref d, hi, d, mkT L, rfl, .inl (e d _ hd), fun p bs hp hk => q _ _ (Evl.Ex.new hp) ⟨p, _, rfl, upd_same, (tpKeys hk).mono (Gt.of_ex (Evl.Ex.new hp))⟩⟩
theorem f_dictT {i : Nat} {d : Addr} {L : List (List Int)} (hi : σ[i]? = some (some (.ref d))) (hd : H d = some (.dT (mkT L))) (hn : L.Nodup) : EvF (tCB rDictT (tCons (tCB rListV (tCons (tBM0 K "dict" L2.DX.rItemsT (tVar i)) tNil)) tNil)) σ H (.dT (mkT L)) := fun H1 e Q q =>
  ⟨.ref d, hi, .inr (.inr (.inl ⟨rfl, .inr ⟨_, e d _ hd⟩⟩)), d, mkT L, rfl, rfl, e d _ hd, fun v hv => ⟨v, d, L, rfl, upd_same, Evl.Ex.new hv d _ (e d _ hd), fun H2 l ts bs ex n1 a1 hk pr =>
    ⟨l, L, ts, bs, rfl, a1, pr, Paired.mapP hk fun _ _ z => ex _ _ z, hn, fun p hp => q p _ (none_back ((Evl.Ex.new hv).trans ex) hp) (((Evl.Ex.new hv).trans ex).trans (Evl.Ex.new hp)) upd_same⟩⟩⟩
end
theorem gt_but {f : Addr} {H H2 : Hp} {kvs : List (List L2.Key × V)} (e : ∀ b o, b ≠ f → H b = some o → H2 b = some o) (hf : H f = some (.dT kvs)) : Gt K H H2 := fun a xs h => by
  rcases h with (q | ⟨o, q⟩) | q
  · exact .inl (.inl (e a _ (fun z => by rw [z, hf] at q; cases q) q))
  · exact .inl (.inr ⟨o, e a _ (fun z => by rw [z, hf] at q; cases q) q⟩)
  · exact .inr q
theorem served_ne {lots : List (List Nat)} {st cs : List Int} : ∀ n, leftsTo lots st cs n ≠ []
  | 0 => by simp [leftsTo]
  | n + 1 => by
    have h := served_ne (lots := lots) (st := st) (cs := cs) n
    show stepN _ _ _ ≠ []
    generalize (fn cs n).toNat = t
    induction t with
    | zero => exact h
    | succ t ih =>
      intro z
      cases q : stepN (lots.getD n []) t (leftsTo lots st cs n) with
      | nil => exact ih q
      | cons a l =>
        have m : a ∈ stepN (lots.getD n []) (t + 1) (leftsTo lots st cs n) := mem_stepR.mpr (.inl (by rw [q]; exact List.mem_cons_self))
        rw [z] at m
        cases m
abbrev s__law_most_served : Stmt := topS 66
abbrev N__law_most_served : List Str := ["_law_lots_here", "_law_stock", "_law_counts", "_law_lefts", "_law_at", "_law_turn", "_law_further", "_law_left", "_law_kind"]
theorem sc_law_most_served : FnScope N__law_most_served ["_law_lots_here", "_law_stock", "_law_counts"] (defScope s__law_most_served) := ⟨rfl, rfl, rfl, by decide +kernel, rfl, by decide +kernel, by decide +kernel⟩
def sp_served (K : Fg) : Sp := fun vs H Q _ => ∃ (lots : List (List Nat)) (st cs : List Int), AtAll H vs [lstS K (lots.map dNs), tupS st, dat K (dIs cs)] ∧ LOk st.length lots ∧ cs.length = lots.length ∧ (∀ c ∈ cs, 0 ≤ c) ∧ csum cs lots.length ≤ 4 ∧ Ret (intS (msv lots st cs)) H Q
theorem ok_served (T : Bt mg) (D : Df K mg "_law_most_served" s__law_most_served ["_law_lots_here", "_law_stock", "_law_counts"]) : OkD P w K mg base CX0 1 "_law_most_served" ["_law_lots_here", "_law_stock", "_law_counts"] (sp_served K) := by
  refine OkD.of D fun fa fd F => F.ok sc_law_most_served (fun vs H Q E ⟨_, _, _, h, _⟩ => atLen h) (fun cdv A outer s H vs Q E hr ⟨lots, st, cs, h, g, hcl, hc0, hc4, kk⟩ => ?_)
  obtain ⟨x, y, z, rfl, hx, hy, hz⟩ := a3 h
  refine ⟨_, (pss_cons (ps_set (i := 3) sc_law_most_served.nd rfl (by first | exact Or.inl rfl | exact Or.inr rfl) (pe_dispT (hu_of hr) (pv 1) pe_bl)) (pss_cons (ps_for PassesOwn.never rfl (pi_range1 rfl T.b_range (pa_cons (pe_callB (k_len K) (by rfl) T.b_len (by decide +kernel) (pa_cons (pv 0) pa_nil)) pa_nil)) (pg_name (i := 4) sc_law_most_served.nd rfl (by first | exact Or.inl rfl | exact Or.inr rfl)) (pss_one (ps_for PassesOwn.never rfl (pi_range1 rfl T.b_range (pa_cons (pe_ix (k_ix K) (pv 2) (pv 4) (fun _ _ => rfl)) pa_nil)) (pg_name (i := 5) sc_law_most_served.nd rfl (by first | exact Or.inl rfl | exact Or.inr rfl)) (pss_cons (ps_set (i := 6) sc_law_most_served.nd rfl (by first | exact Or.inl rfl | exact Or.inr rfl) (pe_callTy (k_dictT hr.units) (by rfl) T.b_dict (by decide +kernel) (pa_cons (pe_callTy (k_listV) (by rfl) T.b_list (by decide +kernel) (pa_cons (pe_bm0 PySem.F.plainAttrs_dict PySem.F.slot_dict_items PySem.F.type_dict_items L2.DX.mt_itemsT (pv 3)) pa_nil)) pa_nil))) (pss_cons (ps_for PassesOwn.never rfl (k_pil K (pe_callTy (call_list_dT rfl) (by rfl) T.b_list (by decide +kernel) (pa_cons (pv 3) pa_nil))) (pg_name (i := 7) sc_law_most_served.nd rfl (by first | exact Or.inl rfl | exact Or.inr rfl)) (pss_one (ps_for PassesOwn.never rfl (k_pit K (pe_ix (k_ix K) (pv 0) (pv 4) (fun _ _ => rfl))) (pg_name (i := 8) sc_law_most_served.nd rfl (by first | exact Or.inl rfl | exact Or.inr rfl)) (pss_one (ps_if (pt_cmpR op_gt (pe_ix (k_ix K) (pv 7) (pv 8) (fun _ _ => rfl)) pe_int (nomark _)) (pss_one (ps_dput (hu_of hr) (pv 6) (pe_op (k_catT K) (pe_op (k_catT K) (pe_slice (k_slT K) (pv 7) po_none (po_some (pv 8))) (pe_tup (pa_cons (pe_op op_sub (pe_ix (k_ix K) (pv 7) (pv 8) (fun _ _ => rfl)) pe_int) pa_nil))) (pe_slice (k_slT K) (pv 7) (po_some (pe_op op_add (pv 8) pe_int)) po_none)) pe_bl rfl)) pss_nil))))) (pss_one (ps_set (i := 3) sc_law_most_served.nd rfl (by first | exact Or.inl rfl | exact Or.inr rfl) (pv 6)))))))) (pss_one (ps_ret (pe_op op_sub (pe_callB (k_sumA K) (by rfl) T.b_sum (by decide +kernel) (pa_cons (pv 1) pa_nil)) (pe_callB (k_min K) (by rfl) T.b_min (by decide +kernel) (pa_cons (pe_lc (own := [("_law_left", 7)]) (g := gName 7) (tt := tYes) rfl sc_law_most_served.nd (k_pil K (pe_callTy (call_list_dT rfl) (by rfl) T.b_list (by decide +kernel) (pa_cons (pv 3) pa_nil))) (blkOk_by (N := N__law_most_served) (sc := (defScope s__law_most_served)) (by decide +kernel)) (fun _ _ _ _ _ => (pg_name (i := 7) sc_law_most_served.nd rfl (by first | exact Or.inl rfl | exact Or.inr rfl))) (fun _ _ _ _ _ => pts_nil) (fun _ _ _ _ _ => (pe_callB (k_sumA K) (by rfl) T.b_sum (by decide +kernel) (pa_cons (pv 7) pa_nil)))) pa_nil))))))), ?_⟩
  have hlot : ∀ r, r < lots.length → (lots.map dNs)[r]? = some (dNs (lots.getD r [])) := fun r hr => by
    rw [List.getElem?_map, List.getD_eq_getElem?_getD, List.getElem?_eq_getElem hr]
    rfl
  have hcs : ∀ n, n ≤ lots.length → csum cs n ≤ 4 := fun n hn => by
    refine Nat.le_trans ?_ hc4
    have : ∀ m, n + m ≤ lots.length → csum cs n ≤ csum cs (n + m) := fun m => by
      induction m with
      | zero => intro _; exact Nat.le_refl _
      | succ m ih =>
        intro hm
        have h1 := ih (by omega)
        have h2 := csum_succ (cs := cs) (n := n + m) (by omega)
        show csum cs n ≤ csum cs (n + m + 1)
        omega
    have := this (lots.length - n) (by omega)
    rw [show n + (lots.length - n) = lots.length by omega] at this
    exact this
  have hpow : ∀ m, m ≤ 4 → 9 ^ m ≤ 6561 := fun m hm => Nat.le_trans (Nat.pow_le_pow_right (by decide) hm) (by decide)
  -- the first dict
  refine q_setF (o := .dT (mkT [st])) (fun H1 e Q q => ?_) fun d0 H1 n1 e1 k1 => ?_
  · obtain ⟨a, ea, ha⟩ := hy
    intro p hp
    have ha1 := e a _ ha
    have na : a ≠ p := fun z => by rw [z, hp] at ha1; cases ha1
    exact ⟨y, rfl, upd_same, a, kyI st, .bl true, by rw [ea], by rw [kyI_kV, upd_ne na]; exact ha1, q p _ hp (ex_upd (ex_upd (Evl.Ex.refl _) hp) hp) upd_same⟩
  have sl0 : Sl 9 [x, y, z] ((L2.start N__law_most_served [x, y, z]).set 3 (some (.ref d0))) := ⟨rfl, fun i v e => by
    match i, e with
    | 0, e => exact congrArg some e
    | 1, e => exact congrArg some e
    | 2, e => exact congrArg some e
    | i + 3, e => cases e⟩
  refine q_for (s_forR1 (a_cons (EvS.cast (e_lenL (a_cons (sl0.var (v := x) rfl (Sh.up _ _ _ _ e1 hx)) a_nil)) (by rw [List.length_map])) a_nil) (by have := g.nt; omega) fun H2 e2 => ⟨fun i σ' H' => Sl 9 [x, y, z] σ' ∧ Ex H H' ∧ ∃ d, σ'[3]? = some (some (.ref d)) ∧ H' d = some (.dT (mkT (leftsTo lots st cs i))),
    ⟨sl0, e1.trans e2, d0, rfl, e2 _ _ k1⟩, ?_, ?_⟩)
  · rintro i σ' H' hi ⟨sl, ex, d, h3, hd⟩
    have hi : i < lots.length := by omega
    have fw := Few.lefts g hcl i (by omega)
    have hci := hcs i (by omega)
    have hci2 := hcs (i + 1) (by omega)
    rw [csum_succ (by omega)] at hci2
    have hcn : 0 ≤ fn cs i := hc0 _ (by
      have : cs[i]? = some (fn cs i) := fn_get (by omega)
      exact List.mem_of_getElem? this)
    have sl4 : Sl 9 [x, y, z] (σ'.set 4 (some (.int (i : Int)))) := sl.set (by show 3 ≤ 4; decide)
    have h34 : (σ'.set 4 (some (V.int (i : Int))))[3]? = some (some (.ref d)) := sl_ne (by decide) h3
    have h44 : (σ'.set 4 (some (V.int (i : Int))))[4]? = some (some (.int (i : Int))) := sl_same sl.len (by decide)
    show tFor _ _ _ _ (σ'.set 4 (some (V.int (i : Int)))) H'
    generalize σ'.set 4 (some (V.int (i : Int))) = σ4 at sl4 h34 h44
    refine s_forR1 (n := fn cs i) (a_cons (EvS.toI (e_ixT (sl4.var (v := z) rfl (Sh.up _ _ _ _ ex hz)) (e_var (v := .int (i : Int)) (s := intS (i : Int)) h44 rfl) (by rw [List.getElem?_map, fn_get (by omega)]; rfl))) a_nil) (by omega) fun H3 e3 => ⟨fun t σ' H' => Sl 9 [x, y, z] σ' ∧ σ'[4]? = some (some (.int (i : Int))) ∧ Ex H H' ∧ ∃ d, σ'[3]? = some (some (.ref d)) ∧ H' d = some (.dT (mkT (stepN (lots.getD i []) t (leftsTo lots st cs i)))),
      ⟨sl4, h44, ex.trans e3, d, h34, e3 _ _ hd⟩, ?_, ?_⟩
    · rintro t σ' H0 ht ⟨sl, h4, ex0, d, h3, hd⟩
      have fw2 := fw.steps (Nat.le_trans (g.len i) g.n8) t
      generalize hL : stepN (lots.getD i []) t (leftsTo lots st cs i) = L at fw2 hd
      have hLn : L.length ≤ 6561 := Nat.le_trans fw2.few (hpow _ (by omega))
      have sl5 : Sl 9 [x, y, z] (σ'.set 5 (some (.int (t : Int)))) := sl.set (by show 3 ≤ 5; decide)
      have h35 : (σ'.set 5 (some (V.int (t : Int))))[3]? = some (some (.ref d)) := sl_ne (by decide) h3
      have h45 : (σ'.set 5 (some (V.int (t : Int))))[4]? = some (some (.int (i : Int))) := sl_ne (by decide) h4
      show tSeq _ _ _ (σ'.set 5 (some (V.int (t : Int)))) H0
      generalize σ'.set 5 (some (V.int (t : Int))) = σ5 at sl5 h35 h45
      refine q_setF (f_dictT h35 hd fw2.nd) fun f H4 nf e4 kf => ?_
      have sl6 : Sl 9 [x, y, z] (σ5.set 6 (some (.ref f))) := sl5.set (by show 3 ≤ 6; decide)
      have h36 : (σ5.set 6 (some (.ref f)))[3]? = some (some (.ref d)) := sl_ne (by decide) h35
      have h46 : (σ5.set 6 (some (.ref f)))[4]? = some (some (.int (i : Int))) := sl_ne (by decide) h45
      have h66 : (σ5.set 6 (some (.ref f)))[6]? = some (some (.ref f)) := sl_same sl5.len (by decide)
      generalize σ5.set 6 (some (.ref f)) = σ6 at sl6 h36 h46 h66
      have hll := Nat.le_trans (g.len i) g.n8
      refine q_for (s_forL (e_keysL h36 (e4 _ _ hd)) fun a xs H5 e5 ha hxs => ⟨fun j σ' H' => Sl 9 [x, y, z] σ' ∧ σ'[4]? = some (some (.int (i : Int))) ∧ σ'[6]? = some (some (.ref f)) ∧ (∀ b o, b ≠ f → H5 b = some o → H' b = some o) ∧ H' f = some (.dT (mkT ((L.take j).foldl (stepL (lots.getD i [])) L))),
        ⟨sl6, h46, h66, fun b o _ q => q, e5 _ _ kf⟩, fun j σ' H' q => ⟨q.2.2.2.1 a _ (fun z => by rw [z, e5 _ _ kf] at ha; cases ha) ha, gt_but q.2.2.2.1 (e5 _ _ kf)⟩, ?_, ?_⟩)
      · rintro j dd w σ' H6 hdd hw ⟨sl, h4, h6, but, hf⟩
        obtain ⟨l, hlj, rfl⟩ : ∃ l, L[j]? = some l ∧ dIs l = dd := by
          rw [List.getElem?_map] at hdd
          cases q : L[j]? with
          | none => rw [q] at hdd; cases hdd
          | some l => exact ⟨l, rfl, by rw [q] at hdd; exact Option.some.inj hdd⟩
        have hlen := fw2.len l (List.mem_of_getElem? hlj)
        have ex6 : Ex H0 H6 := fun b o hb => but b o (fun q => by rw [q, nf] at hb; cases hb) (e5 _ _ (e4 _ _ hb))
        have sl7 : Sl 9 [x, y, z] (σ'.set 7 (some w)) := sl.set (by show 3 ≤ 7; decide)
        have h47 : (σ'.set 7 (some w))[4]? = some (some (.int (i : Int))) := sl_ne (by decide) h4
        have h67 : (σ'.set 7 (some w))[6]? = some (some (.ref f)) := sl_ne (by decide) h6
        have h77 : (σ'.set 7 (some w))[7]? = some (some w) := sl_same sl.len (by decide)
        show tFor _ _ _ _ (σ'.set 7 (some w)) H6
        generalize σ'.set 7 (some w) = σ7 at sl7 h47 h67 h77
        obtain ⟨_, hAl⟩ := stepsL_ok (lot := lots.getD i []) (L.take j) L
        have hjl : (L.take j).length ≤ L.length := List.length_take_le' _ _
        have hm8 : (L.take j).length * (lots.getD i []).length ≤ 6561 * 8 := Nat.mul_le_mul (Nat.le_trans hjl hLn) hll
        generalize hA : (L.take j).foldl (stepL (lots.getD i [])) L = A at hf hAl
        refine s_forT (e_ixL (sl7.var (v := x) rfl (Sh.up _ _ _ _ (ex0.trans ex6) hx)) (e_var (v := .int (i : Int)) (s := intS (i : Int)) h47 rfl) (hlot i hi)) fun H7 e7 => ⟨fun m σ' H' => Sl 9 [x, y, z] σ' ∧ σ'[4]? = some (some (.int (i : Int))) ∧ σ'[6]? = some (some (.ref f)) ∧ σ'[7]? = some (some w) ∧ (∀ b o, b ≠ f → H7 b = some o → H' b = some o) ∧ H' f = some (.dT (mkT (((lots.getD i []).take m).foldl (step1 l) A))),
          ⟨sl7, h47, h67, h77, fun b o _ q => q, e7 _ _ hf⟩, fun m σ' H' q => gt_but q.2.2.2.2.1 (e7 _ _ hf), ?_, ?_⟩
        · rintro m d2 w2 σ' H8 hd2 hw2 ⟨sl, h4, h6, h7, but2, hf2⟩
          obtain ⟨k, hk, rfl⟩ : ∃ k, (lots.getD i [])[m]? = some k ∧ dN k = d2 := by
            rw [List.getElem?_map] at hd2
            cases q : (lots.getD i [])[m]? with
            | none => rw [q] at hd2; cases hd2
            | some k => exact ⟨k, rfl, by rw [q] at hd2; exact Option.some.inj hd2⟩
          have hw2 : w2 = .int (k : Int) := hw2.int_inv
          subst hw2
          have hkl : k < l.length := by rw [hlen]; exact g.wf i k (List.mem_of_getElem? hk)
          have sl8 : Sl 9 [x, y, z] (σ'.set 8 (some (.int (k : Int)))) := sl.set (by show 3 ≤ 8; decide)
          have h48 : (σ'.set 8 (some (V.int (k : Int))))[4]? = some (some (.int (i : Int))) := sl_ne (by decide) h4
          have h68 : (σ'.set 8 (some (V.int (k : Int))))[6]? = some (some (.ref f)) := sl_ne (by decide) h6
          have h78 : (σ'.set 8 (some (V.int (k : Int))))[7]? = some (some w) := sl_ne (by decide) h7
          have h88 : (σ'.set 8 (some (V.int (k : Int))))[8]? = some (some (.int (k : Int))) := sl_same sl.len (by decide)
          show tIfS _ _ _ _ (σ'.set 8 (some (V.int (k : Int)))) H8
          generalize σ'.set 8 (some (V.int (k : Int))) = σ8 at sl8 h48 h68 h78 h88
          have tw : Tp K H8 w (dIs l) := (hw.mono (Gt.of_ex e7)).mono (gt_but but2 (e7 _ _ hf))
          have hstep : ((lots.getD i []).take (m + 1)).foldl (step1 l) A = step1 l (((lots.getD i []).take m).foldl (step1 l) A) k := by
            rw [List.take_add_one, hk, Option.toList_some, List.foldl_append]
            rfl
          obtain ⟨_, hBl⟩ := steps1_ok (l := l) ((lots.getD i []).take m) A
          have hml : ((lots.getD i []).take m).length ≤ (lots.getD i []).length := List.length_take_le' _ _
          generalize ((lots.getD i []).take m).foldl (step1 l) A = B at hf2 hstep hBl
          have ew : EvS (tVar 7) σ8 H8 (dat K (dIs l)) := e_var (v := w) h78 tw
          have ek : EvS (tVar 8) σ8 H8 (intS (k : Int)) := e_var (v := .int (k : Int)) h88 rfl
          refine s_when (t_test (e_I0 (g := fun i j => .bl (decide (i > j))) (EvS.toI (e_ixT ew ek (by rw [List.getElem?_map, fn_get hkl]; rfl))) (e_int (i := 0)))) (fun hc H9 e9 => ?_) (fun hc H9 e9 => ?_)
          · have hc : 0 < fn l k := of_decide_eq_true hc
            refine ⟨.ref f, h68, e_lessE (ew.mono e9) (ek.mono e9) hkl (by rw [hlen]; exact g.n8) H9 (Evl.Ex.refl _) _ fun yv H10 e10 pv => ?_⟩
            obtain ⟨nb, rfl, knb⟩ := pv
            refine ⟨f, _, rfl, DPut.t (k := kyI (lessL l k)) (e10 _ _ (e9 _ _ hf2)) (by rw [kyI_kV]; exact knb) ?_, ?_⟩
            · rw [List.length_map]
              refine Nat.lt_of_lt_of_le (m := 100000) (by omega) (by decide)
            · refine ⟨sl8, h48, h68, h78, fun b o nb q => ?_, ?_⟩
              · rw [upd_ne nb]
                exact e10 _ _ (e9 _ _ (but2 b o nb q))
              · rw [upd_same, putK_mk, hstep]
                unfold step1
                rw [if_pos hc]
                rfl
          · have hc : ¬ 0 < fn l k := of_decide_eq_false hc
            refine ⟨sl8, h48, h68, h78, fun b o nb q => e9 _ _ (but2 b o nb q), ?_⟩
            rw [hstep]
            unfold step1
            rw [if_neg hc]
            exact e9 _ _ hf2
        · rintro σ' H8 ⟨sl, h4, h6, h7, but2, hf2⟩
          rw [List.length_map, List.take_length] at hf2
          refine ⟨sl, h4, h6, fun b o nb q => but2 b o nb (e7 _ _ (but b o nb q)), ?_⟩
          rw [List.take_add_one, hlj, Option.toList_some, List.foldl_append, hA]
          exact hf2
      · rintro σ' H6 ⟨sl, h4, h6, but, hf⟩
        rw [List.length_map, List.take_length] at hf
        have ex6 : Ex H0 H6 := fun b o hb => but b o (fun q => by rw [q, nf] at hb; cases hb) (e5 _ _ (e4 _ _ hb))
        refine s_set (s := vS (.ref f)) (e_var (v := .ref f) h6 rfl) fun v H7 e7 pv => ?_
        have pv : v = .ref f := pv
        subst pv
        refine ⟨sl.set (Nat.le_refl _), sl_ne (by decide) h4, ex0.trans (ex6.trans e7), f, sl_same sl.len (by decide), ?_⟩
        rw [show stepN (lots.getD i []) (t + 1) (leftsTo lots st cs i) = stepR (lots.getD i []) L by rw [← hL]; rfl]
        exact e7 _ _ hf
    · rintro σ' H' ⟨sl, h4, ex, d, h3, hd⟩
      exact ⟨sl, ex, d, h3, hd⟩
  · rintro σ' H' ⟨sl, ex, d, h3, hd⟩
    rw [Int.toNat_natCast] at hd
    have fw := Few.lefts g hcl lots.length (Nat.le_refl _)
    have hc4' := hcs lots.length (Nat.le_refl _)
    have hLn : (leftsTo lots st cs lots.length).length ≤ 6561 := Nat.le_trans fw.few (hpow _ hc4')
    have hne : leftsTo lots st cs lots.length ≠ [] := served_ne _
    have hne2 : (leftsTo lots st cs lots.length).map List.sum ≠ [] := fun q => hne (List.map_eq_nil_iff.mp q)
    refine (s_retR (D := { nx := fun _ H' => Q .non H', rt := Q }) (s := intS (msv lots st cs)) (e_I0 (g := fun i j => .int (i - j)) (i := st.sum) (j := leastI ((leftsTo lots st cs lots.length).map List.sum)) (e_sumT (sl.var (i := 1) (v := y) rfl (tupS_dat (Sh.up _ _ _ _ ex hy)))) (e_min (a_cons ?_ a_nil) (leastI_mem hne2) fun _ hm => leastI_le hm)) (kk.of ex) : tRet _ { nx := fun _ H' => Q .non H', rt := Q } σ' H')
    rw [List.map_map]
    refine EvS.map' _ _ (e_lcL (leftsTo lots st cs lots.length) dIs (fun _ => true) _ (e_keysL h3 hd) (by omega) (fun w => ?_) fun l u H6 e6 hl hu => ⟨t_yes, fun _ => ?_⟩)
    · show ((σ'.set 7 none).set 7 (some w)).set 7 none = σ'.set 7 none
      rw [List.set_set, List.set_set]
    · have hu5 : ((wipe σ' [7]).set 7 (some u))[7]? = some (some u) := sl_same (n := 9) (by rw [wipe_length]; exact sl.len) (by decide)
      exact EvS.toD (e_sumT (e_var (v := u) hu5 hu))
end
end K45
/-! The law's own defs: the first row. -/
namespace K45
open PySem L2 RZ
theorem countP_succ (n : Nat) : ∀ row : List Nat, row.countP (fun x => decide (x < n + 1)) = row.countP (fun x => decide (x < n)) + row.count n
  | [] => rfl
  | a :: row => by
    rw [List.countP_cons, List.countP_cons, List.count_cons, countP_succ n row]
    by_cases h : a = n
    · subst h
      simp
      omega
    · by_cases h2 : a < n
      · have h3 : a < n + 1 := by omega
        simp [h, h2, h3]
        omega
      · have h3 : ¬ a < n + 1 := by omega
        simp [h, h2, h3]
theorem cnt_sum (row : List Nat) : ∀ n, ((List.range n).map fun r => row.count r).sum = row.countP (fun x => decide (x < n))
  | 0 => by simp
  | n + 1 => by rw [List.range_succ, List.map_append, List.sum_append, cnt_sum row n, countP_succ]; simp
theorem csum_cnt {nt : Nat} {row : List Nat} (h : row.length ≤ 4) : csum (cntL nt row) nt ≤ 4 := by
  have hl : (cntL nt row).length = nt := by unfold cntL; rw [List.length_map, List.length_range]
  unfold csum
  rw [List.take_of_length_le (Nat.le_of_eq hl)]
  unfold cntL
  rw [List.map_map, show (Int.toNat ∘ fun r : Nat => (row.count r : Int)) = fun r => row.count r from rfl, cnt_sum]
  exact Nat.le_trans List.countP_le_length h
section
variable {P : Program} {w : World} {K : Fg} {mg : Str → Option Value} {base : Heap}
abbrev s__law_first : Stmt := topS 69
abbrev N__law_first : List Str := ["_law_lots_here", "_law_stock", "_law_rows_here", "_law_one", "_law_other", "_law_row", "_law_counts", "_law_at"]
theorem sc_law_first : FnScope N__law_first ["_law_lots_here", "_law_stock", "_law_rows_here", "_law_one", "_law_other"] (defScope s__law_first) := ⟨rfl, rfl, rfl, by decide +kernel, rfl, by decide +kernel, by decide +kernel⟩
def sp_first (K : Fg) : Sp := fun vs H Q _ => ∃ (lots : List (List Nat)) (st : List Int) (rows : List (List Nat)) (one other : Nat), AtAll H vs [lstS K (lots.map dNs), dat K (dIs st), ndLs K rows, intS (one : Int), intS (other : Int)] ∧ LOk st.length lots ∧ one < st.length ∧ other < st.length ∧ (∀ row ∈ rows, row.length ≤ 4) ∧ rows.length ≤ 100000 ∧ Ret (dat K (dOr (rows.find? (tellsL lots st one other)))) H Q
theorem ok_first (T : Bt mg) (D : Df K mg "_law_first" s__law_first ["_law_lots_here", "_law_stock", "_law_rows_here", "_law_one", "_law_other"]) (G__law_most_served : OkD P w K mg base CX0 1 "_law_most_served" ["_law_lots_here", "_law_stock", "_law_counts"] (sp_served K)) (G__law_less : OkD P w K mg base CX0 1 "_law_less" ["_law_stock", "_law_kind"] (sp_lessT K)) :
    OkD P w K mg base CX0 2 "_law_first" ["_law_lots_here", "_law_stock", "_law_rows_here", "_law_one", "_law_other"] (sp_first K) := by
  refine OkD.of D fun fa fd F => F.ok sc_law_first (fun vs H Q E ⟨_, _, _, _, _, h, _⟩ => atLen h) (fun cdv A outer s H vs Q E hr ⟨lots, st, rows, one, other, h, g, h1, h2, hrow, hrl, kk⟩ => ?_)
  obtain ⟨x, y, z, p, q, rfl, hx, hy, hz, hp, hq⟩ := a5 h
  refine ⟨_, (pss_cons (ps_for PassesOwn.never rfl (k_pil K (pv 2)) (pg_name (i := 5) sc_law_first.nd rfl (by first | exact Or.inl rfl | exact Or.inr rfl)) (pss_cons (ps_set (i := 6) sc_law_first.nd rfl (by first | exact Or.inl rfl | exact Or.inr rfl) (pe_callTy (k_tuple K) (by rfl) T.b_tuple (by decide +kernel) (pa_cons (pe_lc (own := [("_law_at", 7)]) (g := gName 7) (tt := tYes) rfl sc_law_first.nd (pi_range1 rfl T.b_range (pa_cons (pe_callB (k_len K) (by rfl) T.b_len (by decide +kernel) (pa_cons (pv 0) pa_nil)) pa_nil)) (blkOk_by (N := N__law_first) (sc := (defScope s__law_first)) (by decide +kernel)) (fun _ _ _ _ _ => (pg_name (i := 7) sc_law_first.nd rfl (by first | exact Or.inl rfl | exact Or.inr rfl))) (fun _ _ _ _ _ => pts_nil) (fun _ _ _ _ _ => (k_cnt K hr.units (pv 5) (pa_cons (pv 7) pa_nil)))) pa_nil))) (pss_one (ps_if (pt_cmpR op_lt (pe_d G__law_most_served hr (pa_cons (pv 0) (pa_cons (pe_d G__law_less hr (pa_cons (pv 1) (pa_cons (pv 3) pa_nil))) (pa_cons (pv 6) pa_nil)))) (pe_d G__law_most_served hr (pa_cons (pv 0) (pa_cons (pe_d G__law_less hr (pa_cons (pv 1) (pa_cons (pv 4) pa_nil))) (pa_cons (pv 6) pa_nil)))) (nomark _)) (pss_one (ps_ret (pv 5))) pss_nil)))) (pss_one (ps_ret pe_non))), ?_⟩
  obtain ⟨wa, ws, ez, hwa, hws⟩ := hz
  subst ez
  have hwl : ws.length = rows.length := by rw [atLen hws, List.length_map]
  have sl0 : Sl 8 [x, y, .ref wa, p, q] (L2.start N__law_first [x, y, .ref wa, p, q]) := ⟨rfl, fun i v e => by
    match i, e with
    | 0, e => exact congrArg some e
    | 1, e => exact congrArg some e
    | 2, e => exact congrArg some e
    | 3, e => exact congrArg some e
    | 4, e => exact congrArg some e
    | i + 5, e => cases e⟩
  refine q_for (s_forLV (a := wa) (xs := ws) (sl0.var (i := 2) (v := .ref wa) (s := vS (.ref wa)) rfl rfl) (fun j σ' H' => Sl 8 [x, y, .ref wa, p, q] σ' ∧ Ex H H' ∧ rows.find? (tellsL lots st one other) = (rows.drop j).find? (tellsL lots st one other)) (fun j σ' H' q => q.2.1 _ _ hwa) (fun H1 e1 => ⟨sl0, e1, rfl⟩) ?_ ?_)
  · rintro j u σ' H' hu ⟨sl, ex, hf⟩
    have hj : j < rows.length := by rw [← hwl]; exact (List.getElem?_eq_some_iff.mp hu).1
    obtain ⟨row, hjr⟩ : ∃ row, rows[j]? = some row := ⟨_, List.getElem?_eq_getElem hj⟩
    have pu : (ndS K row).P u H := hws.get hu (by rw [List.getElem?_map, hjr]; rfl)
    have hr4 := hrow row (List.mem_of_getElem? hjr)
    have hdrop : rows.drop j = row :: rows.drop (j + 1) := by
      rw [List.drop_eq_getElem_cons hj]
      have := (List.getElem?_eq_some_iff.mp hjr).2
      rw [this]
    have sl5 : Sl 8 [x, y, .ref wa, p, q] (σ'.set 5 (some u)) := sl.set (Nat.le_refl _)
    have h55 : (σ'.set 5 (some u))[5]? = some (some u) := sl_same sl.len (by decide)
    show tSeq _ _ _ (σ'.set 5 (some u)) H'
    generalize σ'.set 5 (some u) = σ5 at sl5 h55
    have hn := g.nt
    refine q_set (s := dat K (dIs (cntL lots.length row))) (EvS.cast (s := dat K (.tuple ((List.range lots.length).map fun r => .int (row.count r : Int)))) (e_tupleL (a_cons (EvS.map' _ _ (e_lcR lots.length (fun _ => true) _ (a_cons (EvS.cast (e_lenL (a_cons (sl5.var (i := 0) (v := x) rfl (Sh.up _ _ _ _ ex hx)) a_nil)) (by rw [List.length_map])) a_nil) (by omega) (fun w => ?_) fun r H1 e1 hr2 => ⟨t_yes, fun _ => EvS.toD (e_count (l := row) ?_ ?_)⟩)) a_nil)) ?_) fun v6 H2 e2 p6 => ?_
    · show ((σ5.set 7 none).set 7 (some w)).set 7 none = σ5.set 7 none
      rw [List.set_set, List.set_set]
    · have h5 : ((wipe σ5 [7]).set 7 (some (V.int (r : Int))))[5]? = some (some u) := by
        show ((σ5.set 7 none).set 7 _)[5]? = _
        rw [List.getElem?_set_ne (by decide), List.getElem?_set_ne (by decide)]
        exact h55
      exact e_var (v := u) h5 (Sh.up _ _ _ _ (ex.trans e1) pu)
    · have h7 : ((wipe σ5 [7]).set 7 (some (V.int (r : Int))))[7]? = some (some (.int (r : Int))) := sl_same (n := 8) (by rw [wipe_length]; exact sl5.len) (by decide)
      exact e_var (v := .int (r : Int)) (s := intS (r : Int)) h7 rfl
    · unfold dIs cntL
      rw [List.map_map]
      rfl
    · have sl6 : Sl 8 [x, y, .ref wa, p, q] (σ5.set 6 (some v6)) := sl5.set (by show 5 ≤ 6; decide)
      have h56 : (σ5.set 6 (some v6))[5]? = some (some u) := sl_ne (by decide) h55
      have h66 : (σ5.set 6 (some v6))[6]? = some (some v6) := sl_same sl5.len (by decide)
      generalize σ5.set 6 (some v6) = σ6 at sl6 h56 h66
      have ex2 := ex.trans e2
      have hcl : (cntL lots.length row).length = lots.length := by unfold cntL; rw [List.length_map, List.length_range]
      have hc0 : ∀ c ∈ cntL lots.length row, 0 ≤ c := fun c hc => by
        obtain ⟨r, _, e⟩ := List.mem_map.mp hc
        rw [← e]
        exact Int.natCast_nonneg _
      have hll : ∀ k, (lessL st k).length = st.length := fun k => by unfold lessL; rw [List.length_set]
      have es : ∀ (i : Nat) (v : V) (k : Nat), [x, y, .ref wa, p, q][i]? = some v → v = .int (k : Int) → k < st.length → EvS (tCall (sp_served K) [] E0 (tCons (tVar 0) (tCons (tCall (sp_lessT K) [] E0 (tCons (tVar 1) (tCons (tVar i) tNil))) (tCons (tVar 6) tNil)))) σ6 H2 (intS (msv lots (lessL st k) (cntL lots.length row))) := fun i v k e1 e3 hk => by
        subst e3
        refine e_call (a_cons (sl6.var (i := 0) (v := x) rfl (Sh.up _ _ _ _ ex2 hx)) (a_cons (e_call (s := tupS (lessL st k)) (a_cons (sl6.var (i := 1) (v := y) rfl (Sh.up _ _ _ _ ex2 hy)) (a_cons (sl6.var (i := i) (v := .int (k : Int)) (s := intS (k : Int)) e1 rfl) a_nil)) fun vs H3 pp Q q => ⟨st, k, pp, hk, g.n8, q⟩) (a_cons (e_var (v := v6) h66 p6) a_nil))) fun vs H3 pp Q q => ⟨lots, lessL st k, _, pp, by rw [hll]; exact g, hcl, hc0, csum_cnt hr4, q⟩
      refine s_when (b := tellsL lots st one other row) (t_test (e_I0 (g := fun i j => .bl (decide (i < j))) (es 3 p one rfl hp h1) (es 4 q other rfl hq h2))) (fun hc H3 e3 => ?_) (fun hc H3 e3 => ?_)
      · refine s_ret (Q := Q) (s := dat K (dNs row)) (e_var (v := u) h56 ?_) fun v H4 e4 pv => kk v H4 (ex2.trans (e3.trans e4)) ?_
        · obtain ⟨a, o, xs, rfl, g1, g2, g3⟩ := Sh.up _ _ _ _ (ex2.trans e3) pu
          exact .tup (.inl (.inr ⟨o, g1⟩)) g3
        · rw [hf, hdrop, List.find?_cons_of_pos hc]
          exact pv
      · refine ⟨sl6, ex2.trans e3, ?_⟩
        rw [hf, hdrop, List.find?_cons_of_neg (by rw [hc]; decide)]
  · rintro σ' H' ⟨sl, ex, hf⟩
    rw [hwl, List.drop_length] at hf
    refine (s_retR (D := { nx := fun _ H' => Q .non H', rt := Q }) (s := dat K (dOr (rows.find? (tellsL lots st one other)))) (EvS.cast (e_non (K := K)) (by rw [hf]; rfl)) (kk.of ex) : tRet _ { nx := fun _ H' => Q .non H', rt := Q } σ' H')
end
end K45
/-! The law's own defs: draws. -/
namespace K45
open PySem L2 RZ
section
variable {K : Fg} {σ : L2.St} {H : Hp} {ta tb te : TE}
theorem e_ixV {a : Addr} {xs : List V} {i : Nat} {v : V} (ha : EvS ta σ H (vS (.ref a))) (hq : H a = some (.lst xs)) (hb : EvS tb σ H (intS (i : Int))) (h : xs[i]? = some v) : EvS (tOp (rIx K) ta tb) σ H (vS v) := fun H1 e Q q =>
  ha H1 e _ fun x H2 e2 px => hb H2 (e.trans e2) _ fun y H3 e3 py => by
    have px : x = .ref a := px
    have py : y = .int (i : Int) := py
    subst px py
    exact .inl ⟨a, xs, (i : Int), v, rfl, rfl, SqL.of (e3 _ _ (e2 _ _ (e _ _ hq))), by rw [atI_nat]; exact h, q v H3 (e2.trans e3) rfl⟩
theorem e_ixVm {a : Addr} {xs : List V} {v : V} (ha : EvS ta σ H (vS (.ref a))) (hq : H a = some (.lst xs)) (hb : EvS tb σ H (intS (-1))) (h : xs.getLast? = some v) : EvS (tOp (rIx K) ta tb) σ H (vS v) := fun H1 e Q q =>
  ha H1 e _ fun x H2 e2 px => hb H2 (e.trans e2) _ fun y H3 e3 py => by
    have px : x = .ref a := px
    have py : y = .int (-1) := py
    subst px py
    exact .inl ⟨a, xs, -1, v, rfl, rfl, SqL.of (e3 _ _ (e2 _ _ (e _ _ hq))), atI_neg h, q v H3 (e2.trans e3) rfl⟩
theorem e_neNilI {a : Addr} {ns : List Int} (ha : EvS ta σ H (vS (.ref a))) (hq : H a = some (.lst (ns.map V.int))) : EvS (tOp (rNeD K) ta (tLst tNil)) σ H (blS (!decide (ns = []))) := by
  have ha2 : EvS ta σ H (lstS K (ns.map .int)) := fun H1 e Q q => ha H1 e _ fun v H2 e2 pv => q v H2 e2 ⟨a, _, pv, e2 _ _ (e _ _ hq), tpAll_ints ns⟩
  refine e_two (s2 := lstS K []) ha2 (e_lst a_nil) fun x y H1 ex px py Q q => ?_
  obtain ⟨a, xs, rfl, h1, h2⟩ := px
  obtain ⟨b, ys, rfl, g1, g2⟩ := py
  refine ⟨.list (ns.map .int), .list [], .lst (SqL.of h1) h2.dp, .lst (SqL.of g1) g2.dp, ?_, by rfl, q _ H1 (Evl.Ex.refl _) ?_⟩
  · unfold SeqAt.shaped
    have : ∀ l : List Int, PyData.canLayAll0 (l.map PyData.int) = true := fun l => by
      induction l with
      | nil => rfl
      | cons n l ih => simp only [List.map_cons, PyData.canLayAll0, ih]; rfl
    have d0 : ∀ l : List Int, PyData.depthAll (l.map PyData.int) ≤ 20 := fun l => by
      induction l with
      | nil => exact Nat.zero_le _
      | cons n l ih => exact Nat.max_le.mpr ⟨Nat.zero_le _, ih⟩
    rw [Bool.and_eq_true, decide_eq_true_eq]
    refine ⟨by simp only [PyData.canLay0, this], ?_⟩
    have := d0 ns
    show PyData.depthAll _ + 1 ≤ 64
    omega
  · show V.bl _ = V.bl _
    cases ns <;> rfl
end
section
variable {P : Program} {w : World} {K : Fg} {mg : Str → Option Value} {base : Heap}
abbrev s__law_draw : Stmt := topS 57
abbrev N__law_draw : List Str := ["_law_heap_here", "_law_many", "_law_rest"]
theorem sc_law_draw : FnScope N__law_draw ["_law_heap_here", "_law_many"] (defScope s__law_draw) := ⟨rfl, rfl, rfl, by decide +kernel, rfl, by decide +kernel, by decide +kernel⟩
/-- all but two objects are as they were -/
def Dr (oa ia : Addr) (H H2 : Hp) : Prop := ∀ b o, b ≠ oa → b ≠ ia → H b = some o → H2 b = some o
structure DrAt (oa ia : Addr) (xs : List Int) (n : Int) (H : Hp) : Prop where
  o : H oa = some (.lst [.ref ia, .int n])
  i : H ia = some (.lst (xs.map V.int))
theorem DrAt.up {oa ia : Addr} {xs : List Int} {n : Int} {H H2 : Hp} (h : DrAt oa ia xs n H) (e : Ex H H2) : DrAt oa ia xs n H2 := ⟨e _ _ h.o, e _ _ h.i⟩
theorem DrAt.put {oa ia : Addr} {xs ys : List Int} {n : Int} {H : Hp} (h : DrAt oa ia xs n H) : DrAt oa ia ys n (upd H ia (.lst (ys.map V.int))) := ⟨by
  have ne : oa ≠ ia := fun z => by
    have h1 := h.o
    have h2 := h.i
    rw [z, h2] at h1
    cases xs with
    | nil => cases h1
    | cons a l => cases h1
  rw [upd_ne ne]; exact h.o, upd_same⟩
def sp_drawC : Sp := fun vs H Q _ => ∃ (oa ia : Addr) (m : Int) (xs : List Int) (n : Int), vs = [.ref oa, .int m] ∧ 0 < m ∧ m < 1073741824 ∧ oa ≠ ia ∧ DrAt oa ia xs n H ∧ xs.length ≤ 100 ∧ -2147483648 < n ∧ n < 2147483648 ∧
  ∀ (r : Int) (ys : List Int) (n' : Int) (H2 : Hp), 0 ≤ r → r < m → ys.length ≤ 100 → -2147483648 < n' → n' < 2147483648 → Dr oa ia H H2 → DrAt oa ia ys n' H2 → Q (.int r) H2
theorem ok_drawC (T : Bt mg) (D : Df K mg "_law_draw" s__law_draw ["_law_heap_here", "_law_many"]) : OkD P w K mg base CX0 1 "_law_draw" ["_law_heap_here", "_law_many"] sp_drawC := by
  refine OkD.of D fun fa fd F => F.ok sc_law_draw (fun vs H Q E ⟨_, _, _, _, _, h, _⟩ => by rw [h]; rfl) (fun cdv A outer s H vs Q E hr ⟨oa, ia, m, xs0, n, ev, m0, m1, ne, hd, hl, n0, n1, kk⟩ => ?_)
  subst ev
  refine ⟨_, (pss_cons (ps_while PassesOwn.never (PW.pt (pw_and (pt_cmpR (k_neD K hr.units) (pe_ix (k_ix K) (pv 0) pe_int (fun _ _ => rfl)) (pe_lst pa_nil) (nomark _)) (pw_and1 (pt_cmpR op_eq (pe_ix (k_ix K) (pe_ix (k_ix K) (pv 0) pe_int (fun _ _ => rfl)) (pe_un un_neg pe_int) (fun _ _ => rfl)) pe_int (nomark _))))) (pss_one (ps_expr (pe_bm0 PySem.F.plainAttrs_list PySem.F.slot_list_pop PySem.F.type_list_pop mt_pop (pe_ix (k_ix K) (pv 0) pe_int (fun _ _ => rfl)))))) (pss_cons (ps_if (pt_cmpR (k_neD K hr.units) (pe_ix (k_ix K) (pv 0) pe_int (fun _ _ => rfl)) (pe_lst pa_nil) (nomark _)) (pss_cons (ps_set (i := 2) sc_law_draw.nd rfl (by first | exact Or.inl rfl | exact Or.inr rfl) (pe_bm0 PySem.F.plainAttrs_list PySem.F.slot_list_pop PySem.F.type_list_pop mt_pop (pe_ix (k_ix K) (pv 0) pe_int (fun _ _ => rfl)))) (pss_cons (ps_expr (pe_bm PySem.F.plainAttrs_list PySem.F.slot_list_append PySem.F.type_list_append mt_append (pe_ix (k_ix K) (pv 0) pe_int (fun _ _ => rfl)) (pa_cons (pe_op op_fdiv (pv 2) (pv 1)) pa_nil))) (pss_one (ps_ret (pe_op op_mod (pe_callTy call_int1 (by rfl) T.b_int (by decide +kernel) (pa_cons (pv 2) pa_nil)) (pv 1)))))) pss_nil) (pss_cons (ps_asg (pe_op op_mod (pe_callTy call_int1 (by rfl) T.b_int (by decide +kernel) (pa_cons (pe_op op_add (pe_op op_mul (pe_ix (k_ix K) (pv 0) pe_int (fun _ _ => rfl)) pe_int) pe_int) pa_nil)) pe_int) (pg_sub (pv 0) pe_int set_list)) (pss_one (ps_ret (pe_op op_mod (pe_callTy call_int1 (by rfl) T.b_int (by decide +kernel) (pa_cons (pe_op op_fdiv (pe_ix (k_ix K) (pv 0) pe_int (fun _ _ => rfl)) pe_int) pa_nil)) (pv 1))))))), ?_⟩
  have sl0 : Sl 3 [.ref oa, .int m] (L2.start N__law_draw [.ref oa, .int m]) := ⟨rfl, fun i v e => by
    match i, e with
    | 0, e => exact congrArg some e
    | 1, e => exact congrArg some e
    | i + 2, e => cases e⟩
  have ein : ∀ {σ' : L2.St} {H' : Hp} {xs : List Int}, Sl 3 [.ref oa, .int m] σ' → DrAt oa ia xs n H' → EvS (tOp (rIx K) (tVar 0) (tC (.int 0))) σ' H' (vS (.ref ia)) := fun sl d => e_ixV (a := oa) (xs := [.ref ia, .int n]) (i := 0) (sl.var (i := 0) (v := .ref oa) (s := vS (.ref oa)) rfl rfl) d.o (e_int (i := 0)) rfl
  refine q_whileW (b := fun _ _ _ => True) (fun k σ' H' => Sl 3 [.ref oa, .int m] σ' ∧ ∃ xs, k = xs.length ∧ xs.length ≤ 100 ∧ DrAt oa ia xs n H' ∧ Dr oa ia H H') xs0.length ⟨sl0, xs0, rfl, hl, hd, fun b o _ _ q => q⟩ ?_
  rintro k σ' H' ⟨sl, xs, rfl, hl, hd, dr⟩
  have hlast : xs ≠ [] → (xs.map V.int).getLast? = some (.int (xs.getLast?.getD 0)) := fun z => by
    rw [List.getLast?_map, List.getLast?_eq_some_getLast z]
    rfl
  have hpop : xs ≠ [] → (xs.map V.int)[(xs.map V.int).length - 1]? = some (.int (xs.getLast?.getD 0)) := fun z => by
    rw [← List.getLast?_eq_getElem?]
    exact hlast z
  have hdl : (xs.map V.int).dropLast = xs.dropLast.map V.int := (List.map_dropLast ..).symm
  have hne : ∀ {c : Bool}, (!decide (xs = [])) = true → xs ≠ [] := fun h z => by rw [decide_eq_true z] at h; cases h
  refine ⟨(!decide (xs = [])) && decide (xs.getLast?.getD 0 = 0), t_and (t_test (e_neNilI (ein sl hd) hd.i)) (fun hc => t_test (e_eqI (e_ixVm (v := .int (xs.getLast?.getD 0)) (ein sl hd) hd.i (e_un e_int) (hlast (hne (c := true) hc))) e_int)), fun hb H1 e1 => ?_, fun hb H1 e1 => ?_⟩
  · rw [Bool.and_eq_true] at hb
    have nz := hne (c := true) hb.1
    have hd1 := hd.up e1
    refine ein sl hd1 H1 (Evl.Ex.refl H1) _ fun v H2 e2 pv => ?_
    have pv : v = .ref ia := pv
    subst pv
    have hd2 := hd1.up e2
    refine ⟨.inl ⟨rfl, _, SqL.of hd2.i⟩, ia, _, _, rfl, rfl, hd2.i, hpop nz, xs.length - 1, Nat.sub_lt (List.length_pos_iff.mpr nz) (by decide), sl, xs.dropLast, by rw [List.length_dropLast], by rw [List.length_dropLast]; omega, ?_, fun b o z1 z2 q => ?_⟩
    · rw [hdl]
      exact hd2.put
    · rw [upd_ne z2]
      exact e2 _ _ (e1 _ _ (dr b o z1 z2 q))
  · have hd1 := hd.up e1
    have dr1 : Dr oa ia H H1 := fun b o z1 z2 q => e1 _ _ (dr b o z1 z2 q)
    have em : ∀ {σ2 : L2.St} {H2 : Hp}, Sl 3 [.ref oa, .int m] σ2 → EvS (tVar 1) σ2 H2 (intS m) := fun sl => sl.var (i := 1) (v := .int m) (s := intS m) rfl rfl
    refine q_when (t_test (e_neNilI (ein sl hd1) hd1.i)) (fun hc H2 e2 => ?_) (fun hc H2 e2 => ?_)
    · have nz := hne (c := true) hc
      have hd2 := hd1.up e2
      refine ein sl hd2 H2 (Evl.Ex.refl H2) _ fun v H3 e3 pv => ?_
      have pv : v = .ref ia := pv
      subst pv
      have hd3 := hd2.up e3
      refine ⟨.inl ⟨rfl, _, SqL.of hd3.i⟩, ia, _, _, rfl, rfl, hd3.i, hpop nz, ?_⟩
      rw [hdl]
      have hd4 : DrAt oa ia xs.dropLast n (upd H3 ia (.lst (xs.dropLast.map V.int))) := hd3.put
      have dr4 : Dr oa ia H (upd H3 ia (.lst (xs.dropLast.map V.int))) := fun b o z1 z2 q => by
        rw [upd_ne z2]
        exact e3 _ _ (e2 _ _ (dr1 b o z1 z2 q))
      generalize upd H3 ia (.lst (xs.dropLast.map V.int)) = H4 at hd4 dr4
      generalize xs.getLast?.getD 0 = lv
      have sl2 : Sl 3 [.ref oa, .int m] (σ'.set 2 (some (.int lv))) := sl.set (Nat.le_refl _)
      have h22 : (σ'.set 2 (some (V.int lv)))[2]? = some (some (.int lv)) := sl_same sl.len (by decide)
      show tSeq _ _ _ (σ'.set 2 (some (V.int lv))) H4
      generalize σ'.set 2 (some (V.int lv)) = σ2 at sl2 h22
      have ev2 : ∀ {H5 : Hp}, EvS (tVar 2) σ2 H5 (intS lv) := e_var (v := .int lv) h22 rfl
      refine ein sl2 hd4 H4 (Evl.Ex.refl H4) _ fun v H5 e5 pv => ?_
      have pv : v = .ref ia := pv
      subst pv
      refine ⟨.inl ⟨rfl, _, SqL.of (hd4.up e5).i⟩, ?_⟩
      refine (e_I (C := CDiv) (g := fun i j => .int (i / j)) (i := lv) (j := m) ev2 (em sl2) ⟨m0, m1⟩) H5 (Evl.Ex.refl H5) _ fun v H6 e6 pv => ?_
      have pv : v = .int (lv / m) := pv
      subst pv
      have hd6 := (hd4.up e5).up e6
      refine ⟨ia, _, _, rfl, rfl, hd6.i, ?_, ?_⟩
      · rw [List.length_map, List.length_dropLast]
        exact Nat.lt_of_lt_of_le (m := 101) (by omega) (by decide)
      · have hd7 : DrAt oa ia (xs.dropLast ++ [lv / m]) n (upd H6 ia (.lst (xs.dropLast.map V.int ++ [.int (lv / m)]))) := by
          have := hd6.put (ys := xs.dropLast ++ [lv / m])
          rw [List.map_append] at this
          exact this
        have dr7 : Dr oa ia H (upd H6 ia (.lst (xs.dropLast.map V.int ++ [.int (lv / m)]))) := fun b o z1 z2 q => by
          rw [upd_ne z2]
          exact e6 _ _ (e5 _ _ (dr4 b o z1 z2 q))
        generalize upd H6 ia (.lst (xs.dropLast.map V.int ++ [.int (lv / m)])) = H7 at hd7 dr7
        refine (e_I (C := fun _ j => 0 < j) (g := fun i j => .int (i % j)) (i := lv) (j := m) (e_intI (a_cons ev2 a_nil)) (em sl2) m0) H7 (Evl.Ex.refl H7) _ fun v H8 e8 pv => ?_
        have pv : v = .int (lv % m) := pv
        subst pv
        exact kk (lv % m) _ n H8 (Int.emod_nonneg _ (by omega)) (Int.emod_lt_of_pos _ m0) (by rw [List.length_append, List.length_dropLast, List.length_singleton]; omega) n0 n1 (fun b o z1 z2 q => e8 _ _ (dr7 b o z1 z2 q)) (hd7.up e8)
    · have hd2 := hd1.up e2
      have dr2 : Dr oa ia H H2 := fun b o z1 z2 q => e2 _ _ (dr1 b o z1 z2 q)
      have en : ∀ {H3 : Hp} {n : Int}, DrAt oa ia xs n H3 → EvS (tOp (rIx K) (tVar 0) (tC (.int 1))) σ' H3 (intS n) := fun {H3 n} d => e_ixV (a := oa) (xs := [.ref ia, .int n]) (i := 1) (v := .int n) (sl.var (i := 0) (v := .ref oa) (s := vS (.ref oa)) rfl rfl) d.o (e_int (i := 1)) rfl
      refine (e_I (C := fun _ j => 0 < j) (g := fun i j => .int (i % j)) (i := n * 69621 + 59) (j := 2147483647) (e_intI (a_cons (e_I0 (g := fun i j => .int (i + j)) (i := n * 69621) (j := 59) (e_I (C := CMul) (g := fun i j => .int (i * j)) (i := n) (j := 69621) (en hd2) e_int (.inr ⟨by decide, by decide⟩)) e_int) a_nil)) e_int (by decide)) H2 (Evl.Ex.refl H2) _ fun v H3 e3 pv => ?_
      have pv : v = .int ((n * 69621 + 59) % 2147483647) := pv
      subst pv
      have b0 : 0 ≤ (n * 69621 + 59) % 2147483647 := Int.emod_nonneg _ (by decide)
      have b1 : (n * 69621 + 59) % 2147483647 < 2147483647 := Int.emod_lt_of_pos _ (by decide)
      generalize (n * 69621 + 59) % 2147483647 = n2 at b0 b1
      have hd3 := hd2.up e3
      refine ⟨.ref oa, sl.at_ 0 _ rfl, oa, [.ref ia, .int n], 1, 1, rfl, rfl, hd3.o, rfl, ?_⟩
      have ne2 : ia ≠ oa := fun z => ne z.symm
      have hd4 : DrAt oa ia xs n2 (upd H3 oa (.lst [.ref ia, .int n2])) := ⟨upd_same, by rw [upd_ne ne2]; exact hd3.i⟩
      have dr4 : Dr oa ia H (upd H3 oa (.lst [.ref ia, .int n2])) := fun b o z1 z2 q => by
        rw [upd_ne z1]
        exact e3 _ _ (dr2 b o z1 z2 q)
      rw [show [V.ref ia, V.int n].set 1 (V.int n2) = [.ref ia, .int n2] from rfl]
      generalize upd H3 oa (.lst [.ref ia, .int n2]) = H4 at hd4 dr4 ⊢
      refine (e_I (C := fun _ j => 0 < j) (g := fun i j => .int (i % j)) (i := n2 / 32) (j := m) (e_intI (a_cons (e_I (C := CDiv) (g := fun i j => .int (i / j)) (i := n2) (j := 32) (en hd4) e_int ⟨by decide, by decide⟩) a_nil)) (em sl) m0) H4 (Evl.Ex.refl H4) _ fun v H5 e5 pv => ?_
      have pv : v = .int (n2 / 32 % m) := pv
      subst pv
      exact kk _ xs n2 H5 (Int.emod_nonneg _ (by omega)) (Int.emod_lt_of_pos _ m0) hl (by omega) (by omega) (fun b o z1 z2 q => e5 _ _ (dr4 b o z1 z2 q)) (hd4.up e5)
/-- the draw heap, told by what stays true of it; a number below another -/
def hpS : Sh := ⟨fun v H => ∃ oa ia, v = .ref oa ∧ oa ≠ ia ∧ H oa = some (drwO oa ia) ∧ H ia = some (drwI ia), fun _ _ _ e ⟨oa, ia, h1, h2, h3, h4⟩ => ⟨oa, ia, h1, h2, e _ _ h3, e _ _ h4⟩⟩
def rngS (m : Nat) : Sh := ⟨fun v _ => ∃ n : Nat, n < m ∧ v = .int (n : Int), fun _ _ _ _ h => h⟩
theorem ex_abst {oa ia : Addr} {H H2 : Hp} {xs : List Int} {n : Int} (ne : oa ≠ ia) (ho : H oa = some (drwO oa ia)) (hi : H ia = some (drwI ia)) (dr : Dr oa ia (conc H oa ia xs n) H2) : Ex H (abst H2 oa ia) := fun b o hb => by
  by_cases h1 : b = oa
  · subst h1
    rw [abst_o ne, ← ho, hb]
  · by_cases h2 : b = ia
    · subst h2
      rw [abst_i, ← hi, hb]
    · rw [abst_ne h1 h2]
      exact dr b o h1 h2 (by rw [conc_ne h1 h2]; exact hb)
def sp_draw : Sp := fun vs H Q _ => ∃ m : Nat, AtAll H vs [hpS, intS (m : Int)] ∧ 0 < m ∧ m < 1073741824 ∧ Ret (rngS m) H Q
theorem ok_draw (G : OkD P w K mg base CX0 1 "_law_draw" ["_law_heap_here", "_law_many"] sp_drawC) : OkD P w K mg base CX0 1 "_law_draw" ["_law_heap_here", "_law_many"] sp_draw := by
  obtain ⟨f, fd, F, hm, kp, b⟩ := G.ex
  refine ⟨f, fd, FnOk.draws F (fun vs H Q E ⟨_, h, _⟩ => atLen h) (fun vs H Q E ⟨m, h, m0, m1, kk⟩ => ?_), hm, kp, b⟩
  obtain ⟨x, y, rfl, ⟨oa, ia, rfl, ne, ho, hi⟩, hy⟩ := a2 h
  have hy : y = .int (m : Int) := hy
  subst hy
  refine ⟨oa, ia, ne, ho, hi, fun xs n hl n0 n1 => ⟨oa, ia, (m : Int), xs, n, rfl, by omega, by omega, ne, ⟨conc_o ne, conc_i⟩, hl, n0, n1, fun r ys n' H2 r0 r1 hl2 a0 a1 dr d => ⟨ys, n', hl2, a0, a1, d.o, d.i, kk _ _ (ex_abst ne ho hi dr) ⟨r.toNat, by omega, by rw [Int.toNat_of_nonneg r0]⟩⟩⟩⟩
end
end K45
/-! The law's own defs: the heap of draws. -/
namespace K45
open PySem L2 RZ
/-- a list of ints that is only read -/
def sqlS (K : Fg) (ns : List Int) : Sh := ⟨fun v H => ∃ a, v = .ref a ∧ SqL K H a (ns.map V.int), fun _ _ _ e ⟨a, h1, h2⟩ => ⟨a, h1, Evl.ex_l e h2⟩⟩
section
variable {K : Fg} {σ : L2.St} {H : Hp} {ta tb te : TE}
theorem e_slLq {ns : List Int} {tlo thi : TO} {lo hi : Option Int} (h : EvS te σ H (sqlS K ns)) (h1 : EvO tlo σ H lo) (h2 : EvO thi σ H hi) : EvS (tSl (rSlL K) te tlo thi) σ H (lstS K ((cutL ns lo hi).map .int)) := fun H1 e Q q =>
  h H1 e _ fun v H2 e2 ⟨a, ev, hq⟩ => h1 H2 (e.trans e2) _ fun H3 e3 => h2 H3 ((e.trans e2).trans e3) _ fun H4 e4 => by
    refine ⟨a, _, ev, Evl.ex_l (e3.trans e4) hq, fun p hp => q _ _ ((e2.trans (e3.trans e4)).trans (Evl.Ex.new hp)) ⟨p, _, rfl, upd_same, ?_⟩⟩
    rw [cutV_map]
    exact tpAll_ints _
theorem f_revL {ns : List Int} (h : EvS te σ H (lstS K (ns.map .int))) : EvF (tRevL K te) σ H (.lst (ns.reverse.map V.int)) := fun H1 e Q q =>
  h H1 e _ fun v H2 e2 ⟨a, xs, ev, hq, hd⟩ => by
    have ei := hd.ints
    subst ei
    refine ⟨a, _, ev, SqL.of hq, fun p hp => q p _ (none_back e2 hp) (e2.trans (Evl.Ex.new hp)) ?_⟩
    rw [upd_same, List.map_reverse]
end
section
variable {P : Program} {w : World} {K : Fg} {mg : Str → Option Value} {base : Heap}
abbrev s__law_heap : Stmt := topS 56
abbrev N__law_heap : List Str := ["_law_script", "_law_cells", "_law_stir", "_law_cell"]
theorem sc_law_heap : FnScope N__law_heap ["_law_script"] (defScope s__law_heap) := ⟨rfl, rfl, rfl, by decide +kernel, rfl, by decide +kernel, by decide +kernel⟩
def sp_heapC (K : Fg) : Sp := fun vs H Q _ => ∃ (ns : List Int), AtAll H vs [sqlS K ns] ∧
  ∀ (oa ia : Addr) (ys : List Int) (n' : Int) (H2 : Hp), oa ≠ ia → H oa = none → H ia = none → ys.length ≤ 100 → -2147483648 < n' → n' < 2147483648 → Ex H H2 → DrAt oa ia ys n' H2 → Q (.ref oa) H2
theorem ok_heapC (T : Bt mg) (D : Df K mg "_law_heap" s__law_heap ["_law_script"]) : OkD P w K mg base CX0 1 "_law_heap" ["_law_script"] (sp_heapC K) := by
  refine OkD.of D fun fa fd F => F.ok sc_law_heap (fun vs H Q E ⟨_, h, _⟩ => atLen h) (fun cdv A outer s H vs Q E hr ⟨ns, h, kk⟩ => ?_)
  obtain ⟨x, rfl, hx⟩ := a1 h
  refine ⟨_, (pss_cons (ps_par (i := 1) (j := 2) (by rfl) sc_law_heap.nd rfl rfl (by decide) rfl rfl (pa_cons (pe_lc (own := [("_law_cell", 3)]) (g := gName 3) (tt := tYes) rfl sc_law_heap.nd (k_pil K (pe_slice (k_slL K) (pv 0) po_none (po_some pe_int))) (blkOk_by (N := N__law_heap) (sc := (defScope s__law_heap)) (by decide +kernel)) (fun _ _ _ _ _ => (pg_name (i := 3) sc_law_heap.nd rfl (by first | exact Or.inl rfl | exact Or.inr rfl))) (fun _ _ _ _ _ => pts_nil) (fun _ _ _ _ _ => (pe_op op_add (pe_op op_mul pe_int (pe_callB call_abs (by rfl) T.b_abs (by decide +kernel) (pa_cons (pv 3) pa_nil))) (pe_callTy call_int1 (by rfl) T.b_int (by decide +kernel) (pa_cons (pe_cmpR op_lt (pv 3) pe_int (nomark _)) pa_nil))))) (pa_cons pe_int pa_nil)) (by rfl)) (pss_cons (ps_for PassesOwn.never rfl (k_pil K (pv 1)) (pg_name (i := 3) sc_law_heap.nd rfl (by first | exact Or.inl rfl | exact Or.inr rfl)) (pss_one (ps_set (i := 2) sc_law_heap.nd rfl (by first | exact Or.inl rfl | exact Or.inr rfl) (pe_op op_mod (pe_callTy call_int1 (by rfl) T.b_int (by decide +kernel) (pa_cons (pe_op op_add (pe_op op_add (pe_op op_mul (pv 2) pe_int) (pe_op op_mod (pe_callTy call_int1 (by rfl) T.b_int (by decide +kernel) (pa_cons (pv 3) pa_nil)) pe_int)) pe_int) pa_nil)) pe_int)))) (pss_one (ps_ret (pe_lst (pa_cons (k_revL K (pe_lc (own := [("_law_cell", 3)]) (g := gName 3) rfl sc_law_heap.nd (k_pil K (pv 1)) (blkOk_by (N := N__law_heap) (sc := (defScope s__law_heap)) (by decide +kernel)) (fun _ _ _ _ _ => (pg_name (i := 3) sc_law_heap.nd rfl (by first | exact Or.inl rfl | exact Or.inr rfl))) (fun _ _ _ _ _ => (pts_one (pt_cmpR op_ge (pv 3) (pe_op op_pow pe_int pe_int) (nomark _)))) (fun _ _ _ _ _ => (pv 3)))) (pa_cons (pv 2) pa_nil))))))), ?_⟩
  have hlc : (cutL ns none (some 60)).length ≤ 60 := by
    unfold cutL
    rw [HT.sIx_none, show (some 60 : Option Int) = some ((60 : Nat) : Int) from rfl, HT.sIx_nat, List.length_take]
    omega
  have ecut : EvS (tSl (rSlL K) (tVar 0) tNoPart (tPart (tC (.int 60)))) (wipe (L2.start N__law_heap [x]) []) H (lstS K ((cutL ns none (some 60)).map .int)) := e_slLq (e_var (v := x) rfl hx) o_none (o_some e_int)
  have ecut : EvS (tSl (rSlL K) (tVar 0) tNoPart (tPart (tC (.int 60)))) (L2.start N__law_heap [x]) H (lstS K ((cutL ns none (some 60)).map .int)) := e_slLq (e_var (v := x) rfl hx) o_none (o_some e_int)
  generalize cutL ns none (some 60) = cs at hlc ecut
  refine q_parS (s1 := lstS K ((cs.map fun c => 2 * (if c < 0 then -c else c) + (if decide (c < 0) = true then 1 else 0)).map .int)) (s2 := intS 60167) (EvS.cast (EvS.map' cs (fun c => .int (2 * (if c < 0 then -c else c) + (if decide (c < 0) = true then 1 else 0))) (e_lcL cs PyData.int (fun _ => true) _ ecut (by omega) (fun _ => rfl) fun c v H1 ex hc hv => ⟨t_yes, fun _ => EvS.toD ?_⟩)) (by rw [List.map_map]; rfl)) e_int fun v1 v2 H1 e1 p1 p2 => ?_
  · have ec : ∀ {H2 : Hp}, EvS (tVar 3) ((wipe (L2.start N__law_heap [x]) [3]).set 3 (some v)) H2 (intS c) := e_var (v := v) rfl hv.int_inv
    exact e_I0 (g := fun i j => .int (i + j)) (e_I (C := CMul) (g := fun i j => .int (i * j)) e_int (e_abs (a_cons ec a_nil)) (.inl ⟨by decide, by decide⟩)) (e_intB (a_cons (e_I0 (g := fun i j => .bl (decide (i < j))) ec e_int) a_nil))
  generalize hcs : (cs.map fun c => 2 * (if c < 0 then -c else c) + (if decide (c < 0) = true then 1 else 0)) = ds at p1
  have hdl : ds.length ≤ 60 := by rw [← hcs, List.length_map]; exact hlc
  have p2 : v2 = .int 60167 := p2
  subst p2
  have sl0 : Sl 4 [x, v1] (((L2.start N__law_heap [x]).set 1 (some v1)).set 2 (some (.int 60167))) := ⟨rfl, fun i v e => by
    match i, e with
    | 0, e => exact congrArg some e
    | 1, e => exact congrArg some e
    | i + 2, e => cases e⟩
  refine q_for (s_forL (sl0.var (i := 1) (v := v1) rfl p1) fun a xs H2 e2 ha hxs => ⟨fun i σ' H' => Sl 4 [x, v1] σ' ∧ Ex H2 H' ∧ ∃ n : Int, σ'[2]? = some (some (.int n)) ∧ -2147483648 < n ∧ n < 2147483648, ⟨sl0, Evl.Ex.refl _, 60167, rfl, by decide, by decide⟩, fun i σ' H' q => ⟨q.2.1 _ _ ha, Gt.of_ex q.2.1⟩, ?_, ?_⟩)
  · rintro i d w σ' H' hd hw ⟨sl, ex, n, h2, n0, n1⟩
    obtain ⟨c, _, rfl⟩ : ∃ c, ds[i]? = some c ∧ PyData.int c = d := by
      rw [List.getElem?_map] at hd
      cases q : ds[i]? with
      | none => rw [q] at hd; cases hd
      | some c => exact ⟨c, rfl, by rw [q] at hd; exact Option.some.inj hd⟩
    have hw : w = .int c := hw.int_inv
    subst hw
    have sl3 : Sl 4 [x, v1] (σ'.set 3 (some (.int c))) := sl.set (by show 2 ≤ 3; decide)
    have h23 : (σ'.set 3 (some (V.int c)))[2]? = some (some (.int n)) := sl_ne (by decide) h2
    have h33 : (σ'.set 3 (some (V.int c)))[3]? = some (some (.int c)) := sl_same sl.len (by decide)
    show tAsg _ _ _ (σ'.set 3 (some (V.int c))) H'
    generalize σ'.set 3 (some (V.int c)) = σ3 at sl3 h23 h33
    have en : EvS (tVar 2) σ3 H' (intS n) := e_var (v := .int n) h23 rfl
    have ec : EvS (tVar 3) σ3 H' (intS c) := e_var (v := .int c) h33 rfl
    refine s_set (s := intS ((n * 48271 + c % 2147483563 + 43) % 2147483647)) (e_I (C := fun _ j => 0 < j) (g := fun i j => .int (i % j)) (j := 2147483647) (e_intI (a_cons (e_I0 (g := fun i j => .int (i + j)) (e_I0 (g := fun i j => .int (i + j)) (e_I (C := CMul) (g := fun i j => .int (i * j)) en e_int (.inr ⟨by decide, by decide⟩)) (e_I (C := fun _ j => 0 < j) (g := fun i j => .int (i % j)) (e_intI (a_cons ec a_nil)) e_int (by decide))) e_int) a_nil)) e_int (by decide)) fun v H3 e3 pv => ?_
    have pv : v = .int ((n * 48271 + c % 2147483563 + 43) % 2147483647) := pv
    subst pv
    have b0 : 0 ≤ (n * 48271 + c % 2147483563 + 43) % 2147483647 := Int.emod_nonneg _ (by decide)
    have b1 : (n * 48271 + c % 2147483563 + 43) % 2147483647 < 2147483647 := Int.emod_lt_of_pos _ (by decide)
    exact ⟨sl3.set (Nat.le_refl _), ex.trans e3, _, sl_same sl3.len (by decide), by omega, by omega⟩
  · rintro σ' H' ⟨sl, ex, n, h2, n0, n1⟩
    have ex0 := (e1.trans e2).trans ex
    have hf := List.length_filter_le (fun c : Int => decide (c ≥ 10 ^ 18)) ds
    dsimp only [tRet, tLst, tCons]
    refine (f_revL (ns := ds.filter fun c => decide (c ≥ 10 ^ 18)) (e_lcL ds PyData.int (fun c => decide (c ≥ 10 ^ 18)) PyData.int (sl.var (i := 1) (v := v1) rfl (Sh.up _ _ _ _ (e2.trans ex) p1)) (by omega) (fun w => ?_) fun c u H6 e6 hc hu => ⟨?_, fun _ => ?_⟩)) H' (Evl.Ex.refl H') _ fun ia H3 nia e3 kia => ?_
    · show ((σ'.set 3 none).set 3 (some w)).set 3 none = σ'.set 3 none
      rw [List.set_set, List.set_set]
    · have hu3 : ((wipe σ' [3]).set 3 (some u))[3]? = some (some u) := sl_same (n := 4) (by rw [wipe_length]; exact sl.len) (by decide)
      exact t_test (EvS.cast (e_I0 (g := fun i j => .bl (decide (j ≤ i))) (e_var (v := u) (s := intS c) hu3 hu.int_inv) (e_I (C := CPow) (g := fun i j => .int (i ^ j.toNat)) (i := 10) (j := 18) e_int e_int ⟨by decide, by decide, by decide⟩)) rfl)
    · have hu3 : ((wipe σ' [3]).set 3 (some u))[3]? = some (some u) := sl_same (n := 4) (by rw [wipe_length]; exact sl.len) (by decide)
      exact e_var (v := u) hu3 hu
    · refine ⟨.int n, h2, Nat.le_of_lt (small1000 (show 2 ≤ 1000 by decide)), fun oa hoa => kk oa ia (ds.filter fun c => decide (c ≥ 10 ^ 18)).reverse n _ (fun z => by rw [z, kia] at hoa; cases hoa) (none_back (ex0.trans e3) hoa) (none_back ex0 nia) (by rw [List.length_reverse]; omega) n0 n1 ((ex0.trans e3).trans (Evl.Ex.new hoa)) ⟨upd_same, ?_⟩⟩
      rw [upd_ne (fun z => by rw [← z, kia] at hoa; cases hoa)]
      exact kia
def sp_heap (K : Fg) : Sp := fun vs H Q _ => ∃ (ns : List Int), AtAll H vs [sqlS K ns] ∧ Ret hpS H Q
theorem ok_heap (G : OkD P w K mg base CX0 1 "_law_heap" ["_law_script"] (sp_heapC K)) : OkD P w K mg base CX0 1 "_law_heap" ["_law_script"] (sp_heap K) := by
  obtain ⟨f, fd, F, hm, kp, b⟩ := G.ex
  refine ⟨f, fd, FnOk.drawsNew F (fun vs H Q E ⟨_, h, _⟩ => atLen h) (fun vs H Q E ⟨ns, h, kk⟩ => ⟨ns, h, fun oa ia ys n' H2 ne no ni hl a0 a1 ex d => ⟨oa, ia, ys, n', ne, no, ni, hl, a0, a1, d.o, d.i, kk _ _ (fun b o hb => ?_) ⟨oa, ia, rfl, ne, abst_o ne, abst_i⟩⟩⟩), hm, kp, b⟩
  rw [abst_ne (fun z => by rw [z, no] at hb; cases hb) (fun z => by rw [z, ni] at hb; cases hb)]
  exact ex b o hb
/-! ### one of some -/
abbrev s__law_pick : Stmt := topS 58
abbrev N__law_pick : List Str := ["_law_heap_here", "_law_some"]
theorem sc_law_pick : FnScope N__law_pick ["_law_heap_here", "_law_some"] (defScope s__law_pick) := ⟨rfl, rfl, rfl, by decide +kernel, rfl, by decide +kernel, by decide +kernel⟩
def anyS (ss : List Sh) : Sh := ⟨fun v H => ∃ s ∈ ss, s.P v H, fun _ _ _ e ⟨s, h1, h2⟩ => ⟨s, h1, s.up _ _ _ e h2⟩⟩
def sp_pick : Sp := fun vs H Q _ => ∃ ss : List Sh, AtAll H vs [hpS, lsS ss] ∧ ss ≠ [] ∧ ss.length ≤ 1000 ∧ Ret (anyS ss) H Q
theorem ok_pick (T : Bt mg) (D : Df K mg "_law_pick" s__law_pick ["_law_heap_here", "_law_some"]) (G__law_draw : OkD P w K mg base CX0 1 "_law_draw" ["_law_heap_here", "_law_many"] sp_draw) : OkD P w K mg base CX0 2 "_law_pick" ["_law_heap_here", "_law_some"] sp_pick := by
  refine OkD.of D fun fa fd F => F.ok sc_law_pick (fun vs H Q E ⟨_, h, _⟩ => atLen h) (fun cdv A outer s H vs Q E hr ⟨ss, h, nz, hl, kk⟩ => ?_)
  obtain ⟨x, y, rfl, hx, a, xs, rfl, ha, hxs⟩ := a2 h
  refine ⟨_, (pss_one (ps_ret (pe_ix (k_ix K) (pv 1) (pe_d G__law_draw hr (pa_cons (pv 0) (pa_cons (pe_callB (k_len K) (by rfl) T.b_len (by decide +kernel) (pa_cons (pv 1) pa_nil)) pa_nil))) (fun _ _ => rfl)))), ?_⟩
  have hxl : xs.length = ss.length := atLen hxs
  have hpos : 0 < ss.length := List.length_pos_iff.mpr nz
  refine s_retR (fun H1 e Q q => ?_) kk
  refine ⟨.ref a, rfl, ?_⟩
  refine (e_call (s := rngS ss.length) (ss := [hpS, intS (ss.length : Int)]) (a_cons (e_var (v := x) rfl (Sh.up _ _ _ _ e hx)) (a_cons ?_ a_nil)) fun vs H3 p Q q => ⟨ss.length, p, hpos, by omega, q⟩) H1 (Evl.Ex.refl H1) _ fun v H2 e2 ⟨n, hn, ev⟩ => ?_
  · refine e_CB (ss := [vS (.ref a)]) (a_cons (e_var (v := .ref a) rfl rfl) a_nil) fun vs H2 ex p Q q => ?_
    obtain ⟨w, rfl, pw⟩ := a1 p
    have pw : w = .ref a := pw
    subst pw
    exact ⟨a, xs, rfl, .inl (SqL.of (ex _ _ (e _ _ ha))), q _ H2 (Evl.Ex.refl _) (by show V.int _ = V.int _; rw [hxl])⟩
  · subst ev
    have hx2 : xs[n]? = some xs[n] := List.getElem?_eq_getElem (by omega)
    have hs2 : ss[n]? = some ss[n] := List.getElem?_eq_getElem hn
    exact .inl ⟨a, xs, (n : Int), xs[n], rfl, rfl, SqL.of (e2 _ _ (e _ _ ha)), by rw [atI_nat]; exact hx2, q _ H2 e2 ⟨ss[n], List.getElem_mem _, Sh.up _ _ _ _ (e.trans e2) (hxs.get hx2 hs2)⟩⟩
end
end K45
/-! The law's own defs: what is drawn. -/
namespace K45
open PySem L2 RZ
/-! ### comprehensions over a range, whose tests and items are drawn -/
inductive Sel (A : Nat → Bool → Prop) (R : Nat → PyData → Prop) : Nat → List PyData → Prop
  | nil : Sel A R 0 []
  | skip {i : Nat} {ds : List PyData} : Sel A R i ds → A i false → Sel A R (i + 1) ds
  | take {i : Nat} {ds : List PyData} {d : PyData} : Sel A R i ds → A i true → R i d → Sel A R (i + 1) (ds ++ [d])
theorem Sel.len {A : Nat → Bool → Prop} {R : Nat → PyData → Prop} : ∀ {n : Nat} {ds : List PyData}, Sel A R n ds → ds.length ≤ n
  | _, _, .nil => Nat.le_refl _
  | _, _, .skip h _ => Nat.le_succ_of_le h.len
  | _, _, .take h _ _ => by
    have := h.len
    rw [List.length_append, List.length_singleton]
    omega
def EvN (tt : TT) (σ : L2.St) (H : Hp) (A : Bool → Prop) : Prop := ∀ H1, Ex H H1 → ∀ Q : Bool → Hp → Prop, (∀ b H2, A b → Ex H1 H2 → Q b H2) → tt σ H1 Q
def datP (K : Fg) (p : PyData → Prop) : Sh := ⟨fun v H => ∃ d, p d ∧ Tp K H v d, fun _ _ _ e ⟨d, h1, h2⟩ => ⟨d, h1, h2.mono (Gt.of_ex e)⟩⟩
def selS (K : Fg) (A : Nat → Bool → Prop) (R : Nat → PyData → Prop) (n : Nat) : Sh := ⟨fun v H => ∃ ds, Sel A R n ds ∧ (lstS K ds).P v H, fun _ _ _ e ⟨ds, h1, h2⟩ => ⟨ds, h1, Sh.up _ _ _ _ e h2⟩⟩
section
variable {K : Fg} {σ : L2.St} {H : Hp} {te : TE} {tt : TT}
theorem n_yes : EvN tYes σ H fun b => b = true := fun H1 _ Q q => q true H1 rfl (Evl.Ex.refl _)
theorem e_lcN {ta : TA} {j : Nat} {vs : List Nat} (n : Nat) (A : Nat → Bool → Prop) (R : Nat → PyData → Prop) (h : EvA ta σ H [intS (n : Int)]) (hn : n ≤ 1000)
    (hw : ∀ w, wipe ((wipe σ vs).set j (some w)) vs = wipe σ vs)
    (hb : ∀ (i : Nat) (H1 : Hp), Ex H H1 → i < n → EvN tt ((wipe σ vs).set j (some (.int (i : Int)))) H1 (A i) ∧ (A i true → EvS te ((wipe σ vs).set j (some (.int (i : Int)))) H1 (datP K (R i)))) :
    EvS (tLc (iRng1 ta) (gName j) tt te vs) σ H (selS K A R n) := fun H0 e0 Q q => (i_rng1 (K := K) h (by omega)) H0 e0 _ fun J H1 e1 wk D hD => by
  have exD : Ex H1 (upd H1 D (.lst [])) := Evl.Ex.new hD
  rw [Int.toNat_natCast] at wk
  refine lc_it (wk.mono (G' := fun H3 => Ex H1 H3) (fun _ z => z) fun _ _ _ _ _ _ y => y) (fun i H' => Ex H1 H' ∧ ∃ acc ds, H' D = some (.lst acc) ∧ Sel A R i ds ∧ TpAll K H' acc ds) ⟨exD, [], [], upd_same, .nil, .nil⟩ (fun i H' _ z => z.1) ?_ ?_
  · rintro i x H2 H3 hi ⟨ex2, acc, ds, hacc, hs, hall⟩ ⟨ex23, hy⟩
    have hy : x = .int ((0 : Int) + (i : Int)) := hy
    rw [Int.zero_add] at hy
    subst hy
    obtain ⟨ht, he⟩ := hb i H3 ((e0.trans e1).trans (ex2.trans ex23)) hi
    refine ⟨hw _, ht H3 (Evl.Ex.refl H3) _ fun b H4 hA e4 => ?_⟩
    have hsl := hs.len
    cases b with
    | false => exact ⟨(ex2.trans ex23).trans e4, acc, ds, e4 D _ (ex23 D _ hacc), .skip hs hA, hall.mono (Gt.of_ex (ex23.trans e4))⟩
    | true =>
      refine he hA H4 e4 _ fun y H5 e5 ⟨d, hR, py⟩ => ?_
      have at5 : H5 D = some (.lst acc) := e5 D _ (e4 D _ (ex23 D _ hacc))
      exact ⟨acc, at5, Nat.lt_of_le_of_lt (m := 1000) (by rw [hall.len]; omega) (by decide), Evl.Ex.mut (((ex2.trans ex23).trans e4).trans e5) hD, acc ++ [y], ds ++ [d], upd_same, .take hs hA hR, ((hall.mono (Gt.of_ex ((ex23.trans e4).trans e5))).snoc py).mono (Gt.upd_lst at5)⟩
  · rintro H2 ⟨ex2, acc, ds, hacc, hs, hall⟩
    exact q _ H2 (e1.trans ex2) ⟨ds, hs, D, acc, rfl, hacc, hall⟩
theorem e_tupleSel {A : Nat → Bool → Prop} {R : Nat → PyData → Prop} {n : Nat} {p : PyData → Prop} (h : EvS te σ H (selS K A R n)) (hp : ∀ ds, Sel A R n ds → p (.tuple ds)) : EvS (tCB (fun xs H Q => ∃ p ys, xs = [.ref p] ∧ ((SqL K H p ys ∧ ∀ l, H l = none → Q (.ref l) (upd H l (.tup ys))) ∨ (SqT K H p ys ∧ Q (.ref p) H))) (tCons te tNil)) σ H (datP K p) := fun H1 e Q q =>
  h H1 e _ fun v H2 e2 ⟨ds, hs, a, xs, ev, h1, h2⟩ => by
    subst ev
    exact ⟨a, xs, rfl, .inl ⟨SqL.of h1, fun l hl => q _ _ (e2.trans (Evl.Ex.new hl)) ⟨.tuple ds, hp ds hs, .tup (SqT.of upd_same) (h2.mono (Gt.of_ex (Evl.Ex.new hl)))⟩⟩⟩
/-- a draw -/
theorem e_draw {ta tb : TE} {m : Nat} (ha : EvS ta σ H hpS) (hb : EvS tb σ H (intS (m : Int))) (h0 : 0 < m) (h1 : m < 1073741824) : EvS (tCall sp_draw [] E0 (tCons ta (tCons tb tNil))) σ H (rngS m) :=
  e_call (a_cons ha (a_cons hb a_nil)) fun vs H2 p Q q => ⟨m, p, h0, h1, q⟩
theorem n_eq0 {m : Nat} (h : EvS te σ H (rngS m)) : EvN (tTest (tOp rEq te (tC (.int 0)))) σ H fun _ => True := fun H1 e Q q =>
  h H1 e _ fun v H2 e2 ⟨n, hn, ev⟩ => by
    subst ev
    exact (show tOp rEq (tC (V.int (n : Int))) (tC (V.int 0)) σ H2 (fun v H' => ∃ k, v = .bl k ∧ Q k H') from (e_eqI (i := (n : Int)) (j := 0) (e_c (v := .int (n : Int)) (σ := σ) (H := H2)) e_int) H2 (Evl.Ex.refl _) _ fun w H3 e3 pw => ⟨_, pw, q _ H3 trivial (e2.trans e3)⟩)
theorem e_ifN {t : TT} {ta tb : TE} {A : Bool → Prop} {s : Sh} (h : EvN t σ H A) (h1 : EvS ta σ H s) (h2 : EvS tb σ H s) : EvS (tIf t ta tb) σ H s := fun H1 e Q q =>
  h H1 e _ fun b H2 _ e2 => by
    cases b with
    | true => exact h1 H2 (e.trans e2) _ fun v H3 e3 p => q v H3 (e2.trans e3) p
    | false => exact h2 H2 (e.trans e2) _ fun v H3 e3 p => q v H3 (e2.trans e3) p
end
section
variable {P : Program} {w : World} {K : Fg} {mg : Str → Option Value} {base : Heap}
abbrev s__law_bounds : Stmt := topS 61
abbrev N__law_bounds : List Str := ["_law_heap_here", "_law_types", "_law_most", "_law_at"]
theorem sc_law_bounds : FnScope N__law_bounds ["_law_heap_here", "_law_types", "_law_most"] (defScope s__law_bounds) := ⟨rfl, rfl, rfl, by decide +kernel, rfl, by decide +kernel, by decide +kernel⟩
/-- bounds, each none or not above another -/
def BdOk (n most : Nat) (bl : List (Option Int)) : Prop := bl.length = n ∧ ∀ m, some m ∈ bl → 0 ≤ m ∧ m ≤ (most : Int)
def sp_bounds (K : Fg) : Sp := fun vs H Q _ => ∃ (n most : Nat), AtAll H vs [hpS, intS (n : Int), intS (most : Int)] ∧ n ≤ 12 ∧ most ≤ 1000 ∧ Ret (datP K fun d => ∃ bl, d = dOs bl ∧ BdOk n most bl) H Q
theorem sel_bounds {most : Nat} : ∀ {n : Nat} {ds : List PyData}, Sel (fun _ b => b = true) (fun _ d => d = .none ∨ ∃ k : Nat, k < most + 1 ∧ d = .int (k : Int)) n ds → ∃ bl, ds = bl.map dO ∧ BdOk n most bl
  | _, _, .nil => ⟨[], rfl, rfl, fun _ h => nomatch h⟩
  | _, _, .skip _ h => nomatch h
  | _, _, .take h _ hR => by
    obtain ⟨bl, e, h1, h2⟩ := sel_bounds h
    rcases hR with rfl | ⟨k, hk, rfl⟩
    · refine ⟨bl ++ [none], by rw [e, List.map_append]; rfl, by rw [List.length_append, h1]; rfl, fun m hm => ?_⟩
      rcases List.mem_append.mp hm with q | q
      · exact h2 m q
      · cases List.mem_singleton.mp q
    · refine ⟨bl ++ [some (k : Int)], by rw [e, List.map_append]; rfl, by rw [List.length_append, h1]; rfl, fun m hm => ?_⟩
      rcases List.mem_append.mp hm with q | q
      · exact h2 m q
      · have := Option.some.inj (List.mem_singleton.mp q)
        omega
theorem ok_bounds (T : Bt mg) (D : Df K mg "_law_bounds" s__law_bounds ["_law_heap_here", "_law_types", "_law_most"]) (G__law_draw : OkD P w K mg base CX0 1 "_law_draw" ["_law_heap_here", "_law_many"] sp_draw) : OkD P w K mg base CX0 2 "_law_bounds" ["_law_heap_here", "_law_types", "_law_most"] (sp_bounds K) := by
  refine OkD.of D fun fa fd F => F.ok sc_law_bounds (fun vs H Q E ⟨_, _, h, _⟩ => atLen h) (fun cdv A outer s H vs Q E hr ⟨n, most, h, hn, hm, kk⟩ => ?_)
  obtain ⟨x, y, z, rfl, hx, hy, hz⟩ := a3 h
  refine ⟨_, (pss_one (ps_ret (pe_callTy (k_tuple K) (by rfl) T.b_tuple (by decide +kernel) (pa_cons (pe_lc (own := [("_law_at", 3)]) (g := gName 3) (tt := tYes) rfl sc_law_bounds.nd (pi_range1 rfl T.b_range (pa_cons (pv 1) pa_nil)) (blkOk_by (N := N__law_bounds) (sc := (defScope s__law_bounds)) (by decide +kernel)) (fun _ _ _ _ _ => (pg_name (i := 3) sc_law_bounds.nd rfl (by first | exact Or.inl rfl | exact Or.inr rfl))) (fun _ _ _ _ _ => pts_nil) (fun _ _ _ _ _ => (pe_ifExp (pt_cmpR op_eq (pe_d G__law_draw hr (pa_cons (pv 0) (pa_cons pe_int pa_nil))) pe_int (nomark _)) pe_non (pe_d G__law_draw hr (pa_cons (pv 0) (pa_cons (pe_op op_add (pv 2) pe_int) pa_nil)))))) pa_nil)))), ?_⟩
  refine s_retR (e_tupleSel (A := fun _ b => b = true) (R := fun _ d => d = .none ∨ ∃ k : Nat, k < most + 1 ∧ d = .int (k : Int)) (e_lcN n _ _ (a_cons (e_var (v := y) rfl hy) a_nil) (by omega) (fun _ => rfl) fun i H1 ex hi => ⟨n_yes, fun _ => ?_⟩) fun ds hs => ?_) kk
  · have e0 : ∀ {H2 : Hp}, Ex H H2 → EvS (tVar 0) ((wipe (L2.start N__law_bounds [x, y, z]) [3]).set 3 (some (.int (i : Int)))) H2 hpS := fun e => e_var (v := x) rfl (Sh.up _ _ _ _ e hx)
    refine e_ifN (n_eq0 (e_draw (m := 6) (e0 ex) e_int (by decide) (by decide))) (e_non.to fun v H2 p => ⟨.none, .inl rfl, p⟩) ((e_draw (m := most + 1) (e0 ex) (e_I0 (g := fun i j => .int (i + j)) (e_var (v := z) rfl (Sh.up _ _ _ _ ex hz)) (e_int (i := 1))) (by omega) (by omega)).to fun v H2 ⟨k, hk, ev⟩ => ⟨.int (k : Int), .inr ⟨k, hk, rfl⟩, by rw [ev]; exact .int _⟩)
  · obtain ⟨bl, e, h1⟩ := sel_bounds hs
    exact ⟨bl, by rw [e]; rfl, h1⟩
end
end K45
/-! The law's own defs: few units. -/
namespace K45
open PySem L2 RZ
section
variable {K : Fg} {σ : L2.St} {H : Hp} {te : TE} {D : Ends} {tu tz : TS}
/-- a for over range(e), e drawn -/
theorem s_forRN {j m : Nat} (h : EvS te σ H (rngS m)) (hm : m ≤ 100000)
    (k : ∀ n, n < m → ∀ H1, Ex H H1 → ∃ Pv : Nat → L2.St → Hp → Prop, Pv 0 σ H1 ∧
      (∀ (i : Nat) σ' H', i < n → Pv i σ' H' → tu { D with nx := Pv (i + 1), ct := Pv (i + 1), bk := D.nx } (σ'.set j (some (.int (i : Int)))) H') ∧ ∀ σ' H', Pv n σ' H' → D.nx σ' H') :
    tFor (iRng1 (tCons te tNil)) (gName j) tu D σ H := h H (Evl.Ex.refl H) _ fun v H1 e ⟨n, hn, ev⟩ => by
  subst ev
  refine (s_forR1 (n := (n : Int)) (H := H1) (a_cons (e_c (v := .int (n : Int)) (σ := σ)) a_nil) (by omega) fun H2 e2 => ?_ : tFor (iRng1 (tCons (tC (.int (n : Int))) tNil)) (gName j) tu D σ H1)
  obtain ⟨Pv, p0, ps, pd⟩ := k n hn H2 (e.trans e2)
  exact ⟨Pv, p0, fun i σ' H' hi q => ps i σ' H' (by omega) q, fun σ' H' q => pd σ' H' (by rw [Int.toNat_natCast] at q; exact q)⟩
end
theorem sum_set : ∀ (l : List Int) (k : Nat) (x : Int), k < l.length → (l.set k x).sum = l.sum - fn l k + x
  | a :: l, 0, x, _ => by
    show x + l.sum = a + l.sum - a + x
    omega
  | a :: l, k + 1, x, h => by
    have := sum_set l k x (by simpa using h)
    show a + (l.set k x).sum = a + l.sum - fn l k + x
    omega
theorem sum_zero (n : Nat) : (List.replicate n (0 : Int)).sum = 0 := by
  induction n with
  | zero => rfl
  | succ n ih => rw [List.replicate_succ, List.sum_cons, ih]; rfl
section
variable {P : Program} {w : World} {K : Fg} {mg : Str → Option Value} {base : Heap}
abbrev s__law_few : Stmt := topS 62
abbrev N__law_few : List Str := ["_law_heap_here", "_law_many", "_law_most", "_law_found", "_law_turn", "_law_at"]
theorem sc_law_few : FnScope N__law_few ["_law_heap_here", "_law_many", "_law_most"] (defScope s__law_few) := ⟨rfl, rfl, rfl, by decide +kernel, rfl, by decide +kernel, by decide +kernel⟩
def StOk (n most : Nat) (st : List Int) : Prop := st.length = n ∧ (∀ x ∈ st, 0 ≤ x) ∧ st.sum ≤ (most : Int)
def sp_few (K : Fg) : Sp := fun vs H Q _ => ∃ (n most : Nat), AtAll H vs [hpS, intS (n : Int), intS (most : Int)] ∧ 0 < n ∧ n ≤ 8 ∧ most ≤ 1000 ∧ Ret (datP K fun d => ∃ st, d = dIs st ∧ StOk n most st) H Q
theorem ok_few (T : Bt mg) (D : Df K mg "_law_few" s__law_few ["_law_heap_here", "_law_many", "_law_most"]) (G__law_draw : OkD P w K mg base CX0 1 "_law_draw" ["_law_heap_here", "_law_many"] sp_draw) : OkD P w K mg base CX0 2 "_law_few" ["_law_heap_here", "_law_many", "_law_most"] (sp_few K) := by
  refine OkD.of D fun fa fd F => F.ok sc_law_few (fun vs H Q E ⟨_, _, h, _⟩ => atLen h) (fun cdv A outer s H vs Q E hr ⟨n, most, h, hn0, hn, hm, kk⟩ => ?_)
  obtain ⟨x, y, z, rfl, hx, hy, hz⟩ := a3 h
  have hy : y = .int (n : Int) := hy
  have hz : z = .int (most : Int) := hz
  subst hy hz
  refine ⟨_, (pss_cons (ps_set (i := 3) sc_law_few.nd rfl (by first | exact Or.inl rfl | exact Or.inr rfl) (pe_op op_rep (pe_lst (pa_cons pe_int pa_nil)) (pv 1))) (pss_cons (ps_for PassesOwn.never rfl (pi_range1 rfl T.b_range (pa_cons (pe_ifExp (pt_cmpR op_gt (pv 1) pe_int (nomark _)) (pe_d G__law_draw hr (pa_cons (pv 0) (pa_cons (pe_op op_add (pv 2) pe_int) pa_nil))) pe_int) pa_nil)) (pg_name (i := 4) sc_law_few.nd rfl (by first | exact Or.inl rfl | exact Or.inr rfl)) (pss_cons (ps_set (i := 5) sc_law_few.nd rfl (by first | exact Or.inl rfl | exact Or.inr rfl) (pe_d G__law_draw hr (pa_cons (pv 0) (pa_cons (pv 1) pa_nil)))) (pss_one (ps_asg (pe_op op_add (pe_ix (k_ix K) (pv 3) (pv 5) (fun _ _ => rfl)) pe_int) (pg_sub (pv 3) (pv 5) set_list))))) (pss_one (ps_ret (pe_callTy (k_tuple K) (by rfl) T.b_tuple (by decide +kernel) (pa_cons (pv 3) pa_nil)))))), ?_⟩
  refine q_setF (f_rep (i := 0) (n := n) (by omega) (e_var (v := .int (n : Int)) rfl rfl)) fun f H1 nf e1 kf => ?_
  have sl0 : Sl 6 [x, .int (n : Int), .int (most : Int), .ref f] ((L2.start N__law_few [x, .int (n : Int), .int (most : Int)]).set 3 (some (.ref f))) := ⟨rfl, fun i v e => by
    match i, e with
    | 0, e => exact congrArg some e
    | 1, e => exact congrArg some e
    | 2, e => exact congrArg some e
    | 3, e => exact congrArg some e
    | i + 4, e => cases e⟩
  generalize (L2.start N__law_few [x, .int (n : Int), .int (most : Int)]).set 3 (some (.ref f)) = σ0 at sl0
  have e0 : ∀ {σ' : L2.St} {H' : Hp}, Sl 6 [x, .int (n : Int), .int (most : Int), .ref f] σ' → Ex H H' → EvS (tVar 0) σ' H' hpS := fun sl e => sl.var (i := 0) (v := x) rfl (Sh.up _ _ _ _ e hx)
  refine q_for (s_forRN (m := most + 1) (e_if (b := decide ((n : Int) > 0)) (t_test (e_I0 (g := fun i j => .bl (decide (i > j))) (sl0.var (i := 1) (v := .int (n : Int)) (s := intS (n : Int)) rfl rfl) e_int)) (fun _ => e_draw (m := most + 1) (e0 sl0 e1) (e_I0 (g := fun i j => .int (i + j)) (sl0.var (i := 2) (v := .int (most : Int)) (s := intS (most : Int)) rfl rfl) (e_int (i := 1))) (by omega) (by omega)) (fun hc => absurd (of_decide_eq_false hc) (by omega))) (by omega) fun c hc H2 e2 => ⟨fun i σ' H' => Sl 6 [x, .int (n : Int), .int (most : Int), .ref f] σ' ∧ Ex H H' ∧ ∃ st, H' f = some (.lst (st.map V.int)) ∧ StOk n i st,
    ⟨sl0, e1.trans e2, List.replicate n 0, by rw [List.map_replicate]; exact e2 _ _ kf, List.length_replicate .., fun v hv => by rw [(List.mem_replicate.mp hv).2]; exact Int.le_refl _, by rw [sum_zero]; exact Int.le_refl _⟩, ?_, ?_⟩)
  · rintro i σ' H' hi ⟨sl, ex, st, hf, h1, h2, h3⟩
    have sl4 : Sl 6 [x, .int (n : Int), .int (most : Int), .ref f] (σ'.set 4 (some (.int (i : Int)))) := sl.set (Nat.le_refl _)
    generalize σ'.set 4 (some (V.int (i : Int))) = σ4 at sl4
    refine q_set (e_draw (m := n) (e0 sl4 ex) (sl4.var (i := 1) (v := .int (n : Int)) (s := intS (n : Int)) rfl rfl) hn0 (by omega)) fun v H3 e3 ⟨k, hk, ev⟩ => ?_
    subst ev
    have sl5 : Sl 6 [x, .int (n : Int), .int (most : Int), .ref f] (σ4.set 5 (some (.int (k : Int)))) := sl4.set (by show 4 ≤ 5; decide)
    have h55 : (σ4.set 5 (some (V.int (k : Int))))[5]? = some (some (.int (k : Int))) := sl_same sl4.len (by decide)
    generalize σ4.set 5 (some (V.int (k : Int))) = σ5 at sl5 h55
    have hf3 := e3 _ _ hf
    have hk2 : k < st.length := by omega
    refine (e_I0 (g := fun i j => .int (i + j)) (i := fn st k) (j := 1) (e_ixV (a := f) (xs := st.map V.int) (i := k) (v := .int (fn st k)) (sl5.var (i := 3) (v := .ref f) (s := vS (.ref f)) rfl rfl) hf3 (e_var (v := .int (k : Int)) h55 rfl) (by rw [List.getElem?_map, fn_get hk2]; rfl)) e_int) H3 (Evl.Ex.refl H3) _ fun v H4 e4 pv => ?_
    have pv : v = .int (fn st k + 1) := pv
    subst pv
    refine ⟨.ref f, sl5.at_ 3 _ rfl, .int (k : Int), h55, f, st.map V.int, (k : Int), k, rfl, rfl, e4 _ _ hf3, by rw [List.length_map]; unfold ixN; rw [if_pos (Int.natCast_nonneg k), if_pos (by omega), Int.toNat_natCast], ?_⟩
    refine ⟨sl5, ex_upd (ex.trans (e3.trans e4)) nf, st.set k (fn st k + 1), by rw [upd_same, List.map_set], by rw [List.length_set, h1], fun v hv => ?_, ?_⟩
    · rcases List.mem_or_eq_of_mem_set hv with q | q
      · exact h2 v q
      · have := h2 (fn st k) (List.mem_of_getElem? (fn_get hk2))
        omega
    · rw [sum_set st k _ hk2]
      omega
  · rintro σ' H' ⟨sl, ex, st, hf, h1, h2, h3⟩
    refine (s_retR (D := { nx := fun _ H' => Q .non H', rt := Q }) (s := datP K fun d => ∃ st, d = dIs st ∧ StOk n most st) ((e_tupleL (K := K) (ds := st.map PyData.int) (a_cons (sl.var (i := 3) (v := .ref f) (s := lstS K (st.map PyData.int)) rfl ⟨f, _, rfl, hf, tpAll_ints st⟩) a_nil)).to fun v H2 p => ⟨dIs st, ⟨st, rfl, h1, h2, by omega⟩, p⟩) (kk.of ex) : tRet _ { nx := fun _ H' => Q .non H', rt := Q } σ' H')
end
end K45
/-! The law's own defs: lots that are drawn. -/
namespace K45
open PySem L2 RZ
theorem rgV_dN (n : Nat) : rgV 0 (n : Int) = (List.range n).map fun i : Nat => V.int (i : Int) := by
  unfold rgV
  rw [Int.sub_zero, Int.toNat_natCast]
  refine List.map_congr_left fun i _ => ?_
  rw [Int.zero_add]
theorem tpAll_dN {K : Fg} {H : Hp} (l : List Nat) : TpAll K H (l.map fun i : Nat => V.int (i : Int)) (l.map dN) := by
  induction l with
  | nil => exact .nil
  | cons a l ih => exact .cons (.int _) ih
section
variable {K : Fg} {σ : L2.St} {H : Hp} {te : TE}
theorem e_tupRg {n : Nat} (h : EvS te σ H (intS (n : Int))) (hn : n ≤ 1000) : EvS (tTupRg (tRg1 te)) σ H (dat K (dNs (List.range n))) := fun H1 e Q q =>
  h H1 e _ fun v H2 e2 pv => ⟨(n : Int), pv, RgOk.of_le (by omega) (by omega) (by omega) (by omega), fun p hp => q _ _ (e2.trans (Evl.Ex.new hp)) (by
    refine .tup (SqT.of upd_same) ?_
    rw [rgV_dN]
    exact tpAll_dN _)⟩
theorem e_listRg {n : Nat} (h : EvS te σ H (intS (n : Int))) (hn : n ≤ 1000) : EvS (tLstRg (tRg1 te)) σ H (lstS K ((List.range n).map dN)) := fun H1 e Q q =>
  h H1 e _ fun v H2 e2 pv => ⟨(n : Int), pv, RgOk.of_le (by omega) (by omega) (by omega) (by omega), fun p hp => q _ _ (e2.trans (Evl.Ex.new hp)) (by
    refine ⟨p, _, rfl, upd_same, ?_⟩
    rw [rgV_dN]
    exact tpAll_dN _)⟩
end
/-- a lot that is drawn: ascending, of kinds -/
def LotOk (nk : Nat) (l : List Nat) : Prop := l.Pairwise (· < ·) ∧ ∀ k ∈ l, k < nk
def lotP (nk : Nat) : PyData → Prop := fun d => ∃ l, d = dNs l ∧ LotOk nk l
theorem sel_lot {A : Nat → Bool → Prop} {n : Nat} {ds : List PyData} (h : Sel A (fun i d => d = dN i) n ds) : ∃ l : List Nat, ds = l.map dN ∧ LotOk n l := by
  induction h with
  | nil => exact ⟨[], rfl, .nil, fun _ h => nomatch h⟩
  | skip _ _ ih =>
    obtain ⟨l, e, h1, h2⟩ := ih
    exact ⟨l, e, h1, fun k hk => Nat.lt_succ_of_lt (h2 k hk)⟩
  | @take i ds d _ _ hR ih =>
    obtain ⟨l, e, h1, h2⟩ := ih
    refine ⟨l ++ [i], by rw [e, hR, List.map_append]; rfl, List.pairwise_append.mpr ⟨h1, List.pairwise_singleton _ _, fun a ha b hb => by rw [List.mem_singleton.mp hb]; exact h2 a ha⟩, fun k hk => ?_⟩
    rcases List.mem_append.mp hk with q | q
    · exact Nat.lt_succ_of_lt (h2 k q)
    · rw [List.mem_singleton.mp q]
      exact Nat.lt_succ_self _
/-! ### one of some, all of one shape -/
section
variable {K : Fg} {σ : L2.St} {H : Hp} {te ta : TE}
theorem e_pickU {tb : TA} {s : Sh} (n : Nat) (ha : EvS ta σ H hpS) (hb : EvA tb σ H (List.replicate (n + 1) s)) (hn : n < 100 := by decide) : EvS (tCall sp_pick [] E0 (tCons ta (tCons (tLst tb) tNil))) σ H s :=
  (e_call (s := anyS (List.replicate (n + 1) s)) (a_cons ha (a_cons (e_lstS hb (by rw [List.length_replicate]; omega)) a_nil)) fun vs H2 p Q q => ⟨_, p, by simp, by rw [List.length_replicate]; omega, q⟩).to fun v H' ⟨t, ht, p⟩ => (List.eq_of_mem_replicate ht) ▸ p
/-- a number of which something is known -/
def numS (p : Nat → Prop) : Sh := ⟨fun v _ => ∃ n : Nat, p n ∧ v = .int (n : Int), fun _ _ _ _ h => h⟩
theorem EvS.num {p : Nat → Prop} {n : Nat} (h : EvS te σ H (intS (n : Int))) (hp : p n) : EvS te σ H (numS p) := h.to fun v H' q => ⟨n, hp, q⟩
theorem EvS.datP {p : PyData → Prop} {d : PyData} (h : EvS te σ H (dat K d)) (hp : p d) : EvS te σ H (datP K p) := h.to fun v H' q => ⟨d, hp, q⟩
/-- a pair of one, drawn -/
theorem e_tup1N {m : Nat} (h : EvS te σ H (rngS m)) : EvS (tTup (tCons te tNil)) σ H (datP K (lotP m)) := fun H1 e Q q =>
  h H1 e _ fun v H2 e2 ⟨n, hn, ev⟩ => by
    subst ev
    exact ⟨Nat.le_of_lt (small1000 (show 1 ≤ 1000 by decide)), fun a ha => q _ _ (e2.trans (Evl.Ex.new ha)) ⟨dNs [n], ⟨[n], rfl, List.pairwise_singleton _ _, fun k hk => by rw [List.mem_singleton.mp hk]; exact hn⟩, .tup (SqT.of upd_same) (.cons (.int _) .nil)⟩⟩
theorem lotP_range {n : Nat} : lotP n (dNs (List.range n)) := ⟨List.range n, rfl, List.pairwise_lt_range, fun k hk => List.mem_range.mp hk⟩
theorem lotP_one {n k : Nat} (h : k < n) : lotP n (dNs [k]) := ⟨[k], rfl, List.pairwise_singleton _ _, fun j hj => by rw [List.mem_singleton.mp hj]; exact h⟩
end
section
variable {P : Program} {w : World} {K : Fg} {mg : Str → Option Value} {base : Heap}
abbrev s__law_lots : Stmt := topS 59
abbrev N__law_lots : List Str := ["_law_heap_here", "_law_kinds_here", "_law_types", "_law_found", "_law_alone", "_law_at", "_law_share", "_law_lot", "_law_kind"]
theorem sc_law_lots : FnScope N__law_lots ["_law_heap_here", "_law_kinds_here", "_law_types"] (defScope s__law_lots) := ⟨rfl, rfl, rfl, by decide +kernel, rfl, by decide +kernel, by decide +kernel⟩
/-- lots of so many types, of kinds below -/
def LotsOk (nk nt : Nat) (ls : List (List Nat)) : Prop := ls.length = nt ∧ ∀ l ∈ ls, LotOk nk l
def lotsP (K : Fg) (nk nt : Nat) : Sh := ⟨fun v H => ∃ ls, LotsOk nk nt ls ∧ (lstS K (ls.map dNs)).P v H, fun _ _ _ e ⟨ls, h1, h2⟩ => ⟨ls, h1, Sh.up _ _ _ _ e h2⟩⟩
def sp_lots (K : Fg) : Sp := fun vs H Q _ => ∃ (nk nt : Nat), AtAll H vs [hpS, intS (nk : Int), intS (nt : Int)] ∧ 0 < nk ∧ nk ≤ 8 ∧ nt ≤ 12 ∧ Ret (lotsP K nk nt) H Q
theorem ok_lots (T : Bt mg) (D : Df K mg "_law_lots" s__law_lots ["_law_heap_here", "_law_kinds_here", "_law_types"]) (G__law_draw : OkD P w K mg base CX0 1 "_law_draw" ["_law_heap_here", "_law_many"] sp_draw) (G__law_pick : OkD P w K mg base CX0 2 "_law_pick" ["_law_heap_here", "_law_some"] sp_pick) :
    OkD P w K mg base CX0 3 "_law_lots" ["_law_heap_here", "_law_kinds_here", "_law_types"] (sp_lots K) := by
  refine OkD.of D fun fa fd F => F.ok sc_law_lots (fun vs H Q E ⟨_, _, h, _⟩ => atLen h) (fun cdv A outer s H vs Q E hr ⟨nk, nt, h, n0, n8, t12, kk⟩ => ?_)
  obtain ⟨x, y, z, rfl, hx, hy, hz⟩ := a3 h
  have hy : y = .int (nk : Int) := hy
  have hz : z = .int (nt : Int) := hz
  subst hy hz
  refine ⟨_, (pss_cons (ps_par (i := 3) (j := 4) (by rfl) sc_law_lots.nd rfl rfl (by decide) rfl rfl (pa_cons (pe_lst pa_nil) (pa_cons (pe_d G__law_draw hr (pa_cons (pv 0) (pa_cons pe_int pa_nil))) pa_nil)) (by rfl)) (pss_cons (ps_for PassesOwn.never rfl (pi_range1 rfl T.b_range (pa_cons (pv 2) pa_nil)) (pg_name (i := 5) sc_law_lots.nd rfl (by first | exact Or.inl rfl | exact Or.inr rfl)) (pss_cons (ps_set (i := 6) sc_law_lots.nd rfl (by first | exact Or.inl rfl | exact Or.inr rfl) (pe_d G__law_pick hr (pa_cons (pv 0) (pa_cons (pe_lst (pa_cons pe_int (pa_cons pe_int (pa_cons pe_int pa_nil)))) pa_nil)))) (pss_cons (ps_set (i := 7) sc_law_lots.nd rfl (by first | exact Or.inl rfl | exact Or.inr rfl) (pe_callTy (k_tuple K) (by rfl) T.b_tuple (by decide +kernel) (pa_cons (pe_lc (own := [("_law_kind", 8)]) (g := gName 8) rfl sc_law_lots.nd (pi_range1 rfl T.b_range (pa_cons (pv 1) pa_nil)) (blkOk_by (N := N__law_lots) (sc := (defScope s__law_lots)) (by decide +kernel)) (fun _ _ _ _ _ => (pg_name (i := 8) sc_law_lots.nd rfl (by first | exact Or.inl rfl | exact Or.inr rfl))) (fun _ _ _ _ _ => (pts_one (pt_cmpR op_eq (pe_d G__law_draw hr (pa_cons (pv 0) (pa_cons (pv 6) pa_nil))) pe_int (nomark _)))) (fun _ _ _ _ _ => (pv 8))) pa_nil))) (pss_cons (ps_set (i := 7) sc_law_lots.nd rfl (by first | exact Or.inl rfl | exact Or.inr rfl) (pe_d G__law_pick hr (pa_cons (pv 0) (pa_cons (pe_lst (pa_cons (pv 7) (pa_cons (pv 7) (pa_cons (pv 7) (pa_cons (pv 7) (pa_cons (pe_ix (k_ix K) (pe_op k_cat (pv 3) (pe_lst (pa_cons (pv 7) pa_nil))) pe_int (fun _ _ => rfl)) (pa_cons (pe_tupRg rfl (by rfl) T.b_tuple (prg_1 (by rfl) T.b_range (pv 1))) pa_nil))))))) pa_nil)))) (pss_cons (ps_if (pt_cmpR op_eq (pv 4) pe_int (nomark _)) (pss_one (ps_set (i := 7) sc_law_lots.nd rfl (by first | exact Or.inl rfl | exact Or.inr rfl) (pe_d G__law_pick hr (pa_cons (pv 0) (pa_cons (pe_lst (pa_cons (pe_tup (pa_cons (pe_d G__law_draw hr (pa_cons (pv 0) (pa_cons (pv 1) pa_nil))) pa_nil)) (pa_cons (pe_tup (pa_cons (pe_op op_mod (pv 5) (pv 1)) pa_nil)) (pa_cons (pe_tupRg rfl (by rfl) T.b_tuple (prg_1 (by rfl) T.b_range (pv 1))) pa_nil)))) pa_nil))))) pss_nil) (pss_one (ps_expr (pe_bm PySem.F.plainAttrs_list PySem.F.slot_list_append PySem.F.type_list_append mt_append (pv 3) (pa_cons (pv 7) pa_nil))))))))) (pss_one (ps_ret (pv 3))))), ?_⟩
  refine q_parF (s := rngS 3) f_lst0 (e_draw (m := 3) (e_var (v := x) rfl hx) e_int (by decide) (by decide)) fun f v1 H1 nf e1 kf ⟨al, _, ev⟩ => ?_
  subst ev
  have sl0 : Sl 9 [x, .int (nk : Int), .int (nt : Int), .ref f, .int (al : Int)] (((L2.start N__law_lots [x, .int (nk : Int), .int (nt : Int)]).set 3 (some (.ref f))).set 4 (some (.int (al : Int)))) := ⟨rfl, fun i v e => by
    match i, e with
    | 0, e => exact congrArg some e
    | 1, e => exact congrArg some e
    | 2, e => exact congrArg some e
    | 3, e => exact congrArg some e
    | 4, e => exact congrArg some e
    | i + 5, e => cases e⟩
  generalize ((L2.start N__law_lots [x, .int (nk : Int), .int (nt : Int)]).set 3 (some (.ref f))).set 4 (some (V.int (al : Int))) = σ0 at sl0
  have e0 : ∀ {σ' : L2.St} {H' : Hp}, Sl 9 [x, .int (nk : Int), .int (nt : Int), .ref f, .int (al : Int)] σ' → Ex H H' → EvS (tVar 0) σ' H' hpS := fun sl e => sl.var (i := 0) (v := x) rfl (Sh.up _ _ _ _ e hx)
  have enk : ∀ {σ' : L2.St} {H' : Hp}, Sl 9 [x, .int (nk : Int), .int (nt : Int), .ref f, .int (al : Int)] σ' → EvS (tVar 1) σ' H' (intS (nk : Int)) := fun sl => sl.var (i := 1) (v := .int (nk : Int)) rfl rfl
  refine q_for (s_forR1 (n := (nt : Int)) (a_cons (sl0.var (i := 2) (v := .int (nt : Int)) rfl rfl) a_nil) (by omega) fun H2 e2 => ⟨fun i σ' H' => Sl 9 [x, .int (nk : Int), .int (nt : Int), .ref f, .int (al : Int)] σ' ∧ Ex H H' ∧ ∃ ls xs, LotsOk nk i ls ∧ H' f = some (.lst xs) ∧ TpAll K H' xs (ls.map dNs),
    ⟨sl0, e1.trans e2, [], [], ⟨rfl, fun _ h => nomatch h⟩, e2 _ _ kf, .nil⟩, ?_, ?_⟩)
  · rintro i σ' H' hi ⟨sl, ex, ls, xs, hls, hf, hxs⟩
    have hi : i < nt := by omega
    have sl5 : Sl 9 [x, .int (nk : Int), .int (nt : Int), .ref f, .int (al : Int)] (σ'.set 5 (some (.int (i : Int)))) := sl.set (Nat.le_refl _)
    have h55 : (σ'.set 5 (some (V.int (i : Int))))[5]? = some (some (.int (i : Int))) := sl_same sl.len (by decide)
    generalize σ'.set 5 (some (V.int (i : Int))) = σ5 at sl5 h55
    have n2 : ∀ {n : Nat} {σ' : L2.St} {H' : Hp}, 0 < n ∧ n < 1000 → EvS (tC (.int (n : Int))) σ' H' (numS fun n => 0 < n ∧ n < 1000) := fun {n σ' H'} h => (e_int (i := (n : Int))).num h
    refine q_set (s := numS fun n => 0 < n ∧ n < 1000) (e_pickU 2 (e0 sl5 ex) (a_cons (n2 (n := 2) (by decide)) (a_cons (n2 (n := 2) (by decide)) (a_cons (n2 (n := 3) (by decide)) a_nil)))) fun v6 H6 e6 ⟨m, hm, ev⟩ => ?_
    subst ev
    have sl6 : Sl 9 [x, .int (nk : Int), .int (nt : Int), .ref f, .int (al : Int)] (σ5.set 6 (some (.int (m : Int)))) := sl5.set (by show 5 ≤ 6; decide)
    have h65 : (σ5.set 6 (some (V.int (m : Int))))[5]? = some (some (.int (i : Int))) := sl_ne (by decide) h55
    have h66 : (σ5.set 6 (some (V.int (m : Int))))[6]? = some (some (.int (m : Int))) := sl_same sl5.len (by decide)
    generalize σ5.set 6 (some (V.int (m : Int))) = σ6 at sl6 h65 h66
    have ex6 := ex.trans e6
    refine q_set (s := datP K (lotP nk)) (e_tupleSel (A := fun _ _ => True) (R := fun i d => d = dN i) (e_lcN nk _ _ (a_cons (enk sl6) a_nil) (by omega) (fun w => ?_) fun j H7 e7 hj => ⟨n_eq0 (e_draw (m := m) ?_ ?_ hm.1 (by omega)), fun _ => ?_⟩) fun ds hs => ?_) fun v7 H7 e7 ⟨d7, ⟨l7, ed7, hl7⟩, p7⟩ => ?_
    · show ((σ6.set 8 none).set 8 (some w)).set 8 none = σ6.set 8 none
      rw [List.set_set, List.set_set]
    · refine e_var (v := x) ?_ (Sh.up _ _ _ _ (ex6.trans e7) hx)
      show ((σ6.set 8 none).set 8 _)[0]? = _
      rw [List.set_set, List.getElem?_set_ne (by decide)]
      exact sl6.at_ 0 _ rfl
    · refine e_var (v := .int (m : Int)) ?_ rfl
      show ((σ6.set 8 none).set 8 _)[6]? = _
      rw [List.set_set, List.getElem?_set_ne (by decide)]
      exact h66
    · refine (e_var (v := .int (j : Int)) (s := dat K (dN j)) (sl_same (n := 9) (by rw [wipe_length]; exact sl6.len) (by decide)) (.int _)).datP rfl
    · obtain ⟨l, e, h1⟩ := sel_lot hs
      exact ⟨l, by rw [e]; rfl, h1⟩
    subst ed7
    have sl7 : Sl 9 [x, .int (nk : Int), .int (nt : Int), .ref f, .int (al : Int)] (σ6.set 7 (some v7)) := sl6.set (by show 5 ≤ 7; decide)
    have h75 : (σ6.set 7 (some v7))[5]? = some (some (.int (i : Int))) := sl_ne (by decide) h65
    have h77 : (σ6.set 7 (some v7))[7]? = some (some v7) := sl_same sl6.len (by decide)
    generalize σ6.set 7 (some v7) = σ7 at sl7 h75 h77
    have ex7 := ex6.trans e7
    have hf7 := e7 _ _ (e6 _ _ hf)
    have hx7 := hxs.mono (Gt.of_ex (e6.trans e7))
    have ev7 : ∀ {H' : Hp}, Ex H7 H' → EvS (tVar 7) σ7 H' (dat K (dNs l7)) := fun e => e_var (v := v7) h77 (p7.mono (Gt.of_ex e))
    have hp7 : lotP nk (dNs l7) := ⟨l7, rfl, hl7⟩
    have hlen : ls.length = i := hls.1
    have efst : EvS (tOp (rIx K) (tOp rCat (tVar 3) (tLst (tCons (tVar 7) tNil))) (tC (.int 0))) σ7 H7 (datP K (lotP nk)) := by
      have ecat : EvS (tOp rCat (tVar 3) (tLst (tCons (tVar 7) tNil))) σ7 H7 (lstS K (ls.map dNs ++ [dNs l7])) := e_cat (sl7.var (i := 3) (v := .ref f) rfl ⟨f, xs, rfl, hf7, hx7⟩) (e_lst (ds := [dNs l7]) (a_cons (ev7 (Evl.Ex.refl _)) a_nil) (by show 1 ≤ 1000; decide)) (by rw [List.length_map, List.length_singleton]; omega)
      cases ls with
      | nil => exact (e_ixL (i := 0) (d := dNs l7) ecat e_int rfl).datP hp7
      | cons a ls => exact (e_ixL (i := 0) (d := dNs a) ecat e_int rfl).datP ⟨a, rfl, hls.2 a List.mem_cons_self⟩
    refine q_set (s := datP K (lotP nk)) (e_pickU 5 (e0 sl7 ex7) (a_cons ((ev7 (Evl.Ex.refl _)).datP hp7) (a_cons ((ev7 (Evl.Ex.refl _)).datP hp7) (a_cons ((ev7 (Evl.Ex.refl _)).datP hp7) (a_cons ((ev7 (Evl.Ex.refl _)).datP hp7) (a_cons efst (a_cons ((e_tupRg (enk sl7) (by omega)).datP lotP_range) a_nil))))))) fun v8 H8 e8 p8 => ?_
    have sl8 : Sl 9 [x, .int (nk : Int), .int (nt : Int), .ref f, .int (al : Int)] (σ7.set 7 (some v8)) := sl7.set (by show 5 ≤ 7; decide)
    have h85 : (σ7.set 7 (some v8))[5]? = some (some (.int (i : Int))) := sl_ne (by decide) h75
    have h87 : (σ7.set 7 (some v8))[7]? = some (some v8) := sl_same sl7.len (by decide)
    generalize σ7.set 7 (some v8) = σ8 at sl8 h85 h87
    have ex8 := ex7.trans e8
    have hf8 := e8 _ _ hf7
    have hx8 := hx7.mono (Gt.of_ex e8)
    have fin : ∀ {DD : Ends} {σ9 : L2.St} {v9 : V} {H9 : Hp}, (∀ σ' H', Sl 9 [x, .int (nk : Int), .int (nt : Int), .ref f, .int (al : Int)] σ' ∧ Ex H H' ∧ (∃ ls xs, LotsOk nk (i + 1) ls ∧ H' f = some (.lst xs) ∧ TpAll K H' xs (ls.map dNs)) → DD.nx σ' H') → Sl 9 [x, .int (nk : Int), .int (nt : Int), .ref f, .int (al : Int)] σ9 → σ9[7]? = some (some v9) → (datP K (lotP nk)).P v9 H9 → Ex H8 H9 →
        tDrop (tBM K "list" rAppend (tVar 3) (tCons (tVar 7) tNil)) DD σ9 H9 := fun {DD σ9 v9 H9} hD sl9 h97 ⟨d9, ⟨l9, ed9, hl9⟩, p9⟩ e9 => by
      subst ed9
      refine s_app (K := K) (d := dNs l9) (e9 _ _ hf8) (hx8.mono (Gt.of_ex e9)) (sl9.var (i := 3) (v := .ref f) (s := vS (.ref f)) rfl rfl) (e_var (v := v9) h97 p9) (by rw [List.length_map]; omega) fun w H10 e10 hd => ?_
      refine hD _ _ ⟨sl9, ex_upd (ex8.trans (e9.trans e10)) nf, ls ++ [l9], xs ++ [w], ⟨by rw [List.length_append, hlen]; rfl, fun l hl => ?_⟩, upd_same, by rw [List.map_append]; exact hd⟩
      rcases List.mem_append.mp hl with q | q
      · exact hls.2 l q
      · rw [List.mem_singleton.mp q]
        exact hl9
    refine q_if (b := decide ((al : Int) = 0)) (t_test (e_eqI (sl8.var (i := 4) (v := .int (al : Int)) (s := intS (al : Int)) rfl rfl) e_int)) (fun _ H9 e9 => ?_) (fun _ H9 e9 => ?_)
    · refine s_set (s := datP K (lotP nk)) (e_pickU 2 (e0 sl8 (ex8.trans e9)) (a_cons (e_tup1N (e_draw (m := nk) (e0 sl8 (ex8.trans e9)) (enk sl8) n0 (by omega))) (a_cons ((e_tup (ds := [dN (i % nk)]) (a_cons (EvS.toD (e_I (C := fun _ j => 0 < j) (g := fun i j => .int (i % j)) (i := (i : Int)) (j := (nk : Int)) (e_var (v := .int (i : Int)) h85 rfl) (enk sl8) (by omega))) a_nil) (by show 1 ≤ 1000; decide)).datP (lotP_one (Nat.mod_lt _ n0))) (a_cons ((e_tupRg (enk sl8) (by omega)).datP lotP_range) a_nil)))) fun v10 H10 e10 p10 => ?_
      exact fin (fun _ _ q => q) (sl8.set (by show 5 ≤ 7; decide)) (sl_same sl8.len (by decide)) p10 (e9.trans e10)
    · exact fin (fun _ _ q => q) sl8 h87 (Sh.up _ _ _ _ e9 p8) e9
  · rintro σ' H' ⟨sl, ex, ls, xs, hls, hf, hxs⟩
    rw [Int.toNat_natCast] at hls
    exact (s_retR (D := { nx := fun _ H' => Q .non H', rt := Q }) (s := lotsP K nk nt) (sl.var (i := 3) (v := .ref f) rfl ⟨ls, hls, f, xs, rfl, hf, hxs⟩) (kk.of ex) : tRet _ { nx := fun _ H' => Q .non H', rt := Q } σ' H')
end
end K45
/-! The law's own defs: the table that is made. -/
namespace K45
open PySem L2 RZ
/-- a drawn name: a sign by its place, the rest of a word -/
def nmS (f r : Str) (i k : Nat) : Str := ⟨#[f.cps.toList.getD i 0]⟩ ++ cutS r (some (k : Int)) none
abbrev kF : Str := Str.ofString "abcdefgh"
abbrev kR : Str := Str.ofString "room"
abbrev tF : Str := Str.ofString "klmnopqrstuv"
abbrev tR : Str := Str.ofString "stay"
theorem kn_len : kF.cps.toList.length = 8 := by decide +kernel
theorem tn_len : tF.cps.toList.length = 12 := by decide +kernel
theorem kn_ok : ∀ i, i < 8 → ∀ k, k < 5 → nameOk (nmS kF kR i k) = true := by decide +kernel
theorem tn_ok : ∀ i, i < 12 → ∀ k, k < 5 → nameOk (nmS tF tR i k) = true := by decide +kernel
theorem kn_lt : ∀ i, i < 7 → ∀ k, k < 5 → ∀ j, j < 5 → ltD (.str (nmS kF kR i k)) (.str (nmS kF kR (i + 1) j)) = true := by decide +kernel
theorem tn_lt : ∀ i, i < 11 → ∀ k, k < 5 → ∀ j, j < 5 → ltD (.str (nmS tF tR i k)) (.str (nmS tF tR (i + 1) j)) = true := by decide +kernel
theorem kr_len : ∀ k : Nat, k < 5 → (cutS kR (some (k : Int)) none).length ≤ 900 := by decide +kernel
theorem tr_len : ∀ k : Nat, k < 5 → (cutS tR (some (k : Int)) none).length ≤ 900 := by decide +kernel
theorem get_getD {l : List Nat} {i : Nat} (h : i < l.length) : l[i]? = some (l.getD i 0) := by
  rw [List.getD_eq_getElem?_getD, List.getElem?_eq_getElem h]
  rfl
/-- what stands at place i is so -/
def AtP {α : Type} (p : Nat → α → Prop) (l : List α) : Prop := ∀ i x, l[i]? = some x → p i x
theorem sel_at {α : Type} {enc : α → PyData} {p : Nat → α → Prop} : ∀ {n : Nat} {ds : List PyData}, Sel (fun _ b => b = true) (fun i d => ∃ x, d = enc x ∧ p i x) n ds → ∃ l : List α, ds = l.map enc ∧ l.length = n ∧ AtP p l
  | _, _, .nil => ⟨[], rfl, rfl, fun _ _ h => by simp at h⟩
  | _, _, .skip _ h => nomatch h
  | _, _, .take (i := n) h _ ⟨x, hx, hp⟩ => by
    obtain ⟨l, e, h1, h2⟩ := sel_at h
    refine ⟨l ++ [x], by rw [e, hx, List.map_append]; rfl, by rw [List.length_append, h1]; rfl, fun i y hy => ?_⟩
    by_cases hi : i < l.length
    · rw [List.getElem?_append_left hi] at hy
      exact h2 i y hy
    · have hlt := (List.getElem?_eq_some_iff.mp hy).1
      rw [List.length_append, List.length_singleton] at hlt
      have ei : i = l.length := by omega
      rw [List.getElem?_append_right (by omega), ei, Nat.sub_self] at hy
      have hy : x = y := Option.some.inj hy
      rw [ei, h1, ← hy]
      exact hp
def knP (i : Nat) (x : Str) : Prop := ∃ k, k < 5 ∧ x = nmS kF kR i k
def tyP (ls : List (List Nat)) (i : Nat) (t : Str × List Nat) : Prop := (∃ k, k < 5 ∧ t.1 = nmS tF tR i k) ∧ ls[i]? = some t.2
theorem asc_dN {l : List Nat} (h : l.Pairwise (· < ·)) : Asc (l.map dN) := fun i d e h1 h2 => by
  rw [List.getElem?_map] at h1 h2
  cases q1 : l[i]? with
  | none => rw [q1] at h1; cases h1
  | some a =>
    cases q2 : l[i + 1]? with
    | none => rw [q2] at h2; cases h2
    | some b =>
      rw [q1] at h1
      rw [q2] at h2
      have h1 := Option.some.inj h1
      have h2 := Option.some.inj h2
      subst h1 h2
      obtain ⟨l1, e1⟩ := List.getElem?_eq_some_iff.mp q1
      obtain ⟨l2, e2⟩ := List.getElem?_eq_some_iff.mp q2
      have := List.pairwise_iff_getElem.mp h i (i + 1) l1 l2 (Nat.lt_succ_self i)
      rw [e1, e2] at this
      exact decide_eq_true (by show (a : Int) < (b : Int); omega)
/-- such names and lots make a good table -/
theorem made_good {nk : Nat} {ls : List (List Nat)} {ks : List Str} {ts : List (Str × List Nat)} (n0 : 0 < nk) (n8 : nk ≤ 8) (t12 : ls.length ≤ 12) (hl : ∀ l ∈ ls, LotOk nk l) (h1 : ks.length = nk) (h2 : AtP knP ks) (h3 : ts.length = ls.length) (h4 : AtP (tyP ls) ts) :
    (Tab.mk ks ts).Good ∧ (Tab.mk ks ts).nk = nk ∧ (Tab.mk ks ts).lots = ls := by
  have hmem : ∀ t ∈ ts, LotOk nk t.2 ∧ nameOk t.1 = true := fun t ht => by
    obtain ⟨i, hi⟩ := List.getElem?_of_mem ht
    obtain ⟨⟨k, hk, e⟩, q⟩ := h4 i t hi
    have hlt := (List.getElem?_eq_some_iff.mp hi).1
    exact ⟨hl _ (List.mem_of_getElem? q), by rw [e]; exact tn_ok i (by omega) k hk⟩
  refine ⟨⟨by show 1 ≤ ks.length; omega, by show ks.length ≤ 8; omega, fun x hx => ?_, fun i d e q1 q2 => ?_, by show ts.length ≤ 12; omega, fun t ht => (hmem t ht).2, fun t ht => ⟨fun k hk => by show k < ks.length; rw [h1]; exact (hmem t ht).1.2 k hk, asc_dN (hmem t ht).1.1⟩, fun i d e q1 q2 => ?_⟩, h1, ?_⟩
  · obtain ⟨i, hi⟩ := List.getElem?_of_mem hx
    obtain ⟨k, hk, e⟩ := h2 i x hi
    have hlt := (List.getElem?_eq_some_iff.mp hi).1
    have hlt : i < ks.length := hlt
    rw [e]
    exact kn_ok i (by omega) k hk
  · show ltD d e = true
    rw [List.getElem?_map] at q1 q2
    cases r1 : ks[i]? with
    | none => rw [show (Tab.mk ks ts).kinds = ks from rfl, r1] at q1; cases q1
    | some a =>
      cases r2 : ks[i + 1]? with
      | none => rw [show (Tab.mk ks ts).kinds = ks from rfl, r2] at q2; cases q2
      | some b =>
        rw [show (Tab.mk ks ts).kinds = ks from rfl, r1] at q1
        rw [show (Tab.mk ks ts).kinds = ks from rfl, r2] at q2
        have q1 := Option.some.inj q1
        have q2 := Option.some.inj q2
        subst q1 q2
        obtain ⟨k, hk, e1⟩ := h2 i a r1
        obtain ⟨j, hj, e2⟩ := h2 (i + 1) b r2
        have hlt := (List.getElem?_eq_some_iff.mp r2).1
        rw [e1, e2]
        exact kn_lt i (by omega) k hk j hj
  · show ltD d e = true
    rw [List.getElem?_map] at q1 q2
    cases r1 : ts[i]? with
    | none => rw [show (Tab.mk ks ts).types = ts from rfl, r1] at q1; cases q1
    | some a =>
      cases r2 : ts[i + 1]? with
      | none => rw [show (Tab.mk ks ts).types = ts from rfl, r2] at q2; cases q2
      | some b =>
        rw [show (Tab.mk ks ts).types = ts from rfl, r1] at q1
        rw [show (Tab.mk ks ts).types = ts from rfl, r2] at q2
        have q1 := Option.some.inj q1
        have q2 := Option.some.inj q2
        subst q1 q2
        obtain ⟨⟨k, hk, e1⟩, _⟩ := h4 i a r1
        obtain ⟨⟨j, hj, e2⟩, _⟩ := h4 (i + 1) b r2
        have hlt := (List.getElem?_eq_some_iff.mp r2).1
        show ltD (.str a.1) (.str b.1) = true
        rw [e1, e2]
        exact tn_lt i (by omega) k hk j hj
  · refine List.ext_getElem? fun i => ?_
    show (ts.map (·.2))[i]? = ls[i]?
    rw [List.getElem?_map]
    cases r1 : ts[i]? with
    | none =>
      have := List.getElem?_eq_none_iff.mp r1
      rw [List.getElem?_eq_none (by omega)]
      rfl
    | some a => exact (h4 i a r1).2.symm
section
variable {K : Fg} {σ : L2.St} {H : Hp} {te ta td : TE}
/-- a sign and the rest of a word -/
theorem e_name {f r : Str} {i m : Nat} (ha : EvS ta σ H (intS (i : Int))) (hd : EvS td σ H (rngS m)) (hi : i < f.cps.toList.length) (hf : f.length ≤ 1000) (hr : r.length ≤ 1000) (hl : ∀ k, k < m → (cutS r (some (k : Int)) none).length ≤ 900) :
    EvS (tOp (fun x y H Q => ∃ i j : Str, x = .str i ∧ y = .str j ∧ i.length + j.length ≤ sizeLine ∧ Q (.str (i ++ j)) H) (tOp (rIx K) (tC (.str f)) ta) (tSl rSlS (tC (.str r)) (tPart td) tNoPart)) σ H (datP K fun d => ∃ x, d = .str x ∧ ∃ k, k < m ∧ x = nmS f r i k) :=
  fun H1 e Q q => (e_ixS (K := K) (e_c (v := .str f)) ha hf (get_getD hi)) H1 e _ fun v H2 e2 pv => by
    have pv : v = .str ⟨#[f.cps.toList.getD i 0]⟩ := pv
    subst pv
    refine hd H2 (e.trans e2) _ fun w H3 e3 ⟨k, hk, ew⟩ => ⟨(k : Int), ew, ⟨r, rfl, Nat.le_of_lt (small1000 hr), ?_⟩⟩
    have hlk := hl k hk
    refine ⟨_, _, rfl, rfl, ?_, q _ H3 (e2.trans e3) ⟨_, ⟨nmS f r i k, rfl, k, hk, rfl⟩, .str _⟩⟩
    refine Nat.le_of_lt (small1000 ?_)
    show 1 + _ ≤ 1000
    omega
end
/-- the class Table, as the law calls it -/
structure TbC (P : Program) (w : World) (K : Fg) (mg : Str → Option Value) (base : Heap) (C fI : Addr) (fdI : FuncData) : Prop where
  M : Mk K C fI
  F : FnOk P w K mg base CX0 6 fI fdI ["self", "kinds", "types"] (sp_tinit K C)
  gC : mg "Table" = some (.ref C)
  bI : Binds K fdI ["self", "kinds", "types"] []
  tc : TabC K C
/-- a table of such lots -/
def madeS (K : Fg) (p : Tab → Prop) : Sh := ⟨fun v H => ∃ T : Tab, T.Good ∧ p T ∧ (tabS K T).P v H, fun _ _ _ e ⟨T, h1, h2, h3⟩ => ⟨T, h1, h2, Sh.up _ _ _ _ e h3⟩⟩
section
variable {P : Program} {w : World} {K : Fg} {mg : Str → Option Value} {base : Heap} {C fI : Addr} {fdI : FuncData} {σ : L2.St} {H : Hp} {ta : TA}
theorem e_make {p q : PyData → Prop} {r : Tab → Prop} (tc : TabC K C) (ha : EvA ta σ H [datP K p, datP K q]) (hT : ∀ d e, p d → q e → ∃ T : Tab, d = dKs T ∧ e = dTys T ∧ T.Good ∧ (∀ t ∈ T.types, t.2.length ≤ 1000) ∧ r T) : EvS (tMake C (sp_tinit K C) [] E0 ta) σ H (madeS K r) := fun H1 e Q qq =>
  ha H1 e _ fun vs H2 e2 pv => by
    obtain ⟨v1, v2, rfl, ⟨d1, hp1, t1⟩, ⟨d2, hp2, t2⟩⟩ := a2 pv
    obtain ⟨T, rfl, rfl, g, ln, hr⟩ := hT _ _ hp1 hp2
    intro x dx nx nd ne
    have ex2 : Ex H2 (upd (upd H2 dx (.own x)) x (.ins C dx [])) := (Evl.Ex.new nd).trans (Evl.Ex.new (by rw [upd_ne (fun z => ne z.symm)]; exact nx))
    refine ⟨T, x, dx, v1, v2, rfl, upd_same, tc, t1.mono (Gt.of_ex ex2), t2.mono (Gt.of_ex ex2), g, ln, fun H3 hk h3 => ⟨rfl, ?_⟩⟩
    have ex3 : Ex H2 H3 := fun b o hb => by
      have hbx : b ≠ x := fun z => by rw [z, nx] at hb; cases hb
      refine hk b o hbx ?_
      rw [upd_ne hbx]
      exact Evl.Ex.new nd b o hb
    exact qq _ H3 (e2.trans ex3) ⟨T, g, hr, x, C, dx, v1, v2, rfl, h3, tc, t1.mono (Gt.of_ex ex3), t2.mono (Gt.of_ex ex3)⟩
abbrev s__law_made : Stmt := topS 60
abbrev N__law_made : List Str := ["_law_heap_here", "_law_kinds_here", "_law_lots_here", "_law_names", "_law_at"]
theorem sc_law_made : FnScope N__law_made ["_law_heap_here", "_law_kinds_here", "_law_lots_here"] (defScope s__law_made) := ⟨rfl, rfl, rfl, by decide +kernel, rfl, by decide +kernel, by decide +kernel⟩
def sp_made (K : Fg) : Sp := fun vs H Q _ => ∃ (nk : Nat) (ls : List (List Nat)), AtAll H vs [hpS, intS (nk : Int), lstS K (ls.map dNs)] ∧ 0 < nk ∧ nk ≤ 8 ∧ ls.length ≤ 12 ∧ (∀ l ∈ ls, LotOk nk l) ∧ Ret (madeS K fun T => T.nk = nk ∧ T.lots = ls) H Q
theorem ok_made (T : Bt mg) (D : Df K mg "_law_made" s__law_made ["_law_heap_here", "_law_kinds_here", "_law_lots_here"]) (TB : TbC P w K mg base C fI fdI) (G__law_draw : OkD P w K mg base CX0 1 "_law_draw" ["_law_heap_here", "_law_many"] sp_draw) :
    OkD P w K mg base CX0 8 "_law_made" ["_law_heap_here", "_law_kinds_here", "_law_lots_here"] (sp_made K) := by
  refine OkD.of D fun fa fd F => F.ok sc_law_made (fun vs H Q E ⟨_, _, h, _⟩ => atLen h) (fun cdv A outer s H vs Q E hr ⟨nk, ls, h, n0, n8, t12, hls, kk⟩ => ?_)
  obtain ⟨x, y, z, rfl, hx, hy, hz⟩ := a3 h
  have hy : y = .int (nk : Int) := hy
  subst hy
  refine ⟨_, (pss_cons (ps_set (i := 3) sc_law_made.nd rfl (by first | exact Or.inl rfl | exact Or.inr rfl) (pe_callTy (k_tuple K) (by rfl) T.b_tuple (by decide +kernel) (pa_cons (pe_lc (own := [("_law_at", 4)]) (g := gName 4) (tt := tYes) rfl sc_law_made.nd (pi_range1 rfl T.b_range (pa_cons (pv 1) pa_nil)) (blkOk_by (N := N__law_made) (sc := (defScope s__law_made)) (by decide +kernel)) (fun _ _ _ _ _ => (pg_name (i := 4) sc_law_made.nd rfl (by first | exact Or.inl rfl | exact Or.inr rfl))) (fun _ _ _ _ _ => pts_nil) (fun _ _ _ _ _ => (pe_op op_add_str (pe_ix (k_ix K) pe_str (pv 4) (fun _ _ => rfl)) (pe_slice sl_str pe_str (po_some (pe_d G__law_draw hr (pa_cons (pv 0) (pa_cons pe_int pa_nil)))) po_none)))) pa_nil))) (pss_one (ps_ret (pe_make TB.M TB.F hr rfl TB.gC TB.bI .nil pass0 (pa_cons (pv 3) (pa_cons (pe_callTy (k_tuple K) (by rfl) T.b_tuple (by decide +kernel) (pa_cons (pe_lc (own := [("_law_at", 4)]) (g := gName 4) (tt := tYes) rfl sc_law_made.nd (pi_range1 rfl T.b_range (pa_cons (pe_callB (k_len K) (by rfl) T.b_len (by decide +kernel) (pa_cons (pv 2) pa_nil)) pa_nil)) (blkOk_by (N := N__law_made) (sc := (defScope s__law_made)) (by decide +kernel)) (fun _ _ _ _ _ => (pg_name (i := 4) sc_law_made.nd rfl (by first | exact Or.inl rfl | exact Or.inr rfl))) (fun _ _ _ _ _ => pts_nil) (fun _ _ _ _ _ => (pe_tup (pa_cons (pe_op op_add_str (pe_ix (k_ix K) pe_str (pv 4) (fun _ _ => rfl)) (pe_slice sl_str pe_str (po_some (pe_d G__law_draw hr (pa_cons (pv 0) (pa_cons pe_int pa_nil)))) po_none)) (pa_cons (pe_ix (k_ix K) (pv 2) (pv 4) (fun _ _ => rfl)) pa_nil))))) pa_nil)) pa_nil)))))), ?_⟩
  refine q_set (s := datP K fun d => ∃ ks : List Str, d = .tuple (ks.map .str) ∧ ks.length = nk ∧ AtP knP ks) (e_tupleSel (A := fun _ b => b = true) (R := fun i d => ∃ x, d = .str x ∧ knP i x) (e_lcN nk _ _ (a_cons (e_var (v := .int (nk : Int)) rfl rfl) a_nil) (by omega) (fun _ => rfl) fun i H1 ex hi => ⟨n_yes, fun _ => ?_⟩) fun ds hs => ?_) fun v1 H1 e1 p1 => ?_
  · exact e_name (m := 5) (e_var (v := .int (i : Int)) rfl rfl) (e_draw (m := 5) (e_var (v := x) rfl (Sh.up _ _ _ _ ex hx)) e_int (by decide) (by decide)) (by rw [kn_len]; omega) (by decide +kernel) (by decide +kernel) kr_len
  · obtain ⟨l, e, h1, h2⟩ := sel_at hs
    exact ⟨l, by rw [e], h1, h2⟩
  refine s_retR (e_make TB.tc (q := fun d => ∃ ts : List (Str × List Nat), d = .tuple (ts.map dTy) ∧ ts.length = ls.length ∧ AtP (tyP ls) ts) (a_cons (e_var (v := v1) rfl p1) (a_cons (e_tupleSel (A := fun _ b => b = true) (R := fun i d => ∃ t, d = dTy t ∧ tyP ls i t) (e_lcN ls.length _ _ (a_cons ?_ a_nil) (by omega) (fun _ => rfl) fun i H2 ex hi => ⟨n_yes, fun _ => ?_⟩) fun ds hs => ?_) a_nil)) ?_) (kk.of e1)
  · exact (e_lenL (K := K) (ds := ls.map dNs) (a_cons (e_var (v := z) rfl (Sh.up _ _ _ _ e1 hz)) a_nil)).cast (by rw [List.length_map])
  · have hli : ls[i]? = some ls[i] := List.getElem?_eq_getElem hi
    have ei : ∀ {H2 : Hp}, EvS (tVar 4) ((wipe ((L2.start N__law_made [x, .int (nk : Int), z]).set 3 (some v1)) [4]).set 4 (some (.int (i : Int)))) H2 (intS (i : Int)) := e_var (v := .int (i : Int)) rfl rfl
    have en := e_name (K := K) (f := tF) (r := tR) (m := 5) (ei (H2 := H2)) (e_draw (m := 5) (e_var (i := 0) (v := x) rfl (Sh.up _ _ _ _ (e1.trans ex) hx)) (e_int (i := 5)) (by decide) (by decide)) (by rw [tn_len]; omega) (by decide +kernel) (by decide +kernel) tr_len
    refine fun H3 e3 Q3 q3 => ?_
    dsimp only [tTup, tCons]
    refine en H3 e3 _ fun v4 H4 e4 ⟨d4, ⟨x4, ed4, hx4⟩, p4⟩ => ?_
    refine (e_ixL (K := K) (i := i) (d := dNs ls[i]) (e_var (v := z) rfl (Sh.up _ _ _ _ (e1.trans (ex.trans (e3.trans e4))) hz)) (ei (H2 := H4)) (by rw [List.getElem?_map, hli]; rfl)) H4 (Evl.Ex.refl H4) _ fun v5 H5 e5 p5 => ?_
    refine ⟨Nat.le_of_lt (small1000 (show 2 ≤ 1000 by decide)), fun a ha => q3 _ _ ((e4.trans e5).trans (Evl.Ex.new ha)) ⟨dTy (x4, ls[i]), ⟨_, rfl, hx4, hli⟩, .tup (SqT.of upd_same) ?_⟩⟩
    subst ed4
    exact .cons ((p4.mono (Gt.of_ex e5)).mono (Gt.of_ex (Evl.Ex.new ha))) (.cons (p5.mono (Gt.of_ex (Evl.Ex.new ha))) .nil)
  · obtain ⟨l, e, h1, h2⟩ := sel_at hs
    exact ⟨l, by rw [e], h1, h2⟩
  · rintro d e ⟨ks, rfl, h1, h2⟩ ⟨ts, rfl, h3, h4⟩
    obtain ⟨g, g1, g2⟩ := made_good n0 n8 t12 hls h1 h2 h3 h4
    refine ⟨⟨ks, ts⟩, rfl, rfl, g, fun t ht => ?_, g1, g2⟩
    have : t.2 ∈ (Tab.mk ks ts).lots := List.mem_map.mpr ⟨t, ht, rfl⟩
    rw [g2] at this
    have h5 := nodup_len _ _ ((hls _ this).1.imp fun h => Nat.ne_of_lt h) (hls _ this).2
    omega
end
end K45
/-! The law's own defs: the word of a refusal. -/
namespace K45
open PySem L2 RZ
/-! ### isinstance of a caught error that holds a dict -/
section
open PySem.W PySem.Calls PySem.Spec
variable {prog : Program} {w : World} {A : Around} {E : Value → Shared → Prop} {s : Shared} {KK : Frag} {xa dcl : Addr} {oxx : Obj} {dob : Option Obj}
theorem obj_data {nm : Str} {av gv : Value} (kc : (clsIn KK dcl).isSome = true) (kf : findIn KK (.ref dcl) nm = some (some av)) (kg : specialIn KK av "__get__" = some (some gv)) (kt : takesIn KK av = some true) : findObj KK dcl dob nm = some (.bind gv av) := by
  obtain ⟨cdat, kc⟩ := Option.isSome_iff_exists.mp kc
  unfold findObj
  rw [kc, Option.bind_some, kf, Option.bind_some]
  simp [kg, kt]
theorem cls_asked {Qr : Option Value → Shared → Prop} (C : ExcC KK dcl) (ki : KK.In s.heap) (J : InstAt s.heap xa oxx dcl dob) (fin : Qr (some (.ref dcl)) { s with toks := s.toks + 1 }) : wpAny (model prog w) A (getAttr? (.ref xa) "__class__") Qr E s := by
  have kf : findObj KK dcl dob "__class__" = some (.bind (.builtin "getset_descriptor.__get__") (.builtin "object.__class__")) := obj_data (by obtain ⟨cdat, kc, _⟩ := any_some C.hd; rw [kc]; rfl) C.ha C.hn C.ht
  obtain ⟨hpp, gg, dd, tt, oo⟩ := s
  have T0 := J.type (M := model prog w)
  have T1 := looks_findIn (M := model prog w) ki C.hg
  have T2 := looks_findIn (M := model prog w) ki C.hk
  have T3 := looks_find (M := model prog w) ki J kf
  have tsub : Looks (model prog w) hpp (isInstance (.ref xa) (.type "BaseException")) true := T0.andThen (looks_subIn ki C.hs)
  have no0 : (false && onTheHeap (Value.builtin "BaseException.__getattribute__")) = false := rfl
  have no1 : (onTheHeap (Value.ref dcl) && Value.builtin "BaseException.__getattribute__" == Value.builtin "object.__getattribute__") = false := by
    rw [show (Value.builtin "BaseException.__getattribute__" == Value.builtin "object.__getattribute__") = false by decide +kernel]
    rfl
  unfold getAttr? getAttrBy? getAttrBy
  refine wpAny_bind (wpAny_mkText (wpAny_bind (wpAny_attempt (wpAny_holding (wpAny_bind (T0.at (wpAny_bind (T1.at ?_))))))))
  show wpAny _ _ (if (onTheHeap (Value.ref dcl) && Value.builtin "BaseException.__getattribute__" == Value.builtin "object.__getattribute__") = true then _ else _) _ _ _
  rw [no1, if_neg Bool.false_ne_true]
  unfold getAttrByItsOwn hookBefore
  refine wpAny_bind ?_
  rw [if_pos (show onTheHeap (Value.ref dcl) = true from rfl)]
  refine T2.at ?_
  refine wpAny_bind (wpAny_attempt (wpAny_holding ?_))
  unfold callGetattribute
  rw [no0, if_neg Bool.false_ne_true]
  unfold boundAndCalled
  rw [PySem.F.excAttr_ValueError.ga.bind (.ref xa)]
  refine wpAny_bind (wpAny_pure ?_)
  show wpAny _ _ (call (.builtin "BaseException.__getattribute__") [.ref xa, .str "__class__" tt]) _ _ _
  refine wpAny_call (codeAny_call_builtin PySem.F.excAttr_ValueError.ga.plain PySem.F.entry_bexc_ga ?_)
  refine @check_slot (model prog w) _ _ ⟨hpp, gg, dd, tt + 1, oo⟩ "BaseException.__getattribute__" "BaseException" "__getattribute__" (.ref xa) [.str "__class__" tt] [] _ (by decide +kernel) (by decide +kernel) tsub (PySem.F.args_bexc_ga (.ref xa) (.str "__class__" tt)) ?_
  unfold Builtin.«object.__getattribute__»
  refine wpAny_bind (wpAny_of_eq (a := ((Value.ref xa : Value), [Value.str "__class__" tt])) (by first | rfl | (simp only [slotArgs]; rfl)) ?_)
  refine wpAny_bind (wpAny_pure (wpAny_bind (T0.at (wpAny_bind (T3.at ?_)))))
  show wpAny _ _ (holding [Value.builtin "object.__class__"] (call (.builtin "getset_descriptor.__get__") [.builtin "object.__class__", .ref xa, .ref dcl]) >>= ret) _ _ _
  refine wpAny_bind (wpAny_holding (wpAny_call (class_get (s := ⟨hpp, gg, dd, tt + 1, oo⟩) (ox := oxx) (od := dob) ki J C.hm ?_)))
  refine wpAny_pure ?_
  show wpAny _ _ (handedOut (.ref dcl)) _ _ _
  rw [handedOut_of (v := .ref dcl) rfl]
  first
    | exact wpAny_pure (wpAny_pure fin)
    | exact wpAny_pure fin
    | exact wpAny_pure (wpAny_bind (wpAny_pure (wpAny_pure fin)))
theorem kit_dict (C : ExcC KK dcl) : KitX KK (.ref xa) (.ref dcl) (fun hh => InstAt hh xa oxx dcl dob) where
  ty := fun _ _ _ J => J.type
  it := fun _ _ ki _ => by
    obtain ⟨cdat, kc, _⟩ := any_some C.hd
    unfold clsIn at kc
    split at kc
    · rename_i _ _ _ _ at_
      intro A2 Q2 E2 s2 st q2
      unfold isType loadHead
      exact wpAny_bind (wpAny_loadPart (st _ _ (ki _ _ at_)) (wpAny_pure q2))
    · cases kc
  ne := fun _ tp _ _ _ _ ki htp => by
    obtain ⟨cdat, kc, _⟩ := any_some C.hd
    refine Bool.eq_false_iff.mpr fun eqb => ?_
    have same : dcl = tp := Value.ref.inj (beq_iff_eq.mp eqb)
    subst same
    unfold clsIn at kc
    split at kc
    · rename_i _ _ _ _ at_
      have two := (ki _ _ at_).symm.trans htp
      cases two
    · cases kc
  ca := fun ki J fin => cls_asked C ki J fin
end
/-- isinstance(e, c), e the caught error, of the class Dc, with a dict -/
def rIsD (K : Fg) (Dc a : Addr) (cls : Value) (d : Option Addr) : List V → Hp → VK → Prop := fun xs H Q => ∃ (c : V) (cv : Value) (b : Bool) (dd : Addr) (fs : List (Str × V)), xs = [.ref a, c] ∧ (∀ u, RelV c u → u = cv) ∧ cls = .ref Dc ∧ d = some dd ∧ H dd = some (.xd fs) ∧ PySem.W.kitOne K (.ref Dc) cv = some b ∧ Q (.bl b) H
theorem call_isD {X : Cx} {a Dc : Addr} {oe : Obj} {cls : Value} {d : Option Addr} {pn : List (Addr × Obj)} (C : ExcC X.K Dc) (hz : Zc cls d oe) (hf : ∃ vs, oe.data = .fields vs) : CallR (X.suite a ((a, oe) :: pn)) (.builtin "isinstance") (rIsD X.K Dc a cls d) := by
  intro pins s σ H xs us Q I r h
  obtain ⟨c, cv, b, dd, fs, rfl, hcv, ec, ed, hx, kit, q⟩ := h
  subst ec ed
  cases r with
  | cons rx rr =>
    cases rr with
    | cons rt rr =>
      cases rr
      cases rx
      have same := hcv _ rt
      subst same
      obtain ⟨hget, _⟩ := I.pin (a, oe) (List.mem_append.mpr (.inl List.mem_cons_self))
      obtain ⟨vs, hv⟩ := hf
      have hox : ObjOk X.prog X.w H s.heap dd (.xd fs) := I.hok dd _ hx
      obtain ⟨mA, hns, _⟩ := hox
      obtain ⟨od, ho, _⟩ := lookIn_ns hns
      have J : PySem.W.InstAt s.heap a oe Dc (some od) := ⟨hget, hz.1, by unfold PySem.W.notCls; rw [hv] <;> rfl, by rw [hz.2]; exact ho⟩
      exact PySem.W.kia_one (kit_dict C) I.kIn J kit (fun z => nomatch z) fun tk => ⟨.bl b, H, I.kept (t' := tk) fun _ _ z => z, rfl, q⟩
/-- the classes that the word's def names -/
structure RfX (K : Fg) (mg : Str → Option Value) (Rc Dc Sc : Addr) : Prop where
  xf : XfC K Rc
  xc : ExcC K Rc
  nw : PySem.W.findIn K (.ref Rc) "word" = some none
  gD : mg "DeskError" = some (.ref Dc)
  ex : PySem.W.exmOne K (.ref Rc) (.ref Dc) = some true
  gR : mg "Refused" = some (.ref Rc)
  kR : PySem.W.kitOne K (.ref Rc) (.ref Rc) = some true
  gS : mg "InvalidStock" = some (.ref Sc)
  kS : PySem.W.kitOne K (.ref Rc) (.ref Sc) = some false
abbrev s__law_word : Stmt := topS 70
abbrev N__law_word : List Str := ["_law_action", "error"]
theorem sc_law_word : FnScope N__law_word ["_law_action"] (defScope s__law_word) := ⟨rfl, rfl, rfl, by decide +kernel, rfl, by decide +kernel, by decide +kernel⟩
def WordX (Rc : Addr) (Q : VK) : XK := fun cls d H' => ∃ dx, cls = .ref Rc ∧ d = some dx ∧ H' dx = some (.xd [("word", .str "unit")]) ∧ Q (.str "unit") H'
def TTword (Rc : Addr) : (XK → Hp → VK → Prop) → Hp → VK → Prop := fun tl H Q => tl (WordX Rc Q) H fun _ H' => Q .non H'
/-- a wish that may lean on the slots' number -/
theorem takes_len {X : Cx} {W : WX} (t : Takes X W) : Takes X (fun c d σ H => σ.length = X.N.length → W c d σ H) := fun u s' ⟨a, B, sI, pins, σ, H, cls, d, e, I, nb, up, sky, na, os, ag, w⟩ =>
  t u s' ⟨a, B, sI, pins, σ, H, cls, d, e, I, nb, up, sky, na, os, ag, w I.len⟩
section
variable {X : Cx} {Rc Dc Sc : Addr}
theorem word_gives {g : Addr} {cdg : Value} {q : Str} (T : Bt X.mg) (W : RfX X.K X.mg Rc Dc Sc) : LamX.GivesTo X N__law_word "_law_word" (defScope s__law_word) g cdg (defBody s__law_word) "_law_action" q (TTword Rc) := by
  intro f c' s H Q tl act hc h
  refine ⟨_, pss_cons (ps_try_as (X := (cxOf C8.CX0 X.prog X.w X.K X.mg X.base N__law_word "_law_word" (defScope s__law_word) g cdg X.A X.stack s H C8.E0).nox) (c := .ref Dc) (i := 1) (n := "error")
      (tb := fun V D σ H => ∃ Ech : XK, (∀ cls d σ' H', Ech cls d H' → σ'.length = 2 → V cls d σ' H') ∧ σ[0]? = some (some (.ref f)) ∧ H c' = some (LamX.CodeO c' q) ∧ tl Ech H (fun _ H' => D.nx σ H'))
      rfl rfl (show N__law_word.Nodup by decide +kernel) rfl rfl ⟨rfl, by decide, .inl W.gD⟩ LamX.takes0 (fun V pn xe tk _ => ?_)
      (fun a oe cls d pn hz hf => pss_one (ps_ret (pe_ifExp (PW.pt (pw_and (pt_val (pe_callB (call_isD W.xc hz hf) (by rfl) T.b_isinstance (by decide +kernel) (pa_cons (pv 1) (pa_cons (k_gl (v := .ref Rc) ⟨_, W.gR, rfl⟩) pa_nil))))
        (pw_and1 (pt_not (pt_val (pe_callB (call_isD W.xc hz hf) (by rfl) T.b_isinstance (by decide +kernel) (pa_cons (pv 1) (pa_cons (k_gl (v := .ref Sc) ⟨_, W.gS, rfl⟩) pa_nil)))))))) (pe_xf W.xf W.nw hz hf (pv 1)) pe_str)))) (pss_one (ps_ret pe_non)), ?_⟩
  · refine ⟨fun pins s' σ H' D I h' => ?_⟩
    obtain ⟨Ech, hW, h1, h2, h3⟩ := h'
    have hp := act _ pn xe Ech ⟨268, 8, 268, 19⟩ ⟨268, 8, 268, 21⟩ (takes_len tk) hW
    have hq := pss_one (ps_expr (pos := ⟨268, 8, 268, 21⟩) hp)
    exact hq.run pins s' σ H' D I ⟨h1, h2, h3⟩
  · refine ⟨WordX Rc Q, fun cls d σ' H' ⟨dx, e1, e2, hx, q⟩ ln => ?_, rfl, hc, h⟩
    subst e1 e2
    refine ⟨true, W.ex, fun _ a na => ?_, fun z => by cases z⟩
    have h1 : (σ'.set 1 (some (V.ref a)))[1]? = some (some (.ref a)) := sl_same (n := 2) ln (by decide)
    generalize σ'.set 1 (some (V.ref a)) = σ1 at h1
    have ra : ∀ {e : Addr} {u : Value}, RelV (.ref e) u → u = .ref e := fun h => h
    refine ⟨.ref a, h1, .ref Rc, .ref Rc, true, dx, _, rfl, fun u => ra, rfl, rfl, hx, W.kR, true, rfl, .ref a, h1, .ref Sc, .ref Sc, false, dx, _, rfl, fun u => ra, rfl, rfl, hx, W.kS, false, rfl, .ref a, h1, rfl, rfl, dx, _, .str "unit", rfl, hx, rfl, q⟩
end
end K45
/-! The law's own defs: kinds without units. -/
namespace K45
open PySem L2 RZ
/-! ### what stays while tables of code grow -/
abbrev ExN := LamX.ExtN
theorem ExN.ofE {H H' : Hp} (e : Ex H H') : ExN H H' := fun b o h _ => e b o h
theorem ExN.gt {K : Fg} {H H' : Hp} (e : ExN H H') : Gt K H H' := fun a xs q => by
  rcases q with (q | ⟨o', q⟩) | q
  · exact .inl (.inl (e _ _ q fun ps z => by cases z))
  · exact .inl (.inr ⟨o', e _ _ q fun ps z => by cases z⟩)
  · exact .inr q
def UpN (s : Sh) : Prop := ∀ v H H', ExN H H' → s.P v H → s.P v H'
theorem upN_vS (x : V) : UpN (vS x) := fun _ _ _ _ h => h
theorem upN_dat (K : Fg) (d : PyData) : UpN (dat K d) := fun _ _ _ e h => Tp.mono (ExN.gt e) h
theorem upN_tab (K : Fg) (T : Tab) : UpN (tabS K T) := fun _ _ _ e ⟨a, C, dx, vk, vt, h1, h2, h3, h4, h5⟩ => ⟨a, C, dx, vk, vt, h1, e _ _ h2 fun ps z => (by cases z), h3, h4.mono e.gt, h5.mono e.gt⟩
theorem upN_lst (K : Fg) (ds : List PyData) : UpN (lstS K ds) := fun _ _ _ e ⟨p, xs, h1, h2, h3⟩ => ⟨p, xs, h1, e _ _ h2 fun ps z => (by cases z), h3.mono e.gt⟩
theorem upN_hp : UpN hpS := fun _ _ _ e ⟨oa, ia, h1, h2, h3, h4⟩ => ⟨oa, ia, h1, h2, e _ _ h3 fun ps => drwO_tbl, e _ _ h4 fun ps => drwI_tbl⟩
theorem upN_nd (K : Fg) (l : List Nat) : UpN (ndS K l) := fun _ _ _ e ⟨a, o, xs, h1, h2, h3, h4⟩ => ⟨a, o, xs, h1, e _ _ h2 fun ps z => (by cases z), h3, h4.mono e.gt⟩
theorem upN_sql (K : Fg) (ns : List Int) : UpN (sqlS K ns) := fun _ _ _ e ⟨a, h1, h2⟩ => ⟨a, h1, by
  rcases h2 with (q | ⟨o', q⟩) | q
  · exact .inl (.inl (e _ _ q fun ps z => by cases z))
  · exact .inl (.inr ⟨o', e _ _ q fun ps z => by cases z⟩)
  · exact .inr q⟩
theorem atN : ∀ {H H' : Hp} {vs : List V} {ss : List Sh}, ExN H H' → (∀ s ∈ ss, UpN s) → AtAll H vs ss → AtAll H' vs ss
  | _, _, [], [], _, _, h => h
  | _, _, _ :: _, _ :: _, e, hs, h => ⟨hs _ List.mem_cons_self _ _ _ e h.1, atN e (fun s m => hs s (List.mem_cons_of_mem _ m)) h.2⟩
  | _, _, [], _ :: _, _, _, h => h.elim
  | _, _, _ :: _, [], _, _, h => h.elim
theorem upN_lsS {ss : List Sh} (h : ∀ s ∈ ss, UpN s) : UpN (lsS ss) := fun _ _ _ e ⟨a, xs, h1, h2, h3⟩ => ⟨a, xs, h1, e _ _ h2 fun ps z => (by cases z), atN e h h3⟩
theorem upN_ndLs (K : Fg) (ls : List (List Nat)) : UpN (ndLs K ls) := upN_lsS fun s hs => by
  obtain ⟨l, _, e⟩ := List.mem_map.mp hs
  rw [← e]
  exact upN_nd K l
/-! ### the def -/
abbrev s__law_bare_right : Stmt := topS 71
abbrev N__law_bare_right : List Str := ["_law_table", "_law_stock", "_law_bounds_here", "_law_one", "_law_other"]
theorem sc_law_bare_right : FnScope N__law_bare_right ["_law_table", "_law_stock", "_law_bounds_here", "_law_one", "_law_other"] (defScope s__law_bare_right) := ⟨rfl, rfl, rfl, by decide +kernel, rfl, by decide +kernel, by decide +kernel⟩
/-- the name of its lambdas -/
abbrev lamQ : Str := (Str.ofString "_law_bare_right" ++ ".<locals>.") ++ "<lambda>"
/-- the word's def, as the text leaves it -/
structure WdD (K : Fg) (mg : Str → Option Value) (g : Addr) (oc : Value) (od an : Option Addr) (kV doc pm cdv ct : Value) (osl : Array (Option Value)) : Prop where
  gm : mg "_law_word" = some (.ref g)
  kp : PySem.W.keepIn K (.ref g) = true
  lk : K.lookup g = some ⟨oc, od, .func (PySem.W.fnOf "_law_word" "_law_word" (defArgs s__law_word) (defBody s__law_word) (defScope s__law_word) .none kV doc pm an cdv ct), osl⟩
  cd : PySem.W.codeIn K cdv "_law_word" = true
  bi : Binds K (PySem.W.fnOf "_law_word" "_law_word" (defArgs s__law_word) (defBody s__law_word) (defScope s__law_word) .none kV doc pm an cdv ct) ["_law_action"] []
/-- this def, its code object -/
structure BrD (K : Fg) (mg : Str → Option Value) (base : Heap) (f cC PT : Addr) (oc : Value) (od an : Option Addr) (kV doc pm ct : Value) (osl : Array (Option Value)) : Prop where
  gm : mg "_law_bare_right" = some (.ref f)
  kp : PySem.W.keepIn K (.ref f) = true
  lk : K.lookup f = some ⟨oc, od, .func (PySem.W.fnOf "_law_bare_right" "_law_bare_right" (defArgs s__law_bare_right) (defBody s__law_bare_right) (defScope s__law_bare_right) .none kV doc pm an (.ref cC) ct), osl⟩
  cd : PySem.W.codeIn K (.ref cC) "_law_bare_right" = true
  bi : Binds K (PySem.W.fnOf "_law_bare_right" "_law_bare_right" (defArgs s__law_bare_right) (defBody s__law_bare_right) (defScope s__law_bare_right) .none kV doc pm an (.ref cC) ct) ["_law_table", "_law_stock", "_law_bounds_here", "_law_one", "_law_other"] []
  tb : LamX.TabB base mg cC PT
def sp_bare (K : Fg) (PT : Addr) : Sp := fun vs H Q _ => ∃ (T : Tab) (st : List Int) (bl : List (Option Int)) (one other : Nat), AtAll H vs [tabS K T, dat K (dIs st), dat K (dOs bl), intS (one : Int), intS (other : Int)] ∧ T.Ok ∧ Case T.lots st bl ∧ st.length = T.nk ∧ one < T.nk ∧ other < T.nk ∧ Sg T.nk (fn st) ≤ 1000 ∧
  (fn st one = 0 ∨ fn st other = 0) ∧ LamX.Tabs [(PT, lamQ)] H ∧ ∀ H', ExN H H' → LamX.Tabs [(PT, lamQ)] H' → Q (.bl true) H'
section
variable {P : Program} {w : World} {K : Fg} {mg : Str → Option Value} {base : Heap} {C Dc Sc g f cC PT : Addr} {oc oc2 : Value} {od an od2 an2 : Option Addr} {kV doc pm cdv ct kV2 doc2 pm2 ct2 : Value} {osl osl2 : Array (Option Value)}
theorem e_word {L : List (Addr × Str)} {σ : L2.St} {H : Hp} {Q : VK} {t : XK → TE} (hT : LamX.Tabs L H) (h : ∀ H1, ExN H H1 → ∀ E, UnitX C H1 E → EvR (t E) σ H1) (k : ∀ H2, ExN H H2 → LamX.Tabs L H2 → Q (.str "unit") H2) : LamX.tLam L (TTword C) t σ H Q :=
  ⟨hT, fun H1 e1 T1 => h H1 e1 (WordX C Q) (fun d H' e' hd => ⟨d, rfl, rfl, hd, k H' (LamX.ExtN.trans e1 (ExN.ofE e')) (T1.ext e')⟩) H1 (Evl.Ex.refl H1) _⟩
theorem ok_bare (T : Bt mg) (W : RfX K mg C Dc Sc) (WD : WdD K mg g oc od an kV doc pm cdv ct osl) (BD : BrD K mg base f cC PT oc2 od2 an2 kV2 doc2 pm2 ct2 osl2)
    (G_fewest_requests : OkD P w K mg base (L2.CX P w) 11 "fewest_requests" ["table", "stock", "bounds", "one", "other"] (sp_fewest_requests K C)) (G_least_regret_row : OkD P w K mg base (L2.CX P w) 12 "least_regret_row" ["table", "stock", "bounds", "one", "other"] (sp_least_regret_row K C)) :
    OkD P w K mg base CX0 15 "_law_bare_right" ["_law_table", "_law_stock", "_law_bounds_here", "_law_one", "_law_other"] (sp_bare K PT) := by
  have LB := BD.tb
  have Fb : Fun K "_law_bare_right" "_law_bare_right" s__law_bare_right f _ := fun_mk BD.lk BD.cd BD.kp
  refine ⟨f, _, L2.fn_of BD.lk BD.cd sc_law_bare_right (fun vs H Q E ⟨_, _, _, _, _, h, _⟩ => atLen h) (fun A outer s H vs Q E hr ⟨tb, st, bl, one, other, h, go, hc, hst, ho1, ho2, hS, hz, hT, kk⟩ => ?_), BD.gm, BD.kp, BD.bi⟩
  obtain ⟨x, y, z, u, q, rfl, hx, hy, hz', hu, hq⟩ := a5 h
  refine ⟨_, PSs.nox (pss_cons (ps_if (pt_cmpR op_ne (LamX.pe_lamcall (T := [(PT, lamQ)]) (X := (cxOf CX0 P w K mg base N__law_bare_right "_law_bare_right" (defScope s__law_bare_right) f (.ref cC) A outer s H E).nox) rfl WD.gm WD.kp WD.lk WD.cd WD.bi sc_law_word rfl (Or.inl rfl) (word_gives T W) LB rfl (List.mem_singleton.mpr rfl) (fun p hp _ => by rw [List.mem_singleton.mp hp]; rfl) hr (LamX.lamS_by (sc := defScope s__law_bare_right) (by decide +kernel)) rfl (fun _ _ _ _ _ => rfl) (fun A2 outer2 s2 H2 E2 f2 c2 hr2 => pe_dx G_fewest_requests hr2 (passes_call (takes_of (E := E2) rfl rfl rfl rfl) fun _ _ _ _ h => h) (pa_cons (pv 0) (pa_cons (pv 1) (pa_cons (pv 2) (pa_cons (pv 3) (pa_cons (pv 4) pa_nil))))))) pe_str (nomark _)) (pss_one (ps_ret pe_bl)) pss_nil) (pss_one (ps_ret (pe_cmpR op_eq (LamX.pe_lamcall (T := [(PT, lamQ)]) (X := (cxOf CX0 P w K mg base N__law_bare_right "_law_bare_right" (defScope s__law_bare_right) f (.ref cC) A outer s H E).nox) rfl WD.gm WD.kp WD.lk WD.cd WD.bi sc_law_word rfl (Or.inl rfl) (word_gives T W) LB rfl (List.mem_singleton.mpr rfl) (fun p hp _ => by rw [List.mem_singleton.mp hp]; rfl) hr (LamX.lamS_by (sc := defScope s__law_bare_right) (by decide +kernel)) rfl (fun _ _ _ _ _ => rfl) (fun A2 outer2 s2 H2 E2 f2 c2 hr2 => pe_dx G_least_regret_row hr2 (passes_call (takes_of (E := E2) rfl rfl rfl rfl) fun _ _ _ _ h => h) (pa_cons (pv 0) (pa_cons (pv 1) (pa_cons (pv 2) (pa_cons (pv 3) (pa_cons (pv 4) pa_nil))))))) pe_str (nomark _))))), ?_⟩
  have eargs : ∀ {H1 : Hp}, ExN H H1 → EvA (tCons (tVar 0) (tCons (tVar 1) (tCons (tVar 2) (tCons (tVar 3) (tCons (tVar 4) tNil))))) (L2.start N__law_bare_right [x, y, z, u, q]) H1 [tabS K tb, dat K (dIs st), dat K (dOs bl), intS (one : Int), intS (other : Int)] := fun e => a_cons (e_var (v := x) rfl (upN_tab _ _ _ _ _ e hx)) (a_cons (e_var (v := y) rfl (upN_dat _ _ _ _ _ e hy)) (a_cons (e_var (v := z) rfl (upN_dat _ _ _ _ _ e hz')) (a_cons (e_var (v := u) rfl hu) (a_cons (e_var (v := q) rfl hq) a_nil))))
  have nn : fn st one ≠ 0 → fn st other ≠ 0 → False := fun n1 n2 => hz.elim n1 n2
  refine e_word hT (fun H1 e1 E1 hE => r_call (eargs e1) fun vs H2 e2 p Q2 => ⟨tb, st, bl, one, other, p, go, hc, hst, ho1, ho2, fun n1 n2 => (nn n1 n2).elim, fun _ => hE.of e2⟩) fun H2 e2 T2 => ?_
  refine ⟨rfl, _, rfl, ?_⟩
  rw [show (!decide (V.str (Str.ofString "unit") = V.str (Str.ofString "unit"))) = false by decide +kernel]
  refine iteF ?_
  refine e_word T2 (fun H3 e3 E3 hE => r_call (eargs (LamX.ExtN.trans e2 e3)) fun vs H4 e4 p Q2 => ⟨tb, st, bl, one, other, p, go, hc, hst, ho1, ho2, hS, fun n1 n2 => (nn n1 n2).elim, fun _ => hE.of e4⟩) fun H4 e4 T4 => ?_
  refine ⟨rfl, ?_⟩
  rw [show decide (V.str (Str.ofString "unit") = V.str (Str.ofString "unit")) = true by decide +kernel]
  exact kk H4 (LamX.ExtN.trans e2 e4) T4
end
end K45
/-! Calls by keywords alone; defs that ask for repr. -/
namespace K45
open PySem L2 RZ
/-! ### all arguments by keywords, from the last to the first -/
structure OkK (P : Program) (w : World) (K : Fg) (mg : Str → Option Value) (base : Heap) (CX : CXT) (k : Nat) (x : Str) (ps ks : List Str) (sp : Sp) : Prop where
  ex : ∃ f fd, FnOk P w K mg base CX k f fd ps sp ∧ mg x = some (.ref f) ∧ PySem.W.keepIn K (.ref f) = true ∧ KBn K fd ps 0 ks (fun _ ws => ws.reverse) (fun _ zs => zs.reverse)
section
variable {K : Fg} {x qual : Str} {st : Stmt} {f : Addr} {fd : FuncData}
theorem kb5 {a b c d e : Str} (F : Fun K x qual st f fd) (h : ∀ (kV doc pm : Value) (an : Option Addr) (cdv ct u1 u2 u3 u4 u5 : Value), bindArgs (PySem.W.fnOf x qual (defArgs st) (defBody st) (defScope st) .none kV doc pm an cdv ct) ⟨[], [(e, u1), (d, u2), (c, u3), (b, u4), (a, u5)]⟩ = pure [(a, u5), (b, u4), (c, u3), (d, u2), (e, u1)]) :
    KBn K fd [a, b, c, d, e] 0 [e, d, c, b, a] (fun _ ws => ws.reverse) (fun _ zs => zs.reverse) := by
  obtain ⟨oc, od, kV, doc, pm, an, cdv, ct, osl, rfl, lk, hcd⟩ := F.ex
  refine ⟨fun s us ws _ l1 l2 => ?_, fun _ r => r.reverse⟩
  match us, l1, ws, l2 with
  | [], _, [u1, u2, u3, u4, u5], _ => exact .of_eq (h kV doc pm an cdv ct u1 u2 u3 u4 u5)
theorem kb2 {a b : Str} (F : Fun K x qual st f fd) (h : ∀ (kV doc pm : Value) (an : Option Addr) (cdv ct u1 u2 : Value), bindArgs (PySem.W.fnOf x qual (defArgs st) (defBody st) (defScope st) .none kV doc pm an cdv ct) ⟨[], [(b, u1), (a, u2)]⟩ = pure [(a, u2), (b, u1)]) :
    KBn K fd [a, b] 0 [b, a] (fun _ ws => ws.reverse) (fun _ zs => zs.reverse) := by
  obtain ⟨oc, od, kV, doc, pm, an, cdv, ct, osl, rfl, lk, hcd⟩ := F.ex
  refine ⟨fun s us ws _ l1 l2 => ?_, fun _ r => r.reverse⟩
  match us, l1, ws, l2 with
  | [], _, [u1, u2], _ => exact .of_eq (h kV doc pm an cdv ct u1 u2)
end
section
variable {X : Cx} {CX : CXT} {k j : Nat} {x : Str} {p pos : Pos} {ps ks : List Str} {sp : Sp} {tk : TA} {E : XK} {kws : List Keyword}
theorem pe_dk (G : OkK X.prog X.w X.K X.mg X.base CX k x ps ks sp) (hr : Room j X.A) (hx : Passes CX X E) (hkw : PK X kws tk) (hk : k ≤ j := by decide) (hg : Gl X x := by rfl)
    (hall : (backToKw pos (keywordEach kws X.env)).all (·.1.isSome) = true := by rfl) (hks : (backToKw pos (keywordEach kws X.env)).filterMap (·.1) = ks := by rfl) (hdb : (x == ("__debug__" : Str)) = false := by decide)
    (hpl : ((backTo pos (starEach [] X.env)).any (·.1) || (backToKw pos (keywordEach kws X.env)).any (·.1.isNone)) = false := by rfl) :
    PE X (.Call (.Name x p) [] kws pos) (tCallN 0 ks.length sp (fun _ zs => zs.reverse) E tNil tk) := by
  obtain ⟨f, fd, F, m, kp, b⟩ := G.ex
  refine ⟨fun pins sh σ H Q I h => ?_⟩
  refine wpAny_Call_Name_kw (ld_glob I hg m ?_ hdb)
  refine PySem.W.callWith_KW0 (h₀ := X.base) I.ok.mod.kin kp hall ?_ hpl
  refine thn (hkw.run pos pins sh σ H _ I h) fun kvals s2 ⟨zs, H2, I2, rz, l1, l2, q2⟩ => ⟨I2.kIn, ?_⟩
  rw [hks]
  exact run_fnN (us := []) (vs := []) F (hr.mono hk) b hx I2 .nil rz rfl l2 q2
end
section
variable {K : Fg} {σ : L2.St} {H : Hp} {s : Sh}
theorem e_callK {sp : Sp} {E : XK} {tk : TA} {ss : List Sh} {m : Nat} (h : EvA tk σ H ss) (hm : ss.length = m) (hs : ∀ vs H1, AtAll H1 vs.reverse ss → ∀ Q : VK, Ret s H1 Q → sp vs H1 Q E) : EvS (tCallN 0 m sp (fun _ zs => zs.reverse) E tNil tk) σ H s := fun H1 e Q q =>
  h H1 e _ fun vs H2 e2 p => ⟨rfl, (atLen p).trans hm, hs vs.reverse H2 (by rw [List.reverse_reverse]; exact p) Q fun v H3 e3 p3 => q v H3 (e2.trans e3) p3⟩
theorem at_rev5 {H : Hp} {vs : List V} {a b c d e : Sh} (h : AtAll H vs.reverse [e, d, c, b, a]) : AtAll H vs [a, b, c, d, e] := by
  obtain ⟨v1, v2, v3, v4, v5, hv, h1, h2, h3, h4, h5⟩ := a5 h
  have : vs = [v5, v4, v3, v2, v1] := by rw [← List.reverse_reverse vs, hv]; rfl
  rw [this]
  exact ⟨h5, h4, h3, h2, h1, trivial⟩
theorem at_rev2 {H : Hp} {vs : List V} {a b : Sh} (h : AtAll H vs.reverse [b, a]) : AtAll H vs [a, b] := by
  obtain ⟨v1, v2, hv, h1, h2⟩ := a2 h
  have : vs = [v2, v1] := by rw [← List.reverse_reverse vs, hv]; rfl
  rw [this]
  exact ⟨h2, h1, trivial⟩
end
/-! ### defs that are run while no repr is under way -/
def RunG (P : Program) (w : World) (K : Fg) (mg : Str → Option Value) (base : Heap) (k : Nat) (f : Addr) (fd : FuncData) (ps : List Str) (sp : Sp) : Prop :=
  ∀ (A : Around) (outer : List Env) (s : Shared) (H : Hp) (args : Args) (us : List Value) (vs : List V) (Q : VK) (E : XK), Room k A → A.guards = some [] → Env0 P w K mg base A outer s H → BindsTo s fd args (ps.zip us) → Vals vs us → sp vs H Q E → codeAny (model P w) A (.call (.ref f) args) (CR CX0 outer P w H s Q E) s
structure OkG (P : Program) (w : World) (K : Fg) (mg : Str → Option Value) (base : Heap) (k : Nat) (x : Str) (ps : List Str) (sp : Sp) : Prop where
  ex : ∃ f fd, RunG P w K mg base k f fd ps sp ∧ (∀ vs H Q E, sp vs H Q E → vs.length = ps.length) ∧ mg x = some (.ref f) ∧ PySem.W.keepIn K (.ref f) = true ∧ Binds K fd ps []
section
variable {P : Program} {w : World} {K : Fg} {mg : Str → Option Value} {base : Heap} {k : Nat} {x : Str} {st : Stmt} {ps N : List Str} {sp : Sp}
theorem OkG.of (D : Df K mg x st ps) (S : FnScope N ps (defScope st)) (len : ∀ vs H Q E, sp vs H Q E → vs.length = ps.length)
    (h : ∀ (f : Addr) (cdv : Value) (A : Around) (outer : List Env) (s : Shared) (H : Hp) (vs : List V) (Q : VK) (E : XK), (A.deeper (PyProof.Rows.envOfC x (defScope st) s.heap.objs.size f cdv)).guards = some [] → Room k (A.deeper (PyProof.Rows.envOfC x (defScope st) s.heap.objs.size f cdv)) → sp vs H Q E →
      ∃ t, PSs (cxOf CX0 P w K mg base N x (defScope st) f cdv A outer s H E).nox (defBody st) t ∧ t { nx := fun _ H' => Q .non H', rt := Q } (L2.start N vs) H) : OkG P w K mg base (k + 1) x ps sp := by
  obtain ⟨f, fd, F, m, b⟩ := D.ex
  have kp := F.kp
  obtain ⟨oc, od, kV, doc, pm, an, cdv, ct, osl, rfl, lk, hcd⟩ := F.ex
  refine ⟨f, _, fun A outer s H args us vs Q E hr hg e0 hb r hq => ?_, len, m, kp, b⟩
  refine LamX.run_ofS lk hcd S hr e0 hb r (len _ _ _ _ hq) fun hr' => ?_
  obtain ⟨t, ht, q⟩ := h f cdv A outer s H vs Q E hg hr' hq
  exact ⟨t, ht.nox, q⟩
end
section
variable {X : Cx} {k j : Nat} {x : Str} {p pos : Pos} {e : Expr} {es : List Expr} {ps : List Str} {sp : Sp} {t : TA}
theorem pe_g (G : OkG X.prog X.w X.K X.mg X.base k x ps sp) (hr : Room j X.A) (hgd : X.A.guards = some []) (ha : PA X (e :: es) t) (hk : k ≤ j := by decide) (hg : Gl X x := by rfl)
    (hdb : (x == ("__debug__" : Str)) = false := by decide) (he : starEach (e :: es) X.env = (false, eval e X.env) :: starEach es X.env := by rfl) (hpl : (backTo pos (starEach es X.env)).any (·.1) = false := by rfl) :
    PE X (.Call (.Name x p) (e :: es) [] pos) (tCall sp [] E0 t) := by
  obtain ⟨f, fd, F, len, m, kp, b⟩ := G.ex
  refine ⟨fun pins sh σ H Q I h => ?_⟩
  refine wpAny_Call_Name_kw (ld_glob I hg m ?_ hdb)
  refine PySem.W.callWith_K (h₀ := X.base) I.ok.mod.kin kp (thn (ha.run pos pins sh σ H _ I h) fun us s1 ⟨vs, H1, I1, r, q⟩ => ⟨I1.kIn, ?_⟩) he hpl
  have q : sp (vs ++ []) H1 Q E0 := q
  rw [List.append_nil] at q
  have hb := b s1 us I1.kIn (by rw [List.append_nil, ← r.length]; exact len _ _ _ _ q)
  rw [List.append_nil] at hb
  refine wpAny_call (codeAny_mono (F X.A X.stack s1 H1 ⟨us, []⟩ us vs Q E0 (hr.mono hk) hgd I1.env0 hb r q) fun rr s2 hq => ?_)
  cases rr with
  | error er => exact (show False from hq).elim
  | ok fl =>
    cases fl with
    | ret u => exact I1.after hq
    | next => exact hq.elim
    | brk => exact hq.elim
    | cont => exact hq.elim
end
/-! ### repr of rows, == of data -/
theorem num_shown : ∀ n : Nat, n < 12 → (PyData.shown (.int (n : Int))).length ≤ 2 ∧ PyData.showable (.int (n : Int)) = true := by decide +kernel
theorem piled_dN : ∀ l : List Nat, (∀ n ∈ l, n < 12) → PySem.piled (PyData.shownAll (l.map dN)) ≤ 4 * l.length ∧ PyData.showableAll (l.map dN) = true ∧ PyData.hasDictAll (l.map dN) = false
  | [], _ => ⟨Nat.le_refl _, rfl, rfl⟩
  | n :: l, h => by
    obtain ⟨h1, h2, h3⟩ := piled_dN l fun m hm => h m (List.mem_cons_of_mem _ hm)
    obtain ⟨g1, g2⟩ := num_shown n (h n List.mem_cons_self)
    refine ⟨?_, ?_, ?_⟩
    · show PySem.piled (PyData.shown (.int (n : Int)) :: PyData.shownAll (l.map dN)) ≤ _
      rw [PySem.piled_cons, List.length_cons]
      omega
    · show (PyData.showable (.int (n : Int)) && PyData.showableAll (l.map dN)) = true
      rw [g2, h2]
      rfl
    · show (PyData.hasDict (.int (n : Int)) || PyData.hasDictAll (l.map dN)) = false
      rw [h3]
      rfl
theorem reprOk_dNs {l : List Nat} (h : ∀ n ∈ l, n < 12) (hl : l.length ≤ 1000) : reprOk (dNs l) := by
  obtain ⟨h1, h2, h3⟩ := piled_dN l h
  refine ⟨h2, h3, ?_, depth_dN l⟩
  show (PySem.tupleText (PyData.shownAll (l.map dN))).length ≤ 1000000
  unfold PySem.tupleText
  rw [strLen_append, strLen_append]
  have e1 : (("(" : Str)).length = 1 := rfl
  have e2 : ((if (PyData.shownAll (l.map dN)).length == 1 then ",)" else ")" : String) : Str).length ≤ 2 := by
    split
    · exact (by decide +kernel : ((",)" : String) : Str).length ≤ 2)
    · exact (by decide +kernel : ((")" : String) : Str).length ≤ 2)
  have e3 : (Str.join ", " (PyData.shownAll (l.map dN))).length ≤ 4 * l.length := by
    cases l with
    | nil => exact Nat.le_refl _
    | cons a l =>
      have := PySem.join_length_add (PyData.shownAll ((a :: l).map dN)) (by simp [PyData.shownAll])
      omega
  omega
theorem eqvD {d : PyData} (h : SeqAt.shaped d = true) : PyData.eqv d d = true := by
  unfold SeqAt.shaped at h
  rw [Bool.and_eq_true] at h
  exact SeqAt.eqv_refl d h.1
end K45
/-! The law's own defs: a drawn case. -/
namespace K45
open PySem L2 RZ
/-! ### what a case has -/
structure CaseOk (T : Tab) (st : List Int) (bl : List (Option Int)) : Prop where
  go : T.Ok
  cs : Case T.lots st bl
  hst : st.length = T.nk
  lok : LOk st.length T.lots
theorem caseOk {T : Tab} {nk nt : Nat} {ls : List (List Nat)} {st : List Int} {bl : List (Option Int)} (n8 : nk ≤ 8) (t12 : nt ≤ 12) (g : T.Good) (h1 : T.nk = nk) (h2 : T.lots = ls) (hls : LotsOk nk nt ls) (hst : st.length = nk) (h0 : ∀ x ∈ st, 0 ≤ x) (hb : bl.length = nt) (hb0 : ∀ m, some m ∈ bl → 0 ≤ m) : CaseOk T st bl := by
  have hgd : ∀ r, T.lots.getD r [] = [] ∨ LotOk nk (T.lots.getD r []) := fun r => by
    rw [List.getD_eq_getElem?_getD]
    cases q : T.lots[r]? with
    | none => exact .inl rfl
    | some l => exact .inr (hls.2 l (by rw [← h2]; exact List.mem_of_getElem? q))
  have wf : WfL nk T.lots := fun r k hk => by
    have hk : k ∈ T.lots.getD r [] := hk
    rcases hgd r with q | q
    · rw [q] at hk; cases hk
    · exact q.2 k hk
  have asc : ∀ r, (T.lots.getD r []).Pairwise (· < ·) := fun r => by
    rcases hgd r with q | q
    · rw [q]; exact .nil
    · exact q.1
  have tl : T.types.length = nt := by rw [← T.lots_len, h2, hls.1]
  refine ⟨⟨by omega, by omega, by rw [h1]; exact wf, fun l hl => ?_⟩, ⟨by rw [hst]; exact wf, fun k => ?_, fun r m hm => ?_, by rw [hb, T.lots_len, tl]⟩, by rw [hst, h1], ⟨by omega, by rw [T.lots_len]; omega, by rw [hst]; exact wf, asc⟩⟩
  · rw [h2] at hl
    have h5 := nodup_len _ _ ((hls.2 l hl).1.imp fun h => Nat.ne_of_lt h) (hls.2 l hl).2
    omega
  · by_cases hk : k < st.length
    · exact h0 _ (List.mem_of_getElem? (fn_get hk))
    · rw [fn_out (by omega)]
      exact Int.le_refl _
  · unfold bnf at hm
    rw [List.getD_eq_getElem?_getD] at hm
    cases q : bl[r]? with
    | none => rw [q] at hm; cases hm
    | some o =>
      rw [q] at hm
      have hm : o = some m := hm
      rw [hm] at q
      exact hb0 m (List.mem_of_getElem? q)
theorem Sg_fn (st : List Int) : Sg st.length (fn st) = st.sum := by
  rw [sum_fn_take st _ (Nat.le_refl _), List.take_length]
section
variable {lots : List (List Nat)} {st : List Int} {bl : List (Option Int)} {one other : Nat}
theorem lrr_row (h : Case lots st bl) (h1 : one < st.length) (h2 : other < st.length) (s1 : 1 ≤ fn st one) (s2 : 1 ≤ fn st other) {R : List Nat} (e : lrr lots st bl one other = some R) : InB bl R ∧ R.length ≤ (st.sum - 1).toNat := by
  have := (lrr_first (bl := bl) h h1 h2 s1 s2).1
  rw [e] at this
  obtain ⟨g1, g2, _⟩ := (rows_first h.bn (tellsL lots st one other) (st.sum - 1).toNat).1 R this
  exact ⟨g1, g2⟩
theorem fewest_lrr (h : Case lots st bl) (h1 : one < st.length) (h2 : other < st.length) (s1 : 1 ≤ fn st one) (s2 : 1 ≤ fn st other) : fewest lots st bl one other = (lrr lots st bl one other).map fun R => (R.length : Int) := (lrr_first (bl := bl) h h1 h2 s1 s2).2
theorem ok_lrr (h : Case lots st bl) (h1 : one < st.length) (h2 : other < st.length) (s1 : 1 ≤ fn st one) (s2 : 1 ≤ fn st other) (hb : bl.length ≤ 12) (hs : st.sum ≤ 1000) : reprOk (dOr (lrr lots st bl one other)) ∧ reprOk (dO (fewest lots st bl one other)) := by
  rw [fewest_lrr h h1 h2 s1 s2]
  cases e : lrr lots st bl one other with
  | none => exact ⟨trivial, trivial⟩
  | some R =>
    obtain ⟨g1, g2⟩ := lrr_row h h1 h2 s1 s2 e
    refine ⟨reprOk_dNs (fun n hn => Nat.lt_of_lt_of_le (g1.ty n hn) hb) (by omega), ?_⟩
    show ((R.length : Int)).natAbs.log2 < 1920
    have := Nat.log2_le_self (R.length : Int).natAbs
    omega
end
theorem rows_row {bl : List (Option Int)} {row : List Nat} : ∀ {n : Nat}, row ∈ rowsTo bl n → row.length ≤ n
  | 0, h => by rw [List.mem_singleton.mp h]; exact Nat.le_refl _
  | n + 1, h => by
    rcases List.mem_append.mp h with q | q
    · exact Nat.le_succ_of_le (rows_row q)
    · exact Nat.le_of_eq (layer_row q).1
theorem shaped_dOr (o : Option (List Nat)) : SeqAt.shaped (dOr o) = true := by
  cases o with
  | none => rfl
  | some l => exact shaped_dNs l
theorem shaped_dO (o : Option Int) : SeqAt.shaped (dO o) = true := by
  cases o <;> rfl
section
variable {K : Fg} {σ : L2.St} {H : Hp} {ta tb : TE} {D : Ends} {tz : TS}
theorem q_par3S {i j l : Nat} {t1 t2 t3 : TE} {s1 s2 s3 : Sh} (h1 : EvS t1 σ H s1) (h2 : EvS t2 σ H s2) (h3 : EvS t3 σ H s3)
    (k : ∀ u v w H3, Ex H H3 → s1.P u H3 → s2.P v H3 → s3.P w H3 → tz D (((σ.set i (some u)).set j (some v)).set l (some w)) H3) :
    tSeq (tPar3 i j l (tCons t1 (tCons t2 (tCons t3 tNil)))) tz D σ H :=
  h1 H (Evl.Ex.refl H) _ fun u H1 e1 p1 => h2 H1 e1 _ fun v H2 e2 p2 => h3 H2 (e1.trans e2) _ fun w H3 e3 p3 => ⟨_, _, _, rfl, k u v w H3 (e1.trans (e2.trans e3)) (s1.up _ _ _ (e2.trans e3) p1) (s2.up _ _ _ e3 p2) p3⟩
/-- repr(a) != repr(b), of the same -/
theorem t_reprs {d : PyData} (ha : EvS ta σ H (dat K d)) (hb : EvS tb σ H (dat K d)) (ok : reprOk d) : EvT (tTest (tOp rNe (tCB (rReprD K) (tCons ta tNil)) (tCB (rReprD K) (tCons tb tNil)))) σ H false :=
  (t_test (e_ne (e_repr ha ok) (e_repr hb ok) rfl)).to (by simp)
theorem t_sameD {d : PyData} (ha : EvS ta σ H (dat K d)) (hb : EvS tb σ H (dat K d)) (ok : SeqAt.shaped d = true) : EvT (tTest (tOp (rNeD K) ta tb)) σ H false :=
  (t_test (e_neD ha hb ok ok)).to (by rw [eqvD ok]; rfl)
end
theorem Sl.push {n : Nat} {vs : List V} {σ : L2.St} {x : V} (h : Sl n vs σ) (hn : vs.length < n) : Sl n (vs ++ [x]) (σ.set vs.length (some x)) := ⟨by rw [List.length_set]; exact h.len, fun i v e => by
  by_cases hi : i < vs.length
  · rw [List.getElem?_append_left hi] at e
    exact sl_ne (by omega) (h.at_ i v e)
  · have hlt := (List.getElem?_eq_some_iff.mp e).1
    rw [List.length_append, List.length_singleton] at hlt
    have ei : i = vs.length := by omega
    rw [List.getElem?_append_right (by omega), ei, Nat.sub_self] at e
    have e : x = v := Option.some.inj e
    rw [ei, ← e]
    exact sl_same h.len hn⟩
theorem wip1 {σ : L2.St} {j : Nat} {w : V} : (wipe σ [j]).set j (some w) = σ.set j (some w) := by
  show (σ.set j none).set j (some w) = _
  rw [List.set_set]
theorem wip2 {σ : L2.St} {j : Nat} (w : V) : wipe ((wipe σ [j]).set j (some w)) [j] = wipe σ [j] := by
  show ((σ.set j none).set j (some w)).set j none = σ.set j none
  rw [List.set_set, List.set_set]
/-- a call, for itself -/
theorem c_call {σ : L2.St} {H : Hp} {sp : Sp} {E : XK} {ta : TA} {ss : List Sh} {Q : VK} (h : EvA ta σ H ss) (k : ∀ vs H1, Ex H H1 → AtAll H1 vs ss → sp vs H1 Q E) : tCall sp [] E ta σ H Q :=
  h H (Evl.Ex.refl H) _ fun vs H1 e p => by
    show sp (vs ++ []) H1 Q E
    rw [List.append_nil]
    exact k vs H1 e p
section
variable {P : Program} {w : World} {K : Fg} {mg : Str → Option Value} {base : Heap} {C : Addr} {PT : Addr}
abbrev s__law_case_right : Stmt := topS 72
abbrev N__law_case_right : List Str := ["_law_heap_here", "_law_kinds_here", "_law_many", "_law_units", "_law_lots_here", "_law_table", "_law_stock", "_law_bounds_here", "_law_rows_here", "_law_one", "_law_other", "_law_due", "_law_many_requests", "_law_some", "_law_kind", "_law_at"]
theorem sc_law_case_right : FnScope N__law_case_right ["_law_heap_here", "_law_kinds_here", "_law_many", "_law_units"] (defScope s__law_case_right) := ⟨rfl, rfl, rfl, by decide +kernel, rfl, by decide +kernel, by decide +kernel⟩
def sp_case (K : Fg) (PT : Addr) : Sp := fun vs H Q _ => ∃ (nk nt m : Nat), AtAll H vs [hpS, intS (nk : Int), intS (nt : Int), intS (m : Int)] ∧ 0 < nk ∧ nk ≤ 4 ∧ nt ≤ 5 ∧ m ≤ 5 ∧ LamX.Tabs [(PT, lamQ)] H ∧ ∀ H', ExN H H' → LamX.Tabs [(PT, lamQ)] H' → Q (.bl true) H'
theorem ok_case (T : Bt mg) (D : Df K mg "_law_case_right" s__law_case_right ["_law_heap_here", "_law_kinds_here", "_law_many", "_law_units"])
    (G__law_draw : OkD P w K mg base CX0 1 "_law_draw" ["_law_heap_here", "_law_many"] sp_draw) (G__law_lots : OkD P w K mg base CX0 3 "_law_lots" ["_law_heap_here", "_law_kinds_here", "_law_types"] (sp_lots K))
    (G__law_made : OkD P w K mg base CX0 8 "_law_made" ["_law_heap_here", "_law_kinds_here", "_law_lots_here"] (sp_made K)) (G__law_few : OkD P w K mg base CX0 2 "_law_few" ["_law_heap_here", "_law_many", "_law_most"] (sp_few K))
    (G__law_bounds : OkD P w K mg base CX0 2 "_law_bounds" ["_law_heap_here", "_law_types", "_law_most"] (sp_bounds K)) (G__law_rows : OkD P w K mg base CX0 1 "_law_rows" ["_law_bounds_here", "_law_most"] (sp_rows K))
    (G__law_bare_right : OkD P w K mg base CX0 15 "_law_bare_right" ["_law_table", "_law_stock", "_law_bounds_here", "_law_one", "_law_other"] (sp_bare K PT))
    (G__law_first : OkD P w K mg base CX0 2 "_law_first" ["_law_lots_here", "_law_stock", "_law_rows_here", "_law_one", "_law_other"] (sp_first K))
    (G_fewest_requests : OkD P w K mg base (L2.CX P w) 11 "fewest_requests" ["table", "stock", "bounds", "one", "other"] (sp_fewest_requests K C)) (G_least_regret_row : OkD P w K mg base (L2.CX P w) 12 "least_regret_row" ["table", "stock", "bounds", "one", "other"] (sp_least_regret_row K C))
    (K_fewest_requests : OkK P w K mg base (L2.CX P w) 11 "fewest_requests" ["table", "stock", "bounds", "one", "other"] ["other", "one", "bounds", "stock", "table"] (sp_fewest_requests K C)) (K_least_regret_row : OkK P w K mg base (L2.CX P w) 12 "least_regret_row" ["table", "stock", "bounds", "one", "other"] ["other", "one", "bounds", "stock", "table"] (sp_least_regret_row K C))
    (G_types_within : OkD P w K mg base CX0 2 "types_within" ["table", "kinds"] (sp_types_within K)) (K_types_within : OkK P w K mg base CX0 2 "types_within" ["table", "kinds"] ["kinds", "table"] (sp_types_within K)) :
    OkG P w K mg base 16 "_law_case_right" ["_law_heap_here", "_law_kinds_here", "_law_many", "_law_units"] (sp_case K PT) := by
  refine OkG.of D sc_law_case_right (fun vs H Q E ⟨_, _, _, h, _⟩ => atLen h) (fun fa cdv A outer s H vs Q E hg hr ⟨nk, nt, m, h, n0, n4, t5, m5, hT, kk⟩ => ?_)
  obtain ⟨x, y, z, u, rfl, hx, hy, hz, hu⟩ := a4 h
  have hy : y = .int (nk : Int) := hy
  have hz : z = .int (nt : Int) := hz
  have hu : u = .int (m : Int) := hu
  subst hy hz hu
  refine ⟨_, (pss_cons (ps_set (i := 4) sc_law_case_right.nd rfl (by first | exact Or.inl rfl | exact Or.inr rfl) (pe_d G__law_lots hr (pa_cons (pv 0) (pa_cons (pv 1) (pa_cons (pv 2) pa_nil))))) (pss_cons (ps_par3 (i := 5) (j := 6) (l := 7) (by rfl) sc_law_case_right.nd rfl rfl rfl (by decide) (by decide) (by decide) rfl rfl rfl (pa_cons (pe_d G__law_made hr (pa_cons (pv 0) (pa_cons (pv 1) (pa_cons (pv 4) pa_nil)))) (pa_cons (pe_d G__law_few hr (pa_cons (pv 0) (pa_cons (pv 1) (pa_cons (pv 3) pa_nil)))) (pa_cons (pe_d G__law_bounds hr (pa_cons (pv 0) (pa_cons (pv 2) (pa_cons pe_int pa_nil)))) pa_nil))) (by rfl)) (pss_cons (ps_set (i := 8) sc_law_case_right.nd rfl (by first | exact Or.inl rfl | exact Or.inr rfl) (pe_d G__law_rows hr (pa_cons (pv 7) (pa_cons (pe_callB (call_max2 rfl) (by rfl) T.b_max (by decide +kernel) (pa_cons pe_int (pa_cons (pe_op op_sub (pe_callB (k_sumA K) (by rfl) T.b_sum (by decide +kernel) (pa_cons (pv 6) pa_nil)) pe_int) pa_nil))) pa_nil)))) (pss_cons (ps_for PassesOwn.never rfl (pi_range1 rfl T.b_range (pa_cons (pv 1) pa_nil)) (pg_name (i := 9) sc_law_case_right.nd rfl (by first | exact Or.inl rfl | exact Or.inr rfl)) (pss_one (ps_for PassesOwn.never rfl (pi_range1 rfl T.b_range (pa_cons (pv 1) pa_nil)) (pg_name (i := 10) sc_law_case_right.nd rfl (by first | exact Or.inl rfl | exact Or.inr rfl)) (pss_cons (ps_if (PW.pt (pw_or (pt_cmpR op_eq (pe_ix (k_ix K) (pv 6) (pv 9) (fun _ _ => rfl)) pe_int (nomark _)) (pw_or1 (pt_cmpR op_eq (pe_ix (k_ix K) (pv 6) (pv 10) (fun _ _ => rfl)) pe_int (nomark _))))) (pss_cons (ps_if (pt_not (pt_val (pe_d G__law_bare_right hr (pa_cons (pv 5) (pa_cons (pv 6) (pa_cons (pv 7) (pa_cons (pv 9) (pa_cons (pv 10) pa_nil)))))))) (pss_one (ps_ret pe_bl)) pss_nil) (pss_one ps_continue)) pss_nil) (pss_cons (ps_set (i := 11) sc_law_case_right.nd rfl (by first | exact Or.inl rfl | exact Or.inr rfl) (pe_d G__law_first hr (pa_cons (pv 4) (pa_cons (pv 6) (pa_cons (pv 8) (pa_cons (pv 9) (pa_cons (pv 10) pa_nil))))))) (pss_cons (ps_if (pt_cmpR op_ne (pe_callB (k_repr K hg hr.units) (by rfl) T.b_repr (by decide +kernel) (pa_cons (pe_dx G_least_regret_row hr passL (pa_cons (pv 5) (pa_cons (pv 6) (pa_cons (pv 7) (pa_cons (pv 9) (pa_cons (pv 10) pa_nil)))))) pa_nil)) (pe_callB (k_repr K hg hr.units) (by rfl) T.b_repr (by decide +kernel) (pa_cons (pv 11) pa_nil)) (nomark _)) (pss_one (ps_ret pe_bl)) pss_nil) (pss_cons (ps_if (pt_cmpR (k_neD K hr.units) (pe_dk K_least_regret_row hr passL (pk_cons (pv 10) (pk_cons (pv 9) (pk_cons (pv 7) (pk_cons (pv 6) (pk_cons (pv 5) pk_nil)))))) (pv 11) (nomark _)) (pss_one (ps_ret pe_bl)) pss_nil) (pss_cons (ps_set (i := 12) sc_law_case_right.nd rfl (by first | exact Or.inl rfl | exact Or.inr rfl) (pe_ifExp (pt_cmp (pc_isN (pv 11)) rfl) pe_non (pe_callB (k_len K) (by rfl) T.b_len (by decide +kernel) (pa_cons (pv 11) pa_nil)))) (pss_cons (ps_if (pt_cmpR op_ne (pe_callB (k_repr K hg hr.units) (by rfl) T.b_repr (by decide +kernel) (pa_cons (pe_dx G_fewest_requests hr passL (pa_cons (pv 5) (pa_cons (pv 6) (pa_cons (pv 7) (pa_cons (pv 9) (pa_cons (pv 10) pa_nil)))))) pa_nil)) (pe_callB (k_repr K hg hr.units) (by rfl) T.b_repr (by decide +kernel) (pa_cons (pv 12) pa_nil)) (nomark _)) (pss_one (ps_ret pe_bl)) pss_nil) (pss_one (ps_if (pt_cmpR (k_neD K hr.units) (pe_dk K_fewest_requests hr passL (pk_cons (pv 10) (pk_cons (pv 9) (pk_cons (pv 7) (pk_cons (pv 6) (pk_cons (pv 5) pk_nil)))))) (pv 12) (nomark _)) (pss_one (ps_ret pe_bl)) pss_nil))))))))))) (pss_cons (ps_set (i := 13) sc_law_case_right.nd rfl (by first | exact Or.inl rfl | exact Or.inr rfl) (pe_callTy (k_tuple K) (by rfl) T.b_tuple (by decide +kernel) (pa_cons (pe_lc (own := [("_law_kind", 14)]) (g := gName 14) rfl sc_law_case_right.nd (pi_range1 rfl T.b_range (pa_cons (pv 1) pa_nil)) (blkOk_by (N := N__law_case_right) (sc := (defScope s__law_case_right)) (by decide +kernel)) (fun _ _ _ _ _ => (pg_name (i := 14) sc_law_case_right.nd rfl (by first | exact Or.inl rfl | exact Or.inr rfl))) (fun _ _ _ _ _ => (pts_one (pt_cmpR op_eq (pe_d G__law_draw hr (pa_cons (pv 0) (pa_cons pe_int pa_nil))) pe_int (nomark _)))) (fun _ _ _ _ _ => (pv 14))) pa_nil))) (pss_cons (ps_set (i := 11) sc_law_case_right.nd rfl (by first | exact Or.inl rfl | exact Or.inr rfl) (pe_callTy (k_tuple K) (by rfl) T.b_tuple (by decide +kernel) (pa_cons (pe_lc (own := [("_law_at", 15)]) (g := gName 15) rfl sc_law_case_right.nd (pi_range1 rfl T.b_range (pa_cons (pv 2) pa_nil)) (blkOk_by (N := N__law_case_right) (sc := (defScope s__law_case_right)) (by decide +kernel)) (fun _ _ _ _ _ => (pg_name (i := 15) sc_law_case_right.nd rfl (by first | exact Or.inl rfl | exact Or.inr rfl))) (fun _ _ _ _ _ => (pts_one (pt_not (pt_val (pe_callB (k_any K) (by rfl) T.b_any (by decide +kernel) (pa_cons (pe_lc (own := [("_law_kind", 14)]) (g := gName 14) (tt := tYes) rfl sc_law_case_right.nd (k_pit K (pe_ix (k_ix K) (pv 4) (pv 15) (fun _ _ => rfl))) (blkOk_by (N := N__law_case_right) (sc := (relS (mkSc [(".0", .local), ("_law_at", .local), ("any", .globalImplicit), ("_law_lots_here", .free), ("_law_some", .free)]) (defScope s__law_case_right))) (by decide +kernel)) (fun _ _ _ _ _ => (pg_name (i := 14) sc_law_case_right.nd rfl (by first | exact Or.inl rfl | exact Or.inr rfl))) (fun _ _ _ _ _ => pts_nil) (fun _ _ _ _ _ => (pe_cmpR (k_notIn K) (pv 14) (pv 13) (by rfl)))) pa_nil)))))) (fun _ _ _ _ _ => (pv 15))) pa_nil))) (pss_one (ps_ret (pe_and (pe_cmpR op_eq (pe_callB (k_repr K hg hr.units) (by rfl) T.b_repr (by decide +kernel) (pa_cons (pe_d G_types_within hr (pa_cons (pv 5) (pa_cons (pv 13) pa_nil))) pa_nil)) (pe_callB (k_repr K hg hr.units) (by rfl) T.b_repr (by decide +kernel) (pa_cons (pv 11) pa_nil)) (nomark _)) (pe_one (pe_cmpR (k_eqD K hr.units) (pe_dk K_types_within hr pass0 (pk_cons (pv 13) (pk_cons (pv 5) pk_nil))) (pv 11) (nomark _)))))))))))), ?_⟩
  refine q_set (s := lotsP K nk nt) (e_call (a_cons (e_var (v := x) rfl hx) (a_cons (e_var (v := .int (nk : Int)) rfl rfl) (a_cons (e_var (v := .int (nt : Int)) rfl rfl) a_nil))) fun vs H1 p Q q => ⟨nk, nt, p, n0, by omega, by omega, q⟩) fun v4 H1 e1 ⟨ls, hls, p4⟩ => ?_
  refine q_par3S (s1 := madeS K fun T => T.nk = nk ∧ T.lots = ls) (s2 := datP K fun d => ∃ st, d = dIs st ∧ StOk nk m st) (s3 := datP K fun d => ∃ bl, d = dOs bl ∧ BdOk nt 3 bl)
    (e_call (a_cons (e_var (i := 0) (v := x) rfl (Sh.up _ _ _ _ e1 hx)) (a_cons (e_var (i := 1) (v := .int (nk : Int)) rfl rfl) (a_cons (e_var (i := 4) (v := v4) rfl p4) a_nil))) fun vs H2 p Q q => ⟨nk, ls, p, n0, by omega, by have := hls.1; omega, hls.2, q⟩)
    (e_call (a_cons (e_var (i := 0) (v := x) rfl (Sh.up _ _ _ _ e1 hx)) (a_cons (e_var (i := 1) (v := .int (nk : Int)) rfl rfl) (a_cons (e_var (i := 3) (v := .int (m : Int)) rfl rfl) a_nil))) fun vs H2 p Q q => ⟨nk, m, p, n0, by omega, by omega, q⟩)
    (e_call (a_cons (e_var (i := 0) (v := x) rfl (Sh.up _ _ _ _ e1 hx)) (a_cons (e_var (i := 2) (v := .int (nt : Int)) rfl rfl) (a_cons (e_int (i := 3)) a_nil))) fun vs H2 p Q q => ⟨nt, 3, p, by omega, by omega, q⟩) fun v5 v6 v7 H2 e2 ⟨tb, g, ⟨hT1, hT2⟩, p5⟩ ⟨_, ⟨st, rfl, hst, hst0, hstm⟩, p6⟩ ⟨_, ⟨bl, rfl, hbl, hbl0⟩, p7⟩ => ?_
  have co := caseOk (by omega) (by omega) g hT1 hT2 hls hst hst0 hbl (fun m hm => (hbl0 m hm).1)
  subst hT2
  have sl7 : Sl 16 [x, .int (nk : Int), .int (nt : Int), .int (m : Int), v4, v5, v6, v7] (((((L2.start N__law_case_right [x, .int (nk : Int), .int (nt : Int), .int (m : Int)]).set 4 (some v4)).set 5 (some v5)).set 6 (some v6)).set 7 (some v7)) := Sl.of rfl rfl
  generalize ((((L2.start N__law_case_right [x, .int (nk : Int), .int (nt : Int), .int (m : Int)]).set 4 (some v4)).set 5 (some v5)).set 6 (some v6)).set 7 (some v7) = σ7 at sl7
  refine q_set (s := ndLs K (rowsTo bl (st.sum - 1).toNat)) (e_call (a_cons (sl7.var (i := 7) (v := v7) rfl p7) (a_cons (s := intS (((st.sum - 1).toNat : Nat) : Int)) ((e_max2 (a_cons (e_int (i := 0)) (a_cons (e_I0 (g := fun i j => .int (i - j)) (e_sumT (sl7.var (i := 6) (v := v6) rfl p6)) (e_int (i := 1))) a_nil))).cast (by congr 1; split <;> omega)) a_nil)) fun vs H3 p Q q => ⟨bl, _, p, by omega, by omega, q⟩) fun v8 H3 e3 p8 => ?_
  have sl8 : Sl 16 [x, .int (nk : Int), .int (nt : Int), .int (m : Int), v4, v5, v6, v7, v8] (σ7.set 8 (some v8)) := sl7.push (by show 8 < 16; decide)
  generalize σ7.set 8 (some v8) = σ8 at sl8
  have hx3 : hpS.P x H3 := Sh.up _ _ _ _ (e1.trans (e2.trans e3)) hx
  have p4 : (lstS K (tb.lots.map dNs)).P v4 H3 := Sh.up _ _ _ _ (e2.trans e3) p4
  have p5 : (tabS K tb).P v5 H3 := Sh.up _ _ _ _ e3 p5
  have p6 : (dat K (dIs st)).P v6 H3 := Sh.up (dat K (dIs st)) _ _ _ e3 p6
  have p7 : (dat K (dOs bl)).P v7 H3 := Sh.up (dat K (dOs bl)) _ _ _ e3 p7
  have hT3 : LamX.Tabs [(PT, lamQ)] H3 := hT.ext (e1.trans (e2.trans e3))
  have exH : ∀ {H' : Hp}, ExN H3 H' → ExN H H' := fun e => LamX.ExtN.trans (ExN.ofE (e1.trans (e2.trans e3))) e
  have eH : ∀ {σ' : L2.St} {H' : Hp}, Sl 16 [x, .int (nk : Int), .int (nt : Int), .int (m : Int), v4, v5, v6, v7, v8] σ' → ExN H3 H' → EvS (tVar 0) σ' H' hpS := fun sl e => sl.var (i := 0) (v := x) rfl (upN_hp _ _ _ e hx3)
  have eK : ∀ {σ' : L2.St} {H' : Hp}, Sl 16 [x, .int (nk : Int), .int (nt : Int), .int (m : Int), v4, v5, v6, v7, v8] σ' → EvS (tVar 1) σ' H' (intS (nk : Int)) := fun sl => sl.var (i := 1) (v := .int (nk : Int)) rfl rfl
  have eL : ∀ {σ' : L2.St} {H' : Hp}, Sl 16 [x, .int (nk : Int), .int (nt : Int), .int (m : Int), v4, v5, v6, v7, v8] σ' → ExN H3 H' → EvS (tVar 4) σ' H' (lstS K (tb.lots.map dNs)) := fun sl e => sl.var (i := 4) (v := v4) rfl (upN_lst _ _ _ _ _ e p4)
  have eT : ∀ {σ' : L2.St} {H' : Hp}, Sl 16 [x, .int (nk : Int), .int (nt : Int), .int (m : Int), v4, v5, v6, v7, v8] σ' → ExN H3 H' → EvS (tVar 5) σ' H' (tabS K tb) := fun sl e => sl.var (i := 5) (v := v5) rfl (upN_tab _ _ _ _ _ e p5)
  have eS : ∀ {σ' : L2.St} {H' : Hp}, Sl 16 [x, .int (nk : Int), .int (nt : Int), .int (m : Int), v4, v5, v6, v7, v8] σ' → ExN H3 H' → EvS (tVar 6) σ' H' (dat K (dIs st)) := fun sl e => sl.var (i := 6) (v := v6) rfl (upN_dat _ _ _ _ _ e p6)
  have eB : ∀ {σ' : L2.St} {H' : Hp}, Sl 16 [x, .int (nk : Int), .int (nt : Int), .int (m : Int), v4, v5, v6, v7, v8] σ' → ExN H3 H' → EvS (tVar 7) σ' H' (dat K (dOs bl)) := fun sl e => sl.var (i := 7) (v := v7) rfl (upN_dat _ _ _ _ _ e p7)
  have eR : ∀ {σ' : L2.St} {H' : Hp}, Sl 16 [x, .int (nk : Int), .int (nt : Int), .int (m : Int), v4, v5, v6, v7, v8] σ' → ExN H3 H' → EvS (tVar 8) σ' H' (ndLs K (rowsTo bl (st.sum - 1).toNat)) := fun sl e => sl.var (i := 8) (v := v8) rfl (upN_ndLs _ _ _ _ _ e p8)
  have hsum : st.sum ≤ 5 := by omega
  have hSg : Sg tb.nk (fn st) ≤ 1000 := by rw [← co.hst, Sg_fn]; omega
  have hnk : tb.nk = nk := hT1
  have hlt : tb.lots.length = nt := hls.1
  refine q_for (s_forR1 (n := (nk : Int)) (a_cons (eK sl8) a_nil) (by omega) fun H4 e4 => ⟨fun i σ' H' => Sl 16 [x, .int (nk : Int), .int (nt : Int), .int (m : Int), v4, v5, v6, v7, v8] σ' ∧ ExN H3 H' ∧ LamX.Tabs [(PT, lamQ)] H', ⟨sl8, ExN.ofE e4, hT3.ext e4⟩, ?_, ?_⟩)
  · rintro one σ' H' ho1 ⟨sl, ex, hTb⟩
    have ho1 : one < nk := by omega
    have sl9 : Sl 16 [x, .int (nk : Int), .int (nt : Int), .int (m : Int), v4, v5, v6, v7, v8] (σ'.set 9 (some (.int (one : Int)))) := sl.set (by show 9 ≤ 9; decide)
    have h99 : (σ'.set 9 (some (V.int (one : Int))))[9]? = some (some (.int (one : Int))) := sl_same sl.len (by decide)
    generalize σ'.set 9 (some (V.int (one : Int))) = σ9 at sl9 h99
    refine s_forR1 (n := (nk : Int)) (a_cons (eK sl9) a_nil) (by omega) fun H4 e4 => ⟨fun i σ' H' => Sl 16 [x, .int (nk : Int), .int (nt : Int), .int (m : Int), v4, v5, v6, v7, v8] σ' ∧ σ'[9]? = some (some (.int (one : Int))) ∧ ExN H3 H' ∧ LamX.Tabs [(PT, lamQ)] H', ⟨sl9, h99, LamX.ExtN.trans ex (ExN.ofE e4), hTb.ext e4⟩, ?_, fun σ' H' q => ⟨q.1, q.2.2.1, q.2.2.2⟩⟩
    rintro other σ' H' ho2 ⟨sl, h9, ex, hTb⟩
    have ho2 : other < nk := by omega
    have sl10 : Sl 16 [x, .int (nk : Int), .int (nt : Int), .int (m : Int), v4, v5, v6, v7, v8] (σ'.set 10 (some (.int (other : Int)))) := sl.set (by show 9 ≤ 10; decide)
    have h109 : (σ'.set 10 (some (V.int (other : Int))))[9]? = some (some (.int (one : Int))) := sl_ne (by decide) h9
    have h1010 : (σ'.set 10 (some (V.int (other : Int))))[10]? = some (some (.int (other : Int))) := sl_same sl.len (by decide)
    generalize σ'.set 10 (some (V.int (other : Int))) = σ10 at sl10 h109 h1010
    have e9 : ∀ {H' : Hp}, EvS (tVar 9) σ10 H' (intS (one : Int)) := e_var h109 rfl
    have e10 : ∀ {H' : Hp}, EvS (tVar 10) σ10 H' (intS (other : Int)) := e_var h1010 rfl
    have hl1 : one < st.length := by rw [hst]; exact ho1
    have hl2 : other < st.length := by rw [hst]; exact ho2
    have g1 : (st.map PyData.int)[one]? = some (.int (fn st one)) := by rw [List.getElem?_map, fn_get hl1]; rfl
    have g2 : (st.map PyData.int)[other]? = some (.int (fn st other)) := by rw [List.getElem?_map, fn_get hl2]; rfl
    have o1 : one < tb.nk := by omega
    have o2 : other < tb.nk := by omega
    refine q_when (b := decide (fn st one = 0) || decide (fn st other = 0)) (t_or (t_test (e_eqI (EvS.toI (e_ixT (eS sl10 ex) e9 g1)) e_int)) fun _ => t_test (e_eqI (EvS.toI (e_ixT (eS sl10 ex) e10 g2)) e_int)) (fun hb H5 e5 => ?_) (fun hb H5 e5 => ?_)
    · have hz : fn st one = 0 ∨ fn st other = 0 := by simpa using hb
      have ex5 : ExN H3 H5 := LamX.ExtN.trans ex (ExN.ofE e5)
      refine c_call (a_cons (eT sl10 ex5) (a_cons (eS sl10 ex5) (a_cons (eB sl10 ex5) (a_cons e9 (a_cons e10 a_nil))))) fun vs H6 e6 p => ?_
      refine ⟨tb, st, bl, one, other, p, co.go, co.cs, co.hst, o1, o2, hSg, hz, hTb.ext (e5.trans e6), fun H7 e7 T7 => ?_⟩
      exact ⟨true, rfl, iteF ⟨sl10, h109, LamX.ExtN.trans ex5 (LamX.ExtN.trans (ExN.ofE e6) e7), T7⟩⟩
    · have hn : ¬ (fn st one = 0 ∨ fn st other = 0) := fun z => by
        have : (decide (fn st one = 0) || decide (fn st other = 0)) = true := by simpa using z
        rw [hb] at this
        cases this
      have hc := co.cs
      have s1 : 1 ≤ fn st one := by have := hc.st one; have : fn st one ≠ 0 := fun z => hn (.inl z); omega
      have s2 : 1 ≤ fn st other := by have := hc.st other; have : fn st other ≠ 0 := fun z => hn (.inr z); omega
      obtain ⟨ok1, ok2⟩ := ok_lrr (bl := bl) hc hl1 hl2 s1 s2 (by omega) (by omega)
      have fst_ := (lrr_first (bl := bl) hc hl1 hl2 s1 s2).1
      have few := fewest_lrr (bl := bl) hc hl1 hl2 s1 s2
      have ex5 : ExN H3 H5 := LamX.ExtN.trans ex (ExN.ofE e5)
      refine q_set (s := dat K (dOr (lrr tb.lots st bl one other))) (e_call (a_cons (eL sl10 ex5) (a_cons (eS sl10 ex5) (a_cons (eR sl10 ex5) (a_cons e9 (a_cons e10 a_nil))))) fun vs H6 p Q q => ⟨tb.lots, st, _, one, other, p, co.lok, hl1, hl2, fun row hrow => ?_, Nat.le_trans (rows_len bl (by omega) _ (by omega)) (Nat.le_trans (Nat.pow_le_pow_right (by decide) (show (st.sum - 1).toNat + 1 ≤ 5 by omega)) (by decide)), by unfold firstL at fst_; rw [fst_]; exact q⟩) fun v11 H6 e6 p11 => ?_
      · have := rows_row hrow
        omega
      have sl11 : Sl 16 [x, .int (nk : Int), .int (nt : Int), .int (m : Int), v4, v5, v6, v7, v8] (σ10.set 11 (some v11)) := sl10.set (by show 9 ≤ 11; decide)
      have h119 : (σ10.set 11 (some v11))[9]? = some (some (.int (one : Int))) := sl_ne (by decide) h109
      have h1110 : (σ10.set 11 (some v11))[10]? = some (some (.int (other : Int))) := sl_ne (by decide) h1010
      have h1111 : (σ10.set 11 (some v11))[11]? = some (some v11) := sl_same sl10.len (by decide)
      generalize σ10.set 11 (some v11) = σ11 at sl11 h119 h1110 h1111
      have ex6 : ExN H3 H6 := LamX.ExtN.trans ex5 (ExN.ofE e6)
      have ev11 : ∀ {H' : Hp}, Ex H6 H' → EvS (tVar 11) σ11 H' (dat K (dOr (lrr tb.lots st bl one other))) := fun e => e_var h1111 (Sh.up (dat K _) _ _ _ e p11)
      have eargs : ∀ {H' : Hp}, ExN H3 H' → EvA (tCons (tVar 5) (tCons (tVar 6) (tCons (tVar 7) (tCons (tVar 9) (tCons (tVar 10) tNil))))) σ11 H' [tabS K tb, dat K (dIs st), dat K (dOs bl), intS (one : Int), intS (other : Int)] := fun e => a_cons (eT sl11 e) (a_cons (eS sl11 e) (a_cons (eB sl11 e) (a_cons (e_var h119 rfl) (a_cons (e_var h1110 rfl) a_nil))))
      have kargs : ∀ {H' : Hp}, ExN H3 H' → EvA (tCons (tVar 10) (tCons (tVar 9) (tCons (tVar 7) (tCons (tVar 6) (tCons (tVar 5) tNil))))) σ11 H' [intS (other : Int), intS (one : Int), dat K (dOs bl), dat K (dIs st), tabS K tb] := fun e => a_cons (e_var h1110 rfl) (a_cons (e_var h119 rfl) (a_cons (eB sl11 e) (a_cons (eS sl11 e) (a_cons (eT sl11 e) a_nil))))
      refine q_when (b := false) (t_reprs (e_call (eargs ex6) fun vs H7 p Q q => ⟨tb, st, bl, one, other, p, co.go, hc, co.hst, o1, o2, hSg, fun _ _ => q, fun z => absurd z hn⟩) (ev11 (Evl.Ex.refl _)) ok1) (fun z => nomatch z) fun _ H7 e7 => ?_
      have ex7 : ExN H3 H7 := LamX.ExtN.trans ex6 (ExN.ofE e7)
      refine q_when (b := false) (t_sameD (e_callK (kargs ex7) rfl fun vs H8 p Q q => ⟨tb, st, bl, one, other, at_rev5 p, co.go, hc, co.hst, o1, o2, hSg, fun _ _ => q, fun z => absurd z hn⟩) (ev11 e7) (shaped_dOr _)) (fun z => nomatch z) fun _ H8 e8 => ?_
      have ex8 : ExN H3 H8 := LamX.ExtN.trans ex7 (ExN.ofE e8)
      have elen : EvS (tIf (tB (tIsN (tVar 11))) (tC .non) (tCB (fun xs H Q => ∃ p ys, xs = [V.ref p] ∧ (SqL K H p ys ∨ SqT K H p ys) ∧ Q (.int ys.length) H) (tCons (tVar 11) tNil))) σ11 H8 (dat K (dO (fewest tb.lots st bl one other))) := by
        rw [few]
        have ev := ev11 (e7.trans e8)
        cases hl : lrr tb.lots st bl one other with
        | none =>
          rw [hl] at ev
          exact e_if (b := true) (t_B (e_isN ev)) (fun _ => e_non) (fun z => nomatch z)
        | some R =>
          rw [hl] at ev
          exact e_if (b := false) (t_B (e_isN ev)) (fun z => nomatch z) (fun _ => ((e_len (K := K) (ds := R.map dN) (a_cons ev a_nil)).cast (by rw [List.length_map])).toD)
      refine q_set elen fun v12 H9 e9' p12 => ?_
      have sl12 : Sl 16 [x, .int (nk : Int), .int (nt : Int), .int (m : Int), v4, v5, v6, v7, v8] (σ11.set 12 (some v12)) := sl11.set (by show 9 ≤ 12; decide)
      have h129 : (σ11.set 12 (some v12))[9]? = some (some (.int (one : Int))) := sl_ne (by decide) h119
      have h1210 : (σ11.set 12 (some v12))[10]? = some (some (.int (other : Int))) := sl_ne (by decide) h1110
      have h1212 : (σ11.set 12 (some v12))[12]? = some (some v12) := sl_same sl11.len (by decide)
      generalize σ11.set 12 (some v12) = σ12 at sl12 h129 h1210 h1212
      have ex9 : ExN H3 H9 := LamX.ExtN.trans ex8 (ExN.ofE e9')
      have ev12 : ∀ {H' : Hp}, Ex H9 H' → EvS (tVar 12) σ12 H' (dat K (dO (fewest tb.lots st bl one other))) := fun e => e_var h1212 (Sh.up (dat K _) _ _ _ e p12)
      refine q_when (b := false) (t_reprs (e_call (a_cons (eT sl12 ex9) (a_cons (eS sl12 ex9) (a_cons (eB sl12 ex9) (a_cons (e_var h129 rfl) (a_cons (e_var h1210 rfl) a_nil))))) fun vs H10 p Q q => ⟨tb, st, bl, one, other, p, co.go, hc, co.hst, o1, o2, fun _ _ => q, fun z => absurd z hn⟩) (ev12 (Evl.Ex.refl _)) ok2) (fun z => nomatch z) fun _ H10 e10' => ?_
      have ex10 : ExN H3 H10 := LamX.ExtN.trans ex9 (ExN.ofE e10')
      refine s_when (b := false) (t_sameD (e_callK (a_cons (e_var h1210 rfl) (a_cons (e_var h129 rfl) (a_cons (eB sl12 ex10) (a_cons (eS sl12 ex10) (a_cons (eT sl12 ex10) a_nil))))) rfl fun vs H11 p Q q => ⟨tb, st, bl, one, other, at_rev5 p, co.go, hc, co.hst, o1, o2, fun _ _ => q, fun z => absurd z hn⟩) (ev12 e10') (shaped_dO _)) (fun z => nomatch z) fun _ H11 e11 => ?_
      exact ⟨sl12, h129, LamX.ExtN.trans ex10 (ExN.ofE e11), hTb.ext (e5.trans (e6.trans (e7.trans (e8.trans (e9'.trans (e10'.trans e11))))))⟩
  · rintro σ' H' ⟨sl, ex, hTb⟩
    refine q_set (s := datP K (lotP nk)) (e_tupleSel (A := fun _ _ => True) (R := fun i d => d = dN i) (e_lcN nk _ _ (a_cons (eK sl) a_nil) (by omega) wip2 fun j H4 e4 hj => ?_) fun ds hs => ?_) fun v13 H4 e4 ⟨_, ⟨l13, rfl, hl13⟩, p13⟩ => ?_
    · rw [wip1]
      exact ⟨n_eq0 (e_draw (m := 2) (eH (sl.set (by show 9 ≤ 14; decide)) (LamX.ExtN.trans ex (ExN.ofE e4))) e_int (by decide) (by decide)), fun _ => (e_var (v := .int (j : Int)) (s := dat K (dN j)) (sl_same (n := 16) sl.len (by decide)) (.int _)).datP rfl⟩
    · obtain ⟨l, e, h1⟩ := sel_lot hs
      exact ⟨l, by rw [e]; rfl, h1⟩
    have sl13 : Sl 16 [x, .int (nk : Int), .int (nt : Int), .int (m : Int), v4, v5, v6, v7, v8] (σ'.set 13 (some v13)) := sl.set (by show 9 ≤ 13; decide)
    have h1313 : (σ'.set 13 (some v13))[13]? = some (some v13) := sl_same sl.len (by decide)
    generalize σ'.set 13 (some v13) = σ13 at sl13 h1313
    have ex4 : ExN H3 H4 := LamX.ExtN.trans ex (ExN.ofE e4)
    have htw : tw tb.lots l13 = (List.range nt).filter fun r => !(tb.lots.getD r []).any fun k => !l13.contains k := by
      unfold tw
      rw [hlt]
      refine List.filter_congr fun r _ => ?_
      rw [List.not_any_eq_all_not]
      simp
    refine q_set (s := dat K (dNs (tw tb.lots l13))) (EvS.cast (e_tupleL (a_cons (e_lcR nt (fun r => !(tb.lots.getD r []).any fun k => !l13.contains k) dN (a_cons (sl13.var (i := 2) (v := .int (nt : Int)) rfl rfl) a_nil) (by omega) wip2 fun r H5 e5 hr5 => ?_) a_nil)) (by rw [htw]; rfl)) fun v14 H5 e5 p14 => ?_
    · show EvT _ ((wipe σ13 [15]).set 15 (some (V.int (r : Int)))) _ _ ∧ (_ → EvS _ ((wipe σ13 [15]).set 15 (some (V.int (r : Int)))) _ _)
      rw [wip1]
      have sl15 : Sl 16 [x, .int (nk : Int), .int (nt : Int), .int (m : Int), v4, v5, v6, v7, v8] (σ13.set 15 (some (.int (r : Int)))) := sl13.set (by show 9 ≤ 15; decide)
      have h1513 : (σ13.set 15 (some (V.int (r : Int))))[13]? = some (some v13) := sl_ne (by decide) h1313
      have h1515 : (σ13.set 15 (some (V.int (r : Int))))[15]? = some (some (.int (r : Int))) := sl_same sl13.len (by decide)
      generalize σ13.set 15 (some (V.int (r : Int))) = σ15 at sl15 h1513 h1515
      have hr6 : r < tb.lots.length := by omega
      have ex5 : ExN H3 H5 := LamX.ExtN.trans ex4 (ExN.ofE e5)
      refine ⟨t_not (t_B (e_anyF (tb.lots.getD r []) (fun k => !l13.contains k) (e_lcT (tb.lots.getD r []) dN (fun _ => true) _ (e_ixL (d := dNs (tb.lots.getD r [])) (eL sl15 ex5) (e_var h1515 rfl) ?_) ?_ wip2 fun k u H6 e6 hk hu => ⟨t_yes, fun _ => EvS.toB ?_⟩))), fun _ => (e_var (v := .int (r : Int)) (s := dat K (dN r)) h1515 (.int _))⟩
      · rw [List.getElem?_map, List.getElem?_eq_getElem hr6, List.getD_eq_getElem?_getD, List.getElem?_eq_getElem hr6]
        rfl
      · have := co.lok.len r
        omega
      · show EvS _ ((wipe σ15 [14]).set 14 (some u)) _ _
        rw [wip1]
        exact e_notInN (e_var (v := u) (sl_same (n := 16) sl15.len (by decide)) hu.int_inv) (e_var (v := v13) (sl_ne (by decide) h1513) (Sh.up (dat K (dNs l13)) _ _ _ (e5.trans e6) p13))
    have sl14 : Sl 16 [x, .int (nk : Int), .int (nt : Int), .int (m : Int), v4, v5, v6, v7, v8] (σ13.set 11 (some v14)) := sl13.set (by show 9 ≤ 11; decide)
    have h1413 : (σ13.set 11 (some v14))[13]? = some (some v13) := sl_ne (by decide) h1313
    have h1411 : (σ13.set 11 (some v14))[11]? = some (some v14) := sl_same sl13.len (by decide)
    generalize σ13.set 11 (some v14) = σ14 at sl14 h1413 h1411
    have ex5 : ExN H3 H5 := LamX.ExtN.trans ex4 (ExN.ofE e5)
    have ev13 : ∀ {H' : Hp}, Ex H5 H' → EvS (tVar 13) σ14 H' (dat K (dNs l13)) := fun e => e_var h1413 (Sh.up (dat K _) _ _ _ (e5.trans e) p13)
    have ev11 : ∀ {H' : Hp}, Ex H5 H' → EvS (tVar 11) σ14 H' (dat K (dNs (tw tb.lots l13))) := fun e => e_var h1411 (Sh.up (dat K _) _ _ _ e p14)
    have okt : reprOk (dNs (tw tb.lots l13)) := reprOk_dNs (fun r hr => by have := tw_lt r hr; omega) (by
      unfold tw
      refine Nat.le_trans (List.length_filter_le _ _) ?_
      rw [List.length_range]
      omega)
    refine s_ret (Q := Q) (s := blS true) (EvS.cast (e_andV (e_eq (e_repr (e_call (a_cons (eT sl14 ex5) (a_cons (ev13 (Evl.Ex.refl _)) a_nil)) fun vs H6 p Q q => ⟨tb, l13, p, co.go, q⟩) okt) (e_repr (ev11 (Evl.Ex.refl _)) okt) rfl) fun _ => e_eqD (e_callK (a_cons (ev13 (Evl.Ex.refl _)) (a_cons (eT sl14 ex5) a_nil)) rfl fun vs H6 p Q q => ⟨tb, l13, at_rev2 p, co.go, q⟩) (ev11 (Evl.Ex.refl _)) (shaped_dNs _) (shaped_dNs _)) (by rw [eqvD (shaped_dNs _)]; simp)) fun v H6 e6 p => ?_
    have p : v = .bl true := p
    subst p
    exact kk H6 (exH (LamX.ExtN.trans ex5 (ExN.ofE e6))) (hTb.ext (e4.trans (e5.trans e6)))
end
end K45
/-! sorted of a tuple of ints. -/
namespace K45
open PySem L2 RZ
def rSortedTu (K : Fg) : List V → Hp → VK → Prop := fun vs H Q => ∃ (a : Addr) (ns : List Int), vs = [V.ref a] ∧ SqT K H a (ns.map V.int) ∧ ∀ (ms : List Int) (p : Addr), ms.Perm ns → ms.Pairwise (· ≤ ·) → H p = none → Q (.ref p) (upd H p (.lst (ms.map V.int)))
section
open PyProof.Rows
variable {X : Cx}
theorem k_sortedTu (K : Fg) (hK : X.K = K := by rfl) : CallR X (.builtin "sorted") (rSortedTu K) := by
  subst hK
  intro pins s σ H vs us Q J r hq
  obtain ⟨a, ns, rfl, hs, q⟩ := hq
  obtain ⟨its, rv, ⟨ob, hget, hcl, m0, hdat⟩, hz⟩ := J.tuple hs
  rw [Vals.ref1 r]
  have hi := rv.ints
  have hz2 : its.length ≤ sizeLine := by rw [← rv.length]; exact hz
  refine Calls.call_function_entry kind_sorted plain_sorted entry_sorted (args_sorted1 _) ?_
  unfold Builtin.«sorted»
  refine wpAny_bind (m := checkCount "sorted" 1 1 _) (wpAny_pure ?_)
  refine wpAny_bind (wpAny_collect_seq a (T := "tuple") (.inr rfl) hget hcl hdat (fun h1 k1 => ?_) (by rw [List.size_toArray]; exact hz2))
  have J1 : Inv X pins σ H { s with heap := h1 } := J.kept (t' := s.toks) k1
  rw [show its.toArray.toList = its from by simp]
  refine wpAny_bind (wpAny_newList ?_ hz2)
  have at_ : (h1.push (seqObj "list" its.toArray 0)).get? h1.objs.size = some (seqObj "list" its.toArray 0) := Heap.get?_push_size _ rfl
  show wpAny _ _ _ _ _ { s with heap := h1.push (seqObj "list" its.toArray 0) }
  refine wpAny_bind (wpAny_holding (wpAny_call_entry slot_list_sort ⟨_, at_, rfl⟩ entry_list_sort (SrtO.list_sort_ord (s := { s with heap := h1.push (seqObj "list" its.toArray 0) }) SrtO.swo_int at_ hz2 (fun h2 => SrtO.ints_sortable hi h2) fun out o1 o2 => ⟨_, rfl, ?_⟩) (args_list_sort _)))
  obtain ⟨k1', k2, k3⟩ := SrtO.ints_out hi o1 o2
  obtain ⟨ep, at2⟩ := sortedHeap_at (vs := its) (out := out.toArray) at_
  have small : ((out.map SrtO.iv).map V.int).length ≤ sizeLine := by
    rw [List.length_map, k2.length_eq]
    rw [List.length_map] at hz
    exact hz
  refine wpAny_pure ⟨_, rfl, .ref h1.objs.size, upd H h1.objs.size (.lst ((out.map SrtO.iv).map V.int)), J1.laid (t' := s.toks) (fun b u e => ?_) (Nat.le_refl _)
    (show ObjOk X.prog X.w _ _ _ (.lst ((out.map SrtO.iv).map V.int)) from ⟨small, out, ep, vals_of_ints k1', at2⟩), rfl, q _ _ k2 k3 (J1.hok.fresh (Nat.le_refl _))⟩
  have below : b < h1.objs.size := Heap.lt_size e
  rw [sortedHeap_old (Nat.ne_of_lt below) (by rw [size_push']; exact Nat.lt_succ_of_lt below)]
  exact Heap.get?_push_of_some _ e
end
section
variable {K : Fg} {σ : L2.St} {H : Hp} {te : TE}
/-- sorted(t), t ascending already -/
theorem e_sortedTu {ns : List Int} (h : EvS te σ H (dat K (dIs ns))) (hs : ns.Pairwise (· ≤ ·)) : EvS (tCB (rSortedTu K) (tCons te tNil)) σ H (lstS K (ns.map .int)) :=
  e_CB (a_cons h a_nil) fun vs H1 _ p Q q => by
    obtain ⟨w, rfl, pw⟩ := a1 p
    obtain ⟨a, xs, rfl, hq, hd⟩ := Tp.tup_inv pw
    refine ⟨a, ns, rfl, by rw [← hd.ints]; exact hq, fun ks l k1 k2 hl => q _ _ (Evl.Ex.new hl) ?_⟩
    have e : ks = ns := k1.eq_of_pairwise (le := fun a b : Int => a ≤ b) (fun a b _ _ h1 h2 => Int.le_antisymm h1 h2) k2 hs
    subst e
    exact ⟨l, _, rfl, upd_same, tpAll_ints ks⟩
end
end K45
/-! The law's own defs: great stocks. -/
namespace K45
open PySem L2 RZ
theorem sum_le_mul {c : Int} : ∀ l : List Int, (∀ x ∈ l, x ≤ c) → l.sum ≤ l.length * c
  | [], _ => by simp
  | a :: l, h => by
    have h1 := sum_le_mul l fun x hx => h x (List.mem_cons_of_mem _ hx)
    have h2 := h a List.mem_cons_self
    rw [List.sum_cons, List.length_cons, Int.natCast_add, Int.add_mul]
    omega
theorem atP_all {α : Type} {p : α → Prop} {l : List α} (h : AtP (fun _ => p) l) : ∀ x ∈ l, p x := fun x hx => by
  obtain ⟨i, hi⟩ := List.getElem?_of_mem hx
  exact h i x hi
/-- sizes, of some full lots -/
def szL (lots : List (List Nat)) (st : List Int) (one other : Nat) (L : List (List Nat)) : List Int := (L.filter fun l => decide (one ∈ kot st.length lots l ∧ ¬ other ∈ kot st.length lots l)).map fun l => unitsL st (kot st.length lots l)
theorem szL_snoc {lots : List (List Nat)} {st : List Int} {one other : Nat} {L : List (List Nat)} {l : List Nat} : szL lots st one other (L ++ [l]) = szL lots st one other L ++ if one ∈ kot st.length lots l ∧ ¬ other ∈ kot st.length lots l then [unitsL st (kot st.length lots l)] else [] := by
  unfold szL
  rw [List.filter_append, List.map_append]
  congr 1
  by_cases h : one ∈ kot st.length lots l ∧ ¬ other ∈ kot st.length lots l
  · rw [if_pos h]
    simp [h]
  · rw [if_neg h, List.map_eq_nil_iff]
    exact List.filter_eq_nil_iff.mpr fun a ha => by
      rw [List.mem_singleton.mp ha, decide_eq_true_eq]
      exact h
section
variable {K : Fg} {σ : L2.St} {H : Hp} {te : TE}
theorem e_one {m : Nat} (h : EvS te σ H (rngS m)) : EvS (tOp (rI0 fun i j => .int (i + j)) (tC (.int 1)) te) σ H (datP K fun d => ∃ x : Int, d = .int x ∧ 1 ≤ x ∧ x ≤ (m : Int)) := fun H1 e Q q =>
  e_int (i := 1) H1 e _ fun u H2 e2 pu => h H2 (e.trans e2) _ fun v H3 e3 ⟨n, hn, ev⟩ => by
    have pu : u = .int 1 := pu
    subst pu ev
    exact ⟨1, (n : Int), rfl, rfl, q _ H3 (e2.trans e3) ⟨.int (1 + (n : Int)), ⟨_, rfl, by omega, by omega⟩, .int _⟩⟩
/-- a, b = t1, t2, a name of both captured -/
theorem q_pairS {i j : Nat} {t1 t2 : TE} {s1 s2 : Sh} {D : Ends} {tz : TS} (h1 : EvS t1 σ H s1) (h2 : EvS t2 σ H s2) (k : ∀ v w H2, Ex H H2 → s1.P v H2 → s2.P w H2 → tz D ((σ.set i (some v)).set j (some w)) H2) :
    tSeq (tAsg (tTup (tCons t1 (tCons t2 tNil))) (gTup K 2 (gCons (gName i) (gCons (gName j) gNil)))) tz D σ H :=
  h1 H (Evl.Ex.refl H) _ fun v H1 e1 p1 => h2 H1 e1 _ fun w H2 e2 p2 => ⟨Nat.le_of_lt (small1000 (show 2 ≤ 1000 by decide)), fun a ha =>
    ⟨a, [v, w], rfl, SqT.of upd_same, rfl, v, [w], rfl, w, [], rfl, rfl, k v w _ ((e1.trans e2).trans (Evl.Ex.new ha)) (s1.up _ _ _ (e2.trans (Evl.Ex.new ha)) p1) (s2.up _ _ _ (Evl.Ex.new ha) p2)⟩⟩
theorem EvS.rngO {m : Nat} (h : EvS te σ H (rngS m)) : EvS te σ H (K45.datP K fun d => ∃ o : Option Int, d = dO o ∧ ∀ x, o = some x → 0 ≤ x) := h.to fun v H' ⟨n, _, ev⟩ => ⟨.int (n : Int), ⟨some (n : Int), rfl, fun x e => by have := Option.some.inj e; omega⟩, by rw [ev]; exact .int _⟩
theorem EvS.intO {i : Int} (h : EvS te σ H (intS i)) (h0 : 0 ≤ i) : EvS te σ H (K45.datP K fun d => ∃ o : Option Int, d = dO o ∧ ∀ x, o = some x → 0 ≤ x) := (h.toD (K := K)).datP ⟨some i, rfl, fun x e => by have := Option.some.inj e; omega⟩
end
section
variable {P : Program} {w : World} {K : Fg} {mg : Str → Option Value} {base : Heap} {C : Addr}
abbrev s__law_great_right : Stmt := topS 74
abbrev N__law_great_right : List Str := ["_law_heap_here", "_law_kinds_here", "_law_many", "_law_most", "_law_lots_here", "_law_table", "_law_stock", "_law_kind", "_law_bounds_here", "_law_at", "_law_full", "_law_lot", "_law_one", "_law_other", "_law_sizes", "_law_some", "_law_due", "_law_told"]
theorem sc_law_great_right : FnScope N__law_great_right ["_law_heap_here", "_law_kinds_here", "_law_many", "_law_most"] (defScope s__law_great_right) := ⟨rfl, rfl, rfl, by decide +kernel, rfl, by decide +kernel, by decide +kernel⟩
def sp_great (K : Fg) : Sp := fun vs H Q _ => ∃ (nk nt m : Nat), AtAll H vs [hpS, intS (nk : Int), intS (nt : Int), intS (m : Int)] ∧ 0 < nk ∧ nk ≤ 4 ∧ nt ≤ 5 ∧ 0 < m ∧ m ≤ 30 ∧ Ret (blS true) H Q
theorem ok_great (T : Bt mg) (D : Df K mg "_law_great_right" s__law_great_right ["_law_heap_here", "_law_kinds_here", "_law_many", "_law_most"])
    (G__law_draw : OkD P w K mg base CX0 1 "_law_draw" ["_law_heap_here", "_law_many"] sp_draw) (G__law_pick : OkD P w K mg base CX0 2 "_law_pick" ["_law_heap_here", "_law_some"] sp_pick) (G__law_lots : OkD P w K mg base CX0 3 "_law_lots" ["_law_heap_here", "_law_kinds_here", "_law_types"] (sp_lots K))
    (G__law_made : OkD P w K mg base CX0 8 "_law_made" ["_law_heap_here", "_law_kinds_here", "_law_lots_here"] (sp_made K)) (G__law_partsL : OkD P w K mg base CX0 1 "_law_parts" ["_law_some"] (sp_partsL K))
    (G__law_kinds : OkD P w K mg base CX0 1 "_law_kinds" ["_law_lots_here", "_law_types"] (sp_kinds K)) (G__law_is_full : OkD P w K mg base CX0 2 "_law_is_full" ["_law_lots_here", "_law_stock", "_law_bounds_here", "_law_types"] (sp_isfull K))
    (G_fewest_requests : OkD P w K mg base (L2.CX P w) 11 "fewest_requests" ["table", "stock", "bounds", "one", "other"] (sp_fewest_requests K C)) (G_least_regret_row : OkD P w K mg base (L2.CX P w) 12 "least_regret_row" ["table", "stock", "bounds", "one", "other"] (sp_least_regret_row K C)) :
    OkG P w K mg base 13 "_law_great_right" ["_law_heap_here", "_law_kinds_here", "_law_many", "_law_most"] (sp_great K) := by
  refine OkG.of D sc_law_great_right (fun vs H Q E ⟨_, _, _, h, _⟩ => atLen h) (fun fa cdv A outer s H vs Q E hg hr ⟨nk, nt, m, h, n0, n4, t5, m0, m30, kk⟩ => ?_)
  obtain ⟨x, y, z, u, rfl, hx, hy, hz, hu⟩ := a4 h
  have hy : y = .int (nk : Int) := hy
  have hz : z = .int (nt : Int) := hz
  have hu : u = .int (m : Int) := hu
  subst hy hz hu
  refine ⟨_, (pss_cons (ps_set (i := 4) sc_law_great_right.nd rfl (by first | exact Or.inl rfl | exact Or.inr rfl) (pe_d G__law_lots hr (pa_cons (pv 0) (pa_cons (pv 1) (pa_cons (pv 2) pa_nil))))) (pss_cons (ps_asg (pe_tup (pa_cons (pe_d G__law_made hr (pa_cons (pv 0) (pa_cons (pv 1) (pa_cons (pv 4) pa_nil)))) (pa_cons (pe_callTy (k_tuple K) (by rfl) T.b_tuple (by decide +kernel) (pa_cons (pe_lc (own := [("_law_kind", 7)]) (g := gName 7) (tt := tYes) rfl sc_law_great_right.nd (pi_range1 rfl T.b_range (pa_cons (pv 1) pa_nil)) (blkOk_by (N := N__law_great_right) (sc := (defScope s__law_great_right)) (by decide +kernel)) (fun _ _ _ _ _ => (pg_name (i := 7) sc_law_great_right.nd rfl (by first | exact Or.inl rfl | exact Or.inr rfl))) (fun _ _ _ _ _ => pts_nil) (fun _ _ _ _ _ => (pe_d G__law_pick hr (pa_cons (pv 0) (pa_cons (pe_lst (pa_cons pe_int (pa_cons (pe_op op_add pe_int (pe_d G__law_draw hr (pa_cons (pv 0) (pa_cons (pv 3) pa_nil)))) (pa_cons (pe_op op_add pe_int (pe_d G__law_draw hr (pa_cons (pv 0) (pa_cons (pv 3) pa_nil)))) pa_nil)))) pa_nil))))) pa_nil)) pa_nil))) (k_pgt K (n := 2) rfl (pgs_cons (pg_name (i := 5) sc_law_great_right.nd rfl (by first | exact Or.inl rfl | exact Or.inr rfl)) (pgs_cons (pg_name (i := 6) sc_law_great_right.nd rfl (by first | exact Or.inl rfl | exact Or.inr rfl)) pgs_nil)))) (pss_cons (ps_set (i := 8) sc_law_great_right.nd rfl (by first | exact Or.inl rfl | exact Or.inr rfl) (pe_callTy (k_tuple K) (by rfl) T.b_tuple (by decide +kernel) (pa_cons (pe_lc (own := [("_law_at", 9)]) (g := gName 9) (tt := tYes) rfl sc_law_great_right.nd (pi_range1 rfl T.b_range (pa_cons (pv 2) pa_nil)) (blkOk_by (N := N__law_great_right) (sc := (defScope s__law_great_right)) (by decide +kernel)) (fun _ _ _ _ _ => (pg_name (i := 9) sc_law_great_right.nd rfl (by first | exact Or.inl rfl | exact Or.inr rfl))) (fun _ _ _ _ _ => pts_nil) (fun _ _ _ _ _ => (pe_d G__law_pick hr (pa_cons (pv 0) (pa_cons (pe_lst (pa_cons (pe_d G__law_draw hr (pa_cons (pv 0) (pa_cons (pe_op op_add (pv 3) pe_int) pa_nil))) (pa_cons (pv 3) (pa_cons (pe_op op_mul pe_int (pv 3)) (pa_cons pe_int (pa_cons pe_non pa_nil)))))) pa_nil))))) pa_nil))) (pss_cons (ps_setLc (i := 10) (own := [("_law_lot", 11)]) (g := gName 11) rfl sc_law_great_right.nd rfl rfl (sw_true rfl rfl rfl (by decide +kernel)) (k_pil K (pe_d G__law_partsL hr (pa_cons (pe_listRg rfl (by rfl) T.b_list (prg_1 (by rfl) T.b_range (pv 2))) pa_nil))) (blkOk_by (N := N__law_great_right) (sc := (defScope s__law_great_right)) (by decide +kernel)) (fun _ _ _ _ _ => (pg_name (i := 11) sc_law_great_right.nd rfl (by first | exact Or.inl rfl | exact Or.inr rfl))) (fun _ _ _ _ _ => (pts_one (pt_val (pe_d G__law_is_full hr (pa_cons (pv 4) (pa_cons (pv 6) (pa_cons (pv 8) (pa_cons (pv 11) pa_nil)))))))) (fun _ _ _ _ _ => (pv 11))) (pss_cons (ps_par (i := 12) (j := 13) (by rfl) sc_law_great_right.nd rfl rfl (by decide) rfl rfl (pa_cons (pe_d G__law_draw hr (pa_cons (pv 0) (pa_cons (pv 1) pa_nil))) (pa_cons (pe_d G__law_draw hr (pa_cons (pv 0) (pa_cons (pv 1) pa_nil))) pa_nil)) (by rfl)) (pss_cons (ps_set (i := 14) sc_law_great_right.nd rfl (by first | exact Or.inl rfl | exact Or.inr rfl) (pe_lst pa_nil)) (pss_cons (ps_for PassesOwn.never rfl (k_pil K (pv 10)) (pg_name (i := 11) sc_law_great_right.nd rfl (by first | exact Or.inl rfl | exact Or.inr rfl)) (pss_cons (ps_set (i := 15) sc_law_great_right.nd rfl (by first | exact Or.inl rfl | exact Or.inr rfl) (pe_d G__law_kinds hr (pa_cons (pv 4) (pa_cons (pv 11) pa_nil)))) (pss_one (ps_if (PW.pt (pw_and (pt_cmpR (k_in K) (pv 12) (pv 15) (by rfl)) (pw_and1 (pt_cmpR (k_notIn K) (pv 13) (pv 15) (by rfl))))) (pss_one (ps_expr (pe_bm PySem.F.plainAttrs_list PySem.F.slot_list_append PySem.F.type_list_append mt_append (pv 14) (pa_cons (pe_callB (k_sumA K) (by rfl) T.b_sum (by decide +kernel) (pa_cons (pe_lc (own := [("_law_kind", 7)]) (g := gName 7) (tt := tYes) rfl sc_law_great_right.nd (k_pit K (pv 15)) (blkOk_by (N := N__law_great_right) (sc := (defScope s__law_great_right)) (by decide +kernel)) (fun _ _ _ _ _ => (pg_name (i := 7) sc_law_great_right.nd rfl (by first | exact Or.inl rfl | exact Or.inr rfl))) (fun _ _ _ _ _ => pts_nil) (fun _ _ _ _ _ => (pe_ix (k_ix K) (pv 6) (pv 7) (fun _ _ => rfl)))) pa_nil)) pa_nil)))) pss_nil)))) (pss_cons (ps_par (i := 16) (j := 17) (by rfl) sc_law_great_right.nd rfl rfl (by decide) rfl rfl (pa_cons (pe_ifExp (pt_cmpR (k_neD K hr.units) (pv 14) (pe_lst pa_nil) (nomark _)) (pe_callB (k_min K) (by rfl) T.b_min (by decide +kernel) (pa_cons (pv 14) pa_nil)) pe_non) (pa_cons (pe_dx G_least_regret_row hr passL (pa_cons (pv 5) (pa_cons (pv 6) (pa_cons (pv 8) (pa_cons (pv 12) (pa_cons (pv 13) pa_nil)))))) pa_nil)) (by rfl)) (pss_cons (ps_if (PW.pt (pw_or (pt_cmpR op_ne (pe_callB (k_repr K hg hr.units) (by rfl) T.b_repr (by decide +kernel) (pa_cons (pe_dx G_fewest_requests hr passL (pa_cons (pv 5) (pa_cons (pv 6) (pa_cons (pv 8) (pa_cons (pv 12) (pa_cons (pv 13) pa_nil)))))) pa_nil)) (pe_callB (k_repr K hg hr.units) (by rfl) T.b_repr (by decide +kernel) (pa_cons (pv 16) pa_nil)) (nomark _)) (pw_or1 (pt_cmpR op_ne (pe_cmp (pc_isN (pv 17)) rfl) (pe_cmp (pc_isN (pv 16)) rfl) (nomark _))))) (pss_one (ps_ret pe_bl)) pss_nil) (pss_one (ps_ret (pe_or (pe_cmp (pc_isN (pv 17)) rfl) (pe_one (pe_and (pe_cmpR op_eq (pe_callB (k_len K) (by rfl) T.b_len (by decide +kernel) (pa_cons (pv 17) pa_nil)) (pv 16) (nomark _)) (pe_one (pe_cmpR (k_eqD K hr.units) (pv 17) (pe_callTy (k_tuple K) (by rfl) T.b_tuple (by decide +kernel) (pa_cons (pe_callB (k_sortedTu K) (by rfl) T.b_sorted (by decide +kernel) (pa_cons (pv 17) pa_nil)) pa_nil)) (nomark _))))))))))))))))), ?_⟩
  refine q_set (s := lotsP K nk nt) (e_call (a_cons (e_var (v := x) rfl hx) (a_cons (e_var (v := .int (nk : Int)) rfl rfl) (a_cons (e_var (v := .int (nt : Int)) rfl rfl) a_nil))) fun vs H1 p Q q => ⟨nk, nt, p, n0, by omega, by omega, q⟩) fun v4 H1 e1 ⟨ls, hls, p4⟩ => ?_
  have sl4 : Sl 18 [x, .int (nk : Int), .int (nt : Int), .int (m : Int), v4] ((L2.start N__law_great_right [x, .int (nk : Int), .int (nt : Int), .int (m : Int)]).set 4 (some v4)) := Sl.of rfl rfl
  generalize (L2.start N__law_great_right [x, .int (nk : Int), .int (nt : Int), .int (m : Int)]).set 4 (some v4) = σ4 at sl4
  have eH : ∀ {σ' : L2.St} {H' : Hp}, Sl 18 [x, .int (nk : Int), .int (nt : Int), .int (m : Int), v4] σ' → Ex H1 H' → EvS (tVar 0) σ' H' hpS := fun sl e => sl.var (i := 0) (v := x) rfl (Sh.up _ _ _ _ (e1.trans e) hx)
  have eM : ∀ {σ' : L2.St} {H' : Hp}, Sl 18 [x, .int (nk : Int), .int (nt : Int), .int (m : Int), v4] σ' → EvS (tVar 3) σ' H' (intS (m : Int)) := fun sl => sl.var (i := 3) (v := .int (m : Int)) rfl rfl
  refine q_pairS (s1 := madeS K fun T => T.nk = nk ∧ T.lots = ls) (s2 := datP K fun d => ∃ st : List Int, d = dIs st ∧ st.length = nk ∧ AtP (fun _ x => 1 ≤ x ∧ x ≤ (m : Int)) st)
    (e_call (a_cons (eH sl4 (Evl.Ex.refl _)) (a_cons (sl4.var (i := 1) (v := .int (nk : Int)) rfl rfl) (a_cons (sl4.var (i := 4) (v := v4) rfl p4) a_nil))) fun vs H2 p Q q => ⟨nk, ls, p, n0, by omega, by have := hls.1; omega, hls.2, q⟩)
    (e_tupleSel (A := fun _ b => b = true) (R := fun _ d => ∃ x : Int, d = .int x ∧ 1 ≤ x ∧ x ≤ (m : Int)) (e_lcN nk _ _ (a_cons (sl4.var (i := 1) (v := .int (nk : Int)) rfl rfl) a_nil) (by omega) wip2 fun i H2 e2 hi => ⟨n_yes, fun _ => ?_⟩) fun ds hs => ?_) fun v5 v6 H2 e2 ⟨tb, g, ⟨hT1, hT2⟩, p5⟩ ⟨_, ⟨st, rfl, hst, hsta⟩, p6⟩ => ?_
  · show EvS _ ((wipe σ4 [7]).set 7 (some (V.int (i : Int)))) _ _
    rw [wip1]
    have sl5 : Sl 18 [x, .int (nk : Int), .int (nt : Int), .int (m : Int), v4] (σ4.set 7 (some (.int (i : Int)))) := sl4.set (by show 5 ≤ 7; decide)
    generalize σ4.set 7 (some (V.int (i : Int))) = σ5 at sl5
    exact e_pickU 2 (eH sl5 e2) (a_cons (((e_int (i := 1)).toD (K := K)).datP ⟨1, rfl, by omega, by omega⟩) (a_cons (e_one (e_draw (m := m) (eH sl5 e2) (eM sl5) m0 (by omega))) (a_cons (e_one (e_draw (m := m) (eH sl5 e2) (eM sl5) m0 (by omega))) a_nil)))
  · obtain ⟨l, e, h1, h2⟩ := sel_at hs
    exact ⟨l, by rw [e]; rfl, h1, h2⟩
  have hsta := atP_all hsta
  have sl6 : Sl 18 [x, .int (nk : Int), .int (nt : Int), .int (m : Int), v4, v5, v6] ((σ4.set 5 (some v5)).set 6 (some v6)) := (sl4.push (by show 5 < 18; decide)).push (by show 6 < 18; decide)
  generalize (σ4.set 5 (some v5)).set 6 (some v6) = σ6 at sl6
  have e12 := e1.trans e2
  have eH : ∀ {σ' : L2.St} {H' : Hp}, Sl 18 [x, .int (nk : Int), .int (nt : Int), .int (m : Int), v4, v5, v6] σ' → Ex H2 H' → EvS (tVar 0) σ' H' hpS := fun sl e => sl.var (i := 0) (v := x) rfl (Sh.up _ _ _ _ (e12.trans e) hx)
  have eM : ∀ {σ' : L2.St} {H' : Hp}, Sl 18 [x, .int (nk : Int), .int (nt : Int), .int (m : Int), v4, v5, v6] σ' → EvS (tVar 3) σ' H' (intS (m : Int)) := fun sl => sl.var (i := 3) (v := .int (m : Int)) rfl rfl
  refine q_set (s := datP K fun d => ∃ bl : List (Option Int), d = dOs bl ∧ bl.length = nt ∧ AtP (fun _ o => ∀ x, o = some x → 0 ≤ x) bl) (e_tupleSel (A := fun _ b => b = true) (R := fun _ d => ∃ o : Option Int, d = dO o ∧ ∀ x, o = some x → 0 ≤ x) (e_lcN nt _ _ (a_cons (sl6.var (i := 2) (v := .int (nt : Int)) rfl rfl) a_nil) (by omega) wip2 fun i H3 e3 hi => ⟨n_yes, fun _ => ?_⟩) fun ds hs => ?_) fun v8 H3 e3 ⟨_, ⟨bl, rfl, hbl, hbla⟩, p8⟩ => ?_
  · show EvS _ ((wipe σ6 [9]).set 9 (some (V.int (i : Int)))) _ _
    rw [wip1]
    have sl7 : Sl 18 [x, .int (nk : Int), .int (nt : Int), .int (m : Int), v4, v5, v6] (σ6.set 9 (some (.int (i : Int)))) := sl6.set (by show 7 ≤ 9; decide)
    generalize σ6.set 9 (some (V.int (i : Int))) = σ7 at sl7
    exact e_pickU 4 (eH sl7 e3) (a_cons (e_draw (m := m + 1) (eH sl7 e3) (e_I0 (g := fun i j => .int (i + j)) (eM sl7) (e_int (i := 1))) (by omega) (by omega)).rngO (a_cons ((eM sl7).intO (by omega)) (a_cons ((e_I (C := CMul) (g := fun i j => .int (i * j)) (i := 2) e_int (eM sl7) (.inl ⟨by decide, by decide⟩)).intO (by omega)) (a_cons ((e_int (i := 0)).intO (by omega)) (a_cons ((e_non (K := K)).datP ⟨none, rfl, fun x e => nomatch e⟩) a_nil)))))
  · obtain ⟨l, e, h1, h2⟩ := sel_at hs
    exact ⟨l, by rw [e]; rfl, h1, h2⟩
  have hbla := atP_all hbla
  have co := caseOk (by omega) (by omega) g hT1 hT2 hls hst (fun x hx => by have := (hsta x hx).1; omega) hbl (fun m hm => hbla _ hm m rfl)
  subst hT2
  have hnk : tb.nk = nk := hT1
  have hlt : tb.lots.length = nt := hls.1
  have hsum : st.sum ≤ 1000 := by
    have h1 := sum_le_mul st fun x hx => (hsta x hx).2
    have h2 : (st.length : Int) * (m : Int) ≤ 4 * 30 := Int.mul_le_mul (by omega) (by omega) (by omega) (by omega)
    omega
  have hSg : Sg tb.nk (fn st) ≤ 1000 := by rw [← co.hst, Sg_fn]; omega
  have sl8 : Sl 18 [x, .int (nk : Int), .int (nt : Int), .int (m : Int), v4, v5, v6] (σ6.set 8 (some v8)) := sl6.set (by show 7 ≤ 8; decide)
  have h88 : (σ6.set 8 (some v8))[8]? = some (some v8) := sl_same sl6.len (by decide)
  generalize σ6.set 8 (some v8) = σ8 at sl8 h88
  have p4 : (lstS K (tb.lots.map dNs)).P v4 H3 := Sh.up _ _ _ _ (e2.trans e3) p4
  have p5 : (tabS K tb).P v5 H3 := Sh.up _ _ _ _ e3 p5
  have p6 : (dat K (dIs st)).P v6 H3 := Sh.up (dat K (dIs st)) _ _ _ e3 p6
  have hx3 : hpS.P x H3 := Sh.up _ _ _ _ (e12.trans e3) hx
  have eH : ∀ {σ' : L2.St} {H' : Hp}, Sl 18 [x, .int (nk : Int), .int (nt : Int), .int (m : Int), v4, v5, v6] σ' → Ex H3 H' → EvS (tVar 0) σ' H' hpS := fun sl e => sl.var (i := 0) (v := x) rfl (Sh.up _ _ _ _ e hx3)
  have eK : ∀ {σ' : L2.St} {H' : Hp}, Sl 18 [x, .int (nk : Int), .int (nt : Int), .int (m : Int), v4, v5, v6] σ' → EvS (tVar 1) σ' H' (intS (nk : Int)) := fun sl => sl.var (i := 1) (v := .int (nk : Int)) rfl rfl
  have eL : ∀ {σ' : L2.St} {H' : Hp}, Sl 18 [x, .int (nk : Int), .int (nt : Int), .int (m : Int), v4, v5, v6] σ' → Ex H3 H' → EvS (tVar 4) σ' H' (lstS K (tb.lots.map dNs)) := fun sl e => sl.var (i := 4) (v := v4) rfl (Sh.up _ _ _ _ e p4)
  have eT : ∀ {σ' : L2.St} {H' : Hp}, Sl 18 [x, .int (nk : Int), .int (nt : Int), .int (m : Int), v4, v5, v6] σ' → Ex H3 H' → EvS (tVar 5) σ' H' (tabS K tb) := fun sl e => sl.var (i := 5) (v := v5) rfl (Sh.up _ _ _ _ e p5)
  have eS : ∀ {σ' : L2.St} {H' : Hp}, Sl 18 [x, .int (nk : Int), .int (nt : Int), .int (m : Int), v4, v5, v6] σ' → Ex H3 H' → EvS (tVar 6) σ' H' (dat K (dIs st)) := fun sl e => sl.var (i := 6) (v := v6) rfl (Sh.up (dat K (dIs st)) _ _ _ e p6)
  have eB : ∀ {σ' : L2.St} {H' : Hp}, σ'[8]? = some (some v8) → Ex H3 H' → EvS (tVar 8) σ' H' (dat K (dOs bl)) := fun h8 e => e_var h8 (Sh.up (dat K (dOs bl)) _ _ _ e p8)
  have hpl : ∀ l ∈ partsF (List.range nt), l.length ≤ 5 ∧ ∀ r ∈ l, r < tb.lots.length := fun l hl => by
    have h1 := (mem_parts hl).length_le
    rw [List.length_range] at h1
    exact ⟨by omega, fun r hr => by rw [hlt]; exact List.mem_range.mp ((mem_parts hl).subset hr)⟩
  have hpn : (partsF (List.range nt)).length ≤ 32 := by
    rw [parts_len, List.length_range]
    exact Nat.le_trans (Nat.pow_le_pow_right (by decide) t5) (by decide)
  refine q_set (s := lstS K (((partsF (List.range nt)).filter (fullC tb.lots st bl)).map dNs)) (e_lcL (partsF (List.range nt)) dNs (fullC tb.lots st bl) dNs (e_call (a_cons (e_listRg (sl8.var (i := 2) (v := .int (nt : Int)) rfl rfl) (by omega)) a_nil) fun vs H4 p Q q => ⟨List.range nt, p, by rw [List.length_range]; omega, q⟩) (by omega) wip2 fun l w H4 e4 hl hw => ?_) fun v10 H4 e4 p10 => ?_
  · show EvT _ ((wipe σ8 [11]).set 11 (some w)) _ _ ∧ (_ → EvS _ ((wipe σ8 [11]).set 11 (some w)) _ _)
    rw [wip1]
    have sl9 : Sl 18 [x, .int (nk : Int), .int (nt : Int), .int (m : Int), v4, v5, v6] (σ8.set 11 (some w)) := sl8.set (by show 7 ≤ 11; decide)
    have h98 : (σ8.set 11 (some w))[8]? = some (some v8) := sl_ne (by decide) h88
    have h911 : (σ8.set 11 (some w))[11]? = some (some w) := sl_same sl8.len (by decide)
    generalize σ8.set 11 (some w) = σ9 at sl9 h98 h911
    exact ⟨t_B (e_call (a_cons (eL sl9 e4) (a_cons (eS sl9 e4) (a_cons (eB h98 e4) (a_cons (e_var h911 hw) a_nil)))) fun vs H5 p Q q => ⟨tb.lots, st, bl, l, p, co.lok, by rw [hbl, hlt], (hpl l hl).2, by have := (hpl l hl).1; omega, q⟩), fun _ => e_var h911 hw⟩
  have sl10 : Sl 18 [x, .int (nk : Int), .int (nt : Int), .int (m : Int), v4, v5, v6] (σ8.set 10 (some v10)) := sl8.set (by show 7 ≤ 10; decide)
  have h108 : (σ8.set 10 (some v10))[8]? = some (some v8) := sl_ne (by decide) h88
  have h1010 : (σ8.set 10 (some v10))[10]? = some (some v10) := sl_same sl8.len (by decide)
  generalize σ8.set 10 (some v10) = σ10 at sl10 h108 h1010
  refine q_parS (s1 := rngS nk) (s2 := rngS nk) (e_draw (m := nk) (eH sl10 e4) (eK sl10) n0 (by omega)) (e_draw (m := nk) (eH sl10 e4) (eK sl10) n0 (by omega)) fun v12 v13 H5 e5 ⟨one, ho1, ev12⟩ ⟨other, ho2, ev13⟩ => ?_
  subst ev12 ev13
  have sl12 : Sl 18 [x, .int (nk : Int), .int (nt : Int), .int (m : Int), v4, v5, v6] ((σ10.set 12 (some (.int (one : Int)))).set 13 (some (.int (other : Int)))) := (sl10.set (by show 7 ≤ 12; decide)).set (by show 7 ≤ 13; decide)
  have h128 : ((σ10.set 12 (some (V.int (one : Int)))).set 13 (some (V.int (other : Int))))[8]? = some (some v8) := sl_ne (by decide) (sl_ne (by decide) h108)
  have h1210 : ((σ10.set 12 (some (V.int (one : Int)))).set 13 (some (V.int (other : Int))))[10]? = some (some v10) := sl_ne (by decide) (sl_ne (by decide) h1010)
  have h1212 : ((σ10.set 12 (some (V.int (one : Int)))).set 13 (some (V.int (other : Int))))[12]? = some (some (.int (one : Int))) := sl_ne (by decide) (sl_same sl10.len (by decide))
  have h1213 : ((σ10.set 12 (some (V.int (one : Int)))).set 13 (some (V.int (other : Int))))[13]? = some (some (.int (other : Int))) := sl_same (n := 18) (by rw [List.length_set]; exact sl10.len) (by decide)
  generalize (σ10.set 12 (some (V.int (one : Int)))).set 13 (some (V.int (other : Int))) = σ12 at sl12 h128 h1210 h1212 h1213
  have ex5 := e4.trans e5
  refine q_setF f_lst0 fun f H6 nf e6 kf => ?_
  have sl14 : Sl 18 [x, .int (nk : Int), .int (nt : Int), .int (m : Int), v4, v5, v6] (σ12.set 14 (some (.ref f))) := sl12.set (by show 7 ≤ 14; decide)
  have h148 : (σ12.set 14 (some (V.ref f)))[8]? = some (some v8) := sl_ne (by decide) h128
  have h1410 : (σ12.set 14 (some (V.ref f)))[10]? = some (some v10) := sl_ne (by decide) h1210
  have h1412 : (σ12.set 14 (some (V.ref f)))[12]? = some (some (.int (one : Int))) := sl_ne (by decide) h1212
  have h1413 : (σ12.set 14 (some (V.ref f)))[13]? = some (some (.int (other : Int))) := sl_ne (by decide) h1213
  have h1414 : (σ12.set 14 (some (V.ref f)))[14]? = some (some (.ref f)) := sl_same sl12.len (by decide)
  generalize σ12.set 14 (some (V.ref f)) = σ14 at sl14 h148 h1410 h1412 h1413 h1414
  obtain ⟨a10, xs10, rfl, hq10, hd10⟩ : (lstS K (((partsF (List.range nt)).filter (fullC tb.lots st bl)).map dNs)).P v10 H5 := Sh.up _ _ _ _ e5 p10
  have hl1 : one < st.length := by rw [hst]; exact ho1
  have hl2 : other < st.length := by rw [hst]; exact ho2
  generalize hF : (partsF (List.range nt)).filter (fullC tb.lots st bl) = F at hd10
  have hFl : ∀ l ∈ F, l.length ≤ 5 ∧ ∀ r ∈ l, r < tb.lots.length := fun l hl => hpl l (by rw [← hF] at hl; exact (List.mem_filter.mp hl).1)
  have hFn : F.length ≤ 32 := by rw [← hF]; exact Nat.le_trans (List.length_filter_le _ _) hpn
  have hxl : xs10.length = F.length := by rw [hd10.len, List.length_map]
  refine q_for (s_forLV (a := a10) (xs := xs10) (e_var h1410 rfl) (fun i σ' H' => Sl 18 [x, .int (nk : Int), .int (nt : Int), .int (m : Int), v4, v5, v6] σ' ∧ σ'[8]? = some (some v8) ∧ σ'[12]? = some (some (.int (one : Int))) ∧ σ'[13]? = some (some (.int (other : Int))) ∧ σ'[14]? = some (some (.ref f)) ∧ Ex H5 H' ∧ H' f = some (.lst ((szL tb.lots st one other (F.take i)).map V.int)))
    (fun i σ' H' q => q.2.2.2.2.2.1 _ _ hq10) (fun H7 e7 => ⟨sl14, h148, h1412, h1413, h1414, e6.trans e7, by rw [e7 _ _ kf]; rfl⟩) ?_ ?_)
  · rintro i w σ' H' hi ⟨sl, h8, h12, h13, h14, ex, hf⟩
    obtain ⟨d, hd, pw⟩ := hd10.get' hi
    rw [List.getElem?_map] at hd
    cases hFi : F[i]? with
    | none => rw [hFi] at hd; cases hd
    | some l =>
      rw [hFi] at hd
      have hd := Option.some.inj hd
      subst hd
      have hlF : l ∈ F := List.mem_of_getElem? hFi
      have sl' : Sl 18 [x, .int (nk : Int), .int (nt : Int), .int (m : Int), v4, v5, v6] (σ'.set 11 (some w)) := sl.set (by show 7 ≤ 11; decide)
      have k8 : (σ'.set 11 (some w))[8]? = some (some v8) := sl_ne (by decide) h8
      have k12 : (σ'.set 11 (some w))[12]? = some (some (.int (one : Int))) := sl_ne (by decide) h12
      have k13 : (σ'.set 11 (some w))[13]? = some (some (.int (other : Int))) := sl_ne (by decide) h13
      have k14 : (σ'.set 11 (some w))[14]? = some (some (.ref f)) := sl_ne (by decide) h14
      have k11 : (σ'.set 11 (some w))[11]? = some (some w) := sl_same sl.len (by decide)
      show tSeq _ _ _ (σ'.set 11 (some w)) H'
      generalize σ'.set 11 (some w) = σa at sl' k8 k12 k13 k14 k11
      have exa := ex5.trans ex
      refine q_set (s := dat K (dNs (kot st.length tb.lots l))) (e_call (a_cons (eL sl' exa) (a_cons (e_var (s := dat K (dNs l)) k11 (pw.mono (Gt.of_ex ex))) a_nil)) fun vs H7 p Q q => ⟨st.length, tb.lots, l, p, co.lok, (hFl l hlF).2, by have := (hFl l hlF).1; omega, q⟩) fun v15 H7 e7 p15 => ?_
      have slb : Sl 18 [x, .int (nk : Int), .int (nt : Int), .int (m : Int), v4, v5, v6] (σa.set 15 (some v15)) := sl'.set (by show 7 ≤ 15; decide)
      have j8 : (σa.set 15 (some v15))[8]? = some (some v8) := sl_ne (by decide) k8
      have j12 : (σa.set 15 (some v15))[12]? = some (some (.int (one : Int))) := sl_ne (by decide) k12
      have j13 : (σa.set 15 (some v15))[13]? = some (some (.int (other : Int))) := sl_ne (by decide) k13
      have j14 : (σa.set 15 (some v15))[14]? = some (some (.ref f)) := sl_ne (by decide) k14
      have j15 : (σa.set 15 (some v15))[15]? = some (some v15) := sl_same sl'.len (by decide)
      generalize σa.set 15 (some v15) = σb at slb j8 j12 j13 j14 j15
      have tk : F.take (i + 1) = F.take i ++ [l] := by
        rw [List.take_add_one, hFi]
        rfl
      have e15 : ∀ {H' : Hp}, Ex H7 H' → EvS (tVar 15) σb H' (dat K (dNs (kot st.length tb.lots l))) := fun e => e_var j15 (Sh.up (dat K _) _ _ _ e p15)
      refine s_when (b := (kot st.length tb.lots l).contains one && !(kot st.length tb.lots l).contains other) (t_and (t_test (e_inN (e_var j12 rfl) (e15 (Evl.Ex.refl _)))) fun _ => t_test (e_notInN (e_var j13 rfl) (e15 (Evl.Ex.refl _)))) (fun hb H8 e8 => ?_) (fun hb H8 e8 => ?_)
      · have hc : one ∈ kot st.length tb.lots l ∧ ¬ other ∈ kot st.length tb.lots l := by simpa using hb
        refine s_appS (K := K) (s := intS (unitsL st (kot st.length tb.lots l))) (e8 _ _ (e7 _ _ hf)) (e_var j14 rfl) (e_sumAF (kot st.length tb.lots l) (fn st) (e_lcT (kot st.length tb.lots l) dN (fun _ => true) _ (e15 e8) (Nat.le_trans kot_len (by omega)) wip2 fun k u H9 e9 hk hu => ⟨t_yes, fun _ => ?_⟩)) ?_ fun u H9 e9 pu => ?_
        · show EvS _ ((wipe σb [7]).set 7 (some u)) _ _
          rw [wip1]
          have hkl : k < st.length := kot_lt hk
          refine e_ixT ((slb.set (j := 7) (by show 7 ≤ 7; decide)).var (i := 6) (v := v6) rfl (Sh.up (dat K (dIs st)) _ _ _ (exa.trans (e7.trans (e8.trans e9))) p6)) (e_var (sl_same (n := 18) slb.len (by decide)) hu.int_inv) (by rw [List.getElem?_map, fn_get hkl]; rfl)
        · rw [List.length_map]
          unfold szL
          rw [List.length_map]
          refine Nat.lt_of_le_of_lt (List.length_filter_le _ _) ?_
          rw [List.length_take]
          omega
        · have pu : u = .int (unitsL st (kot st.length tb.lots l)) := pu
          subst pu
          refine ⟨slb, j8, j12, j13, j14, ex_upd (ex.trans (e7.trans (e8.trans e9))) nf, ?_⟩
          rw [upd_same, tk, szL_snoc, if_pos hc, List.map_append]
          rfl
      · have hc : ¬ (one ∈ kot st.length tb.lots l ∧ ¬ other ∈ kot st.length tb.lots l) := by
          intro z
          have : ((kot st.length tb.lots l).contains one && !(kot st.length tb.lots l).contains other) = true := by simpa using z
          rw [hb] at this
          cases this
        refine ⟨slb, j8, j12, j13, j14, ex.trans (e7.trans e8), ?_⟩
        rw [tk, szL_snoc, if_neg hc, List.append_nil]
        exact e8 _ _ (e7 _ _ hf)
  · rintro σ' H' ⟨sl, h8, h12, h13, h14, ex, hf⟩
    have hsz : szL tb.lots st one other (F.take xs10.length) = sizesL tb.lots st bl one other := by
      rw [hxl, List.take_length, ← hF]
      unfold szL sizesL
      rw [hlt]
    rw [hsz] at hf
    have hc := co.cs
    have ex' := ex5.trans ex
    have s1 : 1 ≤ fn st one := (hsta _ (List.mem_of_getElem? (fn_get hl1))).1
    have s2 : 1 ≤ fn st other := (hsta _ (List.mem_of_getElem? (fn_get hl2))).1
    have o1 : one < tb.nk := by omega
    have o2 : other < tb.nk := by omega
    have n1 : ¬ (fn st one = 0 ∨ fn st other = 0) := by omega
    have hdue : fewest tb.lots st bl one other = dueL (sizesL tb.lots st bl one other) := (fewest_is hc hl1 s1).one_ (due_is hc)
    have few := fewest_lrr (bl := bl) hc hl1 hl2 s1 s2
    obtain ⟨ok1, ok2⟩ := ok_lrr (bl := bl) hc hl1 hl2 s1 s2 (by omega) hsum
    have eargs : ∀ {σ' : L2.St} {H' : Hp}, Sl 18 [x, .int (nk : Int), .int (nt : Int), .int (m : Int), v4, v5, v6] σ' → σ'[8]? = some (some v8) → σ'[12]? = some (some (.int (one : Int))) → σ'[13]? = some (some (.int (other : Int))) → Ex H3 H' → EvA (tCons (tVar 5) (tCons (tVar 6) (tCons (tVar 8) (tCons (tVar 12) (tCons (tVar 13) tNil))))) σ' H' [tabS K tb, dat K (dIs st), dat K (dOs bl), intS (one : Int), intS (other : Int)] := fun sl h8 h12 h13 e => a_cons (eT sl e) (a_cons (eS sl e) (a_cons (eB h8 e) (a_cons (e_var h12 rfl) (a_cons (e_var h13 rfl) a_nil))))
    refine q_parS (s1 := dat K (dO (fewest tb.lots st bl one other))) (s2 := dat K (dOr (lrr tb.lots st bl one other))) (e_if (b := !decide (sizesL tb.lots st bl one other = [])) (t_test (e_neNilI (e_var h14 rfl) hf)) (fun hb => ?_) (fun hb => ?_))
      (e_call (eargs sl h8 h12 h13 ex') fun vs H8 p Q q => ⟨tb, st, bl, one, other, p, co.go, hc, co.hst, o1, o2, hSg, fun _ _ => q, fun z => absurd z n1⟩) fun v16 v17 H7 e7 p16 p17 => ?_
    · have hne : sizesL tb.lots st bl one other ≠ [] := by simpa using hb
      refine (((e_min (K := K) (ns := sizesL tb.lots st bl one other) (a_cons (e_var h14 ⟨f, _, rfl, hf, tpAll_ints _⟩) a_nil) (leastI_mem hne) (fun y hy => leastI_le hy)).toD (K := K)).cast ?_)
      rw [hdue]
      unfold dueL
      rw [if_neg hne]
      rfl
    · have he : sizesL tb.lots st bl one other = [] := by simpa using hb
      refine EvS.cast (e_non (K := K)) ?_
      rw [hdue]
      unfold dueL
      rw [if_pos he]
      rfl
    have sl17 : Sl 18 [x, .int (nk : Int), .int (nt : Int), .int (m : Int), v4, v5, v6] ((σ'.set 16 (some v16)).set 17 (some v17)) := (sl.set (by show 7 ≤ 16; decide)).set (by show 7 ≤ 17; decide)
    have g8 : ((σ'.set 16 (some v16)).set 17 (some v17))[8]? = some (some v8) := sl_ne (by decide) (sl_ne (by decide) h8)
    have g12 : ((σ'.set 16 (some v16)).set 17 (some v17))[12]? = some (some (.int (one : Int))) := sl_ne (by decide) (sl_ne (by decide) h12)
    have g13 : ((σ'.set 16 (some v16)).set 17 (some v17))[13]? = some (some (.int (other : Int))) := sl_ne (by decide) (sl_ne (by decide) h13)
    have g16 : ((σ'.set 16 (some v16)).set 17 (some v17))[16]? = some (some v16) := sl_ne (by decide) (sl_same sl.len (by decide))
    have g17 : ((σ'.set 16 (some v16)).set 17 (some v17))[17]? = some (some v17) := sl_same (n := 18) (by rw [List.length_set]; exact sl.len) (by decide)
    generalize (σ'.set 16 (some v16)).set 17 (some v17) = σ17 at sl17 g8 g12 g13 g16 g17
    have e16 : ∀ {H' : Hp}, Ex H7 H' → EvS (tVar 16) σ17 H' (dat K (dO (fewest tb.lots st bl one other))) := fun e => e_var g16 (Sh.up (dat K _) _ _ _ e p16)
    have e17 : ∀ {H' : Hp}, Ex H7 H' → EvS (tVar 17) σ17 H' (dat K (dOr (lrr tb.lots st bl one other))) := fun e => e_var g17 (Sh.up (dat K _) _ _ _ e p17)
    have hnon : isNon (dOr (lrr tb.lots st bl one other)) = isNon (dO (fewest tb.lots st bl one other)) := by
      rw [few]
      cases lrr tb.lots st bl one other <;> rfl
    refine q_when (b := false) (t_or (a := false) (b := false) (t_reprs (e_call (eargs sl17 g8 g12 g13 (ex'.trans e7)) fun vs H8 p Q q => ⟨tb, st, bl, one, other, p, co.go, hc, co.hst, o1, o2, fun _ _ => q, fun z => absurd z n1⟩) (e16 (Evl.Ex.refl _)) ok2) fun _ => (t_test (e_ne (e_isN (e17 (Evl.Ex.refl _))) (e_isN (e16 (Evl.Ex.refl _))) rfl)).to (by rw [hnon]; simp)) (fun z => nomatch z) fun _ H8 e8 => ?_
    refine s_ret (Q := Q) (s := blS true) ?_ fun v H9 e9 p => kk v H9 (e1.trans (e2.trans (e3.trans (ex'.trans (e7.trans (e8.trans e9)))))) p
    have f16 := e16 e8
    have f17 := e17 e8
    rw [few] at f16
    cases hl : lrr tb.lots st bl one other with
    | none =>
      rw [hl] at f17
      exact e_orV (a := true) (b := true) (e_isN f17) (fun z => nomatch z)
    | some R =>
      rw [hl] at f16 f17
      have hR := (lrr_row (bl := bl) hc hl1 hl2 s1 s2 hl).1.asc
      have f17i : EvS (tVar 17) σ17 H8 (dat K (dIs (R.map fun n : Nat => (n : Int)))) := f17.cast (by show dat K (dNs R) = _; rw [dNs_eq]; rfl)
      refine e_orV (a := false) (b := true) (e_isN f17) fun _ => e_andV (a := true) (b := true) (EvS.cast (e_eqI (e_len (K := K) (ds := R.map dN) (a_cons f17 a_nil)) (EvS.toI f16)) (by rw [List.length_map]; simp)) fun _ => ?_
      refine EvS.cast (e_eqD f17i (e_tupleL (a_cons (e_sortedTu f17i (List.pairwise_map.mpr (hR.imp fun q => by omega))) a_nil)) ?_ ?_) ?_
      · exact (show dIs (R.map fun n : Nat => (n : Int)) = dNs R by rw [dNs_eq]; rfl) ▸ shaped_dNs R
      · exact (show PyData.tuple ((R.map fun n : Nat => (n : Int)).map PyData.int) = dNs R by rw [dNs_eq]) ▸ shaped_dNs R
      · rw [show PyData.tuple ((R.map fun n : Nat => (n : Int)).map PyData.int) = dNs R by rw [dNs_eq], show dIs (R.map fun n : Nat => (n : Int)) = dNs R by rw [dNs_eq]; rfl, eqvD (shaped_dNs R)]
end
end K45
/-! The law. -/
namespace K45
open PySem L2 RZ
/-! ### what is written in the text: tuples, tables -/
def tInts : List Int → TA
  | [] => tNil
  | i :: l => tCons (tC (.int i)) (tInts l)
def ascB : List PyData → Bool
  | d :: e :: l => ltD d e && ascB (e :: l)
  | _ => true
theorem asc_by : ∀ {ds : List PyData}, ascB ds = true → Asc ds
  | [], _ => fun i d e h => by simp at h
  | [a], _ => fun i d e _ h => by simp at h
  | a :: b :: l, h => fun i d e h1 h2 => by
    have h : (ltD a b && ascB (b :: l)) = true := h
    rw [Bool.and_eq_true] at h
    match i, h1, h2 with
    | 0, h1, h2 =>
      have h1 := Option.some.inj h1
      have h2 := Option.some.inj h2
      rw [← h1, ← h2]
      exact h.1
    | i + 1, h1, h2 => exact asc_by h.2 i d e h1 h2
theorem good_by {T : Tab} (h : (decide (1 ≤ T.kinds.length ∧ T.kinds.length ≤ 8 ∧ T.types.length ≤ 12) && T.kinds.all nameOk && ascB (T.kinds.map .str) && (T.types.all fun t => nameOk t.1) && (T.types.all fun t => t.2.all fun k => decide (k < T.kinds.length)) && (T.types.all fun t => ascB (t.2.map dN)) && ascB (T.types.map fun t => .str t.1)) = true) : T.Good := by
  simp only [Bool.and_eq_true, decide_eq_true_eq, List.all_eq_true] at h
  obtain ⟨⟨⟨⟨⟨⟨h1, h2⟩, h3⟩, h4⟩, h5⟩, h6⟩, h7⟩ := h
  exact ⟨h1.1, h1.2.1, h2, asc_by h3, h1.2.2, h4, fun t ht => ⟨h5 t ht, asc_by (h6 t ht)⟩, asc_by h7⟩
def tb1 : Tab := ⟨[Str.ofString "a", Str.ofString "c"], [(Str.ofString "any", [0, 1]), (Str.ofString "dark", [1]), (Str.ofString "light", [0])]⟩
theorem tb1_good : tb1.Good := good_by (by decide +kernel)
def tb2 : Tab := ⟨[Str.ofString "a", Str.ofString "b", Str.ofString "c", Str.ofString "d", Str.ofString "e"], [(Str.ofString "p", [0, 1]), (Str.ofString "q", [0, 3, 4])]⟩
theorem tb2_good : tb2.Good := good_by (by decide +kernel)
def tb3 : Tab := ⟨[Str.ofString "a", Str.ofString "b", Str.ofString "c"], [(Str.ofString "far", [0, 1]), (Str.ofString "last", [0]), (Str.ofString "near", [0, 2]), (Str.ofString "wide", [0, 1])]⟩
theorem tb3_good : tb3.Good := good_by (by decide +kernel)
theorem caseC {T : Tab} {st bl : List Int} (g : T.Good) (n8 : T.nk ≤ 8) (t12 : T.lots.length ≤ 12) (hl : LotsOk T.nk T.lots.length T.lots) (hst : st.length = T.nk) (h0 : ∀ x ∈ st, 0 ≤ x) (hb : bl.length = T.lots.length) (hb0 : ∀ x ∈ bl, 0 ≤ x) : CaseOk T st (bl.map some) :=
  caseOk n8 t12 g rfl rfl hl hst h0 (by rw [List.length_map]; exact hb) fun m hm => by
    obtain ⟨y, hy, e⟩ := List.mem_map.mp hm
    rw [← Option.some.inj e]
    exact hb0 y hy
section
variable {K : Fg} {σ : L2.St} {H : Hp} {te : TE} {C : Addr}
theorem e_strD {x : Str} : EvS (tC (.str x)) σ H (dat K (.str x)) := (e_c (v := .str x)).ofS
theorem a_ints : ∀ l : List Int, EvA (tInts l) σ H ((l.map PyData.int).map (dat K))
  | [] => a_nil
  | i :: l => a_cons (e_int (i := i)).toD (a_ints l)
theorem e_ints (l : List Int) (hl : l.length ≤ 1000) : EvS (tTup (tInts l)) σ H (dat K (dIs l)) := e_tup (a_ints l) (by rw [List.length_map]; exact hl)
theorem dOs_some (l : List Int) : dOs (l.map some) = dIs l := by
  unfold dOs dIs
  rw [List.map_map]
  rfl
theorem a_case {T : Tab} {st bl : List Int} {one other : Nat} (hv : EvS te σ H (tabS K T)) (hl : st.length ≤ 100) (hl2 : bl.length ≤ 100) : EvA (tCons te (tCons (tTup (tInts st)) (tCons (tTup (tInts bl)) (tCons (tC (.int (one : Int))) (tCons (tC (.int (other : Int))) tNil))))) σ H [tabS K T, dat K (dIs st), dat K (dOs (bl.map some)), intS (one : Int), intS (other : Int)] :=
  a_cons hv (a_cons (e_ints st (by omega)) (a_cons ((e_ints bl (by omega)).cast (by rw [dOs_some])) (a_cons e_int (a_cons e_int a_nil))))
theorem e_lrrC {T : Tab} {st bl : List Int} {one other : Nat} {o : Option (List Nat)} (hv : EvS te σ H (tabS K T)) (co : CaseOk T st (bl.map some)) (h1 : one < st.length) (h2 : other < st.length) (s1 : 1 ≤ fn st one) (s2 : 1 ≤ fn st other) (hs : st.sum ≤ 1000) (hl : st.length ≤ 100) (hl2 : bl.length ≤ 100)
    (e : firstL T.lots st (bl.map some) one other (st.sum - 1).toNat = o) : EvS (tCall (sp_least_regret_row K C) [] E0 (tCons te (tCons (tTup (tInts st)) (tCons (tTup (tInts bl)) (tCons (tC (.int (one : Int))) (tCons (tC (.int (other : Int))) tNil)))))) σ H (dat K (dOr o)) := by
  rw [← e, (lrr_first co.cs h1 h2 s1 s2).1]
  exact e_call (a_case hv hl hl2) fun vs H1 p Q q => ⟨T, st, bl.map some, one, other, p, co.go, co.cs, co.hst, by rw [← co.hst]; exact h1, by rw [← co.hst]; exact h2, by rw [← co.hst, Sg_fn]; exact hs, fun _ _ => q, fun z => by omega⟩
theorem e_fewC {T : Tab} {st bl : List Int} {one other : Nat} {o : Option (List Nat)} (hv : EvS te σ H (tabS K T)) (co : CaseOk T st (bl.map some)) (h1 : one < st.length) (h2 : other < st.length) (s1 : 1 ≤ fn st one) (s2 : 1 ≤ fn st other) (hs : st.sum ≤ 1000) (hl : st.length ≤ 100) (hl2 : bl.length ≤ 100)
    (e : firstL T.lots st (bl.map some) one other (st.sum - 1).toNat = o) : EvS (tCall (sp_fewest_requests K C) [] E0 (tCons te (tCons (tTup (tInts st)) (tCons (tTup (tInts bl)) (tCons (tC (.int (one : Int))) (tCons (tC (.int (other : Int))) tNil)))))) σ H (dat K (dO (o.map fun R => (R.length : Int)))) := by
  rw [← e, (lrr_first co.cs h1 h2 s1 s2).1, ← (lrr_first co.cs h1 h2 s1 s2).2]
  exact e_call (a_case hv hl hl2) fun vs H1 p Q q => ⟨T, st, bl.map some, one, other, p, co.go, co.cs, co.hst, by rw [← co.hst]; exact h1, by rw [← co.hst]; exact h2, fun _ _ => q, fun z => by omega⟩
theorem e_lenQ {ns : List Int} (h : EvS te σ H (sqlS K ns)) : EvS (tCB (fun xs H Q => ∃ p ys, xs = [.ref p] ∧ (SqL K H p ys ∨ SqT K H p ys) ∧ Q (.int ys.length) H) (tCons te tNil)) σ H (intS ns.length) :=
  e_CB (a_cons h a_nil) fun vs H1 _ p Q q => by
    obtain ⟨w, rfl, a, rfl, hq⟩ := a1 p
    exact ⟨a, _, rfl, .inl hq, q _ H1 (Evl.Ex.refl _) (by rw [List.length_map]; rfl)⟩
end
section
variable {P : Program} {w : World} {K : Fg} {mg : Str → Option Value} {base : Heap} {C CT fI : Addr} {fdI : FuncData} {PT : Addr}
abbrev s_law : Stmt := topS 75
abbrev N_law : List Str := ["_law_script", "_law_heap_here", "_law_turn", "_law_table", "_law_five", "_law_three"]
theorem sclaw : FnScope N_law ["_law_script"] (defScope s_law) := ⟨rfl, rfl, rfl, by decide +kernel, rfl, by decide +kernel, by decide +kernel⟩
def sp_law (K : Fg) (PT : Addr) : Sp := fun vs H Q _ => ∃ ns : List Int, AtAll H vs [sqlS K ns] ∧ ns.length ≤ 1000 ∧ LamX.Tabs [(PT, lamQ)] H ∧ ∀ H', Q (.bl true) H'
theorem ok_law (T : Bt mg) (D : Df K mg "law" s_law ["_law_script"]) (TB : TbC P w K mg base CT fI fdI)
    (G__law_heap : OkD P w K mg base CX0 1 "_law_heap" ["_law_script"] (sp_heap K)) (G__law_pick : OkD P w K mg base CX0 2 "_law_pick" ["_law_heap_here", "_law_some"] sp_pick)
    (G__law_case_right : OkG P w K mg base 16 "_law_case_right" ["_law_heap_here", "_law_kinds_here", "_law_many", "_law_units"] (sp_case K PT)) (G__law_great_right : OkG P w K mg base 13 "_law_great_right" ["_law_heap_here", "_law_kinds_here", "_law_many", "_law_most"] (sp_great K))
    (G_fewest_requests : OkD P w K mg base (L2.CX P w) 11 "fewest_requests" ["table", "stock", "bounds", "one", "other"] (sp_fewest_requests K C)) (G_least_regret_row : OkD P w K mg base (L2.CX P w) 12 "least_regret_row" ["table", "stock", "bounds", "one", "other"] (sp_least_regret_row K C))
    (G_types_within : OkD P w K mg base CX0 2 "types_within" ["table", "kinds"] (sp_types_within K)) : OkG P w K mg base 17 "law" ["_law_script"] (sp_law K PT) := by
  refine OkG.of D sclaw (fun vs H Q E ⟨_, h, _⟩ => atLen h) (fun fa cdv A outer s H vs Q E hg hr ⟨ns, h, hn, hT, kk⟩ => ?_)
  obtain ⟨x, rfl, hx⟩ := a1 h
  have hr7 := hr.mono (show 7 ≤ 16 by decide)
  refine ⟨_, (pss_cons (ps_set (i := 1) sclaw.nd rfl (by first | exact Or.inl rfl | exact Or.inr rfl) (pe_d G__law_heap hr (pa_cons (pv 0) pa_nil))) (pss_cons (ps_for PassesOwn.never rfl (pi_range1 rfl T.b_range (pa_cons (pe_op op_add (pe_op op_add pe_int (pe_callTy call_int1 (by rfl) T.b_int (by decide +kernel) (pa_cons (pe_cmpR op_gt (pe_callB (k_len K) (by rfl) T.b_len (by decide +kernel) (pa_cons (pv 0) pa_nil)) pe_int (nomark _)) pa_nil))) (pe_callTy call_int1 (by rfl) T.b_int (by decide +kernel) (pa_cons (pe_cmpR op_gt (pe_callB (k_len K) (by rfl) T.b_len (by decide +kernel) (pa_cons (pv 0) pa_nil)) pe_int (nomark _)) pa_nil))) pa_nil)) (pg_name (i := 2) sclaw.nd rfl (by first | exact Or.inl rfl | exact Or.inr rfl)) (pss_one (ps_if (pt_not (pt_val (pe_g G__law_case_right hr hg (pa_cons (pv 1) (pa_cons (pe_d G__law_pick hr (pa_cons (pv 1) (pa_cons (pe_lst (pa_cons pe_int (pa_cons pe_int (pa_cons pe_int (pa_cons pe_int (pa_cons pe_int pa_nil)))))) pa_nil))) (pa_cons (pe_d G__law_pick hr (pa_cons (pv 1) (pa_cons (pe_lst (pa_cons pe_int (pa_cons pe_int (pa_cons pe_int (pa_cons pe_int (pa_cons pe_int (pa_cons pe_int pa_nil))))))) pa_nil))) (pa_cons (pe_d G__law_pick hr (pa_cons (pv 1) (pa_cons (pe_lst (pa_cons pe_int (pa_cons pe_int (pa_cons pe_int pa_nil)))) pa_nil))) pa_nil))))))) (pss_one (ps_ret pe_bl)) pss_nil))) (pss_cons (ps_if (pt_not (pt_val (pe_g G__law_great_right hr hg (pa_cons (pv 1) (pa_cons (pe_d G__law_pick hr (pa_cons (pv 1) (pa_cons (pe_lst (pa_cons pe_int (pa_cons pe_int (pa_cons pe_int pa_nil)))) pa_nil))) (pa_cons (pe_d G__law_pick hr (pa_cons (pv 1) (pa_cons (pe_lst (pa_cons pe_int (pa_cons pe_int (pa_cons pe_int pa_nil)))) pa_nil))) (pa_cons (pe_d G__law_pick hr (pa_cons (pv 1) (pa_cons (pe_lst (pa_cons pe_int (pa_cons pe_int (pa_cons pe_int pa_nil)))) pa_nil))) pa_nil))))))) (pss_one (ps_ret pe_bl)) pss_nil) (pss_cons (ps_set (i := 3) sclaw.nd rfl (by first | exact Or.inl rfl | exact Or.inr rfl) (pe_make TB.M TB.F hr7 rfl TB.gC TB.bI .nil pass0 (pa_cons (pe_tup (pa_cons pe_str (pa_cons pe_str pa_nil))) (pa_cons (pe_tup (pa_cons (pe_tup (pa_cons pe_str (pa_cons (pe_tup (pa_cons pe_int (pa_cons pe_int pa_nil))) pa_nil))) (pa_cons (pe_tup (pa_cons pe_str (pa_cons (pe_tup (pa_cons pe_int pa_nil)) pa_nil))) (pa_cons (pe_tup (pa_cons pe_str (pa_cons (pe_tup (pa_cons pe_int pa_nil)) pa_nil))) pa_nil)))) pa_nil)))) (pss_cons (ps_if (PW.pt (pw_or (pt_cmpR (k_neD K hr.units) (pe_dx G_least_regret_row hr passL (pa_cons (pv 3) (pa_cons (pe_tup (pa_cons pe_int (pa_cons pe_int pa_nil))) (pa_cons (pe_tup (pa_cons pe_int (pa_cons pe_int (pa_cons pe_int pa_nil)))) (pa_cons pe_int (pa_cons pe_int pa_nil)))))) (pe_tup (pa_cons pe_int (pa_cons pe_int pa_nil))) (nomark _)) (pw_or1 (pt_cmpR op_ne (pe_dx G_fewest_requests hr passL (pa_cons (pv 3) (pa_cons (pe_tup (pa_cons pe_int (pa_cons pe_int pa_nil))) (pa_cons (pe_tup (pa_cons pe_int (pa_cons pe_int (pa_cons pe_int pa_nil)))) (pa_cons pe_int (pa_cons pe_int pa_nil)))))) pe_int (nomark _))))) (pss_one (ps_ret pe_bl)) pss_nil) (pss_cons (ps_set (i := 4) sclaw.nd rfl (by first | exact Or.inl rfl | exact Or.inr rfl) (pe_make TB.M TB.F hr7 rfl TB.gC TB.bI .nil pass0 (pa_cons (pe_tup (pa_cons pe_str (pa_cons pe_str (pa_cons pe_str (pa_cons pe_str (pa_cons pe_str pa_nil)))))) (pa_cons (pe_tup (pa_cons (pe_tup (pa_cons pe_str (pa_cons (pe_tup (pa_cons pe_int (pa_cons pe_int pa_nil))) pa_nil))) (pa_cons (pe_tup (pa_cons pe_str (pa_cons (pe_tup (pa_cons pe_int (pa_cons pe_int (pa_cons pe_int pa_nil)))) pa_nil))) pa_nil))) pa_nil)))) (pss_cons (ps_if (PW.pt (pw_or (pt_cmpR op_ne (pe_dx G_fewest_requests hr passL (pa_cons (pv 4) (pa_cons (pe_tup (pa_cons pe_int (pa_cons pe_int (pa_cons pe_int (pa_cons pe_int (pa_cons pe_int pa_nil)))))) (pa_cons (pe_tup (pa_cons pe_int (pa_cons pe_int pa_nil))) (pa_cons pe_int (pa_cons pe_int pa_nil)))))) pe_int (nomark _)) (pw_or1 (pt_cmpR (k_neD K hr.units) (pe_dx G_least_regret_row hr passL (pa_cons (pv 4) (pa_cons (pe_tup (pa_cons pe_int (pa_cons pe_int (pa_cons pe_int (pa_cons pe_int (pa_cons pe_int pa_nil)))))) (pa_cons (pe_tup (pa_cons pe_int (pa_cons pe_int pa_nil))) (pa_cons pe_int (pa_cons pe_int pa_nil)))))) (pe_tup (pa_cons pe_int (pa_cons pe_int (pa_cons pe_int pa_nil)))) (nomark _))))) (pss_one (ps_ret pe_bl)) pss_nil) (pss_cons (ps_if (pt_cmpR (k_neD K hr.units) (pe_dx G_least_regret_row hr passL (pa_cons (pv 4) (pa_cons (pe_tup (pa_cons pe_int (pa_cons pe_int (pa_cons pe_int (pa_cons pe_int (pa_cons pe_int pa_nil)))))) (pa_cons (pe_tup (pa_cons pe_int (pa_cons pe_int pa_nil))) (pa_cons pe_int (pa_cons pe_int pa_nil)))))) (pe_tup (pa_cons pe_int (pa_cons pe_int pa_nil))) (nomark _)) (pss_one (ps_ret pe_bl)) pss_nil) (pss_cons (ps_set (i := 5) sclaw.nd rfl (by first | exact Or.inl rfl | exact Or.inr rfl) (pe_make TB.M TB.F hr7 rfl TB.gC TB.bI .nil pass0 (pa_cons (pe_tup (pa_cons pe_str (pa_cons pe_str (pa_cons pe_str pa_nil)))) (pa_cons (pe_tup (pa_cons (pe_tup (pa_cons pe_str (pa_cons (pe_tup (pa_cons pe_int (pa_cons pe_int pa_nil))) pa_nil))) (pa_cons (pe_tup (pa_cons pe_str (pa_cons (pe_tup (pa_cons pe_int pa_nil)) pa_nil))) (pa_cons (pe_tup (pa_cons pe_str (pa_cons (pe_tup (pa_cons pe_int (pa_cons pe_int pa_nil))) pa_nil))) (pa_cons (pe_tup (pa_cons pe_str (pa_cons (pe_tup (pa_cons pe_int (pa_cons pe_int pa_nil))) pa_nil))) pa_nil))))) pa_nil)))) (pss_cons (ps_if (PW.pt (pw_or (pt_cmp (pc_notN (pe_dx G_least_regret_row hr passL (pa_cons (pv 5) (pa_cons (pe_tup (pa_cons pe_int (pa_cons pe_int (pa_cons pe_int pa_nil)))) (pa_cons (pe_tup (pa_cons pe_int (pa_cons pe_int (pa_cons pe_int (pa_cons pe_int pa_nil))))) (pa_cons pe_int (pa_cons pe_int pa_nil))))))) rfl) (pw_or1 (pt_cmpR (k_neD K hr.units) (pe_dx G_least_regret_row hr passL (pa_cons (pv 5) (pa_cons (pe_tup (pa_cons pe_int (pa_cons pe_int (pa_cons pe_int pa_nil)))) (pa_cons (pe_tup (pa_cons pe_int (pa_cons pe_int (pa_cons pe_int (pa_cons pe_int pa_nil))))) (pa_cons pe_int (pa_cons pe_int pa_nil)))))) (pe_tup (pa_cons pe_int (pa_cons pe_int (pa_cons pe_int pa_nil)))) (nomark _))))) (pss_one (ps_ret pe_bl)) pss_nil) (pss_one (ps_ret (pe_and (pe_cmpR (k_eqD K hr.units) (pe_dx G_least_regret_row hr passL (pa_cons (pv 5) (pa_cons (pe_tup (pa_cons pe_int (pa_cons pe_int (pa_cons pe_int pa_nil)))) (pa_cons (pe_tup (pa_cons pe_int (pa_cons pe_int (pa_cons pe_int (pa_cons pe_int pa_nil))))) (pa_cons pe_int (pa_cons pe_int pa_nil)))))) (pe_tup (pa_cons pe_int (pa_cons pe_int (pa_cons pe_int pa_nil)))) (nomark _)) (pe_one (pe_cmpR (k_eqD K hr.units) (pe_d G_types_within hr (pa_cons (pv 5) (pa_cons (pe_tup (pa_cons pe_int (pa_cons pe_int pa_nil))) pa_nil))) (pe_tup (pa_cons pe_int (pa_cons pe_int pa_nil))) (nomark _)))))))))))))))), ?_⟩
  refine q_set (s := hpS) (e_call (a_cons (e_var (v := x) rfl hx) a_nil) fun vs H1 p Q q => ⟨ns, p, q⟩) fun v1 H1 e1 p1 => ?_
  have sl1 : Sl 6 [x, v1] ((L2.start N_law [x]).set 1 (some v1)) := Sl.of rfl rfl
  generalize (L2.start N_law [x]).set 1 (some v1) = σ1 at sl1
  have hx1 : (sqlS K ns).P x H1 := Sh.up _ _ _ _ e1 hx
  have eX : ∀ {H' : Hp}, Ex H1 H' → EvS (tVar 0) σ1 H' (sqlS K ns) := fun e => sl1.var (i := 0) (v := x) rfl (Sh.up _ _ _ _ e hx1)
  have eH : ∀ {σ' : L2.St} {H' : Hp}, Sl 6 [x, v1] σ' → ExN H1 H' → EvS (tVar 1) σ' H' hpS := fun sl e => sl.var (i := 1) (v := v1) rfl (upN_hp _ _ _ e p1)
  have egt : ∀ (k : Int), EvS (tCB (fun xs H Q => (∃ i, xs = [.int i] ∧ Q (.int i) H) ∨ ∃ k, xs = [.bl k] ∧ Q (.int (if k then 1 else 0)) H) (tCons (tOp (rI0 fun i j => .bl (decide (i > j))) (tCB (fun xs H Q => ∃ p ys, xs = [.ref p] ∧ (SqL K H p ys ∨ SqT K H p ys) ∧ Q (.int ys.length) H) (tCons (tVar 0) tNil)) (tC (.int k))) tNil)) σ1 H1 (intS (if decide ((ns.length : Int) > k) = true then 1 else 0)) := fun k =>
    e_intB (a_cons (e_I0 (g := fun i j => .bl (decide (i > j))) (e_lenQ (eX (Evl.Ex.refl _))) e_int) a_nil)
  refine q_for (s_forR1 (n := 1 + (if decide ((ns.length : Int) > 0) = true then 1 else 0) + (if decide ((ns.length : Int) > 3) = true then 1 else 0)) (a_cons (e_I0 (g := fun i j => .int (i + j)) (e_I0 (g := fun i j => .int (i + j)) e_int (egt 0)) (egt 3)) a_nil) (by split <;> split <;> omega) fun H2 e2 => ⟨fun i σ' H' => Sl 6 [x, v1] σ' ∧ ExN H1 H' ∧ LamX.Tabs [(PT, lamQ)] H', ⟨sl1, ExN.ofE e2, hT.ext (e1.trans e2)⟩, ?_, ?_⟩)
  · rintro i σ' H' hi ⟨sl, ex, hTb⟩
    have sl2 : Sl 6 [x, v1] (σ'.set 2 (some (.int (i : Int)))) := sl.set (by show 2 ≤ 2; decide)
    generalize σ'.set 2 (some (V.int (i : Int))) = σ2 at sl2
    have n_ : ∀ {p : Nat → Prop} {n : Nat} {σ' : L2.St} {H' : Hp}, p n → EvS (tC (.int (n : Int))) σ' H' (numS p) := fun {p n σ' H'} h => (e_int (i := (n : Int))).num h
    refine c_call (ss := [hpS, numS fun n => 0 < n ∧ n ≤ 4, numS fun n => n ≤ 5, numS fun n => n ≤ 5]) (a_cons (eH sl2 ex) (a_cons (e_pickU 4 (eH sl2 ex) (a_cons (n_ (n := 3) (by decide)) (a_cons (n_ (n := 2) (by decide)) (a_cons (n_ (n := 3) (by decide)) (a_cons (n_ (n := 4) (by decide)) (a_cons (n_ (n := 1) (by decide)) a_nil))))))
      (a_cons (e_pickU 5 (eH sl2 ex) (a_cons (n_ (n := 3) (by decide)) (a_cons (n_ (n := 4) (by decide)) (a_cons (n_ (n := 3) (by decide)) (a_cons (n_ (n := 5) (by decide)) (a_cons (n_ (n := 2) (by decide)) (a_cons (n_ (n := 0) (by decide)) a_nil)))))))
      (a_cons (e_pickU 2 (eH sl2 ex) (a_cons (n_ (n := 4) (by decide)) (a_cons (n_ (n := 5) (by decide)) (a_cons (n_ (n := 4) (by decide)) a_nil)))) a_nil)))) fun vs H3 e3 p => ?_
    obtain ⟨w1, w2, w3, w4, rfl, q1, ⟨nk, hk, rfl⟩, ⟨nt, ht, rfl⟩, ⟨m, hm, rfl⟩⟩ := a4 p
    refine ⟨nk, nt, m, ⟨q1, rfl, rfl, rfl, trivial⟩, hk.1, hk.2, ht, hm, hTb.ext e3, fun H4 e4 T4 => ?_⟩
    exact ⟨true, rfl, iteF ⟨sl2, LamX.ExtN.trans ex (LamX.ExtN.trans (ExN.ofE e3) e4), T4⟩⟩
  · rintro σ' H' ⟨sl, ex, hTb⟩
    have n_ : ∀ {p : Nat → Prop} {n : Nat} {σ' : L2.St} {H' : Hp}, p n → EvS (tC (.int (n : Int))) σ' H' (numS p) := fun {p n σ' H'} h => (e_int (i := (n : Int))).num h
    refine c_call (ss := [hpS, numS fun n => 0 < n ∧ n ≤ 4, numS fun n => n ≤ 5, numS fun n => 0 < n ∧ n ≤ 30]) (a_cons (eH sl ex) (a_cons (e_pickU 2 (eH sl ex) (a_cons (n_ (n := 3) (by decide)) (a_cons (n_ (n := 4) (by decide)) (a_cons (n_ (n := 2) (by decide)) a_nil))))
      (a_cons (e_pickU 2 (eH sl ex) (a_cons (n_ (n := 4) (by decide)) (a_cons (n_ (n := 5) (by decide)) (a_cons (n_ (n := 3) (by decide)) a_nil))))
      (a_cons (e_pickU 2 (eH sl ex) (a_cons (n_ (n := 9) (by decide)) (a_cons (n_ (n := 30) (by decide)) (a_cons (n_ (n := 3) (by decide)) a_nil)))) a_nil)))) fun vs H3 e3 p => ?_
    obtain ⟨w1, w2, w3, w4, rfl, q1, ⟨nk, hk, rfl⟩, ⟨nt, ht, rfl⟩, ⟨m, hm, rfl⟩⟩ := a4 p
    refine ⟨nk, nt, m, ⟨q1, rfl, rfl, rfl, trivial⟩, hk.1, hk.2, ht, hm.1, hm.2, fun v H4 e4 pv => ?_⟩
    have pv : v = .bl true := pv
    subst pv
    refine ⟨true, rfl, iteF ?_⟩
    refine q_set (s := madeS K fun T => T = tb1) (e_make (p := fun d => d = dKs tb1) (q := fun d => d = dTys tb1) (r := fun T => T = tb1) TB.tc (a_cons ((e_tup (ds := [.str (Str.ofString "a"), .str (Str.ofString "c")]) (a_cons e_strD (a_cons e_strD a_nil)) (by decide)).datP (p := fun d => d = dKs tb1) rfl) (a_cons ((e_tup (ds := [.tuple [.str (Str.ofString "any"), dIs [0, 1]], .tuple [.str (Str.ofString "dark"), dIs [1]], .tuple [.str (Str.ofString "light"), dIs [0]]]) (a_cons (e_tup (ds := [.str (Str.ofString "any"), dIs [0, 1]]) (a_cons e_strD (a_cons (e_ints [0, 1] (by decide)) a_nil)) (by decide)) (a_cons (e_tup (ds := [.str (Str.ofString "dark"), dIs [1]]) (a_cons e_strD (a_cons (e_ints [1] (by decide)) a_nil)) (by decide)) (a_cons (e_tup (ds := [.str (Str.ofString "light"), dIs [0]]) (a_cons e_strD (a_cons (e_ints [0] (by decide)) a_nil)) (by decide)) a_nil))) (by decide)).datP (p := fun d => d = dTys tb1) rfl) a_nil)) fun d e hd he => ⟨tb1, hd, he, tb1_good, by decide +kernel, rfl⟩) fun v3 H5 e5 ⟨_, _, r3, p3⟩ => ?_
    subst r3
    have g3 : (σ'.set 3 (some v3))[3]? = some (some v3) := sl_same sl.len (by decide)
    have sl3 : Sl 6 [x, v1] (σ'.set 3 (some v3)) := sl.set (by show 2 ≤ 3; decide)
    generalize σ'.set 3 (some v3) = σ3 at g3 sl3
    have e3v : ∀ {H' : Hp}, Ex H5 H' → EvS (tVar 3) σ3 H' (tabS K tb1) := fun e => e_var g3 (Sh.up _ _ _ _ e p3)
    refine q_when (b := false) (t_or (a := false) (b := false) ((t_test (e_neD (e_lrrC (T := tb1) (st := [2, 1]) (bl := [1, 1, 2]) (one := 0) (other := 1) (o := some [2, 2]) (e3v (Evl.Ex.refl _)) (caseC tb1_good (by decide +kernel) (by decide +kernel) (by unfold LotsOk LotOk; decide +kernel) rfl (by decide +kernel) rfl (by decide +kernel)) (by decide) (by decide) (by decide +kernel) (by decide +kernel) (by decide +kernel) (by decide) (by decide) (by decide +kernel)) (e_ints [2, 2] (by decide)) (by rfl) (by rfl))).to (by decide +kernel)) fun _ => (t_test (e_neI (EvS.toI (e_fewC (T := tb1) (st := [2, 1]) (bl := [1, 1, 2]) (one := 1) (other := 0) (o := some [1]) (e3v (Evl.Ex.refl _)) (caseC tb1_good (by decide +kernel) (by decide +kernel) (by unfold LotsOk LotOk; decide +kernel) rfl (by decide +kernel) rfl (by decide +kernel)) (by decide) (by decide) (by decide +kernel) (by decide +kernel) (by decide +kernel) (by decide) (by decide) (by decide +kernel))) e_int)).to (by decide +kernel)) (fun z => nomatch z) fun _ H6 e6 => ?_
    refine q_set (s := madeS K fun T => T = tb2) (e_make (p := fun d => d = dKs tb2) (q := fun d => d = dTys tb2) (r := fun T => T = tb2) TB.tc (a_cons ((e_tup (ds := [.str (Str.ofString "a"), .str (Str.ofString "b"), .str (Str.ofString "c"), .str (Str.ofString "d"), .str (Str.ofString "e")]) (a_cons e_strD (a_cons e_strD (a_cons e_strD (a_cons e_strD (a_cons e_strD a_nil))))) (by decide)).datP (p := fun d => d = dKs tb2) rfl) (a_cons ((e_tup (ds := [.tuple [.str (Str.ofString "p"), dIs [0, 1]], .tuple [.str (Str.ofString "q"), dIs [0, 3, 4]]]) (a_cons (e_tup (ds := [.str (Str.ofString "p"), dIs [0, 1]]) (a_cons e_strD (a_cons (e_ints [0, 1] (by decide)) a_nil)) (by decide)) (a_cons (e_tup (ds := [.str (Str.ofString "q"), dIs [0, 3, 4]]) (a_cons e_strD (a_cons (e_ints [0, 3, 4] (by decide)) a_nil)) (by decide)) a_nil)) (by decide)).datP (p := fun d => d = dTys tb2) rfl) a_nil)) fun d e hd he => ⟨tb2, hd, he, tb2_good, by decide +kernel, rfl⟩) fun v4 H7 e7 ⟨_, _, r4, p4⟩ => ?_
    subst r4
    have g4 : (σ3.set 4 (some v4))[4]? = some (some v4) := sl_same sl3.len (by decide)
    have sl4 : Sl 6 [x, v1] (σ3.set 4 (some v4)) := sl3.set (by show 2 ≤ 4; decide)
    generalize σ3.set 4 (some v4) = σ4 at g4 sl4
    have e4v : ∀ {H' : Hp}, Ex H7 H' → EvS (tVar 4) σ4 H' (tabS K tb2) := fun e => e_var g4 (Sh.up _ _ _ _ e p4)
    refine q_when (b := false) (t_or (a := false) (b := false) ((t_test (e_neI (EvS.toI (e_fewC (T := tb2) (st := [1, 4, 1, 1, 1]) (bl := [5, 3]) (one := 0) (other := 2) (o := some [1, 1, 1]) (e4v (Evl.Ex.refl _)) (caseC tb2_good (by decide +kernel) (by decide +kernel) (by unfold LotsOk LotOk; decide +kernel) rfl (by decide +kernel) rfl (by decide +kernel)) (by decide) (by decide) (by decide +kernel) (by decide +kernel) (by decide +kernel) (by decide) (by decide) (by decide +kernel))) e_int)).to (by decide +kernel)) fun _ => (t_test (e_neD (e_lrrC (T := tb2) (st := [1, 4, 1, 1, 1]) (bl := [5, 3]) (one := 0) (other := 2) (o := some [1, 1, 1]) (e4v (Evl.Ex.refl _)) (caseC tb2_good (by decide +kernel) (by decide +kernel) (by unfold LotsOk LotOk; decide +kernel) rfl (by decide +kernel) rfl (by decide +kernel)) (by decide) (by decide) (by decide +kernel) (by decide +kernel) (by decide +kernel) (by decide) (by decide) (by decide +kernel)) (e_ints [1, 1, 1] (by decide)) (by rfl) (by rfl))).to (by decide +kernel)) (fun z => nomatch z) fun _ H8 e8 => ?_
    refine q_when (b := false) ((t_test (e_neD (e_lrrC (T := tb2) (st := [1, 1, 1, 1, 1]) (bl := [5, 3]) (one := 0) (other := 2) (o := some [0, 0]) (e4v e8) (caseC tb2_good (by decide +kernel) (by decide +kernel) (by unfold LotsOk LotOk; decide +kernel) rfl (by decide +kernel) rfl (by decide +kernel)) (by decide) (by decide) (by decide +kernel) (by decide +kernel) (by decide +kernel) (by decide) (by decide) (by decide +kernel)) (e_ints [0, 0] (by decide)) (by rfl) (by rfl))).to (by decide +kernel)) (fun z => nomatch z) fun _ H9 e9 => ?_
    refine q_set (s := madeS K fun T => T = tb3) (e_make (p := fun d => d = dKs tb3) (q := fun d => d = dTys tb3) (r := fun T => T = tb3) TB.tc (a_cons ((e_tup (ds := [.str (Str.ofString "a"), .str (Str.ofString "b"), .str (Str.ofString "c")]) (a_cons e_strD (a_cons e_strD (a_cons e_strD a_nil))) (by decide)).datP (p := fun d => d = dKs tb3) rfl) (a_cons ((e_tup (ds := [.tuple [.str (Str.ofString "far"), dIs [0, 1]], .tuple [.str (Str.ofString "last"), dIs [0]], .tuple [.str (Str.ofString "near"), dIs [0, 2]], .tuple [.str (Str.ofString "wide"), dIs [0, 1]]]) (a_cons (e_tup (ds := [.str (Str.ofString "far"), dIs [0, 1]]) (a_cons e_strD (a_cons (e_ints [0, 1] (by decide)) a_nil)) (by decide)) (a_cons (e_tup (ds := [.str (Str.ofString "last"), dIs [0]]) (a_cons e_strD (a_cons (e_ints [0] (by decide)) a_nil)) (by decide)) (a_cons (e_tup (ds := [.str (Str.ofString "near"), dIs [0, 2]]) (a_cons e_strD (a_cons (e_ints [0, 2] (by decide)) a_nil)) (by decide)) (a_cons (e_tup (ds := [.str (Str.ofString "wide"), dIs [0, 1]]) (a_cons e_strD (a_cons (e_ints [0, 1] (by decide)) a_nil)) (by decide)) a_nil)))) (by decide)).datP (p := fun d => d = dTys tb3) rfl) a_nil)) fun d e hd he => ⟨tb3, hd, he, tb3_good, by decide +kernel, rfl⟩) fun v5 H10 e10 ⟨_, _, r5, p5⟩ => ?_
    subst r5
    have g5 : (σ4.set 5 (some v5))[5]? = some (some v5) := sl_same sl4.len (by decide)
    generalize σ4.set 5 (some v5) = σ5 at g5
    have e5v : ∀ {H' : Hp}, Ex H10 H' → EvS (tVar 5) σ5 H' (tabS K tb3) := fun e => e_var g5 (Sh.up _ _ _ _ e p5)
    refine q_when (b := false) (t_or (a := false) (b := false) ((t_B (e_notN (e_lrrC (T := tb3) (st := [2, 1, 1]) (bl := [1, 1, 1, 1]) (one := 0) (other := 1) (o := none) (e5v (Evl.Ex.refl _)) (caseC tb3_good (by decide +kernel) (by decide +kernel) (by unfold LotsOk LotOk; decide +kernel) rfl (by decide +kernel) rfl (by decide +kernel)) (by decide) (by decide) (by decide +kernel) (by decide +kernel) (by decide +kernel) (by decide) (by decide) (by decide +kernel)))).to (by rfl)) fun _ => (t_test (e_neD (e_lrrC (T := tb3) (st := [2, 1, 1]) (bl := [1, 1, 2, 1]) (one := 0) (other := 1) (o := some [1, 2, 2]) (e5v (Evl.Ex.refl _)) (caseC tb3_good (by decide +kernel) (by decide +kernel) (by unfold LotsOk LotOk; decide +kernel) rfl (by decide +kernel) rfl (by decide +kernel)) (by decide) (by decide) (by decide +kernel) (by decide +kernel) (by decide +kernel) (by decide) (by decide) (by decide +kernel)) (e_ints [1, 2, 2] (by decide)) (by rfl) (by rfl))).to (by decide +kernel)) (fun z => nomatch z) fun _ H11 e11 => ?_
    refine s_ret (Q := Q) (s := blS true) (e_andV (a := true) (b := true) (EvS.cast (e_eqD (e_lrrC (T := tb3) (st := [2, 1, 1]) (bl := [2, 1, 2, 1]) (one := 0) (other := 2) (o := some [0, 0, 1]) (e5v e11) (caseC tb3_good (by decide +kernel) (by decide +kernel) (by unfold LotsOk LotOk; decide +kernel) rfl (by decide +kernel) rfl (by decide +kernel)) (by decide) (by decide) (by decide +kernel) (by decide +kernel) (by decide +kernel) (by decide) (by decide) (by decide +kernel)) (e_ints [0, 0, 1] (by decide)) (by rfl) (by rfl)) (congrArg blS (by decide +kernel))) fun _ => EvS.cast (e_eqD (e_call (s := dat K (dNs (tw tb3.lots [0, 2]))) (a_cons (e5v e11) (a_cons (e_ints [0, 2] (by decide)) a_nil)) fun vs H12 p Q q => ⟨tb3, [0, 2], p, (caseC (st := [2, 1, 1]) (bl := [1, 1, 1, 1]) tb3_good (by decide +kernel) (by decide +kernel) (by unfold LotsOk LotOk; decide +kernel) rfl (by decide +kernel) rfl (by decide +kernel)).go, q⟩) (e_ints [1, 2] (by decide)) (by rfl) (by rfl)) (congrArg blS (by decide +kernel))) fun v H12 e12 p => ?_
    have p : v = .bl true := p
    subst p
    exact kk H12
end
end K45
/-! All promises, from what the text leaves. -/
namespace K45
open PySem L2 RZ
/-- the defs of the text -/
structure Dfs (K : Fg) (mg : Str → Option Value) : Prop where
  d_accepted : Df K mg "accepted" s_accepted ["table", "request"]
  d_units_in : Df K mg "units_in" s_units_in ["stock", "kinds"]
  d_is_integer : Df K mg "is_integer" s_is_integer ["value"]
  d_is_number : Df K mg "is_number" s_is_number ["value"]
  d_is_name : Df K mg "is_name" s_is_name ["value"]
  d_are_numbers : Df K mg "are_numbers" s_are_numbers ["value"]
  d_is_ascending : Df K mg "is_ascending" s_is_ascending ["items"]
  d_is_listing : Df K mg "is_listing" s_is_listing ["value", "bound"]
  d_are_kinds : Df K mg "are_kinds" s_are_kinds ["value"]
  d_is_type : Df K mg "is_type" s_is_type ["kinds", "value", "last"]
  d_types_without : Df K mg "types_without" s_types_without ["table", "kind"]
  d_units_by_kind : Df K mg "units_by_kind" s_units_by_kind ["table", "taking"]
  d_taken_units : Df K mg "taken_units" s_taken_units ["taking"]
  d_kinds_of_types : Df K mg "kinds_of_types" s_kinds_of_types ["table", "types"]
  d_open_kinds : Df K mg "open_kinds" s_open_kinds ["table", "types", "left"]
  d_takers_among : Df K mg "takers_among" s_takers_among ["table", "types", "kinds"]
  d_types_within : Df K mg "types_within" s_types_within ["table", "kinds"]
  d_ways_from : Df K mg "ways_from" s_ways_from ["table", "types", "rows", "kinds"]
  d_has_room : Df K mg "has_room" s_has_room ["bounds", "rows", "request"]
  d_way_of : Df K mg "way_of" s_way_of ["to_kinds", "to_types", "end"]
  d_next_way : Df K mg "next_way" s_next_way ["table", "bounds", "types", "rows", "left"]
  d_way_width : Df K mg "way_width" s_way_width ["bounds", "rows", "left", "way"]
  d_turn_way : Df K mg "turn_way" s_turn_way ["rows", "left", "way", "many"]
  d_greatest_taking : Df K mg "greatest_taking" s_greatest_taking ["table", "stock", "bounds", "types"]
  d_gap_beside : Df K mg "gap_beside" s_gap_beside ["table", "stock", "types", "taking"]
  d_worst_gap : Df K mg "worst_gap" s_worst_gap ["table", "stock", "bounds", "types"]
  d_greatest_within : Df K mg "greatest_within" s_greatest_within ["table", "stock", "bounds", "types"]
  d_greatest_full : Df K mg "greatest_full" s_greatest_full ["table", "stock", "bounds", "kind"]
  d_lots_with : Df K mg "lots_with" s_lots_with ["many", "one", "other"]
  d_small_full_lots : Df K mg "small_full_lots" s_small_full_lots ["table", "stock", "bounds", "one", "other"]
  d_least_full_row : Df K mg "least_full_row" s_least_full_row ["table", "stock", "bounds", "types"]
  d_need_unit : Df K mg "need_unit" s_need_unit ["stock", "kind"]
  d_worse_kinds : Df K mg "worse_kinds" s_worse_kinds ["table", "stock", "bounds", "kind"]
  d_is_safe : Df K mg "is_safe" s_is_safe ["table", "stock", "bounds", "one", "other"]
  d_fewest_requests : Df K mg "fewest_requests" s_fewest_requests ["table", "stock", "bounds", "one", "other"]
  d_least_regret_row : Df K mg "least_regret_row" s_least_regret_row ["table", "stock", "bounds", "one", "other"]
  d__law_heap : Df K mg "_law_heap" s__law_heap ["_law_script"]
  d__law_draw : Df K mg "_law_draw" s__law_draw ["_law_heap_here", "_law_many"]
  d__law_pick : Df K mg "_law_pick" s__law_pick ["_law_heap_here", "_law_some"]
  d__law_lots : Df K mg "_law_lots" s__law_lots ["_law_heap_here", "_law_kinds_here", "_law_types"]
  d__law_made : Df K mg "_law_made" s__law_made ["_law_heap_here", "_law_kinds_here", "_law_lots_here"]
  d__law_bounds : Df K mg "_law_bounds" s__law_bounds ["_law_heap_here", "_law_types", "_law_most"]
  d__law_few : Df K mg "_law_few" s__law_few ["_law_heap_here", "_law_many", "_law_most"]
  d__law_parts : Df K mg "_law_parts" s__law_parts ["_law_some"]
  d__law_kinds : Df K mg "_law_kinds" s__law_kinds ["_law_lots_here", "_law_types"]
  d__law_lack : Df K mg "_law_lack" s__law_lack ["_law_lots_here", "_law_stock", "_law_bounds_here", "_law_types", "_law_kinds_here"]
  d__law_most_served : Df K mg "_law_most_served" s__law_most_served ["_law_lots_here", "_law_stock", "_law_counts"]
  d__law_less : Df K mg "_law_less" s__law_less ["_law_stock", "_law_kind"]
  d__law_rows : Df K mg "_law_rows" s__law_rows ["_law_bounds_here", "_law_most"]
  d__law_first : Df K mg "_law_first" s__law_first ["_law_lots_here", "_law_stock", "_law_rows_here", "_law_one", "_law_other"]
  d__law_case_right : Df K mg "_law_case_right" s__law_case_right ["_law_heap_here", "_law_kinds_here", "_law_many", "_law_units"]
  d__law_is_full : Df K mg "_law_is_full" s__law_is_full ["_law_lots_here", "_law_stock", "_law_bounds_here", "_law_types"]
  d__law_great_right : Df K mg "_law_great_right" s__law_great_right ["_law_heap_here", "_law_kinds_here", "_law_many", "_law_most"]
  d_law : Df K mg "law" s_law ["_law_script"]
theorem chain {P : Program} {w : World} {K : Fg} {mg : Str → Option Value} {base : Heap} {C Dc Sc CT f1 cc cda fT g f cC PT : Addr} {fd1 fdT : FuncData} {oc oc2 : Value} {od an od2 an2 : Option Addr} {kV doc pm cdv ct kV2 doc2 pm2 ct2 : Value} {osl osl2 : Array (Option Value)}
    (T : Bt mg) (D : Dfs K mg) (RI : RefIs P K mg C f1 cc cda fd1) (iC : PySem.W.findIn K (.ref C) "__init__" = some (some (.ref f1))) (tI : PySem.W.typeIn K (.ref f1) = some (.type "function")) (bI : Binds K fd1 ["self", "word"] []) (gC : mg "Refused" = some (.ref C))
    (TM : Mk K CT fT) (FT : Fun K "__init__" "Table.__init__" s_Table_init fT fdT) (gT : mg "Table" = some (.ref CT)) (bT : Binds K fdT ["self", "kinds", "types"] []) (tc : TabC K CT)
    (W : RfX K mg C Dc Sc) (WD : WdD K mg g oc od an kV doc pm cdv ct osl) (BD : BrD K mg base f cC PT oc2 od2 an2 kV2 doc2 pm2 ct2 osl2) : OkG P w K mg base 17 "law" ["_law_script"] (sp_law K PT) := by
  have g_accepted := ok_accepted (P := P) (w := w) (base := base) T D.d_accepted
  have g_units_in := ok_units_in (P := P) (w := w) (base := base) T D.d_units_in
  have g_is_integer := ok_is_integer (P := P) (w := w) (base := base) T D.d_is_integer
  have g_is_number := ok_is_number (P := P) (w := w) (base := base) T D.d_is_number g_is_integer
  have g_is_name := ok_is_name (P := P) (w := w) (base := base) T D.d_is_name
  have g_are_numbers := ok_are_numbers (P := P) (w := w) (base := base) T D.d_are_numbers g_is_number
  have g_is_ascending := ok_is_ascending (P := P) (w := w) (base := base) T D.d_is_ascending
  have g_is_listing := ok_is_listing (P := P) (w := w) (base := base) T D.d_is_listing g_are_numbers g_is_ascending
  have g_are_kinds := ok_are_kinds (P := P) (w := w) (base := base) T D.d_are_kinds g_is_name g_is_ascending
  have g_is_type := ok_is_type (P := P) (w := w) (base := base) T D.d_is_type g_is_name g_is_listing
  have g_types_without := ok_types_without (P := P) (w := w) (base := base) T D.d_types_without
  have g_units_by_kind := ok_units_by_kind (P := P) (w := w) (base := base) T D.d_units_by_kind
  have g_taken_units := ok_taken_units (P := P) (w := w) (base := base) T D.d_taken_units
  have g_kinds_of_types := ok_kinds_of_types (P := P) (w := w) (base := base) T D.d_kinds_of_types g_accepted
  have g_open_kinds := ok_open_kinds (P := P) (w := w) (base := base) T D.d_open_kinds g_kinds_of_types
  have g_takers_among := ok_takers_among (P := P) (w := w) (base := base) T D.d_takers_among g_accepted
  have g_types_within := ok_types_within (P := P) (w := w) (base := base) T D.d_types_within g_accepted
  have g_ways_from := ok_ways_from (P := P) (w := w) (base := base) T D.d_ways_from g_accepted
  have g_has_room := ok_has_room (P := P) (w := w) (base := base) T D.d_has_room
  have g_way_of := ok_way_of (P := P) (w := w) (base := base) T D.d_way_of
  have g_next_way := ok_next_way (P := P) (w := w) (base := base) T D.d_next_way g_open_kinds g_ways_from g_has_room g_way_of
  have g_way_width := ok_way_width (P := P) (w := w) (base := base) T D.d_way_width
  have g_turn_way := ok_turn_way (P := P) (w := w) (base := base) T D.d_turn_way
  have g_greatest_taking := ok_greatest_taking (P := P) (w := w) (base := base) T D.d_greatest_taking g_next_way g_way_width g_turn_way
  have g_gap_beside := ok_gap_beside (P := P) (w := w) (base := base) T D.d_gap_beside g_units_by_kind g_open_kinds g_ways_from
  have g_worst_gap := ok_worst_gap (P := P) (w := w) (base := base) T D.d_worst_gap g_gap_beside g_greatest_taking
  have g_greatest_within := ok_greatest_within (P := P) (w := w) (base := base) T D.d_greatest_within g_worst_gap g_takers_among
  have g_greatest_full := ok_greatest_full (P := P) (w := w) (base := base) T D.d_greatest_full g_greatest_within g_types_without
  have g_lots_with := ok_lots_with (P := P) (w := w) (base := base) T D.d_lots_with
  have g_small_full_lots := ok_small_full_lots (P := P) (w := w) (base := base) T D.d_small_full_lots g_lots_with g_greatest_within g_types_within g_kinds_of_types g_units_in
  have g_least_full_row := ok_least_full_row (P := P) (w := w) (base := base) T D.d_least_full_row g_taken_units g_greatest_taking
  have RF : RefC P w K mg base C f1 fd1 := ⟨RI.T, iC, tI, ok_rinit RI, bI, gC⟩
  have g_need_unit := ok_need_unit (P := P) (w := w) (base := base) T RF D.d_need_unit
  have g_worse_kinds := ok_worse_kinds T D.d_worse_kinds g_need_unit g_kinds_of_types g_greatest_full
  have g_is_safe := ok_is_safe T D.d_is_safe g_need_unit g_worse_kinds
  have g_fewest := ok_fewest_requests T D.d_fewest_requests g_is_safe g_small_full_lots
  have g_least := ok_least_regret_row T D.d_least_regret_row g_fewest g_small_full_lots g_least_full_row
  have k_fewest : OkK P w K mg base (L2.CX P w) 11 "fewest_requests" ["table", "stock", "bounds", "one", "other"] ["other", "one", "bounds", "stock", "table"] (sp_fewest_requests K C) := let ⟨f, fd, F, m, _⟩ := D.d_fewest_requests.ex; ⟨f, fd, fn_fewest_requests T g_is_safe g_small_full_lots F, m, F.kp, kb5 F fun _ _ _ _ _ _ _ _ _ _ _ => rfl⟩
  have k_least : OkK P w K mg base (L2.CX P w) 12 "least_regret_row" ["table", "stock", "bounds", "one", "other"] ["other", "one", "bounds", "stock", "table"] (sp_least_regret_row K C) := let ⟨f, fd, F, m, _⟩ := D.d_least_regret_row.ex; ⟨f, fd, fn_least_regret_row T g_fewest g_small_full_lots g_least_full_row F, m, F.kp, kb5 F fun _ _ _ _ _ _ _ _ _ _ _ => rfl⟩
  have k_within : OkK P w K mg base CX0 2 "types_within" ["table", "kinds"] ["kinds", "table"] (sp_types_within K) := let ⟨f, fd, F, m, _⟩ := D.d_types_within.ex; ⟨f, fd, fn_types_within T g_accepted F, m, F.kp, kb2 F fun _ _ _ _ _ _ _ _ => rfl⟩
  have TB : TbC P w K mg base CT fT fdT := ⟨TM, ok_tinit T FT g_are_kinds g_is_type, gT, bT, tc⟩
  have g_draw := ok_draw (ok_drawC (P := P) (w := w) (base := base) T D.d__law_draw)
  have g_heap := ok_heap (ok_heapC (P := P) (w := w) (base := base) T D.d__law_heap)
  have g_pick := ok_pick T D.d__law_pick g_draw
  have g_lots := ok_lots T D.d__law_lots g_draw g_pick
  have g_made := ok_made T D.d__law_made TB g_draw
  have g_bounds := ok_bounds T D.d__law_bounds g_draw
  have g_few := ok_few T D.d__law_few g_draw
  have g_parts := ok_parts (P := P) (w := w) (base := base) T D.d__law_parts
  have g_partsL := ok_partsL (P := P) (w := w) (base := base) T D.d__law_parts
  have g_kinds := ok_kinds (P := P) (w := w) (base := base) T D.d__law_kinds
  have g_lack := ok_lack (P := P) (w := w) (base := base) T D.d__law_lack
  have g_isfull := ok_isfull T D.d__law_is_full g_parts g_kinds g_lack
  have g_served := ok_served (P := P) (w := w) (base := base) T D.d__law_most_served
  have g_lessT := ok_lessT (P := P) (w := w) (base := base) T D.d__law_less
  have g_rows := ok_rows (P := P) (w := w) (base := base) T D.d__law_rows
  have g_first := ok_first T D.d__law_first g_served g_lessT
  have g_bare := ok_bare T W WD BD g_fewest g_least
  have g_case := ok_case T D.d__law_case_right g_draw g_lots g_made g_few g_bounds g_rows g_bare g_first g_fewest g_least k_fewest k_least g_types_within k_within
  have g_great := ok_great T D.d__law_great_right g_draw g_pick g_lots g_made g_partsL g_kinds g_isfull g_fewest g_least
  exact ok_law T D.d_law TB g_heap g_pick g_case g_great g_fewest g_least g_types_within
end K45
/-! The end: the law's run from what stands behind the top, with one table of code objects, while no repr is under way. -/
namespace K45
open PySem PySem.Spec PyProof.Rows L2 RZ
/-- what is tracked at the law's start: the table, and the script unless it is written out -/
def startHp (a PT : Addr) (o : Option HO) : Hp := fun b => if b = PT then some (.tbl #[]) else if b = a then o else none
theorem startHp_t {a PT : Addr} {o : Option HO} : startHp a PT o PT = some (.tbl #[]) := if_pos rfl
theorem startHp_a {a PT : Addr} {o : Option HO} (h : a ≠ PT) : startHp a PT o a = o := by unfold startHp; rw [if_neg h, if_pos rfl]
theorem startHp_n {a PT b : Addr} {o : Option HO} (h1 : b ≠ PT) (h2 : b ≠ a) : startHp a PT o b = none := by unfold startHp; rw [if_neg h1, if_neg h2]
section
variable {P : Program} {w : World} {K : Fg} {mg mb : Str → Option Value} {k : Nat} {fa a cT PT : Addr} {x : Str} {sp : Sp} {S : Shared} {items : List Value} {ns : List Int} {o : Option HO}
abbrev scriptO (items : List Value) : Obj := { cls := .type "list", data := .seq items.toArray }
theorem law_from (kin : K.In S.heap) (gl : S.heap.Ns mainGlobals mg) (bl : S.heap.Ns builtinsNs mb) (bb : ∀ x : Str, x ≠ "__name__" → mb x = bootBuiltins x) (nl : S.heap.NoLimit) (gs : S.gens = #[])
    (tab : S.heap.get? PT = some (PySem.W.tabObj #[])) (nT : K.lookup PT = none) (cd : PySem.W.codeHdIn K cT PT = true)
    (bm : ∃ (bm : Addr) (ob : Obj), mg "__builtins__" = some (.ref bm) ∧ bm ≠ builtinsNs ∧ S.heap.get? bm = some ob ∧ ob.cls = .type "module" ∧ ob.dict = some builtinsNs ∧ ob.data = .plain)
    (sc : S.heap.get? a = some (scriptO items)) (hr : Room k callerA)
    (ro : o = none ∨ ((∃ xs, o = some (.frz (scriptO items) (.lst xs))) ∧ K.lookup a = none)) (hok : HOk P w (startHp a PT o) S.heap)
    (hfa : mg "law" = some (.ref fa)) (run : ∀ base : Heap, K.In base → base.Ns mainGlobals mg → LamX.TabB base mg cT PT → OkG P w K mg base k "law" [x] sp)
    (pre : sp [.ref a] (startHp a PT o) (fun v _ => v = .bl true) fun _ _ _ => False) :
    codeAny (model P w) callerA (.call (.ref fa) ⟨[.ref a], []⟩) (fun r s' => r = .ok (.ret (.bool true)) ∧ OldK S.heap s'.heap ∧ s'.os = S.os ∧ AllBare s'.gens) S := by
  have ne : a ≠ PT := fun z => by
    rw [z, tab] at sc
    have sc : Data.fields #[] = Data.seq items.toArray _ := congrArg Obj.data (Option.some.inj sc)
    cases sc
  -- what is no list and no table is not tracked
  have off : ∀ {b : Addr} {ob : Obj}, S.heap.get? b = some ob → (∀ ys n, ob.data ≠ .seq ys n) → ob.data ≠ .fields #[] → startHp a PT o b = none := fun {b ob} e h1 h2 => by
    by_cases hb : b = PT
    · rw [hb, tab] at e
      cases e
      exact (h2 rfl).elim
    · by_cases hb2 : b = a
      · rw [hb2, sc] at e
        cases e
        exact (h1 _ _ rfl).elim
      · exact startHp_n hb hb2
  have offD : ∀ {b : Addr} {ob : Obj} {es : Array DictEntry} {ep : Nat}, S.heap.get? b = some ob → ob.data = .dict es ep → startHp a PT o b = none := fun {b ob es ep} e d => off e (fun ys n z => by rw [d] at z; cases z) (fun z => by rw [d] at z; cases z)
  have ns_ : ∀ {b : Addr} {m : Str → Option Value}, S.heap.Ns b m → (hidT S.heap (startHp a PT o)).Ns b m := fun {b m} ⟨ob, es, ep, e, d, r⟩ => ⟨ob, es, ep, hidT_get e (offD e d), d, r⟩
  have kin2 : K.In (hidT S.heap (startHp a PT o)) := fun b ob e => hidT_get (kin b ob e) (by
    by_cases hb : b = PT
    · rw [hb, nT] at e
      cases e
    · by_cases hb2 : b = a
      · rcases ro with z | ⟨_, z⟩
        · rw [hb2, startHp_a ne]
          exact z
        · rw [hb2, z] at e
          cases e
      · exact startHp_n hb hb2)
  have tb : LamX.TabB (hidT S.heap (startHp a PT o)) mg cT PT := by
    refine ⟨PySem.W.codeHd_of_K kin2 cd, ?_, fun z => ?_⟩
    · obtain ⟨bmA, ob, b1, b2, b3, b4, b5, b6⟩ := bm
      refine ⟨bmA, ob, b1, b2, fun q => ?_, fun q => ?_, hidT_get b3 (off b3 (fun ys n z => ?_) fun z => ?_), b4, b5, b6⟩
      · obtain ⟨og, es, ep, e, d, _⟩ := gl
        rw [q, e] at b3
        cases b3
        rw [d] at b6
        cases b6
      · rw [q, tab] at b3
        cases b3
        cases b6
      · rw [b6] at z
        cases z
      · rw [b6] at z
        cases z
    · obtain ⟨og, es, ep, e, d, _⟩ := gl
      rw [z, tab] at e
      cases e
      cases d
  obtain ⟨mc, l1, l2⟩ := nl
  have env : Env0 P w K mg (hidT S.heap (startHp a PT o)) callerA [] S (startHp a PT o) := ⟨rfl, ⟨kin2, ns_ gl, ⟨mb, ns_ bl, bb⟩, ⟨mc, ns_ l1, l2⟩⟩, fun b ob e => of_hidT e, Nat.le_of_eq (hidT_size _ _), trivial, fun b hb => (nomatch (show b ∈ ([] : List Addr) from hb)), hok, .of_eq gs⟩
  obtain ⟨f, fd, R, _, hm, _, bi⟩ := (run _ kin2 (ns_ gl) tb).ex
  rw [hfa] at hm
  cases hm
  refine codeAny_mono (R callerA [] S _ ⟨[.ref a], []⟩ [.ref a] [.ref a] _ _ hr rfl env (bi S [.ref a] kin rfl) (.cons rfl .nil) pre) fun r s2 hq => ?_
  cases r with
  | error e => exact (show False from hq).elim
  | ok fl =>
    cases fl with
    | next => exact (show False from hq).elim
    | brk => exact (show False from hq).elim
    | cont => exact (show False from hq).elim
    | ret u =>
      obtain ⟨v, H2, os, bare, un, hok2, rv, q⟩ := hq
      have q : v = .bl true := q
      subst q
      obtain rfl : u = Value.bool true := rv
      have same : ∀ b ob, b ≠ PT → S.heap.get? b = some ob → s2.heap.get? b = some ob := fun b ob hb e => by
        by_cases hb2 : b = a
        · rcases ro with z | ⟨⟨xs, z⟩, _⟩
          · exact un.keep b ob e (by rw [hb2, startHp_a ne]; exact z) (by simp [frs]) (by simp)
          · have at1 : startHp a PT o b = some (.frz (scriptO items) (.lst xs)) := by rw [hb2, startHp_a ne]; exact z
            obtain ⟨g1, _⟩ := hok b _ at1
            obtain ⟨g2, _⟩ := hok2 b _ (un.frzs b _ _ at1)
            rw [e] at g1
            cases g1
            exact g2
        · exact un.keep b ob e (startHp_n hb hb2) (by simp [frs]) (by simp)
      obtain ⟨more, gm⟩ := un.tbls PT #[] startHp_t
      have gt : s2.heap.get? PT = some (PySem.W.tabObj (#[] ++ more)) := hok2 PT _ gm
      refine ⟨rfl, ⟨fun b ob e => ?_, fun b ob e => ?_⟩, os, bare⟩
      · by_cases hb : b = PT
        · rw [hb] at e ⊢
          rw [tab] at e
          cases e
          exact .inr (.inl ⟨((PySem.W.codeHd_of_K kin cd).tab tab).isCodeTable, rfl, #[], more, rfl, gt⟩)
        · exact .inl (same b ob hb e)
      · by_cases hb : b = PT
        · exact ⟨_, by rw [hb]; exact gt⟩
        · exact ⟨ob, same b ob hb e⟩
theorem law_run (kin : K.In S.heap) (gl : S.heap.Ns mainGlobals mg) (bl : S.heap.Ns builtinsNs mb) (bb : ∀ x : Str, x ≠ "__name__" → mb x = bootBuiltins x) (nl : S.heap.NoLimit) (gs : S.gens = #[])
    (tab : S.heap.get? PT = some (PySem.W.tabObj #[])) (nT : K.lookup PT = none) (cd : PySem.W.codeHdIn K cT PT = true)
    (bm : ∃ (bm : Addr) (ob : Obj), mg "__builtins__" = some (.ref bm) ∧ bm ≠ builtinsNs ∧ S.heap.get? bm = some ob ∧ ob.cls = .type "module" ∧ ob.dict = some builtinsNs ∧ ob.data = .plain)
    (sc : S.heap.get? a = some (scriptO items)) (hi : IntsAre items ns) (hl : ns.length ≤ 1000) (hr : Room 17 callerA) (hfa : mg "law" = some (.ref fa))
    (run : ∀ base : Heap, K.In base → base.Ns mainGlobals mg → LamX.TabB base mg cT PT → OkG P w K mg base 17 "law" [x] (sp_law K PT)) :
    codeAny (model P w) callerA (.call (.ref fa) ⟨[.ref a], []⟩) (fun r s' => r = .ok (.ret (.bool true)) ∧ OldK S.heap s'.heap ∧ s'.os = S.os ∧ AllBare s'.gens) S := by
  have rel := vals_ints hi
  have len := hi.length
  have small : ns.length ≤ sizeLine := Nat.le_of_lt (small1000 hl)
  have ne : a ≠ PT := fun z => by
    rw [z, tab] at sc
    have sc : Data.fields #[] = Data.seq items.toArray _ := congrArg Obj.data (Option.some.inj sc)
    cases sc
  have pre : ∀ {o : Option HO}, SqL K (startHp a PT o) a (ns.map V.int) → sp_law K PT [.ref a] (startHp a PT o) (fun v _ => v = .bl true) fun _ _ _ => False := fun {o} hs => ⟨ns, ⟨⟨a, rfl, hs⟩, trivial⟩, hl, fun p hp => by
    rw [List.mem_singleton.mp hp]
    exact LamX.TabS.nil startHp_t, fun _ => rfl⟩
  cases hk : K.lookup a with
  | some ob =>
    have e := kin a ob hk
    rw [sc] at e
    cases e
    refine law_from (o := none) kin gl bl bb nl gs tab nT cd bm sc hr (.inl rfl) (fun b u z => ?_) hfa run (pre (.inr ⟨_, items.toArray, _, hk, rfl, rfl, rfl, by rw [List.size_toArray, len]; exact small, by simpa using rel⟩))
    by_cases hb : b = PT
    · rw [hb, startHp_t] at z
      cases z
      rw [hb]
      exact tab
    · by_cases hb2 : b = a
      · rw [hb2, startHp_a ne] at z
        cases z
      · rw [startHp_n hb hb2] at z
        cases z
  | none =>
    refine law_from (o := some (.frz (scriptO items) (.lst (ns.map V.int)))) kin gl bl bb nl gs tab nT cd bm sc hr (.inr ⟨⟨_, rfl⟩, hk⟩) (fun b u z => ?_) hfa run (pre (.inl (.inr ⟨_, startHp_a ne⟩)))
    by_cases hb : b = PT
    · rw [hb, startHp_t] at z
      cases z
      rw [hb]
      exact tab
    · by_cases hb2 : b = a
      · rw [hb2, startHp_a ne] at z
        cases z
        rw [hb2]
        exact ⟨sc, by rw [List.length_map]; exact small, items, _, rel, sc⟩
      · rw [startHp_n hb hb2] at z
        cases z
end
/-- the end of the row -/
theorem law_end {l : PySem.W.OpenLaw} {q : Program} {loose : List Str} {XP : (Str → Option Value) → Heap → Prop} {YP : World → Heap → Prop} {d : DefRec} {K : Params → Fg} (hn : l.most = some 63) (hdf : d.params.defaults = []) (nm : d.name = "law") (hY : ∀ (w : World) (h : Heap), YP w h → (K w.params).In h)
    (F : ∀ (w : World) (mg : Str → Option Value) (h : Heap), YP w h → (K w.params).In h → h.Ns mainGlobals mg → ∃ cT PT : Addr, h.get? PT = some (PySem.W.tabObj #[]) ∧ (K w.params).lookup PT = none ∧ PySem.W.codeHdIn (K w.params) cT PT = true ∧
      ∀ base : Heap, (K w.params).In base → base.Ns mainGlobals mg → LamX.TabB base mg cT PT → OkG l.prog w (K w.params) mg base 17 "law" ["_law_script"] (sp_law (K w.params) PT)) :
    PySem.W.WalkO q loose XP YP l.row.toRowW d [] (fun f vs => PySem.call f vs) := by
  refine Att.attach_callB hn hdf fun w s0 s1 mg mb fa ob pm cd doc a vs ns G Y ho hd hcd hmg hobj hints hlen hbits hg => ?_
  have kin := hY w _ Y
  obtain ⟨cT, PT, h1, h2, h3, h4⟩ := F w mg _ Y kin G.T.g
  rw [nm] at hmg
  exact law_run kin G.T.g G.T.b G.T.builtins G.T.nolimit hg h1 h2 h3 G.T.bmain hobj hints (Nat.le_trans hlen (by decide)) ⟨rfl, by decide, by decide⟩ hmg h4
end K45
/-! From what the written part says to what the promises ask. -/
namespace K45
open PySem L2 RZ
def bare1 (K : Fg) (x : Str) : Bool := match PySem.W.nsIn K mainGlobals x with
  | some none => true
  | _ => false
theorem bare1_ok {K : Fg} {x : Str} (h : bare1 K x = true) : PySem.W.nsIn K mainGlobals x = some none := by
  unfold bare1 at h
  split at h
  · assumption
  · cases h
def bareB (K : Fg) : Bool := bare1 K "len" && bare1 K "sum" && bare1 K "any" && bare1 K "all" && bare1 K "abs" && bare1 K "max" && bare1 K "min" && bare1 K "sorted" && bare1 K "repr" && bare1 K "tuple" && bare1 K "list" && bare1 K "int" && bare1 K "dict" && bare1 K "str" && bare1 K "bool" && bare1 K "range" && bare1 K "enumerate" && bare1 K "zip" && bare1 K "isinstance" && bare1 K "super"
section
variable {K : Fg} {h : Heap} {mg : Str → Option Value}
theorem bt_mk (X : K.In h) (G : h.Ns mainGlobals mg) (b : bareB K = true) {t0 t1 t2 t3 : Tok} (l0 : PySem.W.nsIn K mainGlobals "LETTERS" = some (some (.str "abcdefghijklmnopqrstuvwxyz" t0))) (l1 : PySem.W.nsIn K mainGlobals "LONGEST_NAME" = some (some (.int 8 t1)))
    (l2 : PySem.W.nsIn K mainGlobals "MOST_KINDS" = some (some (.int 8 t2))) (l3 : PySem.W.nsIn K mainGlobals "MOST_TYPES" = some (some (.int 12 t3))) : Bt mg := by
  unfold bareB at b
  simp only [Bool.and_eq_true] at b
  obtain ⟨⟨⟨⟨⟨⟨⟨⟨⟨⟨⟨⟨⟨⟨⟨⟨⟨⟨⟨b0, b1⟩, b2⟩, b3⟩, b4⟩, b5⟩, b6⟩, b7⟩, b8⟩, b9⟩, b10⟩, b11⟩, b12⟩, b13⟩, b14⟩, b15⟩, b16⟩, b17⟩, b18⟩, b19⟩ := b
  exact ⟨PySem.W.mg_none_of X G (bare1_ok b0), PySem.W.mg_none_of X G (bare1_ok b1), PySem.W.mg_none_of X G (bare1_ok b2), PySem.W.mg_none_of X G (bare1_ok b3), PySem.W.mg_none_of X G (bare1_ok b4), PySem.W.mg_none_of X G (bare1_ok b5), PySem.W.mg_none_of X G (bare1_ok b6), PySem.W.mg_none_of X G (bare1_ok b7), PySem.W.mg_none_of X G (bare1_ok b8), PySem.W.mg_none_of X G (bare1_ok b9), PySem.W.mg_none_of X G (bare1_ok b10), PySem.W.mg_none_of X G (bare1_ok b11), PySem.W.mg_none_of X G (bare1_ok b12), PySem.W.mg_none_of X G (bare1_ok b13), PySem.W.mg_none_of X G (bare1_ok b14), PySem.W.mg_none_of X G (bare1_ok b15), PySem.W.mg_none_of X G (bare1_ok b16), PySem.W.mg_none_of X G (bare1_ok b17), PySem.W.mg_none_of X G (bare1_ok b18), PySem.W.mg_none_of X G (bare1_ok b19), ⟨_, PySem.W.mg_of X G l0, ⟨_, rfl⟩⟩, ⟨_, PySem.W.mg_of X G l1, ⟨_, rfl⟩⟩, ⟨_, PySem.W.mg_of X G l2, ⟨_, rfl⟩⟩, ⟨_, PySem.W.mg_of X G l3, ⟨_, rfl⟩⟩⟩
theorem df_mk {x : Str} {st : Stmt} {ps : List Str} {f : Addr} {oc kV doc pm cdv ct : Value} {od an : Option Addr} {osl : Array (Option Value)} (X : K.In h) (G : h.Ns mainGlobals mg) (a : PySem.W.nsIn K mainGlobals x = some (some (.ref f)))
    (l : K.lookup f = some ⟨oc, od, .func (PySem.W.fnOf x x (defArgs st) (defBody st) (defScope st) .none kV doc pm an cdv ct), osl⟩) (c : PySem.W.codeIn K cdv x = true) (k : PySem.W.keepIn K (.ref f) = true)
    (b : ∀ (kV doc pm : Value) (an : Option Addr) (cdv ct : Value) (us : List Value), us.length = ps.length → bindArgs (PySem.W.fnOf x x (defArgs st) (defBody st) (defScope st) .none kV doc pm an cdv ct) ⟨us, []⟩ = pure (ps.zip us)) : Df K mg x st ps :=
  ⟨f, _, fun_mk l c k, PySem.W.mg_of X G a, (fun_mk l c k).binds b⟩
end
abbrev BindB (x : Str) (st : Stmt) (ps : List Str) : Prop := ∀ (kV doc pm : Value) (an : Option Addr) (cdv ct : Value) (us : List Value), us.length = ps.length → bindArgs (PySem.W.fnOf x x (defArgs st) (defBody st) (defScope st) .none kV doc pm an cdv ct) ⟨us, []⟩ = pure (ps.zip us)

theorem bd_accepted : BindB "accepted" s_accepted ["table", "request"] := fun _ _ _ _ _ _ us hl => match us, hl with | [_, _], _ => rfl
theorem bd_units_in : BindB "units_in" s_units_in ["stock", "kinds"] := fun _ _ _ _ _ _ us hl => match us, hl with | [_, _], _ => rfl
theorem bd_is_integer : BindB "is_integer" s_is_integer ["value"] := fun _ _ _ _ _ _ us hl => match us, hl with | [_], _ => rfl
theorem bd_is_number : BindB "is_number" s_is_number ["value"] := fun _ _ _ _ _ _ us hl => match us, hl with | [_], _ => rfl
theorem bd_is_name : BindB "is_name" s_is_name ["value"] := fun _ _ _ _ _ _ us hl => match us, hl with | [_], _ => rfl
theorem bd_are_numbers : BindB "are_numbers" s_are_numbers ["value"] := fun _ _ _ _ _ _ us hl => match us, hl with | [_], _ => rfl
theorem bd_is_ascending : BindB "is_ascending" s_is_ascending ["items"] := fun _ _ _ _ _ _ us hl => match us, hl with | [_], _ => rfl
theorem bd_is_listing : BindB "is_listing" s_is_listing ["value", "bound"] := fun _ _ _ _ _ _ us hl => match us, hl with | [_, _], _ => rfl
theorem bd_are_kinds : BindB "are_kinds" s_are_kinds ["value"] := fun _ _ _ _ _ _ us hl => match us, hl with | [_], _ => rfl
theorem bd_is_type : BindB "is_type" s_is_type ["kinds", "value", "last"] := fun _ _ _ _ _ _ us hl => match us, hl with | [_, _, _], _ => rfl
theorem bd_types_without : BindB "types_without" s_types_without ["table", "kind"] := fun _ _ _ _ _ _ us hl => match us, hl with | [_, _], _ => rfl
theorem bd_units_by_kind : BindB "units_by_kind" s_units_by_kind ["table", "taking"] := fun _ _ _ _ _ _ us hl => match us, hl with | [_, _], _ => rfl
theorem bd_taken_units : BindB "taken_units" s_taken_units ["taking"] := fun _ _ _ _ _ _ us hl => match us, hl with | [_], _ => rfl
theorem bd_kinds_of_types : BindB "kinds_of_types" s_kinds_of_types ["table", "types"] := fun _ _ _ _ _ _ us hl => match us, hl with | [_, _], _ => rfl
theorem bd_open_kinds : BindB "open_kinds" s_open_kinds ["table", "types", "left"] := fun _ _ _ _ _ _ us hl => match us, hl with | [_, _, _], _ => rfl
theorem bd_takers_among : BindB "takers_among" s_takers_among ["table", "types", "kinds"] := fun _ _ _ _ _ _ us hl => match us, hl with | [_, _, _], _ => rfl
theorem bd_types_within : BindB "types_within" s_types_within ["table", "kinds"] := fun _ _ _ _ _ _ us hl => match us, hl with | [_, _], _ => rfl
theorem bd_ways_from : BindB "ways_from" s_ways_from ["table", "types", "rows", "kinds"] := fun _ _ _ _ _ _ us hl => match us, hl with | [_, _, _, _], _ => rfl
theorem bd_has_room : BindB "has_room" s_has_room ["bounds", "rows", "request"] := fun _ _ _ _ _ _ us hl => match us, hl with | [_, _, _], _ => rfl
theorem bd_way_of : BindB "way_of" s_way_of ["to_kinds", "to_types", "end"] := fun _ _ _ _ _ _ us hl => match us, hl with | [_, _, _], _ => rfl
theorem bd_next_way : BindB "next_way" s_next_way ["table", "bounds", "types", "rows", "left"] := fun _ _ _ _ _ _ us hl => match us, hl with | [_, _, _, _, _], _ => rfl
theorem bd_way_width : BindB "way_width" s_way_width ["bounds", "rows", "left", "way"] := fun _ _ _ _ _ _ us hl => match us, hl with | [_, _, _, _], _ => rfl
theorem bd_turn_way : BindB "turn_way" s_turn_way ["rows", "left", "way", "many"] := fun _ _ _ _ _ _ us hl => match us, hl with | [_, _, _, _], _ => rfl
theorem bd_greatest_taking : BindB "greatest_taking" s_greatest_taking ["table", "stock", "bounds", "types"] := fun _ _ _ _ _ _ us hl => match us, hl with | [_, _, _, _], _ => rfl
theorem bd_gap_beside : BindB "gap_beside" s_gap_beside ["table", "stock", "types", "taking"] := fun _ _ _ _ _ _ us hl => match us, hl with | [_, _, _, _], _ => rfl
theorem bd_worst_gap : BindB "worst_gap" s_worst_gap ["table", "stock", "bounds", "types"] := fun _ _ _ _ _ _ us hl => match us, hl with | [_, _, _, _], _ => rfl
theorem bd_greatest_within : BindB "greatest_within" s_greatest_within ["table", "stock", "bounds", "types"] := fun _ _ _ _ _ _ us hl => match us, hl with | [_, _, _, _], _ => rfl
theorem bd_greatest_full : BindB "greatest_full" s_greatest_full ["table", "stock", "bounds", "kind"] := fun _ _ _ _ _ _ us hl => match us, hl with | [_, _, _, _], _ => rfl
theorem bd_lots_with : BindB "lots_with" s_lots_with ["many", "one", "other"] := fun _ _ _ _ _ _ us hl => match us, hl with | [_, _, _], _ => rfl
theorem bd_small_full_lots : BindB "small_full_lots" s_small_full_lots ["table", "stock", "bounds", "one", "other"] := fun _ _ _ _ _ _ us hl => match us, hl with | [_, _, _, _, _], _ => rfl
theorem bd_least_full_row : BindB "least_full_row" s_least_full_row ["table", "stock", "bounds", "types"] := fun _ _ _ _ _ _ us hl => match us, hl with | [_, _, _, _], _ => rfl
theorem bd_need_unit : BindB "need_unit" s_need_unit ["stock", "kind"] := fun _ _ _ _ _ _ us hl => match us, hl with | [_, _], _ => rfl
theorem bd_worse_kinds : BindB "worse_kinds" s_worse_kinds ["table", "stock", "bounds", "kind"] := fun _ _ _ _ _ _ us hl => match us, hl with | [_, _, _, _], _ => rfl
theorem bd_is_safe : BindB "is_safe" s_is_safe ["table", "stock", "bounds", "one", "other"] := fun _ _ _ _ _ _ us hl => match us, hl with | [_, _, _, _, _], _ => rfl
theorem bd_fewest_requests : BindB "fewest_requests" s_fewest_requests ["table", "stock", "bounds", "one", "other"] := fun _ _ _ _ _ _ us hl => match us, hl with | [_, _, _, _, _], _ => rfl
theorem bd_least_regret_row : BindB "least_regret_row" s_least_regret_row ["table", "stock", "bounds", "one", "other"] := fun _ _ _ _ _ _ us hl => match us, hl with | [_, _, _, _, _], _ => rfl
theorem bd__law_heap : BindB "_law_heap" s__law_heap ["_law_script"] := fun _ _ _ _ _ _ us hl => match us, hl with | [_], _ => rfl
theorem bd__law_draw : BindB "_law_draw" s__law_draw ["_law_heap_here", "_law_many"] := fun _ _ _ _ _ _ us hl => match us, hl with | [_, _], _ => rfl
theorem bd__law_pick : BindB "_law_pick" s__law_pick ["_law_heap_here", "_law_some"] := fun _ _ _ _ _ _ us hl => match us, hl with | [_, _], _ => rfl
theorem bd__law_lots : BindB "_law_lots" s__law_lots ["_law_heap_here", "_law_kinds_here", "_law_types"] := fun _ _ _ _ _ _ us hl => match us, hl with | [_, _, _], _ => rfl
theorem bd__law_made : BindB "_law_made" s__law_made ["_law_heap_here", "_law_kinds_here", "_law_lots_here"] := fun _ _ _ _ _ _ us hl => match us, hl with | [_, _, _], _ => rfl
theorem bd__law_bounds : BindB "_law_bounds" s__law_bounds ["_law_heap_here", "_law_types", "_law_most"] := fun _ _ _ _ _ _ us hl => match us, hl with | [_, _, _], _ => rfl
theorem bd__law_few : BindB "_law_few" s__law_few ["_law_heap_here", "_law_many", "_law_most"] := fun _ _ _ _ _ _ us hl => match us, hl with | [_, _, _], _ => rfl
theorem bd__law_parts : BindB "_law_parts" s__law_parts ["_law_some"] := fun _ _ _ _ _ _ us hl => match us, hl with | [_], _ => rfl
theorem bd__law_kinds : BindB "_law_kinds" s__law_kinds ["_law_lots_here", "_law_types"] := fun _ _ _ _ _ _ us hl => match us, hl with | [_, _], _ => rfl
theorem bd__law_lack : BindB "_law_lack" s__law_lack ["_law_lots_here", "_law_stock", "_law_bounds_here", "_law_types", "_law_kinds_here"] := fun _ _ _ _ _ _ us hl => match us, hl with | [_, _, _, _, _], _ => rfl
theorem bd__law_most_served : BindB "_law_most_served" s__law_most_served ["_law_lots_here", "_law_stock", "_law_counts"] := fun _ _ _ _ _ _ us hl => match us, hl with | [_, _, _], _ => rfl
theorem bd__law_less : BindB "_law_less" s__law_less ["_law_stock", "_law_kind"] := fun _ _ _ _ _ _ us hl => match us, hl with | [_, _], _ => rfl
theorem bd__law_rows : BindB "_law_rows" s__law_rows ["_law_bounds_here", "_law_most"] := fun _ _ _ _ _ _ us hl => match us, hl with | [_, _], _ => rfl
theorem bd__law_first : BindB "_law_first" s__law_first ["_law_lots_here", "_law_stock", "_law_rows_here", "_law_one", "_law_other"] := fun _ _ _ _ _ _ us hl => match us, hl with | [_, _, _, _, _], _ => rfl
theorem bd__law_case_right : BindB "_law_case_right" s__law_case_right ["_law_heap_here", "_law_kinds_here", "_law_many", "_law_units"] := fun _ _ _ _ _ _ us hl => match us, hl with | [_, _, _, _], _ => rfl
theorem bd__law_is_full : BindB "_law_is_full" s__law_is_full ["_law_lots_here", "_law_stock", "_law_bounds_here", "_law_types"] := fun _ _ _ _ _ _ us hl => match us, hl with | [_, _, _, _], _ => rfl
theorem bd__law_great_right : BindB "_law_great_right" s__law_great_right ["_law_heap_here", "_law_kinds_here", "_law_many", "_law_most"] := fun _ _ _ _ _ _ us hl => match us, hl with | [_, _, _, _], _ => rfl
theorem bd_law : BindB "law" s_law ["_law_script"] := fun _ _ _ _ _ _ us hl => match us, hl with | [_], _ => rfl
theorem bd__law_word : BindB "_law_word" s__law_word ["_law_action"] := fun _ _ _ _ _ _ us hl => match us, hl with | [_], _ => rfl
theorem bd__law_bare_right : BindB "_law_bare_right" s__law_bare_right ["_law_table", "_law_stock", "_law_bounds_here", "_law_one", "_law_other"] := fun _ _ _ _ _ _ us hl => match us, hl with | [_, _, _, _, _], _ => rfl
theorem joined {w : World} {K : Fg} {h : Heap} {mg : Str → Option Value} (X : K.In h) (G : h.Ns mainGlobals mg) {C Dc Sc CT f1 cc cda fT g f cC PT : Addr} (pT : h.get? PT = some (PySem.W.tabObj #[])) {oc oc1 oc2 ocT : Value} {od an od1 od2 an2 odT anT : Option Addr} {kV doc pm cdv ct doc1 pm1 ct1 kV2 doc2 pm2 ct2 kVT docT pmT cdT ctT : Value} {osl osl1 osl2 oslT : Array (Option Value)}
    {t0 t1 t2 t3 : Tok} {ccl ccl2 : Value} {cdd cld : Option Addr} {vs : Array Value} {ccs csl : Array (Option Value)} {file : Str} {tf : Tok}
    {nm q : Str} {N : Addr} {bs bm : List Value} {sn : List Str} {sub : List Value} {ab : Bool} {col : Option Bool} {dd : Option Addr} {k0 k1 k2 k3 k5 : Option Value}
    (bt : bareB K = true) (l0 : PySem.W.nsIn K mainGlobals "LETTERS" = some (some (.str "abcdefghijklmnopqrstuvwxyz" t0))) (l1 : PySem.W.nsIn K mainGlobals "LONGEST_NAME" = some (some (.int 8 t1)))
    (l2 : PySem.W.nsIn K mainGlobals "MOST_KINDS" = some (some (.int 8 t2))) (l3 : PySem.W.nsIn K mainGlobals "MOST_TYPES" = some (some (.int 12 t3))) (D : Dfs K mg)
    (aC : PySem.W.nsIn K mainGlobals "Refused" = some (some (.ref C))) (rI : PySem.W.findIn K (.ref C) "__init__" = some (some (.ref f1))) (rT : PySem.W.typeIn K (.ref f1) = some (.type "function"))
    (rL : K.lookup f1 = some ⟨oc1, od1, .func ((F_rinit cc cda).fd doc1 pm1 ct1), osl1⟩) (rC : PySem.W.codeIn K (.ref cda) "Refused.__init__" = true) (cL : K.lookup cda = some ⟨ccl, cdd, .fields vs, ccs⟩) (cV : vs[2]? = some (.str file tf)) (cF : ((PySem.Challenge.rw_neverregret_k45_whole_fewest_requests.prog.main.file : Str) == file) = true)
    (eL : K.lookup cc = some ⟨ccl2, cld, .cell (some (.ref C)), csl⟩) (xL : K.lookup C = some (excClassObj nm q C N bs bm true sn sub ab col dd k0 k1 k2 k3 k5 "ValueError.__new__")) (xR : PySem.HandSPX.refsVE bm = true)
    (xS : PySem.W.findIn K (.ref C) "__setattr__" = some (some (.builtin "object.__setattr__"))) (xE : PySem.W.subIn K (.ref C) (.type "BaseException") = some true) (xT : PySem.W.typeIn K (.ref C) = some (.type "type")) (xK : PySem.W.keepIn K (.ref C) = true)
    (nw : PySem.W.findIn K (.ref C) "word" = some none) (sb : PySem.W.mroIn K C (.ref C) = some true) (op : PySem.W.nsIn K cStatics "thirdparty.any" = some none) (al : PySem.W.ks_superIn K C C "__init__" = some (some (.builtin "ValueError.__init__"))) (vE : PySem.W.subIn K (.ref C) (.type "ValueError") = some true)
    (aT : PySem.W.nsIn K mainGlobals "Table" = some (some (.ref CT))) (tM : PySem.W.makesIn K CT = true) (tI : PySem.W.findIn K (.ref CT) "__init__" = some (some (.ref fT))) (tF : PySem.W.isFn K (.ref fT) = true) (tK : PySem.W.keepIn K (.ref CT) = true)
    (tL : K.lookup fT = some ⟨ocT, odT, .func (PySem.W.fnOf "__init__" "Table.__init__" (defArgs s_Table_init) (defBody s_Table_init) (defScope s_Table_init) .none kVT docT pmT anT cdT ctT), oslT⟩) (tC : PySem.W.codeIn K cdT "Table.__init__" = true) (tP : PySem.W.keepIn K (.ref fT) = true)
    (pg : PySem.W.plainGet K CT Str.empty = true) (hd : PySem.W.hasDictIn K CT = true) (po : PySem.W.plainOver K CT = true) (sa : PySem.W.findIn K (.ref CT) "__setattr__" = some (some (.builtin "object.__setattr__"))) (nk : PySem.W.findIn K (.ref CT) "kinds" = some none) (nt : PySem.W.findIn K (.ref CT) "types" = some none)
    (ga : PySem.W.findIn K (.ref C) "__getattribute__" = some (some (.builtin "BaseException.__getattribute__"))) (gg : PySem.W.findIn K (.ref C) "__getattr__" = some none) (xH : PySem.W.hasDictIn K C = true)
    (xc : PySem.W.findIn K (.ref C) "__class__" = some (some (.builtin "object.__class__"))) (xn : PySem.W.specialIn K (.builtin "object.__class__") "__get__" = some (some (.builtin "getset_descriptor.__get__"))) (xt : PySem.W.takesIn K (.builtin "object.__class__") = some true) (xm : PySem.W.mroIn K C (.type "object") = some true)
    (aD : PySem.W.nsIn K mainGlobals "DeskError" = some (some (.ref Dc))) (dE : PySem.W.subIn K (.ref Dc) (.type "BaseException") = some true) (dH : PySem.W.hasDictIn K Dc = true) (dT : PySem.W.typeIn K (.ref Dc) = some (.type "type")) (dS : PySem.W.subIn K (.ref C) (.ref Dc) = some true)
    (aS : PySem.W.nsIn K mainGlobals "InvalidStock" = some (some (.ref Sc))) (kR : PySem.W.kitOne K (.ref C) (.ref C) = some true) (kS : PySem.W.kitOne K (.ref C) (.ref Sc) = some false)
    (aW : PySem.W.nsIn K mainGlobals "_law_word" = some (some (.ref g))) (wK : PySem.W.keepIn K (.ref g) = true) (wL : K.lookup g = some ⟨oc, od, .func (PySem.W.fnOf "_law_word" "_law_word" (defArgs s__law_word) (defBody s__law_word) (defScope s__law_word) .none kV doc pm an cdv ct), osl⟩) (wC : PySem.W.codeIn K cdv "_law_word" = true)
    (aB : PySem.W.nsIn K mainGlobals "_law_bare_right" = some (some (.ref f))) (bK : PySem.W.keepIn K (.ref f) = true) (bL : K.lookup f = some ⟨oc2, od2, .func (PySem.W.fnOf "_law_bare_right" "_law_bare_right" (defArgs s__law_bare_right) (defBody s__law_bare_right) (defScope s__law_bare_right) .none kV2 doc2 pm2 an2 (.ref cC) ct2), osl2⟩) (bC : PySem.W.codeIn K (.ref cC) "_law_bare_right" = true)
    (cH : PySem.W.codeHdIn K cC PT = true) (nT : K.lookup PT = none) :
    ∃ cT PT : Addr, h.get? PT = some (PySem.W.tabObj #[]) ∧ K.lookup PT = none ∧ PySem.W.codeHdIn K cT PT = true ∧
      ∀ base : Heap, K.In base → base.Ns mainGlobals mg → LamX.TabB base mg cT PT → OkG PySem.Challenge.rw_neverregret_k45_whole_fewest_requests.prog w K mg base 17 "law" ["_law_script"] (sp_law K PT) := by
  refine ⟨cC, PT, pT, nT, cH, fun base _ _ TBs => ?_⟩
  have T := bt_mk X G bt l0 l1 l2 l3
  have RI : RefIs PySem.Challenge.rw_neverregret_k45_whole_fewest_requests.prog K mg C f1 cc cda ((F_rinit cc cda).fd doc1 pm1 ct1) := ⟨⟨_, _, _, _, _, _, rfl, rL⟩, rC, ⟨_, _, _, _, _, _, cL, cV, cF⟩, ⟨_, _, _, eL⟩, ⟨⟨_, _, _, _, _, _, _, _, _, _, _, _, _, _, _, xL, xR⟩, xS, xE, xT, xK⟩, nw, sb, T.b_super, op, al, vE, by decide +kernel⟩
  have FT := fun_mk (st := s_Table_init) tL tC tP
  have W : RfX K mg C Dc Sc := ⟨⟨ga, gg, xE, xH⟩, ⟨ga, gg, xE, xH, xc, xn, xt, xm⟩, nw, PySem.W.mg_of X G aD, PySem.W.exm_ref dE dH dT dS, PySem.W.mg_of X G aC, kR, PySem.W.mg_of X G aS, kS⟩
  have WD : WdD K mg g oc od an kV doc pm cdv ct osl := ⟨PySem.W.mg_of X G aW, wK, wL, wC, .all (bd__law_word kV doc pm an cdv ct)⟩
  have BD : BrD K mg base f cC PT oc2 od2 an2 kV2 doc2 pm2 ct2 osl2 := ⟨PySem.W.mg_of X G aB, bK, bL, bC, .all (bd__law_bare_right kV2 doc2 pm2 an2 (.ref cC) ct2), TBs⟩
  exact chain T D RI rI rT (.all fun us hl => match us, hl with | [_, _], _ => rfl) (PySem.W.mg_of X G aC) ⟨tM, tI, tF, tK⟩ FT (PySem.W.mg_of X G aT) (FT.binds fun _ _ _ _ _ _ us hl => match us, hl with | [_, _, _], _ => rfl) ⟨⟨pg, hd, po, sa⟩, nk, nt⟩ W WD BD
end K45
open PySem PySem.W PyProof.Rows in
set_option maxRecDepth 100000 in
set_option maxHeartbeats 0 in
theorem PySem.Challenge.cw_neverregret_k45_whole_fewest_requests_holds : PySem.Challenge.rw_neverregret_k45_whole_fewest_requests.Holds := by
  w_on; o_law; k_head; (case hw => w_witness2)
  k_fill
  refine K45.law_end (l := PySem.Challenge.rw_neverregret_k45_whole_fewest_requests) rfl rfl rfl (fun w h Y => PySem.W.km_in_of Y) ?F
  case F =>
    intro w mg h Y KX G
    refine' K45.joined KX G (PySem.W.km_tabs_of Y _ List.mem_cons_self) ?bt ?l0 ?l1 ?l2 ?l3 (K45.Dfs.mk ?d_accepted ?d_units_in ?d_is_integer ?d_is_number ?d_is_name ?d_are_numbers ?d_is_ascending ?d_is_listing ?d_are_kinds ?d_is_type ?d_types_without ?d_units_by_kind ?d_taken_units ?d_kinds_of_types ?d_open_kinds ?d_takers_among ?d_types_within ?d_ways_from ?d_has_room ?d_way_of ?d_next_way ?d_way_width ?d_turn_way ?d_greatest_taking ?d_gap_beside ?d_worst_gap ?d_greatest_within ?d_greatest_full ?d_lots_with ?d_small_full_lots ?d_least_full_row ?d_need_unit ?d_worse_kinds ?d_is_safe ?d_fewest_requests ?d_least_regret_row ?d__law_heap ?d__law_draw ?d__law_pick ?d__law_lots ?d__law_made ?d__law_bounds ?d__law_few ?d__law_parts ?d__law_kinds ?d__law_lack ?d__law_most_served ?d__law_less ?d__law_rows ?d__law_first ?d__law_case_right ?d__law_is_full ?d__law_great_right ?d_law) ?aC ?rI ?rT ?rL ?rC ?cL ?cV ?cF ?eL ?xL ?xR ?xS ?xE ?xT ?xK ?nw ?sb ?op ?al ?vE ?aT ?tM ?tI ?tF ?tK ?tL ?tC ?tP ?pg ?hd ?po ?sa ?nk ?nt ?ga ?gg ?xH ?xc ?xn ?xt ?xm ?aD ?dE ?dH ?dT ?dS ?aS ?kR ?kS ?aW ?wK ?wL ?wC ?aB ?bK ?bL ?bC ?cH ?nT
    (case bt => kernel_rfl)
    (case l0 => k_is)
    (case l1 => k_is)
    (case l2 => k_is)
    (case l3 => k_is)
    case d_accepted =>
      refine' K45.df_mk KX G ?a ?l ?c ?k K45.bd_accepted
      (case a => k_is); (case l => k_is); (case c => k_is); (case k => k_is)
    case d_units_in =>
      refine' K45.df_mk KX G ?a ?l ?c ?k K45.bd_units_in
      (case a => k_is); (case l => k_is); (case c => k_is); (case k => k_is)
    case d_is_integer =>
      refine' K45.df_mk KX G ?a ?l ?c ?k K45.bd_is_integer
      (case a => k_is); (case l => k_is); (case c => k_is); (case k => k_is)
    case d_is_number =>
      refine' K45.df_mk KX G ?a ?l ?c ?k K45.bd_is_number
      (case a => k_is); (case l => k_is); (case c => k_is); (case k => k_is)
    case d_is_name =>
      refine' K45.df_mk KX G ?a ?l ?c ?k K45.bd_is_name
      (case a => k_is); (case l => k_is); (case c => k_is); (case k => k_is)
    case d_are_numbers =>
      refine' K45.df_mk KX G ?a ?l ?c ?k K45.bd_are_numbers
      (case a => k_is); (case l => k_is); (case c => k_is); (case k => k_is)
    case d_is_ascending =>
      refine' K45.df_mk KX G ?a ?l ?c ?k K45.bd_is_ascending
      (case a => k_is); (case l => k_is); (case c => k_is); (case k => k_is)
    case d_is_listing =>
      refine' K45.df_mk KX G ?a ?l ?c ?k K45.bd_is_listing
      (case a => k_is); (case l => k_is); (case c => k_is); (case k => k_is)
    case d_are_kinds =>
      refine' K45.df_mk KX G ?a ?l ?c ?k K45.bd_are_kinds
      (case a => k_is); (case l => k_is); (case c => k_is); (case k => k_is)
    case d_is_type =>
      refine' K45.df_mk KX G ?a ?l ?c ?k K45.bd_is_type
      (case a => k_is); (case l => k_is); (case c => k_is); (case k => k_is)
    case d_types_without =>
      refine' K45.df_mk KX G ?a ?l ?c ?k K45.bd_types_without
      (case a => k_is); (case l => k_is); (case c => k_is); (case k => k_is)
    case d_units_by_kind =>
      refine' K45.df_mk KX G ?a ?l ?c ?k K45.bd_units_by_kind
      (case a => k_is); (case l => k_is); (case c => k_is); (case k => k_is)
    case d_taken_units =>
      refine' K45.df_mk KX G ?a ?l ?c ?k K45.bd_taken_units
      (case a => k_is); (case l => k_is); (case c => k_is); (case k => k_is)
    case d_kinds_of_types =>
      refine' K45.df_mk KX G ?a ?l ?c ?k K45.bd_kinds_of_types
      (case a => k_is); (case l => k_is); (case c => k_is); (case k => k_is)
    case d_open_kinds =>
      refine' K45.df_mk KX G ?a ?l ?c ?k K45.bd_open_kinds
      (case a => k_is); (case l => k_is); (case c => k_is); (case k => k_is)
    case d_takers_among =>
      refine' K45.df_mk KX G ?a ?l ?c ?k K45.bd_takers_among
      (case a => k_is); (case l => k_is); (case c => k_is); (case k => k_is)
    case d_types_within =>
      refine' K45.df_mk KX G ?a ?l ?c ?k K45.bd_types_within
      (case a => k_is); (case l => k_is); (case c => k_is); (case k => k_is)
    case d_ways_from =>
      refine' K45.df_mk KX G ?a ?l ?c ?k K45.bd_ways_from
      (case a => k_is); (case l => k_is); (case c => k_is); (case k => k_is)
    case d_has_room =>
      refine' K45.df_mk KX G ?a ?l ?c ?k K45.bd_has_room
      (case a => k_is); (case l => k_is); (case c => k_is); (case k => k_is)
    case d_way_of =>
      refine' K45.df_mk KX G ?a ?l ?c ?k K45.bd_way_of
      (case a => k_is); (case l => k_is); (case c => k_is); (case k => k_is)
    case d_next_way =>
      refine' K45.df_mk KX G ?a ?l ?c ?k K45.bd_next_way
      (case a => k_is); (case l => k_is); (case c => k_is); (case k => k_is)
    case d_way_width =>
      refine' K45.df_mk KX G ?a ?l ?c ?k K45.bd_way_width
      (case a => k_is); (case l => k_is); (case c => k_is); (case k => k_is)
    case d_turn_way =>
      refine' K45.df_mk KX G ?a ?l ?c ?k K45.bd_turn_way
      (case a => k_is); (case l => k_is); (case c => k_is); (case k => k_is)
    case d_greatest_taking =>
      refine' K45.df_mk KX G ?a ?l ?c ?k K45.bd_greatest_taking
      (case a => k_is); (case l => k_is); (case c => k_is); (case k => k_is)
    case d_gap_beside =>
      refine' K45.df_mk KX G ?a ?l ?c ?k K45.bd_gap_beside
      (case a => k_is); (case l => k_is); (case c => k_is); (case k => k_is)
    case d_worst_gap =>
      refine' K45.df_mk KX G ?a ?l ?c ?k K45.bd_worst_gap
      (case a => k_is); (case l => k_is); (case c => k_is); (case k => k_is)
    case d_greatest_within =>
      refine' K45.df_mk KX G ?a ?l ?c ?k K45.bd_greatest_within
      (case a => k_is); (case l => k_is); (case c => k_is); (case k => k_is)
    case d_greatest_full =>
      refine' K45.df_mk KX G ?a ?l ?c ?k K45.bd_greatest_full
      (case a => k_is); (case l => k_is); (case c => k_is); (case k => k_is)
    case d_lots_with =>
      refine' K45.df_mk KX G ?a ?l ?c ?k K45.bd_lots_with
      (case a => k_is); (case l => k_is); (case c => k_is); (case k => k_is)
    case d_small_full_lots =>
      refine' K45.df_mk KX G ?a ?l ?c ?k K45.bd_small_full_lots
      (case a => k_is); (case l => k_is); (case c => k_is); (case k => k_is)
    case d_least_full_row =>
      refine' K45.df_mk KX G ?a ?l ?c ?k K45.bd_least_full_row
      (case a => k_is); (case l => k_is); (case c => k_is); (case k => k_is)
    case d_need_unit =>
      refine' K45.df_mk KX G ?a ?l ?c ?k K45.bd_need_unit
      (case a => k_is); (case l => k_is); (case c => k_is); (case k => k_is)
    case d_worse_kinds =>
      refine' K45.df_mk KX G ?a ?l ?c ?k K45.bd_worse_kinds
      (case a => k_is); (case l => k_is); (case c => k_is); (case k => k_is)
    case d_is_safe =>
      refine' K45.df_mk KX G ?a ?l ?c ?k K45.bd_is_safe
      (case a => k_is); (case l => k_is); (case c => k_is); (case k => k_is)
    case d_fewest_requests =>
      refine' K45.df_mk KX G ?a ?l ?c ?k K45.bd_fewest_requests
      (case a => k_is); (case l => k_is); (case c => k_is); (case k => k_is)
    case d_least_regret_row =>
      refine' K45.df_mk KX G ?a ?l ?c ?k K45.bd_least_regret_row
      (case a => k_is); (case l => k_is); (case c => k_is); (case k => k_is)
    case d__law_heap =>
      refine' K45.df_mk KX G ?a ?l ?c ?k K45.bd__law_heap
      (case a => k_is); (case l => k_is); (case c => k_is); (case k => k_is)
    case d__law_draw =>
      refine' K45.df_mk KX G ?a ?l ?c ?k K45.bd__law_draw
      (case a => k_is); (case l => k_is); (case c => k_is); (case k => k_is)
    case d__law_pick =>
      refine' K45.df_mk KX G ?a ?l ?c ?k K45.bd__law_pick
      (case a => k_is); (case l => k_is); (case c => k_is); (case k => k_is)
    case d__law_lots =>
      refine' K45.df_mk KX G ?a ?l ?c ?k K45.bd__law_lots
      (case a => k_is); (case l => k_is); (case c => k_is); (case k => k_is)
    case d__law_made =>
      refine' K45.df_mk KX G ?a ?l ?c ?k K45.bd__law_made
      (case a => k_is); (case l => k_is); (case c => k_is); (case k => k_is)
    case d__law_bounds =>
      refine' K45.df_mk KX G ?a ?l ?c ?k K45.bd__law_bounds
      (case a => k_is); (case l => k_is); (case c => k_is); (case k => k_is)
    case d__law_few =>
      refine' K45.df_mk KX G ?a ?l ?c ?k K45.bd__law_few
      (case a => k_is); (case l => k_is); (case c => k_is); (case k => k_is)
    case d__law_parts =>
      refine' K45.df_mk KX G ?a ?l ?c ?k K45.bd__law_parts
      (case a => k_is); (case l => k_is); (case c => k_is); (case k => k_is)
    case d__law_kinds =>
      refine' K45.df_mk KX G ?a ?l ?c ?k K45.bd__law_kinds
      (case a => k_is); (case l => k_is); (case c => k_is); (case k => k_is)
    case d__law_lack =>
      refine' K45.df_mk KX G ?a ?l ?c ?k K45.bd__law_lack
      (case a => k_is); (case l => k_is); (case c => k_is); (case k => k_is)
    case d__law_most_served =>
      refine' K45.df_mk KX G ?a ?l ?c ?k K45.bd__law_most_served
      (case a => k_is); (case l => k_is); (case c => k_is); (case k => k_is)
    case d__law_less =>
      refine' K45.df_mk KX G ?a ?l ?c ?k K45.bd__law_less
      (case a => k_is); (case l => k_is); (case c => k_is); (case k => k_is)
    case d__law_rows =>
      refine' K45.df_mk KX G ?a ?l ?c ?k K45.bd__law_rows
      (case a => k_is); (case l => k_is); (case c => k_is); (case k => k_is)
    case d__law_first =>
      refine' K45.df_mk KX G ?a ?l ?c ?k K45.bd__law_first
      (case a => k_is); (case l => k_is); (case c => k_is); (case k => k_is)
    case d__law_case_right =>
      refine' K45.df_mk KX G ?a ?l ?c ?k K45.bd__law_case_right
      (case a => k_is); (case l => k_is); (case c => k_is); (case k => k_is)
    case d__law_is_full =>
      refine' K45.df_mk KX G ?a ?l ?c ?k K45.bd__law_is_full
      (case a => k_is); (case l => k_is); (case c => k_is); (case k => k_is)
    case d__law_great_right =>
      refine' K45.df_mk KX G ?a ?l ?c ?k K45.bd__law_great_right
      (case a => k_is); (case l => k_is); (case c => k_is); (case k => k_is)
    case d_law =>
      refine' K45.df_mk KX G ?a ?l ?c ?k K45.bd_law
      (case a => k_is); (case l => k_is); (case c => k_is); (case k => k_is)
    (case aC => k_is)
    (case rI => k_is)
    (case rT => k_is)
    (case rL => k_is)
    (case rC => k_is)
    (case cL => k_is)
    (case cV => rfl)
    (case cF => decide +kernel)
    (case eL => k_is)
    (case xL => k_is)
    (case xR => rfl)
    (case xS => k_is)
    (case xE => k_is)
    (case xT => k_is)
    (case xK => k_is)
    (case nw => k_is)
    (case sb => k_is)
    (case op => k_is)
    (case al => kernel_rfl)
    (case vE => k_is)
    (case aT => k_is)
    (case tM => k_is)
    (case tI => k_is)
    (case tF => k_is)
    (case tK => k_is)
    (case tL => k_is)
    (case tC => k_is)
    (case tP => k_is)
    (case pg => k_is)
    (case hd => k_is)
    (case po => k_is)
    (case sa => k_is)
    (case nk => k_is)
    (case nt => k_is)
    (case ga => k_is)
    (case gg => k_is)
    (case xH => k_is)
    (case xc => k_is)
    (case xn => k_is)
    (case xt => k_is)
    (case xm => k_is)
    (case aD => k_is)
    (case dE => k_is)
    (case dH => k_is)
    (case dT => k_is)
    (case dS => k_is)
    (case aS => k_is)
    (case kR => kernel_rfl)
    (case kS => kernel_rfl)
    (case aW => k_is)
    (case wK => k_is)
    (case wL => k_is)
    (case wC => k_is)
    (case aB => k_is)
    (case bK => k_is)
    (case bL => k_is)
    (case bC => k_is)
    (case cH => kernel_rfl)
    (case nT => kernel_rfl)
