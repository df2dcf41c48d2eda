import PyProof.Rows.All
import Wide.All
import OpenK.AllK
import Wide.FinOn
import PySem.Challenge.RW_bestsets_k39_whole_divided_sets
import HandS.ForMost
import HandS.GenList
import HandS.AnyAll
import HandS.Zip
import HandS.Walk
import HandS.Zip0
import KE.KSuper
import HandS.SetBool
import HandS.Strs
import HandS.SortInts
import HandS.Conv
import HandS.NoneIn
import HandS.Style
import HandS.Flow
import HandS.Head0
import HandS.Head1
import HandS.Head2
import HandS.HeadEnd
import HandS.HeadHook1
import HandS.HeadHook2
import HandS.HeadHook3
import HandS.HeadHook4
import HandS.HeadWalk
import HandS.Rev
import PyProof.ListRange
import HandS.TupSets
import HandS.TryOnly
set_option Elab.async false
set_option linter.all false
set_option maxHeartbeats 1000000
set_option linter.all false
/-! Finite sets of numbers below N as functions, and matroids by their free sets. -/
namespace Bst
abbrev S := Nat → Bool
def ins (A : S) (x : Nat) : S := fun y => y == x || A y
def del (A : S) (x : Nat) : S := fun y => !(y == x) && A y
def Sub (A B : S) : Prop := ∀ x, A x = true → B x = true
def cnt : Nat → S → Nat
  | 0, _ => 0
  | n + 1, A => cnt n A + (if A n = true then 1 else 0)

theorem ins_self (A : S) (x : Nat) : ins A x x = true := by simp [ins]
theorem ins_of {A : S} {x y : Nat} (h : A y = true) : ins A x y = true := by simp [ins, h]
theorem ins_ne {A : S} {x y : Nat} (h : y ≠ x) : ins A x y = A y := by simp [ins, h]
theorem del_self (A : S) (x : Nat) : del A x x = false := by simp [del]
theorem del_ne {A : S} {x y : Nat} (h : y ≠ x) : del A x y = A y := by simp [del, h]
theorem of_ins {A : S} {x y : Nat} (h : ins A x y = true) : y = x ∨ A y = true := by
  simpa [ins] using h
theorem of_del {A : S} {x y : Nat} (h : del A x y = true) : y ≠ x ∧ A y = true := by
  simpa [del] using h

theorem cnt_congr {A B : S} : ∀ {N : Nat}, (∀ x, x < N → A x = B x) → cnt N A = cnt N B
  | 0, _ => rfl
  | n + 1, h => by
    unfold cnt
    rw [cnt_congr (N := n) fun x hx => h x (by omega), h n (by omega)]
theorem cnt_mono {A B : S} : ∀ {N : Nat}, (∀ x, x < N → A x = true → B x = true) → cnt N A ≤ cnt N B
  | 0, _ => Nat.le_refl _
  | n + 1, h => by
    unfold cnt
    have h1 := cnt_mono (N := n) fun x hx => h x (by omega)
    have h2 := h n (by omega)
    split
    · rename_i e
      rw [if_pos (h2 e)]; omega
    · omega
theorem cnt_le : ∀ (N : Nat) (A : S), cnt N A ≤ N
  | 0, _ => Nat.le_refl _
  | n + 1, A => by
    unfold cnt
    have := cnt_le n A
    split <;> omega
/-- one more than all of A at x -/
theorem cnt_one {A B : S} {x : Nat} : ∀ {N : Nat}, x < N → A x = false → B x = true → (∀ y, y < N → y ≠ x → B y = A y) → cnt N B = cnt N A + 1
  | 0, h, _, _, _ => by omega
  | n + 1, h, ha, hb, hy => by
    unfold cnt
    by_cases e : x = n
    · subst e
      rw [cnt_congr (N := x) (A := B) (B := A) fun y hyx => hy y (by omega) (by omega), ha, hb]
      simp
    · rw [cnt_one (A := A) (B := B) (N := n) (by omega) ha hb fun y h1 h2 => hy y (by omega) h2, hy n (by omega) (fun q => e q.symm)]
      omega
theorem cnt_ins {A : S} {x N : Nat} (hx : x < N) (ha : A x = false) : cnt N (ins A x) = cnt N A + 1 :=
  cnt_one hx ha (ins_self A x) fun y _ h => ins_ne h
theorem cnt_del {A : S} {x N : Nat} (hx : x < N) (ha : A x = true) : cnt N (del A x) + 1 = cnt N A :=
  (cnt_one (A := del A x) (B := A) hx (del_self A x) ha fun y _ h => (del_ne h).symm).symm
theorem cnt_swap {A : S} {x y N : Nat} (hx : x < N) (hy : y < N) (ha : A y = true) (hb : A x = false) : cnt N (ins (del A y) x) = cnt N A := by
  have hxy : x ≠ y := fun e => by rw [e, ha] at hb; cases hb
  rw [cnt_ins hx (by rw [del_ne hxy]; exact hb), cnt_del hy ha]
theorem cnt_lt_ex {A B : S} : ∀ {N : Nat}, cnt N A < cnt N B → ∃ x, x < N ∧ B x = true ∧ A x = false
  | N, h => by
    cases Classical.em (∃ x, x < N ∧ B x = true ∧ A x = false) with
    | inl e => exact e
    | inr e =>
      have : cnt N B ≤ cnt N A := cnt_mono fun x hx hb => by
        cases ha : A x with
        | true => rfl
        | false => exact absurd ⟨x, hx, hb, ha⟩ e
      omega
theorem cnt_pos_ex {A : S} {N : Nat} (h : 0 < cnt N A) : ∃ x, x < N ∧ A x = true := by
  have z : ∀ N, cnt N (fun _ => false) = 0 := fun N => by
    induction N with
    | zero => rfl
    | succ n ih => unfold cnt; rw [ih]; rfl
  obtain ⟨x, h1, h2, _⟩ := cnt_lt_ex (A := fun _ => false) (B := A) (N := N) (by rw [z]; exact h)
  exact ⟨x, h1, h2⟩
theorem cnt_zero : ∀ N, cnt N (fun _ => false) = 0 := fun N => by
  induction N with
  | zero => rfl
  | succ n ih => unfold cnt; rw [ih]; rfl
/-- as many elements and contained: the same -/
theorem cnt_eq_sub {A B : S} {N : Nat} (h : ∀ x, x < N → A x = true → B x = true) (hc : cnt N B ≤ cnt N A) : ∀ x, x < N → A x = B x := by
  intro x hx
  cases ha : A x with
  | true => exact (h x hx ha).symm
  | false =>
    cases hb : B x with
    | false => rfl
    | true =>
      have h1 : cnt N (ins A x) ≤ cnt N B := cnt_mono fun y hy q => by
        rcases of_ins q with e | q
        · rw [e]; exact hb
        · exact h y hy q
      rw [cnt_ins hx ha] at h1
      omega
theorem cnt_split (A B : S) : ∀ N, cnt N A = cnt N (fun x => A x && B x) + cnt N (fun x => A x && !B x)
  | 0 => rfl
  | n + 1 => by
    unfold cnt
    rw [cnt_split A B n]
    cases hA : A n <;> cases hB : B n <;> simp only [hA, hB, Bool.and_true, Bool.and_false, Bool.not_true, Bool.not_false, Bool.true_and, Bool.false_and, if_true, Bool.false_eq_true, if_false] <;> omega

/-! ### matroids -/
structure Mat (N : Nat) (I : S → Prop) : Prop where
  emp : I fun _ => false
  sup : ∀ A x, I A → A x = true → x < N
  sub : ∀ A B, Sub A B → I B → I A
  aug : ∀ A B, I A → I B → cnt N A < cnt N B → ∃ x, x < N ∧ B x = true ∧ A x = false ∧ I (ins A x)
section
variable {N : Nat} {I : S → Prop}
/-- a free set grows inside a larger free set -/
theorem Mat.extend (M : Mat N I) {A C : S} (ha : I A) (hc : I C) (h : cnt N A ≤ cnt N C) :
    ∃ D, I D ∧ Sub A D ∧ (∀ x, D x = true → A x = true ∨ C x = true) ∧ cnt N D = cnt N C := by
  generalize hk : cnt N C - cnt N A = k
  induction k generalizing A with
  | zero => exact ⟨A, ha, fun _ q => q, fun _ q => .inl q, by omega⟩
  | succ k ih =>
    obtain ⟨x, hx, h1, h2, h3⟩ := M.aug A C ha hc (by omega)
    have e := cnt_ins hx h2
    obtain ⟨D, d1, d2, d3, d4⟩ := ih h3 (by omega) (by omega)
    exact ⟨D, d1, fun y q => d2 y (ins_of q), fun y q => (d3 y q).elim (fun z => (of_ins z).elim (fun w => .inr (by rw [w]; exact h1)) .inl) .inr, d4⟩

/-- a row of exchanges, the last pair first: pairs (out, in) -/
structure Rw (N : Nat) (I : S → Prop) (A : S) (x0 : Nat) (l : List (Nat × Nat)) : Prop where
  base : I A
  x0n : x0 < N
  x0a : A x0 = false
  free0 : I (ins A x0)
  out : ∀ p ∈ l, A p.1 = true ∧ p.1 < N
  put : ∀ p ∈ l, A p.2 = false ∧ p.2 < N ∧ p.2 ≠ x0
  swap : ∀ p ∈ l, I (ins (del A p.1) p.2)
  tight : ∀ p ∈ l, ¬ I (ins A p.2)
  chord : l.Pairwise fun a b => ¬ I (ins (del A b.1) a.2) ∧ a.1 ≠ b.1 ∧ a.2 ≠ b.2
def runRow (A : S) (l : List (Nat × Nat)) : S := l.foldl (fun B p => ins (del B p.1) p.2) A
theorem Mat.row (M : Mat N I) : ∀ (l : List (Nat × Nat)) (A : S) (x0 : Nat), Rw N I A x0 l → I (ins (runRow A l) x0)
  | [], A, x0, h => h.free0
  | (y, x) :: r, A, x0, h => by
    have hy := h.out (y, x) List.mem_cons_self
    have hx := h.put (y, x) List.mem_cons_self
    have hs := h.swap (y, x) List.mem_cons_self
    have ht := h.tight (y, x) List.mem_cons_self
    obtain ⟨hya, hyn⟩ := hy
    obtain ⟨hxa, hxn, hx0⟩ := hx
    have ch := List.pairwise_cons.mp h.chord
    have cA : cnt N (ins (del A y) x) = cnt N A := cnt_swap hxn hyn hya hxa
    have xy : x ≠ y := fun e => by
      have q1 : A x = false := hxa
      have q2 : A y = true := hya
      rw [e, q2] at q1; cases q1
    have key : ∀ p ∈ r, A p.1 = true ∧ p.1 < N ∧ A p.2 = false ∧ p.2 < N ∧ p.2 ≠ x0 ∧ p.1 ≠ y ∧ p.2 ≠ x ∧ ¬ I (ins (del A p.1) x) := fun p hp => by
      obtain ⟨a1, a2⟩ := h.out p (List.mem_cons_of_mem _ hp)
      obtain ⟨b1, b2, b3⟩ := h.put p (List.mem_cons_of_mem _ hp)
      obtain ⟨c1, c2, c3⟩ := ch.1 p hp
      exact ⟨a1, a2, b1, b2, b3, fun e => c2 e.symm, fun e => c3 e.symm, c1⟩
    have A'p : ∀ q, q ≠ y → q ≠ x → ins (del A y) x q = A q := fun q h1 h2 => by rw [ins_ne h2, del_ne h1]
    have xT : ∀ q, A q = true → q ≠ x := fun q hq e => by
      have q1 : A x = false := hxa
      rw [e, q1] at hq; cases hq
    have yF : ∀ q, A q = false → q ≠ y := fun q hq e => by
      have q1 : A y = true := hya
      rw [e, q1] at hq; cases hq
    refine M.row r (ins (del A y) x) x0 ⟨hs, h.x0n, ?_, ?_, fun p hp => ?_, fun p hp => ?_, fun p hp => ?_, fun p hp => ?_, ?_⟩
    · rw [A'p x0 (yF x0 h.x0a) (fun e => hx0 e.symm)]; exact h.x0a
    · -- A' + x0
      obtain ⟨d, dn, d1, d2, d3⟩ := M.aug (ins (del A y) x) (ins A x0) hs h.free0 (by rw [cA, cnt_ins h.x0n h.x0a]; omega)
      rcases of_ins d1 with e | d1
      · rw [← e]; exact d3
      · have dx : d ≠ x := xT d d1
        rw [ins_ne dx] at d2
        have dy : d = y := by
          apply Classical.byContradiction
          intro q
          rw [del_ne q, d1] at d2; cases d2
        rw [dy] at d3
        refine absurd (M.sub _ _ (fun w q => ?_) d3) ht
        rcases of_ins q with e | q
        · rw [show w = x from e]; exact ins_of (ins_self _ _)
        · by_cases e : w = y
          · rw [e]; exact ins_self _ _
          · exact ins_of (ins_of (by rw [del_ne e]; exact q))
    · obtain ⟨a1, a2, b1, b2, b3, c2, c3, c1⟩ := key p hp
      exact ⟨by rw [A'p p.1 c2 (xT _ a1)]; exact a1, a2⟩
    · obtain ⟨a1, a2, b1, b2, b3, c2, c3, c1⟩ := key p hp
      exact ⟨by rw [A'p p.2 (yF _ b1) c3]; exact b1, b2, b3⟩
    · -- A' - y' + x'
      obtain ⟨a1, a2, b1, b2, b3, c2, c3, c1⟩ := key p hp
      have hI : I (ins (del A p.1) p.2) := h.swap p (List.mem_cons_of_mem _ hp)
      have cI : cnt N (ins (del A p.1) p.2) = cnt N A := cnt_swap b2 a2 a1 b1
      have a1' : ins (del A y) x p.1 = true := by rw [A'p p.1 c2 (xT _ a1)]; exact a1
      have cD : cnt N (del (ins (del A y) x) p.1) + 1 = cnt N A := by rw [cnt_del a2 a1', cA]
      obtain ⟨d, dn, d1, d2, d3⟩ := M.aug (del (ins (del A y) x) p.1) (ins (del A p.1) p.2) (M.sub _ _ (fun w q => (of_del q).2) hs) hI (by omega)
      rcases of_ins d1 with e | d1
      · rw [← e]; exact d3
      · obtain ⟨d4, d5⟩ := of_del d1
        rw [del_ne d4] at d2
        have dx : d ≠ x := xT d d5
        rw [ins_ne dx] at d2
        have dy : d = y := by
          apply Classical.byContradiction
          intro q
          rw [del_ne q, d5] at d2; cases d2
        rw [dy] at d3
        refine absurd (M.sub _ _ (fun w q => ?_) d3) c1
        rcases of_ins q with e | q
        · rw [e]
          refine ins_of ?_
          rw [del_ne (fun e => xT _ a1 e.symm)]
          exact ins_self _ _
        · obtain ⟨w1, w2⟩ := of_del q
          by_cases e : w = y
          · rw [e]; exact ins_self _ _
          · refine ins_of ?_
            rw [del_ne w1]
            exact ins_of (by rw [del_ne e]; exact w2)
    · -- A' + x' is not free
      obtain ⟨a1, a2, b1, b2, b3, c2, c3, c1⟩ := key p hp
      intro hI
      have x'A : ins (del A y) x p.2 = false := by rw [A'p p.2 (yF _ b1) c3]; exact b1
      obtain ⟨d, dn, d1, d2, d3⟩ := M.aug A (ins (ins (del A y) x) p.2) h.base hI (by rw [cnt_ins b2 x'A, cA]; omega)
      rcases of_ins d1 with e | d1
      · rw [e] at d3; exact h.tight p (List.mem_cons_of_mem _ hp) d3
      · rcases of_ins d1 with e | d1
        · rw [e] at d3; exact ht d3
        · rw [(of_del d1).2] at d2; cases d2
    · refine ch.2.imp_of_mem fun {a b} ha hb hab => ?_
      obtain ⟨h1, h2, h3⟩ := hab
      refine ⟨fun hI => ?_, h2, h3⟩
      obtain ⟨a1, a2, b1, b2, b3, c2, c3, c1⟩ := key b hb
      obtain ⟨a1', a2', b1', b2', b3', c2', c3', c1'⟩ := key a ha
      have nb : ins (del A y) x b.1 = true := by rw [A'p b.1 c2 (xT _ a1)]; exact a1
      have na : ins (del A y) x a.2 = false := by rw [A'p a.2 (yF _ b1') c3']; exact b1'
      have cI : cnt N (ins (del (ins (del A y) x) b.1) a.2) = cnt N A := by rw [cnt_swap b2' a2 nb na, cA]
      have cD : cnt N (del A b.1) + 1 = cnt N A := cnt_del a2 a1
      obtain ⟨d, dn, d1, d2, d3⟩ := M.aug (del A b.1) (ins (del (ins (del A y) x) b.1) a.2) (M.sub _ _ (fun w q => (of_del q).2) h.base) hI (by omega)
      rcases of_ins d1 with e | d1
      · rw [e] at d3; exact h1 d3
      · obtain ⟨d4, d5⟩ := of_del d1
        rcases of_ins d5 with e | d5
        · rw [e] at d3; exact c1 d3
        · rw [del_ne d4, (of_del d5).2] at d2; cases d2

/-- behind the last row: S without B spans what is outside B -/
theorem Mat.span (M : Mat N I) {A B : S} {x : Nat} (ha : I A) (hx : x < N) (hxa : A x = false) (h1 : ¬ I (ins A x)) (h2 : ∀ y, y < N → A y = true → B y = true → ¬ I (ins (del A y) x)) :
    ¬ I (ins (fun e => A e && !B e) x) := by
  intro hI
  have hT : ∀ y, (A y && !B y) = true → A y = true := fun y q => (Bool.and_eq_true_iff.mp q).1
  have hxT : (fun e => A e && !B e) x = false := by simp [hxa]
  by_cases hc : cnt N (ins (fun e => A e && !B e) x) ≤ cnt N A
  · obtain ⟨D, d1, d2, d3, d4⟩ := M.extend hI ha hc
    have dx : D x = true := d2 x (ins_self _ _)
    -- y in A, not in D
    have hlt : cnt N (fun e => D e && A e) < cnt N A := by
      have : cnt N D = cnt N (fun e => D e && A e) + 1 := cnt_one hx (by simp [hxa]) dx fun y _ hy => by
        cases hD : D y with
        | false => rfl
        | true =>
          have : A y = true := (d3 y hD).elim (fun q => (of_ins q).elim (fun e => absurd e hy) (hT y)) id
          simp [this]
      omega
    obtain ⟨y, hy, y1, y2⟩ := cnt_lt_ex hlt
    have yD : D y = false := by
      cases q : D y with
      | false => rfl
      | true => simp [q, y1] at y2
    have yB : B y = true := by
      cases q : B y with
      | true => rfl
      | false =>
        have := d2 y (ins_of (by simp [y1, q]))
        rw [yD] at this; cases this
    have xy : x ≠ y := fun e => by rw [e, y1] at hxa; cases hxa
    have eq := cnt_eq_sub (A := D) (B := ins (del A y) x) (N := N) (fun w _ q => by
      rcases d3 w q with q' | q'
      · rcases of_ins q' with e | q'
        · rw [e]; exact ins_self _ _
        · refine ins_of ?_
          rw [del_ne (fun e => by rw [e, yD] at q; cases q)]
          exact hT w q'
      · refine ins_of ?_
        rw [del_ne (fun e => by rw [e, yD] at q; cases q)]
        exact q') (by rw [cnt_swap hx hy y1 hxa, d4]; exact Nat.le_refl _)
    refine h2 y hy y1 yB (M.sub _ _ (fun w q => ?_) d1)
    have hw : w < N := by
      rcases of_ins q with e | q
      · rw [e]; exact hx
      · exact M.sup A w ha (of_del q).2
    rw [eq w hw]; exact q
  · have hle : cnt N (fun e => A e && !B e) ≤ cnt N A := cnt_mono fun w _ q => hT w q
    rw [cnt_ins hx hxT] at hc
    have eq := cnt_eq_sub (A := fun e => A e && !B e) (B := A) (N := N) (fun w _ q => hT w q) (by omega)
    refine h1 (M.sub _ _ (fun w q => ?_) hI)
    rcases of_ins q with e | q
    · rw [e]; exact ins_self _ _
    · refine ins_of ?_
      show (A w && !B w) = true
      rw [eq w (M.sup A w ha q)]; exact q
/-- .. so no free set outside B is larger -/
theorem Mat.most (M : Mat N I) {A B J : S} (ha : I A) (hJ : I J) (hJB : ∀ x, J x = true → B x = false)
    (h : ∀ x, x < N → A x = false → B x = false → J x = true → ¬ I (ins A x) ∧ ∀ y, y < N → A y = true → B y = true → ¬ I (ins (del A y) x)) : cnt N J ≤ cnt N (fun e => A e && !B e) := by
  apply Classical.byContradiction
  intro hc
  obtain ⟨x, hx, x1, x2, x3⟩ := M.aug (fun e => A e && !B e) J (M.sub _ _ (fun w q => (Bool.and_eq_true_iff.mp q).1) ha) hJ (by omega)
  have xB := hJB x x1
  have xA : A x = false := by simpa [xB] using x2
  obtain ⟨q1, q2⟩ := h x hx xA xB x1
  exact M.span ha hx xA q1 q2 x3
end
end Bst

set_option maxHeartbeats 1000000
set_option linter.all false
/-! Layers, rows of exchanges, reached elements. -/
namespace Bst
section
variable (m : Nat) (f1 f2 : S → Bool) (A : S)
/-- y can follow x -/
def fol (x y : Nat) : Bool :=
  if A x = false ∧ A y = true then f2 (ins (del A y) x)
  else if A x = true ∧ A y = false then f1 (ins (del A x) y) else false
def lay0 : S := fun e => decide (e < m) && !A e && f1 (ins A e)
def layN (seen L : S) : S := fun y => decide (y < m) && !seen y && (List.range m).any fun x => L x && fol f1 f2 A x y
def uni (P Q : S) : S := fun e => P e || Q e
def laysF : Nat → S → S → List S
  | 0, _, _ => []
  | k + 1, seen, L => if cnt m L = 0 then [] else L :: laysF k (uni seen L) (layN m f1 f2 A (uni seen L) L)
def lays : List S := laysF m f1 f2 A (m + 1) (fun _ => false) (lay0 m f1 A)
def reach : S := fun e => (lays m f1 f2 A).any fun L => L e
end
section
variable {m : Nat} {f1 f2 : S → Bool} {A : S}
theorem uni_true {P Q : S} {e : Nat} : uni P Q e = true ↔ P e = true ∨ Q e = true := by simp [uni]
theorem layN_true {seen L : S} {y : Nat} : layN m f1 f2 A seen L y = true ↔ y < m ∧ seen y = false ∧ ∃ x, x < m ∧ L x = true ∧ fol f1 f2 A x y = true := by
  simp only [layN, Bool.and_eq_true, decide_eq_true_eq, Bool.not_eq_true', List.any_eq_true, List.mem_range]
  constructor
  · rintro ⟨⟨a, b⟩, x, c, d, e⟩; exact ⟨a, b, x, c, d, e⟩
  · rintro ⟨a, b, x, c, d, e⟩; exact ⟨⟨a, b⟩, x, c, d, e⟩
theorem lay0_true {e : Nat} : lay0 m f1 A e = true ↔ e < m ∧ A e = false ∧ f1 (ins A e) = true := by
  simp only [lay0, Bool.and_eq_true, decide_eq_true_eq, Bool.not_eq_true', and_assoc]
theorem cnt_zero_iff {N : Nat} {P : S} : cnt N P = 0 ↔ ∀ x, x < N → P x = false := by
  constructor
  · intro h x hx
    cases q : P x with
    | false => rfl
    | true =>
      have : cnt N (ins (fun _ => false) x) ≤ cnt N P := cnt_mono fun y _ h' => by
        rcases of_ins h' with e | e
        · rw [e]; exact q
        · cases e
      rw [cnt_ins hx rfl, cnt_zero] at this; omega
  · intro h
    rw [cnt_congr h, cnt_zero]
theorem cnt_uni_lt {N : Nat} {P Q : S} (hd : ∀ x, x < N → Q x = true → P x = false) (hq : cnt N Q ≠ 0) : cnt N P + 1 ≤ cnt N (uni P Q) := by
  obtain ⟨x, hx, h⟩ := cnt_pos_ex (Nat.pos_of_ne_zero hq)
  have h1 : cnt N (ins P x) ≤ cnt N (uni P Q) := cnt_mono fun y _ h' => by
    rcases of_ins h' with e | e
    · rw [e]; exact uni_true.mpr (.inr h)
    · exact uni_true.mpr (.inl e)
  rw [cnt_ins hx (hd x hx h)] at h1
  exact h1

theorem laysF_low : ∀ (k : Nat) (seen L : S), (∀ e, L e = true → e < m ∧ seen e = false) → ∀ (i : Nat) (Li : S), (laysF m f1 f2 A k seen L)[i]? = some Li → ∀ y, Li y = true → y < m ∧ seen y = false ∧
    (∀ (j : Nat) (Lj : S), j < i → (laysF m f1 f2 A k seen L)[j]? = some Lj → Lj y = false) ∧
    (∀ j, i = j + 1 → ∃ Lj, (laysF m f1 f2 A k seen L)[j]? = some Lj ∧ ∃ x, x < m ∧ Lj x = true ∧ fol f1 f2 A x y = true)
  | 0, _, _, _, i, Li, h, y, hy => by simp [laysF] at h
  | k + 1, seen, L, hL, i, Li, h, y, hy => by
    unfold laysF at h ⊢
    split at h
    · simp at h
    · rename_i hc
      simp only [hc, if_false]
      cases i with
      | zero =>
        simp at h; subst h
        exact ⟨(hL y hy).1, (hL y hy).2, fun j Lj hj => absurd hj (Nat.not_lt_zero _), fun j hj => by omega⟩
      | succ i =>
        simp only [List.getElem?_cons_succ] at h ⊢
        have hN : ∀ e, layN m f1 f2 A (uni seen L) L e = true → e < m ∧ uni seen L e = false := fun e he => ⟨(layN_true.mp he).1, (layN_true.mp he).2.1⟩
        obtain ⟨h1, h2, h3, h4⟩ := laysF_low k (uni seen L) (layN m f1 f2 A (uni seen L) L) hN i Li h y hy
        have hs : seen y = false := by simp [uni] at h2; exact h2.1
        have hl : L y = false := by simp [uni] at h2; exact h2.2
        refine ⟨h1, hs, fun j Lj hj hLj => ?_, fun j hj => ?_⟩
        · cases j with
          | zero => simp at hLj; subst hLj; exact hl
          | succ j => exact h3 j Lj (by omega) (by simpa using hLj)
        · cases j with
          | zero =>
            have hi : i = 0 := by omega
            subst hi
            refine ⟨L, by simp, ?_⟩
            have : Li = layN m f1 f2 A (uni seen L) L := by
              cases k with
              | zero => simp [laysF] at h
              | succ k =>
                unfold laysF at h
                split at h
                · simp at h
                · simpa using h.symm
            subst this
            obtain ⟨_, _, x, a, b, c⟩ := layN_true.mp hy
            exact ⟨x, a, b, c⟩
          | succ j =>
            obtain ⟨Lj, a, b⟩ := h4 j (by omega)
            exact ⟨Lj, by simpa using a, b⟩
theorem laysF_up : ∀ (k : Nat) (seen L : S), (∀ e, L e = true → e < m ∧ seen e = false) → m < k + cnt m seen → ∀ (i : Nat) (Li : S), (laysF m f1 f2 A k seen L)[i]? = some Li →
    ∀ x y, x < m → Li x = true → y < m → fol f1 f2 A x y = true → seen y = true ∨ ∃ (j : Nat) (Lj : S), j ≤ i + 1 ∧ (laysF m f1 f2 A k seen L)[j]? = some Lj ∧ Lj y = true
  | 0, _, _, _, _, i, Li, h, x, y, _, _, _, _ => by simp [laysF] at h
  | k + 1, seen, L, hL, hk, i, Li, h, x, y, hx, hxL, hy, hf => by
    unfold laysF at h ⊢
    split at h
    · simp at h
    · rename_i hc
      simp only [hc, if_false]
      have hlt := cnt_uni_lt (P := seen) (fun z _ q => (hL z q).2) hc
      have hle := cnt_le m (uni seen L)
      have hN : ∀ e, layN m f1 f2 A (uni seen L) L e = true → e < m ∧ uni seen L e = false := fun e he => ⟨(layN_true.mp he).1, (layN_true.mp he).2.1⟩
      cases i with
      | zero =>
        simp at h; subst h
        cases hs : uni seen L y with
        | true =>
          rcases uni_true.mp hs with e | e
          · exact .inl e
          · exact .inr ⟨0, L, by omega, by simp, e⟩
        | false =>
          have hyN : layN m f1 f2 A (uni seen L) L y = true := layN_true.mpr ⟨hy, hs, x, hx, hxL, hf⟩
          obtain ⟨k, rfl⟩ : ∃ j, k = j + 1 := ⟨k - 1, by omega⟩
          refine .inr ⟨1, layN m f1 f2 A (uni seen L) L, by omega, ?_, hyN⟩
          have : ¬ cnt m (layN m f1 f2 A (uni seen L) L) = 0 := fun z => by
            have := cnt_zero_iff.mp z y hy
            rw [hyN] at this; cases this
          simp [laysF, this]
      | succ i =>
        simp only [List.getElem?_cons_succ] at h
        rcases laysF_up k (uni seen L) (layN m f1 f2 A (uni seen L) L) hN (by omega) i Li h x y hx hxL hy hf with e | ⟨j, Lj, a, b, c⟩
        · rcases uni_true.mp e with e | e
          · exact .inl e
          · exact .inr ⟨0, L, by omega, by simp, e⟩
        · exact .inr ⟨j + 1, Lj, by omega, by simpa using b, c⟩
theorem lays_ne {i : Nat} {Li : S} (k : Nat) : ∀ (seen L : S), (laysF m f1 f2 A k seen L)[i]? = some Li → cnt m Li ≠ 0 := by
  induction k generalizing i with
  | zero => intro _ _ h; simp [laysF] at h
  | succ k ih =>
    intro seen L h
    unfold laysF at h
    split at h
    · simp at h
    · rename_i hc
      cases i with
      | zero => simp at h; subst h; exact hc
      | succ i => exact ih _ _ (by simpa using h)

/-! ### of the layers of A -/
theorem lays_low {i : Nat} {Li : S} (h : (lays m f1 f2 A)[i]? = some Li) {y : Nat} (hy : Li y = true) : y < m ∧
    (∀ (j : Nat) (Lj : S), j < i → (lays m f1 f2 A)[j]? = some Lj → Lj y = false) ∧
    (∀ j, i = j + 1 → ∃ Lj, (lays m f1 f2 A)[j]? = some Lj ∧ ∃ x, x < m ∧ Lj x = true ∧ fol f1 f2 A x y = true) := by
  obtain ⟨a, _, b, c⟩ := laysF_low (m + 1) (fun _ => false) (lay0 m f1 A) (fun e he => ⟨(lay0_true.mp he).1, rfl⟩) i Li h y hy
  exact ⟨a, b, c⟩
theorem lays_up {i : Nat} {Li : S} (h : (lays m f1 f2 A)[i]? = some Li) {x y : Nat} (hx : Li x = true) (hy : y < m) (hf : fol f1 f2 A x y = true) :
    ∃ (j : Nat) (Lj : S), j ≤ i + 1 ∧ (lays m f1 f2 A)[j]? = some Lj ∧ Lj y = true := by
  rcases laysF_up (m + 1) (fun _ => false) (lay0 m f1 A) (fun e he => ⟨(lay0_true.mp he).1, rfl⟩) (by omega) i Li h x y (lays_low h hx).1 hx hy hf with e | e
  · cases e
  · exact e
theorem lays_first {L : S} (h : (lays m f1 f2 A)[0]? = some L) : L = lay0 m f1 A := by
  unfold lays laysF at h
  split at h
  · simp at h
  · simpa using h.symm
theorem lays_has0 {e : Nat} (h : lay0 m f1 A e = true) : (lays m f1 f2 A)[0]? = some (lay0 m f1 A) := by
  have : ¬ cnt m (lay0 m f1 A) = 0 := fun z => by
    have := cnt_zero_iff.mp z e (lay0_true.mp h).1
    rw [h] at this; cases this
  simp [lays, laysF, this]
theorem fol_side {x y : Nat} (h : fol f1 f2 A x y = true) : (A x = false ∧ A y = true ∧ f2 (ins (del A y) x) = true) ∨ (A x = true ∧ A y = false ∧ f1 (ins (del A x) y) = true) := by
  unfold fol at h
  split at h
  · rename_i c; exact .inl ⟨c.1, c.2, h⟩
  · split at h
    · rename_i c; exact .inr ⟨c.1, c.2, h⟩
    · cases h
theorem lays_side : ∀ (i : Nat) {Li : S}, (lays m f1 f2 A)[i]? = some Li → ∀ {y : Nat}, Li y = true → A y = decide (i % 2 = 1)
  | 0, Li, h, y, hy => by
    rw [lays_first h] at hy
    rw [(lay0_true.mp hy).2.1]; rfl
  | i + 1, Li, h, y, hy => by
    obtain ⟨Lj, a, x, hx, b, c⟩ := (lays_low h hy).2.2 i rfl
    have ih := lays_side i a b
    rcases fol_side c with ⟨p, q, _⟩ | ⟨p, q, _⟩
    · rw [p] at ih
      rw [q]
      have : ¬ i % 2 = 1 := by simpa using ih.symm
      exact (decide_eq_true (by omega)).symm
    · rw [p] at ih
      rw [q]
      have : i % 2 = 1 := by simpa using ih.symm
      exact (decide_eq_false (by omega)).symm
theorem reach_true {e : Nat} : reach m f1 f2 A e = true ↔ ∃ (i : Nat) (L : S), (lays m f1 f2 A)[i]? = some L ∧ L e = true := by
  unfold reach
  rw [List.any_eq_true]
  constructor
  · rintro ⟨L, h, q⟩
    obtain ⟨i, hi, e⟩ := List.getElem_of_mem h
    exact ⟨i, L, by rw [List.getElem?_eq_getElem hi, e], q⟩
  · rintro ⟨i, L, h, q⟩
    exact ⟨L, List.mem_of_getElem? h, q⟩

/-- a row of exchanges: r 0 .. r n -/
structure IsRow (m : Nat) (f1 f2 : S → Bool) (A : S) (n : Nat) (r : Nat → Nat) : Prop where
  at_ : ∀ i, i ≤ n → ∃ L, (lays m f1 f2 A)[i]? = some L ∧ L (r i) = true
  fol : ∀ i, i < n → fol f1 f2 A (r i) (r (i + 1)) = true
  out : A (r n) = false
  fin : f2 (ins A (r n)) = true
  early : ∀ (i : Nat) (L : S), i < n → (lays m f1 f2 A)[i]? = some L → ∀ e, L e = true → A e = false → f2 (ins A e) = false

theorem runRow_at (e : Nat) : ∀ (l : List (Nat × Nat)) (A : S), (∀ p ∈ l, ∀ q ∈ l, p.1 ≠ q.2) → runRow A l e = (l.any (fun p => p.2 == e) || (!l.any (fun p => p.1 == e) && A e))
  | [], A, _ => by simp [runRow]
  | (y, x) :: r, A, h => by
    show runRow (ins (del A y) x) r e = _
    rw [runRow_at e r _ fun p hp q hq => h p (List.mem_cons_of_mem _ hp) q (List.mem_cons_of_mem _ hq)]
    have hyx : y ≠ x := h (y, x) List.mem_cons_self (y, x) List.mem_cons_self
    have hr1 : x = e → r.any (fun p => p.1 == e) = false := fun z => by
      rw [List.any_eq_false]
      intro p hp q
      exact h p (List.mem_cons_of_mem _ hp) (y, x) List.mem_cons_self (by rw [show p.1 = e by simpa using q]; exact z.symm)
    rw [List.any_cons, List.any_cons]
    generalize hP : r.any (fun p => p.2 == e) = P
    generalize hQ : r.any (fun p => p.1 == e) = R at hr1
    by_cases hx : x = e
    · rw [hr1 hx]; subst hx
      simp [ins_self]
    · have hx' : (x == e) = false := by simpa using hx
      by_cases hy : y = e
      · subst hy
        simp [ins, del, hyx, hx']
      · have hy' : (y == e) = false := by simpa using hy
        have : ins (del A y) x e = A e := by rw [ins_ne (fun z => hx z.symm), del_ne (fun z => hy z.symm)]
        rw [this, hx', hy', Bool.false_or, Bool.false_or]
theorem runRow_cnt {N : Nat} : ∀ (l : List (Nat × Nat)) (A : S), (∀ p ∈ l, A p.1 = true ∧ p.1 < N ∧ A p.2 = false ∧ p.2 < N) → l.Pairwise (fun a b => a.1 ≠ b.1 ∧ a.2 ≠ b.2) → cnt N (runRow A l) = cnt N A
  | [], A, _, _ => rfl
  | (y, x) :: r, A, h, hp => by
    show cnt N (runRow (ins (del A y) x) r) = _
    obtain ⟨a, b, c, d⟩ := h (y, x) List.mem_cons_self
    have a : A y = true := a
    have c : A x = false := c
    have pw := List.pairwise_cons.mp hp
    rw [runRow_cnt r _ (fun p hq => ?_) pw.2, cnt_swap d b a c]
    obtain ⟨a1, b1, c1, d1⟩ := h p (List.mem_cons_of_mem _ hq)
    obtain ⟨e1, e2⟩ := pw.1 p hq
    refine ⟨?_, b1, ?_, d1⟩
    · rw [ins_ne (fun z => by rw [z, c] at a1; cases a1), del_ne (fun z => e1 z.symm)]; exact a1
    · rw [ins_ne (fun z => e2 z.symm), del_ne (fun z => by rw [z, a] at c1; cases c1)]; exact c1
/-- the elements of a row change sides -/
def flip (A : S) (n : Nat) (r : Nat → Nat) : S := fun e => xor (A e) ((List.range (n + 1)).any fun i => r i == e)

section
variable {I1 I2 : S → Prop} {n : Nat} {r : Nat → Nat}
theorem IsRow.side (h : IsRow m f1 f2 A n r) {i : Nat} (hi : i ≤ n) : A (r i) = decide (i % 2 = 1) := by
  obtain ⟨L, a, b⟩ := h.at_ i hi
  exact lays_side i a b
theorem IsRow.even (h : IsRow m f1 f2 A n r) : n % 2 = 0 := by
  have := h.side (Nat.le_refl n)
  rw [h.out] at this
  have : ¬ n % 2 = 1 := by simpa using this.symm
  omega
theorem IsRow.lt (h : IsRow m f1 f2 A n r) {i : Nat} (hi : i ≤ n) : r i < m := by
  obtain ⟨L, a, b⟩ := h.at_ i hi
  exact (lays_low a b).1
theorem IsRow.ne (h : IsRow m f1 f2 A n r) {i j : Nat} (hi : i ≤ n) (hj : j ≤ n) (hij : i ≠ j) : r i ≠ r j := by
  have key : ∀ i j, i ≤ n → j ≤ n → i < j → r i ≠ r j := fun i j hi hj hlt e => by
    obtain ⟨L, a, b⟩ := h.at_ i hi
    obtain ⟨L', a', b'⟩ := h.at_ j hj
    have := (lays_low a' b').2.1 i L hlt a
    rw [← e, b] at this; cases this
  rcases Nat.lt_or_gt_of_ne hij with q | q
  · exact key i j hi hj q
  · exact fun e => key j i hj hi q e.symm
/-- no row jumps over a layer -/
theorem IsRow.nojump (h : IsRow m f1 f2 A n r) {i j : Nat} (hi : i ≤ n) (hj : j ≤ n) (hij : i + 1 < j) : Bst.fol f1 f2 A (r i) (r j) = false := by
  cases q : Bst.fol f1 f2 A (r i) (r j) with
  | false => rfl
  | true =>
    obtain ⟨L, a, b⟩ := h.at_ i hi
    obtain ⟨L', a', b'⟩ := h.at_ j hj
    obtain ⟨k, Lk, c1, c2, c3⟩ := lays_up a b (h.lt hj) q
    have := (lays_low a' b').2.1 k Lk (by omega) c2
    rw [c3] at this; cases this

theorem row_free (M1 : Mat m I1) (M2 : Mat m I2) (e1 : ∀ B, (∀ x, B x = true → x < m) → (f1 B = true ↔ I1 B)) (e2 : ∀ B, (∀ x, B x = true → x < m) → (f2 B = true ↔ I2 B)) (a1 : I1 A) (a2 : I2 A) (h : IsRow m f1 f2 A n r) :
    I1 (flip A n r) ∧ I2 (flip A n r) ∧ cnt m (flip A n r) = cnt m A + 1 := by
  obtain ⟨k, hk⟩ : ∃ k, n = 2 * k := ⟨n / 2, by have := h.even; omega⟩
  subst hk
  have hA : ∀ x, A x = true → x < m := fun x q => M1.sup A x a1 q
  have bnd : ∀ x, x < m → ∀ y, ins A x y = true → y < m := fun x hx y q => (of_ins q).elim (fun e => e ▸ hx) (hA y)
  have bnd2 : ∀ x z, x < m → ∀ y, ins (del A z) x y = true → y < m := fun x z hx y q => (of_ins q).elim (fun e => e ▸ hx) (fun q => hA y (of_del q).2)
  have ev : ∀ i, i ≤ k → A (r (2 * i)) = false := fun i hi => by rw [h.side (by omega)]; exact decide_eq_false (by omega)
  have od : ∀ i, i < k → A (r (2 * i + 1)) = true := fun i hi => by rw [h.side (by omega)]; exact decide_eq_true (by omega)
  have fol1 : ∀ i j, i < k → j ≤ k → Bst.fol f1 f2 A (r (2 * i + 1)) (r (2 * j)) = f1 (ins (del A (r (2 * i + 1))) (r (2 * j))) := fun i j hi hj => by simp [Bst.fol, od i hi, ev j hj]
  have fol2 : ∀ i j, i ≤ k → j < k → Bst.fol f1 f2 A (r (2 * i)) (r (2 * j + 1)) = f2 (ins (del A (r (2 * j + 1))) (r (2 * i))) := fun i j hi hj => by simp [Bst.fol, ev i hi, od j hj]
  -- the first matroid
  have R1 : Rw m I1 A (r 0) ((List.range k).reverse.map fun i => (r (2 * i + 1), r (2 * i + 2))) := by
    have first : f1 (ins A (r 0)) = true := by
      obtain ⟨L, a, b⟩ := h.at_ 0 (Nat.zero_le _)
      rw [lays_first a] at b
      exact (lay0_true.mp b).2.2
    refine ⟨a1, h.lt (Nat.zero_le _), ev 0 (Nat.zero_le _), (e1 _ (bnd _ (h.lt (Nat.zero_le _)))).mp first, fun p hp => ?_, fun p hp => ?_, fun p hp => ?_, fun p hp => ?_, ?_⟩
    · obtain ⟨i, hi, rfl⟩ := List.mem_map.mp hp
      have hi : i < k := by simpa using hi
      exact ⟨od i hi, h.lt (by omega)⟩
    · obtain ⟨i, hi, rfl⟩ := List.mem_map.mp hp
      have hi : i < k := by simpa using hi
      exact ⟨ev (i + 1) hi, h.lt (by omega), h.ne (by omega) (by omega) (by omega)⟩
    · obtain ⟨i, hi, rfl⟩ := List.mem_map.mp hp
      have hi : i < k := by simpa using hi
      refine (e1 _ (bnd2 _ _ (h.lt (by omega)))).mp ?_
      have := h.fol (2 * i + 1) (by omega)
      rw [show 2 * i + 1 + 1 = 2 * (i + 1) by omega, fol1 i (i + 1) hi hi] at this
      exact this
    · obtain ⟨i, hi, rfl⟩ := List.mem_map.mp hp
      have hi : i < k := by simpa using hi
      intro q
      have q := (e1 _ (bnd _ (h.lt (by omega)))).mpr q
      obtain ⟨L, a, b⟩ := h.at_ (2 * i + 2) (by omega)
      have z : lay0 m f1 A (r (2 * i + 2)) = true := lay0_true.mpr ⟨h.lt (by omega), ev (i + 1) hi, q⟩
      have := (lays_low a b).2.1 0 _ (by omega) (lays_has0 z)
      rw [z] at this; cases this
    · rw [List.pairwise_map]
      refine List.Pairwise.imp_of_mem (R := fun a b => b < a) (fun {a b} ha hb hab => ?_) ?_
      · have ha : a < k := by simpa using ha
        have hb : b < k := by simpa using hb
        refine ⟨fun q => ?_, h.ne (by omega) (by omega) (by omega), h.ne (by omega) (by omega) (by omega)⟩
        have q := (e1 _ (bnd2 _ _ (h.lt (by omega)))).mpr q
        have z := h.nojump (i := 2 * b + 1) (j := 2 * (a + 1)) (by omega) (by omega) (by omega)
        rw [fol1 b (a + 1) hb ha] at z
        have q : f1 (ins (del A (r (2 * b + 1))) (r (2 * (a + 1)))) = true := q
        rw [z] at q; cases q
      · rw [List.pairwise_reverse]
        exact List.pairwise_lt_range
  have R2 : Rw m I2 A (r (2 * k)) ((List.range k).map fun i => (r (2 * i + 1), r (2 * i))) := by
    refine ⟨a2, h.lt (Nat.le_refl _), h.out, (e2 _ (bnd _ (h.lt (Nat.le_refl _)))).mp h.fin, fun p hp => ?_, fun p hp => ?_, fun p hp => ?_, fun p hp => ?_, ?_⟩
    · obtain ⟨i, hi, rfl⟩ := List.mem_map.mp hp
      have hi : i < k := by simpa using hi
      exact ⟨od i hi, h.lt (by omega)⟩
    · obtain ⟨i, hi, rfl⟩ := List.mem_map.mp hp
      have hi : i < k := by simpa using hi
      exact ⟨ev i (by omega), h.lt (by omega), h.ne (by omega) (by omega) (by omega)⟩
    · obtain ⟨i, hi, rfl⟩ := List.mem_map.mp hp
      have hi : i < k := by simpa using hi
      refine (e2 _ (bnd2 _ _ (h.lt (by omega)))).mp ?_
      have := h.fol (2 * i) (by omega)
      rw [fol2 i i (by omega) hi] at this
      exact this
    · obtain ⟨i, hi, rfl⟩ := List.mem_map.mp hp
      have hi : i < k := by simpa using hi
      intro q
      have q := (e2 _ (bnd _ (h.lt (by omega)))).mpr q
      obtain ⟨L, a, b⟩ := h.at_ (2 * i) (by omega)
      have := h.early (2 * i) L (by omega) a _ b (ev i (by omega))
      have q : f2 (ins A (r (2 * i))) = true := q
      rw [this] at q; cases q
    · rw [List.pairwise_map]
      refine List.Pairwise.imp_of_mem (R := fun a b => a < b) (fun {a b} ha hb hab => ?_) List.pairwise_lt_range
      have ha : a < k := by simpa using ha
      have hb : b < k := by simpa using hb
      refine ⟨fun q => ?_, h.ne (by omega) (by omega) (by omega), h.ne (by omega) (by omega) (by omega)⟩
      have q := (e2 _ (bnd2 _ _ (h.lt (by omega)))).mpr q
      have z := h.nojump (i := 2 * a) (j := 2 * b + 1) (by omega) (by omega) (by omega)
      rw [fol2 a b (by omega) hb] at z
      have q : f2 (ins (del A (r (2 * b + 1))) (r (2 * a))) = true := q
      rw [z] at q; cases q
  -- the set behind the row
  have cross : ∀ {l : List (Nat × Nat)}, (∀ p ∈ l, A p.1 = true) → (∀ p ∈ l, A p.2 = false) → ∀ p ∈ l, ∀ q ∈ l, p.1 ≠ q.2 := fun h1 h2 p hp q hq e => by
    have := h1 p hp
    rw [e, h2 q hq] at this; cases this
  have inrow : ∀ e, (List.range (2 * k + 1)).any (fun i => r i == e) = true ↔ ∃ i, i ≤ 2 * k ∧ r i = e := fun e => by
    rw [List.any_eq_true]
    constructor
    · rintro ⟨i, hi, q⟩
      exact ⟨i, by have := List.mem_range.mp hi; omega, by simpa using q⟩
    · rintro ⟨i, hi, q⟩
      exact ⟨i, List.mem_range.mpr (by omega), by simpa using q⟩
  have flip_eq : ∀ (l : List (Nat × Nat)) (x : Nat), (∀ p ∈ l, A p.1 = true) → (∀ p ∈ l, A p.2 = false) → A x = false → (∀ e, A e = true → ((∃ p ∈ l, p.1 = e) ↔ ∃ i, i ≤ 2 * k ∧ r i = e)) → (∀ e, A e = false → ((e = x ∨ ∃ p ∈ l, p.2 = e) ↔ ∃ i, i ≤ 2 * k ∧ r i = e)) →
      ins (runRow A l) x = flip A (2 * k) r := by
    intro l x h1 h2 hx h3 h4
    funext e
    have ra := runRow_at e l A (cross h1 h2)
    show (e == x || runRow A l e) = xor (A e) _
    rw [ra]
    generalize hP : l.any (fun p => p.2 == e) = P at *
    generalize hQ : l.any (fun p => p.1 == e) = R at *
    have i1 : l.any (fun p => p.2 == e) = true ↔ ∃ p ∈ l, p.2 = e := by simp [List.any_eq_true]
    have i2 : l.any (fun p => p.1 == e) = true ↔ ∃ p ∈ l, p.1 = e := by simp [List.any_eq_true]
    cases hA : A e with
    | true =>
      have ex : (e == x) = false := by
        cases q : e == x with
        | false => rfl
        | true => rw [show e = x by simpa using q, hx] at hA; cases hA
      have n2 : P = false := by
        cases q : P with
        | false => rfl
        | true =>
          obtain ⟨p, hp, z⟩ := i1.mp (hP.trans q)
          have := h2 p hp
          rw [z, hA] at this; cases this
      rw [ex, n2, Bool.false_or, Bool.false_or, Bool.and_true]
      cases q : R with
      | true => rw [(inrow e).mpr ((h3 e hA).mp (i2.mp (hQ.trans q)))]; rfl
      | false =>
        have : (List.range (2 * k + 1)).any (fun i => r i == e) = false := by
          cases z : (List.range (2 * k + 1)).any (fun i => r i == e) with
          | false => rfl
          | true => have := hQ.symm.trans (i2.mpr ((h3 e hA).mpr ((inrow e).mp z))); rw [q] at this; cases this
        rw [this]; rfl
    | false =>
      by_cases q : e = x ∨ ∃ p ∈ l, p.2 = e
      · rw [(inrow e).mpr ((h4 e hA).mp q)]
        rcases q with q | q
        · simp [q]
        · rw [show P = true from hP.symm.trans (i1.mpr q)]; simp
      · have : (List.range (2 * k + 1)).any (fun i => r i == e) = false := by
          cases z : (List.range (2 * k + 1)).any (fun i => r i == e) with
          | false => rfl
          | true => exact absurd ((h4 e hA).mpr ((inrow e).mp z)) q
        rw [this]
        have ex : (e == x) = false := by simpa using fun z => q (.inl z)
        have n2 : P = false := by
          cases z : P with
          | false => rfl
          | true => exact absurd (.inr (i1.mp (hP.trans z))) q
        rw [ex, n2]
        simp
  have odd_of : ∀ e i, A e = true → i ≤ 2 * k → r i = e → ∃ j, j < k ∧ i = 2 * j + 1 := fun e i hA hi he => by
    have := h.side hi
    rw [he, hA] at this
    have : i % 2 = 1 := by simpa using this.symm
    exact ⟨i / 2, by omega, by omega⟩
  have even_of : ∀ e i, A e = false → i ≤ 2 * k → r i = e → ∃ j, j ≤ k ∧ i = 2 * j := fun e i hA hi he => by
    have := h.side hi
    rw [he, hA] at this
    have : ¬ i % 2 = 1 := by simpa using this.symm
    exact ⟨i / 2, by omega, by omega⟩
  have F1 := flip_eq _ _ (fun p hp => (R1.out p hp).1) (fun p hp => (R1.put p hp).1) R1.x0a (fun e hA => by
      constructor
      · rintro ⟨p, hp, rfl⟩
        obtain ⟨i, hi, rfl⟩ := List.mem_map.mp hp
        have hi : i < k := by simpa using hi
        exact ⟨2 * i + 1, by omega, rfl⟩
      · rintro ⟨i, hi, he⟩
        obtain ⟨j, hj, rfl⟩ := odd_of e i hA hi he
        exact ⟨_, List.mem_map.mpr ⟨j, by simpa using hj, rfl⟩, he⟩) (fun e hA => by
      constructor
      · rintro (rfl | ⟨p, hp, rfl⟩)
        · exact ⟨0, Nat.zero_le _, rfl⟩
        · obtain ⟨i, hi, rfl⟩ := List.mem_map.mp hp
          have hi : i < k := by simpa using hi
          exact ⟨2 * i + 2, by omega, rfl⟩
      · rintro ⟨i, hi, he⟩
        obtain ⟨j, hj, rfl⟩ := even_of e i hA hi he
        cases j with
        | zero => exact .inl he.symm
        | succ j => exact .inr ⟨_, List.mem_map.mpr ⟨j, by simp; omega, rfl⟩, he⟩)
  have F2 := flip_eq _ _ (fun p hp => (R2.out p hp).1) (fun p hp => (R2.put p hp).1) R2.x0a (fun e hA => by
      constructor
      · rintro ⟨p, hp, rfl⟩
        obtain ⟨i, hi, rfl⟩ := List.mem_map.mp hp
        have hi : i < k := by simpa using hi
        exact ⟨2 * i + 1, by omega, rfl⟩
      · rintro ⟨i, hi, he⟩
        obtain ⟨j, hj, rfl⟩ := odd_of e i hA hi he
        exact ⟨_, List.mem_map.mpr ⟨j, by simpa using hj, rfl⟩, he⟩) (fun e hA => by
      constructor
      · rintro (rfl | ⟨p, hp, rfl⟩)
        · exact ⟨2 * k, Nat.le_refl _, rfl⟩
        · obtain ⟨i, hi, rfl⟩ := List.mem_map.mp hp
          have hi : i < k := by simpa using hi
          exact ⟨2 * i, by omega, rfl⟩
      · rintro ⟨i, hi, he⟩
        obtain ⟨j, hj, rfl⟩ := even_of e i hA hi he
        by_cases hjk : j = k
        · exact .inl (by rw [hjk] at he; exact he.symm)
        · exact .inr ⟨_, List.mem_map.mpr ⟨j, by simp; omega, rfl⟩, he⟩)
  have C : cnt m (flip A (2 * k) r) = cnt m A + 1 := by
    rw [← F2, cnt_ins R2.x0n ?_, runRow_cnt _ _ (fun p hp => ⟨(R2.out p hp).1, (R2.out p hp).2, (R2.put p hp).1, (R2.put p hp).2.1⟩) (R2.chord.imp fun z => z.2)]
    rw [runRow_at _ _ _ (cross (fun p hp => (R2.out p hp).1) (fun p hp => (R2.put p hp).1)), R2.x0a, Bool.and_false, Bool.or_false, List.any_eq_false]
    intro p hp z
    exact (R2.put p hp).2.2 (by simpa using z)
  refine ⟨?_, ?_, C⟩
  · rw [← F1]; exact M1.row _ _ _ R1
  · rw [← F2]; exact M2.row _ _ _ R2

/-- no row: the bounds -/
theorem last_free (M1 : Mat m I1) (M2 : Mat m I2) (e1 : ∀ B, (∀ x, B x = true → x < m) → (f1 B = true ↔ I1 B)) (e2 : ∀ B, (∀ x, B x = true → x < m) → (f2 B = true ↔ I2 B)) (a1 : I1 A) (a2 : I2 A)
    (h : ∀ e, reach m f1 f2 A e = true → A e = false → f2 (ins A e) = false) :
    (∀ J, I1 J → (∀ x, J x = true → reach m f1 f2 A x = false) → cnt m J ≤ cnt m (fun e => A e && !reach m f1 f2 A e)) ∧
    (∀ J, I2 J → (∀ x, J x = true → reach m f1 f2 A x = true) → cnt m J ≤ cnt m (fun e => A e && reach m f1 f2 A e)) := by
  have hA : ∀ x, A x = true → x < m := fun x q => M1.sup A x a1 q
  have bnd : ∀ x, x < m → ∀ y, ins A x y = true → y < m := fun x hx y q => (of_ins q).elim (fun e => e ▸ hx) (hA y)
  have bnd2 : ∀ x z, x < m → ∀ y, ins (del A z) x y = true → y < m := fun x z hx y q => (of_ins q).elim (fun e => e ▸ hx) (fun q => hA y (of_del q).2)
  constructor
  · intro J hJ hJB
    refine M1.most a1 hJ hJB fun x hx xA xB _ => ⟨fun q => ?_, fun y hy yA yB q => ?_⟩
    · have q := (e1 _ (bnd x hx)).mpr q
      have z := lay0_true.mpr ⟨hx, xA, q⟩
      have : reach m f1 f2 A x = true := reach_true.mpr ⟨0, _, lays_has0 z, z⟩
      rw [xB] at this; cases this
    · have q := (e1 _ (bnd2 x y hx)).mpr q
      obtain ⟨i, L, a, b⟩ := reach_true.mp yB
      obtain ⟨j, Lj, _, c, d⟩ := lays_up a b hx (by simp [fol, xA, yA, q])
      have : reach m f1 f2 A x = true := reach_true.mpr ⟨j, Lj, c, d⟩
      rw [xB] at this; cases this
  · intro J hJ hJB
    have := M2.most (B := fun e => !reach m f1 f2 A e) a2 hJ (fun x hx => by simp [hJB x hx]) fun x hx xA xB hxJ => ?_
    · simpa using this
    · have xB : reach m f1 f2 A x = true := hJB x hxJ
      refine ⟨fun q => ?_, fun y hy yA yB q => ?_⟩
      · have q := (e2 _ (bnd x hx)).mpr q
        rw [h x xB xA] at q; cases q
      · have yB : reach m f1 f2 A y = false := by simpa using yB
        have q := (e2 _ (bnd2 x y hx)).mpr q
        obtain ⟨i, L, a, b⟩ := reach_true.mp xB
        obtain ⟨j, Lj, _, c, d⟩ := lays_up a b hy (by simp [fol, xA, yA, q])
        have : reach m f1 f2 A y = true := reach_true.mpr ⟨j, Lj, c, d⟩
        rw [yB] at this; cases this
end
end
end Bst

set_option maxHeartbeats 1000000
set_option linter.all false
/-! Two copies of each element: the matroid of copies, the matroid of pairs, and what a last set tells. -/
namespace Bst
def lo (n : Nat) (A : S) : S := fun e => decide (e < n) && A e
def hi (n : Nat) (A : S) : S := fun e => decide (e < n) && A (e + n)
theorem cnt_add (A : S) (n : Nat) : ∀ k, cnt (n + k) A = cnt n A + cnt k (fun e => A (e + n))
  | 0 => rfl
  | k + 1 => by
    show cnt (n + k) A + (if A (n + k) = true then 1 else 0) = cnt n A + (cnt k (fun e => A (e + n)) + (if A (k + n) = true then 1 else 0))
    rw [cnt_add A n k, show k + n = n + k by omega]
    omega
theorem cnt_lo (A : S) (n : Nat) : cnt n (lo n A) = cnt n A := cnt_congr fun x hx => by simp [lo, hx]
theorem cnt_hi (A : S) (n : Nat) : cnt n (hi n A) = cnt n (fun e => A (e + n)) := cnt_congr fun x hx => by simp [hi, hx]
theorem cnt_two (A : S) (n : Nat) : cnt (2 * n) A = cnt n (lo n A) + cnt n (hi n A) := by
  rw [show 2 * n = n + n by omega, cnt_add, cnt_lo, cnt_hi]
theorem lo_true {n : Nat} {A : S} {e : Nat} : lo n A e = true ↔ e < n ∧ A e = true := by simp [lo]
theorem hi_true {n : Nat} {A : S} {e : Nat} : hi n A e = true ↔ e < n ∧ A (e + n) = true := by simp [hi]
/-- the free sets of the matroid of copies -/
def ICop (n : Nat) (Ia Ib : S → Prop) (Mm A : S) : Prop :=
  (∀ x, A x = true → x < 2 * n) ∧ Ia (lo n A) ∧ Ib (hi n A) ∧ (∀ x, lo n A x = true → Mm x = true) ∧ ∀ x, hi n A x = true → Mm x = true
/-- .. of pairs -/
def IPair (n : Nat) (A : S) : Prop := (∀ x, A x = true → x < 2 * n) ∧ ∀ e, e < n → A e = true → A (e + n) = false
section
variable {n : Nat} {Ia Ib : S → Prop} {Mm : S}
theorem lo_ins {A : S} {x : Nat} (hx : x < n) : lo n (ins A x) = ins (lo n A) x := by
  funext y
  by_cases e : y = x
  · subst e; simp [lo, ins, hx]
  · rw [ins_ne e]; unfold lo; rw [ins_ne e]
theorem hi_ins_low {A : S} {x : Nat} (hx : x < n) : hi n (ins A x) = hi n A := by
  funext y
  unfold hi; rw [ins_ne (by omega : y + n ≠ x)]
theorem hi_ins {A : S} {x : Nat} (hx : x < n) : hi n (ins A (x + n)) = ins (hi n A) x := by
  funext y
  by_cases e : y = x
  · subst e; simp [hi, ins, hx]
  · rw [ins_ne e]; unfold hi; rw [ins_ne (by omega : y + n ≠ x + n)]
theorem lo_ins_hi {A : S} {x : Nat} : lo n (ins A (x + n)) = lo n A := by
  funext y
  by_cases h : y < n
  · unfold lo; rw [ins_ne (by omega : y ≠ x + n)]
  · simp [lo, h]
theorem copies_mat (Ma : Mat n Ia) (Mb : Mat n Ib) : Mat (2 * n) (ICop n Ia Ib Mm) where
  emp := ⟨fun _ h => (by cases h), Ma.sub _ _ (fun x h => absurd (lo_true.mp h).2 (by simp)) Ma.emp, Mb.sub _ _ (fun x h => absurd (hi_true.mp h).2 (by simp)) Mb.emp, fun x h => absurd (lo_true.mp h).2 (by simp), fun x h => absurd (hi_true.mp h).2 (by simp)⟩
  sup := fun A x h hx => h.1 x hx
  sub := fun A B h hB => by
    have h1 : Sub (lo n A) (lo n B) := fun x q => lo_true.mpr ⟨(lo_true.mp q).1, h x (lo_true.mp q).2⟩
    have h2 : Sub (hi n A) (hi n B) := fun x q => hi_true.mpr ⟨(hi_true.mp q).1, h _ (hi_true.mp q).2⟩
    exact ⟨fun x q => hB.1 x (h x q), Ma.sub _ _ h1 hB.2.1, Mb.sub _ _ h2 hB.2.2.1, fun x q => hB.2.2.2.1 x (h1 x q), fun x q => hB.2.2.2.2 x (h2 x q)⟩
  aug := fun A B hA hB hc => by
    obtain ⟨a0, a1, a2, a3, a4⟩ := hA
    obtain ⟨b0, b1, b2, b3, b4⟩ := hB
    rw [cnt_two, cnt_two] at hc
    by_cases h : cnt n (lo n A) < cnt n (lo n B)
    · obtain ⟨x, hx, x1, x2, x3⟩ := Ma.aug _ _ a1 b1 h
      have e1 : B x = true := (lo_true.mp x1).2
      have e2 : A x = false := by simpa [lo, hx] using x2
      refine ⟨x, by omega, e1, e2, fun y q => ?_, by rw [lo_ins hx]; exact x3, by rw [hi_ins_low hx]; exact a2, fun y q => ?_, fun y q => ?_⟩
      · rcases of_ins q with e | q
        · omega
        · exact a0 y q
      · rw [lo_ins hx] at q
        rcases of_ins q with e | q
        · rw [e]; exact b3 x x1
        · exact a3 y q
      · rw [hi_ins_low hx] at q; exact a4 y q
    · obtain ⟨x, hx, x1, x2, x3⟩ := Mb.aug _ _ a2 b2 (by omega)
      have e1 : B (x + n) = true := (hi_true.mp x1).2
      have e2 : A (x + n) = false := by simpa [hi, hx] using x2
      refine ⟨x + n, by omega, e1, e2, fun y q => ?_, by rw [lo_ins_hi]; exact a1, by rw [hi_ins hx]; exact x3, fun y q => ?_, fun y q => ?_⟩
      · rcases of_ins q with e | q
        · omega
        · exact a0 y q
      · rw [lo_ins_hi] at q; exact a3 y q
      · rw [hi_ins hx] at q
        rcases of_ins q with e | q
        · rw [e]; exact b4 x x1
        · exact a4 y q
theorem cnt_or {P Q : S} : ∀ {N : Nat}, (∀ x, x < N → P x = true → Q x = false) → cnt N (fun e => P e || Q e) = cnt N P + cnt N Q
  | 0, _ => rfl
  | k + 1, h => by
    unfold cnt
    rw [cnt_or (P := P) (Q := Q) (N := k) fun x hx => h x (by omega)]
    have := h k (by omega)
    cases hP : P k with
    | true =>
      simp only [hP, this hP, Bool.true_or, if_true, Bool.false_eq_true, if_false]; omega
    | false => cases hQ : Q k <;> simp only [hP, hQ, Bool.false_or, if_true, Bool.false_eq_true, if_false] <;> omega
theorem pair_mat : Mat (2 * n) (IPair n) where
  emp := ⟨fun _ h => (by cases h), fun _ _ h => (by cases h)⟩
  sup := fun A x h hx => h.1 x hx
  sub := fun A B h hB => ⟨fun x q => hB.1 x (h x q), fun e he q => by
    have := hB.2 e he (h e q)
    cases z : A (e + n) with
    | false => rfl
    | true => rw [h _ z] at this; cases this⟩
  aug := fun A B hA hB hc => by
    have key : ∀ {C : S}, IPair n C → cnt (2 * n) C = cnt n fun e => lo n C e || hi n C e := fun {C} hC => by
      rw [cnt_two, cnt_or (N := n)]
      intro x hx q
      have := hC.2 x hx (lo_true.mp q).2
      simp [hi, this]
    rw [key hA, key hB] at hc
    obtain ⟨e, he, e1, e2⟩ := cnt_lt_ex hc
    have z1 : A e = false := by
      have : lo n A e = false := by simpa using (Bool.or_eq_false_iff.mp e2).1
      simpa [lo, he] using this
    have z2 : A (e + n) = false := by
      have : hi n A e = false := by simpa using (Bool.or_eq_false_iff.mp e2).2
      simpa [hi, he] using this
    rcases Bool.or_eq_true_iff.mp e1 with q | q
    · refine ⟨e, by omega, (lo_true.mp q).2, z1, fun y h => ?_, fun y hy h => ?_⟩
      · rcases of_ins h with h | h
        · omega
        · exact hA.1 y h
      · rw [ins_ne (by omega : y + n ≠ e)]
        rcases of_ins h with h | h
        · rw [h]; exact z2
        · exact hA.2 y hy h
    · refine ⟨e + n, by omega, (hi_true.mp q).2, z2, fun y h => ?_, fun y hy h => ?_⟩
      · rcases of_ins h with h | h
        · omega
        · exact hA.1 y h
      · rw [ins_ne (by omega : y ≠ e + n)] at h
        rw [ins_ne ?_]
        · exact hA.2 y hy h
        · intro q'
          have : y = e := by omega
          rw [this, z1] at h; cases h

/-- what a last set tells: the two sets, the tight set -/
theorem divided_ok {f1 f2 : S → Bool} {A : S} (Ma : Mat n Ia) (Mb : Mat n Ib) (hM : ∀ x, Mm x = true → x < n)
    (e1 : ∀ B, (∀ x, B x = true → x < 2 * n) → (f1 B = true ↔ ICop n Ia Ib Mm B)) (e2 : ∀ B, (∀ x, B x = true → x < 2 * n) → (f2 B = true ↔ IPair n B)) (a1 : ICop n Ia Ib Mm A) (a2 : IPair n A)
    (h : ∀ e, reach (2 * n) f1 f2 A e = true → A e = false → f2 (ins A e) = false) (T : S)
    (hT : ∀ e, T e = true ↔ Mm e = true ∧ reach (2 * n) f1 f2 A e = false ∧ reach (2 * n) f1 f2 A (e + n) = false) (J1 J2 : S) (h1 : Ia J1) (h2 : Ib J2) (s1 : Sub J1 T) (s2 : Sub J2 T) :
    cnt n J1 + cnt n J2 + cnt n (fun e => Mm e && !T e) ≤ cnt n (lo n A) + cnt n (hi n A) := by
  obtain ⟨q1, q2⟩ := last_free (copies_mat Ma Mb) pair_mat e1 e2 a1 a2 h
  generalize hB : reach (2 * n) f1 f2 A = B at *
  have hTn : ∀ e, T e = true → e < n := fun e q => hM e ((hT e).mp q).1
  have w1 : cnt (2 * n) (fun e => (decide (e < n) && J1 e) || (decide (n ≤ e) && J2 (e - n))) ≤ cnt (2 * n) (fun e => A e && !B e) := by
    have l1 : lo n (fun e => (decide (e < n) && J1 e) || (decide (n ≤ e) && J2 (e - n))) = J1 := funext fun x => by
      cases q : J1 x with
      | true =>
        have := hTn x (s1 x q)
        simp [lo, this, q]
      | false =>
        by_cases hx : x < n
        · have : ¬ n ≤ x := by omega
          simp [lo, hx, q, this]
        · simp [lo, hx]
    have l2 : hi n (fun e => (decide (e < n) && J1 e) || (decide (n ≤ e) && J2 (e - n))) = J2 := funext fun x => by
      cases q : J2 x with
      | true =>
        have := hTn x (s2 x q)
        simp [hi, this, q]
      | false =>
        by_cases hx : x < n
        · have : ¬ x + n < n := by omega
          simp [hi, hx, q, this]
        · simp [hi, hx]
    refine q1 _ ⟨fun x q => ?_, by rw [l1]; exact h1, by rw [l2]; exact h2, fun x q => ?_, fun x q => ?_⟩ fun x q => ?_
    · simp at q
      rcases q with ⟨q, _⟩ | ⟨q, q'⟩
      · omega
      · have := hTn _ (s2 _ q')
        omega
    · rw [l1] at q; exact ((hT x).mp (s1 x q)).1
    · rw [l2] at q; exact ((hT x).mp (s2 x q)).1
    · simp at q
      rcases q with ⟨_, q⟩ | ⟨q', q⟩
      · exact ((hT x).mp (s1 x q)).2.1
      · have := ((hT _).mp (s2 _ q)).2.2
        rw [show x - n + n = x by omega] at this
        exact this
  have w2 : cnt (2 * n) (fun e => (decide (e < n) && (Mm e && !T e && B e)) || (decide (n ≤ e) && (Mm (e - n) && !T (e - n) && !B (e - n)))) ≤ cnt (2 * n) (fun e => A e && B e) := by
    refine q2 _ ⟨fun x q => ?_, fun e he q => ?_⟩ fun x q => ?_
    · simp at q
      rcases q with ⟨q, _⟩ | ⟨q, ⟨q', _⟩, _⟩
      · omega
      · have := hM _ q'
        omega
    · have h3 : ¬ n ≤ e := by omega
      simp [he, h3] at q
      have h4 : ¬ (e + n < n) := by omega
      simp [h4, q.2]
    · simp at q
      rcases q with ⟨_, _, q⟩ | ⟨hn, ⟨q', q''⟩, q⟩
      · exact q
      · have h5 : ¬ T (x - n) = true := by rw [q'']; exact Bool.false_ne_true
        cases z : B x with
        | true => rfl
        | false =>
          refine absurd ((hT (x - n)).mpr ⟨q', q, ?_⟩) h5
          rw [show x - n + n = x by omega]; exact z
  rw [cnt_two, cnt_two] at w1 w2
  have k1 : ∀ (P Q : S), cnt n (lo n (fun e => (decide (e < n) && P e) || (decide (n ≤ e) && Q (e - n)))) = cnt n P := fun P Q => cnt_congr fun x hx => by
    have : ¬ n ≤ x := by omega
    simp [lo, hx, this]
  have k2 : ∀ (P Q : S), cnt n (hi n (fun e => (decide (e < n) && P e) || (decide (n ≤ e) && Q (e - n)))) = cnt n Q := fun P Q => cnt_congr fun x hx => by
    have : ¬ x + n < n := by omega
    simp [hi, hx, this]
  rw [k1, k2] at w1
  have k3 := k1 (fun e => Mm e && !T e && B e) (fun e => Mm e && !T e && !B e)
  have k4 := k2 (fun e => Mm e && !T e && B e) (fun e => Mm e && !T e && !B e)
  rw [k3, k4, ← cnt_split] at w2
  have s3 := cnt_split A B (2 * n)
  rw [cnt_two, cnt_two (fun x => A x && B x), cnt_two (fun x => A x && !B x)] at s3
  omega
/-- no part tells less -/
theorem divided_most {A T J1 J2 : S} (a1 : ICop n Ia Ib Mm A) (a2 : IPair n A) (r1 r2 : Nat) (h1 : cnt n (fun e => lo n A e && T e) ≤ r1) (h2 : cnt n (fun e => hi n A e && T e) ≤ r2) :
    cnt n (lo n A) + cnt n (hi n A) ≤ r1 + r2 + cnt n (fun e => Mm e && !T e) := by
  rw [cnt_split (lo n A) T n, cnt_split (hi n A) T n]
  have : cnt n (fun x => lo n A x && !T x) + cnt n (fun x => hi n A x && !T x) ≤ cnt n (fun e => Mm e && !T e) := by
    rw [← cnt_or (N := n)]
    · refine cnt_mono fun x hx q => ?_
      simp only [Bool.or_eq_true, Bool.and_eq_true, Bool.not_eq_true'] at q ⊢
      rcases q with ⟨q, q'⟩ | ⟨q, q'⟩
      · exact ⟨a1.2.2.2.1 x q, q'⟩
      · exact ⟨a1.2.2.2.2 x q, q'⟩
    · intro x hx q
      simp only [Bool.and_eq_true, Bool.not_eq_true'] at q
      have := a2.2 x hx (lo_true.mp q.1).2
      simp [hi, this]
  omega
end
end Bst

set_option maxHeartbeats 1000000
set_option linter.all false
/-! Lists of elements; closures; ranks; the dual. -/
namespace Bst
/-- a set as an ascending list -/
def lst (n : Nat) (A : S) : List Nat := (List.range n).filter A
theorem lst_succ (n : Nat) (A : S) : lst (n + 1) A = lst n A ++ (if A n = true then [n] else []) := by
  unfold lst
  rw [List.range_succ, List.filter_append]
  congr 1
  simp [List.filter_cons]
theorem mem_lst {n : Nat} {A : S} {x : Nat} : x ∈ lst n A ↔ x < n ∧ A x = true := by simp [lst]
theorem length_lst (A : S) : ∀ n, (lst n A).length = cnt n A
  | 0 => rfl
  | n + 1 => by
    rw [lst_succ, List.length_append, length_lst A n]
    show _ = cnt n A + _
    split <;> simp
theorem lst_congr {n : Nat} {A B : S} (h : ∀ x, x < n → A x = B x) : lst n A = lst n B := by
  unfold lst
  exact List.filter_congr fun x hx => h x (List.mem_range.mp hx)
theorem lst_nodup (n : Nat) (A : S) : (lst n A).Nodup := List.nodup_range.filter _
theorem lst_sorted (n : Nat) (A : S) : (lst n A).Pairwise (· < ·) := List.pairwise_lt_range.filter _
/-- a list as a set -/
def mem (xs : List Nat) : S := fun e => decide (e ∈ xs)
theorem mem_true {xs : List Nat} {e : Nat} : mem xs e = true ↔ e ∈ xs := by simp [mem]
/-- an ascending list is its set's list -/
theorem sorted_eq : ∀ {xs ys : List Nat}, xs.Pairwise (· < ·) → ys.Pairwise (· < ·) → (∀ e, e ∈ xs ↔ e ∈ ys) → xs = ys
  | [], [], _, _, _ => rfl
  | [], y :: ys, _, _, h => absurd ((h y).mpr List.mem_cons_self) (by simp)
  | x :: xs, [], _, _, h => absurd ((h x).mp List.mem_cons_self) (by simp)
  | x :: xs, y :: ys, hx, hy, h => by
    have px := List.pairwise_cons.mp hx
    have py := List.pairwise_cons.mp hy
    have e : x = y := by
      rcases List.mem_cons.mp ((h x).mp List.mem_cons_self) with e | e
      · exact e
      · rcases List.mem_cons.mp ((h y).mpr List.mem_cons_self) with e' | e'
        · exact e'.symm
        · have := py.1 x e; have := px.1 y e'; omega
    subst e
    congr 1
    refine sorted_eq px.2 py.2 fun z => ?_
    constructor
    · intro hz
      rcases List.mem_cons.mp ((h z).mp (List.mem_cons_of_mem _ hz)) with e | e
      · have := px.1 z hz; omega
      · exact e
    · intro hz
      rcases List.mem_cons.mp ((h z).mpr (List.mem_cons_of_mem _ hz)) with e | e
      · have := py.1 z hz; omega
      · exact e
theorem lst_mem {n : Nat} {xs : List Nat} (hs : xs.Pairwise (· < ·)) (hn : ∀ e ∈ xs, e < n) : lst n (mem xs) = xs :=
  sorted_eq (lst_sorted _ _) hs fun e => by rw [mem_lst, mem_true]; exact ⟨fun q => q.2, fun q => ⟨hn e q, q⟩⟩
theorem mem_of_lst {n : Nat} {A : S} (h : ∀ x, A x = true → x < n) : mem (lst n A) = A := by
  funext x
  cases q : A x with
  | true => exact mem_true.mpr (mem_lst.mpr ⟨h x q, q⟩)
  | false =>
    cases z : mem (lst n A) x with
    | false => rfl
    | true => rw [(mem_lst.mp (mem_true.mp z)).2] at q; cases q

/-- r is the rank of T -/
def IsRank (n : Nat) (I : S → Prop) (T : S) (r : Nat) : Prop := (∃ J, I J ∧ Sub J T ∧ cnt n J = r) ∧ ∀ J, I J → Sub J T → cnt n J ≤ r
theorem IsRank.eq {n : Nat} {I : S → Prop} {T : S} {r r' : Nat} (h : IsRank n I T r) (h' : IsRank n I T r') : r = r' := by
  obtain ⟨⟨J, a, b, c⟩, d⟩ := h
  obtain ⟨⟨J', a', b', c'⟩, d'⟩ := h'
  have := d J' a' b'
  have := d' J a b
  omega
theorem IsRank.congr {n : Nat} {I I' : S → Prop} {T : S} {r : Nat} (h : IsRank n I T r) (e : ∀ A, I A ↔ I' A) : IsRank n I' T r := by
  obtain ⟨⟨J, a, b, c⟩, d⟩ := h
  exact ⟨⟨J, (e J).mp a, b, c⟩, fun J' a' => d J' ((e J').mpr a')⟩

/-! ### closures -/
structure Clo {σ V : Type} (ok : σ → Prop) (add : σ → V → σ) (inn : σ → V → Bool) (le : σ → σ → Prop) (dim : σ → Nat) (vok : V → Prop) : Prop where
  okA : ∀ s v, ok s → vok v → ok (add s v)
  trans : ∀ s t u, le s t → le t u → le s u
  up : ∀ s v, ok s → vok v → le s (add s v)
  has : ∀ s v, ok s → vok v → inn (add s v) v = true
  mono : ∀ s t v, ok s → ok t → vok v → le s t → inn s v = true → inn t v = true
  least : ∀ s t v, ok s → ok t → vok v → le s t → inn t v = true → le (add s v) t
  step : ∀ s v, ok s → vok v → dim (add s v) = dim s + (if inn s v = true then 0 else 1)
  dimle : ∀ s t, ok s → ok t → le s t → dim s ≤ dim t
section
variable {σ V : Type} {ok : σ → Prop} {add : σ → V → σ} {inn : σ → V → Bool} {le : σ → σ → Prop} {dim : σ → Nat} {vok : V → Prop}
def spanL (add : σ → V → σ) (vec : Nat → V) (s : σ) (xs : List Nat) : σ := xs.foldl (fun s e => add s (vec e)) s
/-- how often a new one comes -/
def rkL (add : σ → V → σ) (inn : σ → V → Bool) (vec : Nat → V) : σ → List Nat → Nat
  | _, [] => 0
  | s, e :: es => (if inn s (vec e) = true then 0 else 1) + rkL add inn vec (add s (vec e)) es
variable {vec : Nat → V} {s0 : σ} {n : Nat}
theorem rkL_le : ∀ (xs : List Nat) (s : σ), rkL add inn vec s xs ≤ xs.length
  | [], _ => Nat.le_refl _
  | e :: es, s => by
    unfold rkL
    have := rkL_le es (add s (vec e))
    rw [List.length_cons]
    split <;> omega
theorem Clo.okL (C : Clo ok add inn le dim vok) : ∀ (xs : List Nat) (s : σ), ok s → (∀ e ∈ xs, vok (vec e)) → ok (spanL add vec s xs)
  | [], _, h, _ => h
  | e :: es, s, h, hv => C.okL es (add s (vec e)) (C.okA _ _ h (hv e List.mem_cons_self)) fun e' he => hv e' (List.mem_cons_of_mem _ he)
theorem Clo.dimL (C : Clo ok add inn le dim vok) : ∀ (xs : List Nat) (s : σ), ok s → (∀ e ∈ xs, vok (vec e)) → dim (spanL add vec s xs) = dim s + rkL add inn vec s xs
  | [], _, _, _ => rfl
  | e :: es, s, h, hv => by
    show dim (spanL add vec (add s (vec e)) es) = _
    have hve := hv e List.mem_cons_self
    rw [C.dimL es _ (C.okA _ _ h hve) fun e' he => hv e' (List.mem_cons_of_mem _ he), C.step _ _ h hve]
    show _ = dim s + ((if inn s (vec e) = true then 0 else 1) + rkL add inn vec (add s (vec e)) es)
    omega
variable (hrefl : ∀ s : σ, le s s)
include hrefl
theorem Clo.upL (C : Clo ok add inn le dim vok) : ∀ (xs : List Nat) (s : σ), ok s → (∀ e ∈ xs, vok (vec e)) → le s (spanL add vec s xs)
  | [], s, _, _ => hrefl s
  | e :: es, s, h, hv => C.trans _ _ _ (C.up _ _ h (hv e List.mem_cons_self)) (C.upL es _ (C.okA _ _ h (hv e List.mem_cons_self)) fun e' he => hv e' (List.mem_cons_of_mem _ he))
theorem Clo.hasL (C : Clo ok add inn le dim vok) : ∀ (xs : List Nat) (s : σ), ok s → (∀ e ∈ xs, vok (vec e)) → ∀ e ∈ xs, inn (spanL add vec s xs) (vec e) = true
  | e :: es, s, h, hv, e', he => by
    have hve := hv e List.mem_cons_self
    have hvs : ∀ e' ∈ es, vok (vec e') := fun e' he => hv e' (List.mem_cons_of_mem _ he)
    have ok1 := C.okA _ _ h hve
    rcases List.mem_cons.mp he with q | q
    · subst q
      exact C.mono _ _ _ ok1 (C.okL es _ ok1 hvs) hve (C.upL hrefl es _ ok1 hvs) (C.has _ _ h hve)
    · exact C.hasL es _ ok1 hvs e' q
omit hrefl
theorem Clo.leastL (C : Clo ok add inn le dim vok) : ∀ (xs : List Nat) (s t : σ), ok s → ok t → (∀ e ∈ xs, vok (vec e)) → le s t → (∀ e ∈ xs, inn t (vec e) = true) → le (spanL add vec s xs) t
  | [], _, _, _, _, _, h, _ => h
  | e :: es, s, t, h, ht, hv, hl, hi =>
    C.leastL es _ t (C.okA _ _ h (hv e List.mem_cons_self)) ht (fun e' he => hv e' (List.mem_cons_of_mem _ he)) (C.least _ _ _ h ht (hv e List.mem_cons_self) hl (hi e List.mem_cons_self)) fun e' he => hi e' (List.mem_cons_of_mem _ he)
variable (C : Clo ok add inn le dim vok) (h0 : ok s0) (hv : ∀ e, e < n → vok (vec e))
def rkS (add : σ → V → σ) (inn : σ → V → Bool) (vec : Nat → V) (s0 : σ) (n : Nat) (A : S) : Nat := rkL add inn vec s0 (lst n A)
/-- the free sets of a closure -/
def ICl (add : σ → V → σ) (inn : σ → V → Bool) (vec : Nat → V) (s0 : σ) (n : Nat) (A : S) : Prop := (∀ x, A x = true → x < n) ∧ rkS add inn vec s0 n A = cnt n A
include hrefl C h0 hv
theorem Clo.vokL (A : S) : ∀ e ∈ lst n A, vok (vec e) := fun e he => hv e (mem_lst.mp he).1
theorem Clo.monoS {A B : S} (h : ∀ x, x < n → A x = true → inn (spanL add vec s0 (lst n B)) (vec x) = true) : rkS add inn vec s0 n A ≤ rkS add inn vec s0 n B := by
  have vA : ∀ e ∈ lst n A, vok (vec e) := Clo.vokL hrefl C h0 hv A
  have vB : ∀ e ∈ lst n B, vok (vec e) := Clo.vokL hrefl C h0 hv B
  have okB := C.okL (lst n B) s0 h0 vB
  have := C.dimle _ _ (C.okL (lst n A) s0 h0 vA) okB (C.leastL (lst n A) s0 _ h0 okB vA (C.upL hrefl _ _ h0 vB) fun e he => h e (mem_lst.mp he).1 (mem_lst.mp he).2)
  rw [C.dimL _ _ h0 vA, C.dimL _ _ h0 vB] at this
  unfold rkS
  omega
theorem Clo.mono_sub {A B : S} (h : Sub A B) : rkS add inn vec s0 n A ≤ rkS add inn vec s0 n B :=
  Clo.monoS hrefl C h0 hv fun x hx q => C.hasL hrefl _ _ h0 (Clo.vokL hrefl C h0 hv B) x (mem_lst.mpr ⟨hx, h x q⟩)
theorem Clo.insS {A : S} {x : Nat} (hx : x < n) : rkS add inn vec s0 n (ins A x) = rkS add inn vec s0 n A + (if inn (spanL add vec s0 (lst n A)) (vec x) = true then 0 else 1) := by
  have vA : ∀ e ∈ lst n A, vok (vec e) := Clo.vokL hrefl C h0 hv A
  have vB : ∀ e ∈ lst n (ins A x), vok (vec e) := Clo.vokL hrefl C h0 hv _
  have okA := C.okL (lst n A) s0 h0 vA
  have okB := C.okL (lst n (ins A x)) s0 h0 vB
  have okX := C.okA _ _ okA (hv x hx)
  have l1 : le (spanL add vec s0 (lst n (ins A x))) (add (spanL add vec s0 (lst n A)) (vec x)) := by
    refine C.leastL _ _ _ h0 okX vB (C.trans _ _ _ (C.upL hrefl _ _ h0 vA) (C.up _ _ okA (hv x hx))) fun e he => ?_
    obtain ⟨he1, he2⟩ := mem_lst.mp he
    rcases of_ins he2 with q | q
    · rw [q]; exact C.has _ _ okA (hv x hx)
    · exact C.mono _ _ _ okA okX (hv e he1) (C.up _ _ okA (hv x hx)) (C.hasL hrefl _ _ h0 vA e (mem_lst.mpr ⟨he1, q⟩))
  have l2 : le (add (spanL add vec s0 (lst n A)) (vec x)) (spanL add vec s0 (lst n (ins A x))) := by
    refine C.least _ _ _ okA okB (hv x hx) (C.leastL _ _ _ h0 okB vA (C.upL hrefl _ _ h0 vB) fun e he => ?_) (C.hasL hrefl _ _ h0 vB x (mem_lst.mpr ⟨hx, ins_self _ _⟩))
    obtain ⟨he1, he2⟩ := mem_lst.mp he
    exact C.hasL hrefl _ _ h0 vB e (mem_lst.mpr ⟨he1, ins_of he2⟩)
  have d1 := C.dimle _ _ okB okX l1
  have d2 := C.dimle _ _ okX okB l2
  rw [C.step _ _ okA (hv x hx), C.dimL _ _ h0 vA, C.dimL _ _ h0 vB] at d1 d2
  unfold rkS
  omega
theorem clo_mat : Mat n (ICl add inn vec s0 n) where
  emp := ⟨fun _ h => (by cases h), by
    have : lst n (fun _ => false) = [] := by simp [lst]
    unfold rkS
    rw [this, cnt_zero]; rfl⟩
  sup := fun A x h => h.1 x
  sub := fun A B h hB => by
    have hA : ∀ x, A x = true → x < n := fun x q => hB.1 x (h x q)
    refine ⟨hA, ?_⟩
    have up : rkS add inn vec s0 n A ≤ cnt n A := by
      have := rkL_le (add := add) (inn := inn) (vec := vec) (lst n A) s0
      rw [length_lst] at this
      exact this
    -- from A up to B
    have key : ∀ (k : Nat) (A : S), cnt n B - cnt n A = k → Sub A B → cnt n A ≤ rkS add inn vec s0 n A := by
      intro k
      induction k with
      | zero =>
        intro A hk hs
        have eq := cnt_eq_sub (N := n) (fun x _ q => hs x q) (by omega)
        unfold rkS
        rw [lst_congr eq, cnt_congr eq]
        exact Nat.le_of_eq hB.2.symm
      | succ k ih =>
        intro A hk hs
        obtain ⟨x, hx, x1, x2⟩ := cnt_lt_ex (A := A) (B := B) (N := n) (by omega)
        have c := cnt_ins hx x2
        have := ih (ins A x) (by omega) fun y q => (of_ins q).elim (fun e => by rw [e]; exact x1) (hs y)
        rw [Clo.insS hrefl C h0 hv hx] at this
        split at this <;> omega
    exact Nat.le_antisymm up (key _ A rfl h)
  aug := fun A B hA hB hc => by
    apply Classical.byContradiction
    intro hno
    have := Clo.monoS hrefl C h0 hv (A := B) (B := A) fun x hx q => by
      cases z : inn (spanL add vec s0 (lst n A)) (vec x) with
      | true => rfl
      | false =>
        have xA : A x = false := by
          cases w : A x with
          | false => rfl
          | true =>
            rw [C.hasL hrefl _ _ h0 (Clo.vokL hrefl C h0 hv A) x (mem_lst.mpr ⟨hx, w⟩)] at z; cases z
        refine absurd ⟨x, hx, q, xA, fun y w => (of_ins w).elim (fun e => e ▸ hx) (hA.1 y), ?_⟩ hno
        rw [Clo.insS hrefl C h0 hv hx, z, if_neg Bool.false_ne_true, cnt_ins hx xA, hA.2]
    rw [hA.2, hB.2] at this
    omega
theorem clo_rank (T : S) (hT : ∀ x, T x = true → x < n) : IsRank n (ICl add inn vec s0 n) T (rkS add inn vec s0 n T) := by
  have M := clo_mat hrefl C h0 hv
  refine ⟨?_, fun J hJ hs => by rw [← hJ.2]; exact Clo.mono_sub hrefl C h0 hv hs⟩
  have key : ∀ (k : Nat) (J : S), cnt n T - cnt n J = k → ICl add inn vec s0 n J → Sub J T → ∃ J, ICl add inn vec s0 n J ∧ Sub J T ∧ cnt n J = rkS add inn vec s0 n T := by
    intro k
    induction k using Nat.strongRecOn with
    | ind k ih =>
      intro J hk hJ hs
      by_cases h : ∃ x, x < n ∧ T x = true ∧ inn (spanL add vec s0 (lst n J)) (vec x) = false
      · obtain ⟨x, hx, x1, x2⟩ := h
        have xJ : J x = false := by
          cases w : J x with
          | false => rfl
          | true => rw [C.hasL hrefl _ _ h0 (Clo.vokL hrefl C h0 hv J) x (mem_lst.mpr ⟨hx, w⟩)] at x2; cases x2
        have c := cnt_ins hx xJ
        have s' : Sub (ins J x) T := fun y q => (of_ins q).elim (fun e => by rw [e]; exact x1) (hs y)
        have le' : cnt n (ins J x) ≤ cnt n T := cnt_mono fun y _ q => s' y q
        refine ih (cnt n T - cnt n (ins J x)) (by omega) (ins J x) rfl ⟨fun y q => hT y (s' y q), ?_⟩ s'
        rw [Clo.insS hrefl C h0 hv hx, x2, if_neg Bool.false_ne_true, c, hJ.2]
      · refine ⟨J, hJ, hs, ?_⟩
        rw [← hJ.2]
        refine Nat.le_antisymm (Clo.mono_sub hrefl C h0 hv hs) (Clo.monoS hrefl C h0 hv fun x hx q => ?_)
        cases z : inn (spanL add vec s0 (lst n J)) (vec x) with
        | true => rfl
        | false => exact absurd ⟨x, hx, q, z⟩ h
  exact key _ _ rfl M.emp fun _ h => by cases h
end

/-! ### uniform, dual -/
def IUni (n k : Nat) (A : S) : Prop := (∀ x, A x = true → x < n) ∧ cnt n A ≤ k
theorem uni_mat (n k : Nat) : Mat n (IUni n k) where
  emp := ⟨fun _ h => (by cases h), by rw [cnt_zero]; exact Nat.zero_le _⟩
  sup := fun A x h => h.1 x
  sub := fun A B h hB => ⟨fun x q => hB.1 x (h x q), Nat.le_trans (cnt_mono fun x _ q => h x q) hB.2⟩
  aug := fun A B hA hB hc => by
    obtain ⟨x, hx, x1, x2⟩ := cnt_lt_ex hc
    refine ⟨x, hx, x1, x2, fun y q => (of_ins q).elim (fun e => e ▸ hx) (hA.1 y), ?_⟩
    rw [cnt_ins hx x2]
    exact Nat.le_trans hc hB.2
theorem sub_of_size {n : Nat} {T : S} (hT : ∀ x, T x = true → x < n) : ∀ k, k ≤ cnt n T → ∃ J, Sub J T ∧ cnt n J = k
  | 0, _ => ⟨fun _ => false, fun _ h => (by cases h), cnt_zero n⟩
  | k + 1, h => by
    obtain ⟨J, s, c⟩ := sub_of_size hT k (by omega)
    obtain ⟨x, hx, x1, x2⟩ := cnt_lt_ex (A := J) (B := T) (N := n) (by omega)
    exact ⟨ins J x, fun y q => (of_ins q).elim (fun e => by rw [e]; exact x1) (s y), by rw [cnt_ins hx x2, c]⟩
theorem uni_rank {n k : Nat} {T : S} (hT : ∀ x, T x = true → x < n) : IsRank n (IUni n k) T (min (cnt n T) k) := by
  refine ⟨?_, fun J hJ hs => ?_⟩
  · obtain ⟨J, s, c⟩ := sub_of_size hT (min (cnt n T) k) (Nat.min_le_left _ _)
    exact ⟨J, ⟨fun x q => hT x (s x q), by omega⟩, s, c⟩
  · have := hJ.2
    have : cnt n J ≤ cnt n T := cnt_mono fun x _ q => hs x q
    omega

def IDual (n : Nat) (I : S → Prop) (r : Nat) (A : S) : Prop := (∀ x, A x = true → x < n) ∧ ∃ X, I X ∧ cnt n X = r ∧ ∀ x, X x = true → A x = false
section
variable {n r : Nat} {I : S → Prop}
theorem dual_mat (M : Mat n I) (hr : IsRank n I (fun e => decide (e < n)) r) : Mat n (IDual n I r) where
  emp := by
    obtain ⟨⟨J, a, b, c⟩, _⟩ := hr
    exact ⟨fun _ h => (by cases h), J, a, c, fun _ _ => rfl⟩
  sup := fun A x h => h.1 x
  sub := fun A B h hB => by
    obtain ⟨b0, X, a, c, d⟩ := hB
    refine ⟨fun x q => b0 x (h x q), X, a, c, fun x q => ?_⟩
    cases z : A x with
    | false => rfl
    | true => have := h x z; rw [d x q] at this; cases this
  aug := fun A B hA hB hc => by
    obtain ⟨a0, X, x1, x2, x3⟩ := hA
    obtain ⟨b0, Y, y1, y2, y3⟩ := hB
    apply Classical.byContradiction
    intro hno
    -- Y without A, grown inside X
    have yA : I (fun e => Y e && !A e) := M.sub _ _ (fun w q => (Bool.and_eq_true_iff.mp q).1) y1
    obtain ⟨D, d1, d2, d3, d4⟩ := M.extend yA x1 (by rw [x2, ← y2]; exact cnt_mono fun w _ q => (Bool.and_eq_true_iff.mp q).1)
    have dA : ∀ w, D w = true → A w = false := fun w q => by
      rcases d3 w q with q | q
      · simpa using (Bool.and_eq_true_iff.mp q).2
      · exact x3 w q
    have bD : ∀ b, b < n → B b = true → A b = false → D b = true := fun b hb q1 q2 => by
      cases z : D b with
      | true => rfl
      | false =>
        refine absurd ⟨b, hb, q1, q2, fun y q => (of_ins q).elim (fun e => e ▸ hb) (a0 y), D, d1, d4.trans x2, fun w q => ?_⟩ hno
        have : w ≠ b := fun e => by rw [e, z] at q; cases q
        rw [ins_ne this]; exact dA w q
    have h1 : cnt n (fun e => Y e && !A e) + cnt n (fun e => B e && !A e) ≤ cnt n D := by
      rw [← cnt_or]
      · refine cnt_mono fun w hw q => ?_
        rcases Bool.or_eq_true_iff.mp q with q | q
        · exact d2 w q
        · simp only [Bool.and_eq_true, Bool.not_eq_true'] at q
          exact bD w hw q.1 q.2
      · intro w hw q
        have : B w = false := y3 w (Bool.and_eq_true_iff.mp q).1
        simp [this]
    have h2 := cnt_split Y A n
    have h3 : cnt n (fun e => Y e && A e) ≤ cnt n (fun e => A e && !B e) := cnt_mono fun w _ q => by
      simp only [Bool.and_eq_true] at q
      simp [q.2, y3 w q.1]
    have h4 := cnt_split A B n
    have h5 := cnt_split B A n
    have h6 : cnt n (fun x => B x && A x) = cnt n (fun x => A x && B x) := cnt_congr fun x _ => Bool.and_comm _ _
    omega
/-- the dual by ranks -/
theorem dual_iff (M : Mat n I) {A : S} (hA : ∀ x, A x = true → x < n) {ra : Nat} (h : IsRank n I (fun e => decide (e < n) && !A e) ra) (hr : IsRank n I (fun e => decide (e < n)) r) : IDual n I r A ↔ ra = r := by
  constructor
  · rintro ⟨_, X, a, c, d⟩
    obtain ⟨⟨J, j1, j2, j3⟩, h2⟩ := h
    obtain ⟨_, k4⟩ := hr
    have e1 := k4 J j1 fun x q => by have := j2 x q; simp at this; simp [this.1]
    have := h2 X a fun x q => by simp [M.sup X x a q, d x q]
    omega
  · rintro rfl
    obtain ⟨⟨J, j1, j2, j3⟩, _⟩ := h
    exact ⟨hA, J, j1, j3, fun x q => by have := j2 x q; simp at this; exact this.2⟩
end
end Bst

set_option maxHeartbeats 1000000
set_option linter.all false
/-! Graphs, vectors modulo 2. -/
namespace Bst
/-- every one is new -/
def allNew {σ V : Type} (add : σ → V → σ) (inn : σ → V → Bool) (vec : Nat → V) : σ → List Nat → Bool
  | _, [] => true
  | s, e :: es => if inn s (vec e) = true then false else allNew add inn vec (add s (vec e)) es
theorem allNew_iff {σ V : Type} {add : σ → V → σ} {inn : σ → V → Bool} {vec : Nat → V} : ∀ (xs : List Nat) (s : σ), allNew add inn vec s xs = true ↔ rkL add inn vec s xs = xs.length
  | [], s => by simp [allNew, rkL]
  | e :: es, s => by
    have ih := allNew_iff (add := add) (inn := inn) (vec := vec) es (add s (vec e))
    have le := rkL_le (add := add) (inn := inn) (vec := vec) es (add s (vec e))
    unfold allNew rkL
    rw [List.length_cons]
    split
    · constructor
      · intro h; cases h
      · intro h; omega
    · rw [ih]; omega

/-! ### graphs -/
def gIn (s : Nat → Nat) (e : Nat × Nat) : Bool := s e.1 == s e.2
def gAdd (s : Nat → Nat) (e : Nat × Nat) : Nat → Nat := if s e.1 = s e.2 then s else fun w => if s w = s e.1 then s e.2 else s w
def gLe (nv : Nat) (s t : Nat → Nat) : Prop := ∀ u v, u < nv → v < nv → s u = s v → t u = t v
def gFirst (s : Nat → Nat) : S := fun u => (List.range u).all fun u' => s u' != s u
def gDim (nv : Nat) (s : Nat → Nat) : Nat := nv - cnt nv (gFirst s)
theorem gFirst_true {s : Nat → Nat} {u : Nat} : gFirst s u = true ↔ ∀ u', u' < u → s u' ≠ s u := by
  simp [gFirst]
theorem gFirst_ex {s : Nat → Nat} : ∀ u, ∃ p, p ≤ u ∧ s p = s u ∧ gFirst s p = true := by
  intro u
  induction u using Nat.strongRecOn with
  | ind u ih =>
    by_cases h : ∃ u', u' < u ∧ s u' = s u
    · obtain ⟨u', h1, h2⟩ := h
      obtain ⟨p, a, b, c⟩ := ih u' h1
      exact ⟨p, by omega, b.trans h2, c⟩
    · exact ⟨u, Nat.le_refl _, rfl, gFirst_true.mpr fun u' h1 h2 => h ⟨u', h1, h2⟩⟩
theorem gFirst_uniq {s : Nat → Nat} {p q : Nat} (hp : gFirst s p = true) (hq : gFirst s q = true) (e : s p = s q) : p = q := by
  rcases Nat.lt_trichotomy p q with h | h | h
  · exact absurd e (gFirst_true.mp hq p h)
  · exact h
  · exact absurd e.symm (gFirst_true.mp hp q h)
theorem g_clo (nv : Nat) : Clo (fun _ => True) gAdd gIn (gLe nv) (gDim nv) (fun e : Nat × Nat => e.1 < nv ∧ e.2 < nv) where
  okA := fun _ _ _ _ => trivial
  trans := fun s t u h1 h2 a b ha hb e => h2 a b ha hb (h1 a b ha hb e)
  up := fun s v _ _ a b _ _ e => by
    unfold gAdd
    split
    · exact e
    · show (if s a = s v.1 then s v.2 else s a) = if s b = s v.1 then s v.2 else s b
      rw [e]
  has := fun s v _ _ => by
    unfold gIn gAdd
    split
    · rename_i h; simpa using h
    · rename_i h; simp
  mono := fun s t v _ _ hv h e => by
    unfold gIn at e ⊢
    simpa using h v.1 v.2 hv.1 hv.2 (by simpa using e)
  least := fun s t v _ _ hv h e a b ha hb q => by
    have e : t v.1 = t v.2 := by simpa [gIn] using e
    unfold gAdd at q
    split at q
    · exact h a b ha hb q
    · have q : (if s a = s v.1 then s v.2 else s a) = if s b = s v.1 then s v.2 else s b := q
      split at q
      · rename_i ea
        have h1 := h a v.1 ha hv.1 ea
        split at q
        · rename_i eb
          exact h1.trans (h b v.1 hb hv.1 eb).symm
        · exact h1.trans (e.trans (h v.2 b hv.2 hb q))
      · split at q
        · rename_i eb
          have h1 := h b v.1 hb hv.1 eb
          exact (h a v.2 ha hv.2 q).trans (e.symm.trans h1.symm)
        · exact h a b ha hb q
  dimle := fun s t _ _ h => by
    unfold gDim
    have : cnt nv (gFirst t) ≤ cnt nv (gFirst s) := cnt_mono fun u hu q => gFirst_true.mpr fun u' h1 h2 => gFirst_true.mp q u' h1 (h u' u (by omega) hu h2)
    omega
  step := fun s v _ hv => by
    obtain ⟨u, w⟩ := v
    obtain ⟨hu, hw⟩ : u < nv ∧ w < nv := hv
    by_cases hs : s u = s w
    · have : gIn s (u, w) = true := by simp [gIn, hs]
      rw [this, if_pos rfl]
      simp [gAdd, hs]
    · have hin : gIn s (u, w) = false := by simp [gIn, hs]
      rw [hin, if_neg Bool.false_ne_true]
      have hadd : gAdd s (u, w) = fun z => if s z = s u then s w else s z := by simp [gAdd, hs]
      rw [hadd]
      obtain ⟨p, p1, p2, p3⟩ := gFirst_ex (s := s) u
      obtain ⟨q, q1, q2, q3⟩ := gFirst_ex (s := s) w
      have pq : p ≠ q := fun e => hs (by rw [← p2, e, q2])
      have hmax : max p q < nv := by omega
      have key : ∀ z, z < nv → gFirst (fun z => if s z = s u then s w else s z) z = (gFirst s z && !(z == max p q)) := fun z hz => by
        rw [Bool.eq_iff_iff, gFirst_true, Bool.and_eq_true, gFirst_true]
        simp only [Bool.not_eq_true', beq_eq_false_iff_ne]
        by_cases hz1 : s z = s u ∨ s z = s w
        · have lz : (if s z = s u then s w else s z) = s w := by
            rcases hz1 with e | e
            · rw [if_pos e]
            · rw [e]; split <;> rfl
          rw [lz]
          constructor
          · intro h
            have hpz : ¬ p < z := fun l => h p l (by rw [p2, if_pos rfl])
            have hqz : ¬ q < z := fun l => h q l (by rw [q2]; split <;> rfl)
            have hz2 : z = p ∨ z = q := by
              rcases hz1 with e | e
              · left
                have : ¬ z < p := fun l => gFirst_true.mp p3 z l (by rw [e, p2])
                omega
              · right
                have : ¬ z < q := fun l => gFirst_true.mp q3 z l (by rw [e, q2])
                omega
            refine ⟨?_, by omega⟩
            rcases hz2 with e | e
            · rw [e]; exact gFirst_true.mp p3
            · rw [e]; exact gFirst_true.mp q3
          · rintro ⟨h, hm⟩ u' hu' e
            have hz2 : z = p ∨ z = q := by
              rcases hz1 with e | e
              · exact .inl (gFirst_uniq (gFirst_true.mpr h) p3 (by rw [e, p2]))
              · exact .inr (gFirst_uniq (gFirst_true.mpr h) q3 (by rw [e, q2]))
            have hu2 : s u' = s u ∨ s u' = s w := by
              split at e
              · rename_i k; exact .inl k
              · exact .inr e
            rcases hu2 with k | k
            · have : ¬ u' < p := fun l => gFirst_true.mp p3 u' l (by rw [k, p2])
              omega
            · have : ¬ u' < q := fun l => gFirst_true.mp q3 u' l (by rw [k, q2])
              omega
        · have n1 : ¬ s z = s u := fun e => hz1 (.inl e)
          have n2 : ¬ s z = s w := fun e => hz1 (.inr e)
          rw [if_neg n1]
          constructor
          · intro h
            refine ⟨fun u' hu' e => h u' hu' (by rw [if_neg (by rw [e]; exact n1)]; exact e), fun e => ?_⟩
            rcases Nat.le_total p q with l | l
            · rw [Nat.max_eq_right l] at e
              exact n2 (by rw [e, q2])
            · rw [Nat.max_eq_left l] at e
              exact n1 (by rw [e, p2])
          · rintro ⟨h, _⟩ u' hu' e
            split at e
            · exact n2 e.symm
            · exact h u' hu' e
      have hm1 : gFirst s (max p q) = true := by
        rcases Nat.le_total p q with l | l
        · rw [Nat.max_eq_right l]; exact q3
        · rw [Nat.max_eq_left l]; exact p3
      have c := cnt_del hmax hm1
      have e2 : cnt nv (gFirst fun z => if s z = s u then s w else s z) = cnt nv (del (gFirst s) (max p q)) := cnt_congr fun z hz => by
        rw [key z hz]; exact Bool.and_comm _ _
      unfold gDim
      have := cnt_le nv (gFirst s)
      rw [e2]
      omega
theorem gLe_refl (nv : Nat) (s : Nat → Nat) : gLe nv s s := fun _ _ _ _ e => e

/-! ### vectors modulo 2 with three places: a vector is its code, a span the bits of its codes -/
def vStep (M v : Nat) : Nat := (List.range 8).foldl (fun R w => if M.testBit w = true then R ||| (1 <<< (w ^^^ v)) else R) M
def vIn (M v : Nat) : Bool := M.testBit v
def vMasks : List Nat := [1, 3, 5, 9, 15, 17, 33, 51, 65, 85, 105, 129, 153, 165, 195, 255]
def vDim (M : Nat) : Nat := if M = 1 then 0 else if M = 255 then 3 else if M = 15 ∨ M = 51 ∨ M = 85 ∨ M = 105 ∨ M = 153 ∨ M = 165 ∨ M = 195 then 2 else 1
def vLe (M N : Nat) : Prop := M &&& N = M
instance (M N : Nat) : Decidable (vLe M N) := inferInstanceAs (Decidable (_ = _))
theorem v_okA : ∀ M ∈ vMasks, ∀ v, v < 8 → vStep M v ∈ vMasks := by decide +kernel
theorem v_trans (M N O : Nat) (h : vLe M N) (h' : vLe N O) : vLe M O := by
  unfold vLe at *
  rw [← h, Nat.and_assoc, h']
theorem v_refl (M : Nat) : vLe M M := Nat.and_self M
theorem v_up : ∀ M ∈ vMasks, ∀ v, v < 8 → vLe M (vStep M v) := by decide +kernel
theorem v_has : ∀ M ∈ vMasks, ∀ v, v < 8 → vIn (vStep M v) v = true := by decide +kernel
theorem v_mono : ∀ M ∈ vMasks, ∀ N ∈ vMasks, ∀ v, v < 8 → vLe M N → vIn M v = true → vIn N v = true := by decide +kernel
theorem v_least : ∀ M ∈ vMasks, ∀ N ∈ vMasks, ∀ v, v < 8 → vLe M N → vIn N v = true → vLe (vStep M v) N := by decide +kernel
theorem v_step : ∀ M ∈ vMasks, ∀ v, v < 8 → vDim (vStep M v) = vDim M + (if vIn M v = true then 0 else 1) := by decide +kernel
theorem v_dimle : ∀ M ∈ vMasks, ∀ N ∈ vMasks, vLe M N → vDim M ≤ vDim N := by decide +kernel
theorem v_clo : Clo (fun M => M ∈ vMasks) vStep vIn vLe vDim (fun v => v < 8) where
  okA := fun M v h hv => v_okA M h v hv
  trans := v_trans
  up := fun M v h hv => v_up M h v hv
  has := fun M v h hv => v_has M h v hv
  mono := fun M N v h h' hv => v_mono M h N h' v hv
  least := fun M N v h h' hv => v_least M h N h' v hv
  step := fun M v h hv => v_step M h v hv
  dimle := fun M N h h' => v_dimle M h N h'
end Bst

set_option maxHeartbeats 1000000
set_option linter.all false
/-! Choices (things given to elements), bounds on nested sets. -/
namespace Bst
/-! ### counting by injections -/
theorem cnt_inj : ∀ {N M : Nat} {X Y : S} (f : Nat → Nat), (∀ x, x < N → X x = true → f x < M ∧ Y (f x) = true) → (∀ x y, x < N → y < N → X x = true → X y = true → f x = f y → x = y) → cnt N X ≤ cnt M Y
  | 0, _, _, _, _, _, _ => Nat.zero_le _
  | n + 1, M, X, Y, f, h, hi => by
    show cnt n X + (if X n = true then 1 else 0) ≤ cnt M Y
    by_cases hX : X n = true
    · rw [if_pos hX]
      obtain ⟨h1, h2⟩ := h n (by omega) hX
      have c := cnt_del h1 h2
      have := cnt_inj (N := n) (M := M) (X := X) (Y := del Y (f n)) f (fun x hx q => by
        obtain ⟨a, b⟩ := h x (by omega) q
        refine ⟨a, ?_⟩
        rw [del_ne fun e => ?_]
        · exact b
        · have := hi x n (by omega) (by omega) q hX e
          omega) (fun x y hx hy => hi x y (by omega) (by omega))
      omega
    · rw [if_neg hX]
      exact cnt_inj f (fun x hx => h x (by omega)) fun x y hx hy => hi x y (by omega) (by omega)

/-! ### choices -/
/-- own: who owns a thing; Z: the things that are not to be touched -/
abbrev Own := Nat → Option Nat
def setO (own : Own) (t a : Nat) : Own := fun u => if u = t then some a else own u
structure Okk (row : Nat → List Nat) (own : Own) : Prop where
  val : ∀ t a, own t = some a → t ∈ row a
mutual
/-- the program's search, k calls deep at most -/
def find (row : Nat → List Nat) : Nat → Nat → Own → List Nat → Bool × Own × List Nat
  | 0, _, own, seen => (false, own, seen)
  | k + 1, e, own, seen => findIn row k e (row e) own seen
def findIn (row : Nat → List Nat) : Nat → Nat → List Nat → Own → List Nat → Bool × Own × List Nat
  | _, _, [], own, seen => (false, own, seen)
  | k, e, t :: ts, own, seen =>
    if t ∈ seen then findIn row k e ts own seen
    else match own t with
      | none => (true, setO own t e, seen ++ [t])
      | some a => match find row k a own (seen ++ [t]) with
        | (true, own', seen') => (true, setO own' t e, seen')
        | (false, own', seen') => findIn row k e ts own' seen'
end
/-- behind a success -/
structure Won (row : Nat → List Nat) (e : Nat) (own : Own) (Z : List Nat) (own' : Own) : Prop where
  keep : ∀ t ∈ Z, own' t = own t
  val : ∀ t a, own' t = some a → t ∈ row a
  cov : ∀ a, (∃ t, t ∉ Z ∧ own t = some a) → ∃ t, t ∉ Z ∧ own' t = some a
  got : ∃ t, t ∉ Z ∧ own' t = some e
  who : ∀ t a, t ∉ Z → own' t = some a → a = e ∨ ∃ t, t ∉ Z ∧ own t = some a
  inj : (∀ t, t ∉ Z → own t ≠ some e) → (∀ t u a, t ∉ Z → u ∉ Z → own t = some a → own u = some a → t = u) → ∀ t u a, t ∉ Z → u ∉ Z → own' t = some a → own' u = some a → t = u
/-- behind a failure -/
structure Lost (row : Nat → List Nat) (own : Own) (Z : List Nat) (own' : Own) (Z' : List Nat) : Prop where
  same : own' = own
  sub : ∀ t ∈ Z, t ∈ Z'
  new : ∀ t ∈ Z', t ∉ Z → ∃ a, own t = some a ∧ ∀ u ∈ row a, u ∈ Z'
theorem find_ok (row : Nat → List Nat) (T : Nat) (hT : ∀ e t, t ∈ row e → t < T) : ∀ (k : Nat),
    (∀ e own seen, (∀ t a, own t = some a → t ∈ row a) → T < k + cnt T (mem seen) →
      match find row k e own seen with
      | (true, own', _) => Won row e own seen own'
      | (false, own', seen') => Lost row own seen own' seen' ∧ ∀ u ∈ row e, u ∈ seen') ∧
    (∀ (ts : List Nat) e own seen, (∀ t a, own t = some a → t ∈ row a) → (∀ t ∈ ts, t ∈ row e) → T < k + 1 + cnt T (mem seen) →
      match findIn row k e ts own seen with
      | (true, own', _) => Won row e own seen own'
      | (false, own', seen') => Lost row own seen own' seen' ∧ ∀ u ∈ ts, u ∈ seen') := by
  have part2 : ∀ k, (∀ e own seen, (∀ t a, own t = some a → t ∈ row a) → T < k + cnt T (mem seen) →
      match find row k e own seen with
      | (true, own', _) => Won row e own seen own'
      | (false, own', seen') => Lost row own seen own' seen' ∧ ∀ u ∈ row e, u ∈ seen') →
    (∀ (ts : List Nat) e own seen, (∀ t a, own t = some a → t ∈ row a) → (∀ t ∈ ts, t ∈ row e) → T < k + 1 + cnt T (mem seen) →
      match findIn row k e ts own seen with
      | (true, own', _) => Won row e own seen own'
      | (false, own', seen') => Lost row own seen own' seen' ∧ ∀ u ∈ ts, u ∈ seen') := by
    intro k hk ts
    induction ts with
    | nil =>
      intro e own seen hv _ _
      simp only [findIn]
      exact ⟨⟨rfl, fun _ h => h, fun t h h' => absurd h h'⟩, by simp⟩
    | cons t ts ih =>
      intro e own seen hv hts hc
      have hte : t ∈ row e := hts t List.mem_cons_self
      have hts' : ∀ t ∈ ts, t ∈ row e := fun u hu => hts u (List.mem_cons_of_mem _ hu)
      simp only [findIn]
      by_cases hs : t ∈ seen
      · rw [if_pos hs]
        have := ih e own seen hv hts' hc
        split
        · rename_i own' _ heq
          rw [heq] at this
          exact this
        · rename_i own' seen' heq
          rw [heq] at this
          refine ⟨this.1, fun u hu => ?_⟩
          rcases List.mem_cons.mp hu with q | q
          · rw [q]; exact this.1.sub t hs
          · exact this.2 u q
      · rw [if_neg hs]
        have cseen : cnt T (mem (seen ++ [t])) = cnt T (mem seen) + 1 := by
          refine cnt_one (hT e t hte) ?_ ?_ fun y _ hy => ?_
          · cases z : mem seen t with
            | false => rfl
            | true => exact absurd (mem_true.mp z) hs
          · exact mem_true.mpr (by simp)
          · rw [Bool.eq_iff_iff, mem_true, mem_true]
            simp [hy]
        cases ho : own t with
        | none =>
          simp only
          refine ⟨fun u hu => ?_, fun u a hu => ?_, fun a ⟨u, h1, h2⟩ => ⟨u, h1, ?_⟩, ⟨t, hs, by simp [setO]⟩, fun u a h1 h2 => ?_, fun hne hinj u w a h1 h2 h3 h4 => ?_⟩
          · have : u ≠ t := fun q => hs (q ▸ hu)
            simp [setO, this]
          · unfold setO at hu
            split at hu
            · rename_i q; cases hu; rw [q]; exact hte
            · exact hv u a hu
          · have : u ≠ t := fun q => by rw [q, ho] at h2; cases h2
            simp [setO, this, h2]
          · unfold setO at h2
            split at h2
            · cases h2; exact .inl rfl
            · exact .inr ⟨u, h1, h2⟩
          · unfold setO at h3 h4
            split at h3
            · rename_i q1
              cases h3
              split at h4
              · rename_i q2; rw [q1, q2]
              · exact absurd h4 (hne w h2)
            · split at h4
              · cases h4; exact absurd h3 (hne u h1)
              · exact hinj u w a h1 h2 h3 h4
        | some a =>
          simp only
          have hf := hk a own (seen ++ [t]) hv (by omega)
          have notin : ∀ u, u ∉ seen ++ [t] ↔ u ∉ seen ∧ u ≠ t := fun u => by simp
          split
          · rename_i own' seen' heq
            split at heq
            · rename_i own1 seen1 heq1
              rw [heq1] at hf
              have hf : Won row a own (seen ++ [t]) own1 := hf
              cases heq
              refine ⟨fun u hu => ?_, fun u b hu => ?_, fun b ⟨u, h1, h2⟩ => ?_, ⟨t, hs, by simp [setO]⟩, fun u b h1 h2 => ?_, fun hne hinj u w b h1 h2 h3 h4 => ?_⟩
              · have : u ≠ t := fun q => hs (q ▸ hu)
                simp only [setO, this, if_false]
                exact hf.keep u (by simp [hu])
              · unfold setO at hu
                split at hu
                · rename_i q; cases hu; rw [q]; exact hte
                · exact hf.val u b hu
              · by_cases q : b = a
                · subst q
                  obtain ⟨v, v1, v2⟩ := hf.got
                  obtain ⟨v3, v4⟩ := (notin v).mp v1
                  exact ⟨v, v3, by simp [setO, v4, v2]⟩
                · have hut : u ≠ t := fun z => by rw [z, ho] at h2; cases h2; exact q rfl
                  obtain ⟨v, v1, v2⟩ := hf.cov b ⟨u, (notin u).mpr ⟨h1, hut⟩, h2⟩
                  obtain ⟨v3, v4⟩ := (notin v).mp v1
                  exact ⟨v, v3, by simp [setO, v4, v2]⟩
              · unfold setO at h2
                split at h2
                · cases h2; exact .inl rfl
                · rename_i q
                  rcases hf.who u b ((notin u).mpr ⟨h1, q⟩) h2 with z | ⟨v, v1, v2⟩
                  · exact .inr ⟨t, hs, by rw [ho, z]⟩
                  · exact .inr ⟨v, ((notin v).mp v1).1, v2⟩
              · have ea : a ≠ e := fun z => hne t hs (by rw [ho, z])
                have hinj1 := hf.inj (fun v v1 v2 => ((notin v).mp v1).2 (hinj v t a ((notin v).mp v1).1 hs v2 ho)) fun v1 v2 c c1 c2 => hinj v1 v2 c ((notin v1).mp c1).1 ((notin v2).mp c2).1
                have noe : ∀ v, v ∉ seen → v ≠ t → own1 v ≠ some e := fun v v1 v2 v3 => by
                  rcases hf.who v e ((notin v).mpr ⟨v1, v2⟩) v3 with z | ⟨v', w1, w2⟩
                  · exact ea z.symm
                  · exact hne v' ((notin v').mp w1).1 w2
                unfold setO at h3 h4
                split at h3
                · rename_i q1
                  cases h3
                  split at h4
                  · rename_i q2; rw [q1, q2]
                  · rename_i q2; exact absurd h4 (noe w h2 q2)
                · rename_i q1
                  split at h4
                  · cases h4; exact absurd h3 (noe u h1 q1)
                  · rename_i q2
                    exact hinj1 u w b ((notin u).mpr ⟨h1, q1⟩) ((notin w).mpr ⟨h2, q2⟩) h3 h4
            · rename_i own1 seen1 heq1
              rw [heq1] at hf
              obtain ⟨hl, hr⟩ : Lost row own (seen ++ [t]) own1 seen1 ∧ ∀ u ∈ row a, u ∈ seen1 := hf
              have e1 := hl.same
              subst e1
              have cle : cnt T (mem (seen ++ [t])) ≤ cnt T (mem seen1) := cnt_mono fun y _ q => mem_true.mpr (hl.sub y (mem_true.mp q))
              have := ih e own1 seen1 hv hts' (by omega)
              rw [heq] at this
              have W : Won row e own1 seen1 own' := this
              have ss : ∀ u, u ∉ seen1 → u ∉ seen := fun u h q => h (hl.sub u (by simp [q]))
              refine ⟨fun u hu => W.keep u (hl.sub u (by simp [hu])), W.val, fun b ⟨u, h1, h2⟩ => ?_, ?_, fun u b h1 h2 => ?_, fun hne hinj u w b h1 h2 h3 h4 => ?_⟩
              · by_cases q : u ∈ seen1
                · exact ⟨u, h1, by rw [W.keep u q]; exact h2⟩
                · obtain ⟨v, v1, v2⟩ := W.cov b ⟨u, q, h2⟩
                  exact ⟨v, ss v v1, v2⟩
              · obtain ⟨v, v1, v2⟩ := W.got
                exact ⟨v, ss v v1, v2⟩
              · by_cases q : u ∈ seen1
                · rw [W.keep u q] at h2
                  exact .inr ⟨u, h1, h2⟩
                · rcases W.who u b q h2 with z | ⟨v, v1, v2⟩
                  · exact .inl z
                  · exact .inr ⟨v, ss v v1, v2⟩
              · have hinj1 := W.inj (fun v v1 => hne v (ss v v1)) fun v1 v2 c c1 c2 => hinj v1 v2 c (ss v1 c1) (ss v2 c2)
                by_cases q1 : u ∈ seen1
                · rw [W.keep u q1] at h3
                  by_cases q2 : w ∈ seen1
                  · rw [W.keep w q2] at h4
                    exact hinj u w b h1 h2 h3 h4
                  · rcases W.who w b q2 h4 with z | ⟨v, v1, v2⟩
                    · rw [z] at h3; exact absurd h3 (hne u h1)
                    · have := hinj u v b h1 (ss v v1) h3 v2
                      exact absurd (this ▸ q1) v1
                · by_cases q2 : w ∈ seen1
                  · rw [W.keep w q2] at h4
                    rcases W.who u b q1 h3 with z | ⟨v, v1, v2⟩
                    · rw [z] at h4; exact absurd h4 (hne w h2)
                    · have := hinj w v b h2 (ss v v1) h4 v2
                      exact absurd (this ▸ q2) v1
                  · exact hinj1 u w b q1 q2 h3 h4
          · rename_i own' seen' heq
            split at heq
            · cases heq
            · rename_i own1 seen1 heq1
              rw [heq1] at hf
              obtain ⟨hl, hr⟩ : Lost row own (seen ++ [t]) own1 seen1 ∧ ∀ u ∈ row a, u ∈ seen1 := hf
              have e1 := hl.same
              subst e1
              have cle : cnt T (mem (seen ++ [t])) ≤ cnt T (mem seen1) := cnt_mono fun y _ q => mem_true.mpr (hl.sub y (mem_true.mp q))
              have := ih e own1 seen1 hv hts' (by omega)
              rw [heq] at this
              obtain ⟨hl2, hr2⟩ : Lost row own1 seen1 own' seen' ∧ ∀ u ∈ ts, u ∈ seen' := this
              refine ⟨⟨hl2.same, fun u hu => hl2.sub u (hl.sub u (by simp [hu])), fun u h1 h2 => ?_⟩, fun u hu => ?_⟩
              · by_cases q : u ∈ seen1
                · by_cases q2 : u = t
                  · exact ⟨a, by rw [q2, ho], fun v hv' => hl2.sub v (hr v hv')⟩
                  · obtain ⟨b, b1, b2⟩ := hl.new u q (by simp [h2, q2])
                    exact ⟨b, b1, fun v hv' => hl2.sub v (b2 v hv')⟩
                · exact hl2.new u h1 q
              · rcases List.mem_cons.mp hu with q | q
                · rw [q]; exact hl2.sub t (hl.sub t (by simp))
                · exact hr2 u q
  intro k
  have part1 : ∀ k, (∀ e own seen, (∀ t a, own t = some a → t ∈ row a) → T < k + cnt T (mem seen) →
      match find row k e own seen with
      | (true, own', _) => Won row e own seen own'
      | (false, own', seen') => Lost row own seen own' seen' ∧ ∀ u ∈ row e, u ∈ seen') := by
    intro k
    induction k with
    | zero =>
      intro e own seen hv hc
      have := cnt_le T (mem seen)
      omega
    | succ k ih =>
      intro e own seen hv hc
      have := part2 k ih (row e) e own seen hv (fun _ h => h) hc
      simp only [find]
      exact this
  exact ⟨part1 k, part2 k (part1 k)⟩
end Bst

set_option maxHeartbeats 1000000
set_option linter.all false
/-! Matchings as a matroid; the two searches; bounds on nested sets. -/
namespace Bst
def IMat (row : Nat → List Nat) (n : Nat) (A : S) : Prop :=
  (∀ x, A x = true → x < n) ∧ ∃ g : Nat → Nat, (∀ a, A a = true → g a ∈ row a) ∧ ∀ a b, A a = true → A b = true → g a = g b → a = b
/-- the owners are just the elements of A -/
structure Owns (row : Nat → List Nat) (A : S) (own : Own) : Prop where
  val : ∀ t a, own t = some a → t ∈ row a
  inj : ∀ t u a, own t = some a → own u = some a → t = u
  who : ∀ t a, own t = some a → A a = true
  cov : ∀ a, A a = true → ∃ t, own t = some a
section
variable {row : Nat → List Nat} {n T : Nat}
theorem Owns.mat {A : S} {own : Own} (h : Owns row A own) (hA : ∀ x, A x = true → x < n) : IMat row n A := by
  have : ∃ g : Nat → Nat, ∀ a, A a = true → own (g a) = some a := by
    refine Classical.axiomOfChoice (r := fun a t => A a = true → own t = some a) fun a => ?_
    by_cases q : A a = true
    · obtain ⟨t, z⟩ := h.cov a q
      exact ⟨t, fun _ => z⟩
    · exact ⟨0, fun z => absurd z q⟩
  obtain ⟨g, hg⟩ := this
  refine ⟨hA, g, fun a ha => h.val _ _ (hg a ha), fun a b ha hb e => ?_⟩
  have e1 := hg a ha
  rw [e, hg b hb] at e1
  exact (Option.some.inj e1).symm
theorem owns_of {A : S} (h : IMat row n A) : ∃ own, Owns row A own := by
  obtain ⟨hA, g, g1, g2⟩ := h
  refine ⟨fun t => (List.range n).find? fun a => A a && g a == t, fun t a e => ?_, fun t u a e e' => ?_, fun t a e => ?_, fun a ha => ⟨g a, ?_⟩⟩
  · have := List.find?_some e
    simp only [Bool.and_eq_true, beq_iff_eq] at this
    rw [← this.2]; exact g1 a this.1
  · have h1 := List.find?_some e
    have h2 := List.find?_some e'
    simp only [Bool.and_eq_true, beq_iff_eq] at h1 h2
    rw [← h1.2, ← h2.2]
  · have := List.find?_some e
    simp only [Bool.and_eq_true, beq_iff_eq] at this
    exact this.1
  · cases q : (List.range n).find? fun b => A b && g b == g a with
    | none =>
      have := List.find?_eq_none.mp q a (List.mem_range.mpr (hA a ha))
      simp [ha] at this
    | some b =>
      have := List.find?_some q
      simp only [Bool.and_eq_true, beq_iff_eq] at this
      rw [g2 b a this.1 ha this.2]
/-- a closed set of things: too few for the elements that want them -/
theorem hall {A B X Z : S} {own : Own} (ho : Owns row A own) (hA : ∀ x, A x = true → x < n) (hT : ∀ e t, t ∈ row e → t < T) (hZ : ∀ t, Z t = true → ∃ a, own t = some a ∧ ∀ u ∈ row a, Z u = true)
    (hX : ∀ x, X x = true → A x = false ∧ ∀ u ∈ row x, Z u = true) (hB : IMat row n B) :
    ∃ O : S, Sub O A ∧ cnt n (fun e => B e && X e) + cnt n (fun e => B e && O e) ≤ cnt n O ∧ ∀ a t, own t = some a → Z t = true → O a = true := by
  obtain ⟨hBn, g, g1, g2⟩ := hB
  have hcl : ∀ a, (∃ t, Z t = true ∧ own t = some a) → ∀ u ∈ row a, Z u = true := fun a ⟨t, z, o⟩ u hu => by
    obtain ⟨b, b1, b2⟩ := hZ t z
    rw [o] at b1; cases b1
    exact b2 u hu
  have hOx : ∀ a, decide (∃ t, t < T ∧ Z t = true ∧ own t = some a) = true ↔ ∃ t, Z t = true ∧ own t = some a := fun a => by
    rw [decide_eq_true_iff]
    exact ⟨fun ⟨t, _, z⟩ => ⟨t, z⟩, fun ⟨t, z, o⟩ => ⟨t, hT a t (ho.val t a o), z, o⟩⟩
  refine ⟨fun a => decide (∃ t, t < T ∧ Z t = true ∧ own t = some a), fun a q => ?_, ?_, fun a t o z => (hOx a).mpr ⟨t, z, o⟩⟩
  · obtain ⟨t, _, o⟩ := (hOx a).mp q
    exact ho.who t a o
  · have c1 : cnt T Z ≤ cnt n (fun a => decide (∃ t, t < T ∧ Z t = true ∧ own t = some a)) := by
      refine cnt_inj (fun t => (own t).getD 0) (fun t _ z => ?_) fun t u _ _ z z' e => ?_
      · obtain ⟨a, o, _⟩ := hZ t z
        rw [o]
        exact ⟨hA a (ho.who t a o), (hOx a).mpr ⟨t, z, o⟩⟩
      · obtain ⟨a, o, _⟩ := hZ t z
        obtain ⟨b, o', _⟩ := hZ u z'
        rw [o, o'] at e
        have e : a = b := e
        subst e
        exact ho.inj t u a o o'
    refine Nat.le_trans ?_ c1
    rw [← cnt_or]
    · refine cnt_inj g (fun a _ q => ?_) fun a b _ _ q q' e => ?_
      · have q0 : B a = true ∧ (X a = true ∨ ∃ t, Z t = true ∧ own t = some a) := by
          rcases Bool.or_eq_true_iff.mp q with q | q
          · obtain ⟨q1, q2⟩ := Bool.and_eq_true_iff.mp q
            exact ⟨q1, .inl q2⟩
          · obtain ⟨q1, q2⟩ := Bool.and_eq_true_iff.mp q
            exact ⟨q1, .inr ((hOx a).mp q2)⟩
        have hz : ∀ u ∈ row a, Z u = true := by
          rcases q0.2 with x | x
          · exact (hX a x).2
          · exact hcl a x
        exact ⟨hT a _ (g1 a q0.1), hz _ (g1 a q0.1)⟩
      · have qB : ∀ a, (B a && X a || B a && decide (∃ t, t < T ∧ Z t = true ∧ own t = some a)) = true → B a = true := fun a q => by
          rcases Bool.or_eq_true_iff.mp q with q | q <;> exact (Bool.and_eq_true_iff.mp q).1
        exact g2 a b (qB a q) (qB b q') e
    · intro a _ q
      obtain ⟨q1, q2⟩ := Bool.and_eq_true_iff.mp q
      have := (hX a q2).1
      cases z : decide (∃ t, t < T ∧ Z t = true ∧ own t = some a) with
      | false =>
        show (B a && decide (∃ t, t < T ∧ Z t = true ∧ own t = some a)) = false
        rw [z, Bool.and_false]
      | true =>
        obtain ⟨t, _, o⟩ := (hOx a).mp z
        rw [ho.who t a o] at this; cases this
/-- a search for e that succeeds -/
theorem Owns.won {A : S} {own own' : Own} {e : Nat} (h : Owns row A own) (he : A e = false) (W : Won row e own [] own') : Owns row (ins A e) own' where
  val := W.val
  inj := fun t u a h1 h2 => W.inj (fun t _ q => by rw [h.who t e q] at he; cases he) (fun t u a _ _ => h.inj t u a) t u a (by simp) (by simp) h1 h2
  who := fun t a q => by
    rcases W.who t a (by simp) q with z | ⟨u, _, z⟩
    · rw [z]; exact ins_self _ _
    · exact ins_of (h.who u a z)
  cov := fun a q => by
    rcases of_ins q with z | z
    · obtain ⟨t, _, w⟩ := W.got
      exact ⟨t, by rw [z]; exact w⟩
    · obtain ⟨t, o⟩ := h.cov a z
      obtain ⟨u, _, w⟩ := W.cov a ⟨t, by simp, o⟩
      exact ⟨u, w⟩
/-- .. that fails -/
theorem Owns.lost {A : S} {own own' : Own} {e : Nat} {Z' : List Nat} (h : Owns row A own) (hA : ∀ x, A x = true → x < n) (hn : e < n) (he : A e = false) (hT : ∀ e t, t ∈ row e → t < T) (L : Lost row own [] own' Z') (hr : ∀ u ∈ row e, u ∈ Z') : ¬ IMat row n (ins A e) := by
  intro hB
  obtain ⟨O, o1, o2, _⟩ := hall (Z := mem Z') (X := fun x => x == e) h hA hT (fun t z => by
    obtain ⟨a, a1, a2⟩ := L.new t (mem_true.mp z) (by simp)
    exact ⟨a, a1, fun u hu => mem_true.mpr (a2 u hu)⟩) (fun x q => by
      have : x = e := by simpa using q
      subst this
      exact ⟨he, fun u hu => mem_true.mpr (hr u hu)⟩) hB
  have c1 : cnt n (fun x => ins A e x && x == e) = cnt n (fun _ => false) + 1 := cnt_one hn rfl (by simp [ins_self]) fun y _ hy => by simp [hy]
  have c2 : cnt n (fun x => ins A e x && O x) = cnt n O := cnt_congr fun x _ => by
    cases q : O x with
    | false => simp
    | true => simp [ins_of (o1 x q)]
  rw [c1, c2, cnt_zero] at o2
  omega

theorem mat_mat (hT : ∀ e t, t ∈ row e → t < T) : Mat n (IMat row n) where
  emp := ⟨fun _ h => (by cases h), fun _ => 0, fun _ h => (by cases h), fun _ _ h => (by cases h)⟩
  sup := fun A x h => h.1 x
  sub := fun A B h hB => ⟨fun x q => hB.1 x (h x q), let ⟨g, g1, g2⟩ := hB.2; ⟨g, fun a q => g1 a (h a q), fun a b q q' => g2 a b (h a q) (h b q')⟩⟩
  aug := fun A B hA hB hc => by
    apply Classical.byContradiction
    intro hno
    obtain ⟨own, ho⟩ := owns_of hA
    have each : ∀ b, b < n → B b = true → A b = false → Lost row own [] (find row (T + 1) b own []).2.1 (find row (T + 1) b own []).2.2 ∧ ∀ u ∈ row b, u ∈ (find row (T + 1) b own []).2.2 := fun b hb b1 b2 => by
      have := (find_ok row T hT (T + 1)).1 b own [] ho.val (by omega)
      split at this
      · rename_i own' seen' heq
        exact absurd ⟨b, hb, b1, b2, (ho.won b2 this).mat fun x q => (of_ins q).elim (fun e => e ▸ hb) (hA.1 x)⟩ hno
      · rename_i own' seen' heq
        rw [heq]; exact this
    have hx : ∀ t, decide (∃ b, b < n ∧ B b = true ∧ A b = false ∧ t ∈ (find row (T + 1) b own []).2.2) = true ↔ ∃ b, b < n ∧ B b = true ∧ A b = false ∧ t ∈ (find row (T + 1) b own []).2.2 := fun t => decide_eq_true_iff
    obtain ⟨O, o1, o2, _⟩ := hall (Z := fun t => decide (∃ b, b < n ∧ B b = true ∧ A b = false ∧ t ∈ (find row (T + 1) b own []).2.2)) (X := fun x => decide (x < n) && B x && !A x) ho hA.1 hT (fun t z => by
      obtain ⟨b, hb, b1, b2, b3⟩ := (hx t).mp z
      obtain ⟨a, a1, a2⟩ := (each b hb b1 b2).1.new t b3 (by simp)
      exact ⟨a, a1, fun u hu => (hx u).mpr ⟨b, hb, b1, b2, a2 u hu⟩⟩) (fun x q => by
        simp only [Bool.and_eq_true, decide_eq_true_eq, Bool.not_eq_true'] at q
        obtain ⟨⟨x1, x2⟩, x3⟩ := q
        exact ⟨x3, fun u hu => (hx u).mpr ⟨x, x1, x2, x3, (each x x1 x2 x3).2 u hu⟩⟩) hB
    have e1 : cnt n (fun e => B e && (decide (e < n) && B e && !A e)) = cnt n (fun e => B e && !A e) := cnt_congr fun x hx => by
      cases B x <;> simp [hx]
    have e2 := cnt_split B A n
    have e3 := cnt_split A B n
    have e4 := cnt_split O B n
    have e5 : cnt n (fun x => O x && B x) = cnt n (fun e => B e && O e) := cnt_congr fun x _ => Bool.and_comm _ _
    have e6 : cnt n (fun x => O x && !B x) ≤ cnt n (fun x => A x && !B x) := cnt_mono fun x _ q => by
      simp only [Bool.and_eq_true] at q ⊢
      exact ⟨o1 x q.1, q.2⟩
    have e7 : cnt n (fun x => B x && A x) = cnt n (fun x => A x && B x) := cnt_congr fun x _ => Bool.and_comm _ _
    rw [e1] at o2
    omega

/-- how many the program's searches serve -/
def kuhn (row : Nat → List Nat) (k : Nat) : Own → List Nat → Nat
  | _, [] => 0
  | own, e :: es => (if (find row k e own []).1 = true then 1 else 0) + kuhn row k (find row k e own []).2.1 es
theorem kuhn_le (k : Nat) : ∀ (xs : List Nat) (own : Own), kuhn row k own xs ≤ xs.length
  | [], _ => Nat.le_refl _
  | e :: es, own => by
    show (if (find row k e own []).1 = true then 1 else 0) + kuhn row k (find row k e own []).2.1 es ≤ es.length + 1
    have := kuhn_le k es (find row k e own []).2.1
    split <;> omega
theorem kuhn_from (hT : ∀ e t, t ∈ row e → t < T) : ∀ (xs : List Nat) (A : S) (own : Own), Owns row A own → (∀ x, A x = true → x < n) → xs.Nodup → (∀ e ∈ xs, e < n ∧ A e = false) →
    (kuhn row (T + 1) own xs = xs.length ↔ IMat row n (fun e => A e || decide (e ∈ xs)))
  | [], A, own, ho, hA, _, _ => by
    have e : (fun e => A e || decide (e ∈ ([] : List Nat))) = A := by funext e; simp
    rw [e]
    exact ⟨fun _ => ho.mat hA, fun _ => rfl⟩
  | e :: es, A, own, ho, hA, hnd, hx => by
    obtain ⟨he, hAe⟩ := hx e List.mem_cons_self
    have nd := List.nodup_cons.mp hnd
    have := (find_ok row T hT (T + 1)).1 e own [] ho.val (by omega)
    show (if (find row (T + 1) e own []).1 = true then 1 else 0) + kuhn row (T + 1) (find row (T + 1) e own []).2.1 es = es.length + 1 ↔ _
    have hle := kuhn_le (row := row) (T + 1) es (find row (T + 1) e own []).2.1
    split at this
    · rename_i own' seen' heq
      rw [heq] at hle ⊢
      rw [if_pos rfl]
      have ih := kuhn_from hT es (ins A e) own' (ho.won hAe this) (fun x q => (of_ins q).elim (fun z => z ▸ he) (hA x)) nd.2 fun x q => ⟨(hx x (List.mem_cons_of_mem _ q)).1, by
        rw [ins_ne (fun z : x = e => nd.1 (z ▸ q))]; exact (hx x (List.mem_cons_of_mem _ q)).2⟩
      have eq : (fun x => ins A e x || decide (x ∈ es)) = fun x => A x || decide (x ∈ e :: es) := by
        funext x
        by_cases q : x = e
        · subst q; simp [ins_self]
        · rw [ins_ne q]; simp [q]
      rw [eq] at ih
      rw [← ih]
      show 1 + kuhn row (T + 1) own' es = es.length + 1 ↔ _
      omega
    · rename_i own' seen' heq
      rw [heq] at hle ⊢
      rw [if_neg Bool.false_ne_true]
      have no := ho.lost hA he hAe hT this.1 this.2
      constructor
      · intro q
        have hle : kuhn row (T + 1) own' es ≤ es.length := hle
        have q : 0 + kuhn row (T + 1) own' es = es.length + 1 := q
        omega
      · intro q
        refine absurd ((mat_mat (n := n) hT).sub _ _ (fun x z => ?_) q) no
        rcases of_ins z with z | z
        · simp [z]
        · simp [z]
theorem kuhn_ok (hT : ∀ e t, t ∈ row e → t < T) {xs : List Nat} (hnd : xs.Nodup) (hx : ∀ e ∈ xs, e < n) : kuhn row (T + 1) (fun _ => none) xs = xs.length ↔ IMat row n (mem xs) := by
  have := kuhn_from (n := n) hT xs (fun _ => false) (fun _ => none) ⟨fun _ _ h => (by cases h), fun _ _ _ h => (by cases h), fun _ _ h => (by cases h), fun _ h => (by cases h)⟩ (fun _ h => (by cases h)) hnd fun e he => ⟨hx e he, rfl⟩
  rw [this]
  have e : (fun e => false || decide (e ∈ xs)) = mem xs := by funext x; simp [mem]
  rw [e]

/-- the law's search -/
def given (row : Nat → List Nat) : List Nat → List Nat → Bool
  | [], _ => true
  | e :: es, taken => (row e).any fun t => !decide (t ∈ taken) && given row es (taken ++ [t])
theorem given_iff : ∀ (xs : List Nat) (taken : List Nat), xs.Nodup → (given row xs taken = true ↔ ∃ g : Nat → Nat, (∀ a ∈ xs, g a ∈ row a ∧ g a ∉ taken) ∧ ∀ a ∈ xs, ∀ b ∈ xs, g a = g b → a = b)
  | [], taken, _ => by simp [given]
  | e :: es, taken, hnd => by
    have nd := List.nodup_cons.mp hnd
    unfold given
    rw [List.any_eq_true]
    constructor
    · rintro ⟨t, ht, q⟩
      simp only [Bool.and_eq_true, Bool.not_eq_true', decide_eq_false_iff_not] at q
      obtain ⟨g, g1, g2⟩ := (given_iff es (taken ++ [t]) nd.2).mp q.2
      refine ⟨fun a => if a = e then t else g a, fun a ha => ?_, fun a ha b hb he => ?_⟩
      · rcases List.mem_cons.mp ha with z | z
        · subst z; simp only [if_true]; exact ⟨ht, q.1⟩
        · have : a ≠ e := fun w => nd.1 (w ▸ z)
          simp only [this, if_false]
          exact ⟨(g1 a z).1, fun w => (g1 a z).2 (by simp [w])⟩
      · have nt : ∀ a ∈ es, g a ≠ t := fun a ha w => (g1 a ha).2 (by simp [w])
        rcases List.mem_cons.mp ha with z | z <;> rcases List.mem_cons.mp hb with w | w
        · rw [z, w]
        · subst z
          have : b ≠ a := fun v => nd.1 (v ▸ w)
          simp only [this, if_true, if_false] at he
          exact absurd he.symm (nt b w)
        · subst w
          have : a ≠ b := fun v => nd.1 (v ▸ z)
          simp only [this, if_true, if_false] at he
          exact absurd he (nt a z)
        · have h1 : a ≠ e := fun v => nd.1 (v ▸ z)
          have h2 : b ≠ e := fun v => nd.1 (v ▸ w)
          simp only [h1, h2, if_false] at he
          exact g2 a z b w he
    · rintro ⟨g, g1, g2⟩
      refine ⟨g e, (g1 e List.mem_cons_self).1, ?_⟩
      simp only [Bool.and_eq_true, Bool.not_eq_true', decide_eq_false_iff_not]
      refine ⟨(g1 e List.mem_cons_self).2, (given_iff es _ nd.2).mpr ⟨g, fun a ha => ⟨(g1 a (List.mem_cons_of_mem _ ha)).1, fun w => ?_⟩, fun a ha b hb => g2 a (List.mem_cons_of_mem _ ha) b (List.mem_cons_of_mem _ hb)⟩⟩
      rcases List.mem_append.mp w with w | w
      · exact (g1 a (List.mem_cons_of_mem _ ha)).2 w
      · have := g2 a (List.mem_cons_of_mem _ ha) e List.mem_cons_self (by simpa using w)
        exact nd.1 (this ▸ ha)
theorem given_ok {xs : List Nat} (hnd : xs.Nodup) (hx : ∀ e ∈ xs, e < n) : given row xs [] = true ↔ IMat row n (mem xs) := by
  rw [given_iff xs [] hnd]
  constructor
  · rintro ⟨g, g1, g2⟩
    exact ⟨fun x q => hx x (mem_true.mp q), g, fun a q => (g1 a (mem_true.mp q)).1, fun a b q q' => g2 a (mem_true.mp q) b (mem_true.mp q')⟩
  · rintro ⟨_, g, g1, g2⟩
    exact ⟨g, fun a q => ⟨g1 a (mem_true.mpr q), by simp⟩, fun a q b q' => g2 a b (mem_true.mpr q) (mem_true.mpr q')⟩
end

/-! ### bounds -/
/-- nested sets with bounds, within U -/
inductive Fam (n : Nat) : S → List (List Nat × Nat) → Prop where
  | nil {U : S} : Fam n U []
  | cons {U : S} {g : List Nat} {k : Nat} {gs : List (List Nat × Nat)} : (∀ x, x < n → U x = mem g x) → Fam n U gs → Fam n U ((g, k) :: gs)
  | app {U V W : S} {gs hs : List (List Nat × Nat)} : (∀ x, x < n → V x = true → W x = false) → (∀ x, x < n → U x = (V x || W x)) → Fam n V gs → Fam n W hs → Fam n U (gs ++ hs)
def IBnd (n : Nat) (gs : List (List Nat × Nat)) (A : S) : Prop := (∀ x, A x = true → x < n) ∧ ∀ p ∈ gs, cnt n (fun e => A e && mem p.1 e) ≤ p.2
section
variable {n : Nat}
theorem Fam.inside {U : S} {gs : List (List Nat × Nat)} (h : Fam n U gs) : ∀ p ∈ gs, ∀ x, x < n → mem p.1 x = true → U x = true := by
  induction h with
  | nil => intro p hp; cases hp
  | cons hU _ ih =>
    intro p hp x hx q
    rcases List.mem_cons.mp hp with e | hp
    · subst e; rw [hU x hx]; exact q
    · exact ih p hp x hx q
  | app _ hU _ _ ih1 ih2 =>
    intro p hp x hx q
    rw [hU x hx]
    rcases List.mem_append.mp hp with hp | hp
    · simp [ih1 p hp x hx q]
    · simp [ih2 p hp x hx q]
theorem Fam.aug {U : S} {gs : List (List Nat × Nat)} (h : Fam n U gs) : ∀ (A B : S), (∀ p ∈ gs, cnt n (fun e => A e && mem p.1 e) ≤ p.2) → (∀ p ∈ gs, cnt n (fun e => B e && mem p.1 e) ≤ p.2) → cnt n (fun e => A e && U e) < cnt n (fun e => B e && U e) →
    ∃ x, x < n ∧ U x = true ∧ B x = true ∧ A x = false ∧ ∀ p ∈ gs, cnt n (fun e => ins A x e && mem p.1 e) ≤ p.2 := by
  induction h with
  | nil =>
    intro A B _ _ hc
    obtain ⟨x, hx, x1, x2⟩ := cnt_lt_ex hc
    simp only [Bool.and_eq_true] at x1
    simp only [x1.2, Bool.and_true] at x2
    exact ⟨x, hx, x1.2, x1.1, x2, fun p hp => by cases hp⟩
  | @cons U g k gs hU _ ih =>
    intro A B hA hB hc
    obtain ⟨x, hx, x0, x1, x2, x3⟩ := ih A B (fun p hp => hA p (List.mem_cons_of_mem _ hp)) (fun p hp => hB p (List.mem_cons_of_mem _ hp)) hc
    refine ⟨x, hx, x0, x1, x2, fun p hp => ?_⟩
    rcases List.mem_cons.mp hp with e | hp
    · subst e
      have b := hB (g, k) List.mem_cons_self
      have e1 : cnt n (fun e => B e && mem g e) = cnt n (fun e => B e && U e) := cnt_congr fun y hy => by rw [hU y hy]
      have e2 : cnt n (fun e => ins A x e && mem g e) = cnt n (fun e => A e && U e) + 1 := by
        refine cnt_one hx (by simp [x2]) ?_ fun y hy hyx => ?_
        · rw [← hU x hx]; simp [ins_self, x0]
        · rw [ins_ne hyx, hU y hy]
      have b : cnt n (fun e => B e && mem g e) ≤ k := b
      show cnt n (fun e => ins A x e && mem g e) ≤ k
      omega
    · exact x3 p hp
  | @app U V W gs hs hVW hU h1 h2 ih1 ih2 =>
    intro A B hA hB hc
    have sp : ∀ C : S, cnt n (fun e => C e && U e) = cnt n (fun e => C e && V e) + cnt n (fun e => C e && W e) := fun C => by
      rw [← cnt_or]
      · refine cnt_congr fun x hx => ?_
        rw [hU x hx]
        cases C x <;> simp
      · intro x hx q
        simp only [Bool.and_eq_true] at q
        simp [hVW x hx q.2]
    rw [sp, sp] at hc
    have other : ∀ {P : S} {ps : List (List Nat × Nat)} {x : Nat}, Fam n P ps → x < n → P x = false → ∀ p ∈ ps, cnt n (fun e => ins A x e && mem p.1 e) = cnt n (fun e => A e && mem p.1 e) := fun {P ps x} hP hx hPx p hp => cnt_congr fun y hy => by
      by_cases e : y = x
      · subst e
        have : mem p.1 y = false := by
          cases q : mem p.1 y with
          | false => rfl
          | true => rw [hP.inside p hp y hy q] at hPx; cases hPx
        simp [this]
      · rw [ins_ne e]
    by_cases hc1 : cnt n (fun e => A e && V e) < cnt n (fun e => B e && V e)
    · obtain ⟨x, hx, x0, x1, x2, x3⟩ := ih1 A B (fun p hp => hA p (List.mem_append_left _ hp)) (fun p hp => hB p (List.mem_append_left _ hp)) hc1
      refine ⟨x, hx, by rw [hU x hx, x0]; rfl, x1, x2, fun p hp => ?_⟩
      rcases List.mem_append.mp hp with hp | hp
      · exact x3 p hp
      · rw [other h2 hx (hVW x hx x0) p hp]
        exact hA p (List.mem_append_right _ hp)
    · obtain ⟨x, hx, x0, x1, x2, x3⟩ := ih2 A B (fun p hp => hA p (List.mem_append_right _ hp)) (fun p hp => hB p (List.mem_append_right _ hp)) (by omega)
      refine ⟨x, hx, by rw [hU x hx, x0]; simp, x1, x2, fun p hp => ?_⟩
      rcases List.mem_append.mp hp with hp | hp
      · rw [other h1 hx (by
          cases q : V x with
          | false => rfl
          | true => rw [hVW x hx q] at x0; cases x0) p hp]
        exact hA p (List.mem_append_left _ hp)
      · exact x3 p hp
theorem bnd_mat {U : S} {gs : List (List Nat × Nat)} (h : Fam n U gs) (hU : ∀ x, x < n → U x = true) : Mat n (IBnd n gs) where
  emp := ⟨fun _ h => (by cases h), fun p _ => by
    have : cnt n (fun e => (fun _ => false) e && mem p.1 e) = cnt n fun _ => false := cnt_congr fun _ _ => by simp
    rw [this, cnt_zero]; exact Nat.zero_le _⟩
  sup := fun A x h => h.1 x
  sub := fun A B h hB => ⟨fun x q => hB.1 x (h x q), fun p hp => Nat.le_trans (cnt_mono fun x _ q => by
    simp only [Bool.and_eq_true] at q ⊢
    exact ⟨h x q.1, q.2⟩) (hB.2 p hp)⟩
  aug := fun A B hA hB hc => by
    have e : ∀ C : S, cnt n (fun e => C e && U e) = cnt n C := fun C => cnt_congr fun x hx => by simp [hU x hx]
    obtain ⟨x, hx, _, x1, x2, x3⟩ := h.aug A B hA.2 hB.2 (by rw [e, e]; exact hc)
    exact ⟨x, hx, x1, x2, fun y q => (of_ins q).elim (fun z => z ▸ hx) (hA.1 y), x3⟩
/-- the program's greedy way -/
def inGrp (gs : List (List Nat × Nat)) (taken : List Nat) (e : Nat) : Bool := gs.all fun p => !decide (e ∈ p.1) || decide ((taken.filter fun x => decide (x ∈ p.1)).length < p.2)
def greedy (gs : List (List Nat × Nat)) : List Nat → List Nat → List Nat
  | taken, [] => taken
  | taken, e :: es => greedy gs (if inGrp gs taken e = true then taken ++ [e] else taken) es
theorem greedy_len {gs : List (List Nat × Nat)} : ∀ (xs taken : List Nat), (greedy gs taken xs).length ≤ taken.length + xs.length
  | [], taken => Nat.le_refl _
  | e :: es, taken => by
    unfold greedy
    have := greedy_len (gs := gs) es (if inGrp gs taken e = true then taken ++ [e] else taken)
    rw [List.length_cons]
    split at this
    · rename_i h; rw [if_pos h]; rw [List.length_append] at this; simp at this; omega
    · rename_i h; rw [if_neg h]; omega
theorem greedy_all {gs : List (List Nat × Nat)} : ∀ (xs taken : List Nat), (∀ p ∈ gs, (taken.filter fun x => decide (x ∈ p.1)).length ≤ p.2) → ((greedy gs taken xs).length = taken.length + xs.length ↔ ∀ p ∈ gs, ((taken ++ xs).filter fun x => decide (x ∈ p.1)).length ≤ p.2)
  | [], taken, h => by
    simp only [greedy, List.append_nil, List.length_nil, Nat.add_zero, true_iff]
    exact h
  | e :: es, taken, h => by
    unfold greedy
    by_cases q : inGrp gs taken e = true
    · rw [if_pos q]
      have q' : ∀ p ∈ gs, e ∈ p.1 → (taken.filter fun x => decide (x ∈ p.1)).length < p.2 := fun p hp he => by
        have := (List.all_eq_true.mp q) p hp
        simpa [he] using this
      have ih := greedy_all (gs := gs) es (taken ++ [e]) fun p hp => by
        rw [List.filter_append, List.length_append]
        by_cases he : e ∈ p.1
        · have := q' p hp he
          simp [he]; omega
        · have := h p hp
          simp [he]; omega
      rw [List.append_assoc, List.singleton_append] at ih
      rw [← ih, List.length_append, List.length_cons, List.length_singleton]
      omega
    · rw [if_neg q]
      have := greedy_len (gs := gs) es taken
      constructor
      · intro z
        rw [List.length_cons] at z; omega
      · intro z
        exfalso
        apply q
        refine List.all_eq_true.mpr fun p hp => ?_
        by_cases he : e ∈ p.1
        · have := z p hp
          rw [List.filter_append, List.length_append, List.filter_cons] at this
          simp [he] at this
          simp [he]; omega
        · simp [he]
theorem filter_cnt {xs g : List Nat} (hs : xs.Pairwise (· < ·)) (hx : ∀ e ∈ xs, e < n) : (xs.filter fun x => decide (x ∈ g)).length = cnt n (fun e => mem xs e && mem g e) := by
  rw [← length_lst]
  congr 1
  refine sorted_eq (hs.filter _) (lst_sorted _ _) fun e => ?_
  rw [List.mem_filter, mem_lst]
  simp only [Bool.and_eq_true, mem_true, decide_eq_true_eq]
  exact ⟨fun ⟨a, b⟩ => ⟨hx e a, a, b⟩, fun ⟨_, a, b⟩ => ⟨a, b⟩⟩
theorem greedy_ok {gs : List (List Nat × Nat)} {xs : List Nat} (hs : xs.Pairwise (· < ·)) (hx : ∀ e ∈ xs, e < n) : (greedy gs [] xs).length = xs.length ↔ IBnd n gs (mem xs) := by
  have := greedy_all (gs := gs) xs [] (fun p _ => by simp)
  simp only [List.length_nil, Nat.zero_add, List.nil_append] at this
  rw [this]
  constructor
  · intro h
    exact ⟨fun x q => hx x (mem_true.mp q), fun p hp => by rw [← filter_cnt hs hx]; exact h p hp⟩
  · intro h p hp
    rw [filter_cnt hs hx]; exact h.2 p hp
end
end Bst

set_option Elab.async false
set_option linter.all false
/-! Vectors modulo 2 of length 3: the elimination and the spans. -/
namespace Bst
def bits (c : Nat) : List Nat := [c % 2, c / 2 % 2, c / 4 % 2]
def piv (c : Nat) : Nat := if c % 2 = 1 then 0 else if c / 2 % 2 = 1 then 1 else 2
def red1 (a b : Nat) : Nat := if a / 2 ^ piv b % 2 = 1 then a ^^^ b else a
def red (rows : List Nat) (c : Nat) : Nat := rows.foldl red1 c
def addR (rows : List Nat) (c : Nat) : List Nat := if red rows c = 0 then rows else rows ++ [red rows c]
def msk (rows : List Nat) : Nat := rows.foldl vStep 1
def okR : List Nat → Bool
  | [] => true
  | b :: r => decide (0 < b ∧ b < 8) && r.all (fun c => c / 2 ^ piv b % 2 == 0) && okR r
def chk (rows : List Nat) : Bool := !okR rows || (List.range 8).all fun v => decide (red rows v < 8) && (if red rows v = 0 then vIn (msk rows) v && (vStep (msk rows) v == msk rows) else !vIn (msk rows) v && (okR (rows ++ [red rows v]) && decide (rows.length < 3) && (msk (rows ++ [red rows v]) == vStep (msk rows) v)))
theorem chk0 : chk [] = true := by decide +kernel
theorem chk1 : ∀ a < 8, chk [a] = true := by decide +kernel
theorem chk2 : ∀ a < 8, ∀ b < 8, chk [a, b] = true := by decide +kernel
theorem chk3 : ∀ a < 8, ∀ b < 8, ∀ c < 8, chk [a, b, c] = true := by decide +kernel
theorem okR_lt : ∀ {rows : List Nat}, okR rows = true → ∀ b ∈ rows, 0 < b ∧ b < 8
  | [], _, _, h => by cases h
  | a :: r, h, b, hb => by
    unfold okR at h
    simp only [Bool.and_eq_true, decide_eq_true_eq] at h
    rcases List.mem_cons.mp hb with rfl | hb
    · exact h.1.1
    · exact okR_lt h.2 b hb
theorem chk_all {rows : List Nat} (h : okR rows = true) (hl : rows.length ≤ 3) : chk rows = true := by
  have lt := fun b hb => (okR_lt h b hb).2
  match rows, hl with
  | [], _ => exact chk0
  | [a], _ => exact chk1 a (lt a (by simp))
  | [a, b], _ => exact chk2 a (lt a (by simp)) b (lt b (by simp))
  | [a, b, c], _ => exact chk3 a (lt a (by simp)) b (lt b (by simp)) c (lt c (by simp))
structure RowsOk (rows : List Nat) : Prop where
  ok : okR rows = true
  len : rows.length ≤ 3
theorem RowsOk.nil : RowsOk [] := ⟨rfl, by decide⟩
theorem RowsOk.red {rows : List Nat} (R : RowsOk rows) {v : Nat} (hv : v < 8) : red rows v < 8 ∧ (if red rows v = 0 then vIn (msk rows) v = true ∧ vStep (msk rows) v = msk rows else vIn (msk rows) v = false ∧ okR (rows ++ [red rows v]) = true ∧ rows.length < 3 ∧ msk (rows ++ [red rows v]) = vStep (msk rows) v) := by
  have h := chk_all R.ok R.len
  unfold chk at h
  rw [R.ok] at h
  simp only [Bool.not_true, Bool.false_or, List.all_eq_true, Bool.and_eq_true, decide_eq_true_eq] at h
  obtain ⟨h1, h2⟩ := h v (List.mem_range.mpr hv)
  refine ⟨h1, ?_⟩
  by_cases e : Bst.red rows v = 0
  · rw [if_pos e] at h2 ⊢
    simpa using h2
  · rw [if_neg e] at h2 ⊢
    simp at h2
    exact ⟨h2.1, h2.2.1.1, h2.2.1.2, h2.2.2⟩
theorem RowsOk.add {rows : List Nat} (R : RowsOk rows) {v : Nat} (hv : v < 8) : RowsOk (addR rows v) ∧ msk (addR rows v) = vStep (msk rows) v ∧ (addR rows v).length = rows.length + (if vIn (msk rows) v = true then 0 else 1) := by
  have h := (R.red hv).2
  unfold addR
  by_cases e : Bst.red rows v = 0
  · rw [if_pos e] at h ⊢
    exact ⟨R, h.2.symm, by rw [h.1]; rfl⟩
  · rw [if_neg e] at h ⊢
    exact ⟨⟨h.2.1, by simp; omega⟩, h.2.2.2, by rw [h.1]; simp⟩
def rowsL (vec : Nat → Nat) (rows : List Nat) (l : List Nat) : List Nat := l.foldl (fun rows e => addR rows (vec e)) rows
theorem rowsL_ok {vec : Nat → Nat} : ∀ (l : List Nat) (rows : List Nat), RowsOk rows → (∀ e ∈ l, vec e < 8) → RowsOk (rowsL vec rows l) ∧ (rowsL vec rows l).length = rows.length + rkL vStep vIn vec (msk rows) l
  | [], rows, R, _ => ⟨R, rfl⟩
  | e :: l, rows, R, h => by
    obtain ⟨a, b, c⟩ := R.add (h e (by simp))
    obtain ⟨d, f⟩ := rowsL_ok l (addR rows (vec e)) a fun x hx => h x (by simp [hx])
    refine ⟨d, ?_⟩
    show (rowsL vec (addR rows (vec e)) l).length = rows.length + ((if vIn (msk rows) (vec e) = true then 0 else 1) + rkL vStep vIn vec (vStep (msk rows) (vec e)) l)
    rw [f, b, c]
    omega
theorem bits_red : ∀ a < 8, ∀ b < 8, (List.range 3).map (fun i => (((bits a).getD i 0 : Nat) : Int) - ((bits a).getD (piv b) 0 : Nat) * ((bits b).getD i 0 : Nat)) = (List.range 3).map (fun i => (((bits a).getD i 0 : Nat) : Int) - ((a / 2 ^ piv b % 2 : Nat) : Int) * ((bits b).getD i 0 : Nat)) := by decide +kernel
theorem bits_red2 : ∀ a < 8, ∀ b < 8, ∀ i < 3, ((((bits a).getD i 0 : Nat) : Int) - ((bits a).getD (piv b) 0 : Nat) * ((bits b).getD i 0 : Nat)) % 2 = (((bits (red1 a b)).getD i 0 : Nat) : Int) := by decide +kernel
theorem red1_lt : ∀ a < 8, ∀ b < 8, red1 a b < 8 := by decide +kernel
theorem piv_lt (b : Nat) : piv b < 3 := by unfold piv; split <;> (try split) <;> omega
theorem bits_piv : ∀ a < 8, a ≠ 0 → (List.range 3).filter (fun i => (bits a).getD i 0 != 0) = piv a :: ((List.range 3).filter (fun i => (bits a).getD i 0 != 0)).tail ∧ (bits a).getD (piv a) 0 = 1 := by decide +kernel
theorem bits_zero : (List.range 3).filter (fun i => (bits 0).getD i 0 != 0) = [] := by decide +kernel
theorem bits_len (a : Nat) : (bits a).length = 3 := rfl
theorem bits_le (a : Nat) : ∀ e ∈ bits a, e < 2 := fun e he => by
  unfold bits at he
  simp at he
  omega
end Bst

set_option Elab.async false
set_option linter.all false
/-! The rank of a set by the ranks of the sets with one element less. -/
namespace Bst
variable {n : Nat} {I : S → Prop}
theorem rank_free {T : S} (h : I T) : IsRank n I T (cnt n T) := ⟨⟨T, h, fun _ q => q, rfl⟩, fun J _ hs => cnt_mono fun x _ q => hs x q⟩
theorem rank_max {T : S} (hn : ¬ I T) {rs : Nat → Nat} (h : ∀ e, T e = true → IsRank n I (del T e) (rs e)) {m : Nat} (m1 : ∃ e, T e = true ∧ rs e = m) (m2 : ∀ e, T e = true → rs e ≤ m) : IsRank n I T m := by
  obtain ⟨e, he, rfl⟩ := m1
  refine ⟨?_, fun J hJ hs => ?_⟩
  · obtain ⟨⟨J, hJ, hs, hc⟩, _⟩ := h e he
    exact ⟨J, hJ, fun x q => (of_del (hs x q)).2, hc⟩
  · rcases Classical.em (∃ y, T y = true ∧ J y = false) with ⟨y, hy, hj⟩ | no
    · refine Nat.le_trans ((h y hy).2 J hJ fun x q => ?_) (m2 y hy)
      have hne : x ≠ y := fun z => by rw [z, hj] at q; cases q
      rw [del_ne hne]; exact hs x q
    · refine absurd ?_ hn
      have : T = J := by
        funext x
        cases q : T x with
        | false =>
          cases q2 : J x with
          | false => rfl
          | true => rw [hs x q2] at q; cases q
        | true =>
          cases q2 : J x with
          | false => exact absurd ⟨x, q, q2⟩ no
          | true => rfl
      rw [this]; exact hJ
theorem cnt_sub_of {A B : S} (h : Sub B A) (hB : ∀ x, B x = true → x < n) : cnt n (fun e => A e && !B e) + cnt n B = cnt n A := by
  have h1 := cnt_split A B n
  have h2 : cnt n (fun x => A x && B x) = cnt n B := cnt_congr fun x _ => by
    cases q : B x with
    | false => simp
    | true => rw [h x q]; rfl
  omega
end Bst

set_option Elab.async false
set_option linter.all false
set_option maxRecDepth 100000
set_option maxHeartbeats 2000000
/-! Generator expressions whose element calls: the frame, the turns, what a consumer sees. -/
namespace Gx
open PySem PySem.Spec PyProof.Rows L2 GenW
open GxR (TabB TabG Tabbed)

/-- the context of a generator expression's frame -/
abbrev gcx (X : Cx) (A' : Around) (s : Shared) (H : Hp) (genv : Env) (fp : List Addr) : Cx :=
  { X with A := A', s_0 := s, H_0 := H, env := genv, outer := X.stack, stack := genv :: X.stack, ex := fp, fn := fun _ => false, calm := true, pn := [], xe := fun _ _ => False }
/-- a generator expression's scope: its own names with their places, captured names -/
structure GScp (N : List Str) (sc scope : Scope) (own : List (Str × Nat)) : Prop where
  blk : BlkOk N sc scope own
  co : scope.isCoroutine = false
  cell : ∀ y ∈ scope.names, y.2 ≠ .cell
  dot : scope.names.lookup (".0" : Str) = some NameKind.local
section
variable {X : Cx} {pins : List (Addr × Obj)} {σ : L2.St} {H : Hp} {s : Shared}
theorem gen_start {scope : Scope} {own : List (Str × Nat)} {fp : List Addr} {code : Value} {A' : Around} {h5 : Heap} {g' : Array GenState} {d' : Drawn} {t' : Nat} {itv : Value}
    (I : Inv X pins σ H s) (G : GScp X.N X.env.scope scope own) (hN : X.N.Nodup) (hfp : ∀ b ∈ fp, FpOk X pins H b ∧ b < s.heap.objs.size)
    (hA : A'.frames = some (genEnv scope (cloFrom X.env.cells scope.names []) s.heap.objs.size code builtinsNs X.env :: X.stack)) (hh : A'.handled = none)
    (hn : h5.Ns s.heap.objs.size (fun y => if y = ".0" then some itv else none)) (hk : ∀ b o, s.heap.get? b = some o → h5.get? b = some o) (hg : AllBare g') :
    Inv (gcx X A' s H (genEnv scope (cloFrom X.env.cells scope.names []) s.heap.objs.size code builtinsNs X.env) fp) [] (wipe σ (own.map (·.2))) H { s with heap := h5, gens := g', drawn := d', toks := t' } := by
  have hfree : ∀ y ∈ scope.names, y.2 = .free → ∃ c, X.env.cells.lookup y.1 = some c := fun y hy e => by
    rcases G.blk.free y hy e with k | k
    · exact I.ok.has _ (.inl k)
    · exact I.ok.has _ (.inr k)
  generalize hcenv : genEnv scope (cloFrom X.env.cells scope.names []) s.heap.objs.size code builtinsNs X.env = cenv at hA
  have hL : cenv.locals = s.heap.objs.size := by rw [← hcenv]; rfl
  have hcl : cenv.cells = cloFrom X.env.cells scope.names [] := by rw [← hcenv]; rfl
  have hsc : cenv.scope = scope := by rw [← hcenv]; rfl
  have cm : ∀ {y c}, (y, c) ∈ cloFrom X.env.cells scope.names [] → X.env.cells.lookup y = some c ∧ c < s.heap.objs.size := fun {y c} hm => by
    rcases cloFrom_mem hm with hm | ⟨h1, rfl⟩
    · cases hm
    · obtain ⟨c, hc⟩ := hfree _ h1 rfl
      rw [hc]
      obtain ⟨w, z⟩ := I.cell _ _ hc
      exact ⟨rfl, z.lt⟩
  have mem : ∀ {y c}, cenv.cells.lookup y = some c → X.env.cells.lookup y = some c ∧ c < s.heap.objs.size := fun {y c} e => by
    rw [hcl] at e
    exact cm (PySem.mem_of_lookup e)
  have look : ∀ {y}, scope.names.lookup y = some .free → ∃ c, cenv.cells.lookup y = some c ∧ X.env.cells.lookup y = some c := fun {y} hl => by
    have hy : (y, NameKind.free) ∈ scope.names := PySem.mem_of_lookup hl
    obtain ⟨c', e'⟩ := mem_lookup (cloFrom_has (cells := X.env.cells) (acc := []) hy)
    rw [← hcl] at e'
    exact ⟨c', e', (mem e').1⟩
  have noCell : ∀ {y}, scope.names.lookup y ≠ some .cell := fun {y} q => G.cell _ (PySem.mem_of_lookup q) rfl
  have okB : (gcx X A' s H cenv fp).Ok := by
    refine ⟨I.ok.mod, by show cenv.scope.kind = _; rw [hsc]; exact G.blk.kind, by show cenv.globals = _; rw [← hcenv]; exact I.ok.glob, by show cenv.builtins = _; rw [← hcenv]; rfl, by show s.heap.objs.size ≤ cenv.locals; rw [hL]; exact Nat.le_refl _,
      fun y z c e1 e2 => ?_, fun y hy => ?_, fun y c z e => ?_, fun _ => hh, hA, .inr ⟨rfl, by show cenv.frame = some cenv.locals; rw [← hcenv]; rfl⟩, fun b hb => ⟨?_, fun y c e z => ?_⟩, I.bs, Nat.le_trans I.ok.bsz I.sz, fun b o e hb => ?_, fun b hb z => ?_, I.stack, I.stkFree⟩
    · exact I.ok.inj y z c (mem e1).1 (mem e2).1
    · show ∃ c, cenv.cells.lookup y = some c
      have key : ∀ k, cenv.kindOf y = some k → (k = .cell ∨ k = .free) → ∃ c, cenv.cells.lookup y = some c := fun k hk hk' => by
        unfold Env.kindOf at hk
        rw [hsc] at hk
        rcases hk' with rfl | rfl
        · exact absurd hk noCell
        · obtain ⟨c, h1, _⟩ := look hk
          exact ⟨c, h1⟩
      rcases hy with hy | hy
      · exact key _ hy (.inl rfl)
      · exact key _ hy (.inr rfl)
    · cases z
    · show b ≠ cenv.locals
      rw [hL]; exact Nat.ne_of_lt (hfp b hb).2
    · have e : cenv.cells.lookup y = some c := e
      exact (hfp b hb).1.2.2.2.2.1 y c (mem e).1 z
    · rcases (hfp b hb).1.2.2.2.1 with z | z
      · exact I.ok.noex b o e z
      · exact absurd (Nat.lt_of_lt_of_le (Heap.lt_size e) (Nat.le_trans I.ok.bsz z)) (Nat.lt_irrefl _)
    · rcases List.mem_cons.mp (I.stkSub b z) with z | z
      · exact (hfp b hb).1.2.1 z
      · exact (hfp b hb).1.2.2.1 z
  refine ⟨okB, rfl, hg, Un.kept hk, ⟨(fun y => if y = ".0" then some itv else none), ?_, fun i y av e1 e2 e3 => ?_⟩, fun y c e => ?_, ?_, fun y c e => ?_, fun p hp => ?_, I.hok.kept hk, by rw [wipe_length]; exact I.len⟩
  · show Heap.Ns _ cenv.locals _
    rw [hL]; exact hn
  · obtain ⟨e2, hne⟩ := wipe_some e2
    have hfr : scope.names.lookup y = some .free := by
      have key : ∀ k, cenv.scope.names.lookup y = some k → k = .local ∨ k = .cell ∨ k = .free → scope.names.lookup y = some .free := fun k hk hk' => by
        rw [hsc] at hk
        have no : ¬ (k = .local ∨ k = .cell) := fun hh => by
          rcases G.blk.own _ (PySem.mem_of_lookup hk) hh with e' | e'
          · obtain ⟨p, hp, hpy⟩ := List.mem_map.mp e'
            have e3 := G.blk.ix p hp
            have : p.1 = y := hpy
            rw [this] at e3
            exact hne (List.mem_map.mpr ⟨p, hp, nodup_ix hN e3 e1⟩)
          · exact e' (List.mem_of_getElem? e1)
        rcases hk' with rfl | rfl | rfl
        · exact absurd (.inl rfl) no
        · exact absurd (.inr rfl) no
        · exact hk
      have e3 : Vis cenv.scope y := e3
      rcases e3 with e3 | e3 | e3
      · exact key _ e3 (.inl rfl)
      · exact key _ e3 (.inr (.inl rfl))
      · exact key _ e3 (.inr (.inr rfl))
    obtain ⟨m, hn', hl⟩ := I.loc
    have hvis : Vis X.env.scope y := (G.blk.free _ (PySem.mem_of_lookup hfr) rfl).elim (fun k => .inr (.inl k)) (fun k => .inr (.inr k))
    obtain ⟨w, r, q⟩ := hl i y av e1 e2 hvis
    refine ⟨w, r, .inr ⟨.inr (by show cenv.kindOf y = _; unfold Env.kindOf; rw [hsc]; exact hfr), ?_⟩⟩
    obtain ⟨c, h1, h2⟩ := look hfr
    rcases q with ⟨k, _⟩ | ⟨_, c', e', z⟩
    · have k : X.env.scope.names.lookup y = some .local := k
      rcases G.blk.free _ (PySem.mem_of_lookup hfr) rfl with k' | k' <;> rw [show X.env.scope.names.lookup y = _ from k'] at k <;> cases k
    · rw [h2] at e'; cases e'
      exact ⟨c, h1, z.keeps hk⟩
  · have e : cenv.cells.lookup y = some c := e
    obtain ⟨w, z⟩ := I.cell y c (mem e).1
    exact ⟨w, z.keeps hk⟩
  · show H cenv.locals = none
    rw [hL]; exact I.hok.fresh (Nat.le_refl _)
  · have e : cenv.cells.lookup y = some c := e
    exact I.freeC y c (mem e).1
  · exact absurd (show p ∈ ([] : List (Addr × Obj)) ++ [] from hp) (by simp)
end

/-! ### the turns -/
/-- while the generator sleeps, its consumer changes the objects at sp alone -/
structure Wk (sp : List Addr) (s s' : Shared) : Prop where
  os : s'.os = s.os
  bare : AllBare s'.gens
  keep : ∀ b o, b ∉ sp → s.heap.get? b = some o → s'.heap.get? b = some o
  own : ∀ b ∈ sp, ∃ o, s'.heap.get? b = some o ∧ ∀ v, o.data ≠ .cell v
section
variable (X : Cx) (Xg : Cx) (fp : List Addr) (tn : Nat → Heap → Prop) (W : Nat → Nat → Hp → Prop) (Yw : Nat → Nat → V → Hp → Prop) (n : Nat) (σw : L2.St) (sp : List Addr)
/-- the consumer's objects stand apart -/
def SpOk (H : Hp) (s : Shared) : Prop := ∀ b ∈ sp, Xg.s_0.heap.objs.size ≤ b ∧ H b = none ∧ b ≠ Xg.env.locals ∧ b ∉ Xg.fs ∧ b ∉ fp ∧ (∃ o, s.heap.get? b = some o ∧ ∀ v, o.data ≠ .cell v) ∧ ∀ x c, Xg.env.cells.lookup x = some c → c ≠ b
def SpSame (sa s : Shared) : Prop := ∀ b ∈ sp, ∀ o, sa.heap.get? b = some o → s.heap.get? b = some o
/-- between two turns -/
structure Mid (i : Nat) (H : Hp) (s : Shared) : Prop where
  inv : Inv Xg [] σw H s
  it : tn i s.heap
  fpn : ∀ b ∈ fp, H b = none
  spo : SpOk Xg fp sp H s
/-- an item goes out -/
def GY : Protocol := fun m sa v s kap =>
  ∃ i y H, i < n ∧ n - (i + 1) < m ∧ RelV y v ∧ Mid Xg fp tn σw sp (i + 1) H s ∧ SpSame sp sa s ∧ Yw (m + 1) i y H ∧ ∀ s', Wk sp s s' → W m (i + 1) H → kap (.send .none) s'
/-- the end -/
def GF (q : Nat) (sa s1 : Shared) : Prop := ∃ H, Inv Xg [] σw H s1 ∧ (∀ b ∈ fp, H b = none) ∧ SpOk Xg fp sp H s1 ∧ SpSame sp sa s1 ∧ W q n H
def GR : GenEnd := fun m sa r s1 => ((r = .ok (.ret .none) ∨ r = .ok .next) ∧ GF Xg fp W n σw sp m sa s1) ∨ ∃ e, r = .error e ∧ False
end
section
variable {X : Cx} {fp : List Addr} {tn : Nat → Heap → Prop} {W : Nat → Nat → Hp → Prop} {Yw : Nat → Nat → V → Hp → Prop} {n : Nat} {σ : L2.St} {sp : List Addr} {vs : List Nat}
theorem Mid.wk {σw : L2.St} {i : Nat} {H : Hp} {s s' : Shared} {P : Program} {w : World} {K : PySem.W.Frag} {tg : Expr} {J : It} {it : Addr} (T : Turn P w K tg J fp it tn) (hpn : X.pn = []) (M : Mid X fp tn σw sp i H s) (k : Wk sp s s') : Mid X fp tn σw sp i H s' := by
  have hI := M.inv
  obtain ⟨hh, g, d, t, o⟩ := s'
  have ho : o = s.os := k.os
  subst ho
  have J : Inv X [] σw H { s with heap := hh, gens := g, drawn := d, toks := t } := by
    have tr : ∀ b u, H b = some u → b ∉ sp := fun b u e hb => by
      have := (M.spo b hb).2.1
      rw [e] at this; cases this
    refine hI.step (g' := g) (t' := t) (d' := d) (ch := sp) (fun b hb => ?_)
      (fun b ob _ _ hc q _ => k.keep b ob hc q) (fun b ob _ _ hc q _ => ⟨ob.slots, k.keep b ob hc q⟩) (fun _ _ _ _ n => n) (fun b ob hc q => ⟨ob, k.keep b ob hc q⟩)
      (fun _ _ q => q) (fun _ _ _ q => q) (fun b ps q => ⟨#[], by rw [q]; simp⟩) (fun m hm => ?_) (fun b u q => ?_) k.bare
    · obtain ⟨h1, h2, h3, h4, h5, h6, h7⟩ := M.spo b hb
      refine ⟨.inr h1, h3, fun x c e => h7 x c e, fun p hp => ?_⟩
      rw [hpn] at hp
      exact absurd (show p ∈ ([] : List (Addr × Obj)) ++ [] from hp) (by simp)
    · obtain ⟨ob, es, ep, ho, r⟩ := hm
      exact ⟨ob, es, ep, k.keep _ ob (fun hb => (M.spo _ hb).2.2.1 rfl) ho, r⟩
    · refine (hI.hok b u q).stay (fun c v hc y => k.keep c v ?_ y) (fun _ y => y) fun _ _ y => y
      rcases hc with y | y
      · rw [y]; exact tr b u q
      · exact tr c _ y
  refine ⟨J, T.keep _ _ _ M.it fun b hb o e => k.keep b o (fun hs => (M.spo b hs).2.2.2.2.1 hb) e, M.fpn, fun b hb => ?_⟩
  obtain ⟨h1, h2, h3, h4, h5, h6, h7⟩ := M.spo b hb
  exact ⟨h1, h2, h3, h4, h5, k.own b hb, h7⟩
/-- the pins of a turn: the consumer's objects -/
theorem SpOk.pin {σw : L2.St} {H : Hp} {s : Shared} (h : SpOk X fp sp H s) (I : Inv X [] σw H s) : Inv X (pinsAt sp s.heap) σw H s :=
  I.pins_of fun p hp => by
    obtain ⟨hb, e⟩ := of_pinsAt hp
    obtain ⟨h1, h2, h3, h4, h5, ⟨o, h6, h6'⟩, h7⟩ := h p.1 hb
    rw [e] at h6; cases h6
    exact ⟨e, h2, h3, h4, h6'⟩
theorem SpOk.of_pins {σw : L2.St} {H H' : Hp} {s s' : Shared} {pl : List (Addr × Obj)} (h : SpOk X fp sp H s) (I : Inv X pl σw H' s') (hp : ∀ p ∈ pinsAt sp s.heap, p ∈ pl) : SpOk X fp sp H' s' ∧ SpSame sp s s' := by
  have key : ∀ b ∈ sp, ∀ o, s.heap.get? b = some o → s'.heap.get? b = some o ∧ H' b = none := fun b hb o e => by
    have := I.pin (b, o) (List.mem_append_right _ (hp _ (mem_pinsAt hb e)))
    exact ⟨this.1, this.2.1⟩
  refine ⟨fun b hb => ?_, fun b hb o e => (key b hb o e).1⟩
  obtain ⟨h1, h2, h3, h4, h5, ⟨o, h6, h6'⟩, h7⟩ := h b hb
  obtain ⟨k1, k2⟩ := key b hb o h6
  exact ⟨h1, k2, h3, h4, h5, ⟨o, k1, h6'⟩, h7⟩

variable {Ag : Around} {s0 : Shared} {H0 : Hp} {genv : Env} {tg iter elt : Expr} {ifs : List Expr} {scope : Scope} {pos : Pos} {it : Addr} {J : It} {g : TG} {tt : TT} {te : TE}
abbrev gcode (elt tg iter : Expr) (ifs : List Expr) (scope : Scope) (pos : Pos) (it : Addr) (genv : Env) : Code := .compLoop (.GeneratorExp elt [⟨tg, iter, ifs, 0⟩] scope pos) 0 (.ref it) .none genv
theorem seg_gen (hco : genv.scope.isCoroutine = false) (T : Turn X.prog X.w X.K tg J fp it tn)
    (pg : PG (gcx X (Ag.deeper genv) s0 H0 genv fp) tg g) (pt : PTs (gcx X (Ag.deeper genv) s0 H0 genv fp) ifs tt) (pe : PE (gcx X (Ag.deeper genv) s0 H0 genv fp) elt te)
    (turn : ∀ q i H, i ≤ n → W q i H → (i = n ∧ J.stop i H) ∨ (i < n ∧ J.go i H ∧ ∀ x H', J.yld i H x H' → g x (wipe σ vs) H' fun σ2 H2 => wipe σ2 vs = wipe σ vs ∧ tt σ2 H2 fun b H3 => if b = true then te σ2 H3 (Yw q i) else W q (i + 1) H3)) :
    ∀ (k i q : Nat) (sa s : Shared) (H : Hp), n - i = k → k < q → i ≤ n → Mid (gcx X (Ag.deeper genv) s0 H0 genv fp) fp tn (wipe σ vs) sp i H s → SpSame sp sa s → W q i H →
      Seg (model X.prog X.w) Ag (GR (gcx X (Ag.deeper genv) s0 H0 genv fp) fp W n (wipe σ vs) sp) (GY (gcx X (Ag.deeper genv) s0 H0 genv fp) fp tn W Yw n (wipe σ vs) sp) q sa
        (gcode elt tg iter ifs scope pos it genv) ((model X.prog X.w).den (gcode elt tg iter ifs scope pos it genv)) [] s := by
  generalize hXg : gcx X (Ag.deeper genv) s0 H0 genv fp = Xg at pg pt pe ⊢
  have eP : Xg.prog = X.prog := by rw [← hXg]
  have eW : Xg.w = X.w := by rw [← hXg]
  have eK : Xg.K = X.K := by rw [← hXg]
  have eC : Xg.calm = true := by rw [← hXg]
  have eA : Xg.A = Ag.over (gcode elt tg iter ifs scope pos it genv) [] := by rw [← hXg]; rfl
  have eE : Xg.env = genv := by rw [← hXg]
  have ePn : Xg.pn = [] := by rw [← hXg]
  have eXe : Xg.xe = fun _ _ => False := by rw [← hXg]
  have eEx : Xg.ex = fp := by rw [← hXg]
  -- what stays true of the iterator's objects
  have stat : ∀ {s1 s' : Shared} {σ' : L2.St} {H' : Hp} {pl : List (Addr × Obj)}, Inv Xg pl σ' H' s' → (∀ p ∈ pl, p ∈ pinsAt sp s1.heap) → (∀ b ∈ sp, b ∉ fp) → (∀ b ∈ fp, H' b = none) → ∀ b ∈ fp, FpOk Xg pl H' b := fun {s1 s' σ' H' pl} I' hpl hsp hn b hb => by
    have hbx : b ∈ Xg.ex := by rw [eEx]; exact hb
    refine ⟨hn b hb, (I'.ok.exf b hbx).1, I'.ok.exfs b hbx, .inl hbx, fun x c e => (I'.ok.exf b hbx).2 x c e, fun p hp z => ?_⟩
    rw [ePn, List.nil_append] at hp
    exact hsp p.1 (of_pinsAt (hpl p hp)).1 (z ▸ hb)
  intro k
  induction k using Nat.strongRecOn with
  | ind k ih =>
    intro i q sa s H hk hq hi M hs hw
    have hdis : ∀ b ∈ sp, b ∉ fp := fun b hb => (M.spo b hb).2.2.2.2.1
    have I0 := M.spo.pin M.inv
    show Seg _ Ag _ _ _ sa _ ((compTurn (.GeneratorExp elt [⟨tg, iter, ifs, 0⟩] scope pos) 0 (.ref it) .none genv).onRaise (leaving genv)) [] s
    rw [compTurn_gen, Sem.onRaise_eq_wrap]
    refine seg_bind_wrap (wpAny_standAt ?_)
    rcases turn q i H hi hw with ⟨hin, stop⟩ | ⟨hlt, go, step⟩
    · have td := T.done Xg eP eW eK eC i _ s _ H (fun _ _ => False) I0 (stat (s1 := s) I0 (fun _ h => h) hdis M.fpn) M.it stop
      refine seg_bind_wrap ?_
      rw [← eA]
      refine thnF td fun r s1 ⟨hr, I1⟩ => ?_
      subst hr
      obtain ⟨sp1, sp2⟩ := M.spo.of_pins I1 fun _ h => h
      refine seg_end (.ok .next) (.inl ⟨.inr rfl, H, I1.pins_of fun p hp => by simp at hp, M.fpn, sp1, fun b hb o e => sp2 b hb o (hs b hb o e), by rw [← hin]; exact hw⟩)
    · have ti := T.item Xg eP eW eK eC i _ s _ H (fun _ _ => False) I0 (stat (s1 := s) I0 (fun _ h => h) hdis M.fpn) M.it go
      refine seg_bind_wrap ?_
      rw [← eA]
      refine thnF ti fun r s1 ⟨u, hr, h1⟩ => ?_
      subst hr
      refine seg_bind_wrap ?_
      rw [← eA]
      refine thnF h1 fun _ s2 ⟨x, H2, I2, r2, y2, st2, n2⟩ => ?_
      have I2' := I2.pinned (stat (s1 := s) I2 (fun _ h => h) hdis n2) (T.obj _ _ st2)
      refine seg_bind_wrap ?_
      rw [← eA]
      have pgr := pg.run _ s2 _ H2 x u _ I2' r2 (step x H2 y2)
      rw [eP, eW, eXe, eE] at pgr
      refine thnF pgr fun _ s3 ⟨σ3, H3, I3, hw3, q3⟩ => ?_
      refine seg_bind_wrap ?_
      rw [← eA]
      have ptr := pt.run _ s3 σ3 H3 _ I3 q3
      rw [eP, eW, eXe, eE] at ptr
      refine thnF ptr fun b s4 ⟨H4, I4, q4⟩ => ?_
      -- the turn's end
      have fin : ∀ {s' : Shared} {H' : Hp}, Inv Xg (pinsAt sp s.heap ++ pinsAt fp s2.heap) σ3 H' s' → Mid Xg fp tn (wipe σ vs) sp (i + 1) H' s' ∧ SpSame sp sa s' := fun {s' H'} I' => by
        have pin' : ∀ b ∈ fp, ∀ o, s2.heap.get? b = some o → s'.heap.get? b = some o ∧ H' b = none := fun b hb o e =>
          let z := I'.pin (b, o) (List.mem_append_right _ (List.mem_append_right _ (mem_pinsAt hb e)))
          ⟨z.1, z.2.1⟩
        obtain ⟨sp1, sp2⟩ := M.spo.of_pins I' fun p h => List.mem_append_left _ h
        have hl : (wipe σ vs).length = σ3.length := by rw [← hw3, wipe_length]
        refine ⟨⟨(I'.pins_of (pins' := []) fun p hp => by simp at hp).weak hl (fun j v e => ?_), T.keep _ _ _ st2 fun b hb o e => (pin' b hb o e).1, fun b hb => ?_, sp1⟩, fun b hb o e => sp2 b hb o (hs b hb o e)⟩
        · rw [← hw3] at e
          exact (wipe_some e).1
        · obtain ⟨o, e, _⟩ := T.obj _ _ st2 b hb
          exact (pin' b hb o e).2
      cases b with
      | false =>
        simp only [Bool.false_eq_true, if_false] at q4 ⊢
        obtain ⟨M', hs'⟩ := fin I4
        exact seg_again rfl (ih (n - (i + 1)) (by omega) (i + 1) q sa s4 H4 rfl (by omega) hlt M' hs' q4)
      | true =>
        simp only [if_true] at q4 ⊢
        have hy : ∀ v, yieldOut genv v = yieldValue v := fun v => by simp only [yieldOut, hco, Bool.false_eq_true, if_false]
        simp only [hy]
        rw [Sem.bind_eq_wrap', Sem.bind_eq_wrap', Sem.wrap_wrap, Sem.wrap_wrap]
        refine seg_wrap ?_
        rw [← eA]
        have per := pe.run _ s4 σ3 H4 _ I4 q4
        rw [eP, eW, eXe, eE] at per
        refine thnF per fun y s5 ⟨yv, H5, I5, r5, q5⟩ => ?_
        obtain ⟨M', hs'⟩ := fin I5
        obtain ⟨m, rfl⟩ : ∃ m, q = m + 1 := ⟨q - 1, by omega⟩
        refine seg_at (seg_yield rfl rfl rfl ⟨i, yv, H5, hlt, by omega, r5, M', hs', q5, fun s' wk w' => ?_⟩)
        exact seg_again rfl (ih (n - (i + 1)) (by omega) (i + 1) m s' s' H5 rfl (by omega) hlt (M'.wk T ePn wk) (fun _ _ _ e => e) w')
abbrev gcode0 (elt tg iter : Expr) (ifs : List Expr) (scope : Scope) (pos : Pos) (it : Addr) (genv : Env) : Code := .compStart (.GeneratorExp elt [⟨tg, iter, ifs, 0⟩] scope pos) 0 (.ref it) .none genv
/-- the first turn -/
theorem seg_gen0 (hco : genv.scope.isCoroutine = false) (T : Turn X.prog X.w X.K tg J fp it tn)
    (pg : PG (gcx X (Ag.deeper genv) s0 H0 genv fp) tg g) (pt : PTs (gcx X (Ag.deeper genv) s0 H0 genv fp) ifs tt) (pe : PE (gcx X (Ag.deeper genv) s0 H0 genv fp) elt te)
    (turn : ∀ q i H, i ≤ n → W q i H → (i = n ∧ J.stop i H) ∨ (i < n ∧ J.go i H ∧ ∀ x H', J.yld i H x H' → g x (wipe σ vs) H' fun σ2 H2 => wipe σ2 vs = wipe σ vs ∧ tt σ2 H2 fun b H3 => if b = true then te σ2 H3 (Yw q i) else W q (i + 1) H3))
    {q : Nat} {sa s : Shared} {H : Hp} (hq : n < q) (M : Mid (gcx X (Ag.deeper genv) s0 H0 genv fp) fp tn (wipe σ vs) sp 0 H s) (hs : SpSame sp sa s) (hw : W q 0 H) :
    Seg (model X.prog X.w) Ag (GR (gcx X (Ag.deeper genv) s0 H0 genv fp) fp W n (wipe σ vs) sp) (GY (gcx X (Ag.deeper genv) s0 H0 genv fp) fp tn W Yw n (wipe σ vs) sp) q sa
        (gcode0 elt tg iter ifs scope pos it genv) ((model X.prog X.w).den (gcode0 elt tg iter ifs scope pos it genv)) [] s := by
  have loop := seg_gen (sp := sp) (iter := iter) (scope := scope) (pos := pos) hco T pg pt pe turn n 0 q sa s H (Nat.sub_zero _) hq (Nat.zero_le _) M hs hw
  show Seg _ Ag _ _ _ sa _ ((compStart (.GeneratorExp elt [⟨tg, iter, ifs, 0⟩] scope pos) 0 (.ref it) .none genv).onRaise (leaving genv)) [] s
  unfold compStart
  rw [Sem.onRaise_eq_wrap]
  show Seg _ Ag _ _ _ sa _ ((ask >>= _).wrap _ _ _ _) [] s
  refine seg_bind_wrap (wpAny_askSetting ?_)
  split
  · exact seg_again rfl loop
  · first
      | exact seg_bind_wrap (wpAny_rule (seg_bind_wrap (wpAny_standAt (seg_bind_wrap (T.self _ 0 s _ _ M.it (seg_again rfl loop))))))
      | (refine seg_bind_wrap (wpAny_rule ?_); show Seg _ Ag _ _ _ sa _ ((standAt iter.pos >>= _).wrap _ _ _ _) [] s; exact seg_bind_wrap (wpAny_standAt (seg_bind_wrap (T.self _ 0 s _ _ M.it (seg_again rfl loop)))))

theorem Wk.refl {s : Shared} (hb : AllBare s.gens) (ho : ∀ b ∈ sp, ∃ o, s.heap.get? b = some o ∧ ∀ v, o.data ≠ .cell v) : Wk sp s s := ⟨rfl, hb, fun _ _ _ e => e, ho⟩
theorem Wk.trans {s s1 s2 : Shared} (a : Wk sp s s1) (b : Wk sp s1 s2) : Wk sp s s2 := ⟨b.os.trans a.os, b.bare, fun c o h e => b.keep c o h (a.keep c o h e), b.own⟩
/-- the generator at a sleeps; fuel q -/
structure Asleep (Xg : Cx) (Aq : Around) (fp : List Addr) (tn : Nat → Heap → Prop) (W : Nat → Nat → Hp → Prop) (Yw : Nat → Nat → V → Hp → Prop) (n : Nat) (σw : L2.St) (sp : List Addr) (a : Addr) (gi : Nat) (q i : Nat) (H : Hp) (s : Shared) : Prop where
  gen : s.heap.IsGen a gi
  lim : s.heap.NoLimit
  mid : Mid Xg fp tn σw sp i H s
  go : ∃ gs, s.gens[gi]? = some gs ∧ ∀ s', Wk sp s s' → W q i H → gs.Goes (model Xg.prog Xg.w) Aq.in1 (GR Xg fp W n σw sp) (GY Xg fp tn W Yw n σw sp) q (.send .none) s'
theorem SpOk.own {H : Hp} {s : Shared} (h : SpOk X fp sp H s) : ∀ b ∈ sp, ∃ o, s.heap.get? b = some o ∧ ∀ v, o.data ≠ .cell v := fun b hb => (h b hb).2.2.2.2.2.1
theorem isGen_keep {h h' : Heap} {a : Addr} {gi : Nat} (g : h.IsGen a gi) (k : ∀ o, h.get? a = some o → h'.get? a = some o) : h'.IsGen a gi := by
  obtain ⟨o, nm, qn, ho, r⟩ := g
  exact ⟨o, nm, qn, k o ho, r⟩
/-- the consumer's own steps -/
theorem Asleep.wk {Xg : Cx} {Aq : Around} {σw : L2.St} {a : Addr} {gi q i : Nat} {H : Hp} {s s' : Shared} {P : Program} {w : World} {K : PySem.W.Frag} (T : Turn P w K tg J fp it tn) (hpn : Xg.pn = []) (S : Asleep Xg Aq fp tn W Yw n σw sp a gi q i H s) (k : Wk sp s s')
    (ha : ∀ o, s.heap.get? a = some o → s'.heap.get? a = some o) (hg : s'.gens[gi]? = s.gens[gi]?) : Asleep Xg Aq fp tn W Yw n σw sp a gi q i H s' where
  gen := isGen_keep S.gen ha
  lim := (S.mid.wk T hpn k).inv.nolimit
  mid := S.mid.wk T hpn k
  go := let ⟨gs, h1, h2⟩ := S.go; ⟨gs, hg.trans h1, fun s2 k2 => h2 s2 (k.trans k2)⟩
/-- next of a sleeping generator -/
theorem gnext {Xg : Cx} {Aq : Around} {σw : L2.St} {a : Addr} {gi q i : Nat} {H : Hp} {s : Shared} {P : Program} {w : World} {K : PySem.W.Frag} {E : Value → Shared → Prop} (T : Turn P w K tg J fp it tn) (hpn : Xg.pn = []) (hh : Aq.handled = none) (hroom : Aq.depth < recursionLimit)
    (hasp : a ∈ sp) (S : Asleep Xg Aq fp tn W Yw n σw sp a gi q i H s) (hw : W q i H) :
    wpAny (model Xg.prog Xg.w) Aq (pyNext (.ref a)) (fun r s1 => SpSame sp s s1 ∧ ((r = none ∧ ∃ H1, Inv Xg [] σw H1 s1 ∧ W q n H1 ∧ SpOk Xg fp sp H1 s1) ∨
      ∃ v y j H1 m, m + 1 = q ∧ r = some v ∧ RelV y v ∧ Yw q j y H1 ∧ Asleep Xg Aq fp tn W Yw n σw sp a gi m (j + 1) H1 s1)) E s := by
  obtain ⟨gs, hgs, hgo⟩ := S.go
  have hgl : gi < s.gens.size := (Array.getElem?_eq_some_iff.mp hgs).1
  have hb0 : AllBare s.gens := S.mid.inv.bare
  have hb1 : AllBare (s.setGen gi .running).gens := allBare_setGen hb0 rfl
  have wk1 : Wk sp s (s.setGen gi .running) := ⟨rfl, hb1, fun _ _ _ e => e, S.mid.spo.own⟩
  refine wpAny_gsz (n := gi + 1) hgl (next_genG (F := fun q sa s1 => GF Xg fp W n σw sp q sa s1) (Er := fun _ _ => False) hh S.lim hroom S.gen hgs (hgo _ wk1 hw) (fun v s1 gs' hbare hv => ?_) (fun s1 hp h' hk => ?_) fun e s1 he => he.elim)
  · intro hsz
    obtain ⟨j, y, H1, hj, hm, ry, M1, hs1, hy, hk⟩ := hv
    have hsz1 : gi < s1.gens.size := by
      have e : (s1.setGen gi gs').gens.size = s1.gens.size := setGen_size _ _ _
      have hsz' : gi + 1 ≤ (s1.setGen gi gs').gens.size := hsz
      omega
    obtain ⟨m, rfl⟩ : ∃ m, q = m + 1 := ⟨q - 1, by omega⟩
    have hb2 : AllBare (s1.setGen gi gs').gens := allBare_setGen M1.inv.bare hbare
    have wk2 : Wk sp s1 (s1.setGen gi gs') := ⟨rfl, hb2, fun _ _ _ e => e, M1.spo.own⟩
    refine ⟨hs1, .inr ⟨v, y, j, H1, m, rfl, rfl, ry, hy, ?_, ?_, M1.wk T hpn wk2, gs', setGen_at hsz1, fun s' k' w' => hk s' (wk2.trans k') w'⟩⟩
    · exact isGen_keep S.gen fun o e => hs1 a hasp o e
    · exact (M1.wk T hpn wk2).inv.nolimit
  · intro hsz
    obtain ⟨H1, I1, hf1, so1, hs1, w1⟩ := hp
    have I2 : Inv Xg [] σw H1 { s1.setGen gi .finished with heap := h' } := by
      have := I1.kept (h' := h') (t' := s1.toks) hk
      exact ⟨this.ok, this.os, allBare_setGen I1.bare rfl, this.base, this.loc, this.cell, this.free, this.freeC, this.pin, this.hok, this.len⟩
    refine ⟨fun b hb o e => hk b o (hs1 b hb o e), .inl ⟨rfl, H1, I2, w1, fun b hb => ?_⟩⟩
    obtain ⟨h1, h2, h3, h4, h5, ⟨o, h6, h6'⟩, h7⟩ := so1 b hb
    exact ⟨h1, h2, h3, h4, h5, ⟨o, hk b o h6, h6'⟩, h7⟩
end

/-! ### a generator expression is made -/
/-- the frame of a generator expression -/
abbrev genvOf (X : Cx) (scope : Scope) (C : Addr) (code : Value) : Env := genEnv scope (cloFrom X.env.cells scope.names []) C code builtinsNs X.env
structure Born (X : Cx) (pins : List (Addr × Obj)) (σ : L2.St) (vs : List Nat) (scope : Scope) (tg iter elt : Expr) (ifs : List Expr) (gpos : Pos) (J : It) (H : Hp) (a : Addr) (gi : Nat) (s0 : Shared) (genv : Env) (it : Addr) (fp : List Addr) (tn : Nat → Heap → Prop) (s : Shared) : Prop where
  ge : ∃ code, genv = genvOf X scope s0.heap.objs.size code
  outer : Inv X pins σ H s0
  hfp : ∀ b ∈ fp, FpOk X pins H b
  turn : Turn X.prog X.w X.K tg J fp it tn
  st : tn 0 s.heap
  inner : ∀ A' : Around, A'.frames = some (genv :: X.stack) → A'.handled = none → Inv (gcx X A' s0 H genv fp) [] (wipe σ vs) H s
  gen : s.heap.IsGen a gi
  fresh : s.gens[gi]? = some (.fresh (gcode0 elt tg iter ifs scope gpos it genv))
  old : s0.heap.objs.size < a
  oldfp : ∀ b ∈ fp, b < s0.heap.objs.size
  cells : ∀ x c, genv.cells.lookup x = some c → c < s0.heap.objs.size
  hco : genv.scope.isCoroutine = false
section
variable {X : Cx} {pins : List (Addr × Obj)} {σ : L2.St} {H : Hp} {s : Shared}
theorem gen_make {c P : Addr} {elt tg iter : Expr} {ifs : List Expr} {gpos : Pos} {scope : Scope} {own : List (Str × Nat)} {wi : TI} {k : Nat} {R : It → Hp → Prop} {Q' : Value → Shared → Prop}
    (hr : Room k X.A) (hN : X.N.Nodup) (TB : TabB X.base X.mg c P) (hcode : X.env.code = .ref c) (G : GScp X.N X.env.scope scope own) (hi : PI X tg iter wi)
    (hs : ∀ v, genFold iter X.env v = pure v) (I : Inv X pins σ H s) (h : wi σ H fun J H1 => TabG H1 P ∧ ∀ H2, Tabbed P H1 H2 → R J H2)
    (hQ : ∀ J H2 a gi s0 genv it fp tn s5, R J H2 → Born X pins σ (own.map (·.2)) scope tg iter elt ifs gpos J H2 a gi s0 genv it fp tn s5 → Q' (.ref a) s5) :
    wpAny (model X.prog X.w) X.A (eval (.GeneratorExp elt [⟨tg, iter, ifs, 0⟩] scope gpos) X.env) Q' X.xe s := by
  have hfree : ∀ y ∈ scope.names, y.2 = .free → ∃ c, X.env.cells.lookup y.1 = some c := fun y hy e => by
    rcases G.blk.free y hy e with k | k
    · exact I.ok.has _ (.inl k)
    · exact I.ok.has _ (.inr k)
  refine wpAny_GeneratorExp_make G.co (closure_ok hfree) G.cell G.dot G.blk.kind (by have := hr.dp; omega) ?_ hs
  refine thn (hi.run pins s σ H _ I h) fun xv s1 hx => thn hx fun itv s2 h2 => ?_
  obtain ⟨it, fp, tn, J, H2, rfl, I2, T, st2, f2, ⟨ps, hP, ht⟩, q⟩ := h2
  refine ⟨I2.nolimit, ?_⟩
  have hPs : s2.heap.get? P = some { cls := .none, data := .fields ps } := I2.hok P _ hP
  have cd : PySem.W.CodeHd s2.heap c P := TB.code.keeps I2.bk
  have nP : ∀ b ∈ fp, b ≠ P := fun b hb z => by
    have := (f2 b hb).1
    rw [z, hP] at this; cases this
  have cont : ∀ (code : Value) (h3 : Heap) (tk : Nat) (ps' : Array Value), Heap.ExtBut P s2.heap h3 → s2.heap.objs.size ≤ h3.objs.size → h3.get? P = some { cls := .none, data := .fields ps' } → (∃ more, ps' = ps ++ more) → TriplesOk ps'.toList →
      wpAny (model X.prog X.w) X.A (builtinsFor X.env.globals X.env.builtins) (fun bi s₄ => ∀ h', h'.Ns s₄.heap.objs.size (fun y => if y = ".0" then some (.ref it) else none) → Heap.SameBut s₄.heap.objs.size (s₄.heap.push { cls := .type "frame", data := .dict #[] }) h' →
          Q' (.ref h'.objs.size) { s₄ with
            gens := s₄.gens.push (.fresh (.compStart (.GeneratorExp elt [⟨tg, iter, ifs, 0⟩] scope gpos) 0 (.ref it) .none (genEnv scope (cloFrom X.env.cells scope.names []) s₄.heap.objs.size code bi X.env))),
            toks := s₄.toks + 1 + 1 + 1,
            heap := h'.push { cls := .type "generator", data := .fields #[.int s₄.gens.size 0, .str "<genexpr>" (s₄.toks + 1), .str (X.env.qual ++ "<genexpr>") (s₄.toks + 1 + 1)] } }) X.xe { s2 with heap := h3, toks := tk } := by
    intro code h3 tk ps' hx hsz hP3 hmore ht3
    obtain ⟨bm, ob, e1, e2, e3, e4, e5, e6, e7, e8⟩ := TB.bm
    have keep3 : ∀ b u, b ≠ P → s2.heap.get? b = some u → h3.get? b = some u := fun b u hb e => hx b u hb e
    obtain ⟨more, em⟩ := hmore
    have I3 : Inv X pins σ (upd H2 P (.tbl (ps ++ more))) { s2 with heap := h3, toks := tk } :=
      GxR.inv_tab (more := more) (h' := h3) (g' := s2.gens) (d' := s2.drawn) (t' := tk) I2 hP keep3 (by rw [← em]; exact hP3) I2.bare
    refine wpAny_builtinsFor (m := X.mg) (by rw [I2.ok.glob]; exact (I3.mod.glob.keeps I3.bk)) e1 e2 (keep3 _ _ e4 (I2.bk _ _ e5)) e6 e7 e8 ?_
    intro h' hns hsb
    generalize hs0 : ({ s2 with heap := h3, toks := tk } : Shared) = s0 at I3 hns hsb ⊢
    have hs0h : s0.heap = h3 := by rw [← hs0]
    have hsz' : h'.objs.size = s0.heap.objs.size + 1 := by rw [hsb.1, Heap.size_push]
    have keep' : ∀ b o, s0.heap.get? b = some o → h'.get? b = some o := fun b o e => hsb.extBut b o (Nat.ne_of_lt (Heap.lt_size e)) (Heap.get?_push_of_some _ e)
    have keep5 : ∀ b o, s0.heap.get? b = some o → (h'.push { cls := .type "generator", data := .fields #[.int s0.gens.size 0, .str "<genexpr>" (s0.toks + 1), .str (X.env.qual ++ "<genexpr>") (s0.toks + 1 + 1)] }).get? b = some o :=
      fun b o e => Heap.get?_push_of_some _ (keep' b o e)
    have f3 : ∀ b ∈ fp, FpOk X pins (upd H2 P (.tbl (ps ++ more))) b := fun b hb => ⟨by rw [upd_ne (nP b hb)]; exact (f2 b hb).1, (f2 b hb).2⟩
    have st0 : tn 0 s0.heap := T.keep _ _ _ st2 fun b hb o e => by rw [hs0h]; exact keep3 b o (nP b hb) e
    have lt0 : ∀ b ∈ fp, b < s0.heap.objs.size := fun b hb => by
      obtain ⟨o, e, _⟩ := T.obj _ _ st0 b hb
      exact Heap.lt_size e
    have hTab : Tabbed P H2 (upd H2 P (.tbl (ps ++ more))) := ⟨⟨ps ++ more, upd_same, by rw [← em]; exact ht3⟩, fun b hb => upd_ne hb⟩
    refine hQ J _ _ s0.gens.size s0 (genvOf X scope s0.heap.objs.size code) it fp tn _ (q _ hTab) ⟨⟨code, rfl⟩, I3, f3, T, T.keep _ _ _ st0 fun b _ o e => keep5 b o e, fun A' hA hh => ?_, ?_, Array.getElem?_push_size .., by rw [hsz']; exact Nat.lt_succ_self _, lt0, fun x c e => ?_, G.co⟩
    · have hns5 := hns.push { cls := .type "generator", data := .fields #[.int s0.gens.size 0, .str "<genexpr>" (s0.toks + 1), .str (X.env.qual ++ "<genexpr>") (s0.toks + 1 + 1)] }
      exact gen_start (itv := .ref it) (d' := s0.drawn) I3 G hN (fun b hb => ⟨f3 b hb, lt0 b hb⟩) hA hh hns5 keep5 (I3.bare.push rfl)
    · exact ⟨_, _, _, Heap.get?_push_size _ rfl, rfl, rfl, rfl⟩
    · rcases cloFrom_mem (PySem.mem_of_lookup e) with hm | ⟨h1, h2⟩
      · cases hm
      · obtain ⟨c', hc⟩ := hfree _ h1 rfl
        have e3 : (X.env.cells.lookup x).getD 0 = c' := by rw [hc]; rfl
        obtain ⟨w', z⟩ := I3.cell _ _ hc
        rw [h2, e3]
        exact z.lt
  cases hf : codeAmong gpos ps.toList with
  | none =>
    refine wpAny_genexprCodeX hcode (cd.code hPs ht) (cd.tab hPs) hf fun c' h' tk hx hge hlt hco' _ htab' _ => ?_
    obtain ⟨o1, vs, f1, tf, fl, tg', inF, tx, tt, op, _, _, _, _, _, _, _, _, _, htr, _⟩ := hco'
    exact cont _ h' tk _ hx (Nat.le_trans hge (Nat.le_of_lt hlt)) htab'.2 ⟨_, rfl⟩ htr
  | some cv =>
    refine wpAny_genexprCode_hit hcode (cd.code hPs ht) hf ?_
    exact cont cv s2.heap s2.toks ps (Heap.ExtBut.refl _ _) (Nat.le_refl _) hPs ⟨#[], by simp⟩ ht

/-- the generator is handed to its consumer -/
theorem Born.asleep {vs : List Nat} {scope : Scope} {tg iter elt : Expr} {ifs : List Expr} {gpos : Pos} {J : It} {a : Addr} {gi : Nat} {s0 : Shared} {genv : Env} {it : Addr} {fp : List Addr} {tn : Nat → Heap → Prop} {g : TG} {tt : TT} {te : TE}
    {W : Nat → Nat → Hp → Prop} {Yw : Nat → Nat → V → Hp → Prop} {n q : Nat} {sp : List Addr} {Aq : Around} {s' : Shared} (B : Born X pins σ vs scope tg iter elt ifs gpos J H a gi s0 genv it fp tn s)
    (hf : Aq.frames = some X.stack) (hh : Aq.handled = none)
    (pg : PG (gcx X (Aq.in1.deeper genv) s0 H genv fp) tg g) (pt : PTs (gcx X (Aq.in1.deeper genv) s0 H genv fp) ifs tt) (pe : PE (gcx X (Aq.in1.deeper genv) s0 H genv fp) elt te)
    (turn : ∀ q i H, i ≤ n → W q i H → (i = n ∧ J.stop i H) ∨ (i < n ∧ J.go i H ∧ ∀ x H', J.yld i H x H' → g x (wipe σ vs) H' fun σ2 H2 => wipe σ2 vs = wipe σ vs ∧ tt σ2 H2 fun b H3 => if b = true then te σ2 H3 (Yw q i) else W q (i + 1) H3))
    (hq : n < q) (ho : s'.os = s.os) (hg : s'.gens = s.gens) (hk : ∀ b o, s.heap.get? b = some o → s'.heap.get? b = some o) (hsp : ∀ b ∈ sp, s0.heap.objs.size < b ∧ ∃ o, s'.heap.get? b = some o ∧ ∀ v, o.data ≠ .cell v) :
    Asleep (gcx X (Aq.in1.deeper genv) s0 H genv fp) Aq fp tn W Yw n (wipe σ vs) sp a gi q 0 H s' := by
  obtain ⟨code, hgenv⟩ := B.ge
  have hL : genv.locals = s0.heap.objs.size := by rw [hgenv]; rfl
  have I5 : Inv (gcx X (Aq.in1.deeper genv) s0 H genv fp) [] (wipe σ vs) H s := B.inner _ (by show Option.map _ Aq.frames = _; rw [hf]; rfl) hh
  have I6 : Inv (gcx X (Aq.in1.deeper genv) s0 H genv fp) [] (wipe σ vs) H s' := by
    obtain ⟨hp, gg, d, tk, os⟩ := s'
    have e1 : os = s.os := ho
    have e2 : gg = s.gens := hg
    subst e1 e2
    have := I5.kept (h' := hp) (t' := tk) hk
    exact ⟨this.ok, this.os, this.bare, this.base, this.loc, this.cell, this.free, this.freeC, this.pin, this.hok, this.len⟩
  have M : Mid (gcx X (Aq.in1.deeper genv) s0 H genv fp) fp tn (wipe σ vs) sp 0 H s' := by
    refine ⟨I6, B.turn.keep _ _ _ B.st fun b _ o e => hk b o e, fun b hb => (B.hfp b hb).1, fun b hb => ?_⟩
    obtain ⟨h1, h2⟩ := hsp b hb
    refine ⟨Nat.le_of_lt h1, B.outer.hok.fresh (Nat.le_of_lt h1), fun e => ?_, fun hb' => ?_, fun hb' => ?_, h2, fun x c e z => ?_⟩
    · have : b = s0.heap.objs.size := e.trans hL
      rw [this] at h1; exact Nat.lt_irrefl _ h1
    · obtain ⟨_, o, e, _⟩ := I6.ok.funs.mem hb'
      have : b < s0.heap.objs.size := Heap.lt_size e
      exact Nat.lt_irrefl _ (Nat.lt_trans h1 this)
    · exact Nat.lt_irrefl _ (Nat.lt_trans h1 (B.oldfp b hb'))
    · have := B.cells x c e
      rw [z] at this
      exact Nat.lt_irrefl _ (Nat.lt_trans h1 this)
  refine ⟨isGen_keep B.gen fun o e => hk a o e, I6.nolimit, M, .fresh (gcode0 elt tg iter ifs scope gpos it genv), (by rw [hg]; exact B.fresh), fun s2 k2 w2 => ⟨rfl, ?_⟩⟩
  exact seg_gen0 (X := X) (Ag := Aq.in1) (iter := iter) (scope := scope) (pos := gpos) B.hco B.turn pg pt pe turn hq (M.wk B.turn rfl k2) (fun _ _ _ e => e) w2
/-- back in the def -/
theorem Born.back {vs : List Nat} {scope : Scope} {tg iter elt : Expr} {ifs : List Expr} {gpos : Pos} {J : It} {a : Addr} {gi : Nat} {s0 : Shared} {genv : Env} {it : Addr} {fp : List Addr} {tn : Nat → Heap → Prop} {A' : Around} {s1 : Shared} {H1 : Hp} {σw : L2.St} (B : Born X pins σ vs scope tg iter elt ifs gpos J H a gi s0 genv it fp tn s)
    (I : Inv (gcx X A' s0 H genv fp) [] σw H1 s1) : Inv X pins σ H1 s1 :=
  B.outer.call' (ch := fp) I.os I.base I.hok I.bare fun b hb => ⟨(B.hfp b hb).2.2.2.1, (B.hfp b hb).2.1, (B.hfp b hb).2.2.2.2.1, (B.hfp b hb).2.2.2.2.2⟩

/-! ### consumers -/
section
variable {fp sp : List Addr} {tn : Nat → Heap → Prop} {W : Nat → Nat → Hp → Prop} {Yw : Nat → Nat → V → Hp → Prop} {n : Nat} {Xg : Cx} {A : Around} {a : Addr} {gi : Nat} {σw : L2.St} {R : Result → Shared → Prop} {P : Program} {w : World} {K : PySem.W.Frag} {tg : Expr} {J : It} {it : Addr}
theorem any_loop (T : Turn P w K tg J fp it tn) (hpn : Xg.pn = []) (hh : A.handled = none) (hroom : A.in1.depth < recursionLimit) (hasp : a ∈ sp)
    (hend : ∀ q H s, Inv Xg [] σw H s → W q n H → R (.ok (.ret (.bool false))) s)
    (hy : ∀ q j y H s, Inv Xg [] σw H s → Yw (q + 1) j y H → ∃ k, y = .bl k ∧ if k = true then R (.ok (.ret (.bool true))) s else W q (j + 1) H) :
    ∀ (q i : Nat) (H : Hp) (s : Shared), Asleep Xg A.in1 fp tn W Yw n σw sp a gi q i H s → W q i H → codeAny (model Xg.prog Xg.w) A (.builtin "any.loop" ⟨[.ref a], []⟩) R s := by
  intro q
  induction q with
  | zero =>
    intro i H s S hw
    refine codeAny_builtin F.entry_any_loop ?_
    rw [Around.under_plainId F.plain_any_loop _]
    show wpAny _ A.in1 (pyNext (.ref a) >>= _) _ _ s
    refine wpAny_bind (thn (gnext T hpn hh hroom hasp S hw) fun r s1 ⟨_, q1⟩ => ?_)
    rcases q1 with ⟨rfl, H1, I1, w1, _⟩ | ⟨v, y, j, H1, m, hm, _⟩
    · exact wpAny_bind (wpAny_rule (wpAny_pure (hend _ H1 s1 I1 w1)))
    · omega
  | succ q ih =>
    intro i H s S hw
    refine codeAny_builtin F.entry_any_loop ?_
    rw [Around.under_plainId F.plain_any_loop _]
    show wpAny _ A.in1 (pyNext (.ref a) >>= _) _ _ s
    refine wpAny_bind (thn (gnext T hpn hh hroom hasp S hw) fun r s1 ⟨_, q1⟩ => ?_)
    rcases q1 with ⟨rfl, H1, I1, w1, _⟩ | ⟨v, y, j, H1, m, hm, rfl, rv, hyw, S1⟩
    · exact wpAny_bind (wpAny_rule (wpAny_pure (hend _ H1 s1 I1 w1)))
    · obtain rfl : m = q := by omega
      obtain ⟨k, rfl, hk⟩ := hy _ _ _ _ s1 S1.mid.inv hyw
      obtain rfl : v = Value.bool k := rv
      refine wpAny_bind (wpAny_holding (wpAny_truthy_bool ?_))
      refine wpAny_bind (wpAny_letGo ?_)
      cases k with
      | false =>
        simp only [Bool.false_eq_true, if_false] at hk ⊢
        exact wpAny_pure ⟨plainId_quiet F.plain_any_loop _, ih _ H1 s1 S1 hk⟩
      | true =>
        simp only [if_true] at hk ⊢
        exact wpAny_bind (wpAny_rule (wpAny_pure hk))
theorem all_loop (T : Turn P w K tg J fp it tn) (hpn : Xg.pn = []) (hh : A.handled = none) (hroom : A.in1.depth < recursionLimit) (hasp : a ∈ sp)
    (hend : ∀ q H s, Inv Xg [] σw H s → W q n H → R (.ok (.ret (.bool true))) s)
    (hy : ∀ q j y H s, Inv Xg [] σw H s → Yw (q + 1) j y H → ∃ k, y = .bl k ∧ if k = true then W q (j + 1) H else R (.ok (.ret (.bool false))) s) :
    ∀ (q i : Nat) (H : Hp) (s : Shared), Asleep Xg A.in1 fp tn W Yw n σw sp a gi q i H s → W q i H → codeAny (model Xg.prog Xg.w) A (.builtin "all.loop" ⟨[.ref a], []⟩) R s := by
  intro q
  induction q with
  | zero =>
    intro i H s S hw
    refine codeAny_builtin F.entry_all_loop ?_
    rw [Around.under_plainId F.plain_all_loop _]
    show wpAny _ A.in1 (pyNext (.ref a) >>= _) _ _ s
    refine wpAny_bind (thn (gnext T hpn hh hroom hasp S hw) fun r s1 ⟨_, q1⟩ => ?_)
    rcases q1 with ⟨rfl, H1, I1, w1, _⟩ | ⟨v, y, j, H1, m, hm, _⟩
    · exact wpAny_bind (wpAny_rule (wpAny_pure (hend _ H1 s1 I1 w1)))
    · omega
  | succ q ih =>
    intro i H s S hw
    refine codeAny_builtin F.entry_all_loop ?_
    rw [Around.under_plainId F.plain_all_loop _]
    show wpAny _ A.in1 (pyNext (.ref a) >>= _) _ _ s
    refine wpAny_bind (thn (gnext T hpn hh hroom hasp S hw) fun r s1 ⟨_, q1⟩ => ?_)
    rcases q1 with ⟨rfl, H1, I1, w1, _⟩ | ⟨v, y, j, H1, m, hm, rfl, rv, hyw, S1⟩
    · exact wpAny_bind (wpAny_rule (wpAny_pure (hend _ H1 s1 I1 w1)))
    · obtain rfl : m = q := by omega
      obtain ⟨k, rfl, hk⟩ := hy _ _ _ _ s1 S1.mid.inv hyw
      obtain rfl : v = Value.bool k := rv
      refine wpAny_bind (wpAny_holding (wpAny_truthy_bool ?_))
      refine wpAny_bind (wpAny_letGo ?_)
      cases k with
      | true =>
        simp only [if_true] at hk ⊢
        exact wpAny_pure ⟨plainId_quiet F.plain_all_loop _, ih _ H1 s1 S1 hk⟩
      | false =>
        simp only [Bool.false_eq_true, if_false] at hk ⊢
        exact wpAny_bind (wpAny_rule (wpAny_pure hk))
/-- sum: the total stands in the list at S -/
theorem sum_loop {S : Addr} (tot : Nat → Int) (T : Turn P w K tg J fp it tn) (hpn : Xg.pn = []) (hh : A.handled = none) (hroom : A.in1.depth < recursionLimit) (hasp : a ∈ sp) (hS : S ∈ sp) (haS : a ≠ S)
    (hend : ∀ q H s t, Inv Xg [] σw H s → W q n H → R (.ok (.ret (.int (tot q) t))) s)
    (hy : ∀ q j y H s, Inv Xg [] σw H s → Yw (q + 1) j y H → ∃ k, y = .int k ∧ tot q = tot (q + 1) + k ∧ InLong k ∧ InLong (tot q) ∧ W q (j + 1) H) :
    ∀ (q i : Nat) (H : Hp) (s : Shared) (tA : Tok) (c : Nat), Asleep Xg A.in1 fp tn W Yw n σw sp a gi q i H s → W q i H → s.heap.get? S = some { cls := .type "list", dict := none, data := .seq #[.int (tot q) tA] c, slots := #[] } →
      codeAny (model Xg.prog Xg.w) A (.builtin "sum.loop" ⟨[.ref a, .ref S, rawInt 0, rawInt 0], []⟩) R s := by
  intro q
  induction q with
  | zero =>
    intro i H s tA c Sl hw hSo
    refine codeAny_builtin F.entry_sum_loop ?_
    rw [Around.under_plainId F.plain_sum_loop _]
    show wpAny _ A.in1 (seqItems? (.ref S) >>= _) _ _ s
    refine wpAny_bind (wpAny_seqItems hSo rfl ?_)
    show wpAny _ A.in1 (tryCatch (pyNext (.ref a)) _ >>= _) _ _ s
    refine wpAny_bind (wpAny_tryCatch (thn (gnext T hpn hh hroom hasp Sl hw) fun r s1 ⟨_, q1⟩ => ?_))
    rcases q1 with ⟨rfl, H1, I1, w1, _⟩ | ⟨v, y, j, H1, m, hm, _⟩
    · exact wpAny_pure (hend _ H1 s1 tA I1 w1)
    · omega
  | succ q ih =>
    intro i H s tA c Sl hw hSo
    refine codeAny_builtin F.entry_sum_loop ?_
    rw [Around.under_plainId F.plain_sum_loop _]
    show wpAny _ A.in1 (seqItems? (.ref S) >>= _) _ _ s
    refine wpAny_bind (wpAny_seqItems hSo rfl ?_)
    show wpAny _ A.in1 (tryCatch (pyNext (.ref a)) _ >>= _) _ _ s
    refine wpAny_bind (wpAny_tryCatch (thn (gnext T hpn hh hroom hasp Sl hw) fun r s1 ⟨hsame, q1⟩ => ?_))
    have hSo' := hsame S hS _ hSo
    rcases q1 with ⟨rfl, H1, I1, w1, _⟩ | ⟨v, y, j, H1, m, hm, rfl, rv, hyw, S1⟩
    · exact wpAny_pure (hend _ H1 s1 tA I1 w1)
    · obtain rfl : m = q := by omega
      obtain ⟨k, rfl, ht, ⟨f1, f2⟩, ⟨f3, f4⟩, hk⟩ := hy _ _ _ _ s1 S1.mid.inv hyw
      obtain ⟨t, rfl⟩ := (show ∃ t, v = Value.int k t from rv)
      have hc : ((decide (-(2 ^ 63) ≤ k) && decide (k < 2 ^ 63)) && (decide (-(2 ^ 63) ≤ tot (m + 1) + k) && decide (tot (m + 1) + k < 2 ^ 63))) = true := by
        simp only [Bool.and_eq_true, decide_eq_true_eq]
        exact ⟨⟨f1, f2⟩, by rw [← ht]; exact f3, by rw [← ht]; exact f4⟩
      show wpAny _ A.in1 (if (_ : Bool) = true then (mkInt (tot (m + 1) + k) >>= _) else _) _ _ _
      rw [← ht] at hc ⊢
      split
      · refine wpAny_bind (wpAny_mkInt ?_)
        show wpAny _ A.in1 (updateSeq S (fun _ => #[.int (tot m) s1.toks]) >>= _) _ _ _
        refine wpAny_bind ?_
        have wk : Wk sp s1 { s1 with toks := s1.toks + 1, heap := s1.heap.update S (Obj.mapSeq fun _ => #[.int (tot m) s1.toks]) } := by
          refine ⟨rfl, S1.mid.inv.bare, fun b o hb e => (Heap.get?_update_other _ _ (fun h : S = b => hb (h ▸ hS))).trans e, fun b hb => ?_⟩
          by_cases z : b = S
          · subst z
            exact ⟨_, Heap.get?_update_self _ hSo' rfl, fun v q => by cases q⟩
          · obtain ⟨o, e, d⟩ := S1.mid.spo.own b hb
            exact ⟨o, (Heap.get?_update_other _ _ (fun h : S = b => z h.symm)).trans e, d⟩
        refine wpAny_updateSeq hSo' rfl (wpAny_pure ⟨plainId_quiet F.plain_sum_loop _, ?_⟩)
        exact ih (j + 1) H1 _ s1.toks _ (S1.wk T hpn wk (fun o e => (Heap.get?_update_other _ _ (fun h : S = a => haS h.symm)).trans e) rfl) hk (Heap.get?_update_self _ hSo' rfl)
      · rename_i hneg
        exact absurd hc hneg
end

/-! ### readings and rules -/
abbrev tGenC (J : It) (g : TG) (tt : TT) (te : TE) (vs : List Nat) (σ : L2.St) (n : Nat) (W : Nat → Nat → Hp → Prop) (Yw : Nat → Nat → V → Hp → Prop) : Prop :=
  ∀ r i H, i ≤ n → W r i H → (i = n ∧ J.stop i H) ∨ (i < n ∧ J.go i H ∧ ∀ x H', J.yld i H x H' → g x (wipe σ vs) H' fun σ2 H2 => wipe σ2 vs = wipe σ vs ∧ tt σ2 H2 fun b H3 => if b = true then te σ2 H3 (Yw r i) else W r (i + 1) H3)
/-- any(elt for target in iter if ..) -/
def tAnyG (P : Addr) (wi : TI) (g : TG) (tt : TT) (te : TE) (vs : List Nat) : TE := fun σ H Q => wi σ H fun J H1 => TabG H1 P ∧ ∀ H2, Tabbed P H1 H2 → ∃ (n : Nat) (W : Nat → Hp → Prop), W 0 H2 ∧ (∀ H', W n H' → Q (.bl false) H') ∧
  tGenC J g tt te vs σ n (fun _ => W) fun _ i y H' => ∃ k, y = .bl k ∧ if k = true then Q (.bl true) H' else W (i + 1) H'
def tAllG (P : Addr) (wi : TI) (g : TG) (tt : TT) (te : TE) (vs : List Nat) : TE := fun σ H Q => wi σ H fun J H1 => TabG H1 P ∧ ∀ H2, Tabbed P H1 H2 → ∃ (n : Nat) (W : Nat → Hp → Prop), W 0 H2 ∧ (∀ H', W n H' → Q (.bl true) H') ∧
  tGenC J g tt te vs σ n (fun _ => W) fun _ i y H' => ∃ k, y = .bl k ∧ if k = true then W (i + 1) H' else Q (.bl false) H'
/-- sum(1 for target in iter if ..): W r i H: i turns, r of them counted -/
abbrev yCount (W : Int → Nat → Hp → Prop) : Int → Nat → V → Hp → Prop := fun r i y H' => y = .int 1 ∧ (0 ≤ r + 1 ∧ r + 1 < 1000000) ∧ W (r + 1) (i + 1) H'
def tCountG (P : Addr) (wi : TI) (g : TG) (tt : TT) (te : TE) (vs : List Nat) : TE := fun σ H Q => wi σ H fun J H1 => TabG H1 P ∧ ∀ H2, Tabbed P H1 H2 → ∃ (n : Nat) (W : Int → Nat → Hp → Prop), W 0 0 H2 ∧ (∀ r H', W r n H' → Q (.int r) H') ∧
  ∀ r i H, i ≤ n → W r i H → (i = n ∧ J.stop i H) ∨ (i < n ∧ J.go i H ∧ ∀ x H', J.yld i H x H' → g x (wipe σ vs) H' fun σ2 H2 => wipe σ2 vs = wipe σ vs ∧ tt σ2 H2 fun b H3 => if b = true then te σ2 H3 (yCount W r i) else W r (i + 1) H3)
section
variable {c P : Addr} {elt tg iter : Expr} {ifs : List Expr} {p pos gpos : Pos} {scope : Scope} {own : List (Str × Nat)} {wi : TI} {k : Nat} {g : TG} {tt : TT} {te : TE}
theorem room_gen (hr : Room (k + 1) X.A) (genv : Env) : Room k (X.A.in1.in1.deeper genv) := by
  refine ⟨hr.hd, ?_, ?_⟩
  · have := hr.dp
    show X.A.depth + 1 + 3 * k + 5 < _
    omega
  · have := hr.un
    show X.A.units + 1 + 1 + 3 + 16 * k + 200 < _
    omega
theorem gen_sp {vs : List Nat} {J : It} {a : Addr} {gi : Nat} {s0 : Shared} {genv : Env} {it : Addr} {fp : List Addr} {tn : Nat → Heap → Prop} {H : Hp} {s : Shared} (B : Born X pins σ vs scope tg iter elt ifs gpos J H a gi s0 genv it fp tn s) :
    ∀ b ∈ [a], s0.heap.objs.size < b ∧ ∃ o, s.heap.get? b = some o ∧ ∀ v, o.data ≠ .cell v := fun b hb => by
  have : b = a := by simpa using hb
  subst this
  obtain ⟨o, nm, qn, ho, _, hd, _⟩ := B.gen
  exact ⟨B.old, o, ho, fun v z => by rw [hd] at z; cases z⟩
theorem pe_anyG (hr : Room (k + 1) X.A) (hN : X.N.Nodup) (hg : Gl X "any") (hm : X.mg "any" = none) (TB : TabB X.base X.mg c P) (hcode : X.env.code = .ref c) (G : GScp X.N X.env.scope scope own) (hi : PI X tg iter wi) (hs : ∀ v, genFold iter X.env v = pure v)
    (pg : ∀ (A' : Around) (s : Shared) (H : Hp) (C : Addr) (code : Value) (fp : List Addr), Room k A' → PG (gcx X A' s H (genvOf X scope C code) fp) tg g)
    (pt : ∀ (A' : Around) (s : Shared) (H : Hp) (C : Addr) (code : Value) (fp : List Addr), Room k A' → PTs (gcx X A' s H (genvOf X scope C code) fp) ifs tt)
    (pe : ∀ (A' : Around) (s : Shared) (H : Hp) (C : Addr) (code : Value) (fp : List Addr), Room k A' → PE (gcx X A' s H (genvOf X scope C code) fp) elt te)
    (he : starEach [.GeneratorExp elt [⟨tg, iter, ifs, 0⟩] scope gpos] X.env = (false, eval (.GeneratorExp elt [⟨tg, iter, ifs, 0⟩] scope gpos) X.env) :: starEach [] X.env := by rfl) :
    PE X (.Call (.Name "any" p) [.GeneratorExp elt [⟨tg, iter, ifs, 0⟩] scope gpos] [] pos) (tAnyG P wi g tt te (own.map (·.2))) := by
  refine ⟨fun pins s σ H Q I h => ?_⟩
  refine wpAny_Call_Name_kw (ld_blt I hg hm boot_any ?_)
  refine PyProof.Rows.callWith_builtin1 ?_ he (by rfl)
  rw [he]
  show wpAny _ _ (spliced ((false, eval (.GeneratorExp elt [⟨tg, iter, ifs, 0⟩] scope gpos) X.env) :: backTo pos (starEach [] X.env))) _ _ s
  refine Calls.spliced_cons (gen_make hr hN TB hcode G hi hs I h fun J H2 a gi s0 genv it fp tn s5 hR B => ?_)
  refine Calls.spliced_nil ?_
  obtain ⟨n, W, w0, hend, turn⟩ := hR
  obtain ⟨code, rfl⟩ := B.ge
  refine call_function_tree F.kind_any F.plain_any F.entry_any (F.args_any1 _) ?_
  unfold Builtin.«any»
  refine wpAny_bind (m := oneArg "any" _) (wpAny_pure ?_)
  refine wpAny_bind (wpAny_pyIter_gen B.gen ?_)
  have rm := room_gen hr (genvOf X scope s0.heap.objs.size code)
  have S := B.asleep (Aq := X.A.in1) (g := g) (tt := tt) (te := te) (q := n + 1) (sp := [a]) I.ok.frames hr.hd (pg _ _ _ _ _ _ rm) (pt _ _ _ _ _ _ rm) (pe _ _ _ _ _ _ rm) turn (Nat.lt_succ_self _) rfl rfl (fun _ _ e => e) (gen_sp B)
  refine wpAny_pure ⟨plainId_quiet F.plain_any_loop _, any_loop (Xg := gcx X (X.A.in1.in1.deeper (genvOf X scope s0.heap.objs.size code)) s0 H2 (genvOf X scope s0.heap.objs.size code) fp) (A := X.A) B.turn rfl hr.hd (by have := hr.dp; show X.A.depth < _; omega) (by simp) (fun q H' s' I' w' => ?_) (fun q j y H' s' I' hy => ?_) (n + 1) 0 H2 s5 S w0⟩
  · exact ⟨.bl false, H', B.back I', rfl, hend H' w'⟩
  · obtain ⟨kk, e, q'⟩ := hy
    refine ⟨kk, e, ?_⟩
    cases kk with
    | true => exact ⟨.bl true, H', B.back I', rfl, q'⟩
    | false => exact q'
theorem pe_allG (hr : Room (k + 1) X.A) (hN : X.N.Nodup) (hg : Gl X "all") (hm : X.mg "all" = none) (hb : bootBuiltins "all" = some (.builtin "all")) (TB : TabB X.base X.mg c P) (hcode : X.env.code = .ref c) (G : GScp X.N X.env.scope scope own) (hi : PI X tg iter wi) (hs : ∀ v, genFold iter X.env v = pure v)
    (pg : ∀ (A' : Around) (s : Shared) (H : Hp) (C : Addr) (code : Value) (fp : List Addr), Room k A' → PG (gcx X A' s H (genvOf X scope C code) fp) tg g)
    (pt : ∀ (A' : Around) (s : Shared) (H : Hp) (C : Addr) (code : Value) (fp : List Addr), Room k A' → PTs (gcx X A' s H (genvOf X scope C code) fp) ifs tt)
    (pe : ∀ (A' : Around) (s : Shared) (H : Hp) (C : Addr) (code : Value) (fp : List Addr), Room k A' → PE (gcx X A' s H (genvOf X scope C code) fp) elt te)
    (he : starEach [.GeneratorExp elt [⟨tg, iter, ifs, 0⟩] scope gpos] X.env = (false, eval (.GeneratorExp elt [⟨tg, iter, ifs, 0⟩] scope gpos) X.env) :: starEach [] X.env := by rfl) :
    PE X (.Call (.Name "all" p) [.GeneratorExp elt [⟨tg, iter, ifs, 0⟩] scope gpos] [] pos) (tAllG P wi g tt te (own.map (·.2))) := by
  refine ⟨fun pins s σ H Q I h => ?_⟩
  refine wpAny_Call_Name_kw (ld_blt I hg hm hb ?_)
  refine PyProof.Rows.callWith_builtin1 ?_ he (by rfl)
  rw [he]
  show wpAny _ _ (spliced ((false, eval (.GeneratorExp elt [⟨tg, iter, ifs, 0⟩] scope gpos) X.env) :: backTo pos (starEach [] X.env))) _ _ s
  refine Calls.spliced_cons (gen_make hr hN TB hcode G hi hs I h fun J H2 a gi s0 genv it fp tn s5 hR B => ?_)
  refine Calls.spliced_nil ?_
  obtain ⟨n, W, w0, hend, turn⟩ := hR
  obtain ⟨code, rfl⟩ := B.ge
  refine call_function_tree F.kind_all F.plain_all F.entry_all (F.args_all1 _) ?_
  unfold Builtin.«all»
  refine wpAny_bind (m := oneArg "all" _) (wpAny_pure ?_)
  refine wpAny_bind (wpAny_pyIter_gen B.gen ?_)
  have rm := room_gen hr (genvOf X scope s0.heap.objs.size code)
  have S := B.asleep (Aq := X.A.in1) (g := g) (tt := tt) (te := te) (q := n + 1) (sp := [a]) I.ok.frames hr.hd (pg _ _ _ _ _ _ rm) (pt _ _ _ _ _ _ rm) (pe _ _ _ _ _ _ rm) turn (Nat.lt_succ_self _) rfl rfl (fun _ _ e => e) (gen_sp B)
  refine wpAny_pure ⟨plainId_quiet F.plain_all_loop _, all_loop (Xg := gcx X (X.A.in1.in1.deeper (genvOf X scope s0.heap.objs.size code)) s0 H2 (genvOf X scope s0.heap.objs.size code) fp) (A := X.A) B.turn rfl hr.hd (by have := hr.dp; show X.A.depth < _; omega) (by simp) (fun q H' s' I' w' => ?_) (fun q j y H' s' I' hy => ?_) (n + 1) 0 H2 s5 S w0⟩
  · exact ⟨.bl true, H', B.back I', rfl, hend H' w'⟩
  · obtain ⟨kk, e, q'⟩ := hy
    refine ⟨kk, e, ?_⟩
    cases kk with
    | true => exact q'
    | false => exact ⟨.bl false, H', B.back I', rfl, q'⟩
theorem pe_countG (hr : Room (k + 1) X.A) (hN : X.N.Nodup) (hg : Gl X "sum") (hm : X.mg "sum" = none) (hb : bootBuiltins "sum" = some (.builtin "sum")) (TB : TabB X.base X.mg c P) (hcode : X.env.code = .ref c) (G : GScp X.N X.env.scope scope own) (hi : PI X tg iter wi) (hs : ∀ v, genFold iter X.env v = pure v)
    (pg : ∀ (A' : Around) (s : Shared) (H : Hp) (C : Addr) (code : Value) (fp : List Addr), Room k A' → PG (gcx X A' s H (genvOf X scope C code) fp) tg g)
    (pt : ∀ (A' : Around) (s : Shared) (H : Hp) (C : Addr) (code : Value) (fp : List Addr), Room k A' → PTs (gcx X A' s H (genvOf X scope C code) fp) ifs tt)
    (pe : ∀ (A' : Around) (s : Shared) (H : Hp) (C : Addr) (code : Value) (fp : List Addr), Room k A' → PE (gcx X A' s H (genvOf X scope C code) fp) elt te)
    (he : starEach [.GeneratorExp elt [⟨tg, iter, ifs, 0⟩] scope gpos] X.env = (false, eval (.GeneratorExp elt [⟨tg, iter, ifs, 0⟩] scope gpos) X.env) :: starEach [] X.env := by rfl) :
    PE X (.Call (.Name "sum" p) [.GeneratorExp elt [⟨tg, iter, ifs, 0⟩] scope gpos] [] pos) (tCountG P wi g tt te (own.map (·.2))) := by
  refine ⟨fun pins s σ H Q I h => ?_⟩
  refine wpAny_Call_Name_kw (ld_blt I hg hm hb ?_)
  refine PyProof.Rows.callWith_builtin1 ?_ he (by rfl)
  rw [he]
  show wpAny _ _ (spliced ((false, eval (.GeneratorExp elt [⟨tg, iter, ifs, 0⟩] scope gpos) X.env) :: backTo pos (starEach [] X.env))) _ _ s
  refine Calls.spliced_cons (gen_make hr hN TB hcode G hi hs I h fun J H2 a gi s0 genv it fp tn s5 hR B => ?_)
  refine Calls.spliced_nil ?_
  obtain ⟨n, W, w0, hend, turn⟩ := hR
  obtain ⟨code, rfl⟩ := B.ge
  refine call_function_tree F.kind_sum F.plain_sum F.entry_sum (F.args_sum1 _) ?_
  unfold Builtin.«sum»
  simp only [List.length_cons, List.length_nil]
  rw [if_neg (by decide)]
  refine wpAny_bind (wpAny_of_eq (show Builtin.Builtins.bindParams "sum" ["start"] 0 { } = pure [none] from rfl) ?_)
  refine wpAny_bind (wpAny_pyIter_gen B.gen ?_)
  refine wpAny_bind (wpAny_mkInt ?_)
  refine wpAny_bind (wpAny_pure ?_)
  simp only [List.forIn_cons, List.forIn_nil]
  refine wpAny_bind (wpAny_bind (wpAny_bind (wpAny_isInstance (T := "int") (b := false) (typeIs_int _ _ _) PySem.sub_int_str ?_)))
  simp only [Bool.false_eq_true, if_false]
  refine wpAny_pure (wpAny_bind (wpAny_bind (wpAny_isInstance (T := "int") (b := false) (typeIs_int _ _ _) PySem.sub_int_bytes ?_)))
  simp only [Bool.false_eq_true, if_false]
  refine wpAny_pure (wpAny_bind (wpAny_bind (wpAny_isInstance (T := "int") (b := false) (typeIs_int _ _ _) PySem.sub_int_bytearray ?_)))
  simp only [Bool.false_eq_true, if_false]
  refine wpAny_pure (wpAny_pure ?_)
  refine wpAny_bind (wpAny_newObj_type ?_)
  have rm := room_gen hr (genvOf X scope s0.heap.objs.size code)
  have key : ∀ r : Int, r + 1 < 1000000 → 0 ≤ r + 1 → InLong (r + 1) := fun r h1 h2 => ⟨by omega, by omega⟩
  have hlt : a < s5.heap.objs.size := by
    obtain ⟨o, nm, qn, ho, _⟩ := B.gen
    exact Heap.lt_size ho
  have S := B.asleep (Aq := X.A.in1) (g := g) (tt := tt) (te := te) (q := n + 1) (sp := [a, s5.heap.objs.size]) (W := fun q i H => W ((n : Int) + 1 - (q : Int)) i H) (Yw := fun q i y H => yCount W ((n : Int) + 1 - (q : Int)) i y H)
    (s' := { s5 with toks := s5.toks + 1, heap := s5.heap.push { cls := .type "list", data := .seq ([.int 0 s5.toks] : List Value).toArray } }) I.ok.frames hr.hd (pg _ _ _ _ _ _ rm) (pt _ _ _ _ _ _ rm) (pe _ _ _ _ _ _ rm) (fun q i H hi w => turn _ i H hi w) (Nat.lt_succ_self _) rfl rfl (fun _ _ e => Heap.get?_push_of_some _ e) (fun b hb => by
      rcases List.mem_cons.mp hb with z | z
      · obtain ⟨h1, o, h2, h3⟩ := gen_sp B b (by simp [z])
        exact ⟨h1, o, Heap.get?_push_of_some _ h2, h3⟩
      · have z : b = s5.heap.objs.size := by simpa using z
        subst z
        exact ⟨Nat.lt_trans B.old hlt, _, Heap.get?_push_size _ rfl, fun v q => by cases q⟩)
  refine wpAny_pure ⟨plainId_quiet F.plain_sum_loop _, sum_loop (Xg := gcx X (X.A.in1.in1.deeper (genvOf X scope s0.heap.objs.size code)) s0 H2 (genvOf X scope s0.heap.objs.size code) fp) (A := X.A) (S := s5.heap.objs.size) (fun q => (n : Int) + 1 - (q : Int)) B.turn rfl hr.hd (by have := hr.dp; show X.A.depth < _; omega) (by simp) (by simp) (Nat.ne_of_lt hlt)
    (fun q H' s' t I' w' => ?_) (fun q j y H' s' I' hy => ?_) (n + 1) 0 H2 _ s5.toks 0 S ?_ ?_⟩
  · exact ⟨.int _, H', B.back I', ⟨t, rfl⟩, hend _ H' w'⟩
  · obtain ⟨e, ⟨h1, h2⟩, q'⟩ := hy
    have e1 : (n : Int) + 1 - ((q + 1 : Nat) : Int) + 1 = (n : Int) + 1 - (q : Int) := by omega
    rw [e1] at h1 h2 q'
    refine ⟨1, e, by omega, ⟨by decide, by decide⟩, ⟨by omega, by omega⟩, q'⟩
  · have e1 : (n : Int) + 1 - ((n + 1 : Nat) : Int) = 0 := by omega
    show W ((n : Int) + 1 - ((n + 1 : Nat) : Int)) 0 H2
    rw [e1]; exact w0
  · have e1 : (n : Int) + 1 - ((n + 1 : Nat) : Int) = 0 := by omega
    rw [e1]
    exact Heap.get?_push_size _ rfl
end
end
end Gx

set_option Elab.async false
set_option linter.all false
set_option maxRecDepth 100000
set_option maxHeartbeats 2000000
/-! zip of a tuple and a list: the library's proof for two tuples, turned to the mixed pair. -/
namespace Gx
open PySem PySem.Spec PyProof.Rows L2
open PySem.Sem (wp)
section
variable {prog : Program} {w : World} {A : Around} {E : Value → Shared → Prop} {s : Shared}
theorem zipM_next_item {z TI TO i1 i2 la lb : Addr} {k1 k2 : Nat} {xs ys : Array Value} {x y a b : Value} {Q : Value → Shared → Prop} (D : ZipApart z TI TO i1 i2 la lb)
    (iz : IsZip s.heap z TI TO .none) (pI : IsPair s.heap TI (.ref i1) (.ref i2)) (pO : IsPair s.heap TO a b)
    (ia : s.heap.IsTupleIter i1 la k1) (ib : s.heap.IsListIter i2 lb k2) (qa : s.heap.IsTuple la xs) (qb : s.heap.IsList lb ys) (hx : xs[k1]? = some x) (hy : ys[k2]? = some y)
    (hQ : ∀ h', IsZip h' z TI TO (rawInt s.heap.objs.size) → IsPair h' TO x y → h'.IsTupleIter i1 la (k1 + 1) → h'.IsListIter i2 lb (k2 + 1) → IsPair h' s.heap.objs.size x y → h'.objs.size = s.heap.objs.size + 1 →
      (∀ c o, c ≠ z → c ≠ TO → c ≠ i1 → c ≠ i2 → s.heap.get? c = some o → h'.get? c = some o) → Q (.ref s.heap.objs.size) { s with heap := h' }) :
    wpAny (model prog w) A (Builtin.«zip.__next__» ⟨[.ref z], []⟩) (fun fin s' => ∃ v, fin = .done (.ret v) ∧ Q v s') E s := by
  show wpAny _ _ (field (.ref z) 2 >>= _) _ _ _
  refine wpAny_bind (wpAny_field iz rfl (x := .bool false) rfl ?_)
  show wpAny _ _ (field (.ref z) 3 >>= _) _ _ _
  refine wpAny_bind (wpAny_field iz rfl (x := .ref TI) rfl ?_)
  refine wpAny_bind (wpAny_seqItems pI rfl ?_)
  show wpAny _ _ (Builtin.SmallTypes.ownedTupleIsFree (.ref z) >>= _) _ _ _
  refine wpAny_bind ?_
  unfold Builtin.SmallTypes.ownedTupleIsFree
  refine wpAny_bind (wpAny_field iz rfl (x := .none) rfl (wpAny_pure ?_))
  simp only [if_true]
  refine wpAny_bind (wpAny_rule ?_)
  refine wpAny_bind (wpAny_field iz rfl (x := .ref TO) rfl ?_)
  refine wpAny_bind (wpAny_setField_rec iz (by simp) fun g₁ iz₁ sb₁ => ?_)
  replace iz₁ : IsZip g₁ z TI TO .ellipsis := iz₁
  refine wpAny_bind ?_
  simp only [List.zipIdx_cons, List.zipIdx_nil, List.forIn_cons, List.forIn_nil]

  refine wpAny_bind (wpAny_bind (wpAny_onRaise ?_))
  show wpAny _ _ (Builtin.SmallTypes.nextOf (.ref i1) >>= _) _ _ _
  refine wpAny_bind (RZ.nextOf_tuple_item (ia.extBut sb₁.extBut D.i1z) (qa.extBut sb₁.extBut D.l1z) hx fun g₂ ia₂ sb₂ => wpAny_pure ?_)
  have pO₂ : IsPair g₂ TO a b := sb₂.extBut _ _ D.TOi1 (sb₁.extBut _ _ D.TOz pO)
  refine wpAny_bind (wpAny_seqItems pO₂ rfl ?_)
  refine wpAny_bind (wpAny_updateSeq_pair pO₂ fun g₃ pO₃ sb₃ => ?_)
  replace pO₃ : IsPair g₃ TO x b := pO₃
  refine wpAny_bind (wpAny_letGo (wpAny_pure ?_))

  refine wpAny_bind (wpAny_bind (wpAny_onRaise ?_))
  show wpAny _ _ (Builtin.SmallTypes.nextOf (.ref i2) >>= _) _ _ _
  refine wpAny_bind (wpAny_nextOf_list_item (((ib.extBut sb₁.extBut D.i2z).extBut sb₂.extBut D.i12.symm).extBut sb₃.extBut D.TOi2.symm)
    (((qb.extBut sb₁.extBut D.l2z).extBut sb₂.extBut D.l2i1).extBut sb₃.extBut D.l2TO) hy fun g₄ ib₄ sb₄ => wpAny_pure ?_)
  have pO₄ : IsPair g₄ TO x b := sb₄.extBut _ _ D.TOi2 pO₃
  refine wpAny_bind (wpAny_seqItems pO₄ rfl ?_)
  refine wpAny_bind (wpAny_updateSeq_pair pO₄ fun g₅ pO₅ sb₅ => ?_)
  replace pO₅ : IsPair g₅ TO x y := pO₅
  refine wpAny_bind (wpAny_letGo (wpAny_pure (wpAny_pure ?_)))

  refine wpAny_bind (wpAny_seqItems pO₅ rfl ?_)
  refine wpAny_bind (wpAny_newTuple ?_)
  have hsz : g₅.objs.size = s.heap.objs.size := by rw [sb₅.1, sb₄.1, sb₃.1, sb₂.1, sb₁.1]
  have iz₅ : IsZip g₅ z TI TO .ellipsis := sb₅.extBut _ _ D.TOz.symm (sb₄.extBut _ _ D.i2z.symm (sb₃.extBut _ _ D.TOz.symm (sb₂.extBut _ _ D.i1z.symm iz₁)))
  have kp₅ : ∀ c o, c ≠ z → c ≠ TO → c ≠ i1 → c ≠ i2 → s.heap.get? c = some o → g₅.get? c = some o := fun c o c1 c2 c3 c4 e =>
    sb₅.extBut _ _ c2 (sb₄.extBut _ _ c4 (sb₃.extBut _ _ c2 (sb₂.extBut _ _ c3 (sb₁.extBut _ _ c1 e))))
  have ia₅ : g₅.IsTupleIter i1 la (k1 + 1) := ((ia₂.extBut sb₃.extBut D.TOi1.symm).extBut sb₄.extBut D.i12).extBut sb₅.extBut D.TOi1.symm
  have ib₅ : g₅.IsListIter i2 lb (k2 + 1) := ib₄.extBut sb₅.extBut D.TOi2.symm
  have hzlt : z < g₅.objs.size := Heap.lt_size iz₅
  have hTOlt : TO < g₅.objs.size := Heap.lt_size pO₅
  have hi1lt : i1 < g₅.objs.size := by obtain ⟨_, e, _⟩ := ia₅; exact Heap.lt_size e
  have hi2lt : i2 < g₅.objs.size := by obtain ⟨_, e, _⟩ := ib₅; exact Heap.lt_size e
  show wpAny _ _ (Builtin.SmallTypes.ownedTupleHandOut (.ref z) (.ref g₅.objs.size) >>= _) _ _ _
  refine wpAny_bind ?_
  unfold Builtin.SmallTypes.ownedTupleHandOut
  have iz₆ : IsZip (g₅.push { cls := .type "tuple", data := .seq #[x, y] }) z TI TO .ellipsis := Heap.get?_push_of_some _ iz₅
  refine wpAny_bind (wpAny_setField_rec iz₆ (by simp) fun g₇ iz₇ sb₇ => ?_)
  replace iz₇ : IsZip g₇ z TI TO (rawInt g₅.objs.size) := iz₇
  refine wpAny_setField_rec iz₇ (by simp) fun g₈ iz₈ sb₈ => ?_
  replace iz₈ : IsZip g₈ z TI TO (rawInt g₅.objs.size) := iz₈
  have up : ∀ c o, c ≠ z → g₅.get? c = some o → g₈.get? c = some o := fun c o c1 e => sb₈.extBut _ _ c1 (sb₇.extBut _ _ c1 (Heap.get?_push_of_some _ e))
  have hT₈ : IsPair g₈ g₅.objs.size x y := sb₈.extBut _ _ (Nat.ne_of_gt hzlt) (sb₇.extBut _ _ (Nat.ne_of_gt hzlt) (Heap.get?_push_size _ rfl))
  have hz8 : g₈.objs.size = g₅.objs.size + 1 := by rw [sb₈.1, sb₇.1, Heap.size_push]
  rw [hsz] at iz₈ hT₈ hz8
  refine wpAny_pure ⟨_, rfl, ?_⟩
  show Q (.ref g₅.objs.size) _
  rw [hsz]
  exact hQ g₈ iz₈ (up _ _ D.TOz pO₅) (ia₅.at fun o e => up _ o D.i1z e) (ib₅.at fun o e => up _ o D.i2z e) hT₈ hz8 fun c o c1 c2 c3 c4 e => up c o c1 (kp₅ c o c1 c2 c3 c4 e)

theorem zipM_next_end {z TI TO i1 i2 la lb : Addr} {k1 k2 : Nat} {xs ys : Array Value} {a b : Value} {Q : Fin → Shared → Prop} (hh : A.handled = none) (D : ZipApart z TI TO i1 i2 la lb)
    (iz : IsZip s.heap z TI TO .none) (pI : IsPair s.heap TI (.ref i1) (.ref i2)) (pO : IsPair s.heap TO a b)
    (ia : s.heap.IsTupleIter i1 la k1) (ib : s.heap.IsListIter i2 lb k2) (qa : s.heap.IsTuple la xs) (qb : s.heap.IsList lb ys) (hend : xs[k1]? = none ∨ ys[k2]? = none)
    (hE : ∀ h' e, (∀ c o, c ≠ z → c ≠ TO → c ≠ i1 → c ≠ i2 → s.heap.get? c = some o → h'.get? c = some o) → (∃ o, h'.get? e = some o ∧ o.cls = .type "StopIteration") → E (.ref e) { s with heap := h' }) :
    wpAny (model prog w) A (Builtin.«zip.__next__» ⟨[.ref z], []⟩) Q E s := by
  show wpAny _ _ (field (.ref z) 2 >>= _) _ _ _
  refine wpAny_bind (wpAny_field iz rfl (x := .bool false) rfl ?_)
  show wpAny _ _ (field (.ref z) 3 >>= _) _ _ _
  refine wpAny_bind (wpAny_field iz rfl (x := .ref TI) rfl ?_)
  refine wpAny_bind (wpAny_seqItems pI rfl ?_)
  show wpAny _ _ (Builtin.SmallTypes.ownedTupleIsFree (.ref z) >>= _) _ _ _
  refine wpAny_bind ?_
  unfold Builtin.SmallTypes.ownedTupleIsFree
  refine wpAny_bind (wpAny_field iz rfl (x := .none) rfl (wpAny_pure ?_))
  simp only [if_true]
  refine wpAny_bind (wpAny_rule ?_)
  refine wpAny_bind (wpAny_field iz rfl (x := .ref TO) rfl ?_)
  refine wpAny_bind (wpAny_setField_rec iz (by simp) fun g₁ iz₁ sb₁ => ?_)
  replace iz₁ : IsZip g₁ z TI TO .ellipsis := iz₁
  refine wpAny_bind ?_
  simp only [List.zipIdx_cons, List.zipIdx_nil, List.forIn_cons, List.forIn_nil]
  refine wpAny_bind (wpAny_bind (wpAny_onRaise ?_))
  show wpAny _ _ (Builtin.SmallTypes.nextOf (.ref i1) >>= _) _ _ _
  cases hx : xs[k1]? with
  | none =>
    refine wpAny_bind (RZ.nextOf_tuple_end hh (ia.extBut sb₁.extBut D.i1z) (qa.extBut sb₁.extBut D.l1z) hx fun g₂ e sb₂ he => ?_)
    obtain ⟨oe, hoe, hce⟩ := he
    have iz₂ : IsZip g₂ z TI TO .ellipsis := sb₂ _ _ D.i1z.symm iz₁
    have hez : e ≠ z := fun x => by subst x; rw [iz₂] at hoe; cases hoe; simp at hce
    refine wpAny_setField_rec iz₂ (by simp) fun g₃ _ sb₃ => hE g₃ e (fun c o c1 _ c3 _ x => sb₃.extBut _ _ c1 (sb₂ _ _ c3 (sb₁.extBut _ _ c1 x))) ⟨oe, sb₃.extBut _ _ hez hoe, hce⟩
  | some x =>
    have hy : ys[k2]? = none := by rcases hend with h | h; rw [hx] at h; cases h; exact h
    refine wpAny_bind (RZ.nextOf_tuple_item (ia.extBut sb₁.extBut D.i1z) (qa.extBut sb₁.extBut D.l1z) hx fun g₂ ia₂ sb₂ => wpAny_pure ?_)
    have pO₂ : IsPair g₂ TO a b := sb₂.extBut _ _ D.TOi1 (sb₁.extBut _ _ D.TOz pO)
    refine wpAny_bind (wpAny_seqItems pO₂ rfl ?_)
    refine wpAny_bind (wpAny_updateSeq_pair pO₂ fun g₃ pO₃ sb₃ => ?_)
    refine wpAny_bind (wpAny_letGo (wpAny_pure ?_))
    refine wpAny_bind (wpAny_bind (wpAny_onRaise ?_))
    show wpAny _ _ (Builtin.SmallTypes.nextOf (.ref i2) >>= _) _ _ _
    refine wpAny_bind (wpAny_nextOf_list_end hh (((ib.extBut sb₁.extBut D.i2z).extBut sb₂.extBut D.i12.symm).extBut sb₃.extBut D.TOi2.symm)
      (((qb.extBut sb₁.extBut D.l2z).extBut sb₂.extBut D.l2i1).extBut sb₃.extBut D.l2TO) hy fun g₄ e sb₄ he => ?_)
    obtain ⟨oe, hoe, hce⟩ := he
    have iz₄ : IsZip g₄ z TI TO .ellipsis := sb₄ _ _ D.i2z.symm (sb₃.extBut _ _ D.TOz.symm (sb₂.extBut _ _ D.i1z.symm iz₁))
    have hez : e ≠ z := fun x => by subst x; rw [iz₄] at hoe; cases hoe; simp at hce
    refine wpAny_setField_rec iz₄ (by simp) fun g₅ _ sb₅ => hE g₅ e (fun c o c1 c2 c3 c4 x => sb₅.extBut _ _ c1 (sb₄ _ _ c4 (sb₃.extBut _ _ c2 (sb₂.extBut _ _ c3 (sb₁.extBut _ _ c1 x))))) ⟨oe, sb₅.extBut _ _ hez hoe, hce⟩

theorem pyNext_zipM_item {z TI TO i1 i2 la lb : Addr} {k1 k2 : Nat} {xs ys : Array Value} {x y a b : Value} {Q : Option Value → Shared → Prop} (D : ZipApart z TI TO i1 i2 la lb)
    (iz : IsZip s.heap z TI TO .none) (pI : IsPair s.heap TI (.ref i1) (.ref i2)) (pO : IsPair s.heap TO a b)
    (ia : s.heap.IsTupleIter i1 la k1) (ib : s.heap.IsListIter i2 lb k2) (qa : s.heap.IsTuple la xs) (qb : s.heap.IsList lb ys) (hx : xs[k1]? = some x) (hy : ys[k2]? = some y)
    (hQ : ∀ h', IsZip h' z TI TO (rawInt s.heap.objs.size) → IsPair h' TO x y → h'.IsTupleIter i1 la (k1 + 1) → h'.IsListIter i2 lb (k2 + 1) → IsPair h' s.heap.objs.size x y → h'.objs.size = s.heap.objs.size + 1 →
      (∀ c o, c ≠ z → c ≠ TO → c ≠ i1 → c ≠ i2 → s.heap.get? c = some o → h'.get? c = some o) → Q (some (.ref s.heap.objs.size)) { s with heap := h' }) :
    wpAny (model prog w) A (pyNext (.ref z)) Q E s := by
  have hT : s.TypeIs (.ref z) "zip" := ⟨_, iz, rfl⟩
  unfold pyNext
  exact wpAny_bind (wpAny_attempt (wpAny_callSpecial?_slot (name := Str.ofString "__next__") hT F.slot_zip_next
    (wpAny_call_entry F.slot_zip_next hT F.entry_zip_next
      (zipM_next_item D iz pI pO ia ib qa qb hx hy fun h' a1 a2 a3 a4 a5 a6 a7 => wpAny_pure (hQ h' a1 a2 a3 a4 a5 a6 a7)) (F.args_zip_next_1 _))))

theorem pyNext_zipM_end {z TI TO i1 i2 la lb : Addr} {k1 k2 : Nat} {xs ys : Array Value} {a b : Value} {Q : Option Value → Shared → Prop} (hh : A.handled = none) (D : ZipApart z TI TO i1 i2 la lb)
    (iz : IsZip s.heap z TI TO .none) (pI : IsPair s.heap TI (.ref i1) (.ref i2)) (pO : IsPair s.heap TO a b)
    (ia : s.heap.IsTupleIter i1 la k1) (ib : s.heap.IsListIter i2 lb k2) (qa : s.heap.IsTuple la xs) (qb : s.heap.IsList lb ys) (hend : xs[k1]? = none ∨ ys[k2]? = none)
    (hQ : ∀ h', (∀ c o, c ≠ z → c ≠ TO → c ≠ i1 → c ≠ i2 → s.heap.get? c = some o → h'.get? c = some o) → Q none { s with heap := h' }) : wpAny (model prog w) A (pyNext (.ref z)) Q E s := by
  have hT : s.TypeIs (.ref z) "zip" := ⟨_, iz, rfl⟩
  unfold pyNext
  refine wpAny_bind (wpAny_attempt (wpAny_callSpecial?_slot (name := Str.ofString "__next__") hT F.slot_zip_next
    (wpAny_call_entry F.slot_zip_next hT F.entry_zip_next (zipM_next_end hh D iz pI pO ia ib qa qb hend fun h' e hk he => ?_) (F.args_zip_next_1 _))))
  obtain ⟨o, ho, hc⟩ := he
  refine wpAny_bind (wpAny_isInstance (T := "StopIteration") (b := true) ⟨o, ho, hc⟩ isSubtype_stop ?_)
  exact wpAny_pure (hQ _ hk)
end

abbrev zipMH1 (h : Heap) (la : Addr) : Heap := h.push { cls := .type "tuple_iterator", data := .fields #[.ref la, .int 0 0] }
abbrev zipMH2 (h : Heap) (la lb : Addr) : Heap := (zipMH1 h la).push { cls := .type "list_iterator", data := .fields #[.ref lb, .int 0 0] }
abbrev zipMH3 (h : Heap) (la lb : Addr) : Heap := (zipMH2 h la lb).push { cls := .type "tuple", data := .seq #[.ref h.objs.size, .ref (zipMH1 h la).objs.size] }
abbrev zipMH4 (h : Heap) (la lb : Addr) : Heap := (zipMH3 h la lb).push { cls := .type "tuple", data := .seq #[.none, .none] }
abbrev zipMH5 (h : Heap) (la lb : Addr) : Heap := (zipMH4 h la lb).push { cls := .type "zip", data := .fields #[.none, .bool false, .bool false, .ref (zipMH2 h la lb).objs.size, .ref (zipMH3 h la lb).objs.size] }

theorem meets_zipM_new (la lb : Addr) (xs ys : Array Value) :
    Meets (Builtin.«zip.__new__» ⟨[.type "zip", .ref la, .ref lb], []⟩) (fun _ R s => s.heap.IsTuple la xs ∧ s.heap.IsList lb ys ∧
      R (.ok (.ret (.ref (zipMH4 s.heap la lb).objs.size))) { s with heap := zipMH5 s.heap la lb }) :=
  .of_wp fun prog w A R s h => by
    obtain ⟨hp, g, d, tk, os⟩ := s; obtain ⟨qa, qb, h⟩ := h
    have hsub := sub_zip
    have hL1 : Heap.IsTuple (Shared.heap ⟨hp, g, d, tk, os⟩) la xs := qa
    have hL2 : Heap.IsList (Shared.heap ⟨hp.push { cls := .type "tuple_iterator", data := .fields #[.ref la, .int 0 0] }, g, d, tk, os⟩) lb ys := Heap.IsList.push qb _
    wp_walk using wpAny_pyIter_tuple hL1, wpAny_pyIter_list hL2
    exact ⟨_, rfl, h⟩

section
variable {prog : Program} {w : World} {A : Around} {E : Value → Shared → Prop} {s : Shared}

theorem call_zipM {la lb : Addr} {xs ys : Array Value} {Q : Value → Shared → Prop} (qa : s.heap.IsTuple la xs) (qb : s.heap.IsList lb ys)
    (h : ∀ h', IsZip h' (s.heap.objs.size + 4) (s.heap.objs.size + 2) (s.heap.objs.size + 3) .none → IsPair h' (s.heap.objs.size + 2) (.ref s.heap.objs.size) (.ref (s.heap.objs.size + 1)) →
      IsPair h' (s.heap.objs.size + 3) .none .none → h'.IsTupleIter s.heap.objs.size la 0 → h'.IsListIter (s.heap.objs.size + 1) lb 0 → h'.objs.size = s.heap.objs.size + 5 →
      (∀ c o, s.heap.get? c = some o → h'.get? c = some o) → Q (.ref (s.heap.objs.size + 4)) { s with heap := h' }) :
    wpAny (model prog w) A (call (.type "zip") [.ref la, .ref lb]) Q E s := by
  refine callType_new F.called_zip (by decide) (F.typeCall_zip_2 _ _) (F.newCall_zip_2 _ _) (fun obj => F.args_object_init_3 obj _ _) F.entry_zip_new
    (meets_zipM_new la lb xs ys) ⟨qa, qb, ?_⟩
  have z1 : (zipMH1 s.heap la).objs.size = s.heap.objs.size + 1 := Heap.size_push ..
  have z2 : (zipMH2 s.heap la lb).objs.size = s.heap.objs.size + 2 := by rw [Heap.size_push, z1]
  have z3 : (zipMH3 s.heap la lb).objs.size = s.heap.objs.size + 3 := by rw [Heap.size_push, z2]
  have z4 : (zipMH4 s.heap la lb).objs.size = s.heap.objs.size + 4 := by rw [Heap.size_push, z3]
  have z5 : (zipMH5 s.heap la lb).objs.size = s.heap.objs.size + 5 := by rw [Heap.size_push, z4]
  have g5 : (zipMH5 s.heap la lb).get? (zipMH4 s.heap la lb).objs.size = some _ := Heap.get?_push_size _ rfl
  have g4 : (zipMH5 s.heap la lb).get? (zipMH3 s.heap la lb).objs.size = some _ := Heap.get?_push_of_some _ (Heap.get?_push_size _ rfl)
  have g3 : (zipMH5 s.heap la lb).get? (zipMH2 s.heap la lb).objs.size = some _ := Heap.get?_push_of_some _ (Heap.get?_push_of_some _ (Heap.get?_push_size _ rfl))
  have g2 : (zipMH5 s.heap la lb).get? (zipMH1 s.heap la).objs.size = some _ := Heap.get?_push_of_some _ (Heap.get?_push_of_some _ (Heap.get?_push_of_some _ (Heap.get?_push_size _ rfl)))
  have g1 : (zipMH5 s.heap la lb).get? s.heap.objs.size = some _ := Heap.get?_push_of_some _ (Heap.get?_push_of_some _ (Heap.get?_push_of_some _ (Heap.get?_push_of_some _ (Heap.get?_push_size _ rfl))))
  show _ ∧ _
  rw [z2, z3, z4] at g5
  rw [z1, z2] at g3
  rw [z3] at g4
  rw [z1] at g2
  rw [z4]
  exact ⟨⟨_, g5, rfl⟩, h _ g5 g3 g4 ⟨_, g1, rfl, rfl⟩ ⟨_, g2, rfl, rfl⟩ z5 fun c o x =>
    Heap.get?_push_of_some _ (Heap.get?_push_of_some _ (Heap.get?_push_of_some _ (Heap.get?_push_of_some _ (Heap.get?_push_of_some _ x))))⟩

end
/-- the tuple at a and the list at b, the items in new pairs -/
def ItzM (K : PySem.W.Frag) (a b : Addr) : It :=
  ⟨fun i H => ∃ (xs ys : List V) (x y : V), SqT K H a xs ∧ SqL K H b ys ∧ xs[i]? = some x ∧ ys[i]? = some y,
    fun i H v H' => ∃ T x y, v = .ref T ∧ H T = none ∧ H' = upd H T (.tup [x, y]) ∧ (∀ xs, SqT K H a xs → xs[i]? = some x) ∧ ∀ ys, SqL K H b ys → ys[i]? = some y,
    fun i H => ∃ xs ys : List V, SqT K H a xs ∧ SqL K H b ys ∧ (xs.length ≤ i ∨ ys.length ≤ i)⟩
theorem turn_zipM {P : Program} {w : World} {K : PySem.W.Frag} {elts : List Expr} {kk : Nat} {tpos : Pos} {a b z TI TO i1 i2 : Addr} (D : ZipApart z TI TO i1 i2 a b) :
    Turn P w K (.Tuple elts kk tpos) (ItzM K a b) [z, TI, TO, i1, i2] z (fun i h => IsZip h z TI TO .none ∧ IsPair h TI (.ref i1) (.ref i2) ∧ (∃ x y, IsPair h TO x y) ∧ h.IsTupleIter i1 a i ∧ h.IsListIter i2 b i) where
  mem := by simp
  obj := fun i h st c hc => by
    obtain ⟨iz, pI, ⟨x, y, pO⟩, ⟨o1, e1, _, d1⟩, ⟨o2, e2, _, d2⟩⟩ := st
    have e' : c = z ∨ c = TI ∨ c = TO ∨ c = i1 ∨ c = i2 := by simpa using hc
    rcases e' with q | q | q | q | q
    · rw [q]; exact ⟨_, iz, fun v q => nomatch q⟩
    · rw [q]; exact ⟨_, pI, fun v q => nomatch q⟩
    · rw [q]; exact ⟨_, pO, fun v q => nomatch q⟩
    · rw [q]; exact ⟨o1, e1, fun v q => by rw [d1] at q; cases q⟩
    · rw [q]; exact ⟨o2, e2, fun v q => by rw [d2] at q; cases q⟩
  keep := fun i h h' st k => by
    obtain ⟨iz, pI, ⟨x, y, pO⟩, ia, ib⟩ := st
    exact ⟨k z (by simp) _ iz, k TI (by simp) _ pI, ⟨x, y, k TO (by simp) _ pO⟩, ia.at fun o q => k i1 (by simp) o q, ib.at fun o q => k i2 (by simp) o q⟩
  item := by
    intro X hP hw hK hc i pins s σ H E I hf st hg
    subst hP hw hK
    obtain ⟨iz, pI, ⟨x0, y0, pO⟩, ia, ib⟩ := st
    obtain ⟨xs, ys, x, y, hqx, hqy, hx, hy⟩ := hg
    obtain ⟨its, rv, p, _⟩ := I.tuple hqx
    obtain ⟨its2, rv2, p2, _⟩ := I.list hqy
    obtain ⟨u, hu, ru⟩ := rv.get hx
    obtain ⟨u2, hu2, ru2⟩ := rv2.get hy
    have hzl : z < s.heap.objs.size := Heap.lt_size iz
    refine pyNext_zipM_item D iz pI pO ia ib p p2.isList (x := u) (y := u2) (by simpa using hu) (by simpa using hu2) fun h' z' TO' ia' ib' hT hsz hk => ?_
    refine ⟨_, rfl, wpAny_letOwnedTupleGo_zip (s := { s with heap := h' }) z' fun h'' z'' sb => ?_⟩
    have hT2 : h''.get? s.heap.objs.size = some { cls := .type "tuple", data := .seq #[u, u2] } := (sb.2 _ (Nat.ne_of_gt hzl)).trans hT
    have new : ObjOk X.prog X.w (upd H s.heap.objs.size (.tup [x, y])) h'' s.heap.objs.size (.tup [x, y]) :=
      ⟨by show 2 ≤ sizeLine; decide, [u, u2], .cons ru (.cons ru2 .nil), ⟨_, hT2, rfl, _, rfl⟩⟩
    have I1 : Inv X pins σ (upd H s.heap.objs.size (.tup [x, y])) { s with heap := h'' } :=
      I.turnedNew (t' := s.toks) (ch := [z, TI, TO, i1, i2]) (fun c o hb q => (sb.2 c (fun q' => hb (by simp [q']))).trans (hk c o (fun q' => hb (by simp [q'])) (fun q' => hb (by simp [q'])) (fun q' => hb (by simp [q'])) (fun q' => hb (by simp [q'])) q)) hf (Nat.le_refl _) new
    refine ⟨.ref s.heap.objs.size, _, I1, rfl, ⟨_, x, y, rfl, I.hok.fresh (Nat.le_refl _), rfl, fun l hl => by rw [I.tuple_inj hl hqx]; exact hx, fun l hl => by rw [I.list_inj hl hqy]; exact hy⟩, ⟨z'', ?_, ⟨u, u2, ?_⟩, ?_, ?_⟩, fun c hcm => ?_⟩
    · exact (sb.2 _ D.TIz).trans (hk _ _ D.TIz D.TITO D.TIi1 D.TIi2 pI)
    · exact (sb.2 _ D.TOz).trans TO'
    · exact ia'.at fun o q => (sb.2 _ D.i1z).trans q
    · exact ib'.at fun o q => (sb.2 _ D.i2z).trans q
    · have hlt : c < s.heap.objs.size := by
        have e' : c = z ∨ c = TI ∨ c = TO ∨ c = i1 ∨ c = i2 := by simpa using hcm
        rcases e' with q | q | q | q | q
        · rw [q]; exact hzl
        · rw [q]; exact Heap.lt_size pI
        · rw [q]; exact Heap.lt_size pO
        · rw [q]; obtain ⟨_, e1, _⟩ := ia; exact Heap.lt_size e1
        · rw [q]; obtain ⟨_, e2, _⟩ := ib; exact Heap.lt_size e2
      rw [upd_ne (Nat.ne_of_lt hlt)]
      exact (hf c hcm).1
  done := by
    intro X hP hw hK hc i pins s σ H E I hf st hg
    subst hP hw hK
    obtain ⟨iz, pI, ⟨x0, y0, pO⟩, ia, ib⟩ := st
    obtain ⟨xs, ys, hqx, hqy, hend⟩ := hg
    obtain ⟨its, rv, p, _⟩ := I.tuple hqx
    obtain ⟨its2, rv2, p2, _⟩ := I.list hqy
    have la := rv.length
    have lb := rv2.length
    have he : its.toArray[i]? = none ∨ its2.toArray[i]? = none := by
      rcases hend with q | q
      · exact .inl (by simp; omega)
      · exact .inr (by simp; omega)
    exact pyNext_zipM_end (I.ok.hd hc) D iz pI pO ia ib p p2.isList he fun h' hk => ⟨rfl, I.turnedL (t' := s.toks) (ch := [z, TI, TO, i1, i2]) (fun c o hb q =>
      hk c o (fun q' => hb (by simp [q'])) (fun q' => hb (by simp [q'])) (fun q' => hb (by simp [q'])) (fun q' => hb (by simp [q'])) q) hf⟩
  self := fun A i s Q E st h => wpAny_pyIter_zip st.1 h


def iZipM (K : PySem.W.Frag) (ta : TA) : TI := fun σ H R => ta σ H fun vs H1 => ∃ a b xs ys, vs = [.ref a, .ref b] ∧ SqT K H1 a xs ∧ SqL K H1 b ys ∧ R (ItzM K a b) H1
theorem pi_zipTL {X : Cx} {K : PySem.W.Frag} {e e2 : Expr} {ta : TA} {p pos tpos : Pos} {elts : List Expr} {kk : Nat} (hg : Gl X "zip") (hm : X.mg "zip" = none) (ha : PA X [e, e2] ta) (hK : X.K = K := by rfl)
    (hs : starEach [e, e2] X.env = (false, eval e X.env) :: starEach [e2] X.env := by rfl) (hpl : (backTo pos (starEach [e2] X.env)).any (·.1) = false := by rfl) :
    PI X (.Tuple elts kk tpos) (.Call (.Name "zip" p) [e, e2] [] pos) (iZipM K ta) := by
  subst hK
  refine ⟨fun pins s σ H R I h => ?_⟩
  refine Call_ (ld_blt I hg hm PyProof.Rows.boot_zip (PyProof.Rows.callWith_type1 (thn (ha.run pos pins s σ H _ I h) fun us s1 ⟨vs, H1, I1, r1, a, b, xs, ys, ex, hqx, hqy, q⟩ => ?_) hs hpl))
  subst ex
  cases r1 with
  | cons r rr =>
    cases rr with
    | cons r' rr =>
    cases rr
    cases r
    cases r'
    have fr : ∀ c, c ∈ [s1.heap.objs.size + 4, s1.heap.objs.size + 2, s1.heap.objs.size + 3, s1.heap.objs.size, s1.heap.objs.size + 1] → FpOk X pins H1 c := fun c hc => by
      have hle : s1.heap.objs.size ≤ c := by
        simp only [List.mem_cons, List.not_mem_nil, or_false] at hc
        rcases hc with h | h | h | h | h <;> rw [h] <;> first | exact Nat.le_refl _ | exact Nat.le_add_right _ _
      exact I1.fpOk hle (I1.hok.fresh hle)
    obtain ⟨its, rv, p1, _⟩ := I1.tuple hqx
    obtain ⟨its2, rv2, p2, _⟩ := I1.list hqy
    obtain ⟨o1, ho1, _⟩ := id p1
    refine call_zipM (show s1.heap.IsTuple a its.toArray from p1) p2.isList fun h' iz pI pO ia ib hsz hk => wpAny_pyIter_zip iz ?_
    exact ⟨s1.heap.objs.size + 4, [s1.heap.objs.size + 4, s1.heap.objs.size + 2, s1.heap.objs.size + 3, s1.heap.objs.size, s1.heap.objs.size + 1], _, _, H1, rfl, I1.kept (t' := s1.toks) hk, turn_zipM (PySem.W.ktu_apart s1.heap.objs.size a b (Heap.lt_size ho1) p2.lt), ⟨iz, pI, ⟨_, _, pO⟩, ia, ib⟩, fr, q⟩
theorem walk_zipM {K : PySem.W.Frag} {a b : Addr} {xs ys : List V} {n : Nat} (hn : n = min xs.length ys.length) : Walk (ItzM K a b) n (fun H => SqT K H a xs ∧ SqL K H b ys) (YPair (fun i => xs[i]?) (fun i => ys[i]?)) := by
  subst hn
  refine ⟨fun i H hi q => ⟨xs, ys, xs[i]'(by omega), ys[i]'(by omega), q.1, q.2, by simp [show i < xs.length by omega], by simp [show i < ys.length by omega]⟩, fun H q => ⟨xs, ys, q.1, q.2, by omega⟩, fun i H v H' _ q y => ?_⟩
  obtain ⟨T, x, z, e1, e2, e3, e4, e5⟩ := y
  exact ⟨T, x, z, e1, e2, e3, e4 xs q.1, e5 ys q.2⟩
end Gx

set_option Elab.async false
set_option linter.all false
set_option maxRecDepth 100000
set_option maxHeartbeats 2000000
/-! A method whose first statement is super().__init__(e): its body's rule. -/
namespace Gx
open PySem PySem.Spec PyProof.Rows L2
/-- the names: no cell of its own, from outside __class__ alone -/
structure ScS (N P : List Str) (sc : Scope) : Prop where
  kind : sc.kind = .function
  co : sc.isCoroutine = false
  gen : sc.isGenerator = false
  nd : N.Nodup
  pre : N.take P.length = P
  par : ∀ x ∈ P, sc.names.lookup x = some .local
  nocell : ∀ y ∈ sc.names, y.2 ≠ .cell
  free : ∀ y ∈ sc.names, y.2 = .free → y.1 = "__class__"
  sup : sc.names.lookup ("super" : Str) = some .globalImplicit
  cls : sc.names.lookup ("__class__" : Str) = some .free
/-- the method at f, its code object at c, the cell of its class D at cc, the base's __init__ at f0 -/
structure SupF (P : Program) (K : PySem.W.Frag) (mg : Str → Option Value) (qual : Str) (st : Stmt) (f : Addr) (fd : FuncData) (c cc D f0 : Addr) : Prop where
  ex : ∃ (oc : Value) (od : Option Addr) (kV doc pm : Value) (an : Option Addr) (ct : Value) (osl : Array (Option Value)),
    fd = { PySem.W.fnOf "__init__" qual (defArgs st) (defBody st) (defScope st) .none kV doc pm an (.ref c) ct with closure := [("__class__", cc)] } ∧ K.lookup f = some ⟨oc, od, .func fd, osl⟩ ∧ PySem.W.codeIn K (.ref c) qual = true
  cell : ∃ (cl : Value) (cld : Option Addr) (csl : Array (Option Value)), K.lookup cc = some ⟨cl, cld, .cell (some (.ref D)), csl⟩
  code : ∃ (ccl : Value) (cdd : Option Addr) (ccs : Array (Option Value)) (vs : Array Value) (file : Str) (tf : Tok), K.lookup c = some ⟨ccl, cdd, .fields vs, ccs⟩ ∧ vs[2]? = some (.str file tf) ∧ ((P.main.file : Str) == file) = true
  cls : ∃ cd, PySem.W.clsIn K D = some cd
  sub : PySem.W.mroIn K D (.ref D) = some true
  up : PySem.W.ks_superIn K D D "__init__" = some (some (.ref f0))
  fn : PySem.W.fnIn K f0 = true
  ty : PySem.W.typeIn K (.ref f0) = some (.type "function")
  any : PySem.W.nsIn K cStatics "thirdparty.any" = some none
  gs : mg "super" = none
abbrev envS (qual : Str) (scope : Scope) (L f : Addr) (c cc : Addr) : Env :=
  { scope := scope, locals := L, globals := mainGlobals, cells := [("__class__", cc)], qual := qual ++ ".<locals>.", func := some f, code := .ref c, frame := some L, builtins := builtinsNs }
def cxS (P : Program) (w : World) (K : PySem.W.Frag) (mg : Str → Option Value) (base : Heap) (N : List Str) (qual : Str) (scope : Scope) (f c cc : Addr) (A : Around) (outer : List Env) (s : Shared) (H : Hp) : Cx where
  prog := P
  w := w
  K := K
  mg := mg
  base := base
  A := A.deeper (envS qual scope s.heap.objs.size f c cc)
  N := N
  s_0 := s
  H_0 := H
  env := envS qual scope s.heap.objs.size f c cc
  outer := outer
  stack := envS qual scope s.heap.objs.size f c cc :: outer
  ex := []
  calm := true
  fn := fun _ => false
  pn := []
  xe := fun _ _ => False
theorem zip_keys : ∀ (P : List Str) (vs : List Value), ((P.zip vs).map (·.1)).Sublist P
  | [], _ => by simp
  | _ :: _, [] => by simp
  | p :: P, v :: vs => by
    rw [List.zip_cons_cons, List.map_cons]
    exact (zip_keys P vs).cons₂ _
theorem lookup_zip {x : Str} {v : Value} : ∀ {P : List Str} {vs : List Value} {i : Nat}, P.Nodup → P[i]? = some x → vs[i]? = some v → ∀ l : List (Str × Value), l.Perm (P.zip vs) → l.lookup x = some v := by
  intro P vs i nd hp hv l hl
  have hm : (x, v) ∈ l := hl.mem_iff.mpr (by
    refine List.mem_iff_getElem?.mpr ⟨i, ?_⟩
    exact List.getElem?_zip_eq_some.mpr ⟨hp, hv⟩)
  have hn : (l.map (·.1)).Nodup := by
    refine (hl.map (·.1)).nodup_iff.mpr ?_
    exact nd.sublist (zip_keys P vs)
  clear hl hp hv
  induction l with
  | nil => cases hm
  | cons y r ih =>
    obtain ⟨a, b⟩ := y
    rw [List.map_cons, List.nodup_cons] at hn
    rw [List.lookup_cons]
    rcases List.mem_cons.mp hm with e | hm'
    · cases e; simp
    · have : (x == a) = false := by
        rw [beq_eq_false_iff_ne]
        rintro rfl
        exact hn.1 (List.mem_map.mpr ⟨_, hm', rfl⟩)
      rw [this]
      exact ih hm' hn.2
section
variable {P : Program} {w : World} {K : PySem.W.Frag} {mg : Str → Option Value} {base : Heap} {N ps : List Str} {qual : Str} {scope : Scope} {f c cc D : Addr} {A : Around} {outer : List Env} {s : Shared} {H : Hp} {us : List Value} {vs : List V}
theorem inv_super (S : ScS N ps scope) (hd : A.handled = none) (e0 : Env0 P w K mg base A outer s H) (hl : vs.length = ps.length) (r : Vals vs us) {h₀ : Heap} {t : Nat} (hcc : ∃ v, base.IsCell cc v)
    (hn : h₀.Ns s.heap.objs.size (fun x => (ps.zip us).reverse.lookup x)) (hk : ∀ b o, s.heap.get? b = some o → h₀.get? b = some o) :
    Inv (cxS P w K mg base N qual scope f c cc A outer s H) [] (L2.start N vs) H { s with heap := h₀, toks := t } := by
  have noA : ∀ b : Addr, b ∉ (cxS P w K mg base N qual scope f c cc A outer s H).ex := fun b z => absurd (show b ∈ ([] : List Addr) from z) (by simp)
  have look : ∀ {y : Str} {c' : Addr}, (cxS P w K mg base N qual scope f c cc A outer s H).env.cells.lookup y = some c' → y = "__class__" ∧ c' = cc := fun {y c'} e => by
    have e : List.lookup y [(("__class__" : Str), cc)] = some c' := e
    rw [List.lookup_cons] at e
    cases hy : y == ("__class__" : Str) with
    | true => rw [hy] at e; exact ⟨eq_of_beq hy, (Option.some.inj e).symm⟩
    | false => rw [hy] at e; cases e
  obtain ⟨cv, co, hco, hcd⟩ := hcc
  refine ⟨⟨e0.mod, S.kind, rfl, rfl, Nat.le_refl _, fun y z c' h1 h2 => ?_, fun y hy => ?_, fun y c' z _ => ?_, fun _ => hd, Around.frames_deeper e0.frames, .inr ⟨rfl, rfl⟩, fun b z => absurd z (noA b), e0.bs, e0.bsz, fun b _ _ => noA b, fun b z => absurd z (noA b), e0.funs, e0.frf⟩,
    rfl, e0.bare, Un.kept hk, ⟨_, hn, fun i y v h1 h2 h3 => ?_⟩, fun y c' h => ?_, e0.hok.fresh (Nat.le_refl _), fun y c' h => ?_, fun p hp => absurd (show p ∈ ([] : List (Addr × Obj)) from hp) (by simp), e0.hok.kept hk, ?_⟩
  · rw [(look h1).1, (look h2).1]
  · have hy : scope.names.lookup y = some .cell ∨ scope.names.lookup y = some .free := hy
    rcases hy with hy | hy
    · exact absurd rfl (S.nocell _ (PySem.mem_of_lookup hy))
    · have := S.free _ (PySem.mem_of_lookup hy) rfl
      have this : y = "__class__" := this
      subst this
      exact ⟨cc, rfl⟩
  · cases z
  · have hi : i < vs.length := by
      unfold L2.start at h2
      by_cases hi : i < vs.length
      · exact hi
      · rw [List.getElem?_append_right (by simpa using hi), List.getElem?_replicate] at h2
        split at h2 <;> cases h2
    have ha : vs[i]? = some v := by
      unfold L2.start at h2
      rw [List.getElem?_append_left (by simpa using hi), List.getElem?_map] at h2
      cases e : vs[i]? with
      | none => rw [e] at h2; cases h2
      | some a => rw [e] at h2; cases h2; rfl
    obtain ⟨u, hu, rv⟩ := r.get ha
    have hp : ps[i]? = some y := by
      rw [← S.pre, List.getElem?_take_of_lt (by omega)]; exact h1
    have ndP : ps.Nodup := by rw [← S.pre]; exact S.nd.sublist (List.take_sublist _ _)
    exact ⟨u, rv, .inl ⟨S.par y (List.mem_of_getElem? hp), lookup_zip ndP hp hu _ (List.reverse_perm _)⟩⟩
  · obtain ⟨_, rfl⟩ := look h
    exact ⟨cv, co, hk _ _ (e0.bs _ _ hco).1, hcd⟩
  · obtain ⟨_, rfl⟩ := look h
    exact (e0.bs _ _ hco).2
  · have hpl : ps.length ≤ N.length := by have := congrArg List.length S.pre; rw [List.length_take] at this; omega
    unfold L2.start
    show _ = N.length
    rw [List.length_append, List.length_map, List.length_replicate]
    omega
theorem fn_super {fd : FuncData} {st : Stmt} {k f0 : Addr} {fd0 : FuncData} {sp sp0 : Sp} {p0 p1 apos cpos epos : Pos} {e : Expr} {rest : List Stmt} {ar : Arg} {ps0 : List Str}
    (F : SupF P K mg qual st f fd c cc D f0) (S : ScS N ps (defScope st)) (len : ∀ vs H Q E, sp vs H Q E → vs.length = ps.length)
    (hB : defBody st = .Expr (.Call (.Attribute (.Call (.Name "super" p0) [] [] p1) "__init__" apos) [e] [] cpos) epos :: rest) (har : ((defArgs st).posonlyargs ++ (defArgs st).args).head? = some ar) (hps : ps[0]? = some ar.arg)
    (htop : (P.main.scope.names.lookup ("super" : Str)).isSome = false)
    (F0 : FnOk P w K mg base CX0 k f0 fd0 ps0 sp0) (b0 : Binds K fd0 ps0 [])
    (hst : ∀ L, starEach [e] (envS qual (defScope st) L f c cc) = (false, eval e (envS qual (defScope st) L f c cc)) :: starEach [] (envS qual (defScope st) L f c cc))
    (hin : ∀ L, interactive (envS qual (defScope st) L f c cc) = false)
    (hsw : ∀ L, swapsWith (.Call (.Attribute (.Call (.Name "super" p0) [] [] p1) "__init__" apos) [e] [] cpos) none epos.line (envS qual (defScope st) L f c cc) = pure false)
    (hev : ∀ L, ∃ pl : Sem Bool, eval (.Call (.Attribute (.Call (.Name "super" p0) [] [] p1) "__init__" apos) [e] [] cpos) (envS qual (defScope st) L f c cc) = (do
      let ov ← attributeBase (.Call (.Name "super" p0) [] [] p1) "__init__" (envS qual (defScope st) L f c cc) (eval (.Call (.Name "super" p0) [] [] p1) (envS qual (defScope st) L f c cc))
      standAt apos.atName
      let (g', first) ← holding [ov] (getMethod ov "__init__" pl)
      callWith cpos g' first (backTo cpos (starEach [e] (envS qual (defScope st) L f c cc))) []))
    (hbody : ∀ (A : Around) (outer : List Env) (s : Shared) (H : Hp) (vs : List V) (Q : VK) (E : XK), Room k (A.deeper (envS qual (defScope st) s.heap.objs.size f c cc)) → sp vs H Q E →
      ∃ (x dx : Addr) (fs : List (Str × V)) (te : TE) (t : TS), vs[0]? = some (.ref x) ∧ H x = some (.ins D dx fs) ∧ PE (cxS P w K mg base N qual (defScope st) f c cc A outer s H) e te ∧ PSs (cxS P w K mg base N qual (defScope st) f c cc A outer s H) rest t ∧
        te (L2.start N vs) H fun v H1 => sp0 [.ref x, v] H1 (fun _ H2 => t { nx := fun _ H' => Q .non H', rt := Q } (L2.start N vs) H2) E0) :
    FnOk P w K mg base CX0 (k + 1) f fd ps sp := by
  refine ⟨len, fun A outer s H args us vs Q E hr e0 hb r hsp => ?_⟩
  have hl := len _ _ _ _ hsp
  have KX : K.In s.heap := e0.mod.kin.keeps fun b o e => (e0.bs b o e).1
  have lim : s.heap.NoLimit := e0.mod.nolimit.keeps fun b o e => (e0.bs b o e).1
  obtain ⟨oc, od, kV, doc, pm, an, ct, osl, rfl, lk, hcd⟩ := F.ex
  obtain ⟨cl, cld, csl, lcell⟩ := F.cell
  obtain ⟨ccl, cdd, ccs, cvs, file, tf, lcode, hvs, hfile⟩ := F.code
  obtain ⟨cdD, hD⟩ := F.cls
  have hbase : ∃ v, base.IsCell cc v := ⟨_, _, e0.mod.kin _ _ lcell, rfl⟩
  have hloc : ∀ y ∈ ps.zip us, (defScope st).names.lookup y.1 = some .local := fun ⟨n, v⟩ hy => S.par n (List.of_mem_zip hy).1
  refine PySem.ks_codeAny_call_defAt hr.depth (KX _ _ lk) rfl lim (PySem.W.codeRec_of KX hcd) rfl (hb) (fun y hy => S.nocell y hy) hloc (fun h₀ ns keep => ?_) S.co S.gen S.kind
  obtain ⟨x, dx, fs, te, t, hx0, hHx, he, hrest, hq⟩ := hbody A outer s H vs Q E (hr.deeper _) hsp
  have I := inv_super (N := N) (qual := qual) (f := f) (c := c) (t := s.toks + (ps.zip us).length) S hr.hd e0 hl r hbase ns keep
  have KX0 : K.In h₀ := KX.keeps keep
  show _root_.PySem.wpAt (model P w) (A.deeper (envS qual (defScope st) s.heap.objs.size f c cc)) (.func (defBody st) (envS qual (defScope st) s.heap.objs.size f c cc)) (execs (defBody st) (envS qual (defScope st) s.heap.objs.size f c cc)) _ _ _
  rw [hB]
  obtain ⟨pl, hpl⟩ := hev s.heap.objs.size
  refine ks_wpAt_execs_cons (ks_wpAt_Expr_any (ks_wpAt_MethodCall (pl := pl) ?_ hpl) (hin _) (hsw _))
  -- the super object
  refine ks_wpAt_super_base (env := envS qual (defScope st) s.heap.objs.size f c cc) S.sup S.cls rfl rfl (keep _ _ (KX _ _ lk)) rfl har rfl (KX0 _ _ lcode) rfl hvs hfile htop ?_
  obtain ⟨mb, hb1, hb2⟩ := I.mod.blt
  refine PySem.W.ks_loadName_global S.kind S.sup (Calls.loadGlobal_builtin (env := envS qual (defScope st) s.heap.objs.size f c cc) (I.mod.glob.keeps I.bk) F.gs (hb1.keeps I.bk) ((hb2 _ (by decide)).trans (by decide +kernel)) ⟨rfl, ?_⟩)
  refine wpAny_loadName_free S.kind S.cls rfl ⟨_, KX0 _ _ lcell, rfl⟩ ?_
  obtain ⟨u0, hu0, ru0⟩ := r.get hx0
  obtain rfl : u0 = Value.ref x := ru0
  have ndP : ps.Nodup := by rw [← S.pre]; exact S.nd.sublist (List.take_sublist _ _)
  refine wpAny_loadName_local S.kind (S.par _ (List.mem_of_getElem? hps)) ns (lookup_zip ndP hps hu0 _ (List.reverse_perm _)) ?_
  obtain ⟨oD, hD1, hD2⟩ : ∃ oD, h₀.get? D = some oD ∧ oD.data = .cls cdD := by
    unfold PySem.W.clsIn at hD
    split at hD
    · rename_i ho
      cases hD
      exact ⟨_, KX0 _ _ ho, rfl⟩
    · cases hD
  obtain ⟨_, _, _, hxo, _⟩ : H dx = some (.own x) ∧ fs.length ≤ 1000 ∧ dx ≠ x ∧ h₀.get? x = some (PySem.W.instObj D dx) ∧ _ := I.hok x _ hHx
  refine ks_wpAny_isType_cls hD1 hD2 ⟨rfl, ?_⟩
  refine ks_wpAny_call_super hD1 hD2 hxo rfl (fun c' z => by cases z) (PySem.W.looks_mroIn KX0 F.sub) (fun h1 hso k1 => ?_)
  -- its method
  have KX1 : K.In h1 := KX0.keeps k1
  have hxD : x ≠ D := fun z => by
    have hDb : ∃ o, base.get? D = some o := by
      unfold PySem.W.clsIn at hD
      split at hD
      · rename_i ho
        exact ⟨_, e0.mod.kin _ _ ho⟩
      · cases hD
    obtain ⟨o, ho⟩ := hDb
    have := (e0.bs _ _ ho).2
    rw [← z, hHx] at this
    cases this
  obtain ⟨of, hof, hofc⟩ : ∃ of, h1.get? f0 = some of ∧ of.cls = .type "function" := by
    have ht' : (K.lookup f0).map (·.cls) = some (.type "function") := F.ty
    cases z : K.lookup f0 with
    | none => rw [z] at ht'; cases ht'
    | some of => rw [z] at ht'; exact ⟨of, KX1 _ _ z, Option.some.inj ht'⟩
  have hup := F.up
  unfold PySem.W.ks_superIn at hup
  rw [hD] at hup
  refine ks_wpAny_getMethod_super hso (PySem.W.looks_opaque KX1 F.any) (l₀ := cdD.mro) ?_ rfl KX1 hup hof hofc hxD rfl ?_
  · exact fun A Q E s k q => wpAny_bind ((PySem.W.looks_clsIn KX1 hD) A _ E s k (wpAny_pure q))
  -- its argument and its call
  generalize hq1 : h1.objs.size = q
  have hqm : (h1.push { cls := .type "method", data := .fields #[.ref f0, .ref x] }).get? q = some (PySem.W.methodObj (.ref f0) (.ref x)) := by rw [← hq1]; exact Heap.get?_push_at rfl rfl
  have k2 : ∀ b o, h₀.get? b = some o → (h1.push { cls := .type "method", data := .fields #[.ref f0, .ref x] }).get? b = some o := fun b o e => Heap.get?_push_of_some _ (k1 b o e)
  have I1 : Inv (cxS P w K mg base N qual (defScope st) f c cc A outer s H) [] (L2.start N vs) H { s with heap := h1, toks := s.toks + (ps.zip us).length } := I.kept (t' := s.toks + (ps.zip us).length) k1
  have fq := I1.fpOk (b := q) (H' := H) (by rw [← hq1]; exact Nat.le_refl _) (I1.hok.fresh (by rw [← hq1]; exact Nat.le_refl _))
  generalize h1.push { cls := .type "method", data := .fields #[.ref f0, .ref x] } = h2 at hqm k2
  have I2 : Inv (cxS P w K mg base N qual (defScope st) f c cc A outer s H) [(q, PySem.W.methodObj (.ref f0) (.ref x))] (L2.start N vs) H { s with heap := h2, toks := s.toks + (ps.zip us).length + 1 } :=
    (I.kept (t' := s.toks + (ps.zip us).length + 1) k2).pins_of fun p hp => by
      have : p = (q, PySem.W.methodObj (.ref f0) (.ref x)) := by simpa using hp
      subst this
      exact ⟨hqm, fq.1, fq.2.1, fq.2.2.1, fun v z => by cases z⟩
  have ha : PA (cxS P w K mg base N qual (defScope st) f c cc A outer s H) [e] (tCons te tNil) := pa_cons he pa_nil (hst _)
  have hrun := ha.run cpos _ _ _ _ (fun ws H1 => sp0 (.ref x :: ws) H1 (fun _ H2 => t { nx := fun _ H' => Q .non H', rt := Q } (L2.start N vs) H2) E0) I2 hq
  have hrun : wpAny (model P w) (A.deeper (envS qual (defScope st) s.heap.objs.size f c cc)) (spliced (backTo cpos (starEach [e] (envS qual (defScope st) s.heap.objs.size f c cc)))) _ (fun _ _ => False) _ := hrun
  show wpAny _ _ (callWith cpos (.ref q) [] (backTo cpos (starEach [e] (envS qual (defScope st) s.heap.objs.size f c cc))) []) _ _ _
  rw [hst s.heap.objs.size] at hrun ⊢
  refine PySem.W.callWith_of (P := PySem.W.MethP K q f0 (.ref x)) rfl (PySem.W.keeps_M F.fn) (Calls.evalArgs_plain (wpAny_mono hrun (fun us' s3 h3 => ?_) fun _ _ z => z.elim))
  obtain ⟨vs', H3, I3, rv3, q3⟩ := h3
  have hq3 := (I3.pin (q, PySem.W.methodObj (.ref f0) (.ref x)) (by simp)).1
  refine ⟨⟨hq3, I3.kIn⟩, wpAny_call (PySem.W.method_call hq3 ?_)⟩
  have hl3 : (Value.ref x :: us').length = ps0.length := by
    rw [← F0.len _ _ _ _ q3, List.length_cons, List.length_cons, rv3.length]
  have hbt : BindsTo s3 fd0 ⟨Value.ref x :: us', []⟩ (ps0.zip (Value.ref x :: us')) := by
    have := b0 s3 (Value.ref x :: us') I3.kIn (by rw [List.append_nil]; exact hl3)
    rwa [List.append_nil] at this
  refine codeAny_mono (F0.run _ _ s3 H3 ⟨Value.ref x :: us', []⟩ (Value.ref x :: us') (.ref x :: vs') _ E0 (hr.deeper _) I3.env0 hbt (.cons rfl rv3) q3) fun r s4 h4 => ?_
  cases r with
  | error e => exact h4.elim
  | ok fl =>
    cases fl with
    | ret u =>
      obtain ⟨v4, H4, I4, rv4, q4⟩ := I3.after h4
      refine wpAt_of_wpAny (wpAny_mono (hrest.run [] s4 _ H4 _ (I4.pins_of fun p hp => absurd hp (by simp)) q4) (fun fl s' hs => ?_) fun _ _ z => z.elim)
      have fin : ∀ {σ' : L2.St} {H' : Hp} {v : V} {u : Value}, Inv (cxS P w K mg base N qual (defScope st) f c cc A outer s H) [] σ' H' s' → RelV v u → Q v H' → CE outer P w H s Q u s' :=
        fun {σ' H' v u} J rv q => ⟨v, H', J.os, J.bare, J.base, J.hok, rv, q⟩
      cases fl with
      | ret u =>
        obtain ⟨v, σ', H', J, rv, q⟩ := hs
        exact fin J rv q
      | next =>
        obtain ⟨σ', H', J, q⟩ := hs
        exact fin (v := V.non) (u := Value.none) J rfl q
      | brk =>
        obtain ⟨_, _, _, q⟩ := hs
        exact False.elim q
      | cont =>
        obtain ⟨_, _, _, q⟩ := hs
        exact False.elim q
    | next => exact False.elim h4
    | brk => exact False.elim h4
    | cont => exact False.elim h4
end
end Gx

set_option Elab.async false
set_option linter.all false
set_option maxRecDepth 100000
set_option maxHeartbeats 4000000
/-! {int for .. in ..}: the library's set comprehension of truth values, turned to whole numbers; its len. -/
namespace Gx
open PySem PySem.Spec PyProof.Rows L2 PpSet
section
variable {X : Cx}
theorem addI_ok {pins : List (Addr × Obj)} {σ : L2.St} {H : Hp} {s : Shared} {E : Value → Shared → Prop} {D : Addr} {S : Int → Bool} {n : Nat} {y : Int} {tk : Tok} {Q : Value → Shared → Prop} (I : Inv X pins σ H s) (hD : H D = some (SetO X.w D S n)) (room : n + 1 < scanBound)
    (h : ∀ s', Inv X pins σ (upd H D (SetO X.w D (fun j => S j || decide (j = y)) (if S y = true then n else n + 1))) s' → Q .none s') : wpAny (model X.prog X.w) X.A (call (.builtin "set.add") [.ref D, .int y tk]) Q E s := by
  refine setR_add (setO_get I hD) room fun h1 same R => ?_
  have hu : ∃ u, h1.get? D = some u := by obtain ⟨o, _, _, _, e, _⟩ := R; exact ⟨o, e⟩
  exact h _ (I.write (e := D) (t' := s.toks + 1) (by rw [hD]; trivial) (.inl rfl) (fun b u hb e => (same.2 b hb).trans e) hu (setO_new R))
/-- {elt for target in iter if ..}, elt a whole number: D the new set -/
def tScI (w : World) (wi : TI) (g : TG) (tt : TT) (te : TE) (vs : List Nat) : TE := fun σ H Q => wi σ H fun J H1 => ∀ D, H1 D = none → ∃ W : Nat → Nat → Hp → Prop, (∃ m, W 0 m (upd H1 D (SetO w D (fun _ => false) 0))) ∧ ∀ i m H, W i m H →
  (J.stop i H ∧ Q (.ref D) H) ∨ (J.go i H ∧ ∃ Nx : Hp → Prop, (∀ H', Nx H' → ∃ m', m' < m ∧ W (i + 1) m' H') ∧ ∀ x H', J.yld i H x H' → g x (wipe σ vs) H' fun σ2 H2 => wipe σ2 vs = wipe σ vs ∧ tt σ2 H2 fun b Hn =>
    if b = true then te σ2 Hn fun y H4 => ∃ (c : Int) (S : Int → Bool) (n : Nat), y = .int c ∧ H4 D = some (SetO w D S n) ∧ n + 1 < scanBound ∧ Nx (upd H4 D (SetO w D (fun j => S j || decide (j = c)) (if S c = true then n else n + 1))) else Nx Hn)
theorem scI_core {pins : List (Addr × Obj)} {s : Shared} {σ : L2.St} {H : Hp} {Q : VK} {elt tg iter : Expr} {ifs : List Expr} {scope : Scope} {own : List (PySem.Str × Nat)} {pos pos' : Pos} {wi : TI} {g : TG} {tt : TT} {te : TE} {use : Option (Value → Sem Unit)} {Qf : Value → Shared → Prop}
    (hc : X.calm = true) (hN : X.N.Nodup) (I : Inv X pins σ H s) (hi : PI X tg iter wi) (ok : BlkOk X.N X.env.scope scope own)
    (hg : ∀ (s : Shared) (H : Hp) (C : Addr) (cl : List (PySem.Str × Addr)) (fp : List Addr), PG (X.blk s H scope (compEnvC scope cl C X.env) fp) tg g) (ht : ∀ (s : Shared) (H : Hp) (C : Addr) (cl : List (PySem.Str × Addr)) (fp : List Addr), PTs (X.blk s H scope (compEnvC scope cl C X.env) fp) ifs tt)
    (he : ∀ (s : Shared) (H : Hp) (C : Addr) (cl : List (PySem.Str × Addr)) (fp : List Addr), PE (X.blk s H scope (compEnvC scope cl C X.env) fp) elt te) (hs : ∀ x, foldedSetIterable iter X.env x = pure x)
    (h : tScI X.w wi g tt te (own.map (·.2)) σ H Q)
    (hRR : ∀ D C s' m H', Inv X pins σ H' s' → Q (.ref D) H' → s'.heap.Ns C m → FpOk X pins H' C → compPost (model X.prog X.w) X.A X.xe use Qf (.ref D) C (.ok .next) s') :
    wpAny (model X.prog X.w) X.A (comprehension (.SetComp elt [⟨tg, iter, ifs, 0⟩] scope pos) scope X.env pos' (newSet (.type "set")) false (eval iter X.env) use) Qf X.xe s := by
  have hfree : ∀ y ∈ scope.names, y.2 = .free → ∃ c, X.env.cells.lookup y.1 = some c := fun y hy e => by
    rcases ok.free y hy e with k | k
    · exact I.ok.has _ (.inl k)
    · exact I.ok.has _ (.inr k)
  refine wpAny_comprehension_free (use := use) rfl hs (closure_ok hfree) ok.kind (fun y hy e => by rw [ok.uniq y hy, e])
    (thn (hi.run pins s σ H _ I h) fun xv s1 hx => thn hx fun itv s2 h2 => ?_)
  obtain ⟨it, fp, tn, J, H2, e, I2, T, st2, f2, q⟩ := h2
  subst e
  refine newSet_ok (newEnv_comp ?_)
  generalize hD : s2.heap.objs.size = D
  have hDn : H2 D = none := I2.hok.fresh (Nat.le_of_eq hD)
  obtain ⟨W, ⟨m0, w0⟩, turn⟩ := q D hDn
  -- the new list
  generalize hsn : ({ s2 with heap := s2.heap.push { cls := .type "set", dict := none, data := .set #[] 0 (.fresh 0 0 (!X.w.params.followText "set-order")) } } : Shared) = sn
  have In : Inv X pins σ (upd H2 D (SetO X.w D (fun _ => false) 0)) sn := by
    rw [← hsn]
    refine I2.laid (t' := s2.toks) (fun b o e => Heap.get?_push_of_some _ e) (Nat.le_of_eq hD) ?_
    rw [← hD]
    exact setO_new (setR_fresh X.w)
  have hn3 : sn.heap = s2.heap.push { cls := .type "set", dict := none, data := .set #[] 0 (.fresh 0 0 (!X.w.params.followText "set-order")) } := by rw [← hsn]
  have sz : ∀ b ∈ fp, b < s2.heap.objs.size := fun b hb => by
    obtain ⟨o, e, _⟩ := T.obj _ _ st2 b hb
    exact Heap.lt_size e
  have fn3 : ∀ b ∈ fp, FpOk X pins (upd H2 D (SetO X.w D (fun _ => false) 0)) b ∧ b < sn.heap.objs.size := fun b hb => by
    have hlt := sz b hb
    refine ⟨⟨?_, (f2 b hb).2⟩, by rw [hn3, Heap.size_push]; exact Nat.lt_succ_of_lt hlt⟩
    rw [upd_ne (by rw [← hD]; exact Nat.ne_of_lt hlt)]
    exact (f2 b hb).1
  have stn : tn 0 sn.heap := T.keep _ _ _ st2 fun b _ o e => by rw [hn3]; exact Heap.get?_push_of_some _ e
  have Ib := block_start In ok hN fn3
  have pg := hg sn (upd H2 D (SetO X.w D (fun _ => false) 0)) sn.heap.objs.size (cellsFrom (sn.heap.objs.size + 1) scope.names (cloFrom X.env.cells scope.names [])) fp
  have pt := ht sn (upd H2 D (SetO X.w D (fun _ => false) 0)) sn.heap.objs.size (cellsFrom (sn.heap.objs.size + 1) scope.names (cloFrom X.env.cells scope.names [])) fp
  have pe := he sn (upd H2 D (SetO X.w D (fun _ => false) 0)) sn.heap.objs.size (cellsFrom (sn.heap.objs.size + 1) scope.names (cloFrom X.env.cells scope.names [])) fp
  show codeAny _ _ (.compStart (.SetComp elt [⟨tg, iter, ifs, 0⟩] scope pos) 0 (.ref it) (.ref D) (compEnvC scope (cellsFrom (sn.heap.objs.size + 1) scope.names (cloFrom X.env.cells scope.names [])) sn.heap.objs.size X.env)) (compPost (model X.prog X.w) X.A X.xe use Qf (.ref D) sn.heap.objs.size) { sn with heap := pushCells (sn.heap.push { cls := .type "dict", data := .dict #[] }) scope.names }
  have nfp : ∀ b ∈ fp, (upd H2 D (SetO X.w D (fun _ => false) 0)) b = none := fun b hb => (fn3 b hb).1.1
  generalize hce : compEnvC scope (cellsFrom (sn.heap.objs.size + 1) scope.names (cloFrom X.env.cells scope.names [])) sn.heap.objs.size X.env = ce at Ib pg pt pe ⊢
  have cL : ce.locals = sn.heap.objs.size := by subst hce; rfl
  generalize hHn : upd H2 D (SetO X.w D (fun _ => false) 0) = Hn at In Ib pg pt pe w0 nfp fn3
  generalize hsb : ({ sn with heap := pushCells (sn.heap.push { cls := .type "dict", data := .dict #[] }) scope.names } : Shared) = sb at Ib ⊢
  have stb : tn 0 sb.heap := T.keep _ _ _ stn fun b _ o e => by rw [← hsb]; exact pushCells_keeps _ _ _ _ (Heap.get?_push_of_some _ e)
  have stat : ∀ {σ' : L2.St} {H' : Hp} {s' : Shared}, Inv (X.blk sn Hn scope ce fp) [] σ' H' s' → (∀ b ∈ fp, H' b = none) → ∀ b ∈ fp, FpOk (X.blk sn Hn scope ce fp) [] H' b := fun {σ' H' s'} I' hn b hb =>
    ⟨hn b hb, (I'.ok.exf b hb).1, I'.ok.exfs b hb, .inl hb, fun x c e => (I'.ok.exf b hb).2 x c e, fun p hp => absurd (show p ∈ ([] : List (Addr × Obj)) ++ [] from hp) (by simp)⟩
  have loop : codeAny (model X.prog X.w) X.A (.compLoop (.SetComp elt [⟨tg, iter, ifs, 0⟩] scope pos) 0 (.ref it) (.ref D) ce) (compPost (model X.prog X.w) X.A X.xe use Qf (.ref D) sn.heap.objs.size) sb := by
    refine compLoopS_any (fun n s' => ∃ i H', Inv (X.blk sn Hn scope ce fp) [] (wipe σ (own.map (·.2))) H' s' ∧ tn i s'.heap ∧ (∀ b ∈ fp, H' b = none) ∧ W i n H') ?_ m0 ⟨0, Hn, Ib, stb, nfp, w0⟩
    rintro n sw ⟨i, Hw, Iw, stw, nw, ww⟩
    rcases turn i n Hw ww with ⟨stop, qq⟩ | ⟨go, Nx, hNx, step⟩
    · have td := T.done (X.blk sn Hn scope ce fp) rfl rfl rfl hc i [] sw _ Hw (fun _ _ => False) Iw (stat Iw nw) stw stop
      refine thnF td fun r sd ⟨hr, Id⟩ => ?_
      subst hr
      -- back in the def's context
      have Iy : Inv X pins σ Hw sd := In.call' (ch := fp) Id.os Id.base Id.hok Id.bare fun b hb => ⟨(fn3 b hb).1.2.2.2.1, (fn3 b hb).1.2.1, (fn3 b hb).1.2.2.2.2.1, (fn3 b hb).1.2.2.2.2.2⟩
      have nC : Hw sn.heap.objs.size = none := by
        have z : Hw ce.locals = none := Id.free
        rw [cL] at z
        exact z
      obtain ⟨m, hn, _⟩ := Id.loc
      have hn : sd.heap.Ns ce.locals m := hn
      rw [cL] at hn
      exact hRR D sn.heap.objs.size sd m Hw Iy qq hn (In.fpOk (Nat.le_refl _) nC)
    · have ti := T.item (X.blk sn Hn scope ce fp) rfl rfl rfl hc i [] sw _ Hw (fun _ _ => False) Iw (stat Iw nw) stw go
      refine thnF ti fun r sd ⟨u, hr, h6⟩ => ?_
      subst hr
      refine thnF h6 fun _ sy ⟨x, Hy, Iy, ry, yy, sty, ny⟩ => ?_
      have Iy' := Iy.pinned (stat Iy ny) (T.obj _ _ sty)
      refine thnF (pg.run _ sy _ Hy x u _ Iy' ry (step x Hy yy)) fun _ sg ⟨σ8, Hg, Ig, hw8, q8⟩ => ?_
      refine thnF (pt.run _ sg σ8 Hg _ Ig q8) fun b st9 ⟨Ht, It, q9⟩ => ?_
      -- the turn's end
      have fin : ∀ {s' : Shared} {H' : Hp}, Inv (X.blk sn Hn scope ce fp) ([] ++ pinsAt fp sy.heap) σ8 H' s' → Nx H' → ∃ m, m < n ∧ ∃ i H', Inv (X.blk sn Hn scope ce fp) [] (wipe σ (own.map (·.2))) H' s' ∧ tn i s'.heap ∧ (∀ b ∈ fp, H' b = none) ∧ W i m H' := fun {s' H'} I' nx => by
        obtain ⟨m', hm, w'⟩ := hNx H' nx
        have pin' : ∀ b ∈ fp, ∀ o, sy.heap.get? b = some o → s'.heap.get? b = some o ∧ H' b = none := fun b hb o e =>
          let z := I'.pin (b, o) (List.mem_append_right _ (List.mem_append_right _ (mem_pinsAt hb e)))
          ⟨z.1, z.2.1⟩
        have hl : (wipe σ (own.map (·.2))).length = σ8.length := by rw [← hw8, wipe_length]
        refine ⟨m', hm, i + 1, H', (I'.unpinned (pins := [])).weak hl (fun j v e => ?_), T.keep _ _ _ sty fun b hb o e => (pin' b hb o e).1, fun b hb => ?_, w'⟩
        · rw [← hw8] at e
          exact (wipe_some e).1
        · obtain ⟨o, e, _⟩ := T.obj _ _ sty b hb
          exact (pin' b hb o e).2
      cases b with
      | false =>
        simp only [Bool.false_eq_true, if_false] at q9 ⊢
        exact fin It q9
      | true =>
        simp only [if_true] at q9 ⊢
        refine thnF (pe.run _ st9 σ8 Ht _ It q9) fun z se ⟨yv, He, Ie, r10, cb, S0, n0, ey, hD10, hz10, nx⟩ => ?_
        subst ey
        obtain ⟨tk10, rfl⟩ := (show ∃ tk, z = Value.int cb tk from r10)
        exact addI_ok (X := X.blk sn Hn scope ce fp) Ie hD10 hz10 fun sz11 Iz => fin Iz nx
  exact codeAny_compStart_set loop (T.self X.A 0 _ _ _ stb loop)
/-- as a value -/
theorem pe_scI {elt tg iter : Expr} {ifs : List Expr} {scope : Scope} {own : List (PySem.Str × Nat)} {pos : Pos} {wi : TI} {g : TG} {tt : TT} {te : TE} (hc : X.calm = true) (hN : X.N.Nodup) (hi : PI X tg iter wi) (ok : BlkOk X.N X.env.scope scope own)
    (hg : ∀ (s : Shared) (H : Hp) (C : Addr) (cl : List (PySem.Str × Addr)) (fp : List Addr), PG (X.blk s H scope (compEnvC scope cl C X.env) fp) tg g) (ht : ∀ (s : Shared) (H : Hp) (C : Addr) (cl : List (PySem.Str × Addr)) (fp : List Addr), PTs (X.blk s H scope (compEnvC scope cl C X.env) fp) ifs tt)
    (he : ∀ (s : Shared) (H : Hp) (C : Addr) (cl : List (PySem.Str × Addr)) (fp : List Addr), PE (X.blk s H scope (compEnvC scope cl C X.env) fp) elt te) (hs : ∀ x, foldedSetIterable iter X.env x = pure x := by intro _; rfl) :
    PE X (.SetComp elt [⟨tg, iter, ifs, 0⟩] scope pos) (tScI X.w wi g tt te (own.map (·.2))) := by
  refine ⟨fun pins s σ H Q I h => ?_⟩
  rw [eval_SetComp]
  refine scI_core hc hN I hi ok hg ht he hs h fun D C s' m H' I' q hn f => ⟨m, hn, fun h'' sb => ?_⟩
  obtain ⟨f0, f1, f2, fn3, f4, f5⟩ := f
  exact ⟨.ref D, H', I'.turned (t' := s'.toks) (fun b o hb e => (sb.2 b hb).trans e) f0 f1 fn3 f4 f5, rfl, q⟩

theorem call_len_setI : CallR X (.builtin "len") (fun xs H Q => ∃ (a : Addr) (S : Int → Bool) (n : Nat), xs = [.ref a] ∧ H a = some (SetO X.w a S n) ∧ Q (.int (n : Nat)) H) := by
  intro pins s σ H xs us Q I r h
  obtain ⟨a, S, n, rfl, ha, q⟩ := h
  obtain rfl := Vals.ref1 r
  obtain ⟨o, es, ep, t, e1, e2, e3, _, _, _, hb, hf, hn, _⟩ := setO_get I ha
  refine call_len_set e1 e2 e3 hf (by have : scanBound < 2 ^ 63 := by decide
                                      omega) ⟨.int n, H, I.tok _, ⟨_, by rw [hn]⟩, q⟩
end
end Gx

set_option Elab.async false
set_option linter.all false
set_option maxRecDepth 100000
set_option maxHeartbeats 4000000
/-! sorted(x for xs in rows for x in xs): a generator expression of two clauses, collected and sorted. -/
namespace Gx
open PySem PySem.Spec PyProof.Rows L2 GenW
open GxR (TabB TabG Tabbed)

theorem eval_gx2 (elt target iter : Expr) (ifs : List Expr) (rest : List Comprehension) (scope : Scope) (pos : Pos) (env : Env) (hco : scope.isCoroutine = false) :
    eval (.GeneratorExp elt (⟨target, iter, ifs, 0⟩ :: rest) scope pos) env = (eval iter env >>= fun x => standAt iter.pos >>= fun _ => genFold iter env x >>= fun x => holding [x] (pyIter x) >>= fun it => enterFrame >>= fun _ => closureFor scope env >>= fun cl =>
      genexprCode env pos (env.qual ++ "<genexpr>") scope >>= fun code => builtinsFor env.globals env.builtins >>= fun bi => newFunctionEnv scope env.globals cl [(".0", it)] (env.qual ++ "<genexpr>.") none code none bi >>= fun cenv =>
      newGenerator (.compStart (.GeneratorExp elt (⟨target, iter, ifs, 0⟩ :: rest) scope pos) 0 it .none cenv) "<genexpr>" (env.qual ++ "<genexpr>")) := by
  rw [arm_eval_GeneratorExp]
  simp only [hco, Bool.false_eq_true, if_false]
  cases iter <;> rfl
theorem makeG2 {M : Model} {A : Around} {E : Value → Shared → Prop} {s : Shared} {env : Env} {elt target iter : Expr} {ifs : List Expr} {rest : List Comprehension} {scope : Scope} {cl : List (Str × Addr)} {pos : Pos} {Q : Value → Shared → Prop}
    (hco : scope.isCoroutine = false) (hclos : closureFor scope env = pure cl) (hcell : ∀ y ∈ scope.names, y.2 ≠ .cell) (h0 : scope.names.lookup (".0" : Str) = some NameKind.local) (hkind : scope.kind = .function) (hroom : A.depth < recursionLimit)
    (h : wpAny M A (eval iter env) (fun xv s₁ => wpAny M A (pyIter xv) (fun it s₂ => s₂.heap.NoLimit ∧ wpAny M A (genexprCode env pos (env.qual ++ "<genexpr>") scope) (fun code s₃ => wpAny M A (builtinsFor env.globals env.builtins) (fun bi s₄ =>
        ∀ h', h'.Ns s₄.heap.objs.size (fun y => if y = ".0" then some it else none) → Heap.SameBut s₄.heap.objs.size (s₄.heap.push { cls := .type "frame", data := .dict #[] }) h' →
          Q (.ref h'.objs.size) { s₄ with
            gens := s₄.gens.push (.fresh (.compStart (.GeneratorExp elt (⟨target, iter, ifs, 0⟩ :: rest) scope pos) 0 it .none (genEnv scope cl s₄.heap.objs.size code bi env))),
            toks := s₄.toks + 1 + 1 + 1,
            heap := h'.push { cls := .type "generator", data := .fields #[.int s₄.gens.size 0, .str "<genexpr>" (s₄.toks + 1), .str (env.qual ++ "<genexpr>") (s₄.toks + 1 + 1)] } }) E s₃) E s₂) E s₁) E s)
    (hs : ∀ x, genFold iter env x = pure x) : wpAny M A (eval (.GeneratorExp elt (⟨target, iter, ifs, 0⟩ :: rest) scope pos) env) Q E s := by
  rw [eval_gx2 _ _ _ _ _ _ _ _ hco, hclos]
  refine wpAny_bind (wpAny_mono h (fun xv s1 h1 => wpAny_bind (wpAny_standAt (wpAny_bind (wpAny_of_eq (hs xv) (wpAny_bind (wpAny_holding (wpAny_mono h1 (fun it s2 h2 => ?_) fun _ _ e => e))))))) fun _ _ e => e)
  refine wpAny_bind (wpAny_enterFrame h2.1 hroom (wpAny_bind (wpAny_pure (wpAny_bind (wpAny_mono h2.2 (fun code s3 h3 => wpAny_bind (wpAny_mono h3 (fun bi s4 h4 => ?_) fun _ _ e => e)) fun _ _ e => e)))))
  have hb : ∀ y ∈ ([((".0" : Str), it)] : List (Str × Value)), scope.names.lookup y.1 = some NameKind.local := fun y hy => by
    have : y = ((".0" : Str), it) := by simpa using hy
    subst this
    exact h0
  refine wpAny_bind (wpAny_newFunctionEnv hcell hb (fun h' hn' hs' => ?_) hkind)
  have e : (fun y : Str => ([((".0" : Str), it)] : List (Str × Value)).reverse.lookup y) = fun y : Str => if y = (".0" : Str) then some it else none := by
    funext y
    by_cases hy : y = ".0"
    · subst hy; simp
    · have : (y == (".0" : Str)) = false := by simpa using hy
      simp [List.lookup, this, hy]
  rw [e] at hn'
  simp only [newGenerator, newFields]
  exact wpAny_bind (wpAny_newGen (wpAny_bind (wpAny_mkText (wpAny_bind (wpAny_mkText (wpAny_newObj_type (h4 h' hn' hs') (by size_fits)))))))
structure Born2 (X : Cx) (pins : List (Addr × Obj)) (σ : L2.St) (vs : List Nat) (scope : Scope) (tg iter elt : Expr) (ifs : List Expr) (rest : List Comprehension) (gpos : Pos) (J : It) (H : Hp) (a : Addr) (gi : Nat) (s0 : Shared) (genv : Env) (it : Addr) (fp : List Addr) (tn : Nat → Heap → Prop) (s : Shared) : Prop where
  ge : ∃ code, genv = genvOf X scope s0.heap.objs.size code
  outer : Inv X pins σ H s0
  hfp : ∀ b ∈ fp, FpOk X pins H b
  turn : Turn X.prog X.w X.K tg J fp it tn
  st : tn 0 s.heap
  inner : ∀ A' : Around, A'.frames = some (genv :: X.stack) → A'.handled = none → Inv (gcx X A' s0 H genv fp) [] (wipe σ vs) H s
  gen : s.heap.IsGen a gi
  fresh : s.gens[gi]? = some (.fresh (.compStart (.GeneratorExp elt (⟨tg, iter, ifs, 0⟩ :: rest) scope gpos) 0 (.ref it) .none genv))
  old : s0.heap.objs.size < a
  oldfp : ∀ b ∈ fp, b < s0.heap.objs.size
  cells : ∀ x c, genv.cells.lookup x = some c → c < s0.heap.objs.size
  hco : genv.scope.isCoroutine = false
section
variable {X : Cx} {pins : List (Addr × Obj)} {σ : L2.St} {H : Hp} {s : Shared}
theorem gen_make2 {c P : Addr} {elt tg iter : Expr} {ifs : List Expr} {rest : List Comprehension} {gpos : Pos} {scope : Scope} {own : List (Str × Nat)} {wi : TI} {k : Nat} {R : It → Hp → Prop} {Q' : Value → Shared → Prop}
    (hr : Room k X.A) (hN : X.N.Nodup) (TB : TabB X.base X.mg c P) (hcode : X.env.code = .ref c) (G : GScp X.N X.env.scope scope own) (hi : PI X tg iter wi)
    (hs : ∀ v, genFold iter X.env v = pure v) (I : Inv X pins σ H s) (h : wi σ H fun J H1 => TabG H1 P ∧ ∀ H2, Tabbed P H1 H2 → R J H2)
    (hQ : ∀ J H2 a gi s0 genv it fp tn s5, R J H2 → Born2 X pins σ (own.map (·.2)) scope tg iter elt ifs rest gpos J H2 a gi s0 genv it fp tn s5 → Q' (.ref a) s5) :
    wpAny (model X.prog X.w) X.A (eval (.GeneratorExp elt (⟨tg, iter, ifs, 0⟩ :: rest) scope gpos) X.env) Q' X.xe s := by
  have hfree : ∀ y ∈ scope.names, y.2 = .free → ∃ c, X.env.cells.lookup y.1 = some c := fun y hy e => by
    rcases G.blk.free y hy e with k | k
    · exact I.ok.has _ (.inl k)
    · exact I.ok.has _ (.inr k)
  refine makeG2 G.co (closure_ok hfree) G.cell G.dot G.blk.kind (by have := hr.dp; omega) ?_ hs
  refine thn (hi.run pins s σ H _ I h) fun xv s1 hx => thn hx fun itv s2 h2 => ?_
  obtain ⟨it, fp, tn, J, H2, rfl, I2, T, st2, f2, ⟨ps, hP, ht⟩, q⟩ := h2
  refine ⟨I2.nolimit, ?_⟩
  have hPs : s2.heap.get? P = some { cls := .none, data := .fields ps } := I2.hok P _ hP
  have cd : PySem.W.CodeHd s2.heap c P := TB.code.keeps I2.bk
  have nP : ∀ b ∈ fp, b ≠ P := fun b hb z => by
    have := (f2 b hb).1
    rw [z, hP] at this; cases this
  have cont : ∀ (code : Value) (h3 : Heap) (tk : Nat) (ps' : Array Value), Heap.ExtBut P s2.heap h3 → s2.heap.objs.size ≤ h3.objs.size → h3.get? P = some { cls := .none, data := .fields ps' } → (∃ more, ps' = ps ++ more) → TriplesOk ps'.toList →
      wpAny (model X.prog X.w) X.A (builtinsFor X.env.globals X.env.builtins) (fun bi s₄ => ∀ h', h'.Ns s₄.heap.objs.size (fun y => if y = ".0" then some (.ref it) else none) → Heap.SameBut s₄.heap.objs.size (s₄.heap.push { cls := .type "frame", data := .dict #[] }) h' →
          Q' (.ref h'.objs.size) { s₄ with
            gens := s₄.gens.push (.fresh (.compStart (.GeneratorExp elt (⟨tg, iter, ifs, 0⟩ :: rest) scope gpos) 0 (.ref it) .none (genEnv scope (cloFrom X.env.cells scope.names []) s₄.heap.objs.size code bi X.env))),
            toks := s₄.toks + 1 + 1 + 1,
            heap := h'.push { cls := .type "generator", data := .fields #[.int s₄.gens.size 0, .str "<genexpr>" (s₄.toks + 1), .str (X.env.qual ++ "<genexpr>") (s₄.toks + 1 + 1)] } }) X.xe { s2 with heap := h3, toks := tk } := by
    intro code h3 tk ps' hx hsz hP3 hmore ht3
    obtain ⟨bm, ob, e1, e2, e3, e4, e5, e6, e7, e8⟩ := TB.bm
    have keep3 : ∀ b u, b ≠ P → s2.heap.get? b = some u → h3.get? b = some u := fun b u hb e => hx b u hb e
    obtain ⟨more, em⟩ := hmore
    have I3 : Inv X pins σ (upd H2 P (.tbl (ps ++ more))) { s2 with heap := h3, toks := tk } :=
      GxR.inv_tab (more := more) (h' := h3) (g' := s2.gens) (d' := s2.drawn) (t' := tk) I2 hP keep3 (by rw [← em]; exact hP3) I2.bare
    refine wpAny_builtinsFor (m := X.mg) (by rw [I2.ok.glob]; exact (I3.mod.glob.keeps I3.bk)) e1 e2 (keep3 _ _ e4 (I2.bk _ _ e5)) e6 e7 e8 ?_
    intro h' hns hsb
    generalize hs0 : ({ s2 with heap := h3, toks := tk } : Shared) = s0 at I3 hns hsb ⊢
    have hs0h : s0.heap = h3 := by rw [← hs0]
    have hsz' : h'.objs.size = s0.heap.objs.size + 1 := by rw [hsb.1, Heap.size_push]
    have keep' : ∀ b o, s0.heap.get? b = some o → h'.get? b = some o := fun b o e => hsb.extBut b o (Nat.ne_of_lt (Heap.lt_size e)) (Heap.get?_push_of_some _ e)
    have keep5 : ∀ b o, s0.heap.get? b = some o → (h'.push { cls := .type "generator", data := .fields #[.int s0.gens.size 0, .str "<genexpr>" (s0.toks + 1), .str (X.env.qual ++ "<genexpr>") (s0.toks + 1 + 1)] }).get? b = some o :=
      fun b o e => Heap.get?_push_of_some _ (keep' b o e)
    have f3 : ∀ b ∈ fp, FpOk X pins (upd H2 P (.tbl (ps ++ more))) b := fun b hb => ⟨by rw [upd_ne (nP b hb)]; exact (f2 b hb).1, (f2 b hb).2⟩
    have st0 : tn 0 s0.heap := T.keep _ _ _ st2 fun b hb o e => by rw [hs0h]; exact keep3 b o (nP b hb) e
    have lt0 : ∀ b ∈ fp, b < s0.heap.objs.size := fun b hb => by
      obtain ⟨o, e, _⟩ := T.obj _ _ st0 b hb
      exact Heap.lt_size e
    have hTab : Tabbed P H2 (upd H2 P (.tbl (ps ++ more))) := ⟨⟨ps ++ more, upd_same, by rw [← em]; exact ht3⟩, fun b hb => upd_ne hb⟩
    refine hQ J _ _ s0.gens.size s0 (genvOf X scope s0.heap.objs.size code) it fp tn _ (q _ hTab) ⟨⟨code, rfl⟩, I3, f3, T, T.keep _ _ _ st0 fun b _ o e => keep5 b o e, fun A' hA hh => ?_, ?_, Array.getElem?_push_size .., by rw [hsz']; exact Nat.lt_succ_self _, lt0, fun x c e => ?_, G.co⟩
    · have hns5 := hns.push { cls := .type "generator", data := .fields #[.int s0.gens.size 0, .str "<genexpr>" (s0.toks + 1), .str (X.env.qual ++ "<genexpr>") (s0.toks + 1 + 1)] }
      exact gen_start (itv := .ref it) (d' := s0.drawn) I3 G hN (fun b hb => ⟨f3 b hb, lt0 b hb⟩) hA hh hns5 keep5 (I3.bare.push rfl)
    · exact ⟨_, _, _, Heap.get?_push_size _ rfl, rfl, rfl, rfl⟩
    · rcases cloFrom_mem (PySem.mem_of_lookup e) with hm | ⟨h1, h2⟩
      · cases hm
      · obtain ⟨c', hc⟩ := hfree _ h1 rfl
        have e3 : (X.env.cells.lookup x).getD 0 = c' := by rw [hc]; rfl
        obtain ⟨w', z⟩ := I3.cell _ _ hc
        rw [h2, e3]
        exact z.lt
  cases hf : codeAmong gpos ps.toList with
  | none =>
    refine wpAny_genexprCodeX hcode (cd.code hPs ht) (cd.tab hPs) hf fun c' h' tk hx hge hlt hco' _ htab' _ => ?_
    obtain ⟨o1, vs, f1, tf, fl, tg', inF, tx, tt, op, _, _, _, _, _, _, _, _, _, htr, _⟩ := hco'
    exact cont _ h' tk _ hx (Nat.le_trans hge (Nat.le_of_lt hlt)) htab'.2 ⟨_, rfl⟩ htr
  | some cv =>
    refine wpAny_genexprCode_hit hcode (cd.code hPs ht) hf ?_
    exact cont cv s2.heap s2.toks ps (Heap.ExtBut.refl _ _) (Nat.le_refl _) hPs ⟨#[], by simp⟩ ht

/-- back in the def -/
theorem Born2.back {vs : List Nat} {scope : Scope} {tg iter elt : Expr} {ifs : List Expr} {rest : List Comprehension} {gpos : Pos} {J : It} {a : Addr} {gi : Nat} {s0 : Shared} {genv : Env} {it : Addr} {fp : List Addr} {tn : Nat → Heap → Prop} {A' : Around} {s1 : Shared} {H1 : Hp} {σw : L2.St} (B : Born2 X pins σ vs scope tg iter elt ifs rest gpos J H a gi s0 genv it fp tn s)
    (I : Inv (gcx X A' s0 H genv fp) [] σw H1 s1) : Inv X pins σ H1 s1 :=
  B.outer.call' (ch := fp) I.os I.base I.hok I.bare fun b hb => ⟨(B.hfp b hb).2.2.2.1, (B.hfp b hb).2.1, (B.hfp b hb).2.2.2.2.1, (B.hfp b hb).2.2.2.2.2⟩

end
--MORE
end Gx

set_option Elab.async false
set_option linter.all false
set_option maxRecDepth 100000
set_option maxHeartbeats 4000000
namespace Gx
open PySem PySem.Spec PyProof.Rows L2 GenW
open GxR (TabB TabG Tabbed)
/-! ### two clauses without tests: the turns -/
abbrev e2 (elt t0 i0 t1 i1 : Expr) (scope : Scope) (pos : Pos) : Expr := .GeneratorExp elt [⟨t0, i0, [], 0⟩, ⟨t1, i1, [], 0⟩] scope pos
theorem ct_out (elt t0 i0 t1 i1 : Expr) (scope : Scope) (pos : Pos) (it acc : Value) (env : Env) :
    compTurn (e2 elt t0 i0 t1 i1 scope pos) 0 it acc env = (standAt i0.pos >>= fun _ => pyNext it >>= fun r => match r with
      | none => pure (.done .next)
      | some v => letOwnedTupleGo t0 it v >>= fun _ => assign t0 env v >>= fun _ => eval i1 env >>= fun x => standAt i1.pos >>= fun _ => foldedSetIterable i1 env x >>= fun x => holding [x] (pyIter x) >>= fun j =>
          runOwn (.compStart (e2 elt t0 i0 t1 i1 scope pos) 1 j acc env) env >>= fun _ => again (.compLoop (e2 elt t0 i0 t1 i1 scope pos) 0 it acc env)) := by rfl
theorem ct_in (elt t0 i0 t1 i1 : Expr) (scope : Scope) (pos : Pos) (it acc : Value) (env : Env) :
    compTurn (e2 elt t0 i0 t1 i1 scope pos) 1 it acc env = (standAt i1.pos >>= fun _ => pyNext it >>= fun r => match r with
      | none => pure (.done .next)
      | some v => letOwnedTupleGo t1 it v >>= fun _ => assign t1 env v >>= fun _ => ((eval elt env >>= fun v => standAt elt.pos >>= fun _ => yieldOut env v >>= fun _ => pure ()) >>= fun _ => again (.compLoop (e2 elt t0 i0 t1 i1 scope pos) 1 it acc env))) := by rfl
def noIt : It := ⟨fun _ _ => False, fun _ _ _ _ => False, fun _ _ => False⟩
theorem turn_no {P : Program} {w : World} {K : PySem.W.Frag} {tg : Expr} {J : It} {fp : List Addr} {it : Addr} {tn : Nat → Heap → Prop} (T : Turn P w K tg J fp it tn) : Turn P w K tg noIt fp it (fun _ h => ∃ i, tn i h) where
  mem := T.mem
  obj := fun i h ⟨j, st⟩ => T.obj j h st
  keep := fun i h h' ⟨j, st⟩ k => ⟨j, T.keep j h h' st k⟩
  item := fun X _ _ _ _ i pins s σ H E I hf st hg => hg.elim
  done := fun X _ _ _ _ i pins s σ H E I hf st hg => hg.elim
  self := fun A i s Q E ⟨j, st⟩ h => T.self A j s Q E st h
section
variable {X : Cx} {fp : List Addr} {tn : Nat → Heap → Prop} {n : Nat} {σ : L2.St} {sp : List Addr} {vs : List Nat} {Ag : Around} {s0 : Shared} {H0 Hg : Hp} {genv : Env} {elt t0 i0 t1 i1 : Expr} {scope : Scope} {pos : Pos} {it : Addr} {J : It} {ys : List V}
/-- the heap stays; the j-th item is ys' j-th -/
abbrev Wc (Hg : Hp) (n : Nat) : Nat → Nat → Hp → Prop := fun q i H => H = Hg ∧ q + i = n + 1
abbrev Yc (Hg : Hp) (ys : List V) : Nat → Nat → V → Hp → Prop := fun q j y H => ys[j]? = some y ∧ H = Hg ∧ q + j = ys.length + 1
abbrev tnE (tn : Nat → Heap → Prop) : Nat → Heap → Prop := fun _ h => ∃ i, tn i h
theorem Mid.any {Xg : Cx} {σw : L2.St} {i j : Nat} {H : Hp} {s : Shared} (M : Mid Xg fp tn σw sp i H s) : Mid Xg fp (tnE tn) σw sp j H s := ⟨M.inv, ⟨i, M.it⟩, M.fpn, M.spo⟩
/-- what holds ahead of an inner turn -/
structure In1 (Xg : Cx) (fp : List Addr) (tn : Nat → Heap → Prop) (σw : L2.St) (sp fp1 : List Addr) (tn1 : Nat → Heap → Prop) (io i : Nat) (H : Hp) (s : Shared) : Prop where
  mid : Mid Xg fp tn σw sp io H s
  iti : tn1 i s.heap
  f1 : ∀ b ∈ fp1, FpOk Xg [] H b ∧ b ∉ sp ∧ b ∉ fp
theorem seg_in {fp1 : List Addr} {tn1 : Nat → Heap → Prop} {it1 b1 k1 io j0 : Nat} {row : List V} {fs : List Frame} (hco : genv.scope.isCoroutine = false) (T : Turn X.prog X.w X.K t0 J fp it tn) (T1 : Turn X.prog X.w X.K t1 (Itl X.K b1) fp1 it1 tn1)
    (pg : PG (gcx X (Ag.deeper genv) s0 H0 genv fp) t1 (gName k1)) (pe : PE (gcx X (Ag.deeper genv) s0 H0 genv fp) elt (tVar k1)) (hk1 : k1 ∈ vs) (hkl : k1 < σ.length) (hb : SqL X.K Hg b1 row)
    (hover : Ag.over (.compLoop (e2 elt t0 i0 t1 i1 scope pos) 1 (.ref it1) .none genv) fs = Ag.deeper genv) (hsplit : splitAtGen fs = none) (hguard : fs.any Frame.guarded = false)
    (hys : ∀ u, u < row.length → ys[j0 + u]? = row[u]?) (hjn : j0 + row.length ≤ ys.length)
    (cont : ∀ (q : Nat) (sa s : Shared), q + (j0 + row.length) = ys.length + 1 → Mid (gcx X (Ag.deeper genv) s0 H0 genv fp) fp tn (wipe σ vs) sp io Hg s → SpSame sp sa s →
      Seg (model X.prog X.w) Ag (GR (gcx X (Ag.deeper genv) s0 H0 genv fp) fp (Wc Hg ys.length) ys.length (wipe σ vs) sp) (GY (gcx X (Ag.deeper genv) s0 H0 genv fp) fp (tnE tn) (Wc Hg ys.length) (Yc Hg ys) ys.length (wipe σ vs) sp) q sa
        (.compLoop (e2 elt t0 i0 t1 i1 scope pos) 1 (.ref it1) .none genv) (leafOf (.ok .next)) fs s) :
    ∀ (r i q : Nat) (sa s : Shared), row.length - i = r → i ≤ row.length → q + (j0 + i) = ys.length + 1 → In1 (gcx X (Ag.deeper genv) s0 H0 genv fp) fp tn (wipe σ vs) sp fp1 tn1 io i Hg s → SpSame sp sa s →
      Seg (model X.prog X.w) Ag (GR (gcx X (Ag.deeper genv) s0 H0 genv fp) fp (Wc Hg ys.length) ys.length (wipe σ vs) sp) (GY (gcx X (Ag.deeper genv) s0 H0 genv fp) fp (tnE tn) (Wc Hg ys.length) (Yc Hg ys) ys.length (wipe σ vs) sp) q sa
        (.compLoop (e2 elt t0 i0 t1 i1 scope pos) 1 (.ref it1) .none genv) ((model X.prog X.w).den (.compLoop (e2 elt t0 i0 t1 i1 scope pos) 1 (.ref it1) .none genv)) fs s := by
  generalize hXg : gcx X (Ag.deeper genv) s0 H0 genv fp = Xg at pg pe cont ⊢
  have eP : Xg.prog = X.prog := by rw [← hXg]
  have eW : Xg.w = X.w := by rw [← hXg]
  have eK : Xg.K = X.K := by rw [← hXg]
  have eC : Xg.calm = true := by rw [← hXg]
  have eA : Xg.A = Ag.over (.compLoop (e2 elt t0 i0 t1 i1 scope pos) 1 (.ref it1) .none genv) fs := by rw [hover, ← hXg]
  have eE : Xg.env = genv := by rw [← hXg]
  have ePn : Xg.pn = [] := by rw [← hXg]
  have eXe : Xg.xe = fun _ _ => False := by rw [← hXg]
  have eEx : Xg.ex = fp := by rw [← hXg]
  -- the outer iterator's objects, pinned
  have fpOk : ∀ {s' : Shared} {σ' : L2.St} {pl : List (Addr × Obj)}, Inv Xg pl σ' Hg s' → (∀ p ∈ pl, p.1 ∉ fp) → (∀ b ∈ fp, Hg b = none) → ∀ b ∈ fp, FpOk Xg pl Hg b := fun {s' σ' pl} I' hpl hn b hb => by
    have hbx : b ∈ Xg.ex := by rw [eEx]; exact hb
    refine ⟨hn b hb, (I'.ok.exf b hbx).1, I'.ok.exfs b hbx, .inl hbx, fun x c e => (I'.ok.exf b hbx).2 x c e, fun p hp z => ?_⟩
    rw [ePn, List.nil_append] at hp
    exact hpl p hp (z ▸ hb)
  intro r
  induction r using Nat.strongRecOn with
  | ind r ih =>
    intro i q sa s hr hi hq N hs
    have M := N.mid
    have hspfp : ∀ b ∈ sp, b ∉ fp := fun b hb => (M.spo b hb).2.2.2.2.1
    have Ia := M.spo.pin M.inv
    have I0 := Ia.pinned (fpOk Ia (fun p hp => hspfp _ (of_pinsAt hp).1) M.fpn) (T.obj _ _ M.it)
    have f1 : ∀ b ∈ fp1, FpOk Xg (pinsAt sp s.heap ++ pinsAt fp s.heap) Hg b := fun b hb => by
      obtain ⟨⟨a1, a2, a3, a4, a5, _⟩, a7, a8⟩ := N.f1 b hb
      refine ⟨a1, a2, a3, a4, a5, fun p hp z => ?_⟩
      rw [ePn, List.nil_append] at hp
      rcases List.mem_append.mp hp with h | h
      · exact a7 (z ▸ (of_pinsAt h).1)
      · exact a8 (z ▸ (of_pinsAt h).1)
    have hq0 : 0 < q := by omega
    show Seg _ Ag _ _ _ sa _ ((compTurn (e2 elt t0 i0 t1 i1 scope pos) 1 (.ref it1) .none genv).onRaise (fun x => do noteFrame x genv; theTreesLotGoes x)) fs s
    rw [ct_in, Sem.onRaise_eq_wrap]
    refine seg_bind_wrap (wpAny_standAt ?_)
    -- behind a step: the outer part as it was
    have fin : ∀ {s' : Shared} {σ' : L2.St} {pl : List (Addr × Obj)}, Inv Xg pl σ' Hg s' → (∀ p ∈ pinsAt sp s.heap ++ pinsAt fp s.heap, p ∈ pl) → (∀ j v, (wipe σ vs)[j]? = some (some v) → σ'[j]? = some (some v)) → (wipe σ vs).length = σ'.length → Mid Xg fp tn (wipe σ vs) sp io Hg s' ∧ SpSame sp sa s' := fun {s' σ' pl} I' hpl hv hl => by
      obtain ⟨sp1, sp2⟩ := M.spo.of_pins I' fun p h => hpl p (List.mem_append_left _ h)
      have pin' : ∀ b ∈ fp, ∀ o, s.heap.get? b = some o → s'.heap.get? b = some o := fun b hb o e => (I'.pin (b, o) (List.mem_append_right _ (hpl _ (List.mem_append_right _ (mem_pinsAt hb e))))).1
      exact ⟨⟨(I'.pins_of (pins' := []) fun p hp => by simp at hp).weak hl hv, T.keep _ _ _ M.it fun b hb o e => pin' b hb o e, M.fpn, sp1⟩, fun b hb o e => sp2 b hb o (hs b hb o e)⟩
    by_cases hlt : i < row.length
    · have ti := T1.item Xg eP eW eK eC i _ s _ Hg (fun _ _ => False) I0 f1 N.iti ⟨row, row[i], hb, List.getElem?_eq_getElem hlt⟩
      refine seg_bind_wrap ?_
      rw [← eA]
      refine thnF ti fun rr s1 ⟨u, hr1, h1⟩ => ?_
      subst hr1
      refine seg_bind_wrap ?_
      rw [← eA]
      refine thnF h1 fun _ s2 ⟨x, H2, I2, r2, ⟨eH, yx⟩, st2, n2⟩ => ?_
      subst eH
      have ex := yx row hb
      have f2 : ∀ b ∈ fp1, FpOk Xg (pinsAt sp s.heap ++ pinsAt fp s.heap) H2 b := f1
      have I2' := I2.pinned f2 (T1.obj _ _ st2)
      refine seg_bind_wrap ?_
      rw [← eA]
      have pgr := pg.run _ s2 _ H2 x u (fun σ3 H3 => σ3 = (wipe σ vs).set k1 (some x) ∧ H3 = H2) I2' r2 ⟨rfl, rfl⟩
      rw [eP, eW, eXe, eE] at pgr
      refine thnF pgr fun _ s3 ⟨σ3, H3, I3, e3, eH3⟩ => ?_
      subst e3 eH3
      have hy : ∀ v, yieldOut genv v = yieldValue v := fun v => by simp only [yieldOut, hco, Bool.false_eq_true, if_false]
      simp only [hy]
      have hw : k1 < (wipe σ vs).length := by rw [wipe_length]; exact hkl
      have per := pe.run _ s3 _ H3 (fun y H5 => y = x ∧ H5 = H3) I3 ⟨x, by rw [List.getElem?_set_self hw], rfl, rfl⟩
      rw [eP, eW, eXe, eE] at per
      rw [Sem.bind_eq_wrap', Sem.bind_eq_wrap', Sem.wrap_wrap, Sem.wrap_wrap]
      refine seg_wrap ?_
      rw [← eA]
      refine thnF per fun y s5 ⟨yv, H5, I5, r5, e5, eH5⟩ => ?_
      subst e5 eH5
      obtain ⟨M', hs'⟩ := fin I5 (fun p h => List.mem_append_left _ h) (fun j v e => by
        have hj : j ∉ vs := (wipe_some e).2
        rw [List.getElem?_set_ne (fun (z : k1 = j) => hj (by rw [← z]; exact hk1))]
        exact e) (by rw [List.length_set])
      have iti' : tn1 (i + 1) s5.heap := T1.keep _ _ _ st2 fun b hb o e => (I5.pin (b, o) (List.mem_append_right _ (List.mem_append_right _ (mem_pinsAt hb e)))).1
      obtain ⟨m, rfl⟩ : ∃ m, q = m + 1 := ⟨q - 1, by omega⟩
      refine seg_at (seg_yield hsplit rfl hguard ⟨j0 + i, yv, H5, by omega, by omega, r5, M'.any, hs', ⟨by rw [hys i hlt]; exact ex, rfl, hq⟩, fun s' wk w' => ?_⟩)
      exact seg_again rfl (ih (row.length - (i + 1)) (by omega) (i + 1) m s' s' rfl hlt (by omega) ⟨M'.wk T ePn wk, T1.keep _ _ _ iti' fun b hb o e => wk.keep b o (N.f1 b hb).2.1 e, N.f1⟩ (fun _ _ _ e => e))
    · have hie : i = row.length := by omega
      have td := T1.done Xg eP eW eK eC i _ s _ Hg (fun _ _ => False) I0 f1 N.iti ⟨row, hb, by omega⟩
      refine seg_bind_wrap ?_
      rw [← eA]
      refine thnF td fun rr s1 ⟨hr1, I1⟩ => ?_
      subst hr1
      obtain ⟨M', hs'⟩ := fin I1 (fun p h => h) (fun j v e => e) rfl
      exact cont q sa s1 (by rw [← hie]; exact hq) M' hs'
theorem seg_out {a k0 k1 : Nat} {rows : List (List V)} {refs : List V} (hco : genv.scope.isCoroutine = false) (T : Turn X.prog X.w X.K t0 (Itl X.K a) fp it tn)
    (pg0 : PG (gcx X (Ag.deeper genv) s0 H0 genv fp) t0 (gName k0)) (hi1 : PI (gcx X (Ag.deeper genv) s0 H0 genv fp) t1 i1 (iList X.K (tVar k0))) (hs1 : ∀ x, foldedSetIterable i1 genv x = pure x)
    (pg : PG (gcx X (Ag.deeper genv) s0 H0 genv fp) t1 (gName k1)) (pe : PE (gcx X (Ag.deeper genv) s0 H0 genv fp) elt (tVar k1)) (hk0 : k0 ∈ vs) (hkl0 : k0 < σ.length) (hk1 : k1 ∈ vs) (hkl : k1 < σ.length)
    (ha : SqL X.K Hg a refs) (hlen : refs.length = rows.length) (hrow : ∀ (u : Nat) (row : List V), rows[u]? = some row → ∃ b, refs[u]? = some (.ref b) ∧ SqL X.K Hg b row) (hys : ys = rows.flatten) :
    ∀ (r io q : Nat) (sa s : Shared), rows.length - io = r → io ≤ rows.length → q + (rows.take io).flatten.length = ys.length + 1 → Mid (gcx X (Ag.deeper genv) s0 H0 genv fp) fp tn (wipe σ vs) sp io Hg s → SpSame sp sa s →
      Seg (model X.prog X.w) Ag (GR (gcx X (Ag.deeper genv) s0 H0 genv fp) fp (Wc Hg ys.length) ys.length (wipe σ vs) sp) (GY (gcx X (Ag.deeper genv) s0 H0 genv fp) fp (tnE tn) (Wc Hg ys.length) (Yc Hg ys) ys.length (wipe σ vs) sp) q sa
        (.compLoop (e2 elt t0 i0 t1 i1 scope pos) 0 (.ref it) .none genv) ((model X.prog X.w).den (.compLoop (e2 elt t0 i0 t1 i1 scope pos) 0 (.ref it) .none genv)) [] s := by
  have inner := fun (fp1 : List Addr) (tn1 : Nat → Heap → Prop) (it1 b1 io j0 : Nat) (row : List V) (fs : List Frame) (T1 : Turn X.prog X.w X.K t1 (Itl X.K b1) fp1 it1 tn1) => seg_in (X := X) (fp := fp) (tn := tn) (it := it) (J := Itl X.K a) (σ := σ) (sp := sp) (vs := vs) (Ag := Ag) (s0 := s0) (H0 := H0) (Hg := Hg) (genv := genv) (elt := elt) (t0 := t0) (i0 := i0) (t1 := t1) (i1 := i1) (scope := scope) (pos := pos) (ys := ys) (io := io) (j0 := j0) (row := row) (fs := fs) hco T T1 pg pe hk1 hkl
  generalize hXg : gcx X (Ag.deeper genv) s0 H0 genv fp = Xg at pg0 hi1 inner ⊢
  have eP : Xg.prog = X.prog := by rw [← hXg]
  have eW : Xg.w = X.w := by rw [← hXg]
  have eK : Xg.K = X.K := by rw [← hXg]
  have eC : Xg.calm = true := by rw [← hXg]
  have eA : Xg.A = Ag.over (.compLoop (e2 elt t0 i0 t1 i1 scope pos) 0 (.ref it) .none genv) [] := by rw [← hXg]; rfl
  have eAd : Xg.A = Ag.deeper genv := by rw [← hXg]
  have eE : Xg.env = genv := by rw [← hXg]
  have ePn : Xg.pn = [] := by rw [← hXg]
  have eXe : Xg.xe = fun _ _ => False := by rw [← hXg]
  have eEx : Xg.ex = fp := by rw [← hXg]
  have fpOk : ∀ {s' : Shared} {σ' : L2.St} {pl : List (Addr × Obj)}, Inv Xg pl σ' Hg s' → (∀ p ∈ pl, p.1 ∉ fp) → (∀ b ∈ fp, Hg b = none) → ∀ b ∈ fp, FpOk Xg pl Hg b := fun {s' σ' pl} I' hpl hn b hb => by
    have hbx : b ∈ Xg.ex := by rw [eEx]; exact hb
    refine ⟨hn b hb, (I'.ok.exf b hbx).1, I'.ok.exfs b hbx, .inl hbx, fun x c e => (I'.ok.exf b hbx).2 x c e, fun p hp z => ?_⟩
    rw [ePn, List.nil_append] at hp
    exact hpl p hp (z ▸ hb)
  intro r
  induction r using Nat.strongRecOn with
  | ind r ih =>
    intro io q sa s hr hi hq M hs
    have hspfp : ∀ b ∈ sp, b ∉ fp := fun b hb => (M.spo b hb).2.2.2.2.1
    have I0 := M.spo.pin M.inv
    have f0 := fpOk I0 (fun p hp => hspfp _ (of_pinsAt hp).1) M.fpn
    show Seg _ Ag _ _ _ sa _ ((compTurn (e2 elt t0 i0 t1 i1 scope pos) 0 (.ref it) .none genv).onRaise (leaving genv)) [] s
    rw [ct_out, Sem.onRaise_eq_wrap]
    refine seg_bind_wrap (wpAny_standAt ?_)
    by_cases hlt : io < rows.length
    · obtain ⟨b1, hb1, hrl⟩ := hrow io rows[io] (List.getElem?_eq_getElem hlt)
      have ti := T.item Xg eP eW eK eC io _ s _ Hg (fun _ _ => False) I0 f0 M.it ⟨refs, .ref b1, ha, hb1⟩
      refine seg_bind_wrap ?_
      rw [← eA]
      refine thnF ti fun rr s1 ⟨u, hr1, h1⟩ => ?_
      subst hr1
      refine seg_bind_wrap ?_
      rw [← eA]
      refine thnF h1 fun _ s2 ⟨x, H2, I2, r2, ⟨eH, yx⟩, st2, n2⟩ => ?_
      subst eH
      have ex : x = .ref b1 := Option.some.inj ((yx refs ha).symm.trans hb1)
      subst ex
      have I2' := I2.pinned f0 (T.obj _ _ st2)
      refine seg_bind_wrap ?_
      rw [← eA]
      have pgr := pg0.run _ s2 _ H2 _ u (fun σ3 H3 => σ3 = (wipe σ vs).set k0 (some (.ref b1)) ∧ H3 = H2) I2' r2 ⟨rfl, rfl⟩
      rw [eP, eW, eXe, eE] at pgr
      refine thnF pgr fun _ s3 ⟨σ3, H3, I3, e3, eH3⟩ => ?_
      subst e3 eH3
      have hw : k0 < (wipe σ vs).length := by rw [wipe_length]; exact hkl0
      have hir := hi1.run _ s3 _ H3 (fun J1 H5 => J1 = Itl X.K b1 ∧ H5 = H3) I3 ⟨.ref b1, by rw [List.getElem?_set_self hw], b1, rfl, ⟨_, hrl⟩, rfl, rfl⟩
      rw [eP, eW, eXe, eE] at hir
      refine seg_bind_wrap ?_
      rw [← eA]
      refine thnF hir fun xv s4 h4 => ?_
      refine seg_bind_wrap (wpAny_standAt (seg_bind_wrap (wpAny_of_eq (hs1 xv) (seg_bind_wrap (wpAny_holding ?_)))))
      rw [← eA]
      refine thnF h4 fun itv s5 ⟨it1, fp1, tn1, J1, H5, eit, I5, T1, st5, f5, eJ, eH5⟩ => ?_
      subst eit eJ eH5
      rw [eP, eW, eK] at T1
      -- what stands behind the store of the row
      have outer : Mid Xg fp tn (wipe σ vs) sp (io + 1) H5 s5 ∧ SpSame sp sa s5 := by
        obtain ⟨sp1, sp2⟩ := M.spo.of_pins I5 fun p h => List.mem_append_left _ h
        have pin' : ∀ b ∈ fp, ∀ o, s2.heap.get? b = some o → s5.heap.get? b = some o := fun b hb o e => (I5.pin (b, o) (List.mem_append_right _ (List.mem_append_right _ (mem_pinsAt hb e)))).1
        refine ⟨⟨(I5.pins_of (pins' := []) fun p hp => by simp at hp).weak (by rw [List.length_set]) (fun j v e => ?_), T.keep _ _ _ st2 fun b hb o e => pin' b hb o e, M.fpn, sp1⟩, fun b hb o e => sp2 b hb o (hs b hb o e)⟩
        have hj : j ∉ vs := (wipe_some e).2
        rw [List.getElem?_set_ne (fun (z : k0 = j) => hj (by rw [← z]; exact hk0))]
        exact e
      obtain ⟨M5, hs5⟩ := outer
      have f5' : ∀ b ∈ fp1, FpOk Xg [] H5 b ∧ b ∉ sp ∧ b ∉ fp := fun b hb => by
        obtain ⟨a1, a2, a3, a4, a5, a6⟩ := f5 b hb
        refine ⟨⟨a1, a2, a3, a4, a5, fun p hp => a6 p ?_⟩, fun h => ?_, fun h => ?_⟩
        · rw [ePn] at hp; simp at hp
        · obtain ⟨_, _, _, _, _, ⟨o, e, _⟩, _⟩ := M.spo b h
          exact a6 (b, o) (List.mem_append_right _ (List.mem_append_left _ (mem_pinsAt h e))) rfl
        · obtain ⟨o, e, _⟩ := T.obj _ _ st2 b h
          exact a6 (b, o) (List.mem_append_right _ (List.mem_append_right _ (mem_pinsAt h e))) rfl
      have N5 : In1 Xg fp tn (wipe σ vs) sp fp1 tn1 (io + 1) 0 H5 s5 := ⟨M5, st5, f5'⟩
      have hfl : (rows.take (io + 1)).flatten = (rows.take io).flatten ++ rows[io] := by
        rw [List.take_succ, List.getElem?_eq_getElem hlt, List.flatten_append]; simp
      have hsplit : rows.flatten = (rows.take io).flatten ++ (rows[io] ++ (rows.drop (io + 1)).flatten) := by
        conv => lhs; rw [← List.take_append_drop io rows, List.flatten_append, List.drop_eq_getElem_cons hlt, List.flatten_cons]
      have hyu : ∀ u, u < rows[io].length → ys[(rows.take io).flatten.length + u]? = rows[io][u]? := fun u hu => by
        rw [hys, hsplit, List.getElem?_append_right (Nat.le_add_right _ _), Nat.add_sub_cancel_left, List.getElem?_append_left hu]
      have hjn : (rows.take io).flatten.length + rows[io].length ≤ ys.length := by
        rw [hys, hsplit, List.length_append, List.length_append]; omega
      -- the inner loop's call
      refine seg_call fun p => ?_
      have hov : ∀ (kk : Result → Sem PySem.Fin) (g : Bool) (l : List Value), Ag.over (.compLoop (e2 elt t0 i0 t1 i1 scope pos) 1 (.ref it1) .none genv) [.ret kk none g l (.compLoop (e2 elt t0 i0 t1 i1 scope pos) 0 (.ref it) .none genv) p []] = Ag.deeper genv := fun kk g l => (over_loop rfl rfl).trans rfl
      have loop := fun (kk : Result → Sem PySem.Fin) (l : List Value) => inner fp1 tn1 it1 b1 (io + 1) (rows.take io).flatten.length rows[io] [.ret kk none false l (.compLoop (e2 elt t0 i0 t1 i1 scope pos) 0 (.ref it) .none genv) p []] T1 hrl (hov kk false l) rfl rfl hyu hjn
      show Seg _ Ag _ _ _ sa _ ((compStart (e2 elt t0 i0 t1 i1 scope pos) 1 (.ref it1) .none genv).onRaise (fun x => do noteFrame x genv; standAt theWindowsPlace)) _ s5
      unfold compStart
      rw [Sem.onRaise_eq_wrap]
      show Seg _ Ag _ _ _ sa _ ((ask >>= _).wrap _ _ _ _) _ s5
      have back : ∀ (q' : Nat) (sa' s' : Shared), q' + ((rows.take io).flatten.length + rows[io].length) = ys.length + 1 → Mid Xg fp tn (wipe σ vs) sp (io + 1) H5 s' → SpSame sp sa' s' →
          Seg (model X.prog X.w) Ag (GR Xg fp (Wc H5 ys.length) ys.length (wipe σ vs) sp) (GY Xg fp (tnE tn) (Wc H5 ys.length) (Yc H5 ys) ys.length (wipe σ vs) sp) q' sa' (.compLoop (e2 elt t0 i0 t1 i1 scope pos) 0 (.ref it) .none genv) (.pure (.again (.compLoop (e2 elt t0 i0 t1 i1 scope pos) 0 (.ref it) .none genv))) [] s' := fun q' sa' s' hq' M' hs' =>
        seg_again rfl (ih (rows.length - (io + 1)) (by omega) (io + 1) q' sa' s' rfl hlt (by rw [hfl, List.length_append]; exact hq') M' hs')
      refine seg_bind_wrap (wpAny_askSetting ?_)
      split
      · exact seg_again rfl (loop _ _ (fun q' sa' s' hq' M' hs' => seg_leaf (.ok .next) (back q' sa' s' hq' M' hs')) _ 0 q sa s5 rfl (Nat.zero_le _) (by rw [Nat.add_zero]; exact hq) N5 hs5)
      · refine seg_bind_wrap (wpAny_rule ?_)
        show Seg _ Ag _ _ _ sa _ ((standAt i1.pos >>= _).wrap _ _ _ _) _ s5
        exact seg_bind_wrap (wpAny_standAt (seg_bind_wrap (T1.self _ 0 s5 _ _ st5 (seg_again rfl (loop _ _ (fun q' sa' s' hq' M' hs' => seg_leaf (.ok .next) (back q' sa' s' hq' M' hs')) _ 0 q sa s5 rfl (Nat.zero_le _) (by rw [Nat.add_zero]; exact hq) N5 hs5)))))
    · have hie : io = rows.length := by omega
      have td := T.done Xg eP eW eK eC io _ s _ Hg (fun _ _ => False) I0 f0 M.it ⟨refs, ha, by omega⟩
      refine seg_bind_wrap ?_
      rw [← eA]
      refine thnF td fun rr s1 ⟨hr1, I1⟩ => ?_
      subst hr1
      obtain ⟨sp1, sp2⟩ := M.spo.of_pins I1 fun _ h => h
      exact seg_end (.ok .next) (.inl ⟨.inr rfl, Hg, I1.pins_of fun p hp => by simp at hp, M.fpn, sp1, fun b hb o e => sp2 b hb o (hs b hb o e), rfl, by rw [hie, List.take_length, ← hys] at hq; exact hq⟩)
end
end Gx

set_option Elab.async false
set_option linter.all false
set_option maxRecDepth 100000
set_option maxHeartbeats 4000000
namespace Gx
open PySem PySem.Spec PyProof.Rows L2 GenW
open GxR (TabB TabG Tabbed)
section
variable {X : Cx} {pins : List (Addr × Obj)} {σ : L2.St} {H : Hp} {s : Shared} {elt t0 i0 t1 i1 : Expr} {scope : Scope} {gpos : Pos}
theorem Born2.asleep {vs : List Nat} {a a1 : Addr} {gi : Nat} {s0 : Shared} {genv : Env} {it : Addr} {fp : List Addr} {tn : Nat → Heap → Prop} {k0 k1 : Nat} {rows : List (List V)} {refs ys : List V} {sp : List Addr} {Aq : Around} {s' : Shared}
    (B : Born2 X pins σ vs scope t0 i0 elt [] [⟨t1, i1, [], 0⟩] gpos (Itl X.K a1) H a gi s0 genv it fp tn s) (hf : Aq.frames = some X.stack) (hh : Aq.handled = none)
    (pg0 : PG (gcx X (Aq.in1.deeper genv) s0 H genv fp) t0 (gName k0)) (hi1 : PI (gcx X (Aq.in1.deeper genv) s0 H genv fp) t1 i1 (iList X.K (tVar k0))) (hs1 : ∀ x, foldedSetIterable i1 genv x = pure x)
    (pg : PG (gcx X (Aq.in1.deeper genv) s0 H genv fp) t1 (gName k1)) (pe : PE (gcx X (Aq.in1.deeper genv) s0 H genv fp) elt (tVar k1)) (hk0 : k0 ∈ vs) (hkl0 : k0 < σ.length) (hk1 : k1 ∈ vs) (hkl : k1 < σ.length)
    (ha : SqL X.K H a1 refs) (hlen : refs.length = rows.length) (hrow : ∀ (u : Nat) (row : List V), rows[u]? = some row → ∃ b, refs[u]? = some (.ref b) ∧ SqL X.K H b row) (hys : ys = rows.flatten)
    (ho : s'.os = s.os) (hg : s'.gens = s.gens) (hk : ∀ b o, s.heap.get? b = some o → s'.heap.get? b = some o) (hsp : ∀ b ∈ sp, s0.heap.objs.size < b ∧ ∃ o, s'.heap.get? b = some o ∧ ∀ v, o.data ≠ .cell v) :
    Asleep (gcx X (Aq.in1.deeper genv) s0 H genv fp) Aq fp (tnE tn) (Wc H ys.length) (Yc H ys) ys.length (wipe σ vs) sp a gi (ys.length + 1) 0 H s' := by
  obtain ⟨code, hgenv⟩ := B.ge
  have hL : genv.locals = s0.heap.objs.size := by rw [hgenv]; rfl
  have I5 : Inv (gcx X (Aq.in1.deeper genv) s0 H genv fp) [] (wipe σ vs) H s := B.inner _ (by show Option.map _ Aq.frames = _; rw [hf]; rfl) hh
  have I6 : Inv (gcx X (Aq.in1.deeper genv) s0 H genv fp) [] (wipe σ vs) H s' := by
    obtain ⟨hp, gg, d, tk, os⟩ := s'
    have e1 : os = s.os := ho
    have e2 : gg = s.gens := hg
    subst e1 e2
    have := I5.kept (h' := hp) (t' := tk) hk
    exact ⟨this.ok, this.os, this.bare, this.base, this.loc, this.cell, this.free, this.freeC, this.pin, this.hok, this.len⟩
  have M : Mid (gcx X (Aq.in1.deeper genv) s0 H genv fp) fp tn (wipe σ vs) sp 0 H s' := by
    refine ⟨I6, B.turn.keep _ _ _ B.st fun b _ o e => hk b o e, fun b hb => (B.hfp b hb).1, fun b hb => ?_⟩
    obtain ⟨h1, h2⟩ := hsp b hb
    refine ⟨Nat.le_of_lt h1, B.outer.hok.fresh (Nat.le_of_lt h1), fun e => ?_, fun hb' => ?_, fun hb' => ?_, h2, fun x c e z => ?_⟩
    · have : b = s0.heap.objs.size := e.trans hL
      rw [this] at h1; exact Nat.lt_irrefl _ h1
    · obtain ⟨_, o, e, _⟩ := I6.ok.funs.mem hb'
      have : b < s0.heap.objs.size := Heap.lt_size e
      exact Nat.lt_irrefl _ (Nat.lt_trans h1 this)
    · exact Nat.lt_irrefl _ (Nat.lt_trans h1 (B.oldfp b hb'))
    · have := B.cells x c e
      rw [z] at this
      exact Nat.lt_irrefl _ (Nat.lt_trans h1 this)
  refine ⟨isGen_keep B.gen fun o e => hk a o e, I6.nolimit, M.any, .fresh (.compStart (e2 elt t0 i0 t1 i1 scope gpos) 0 (.ref it) .none genv), (by rw [hg]; exact B.fresh), fun s2 k2 w2 => ⟨rfl, ?_⟩⟩
  have loop := seg_out (X := X) (Ag := Aq.in1) (sp := sp) (elt := elt) (i0 := i0) (scope := scope) (pos := gpos) B.hco B.turn pg0 hi1 hs1 pg pe hk0 hkl0 hk1 hkl ha hlen hrow hys rows.length 0 (ys.length + 1) s2 s2 (Nat.sub_zero _) (Nat.zero_le _) rfl (M.wk B.turn rfl k2) (fun _ _ _ e => e)
  show Seg _ Aq.in1 _ _ _ s2 _ ((compStart (e2 elt t0 i0 t1 i1 scope gpos) 0 (.ref it) .none genv).onRaise (leaving genv)) [] s2
  unfold compStart
  rw [Sem.onRaise_eq_wrap]
  show Seg _ Aq.in1 _ _ _ s2 _ ((ask >>= _).wrap _ _ _ _) [] s2
  refine seg_bind_wrap (wpAny_askSetting ?_)
  split
  · exact seg_again rfl loop
  · refine seg_bind_wrap (wpAny_rule ?_)
    show Seg _ Aq.in1 _ _ _ s2 _ ((standAt i0.pos >>= _).wrap _ _ _ _) [] s2
    exact seg_bind_wrap (wpAny_standAt (seg_bind_wrap (B.turn.self _ 0 s2 _ _ (M.wk B.turn rfl k2).it (seg_again rfl loop))))
end
/-! ### the consumer: the items into the list at S -/
section
variable {fp sp : List Addr} {tn : Nat → Heap → Prop} {Xg : Cx} {A : Around} {a : Addr} {gi : Nat} {σw : L2.St} {R : Result → Shared → Prop} {P : Program} {w : World} {K : PySem.W.Frag} {tg : Expr} {J : It} {it : Addr} {Hg : Hp} {ys : List V} {res : Value}
theorem collect_loop {S : Addr} (T : Turn P w K tg J fp it tn) (hpn : Xg.pn = []) (hh : A.handled = none) (hroom : A.in1.depth < recursionLimit) (hasp : a ∈ sp) (hS : S ∈ sp) (haS : a ≠ S) (hz : ys.length ≤ sizeLine)
    (hend : ∀ s acc c, Inv Xg [] σw Hg s → s.heap.get? S = some { cls := .type "list", dict := none, data := .seq acc c, slots := #[] } → Vals ys acc.toList → R (.ok (.ret res)) s) :
    ∀ (q i : Nat) (s : Shared) (acc : Array Value) (c : Nat), q + i = ys.length + 1 → i ≤ ys.length → Asleep Xg A.in1 fp tn (Wc Hg ys.length) (Yc Hg ys) ys.length σw sp a gi q i Hg s → s.heap.get? S = some { cls := .type "list", dict := none, data := .seq acc c, slots := #[] } → Vals (ys.take i) acc.toList →
      codeAny (model Xg.prog Xg.w) A (.builtin "list.extend.loop" ⟨[.ref S, .ref a, res], []⟩) R s := by
  intro q
  induction q with
  | zero => intro i s acc c hq hi; omega
  | succ q ih =>
    intro i s acc c hq hi Sl hSo hv
    refine codeAny_builtin F.entry_extend_loop ?_
    rw [Around.under_plainId F.plain_extend_loop _]
    show wpAny _ A.in1 (pyNext (.ref a) >>= _) _ _ s
    refine wpAny_bind (thn (gnext T hpn hh hroom hasp Sl ⟨rfl, hq⟩) fun r s1 ⟨hsame, q1⟩ => ?_)
    have hSo' := hsame S hS _ hSo
    rcases q1 with ⟨rfl, H1, I1, ⟨w1, w2⟩, _⟩ | ⟨v, y, j, H1, m, hm, rfl, rv, ⟨hy, eH, hj⟩, S1⟩
    · subst w1
      have : i = ys.length := by omega
      rw [this, List.take_length] at hv
      exact wpAny_pure (hend s1 acc c I1 hSo' hv)
    · subst eH
      obtain rfl : m = q := by omega
      obtain rfl : j = i := by omega
      have hjl : j < ys.length := (List.getElem?_eq_some_iff.mp hy).1
      have hacc : acc.size = j := by
        have := hv.length
        rw [List.length_take, Array.length_toList (xs := acc)] at this
        omega
      show wpAny _ A.in1 (updateSeq S (·.push v) >>= _) _ _ _
      refine wpAny_bind ?_
      have wk : Wk sp s1 { s1 with heap := s1.heap.update S (Obj.mapSeq (·.push v)) } := by
        refine ⟨rfl, S1.mid.inv.bare, fun b o hb e => (Heap.get?_update_other _ _ (fun h : S = b => hb (h ▸ hS))).trans e, fun b hb => ?_⟩
        by_cases z : b = S
        · subst z
          exact ⟨_, Heap.get?_update_self _ hSo' rfl, fun v q => by cases q⟩
        · obtain ⟨o, e, d⟩ := S1.mid.spo.own b hb
          exact ⟨o, (Heap.get?_update_other _ _ (fun h : S = b => z h.symm)).trans e, d⟩
      refine wpAny_updateSeq hSo' rfl (wpAny_pure ⟨plainId_quiet F.plain_extend_loop _, ?_⟩) (by rw [hacc]; omega) (by show (acc.push v).size ≤ sizeLine + 1; rw [Array.size_push, hacc]; omega)
      refine ih (j + 1) _ (acc.push v) _ (by omega) hjl (S1.wk T hpn wk (fun o e => (Heap.get?_update_other _ _ (fun h : S = a => haS h.symm)).trans e) rfl) (Heap.get?_update_self _ hSo' rfl) ?_
      rw [List.take_succ, hy, Array.toList_push]
      exact hv.append (.cons rv .nil)
end
/-! ### sorted of it -/
/-- sorted(x for xs in e for x in xs), whole numbers -/
def tSortedG (K : PySem.W.Frag) (P : Addr) (wi : TI) : TE := fun σ H Q => wi σ H fun J H1 => TabG H1 P ∧ ∀ H2, Tabbed P H1 H2 → ∃ (a : Addr) (rows : List (List Int)) (refs : List V), J = Itl K a ∧ SqL K H2 a refs ∧ refs.length = rows.length ∧ (∀ (u : Nat) (row : List Int), rows[u]? = some row → ∃ b, refs[u]? = some (.ref b) ∧ SqL K H2 b (row.map V.int)) ∧
  rows.flatten.length ≤ 10000 ∧ ∀ (ns : List Int) (p : Addr), ns.Perm rows.flatten → ns.Pairwise (· ≤ ·) → H2 p = none → Q (.ref p) (upd H2 p (.lst (ns.map V.int)))
section
variable {X : Cx} {c P : Addr} {elt t0 i0 t1 i1 : Expr} {p pos gpos : Pos} {scope : Scope} {own : List (Str × Nat)} {wi : TI} {k k0 k1 : Nat}
theorem gen2_sp {pins : List (Addr × Obj)} {σ : L2.St} {H : Hp} {s : Shared} {vs : List Nat} {J : It} {a : Addr} {gi : Nat} {s0 : Shared} {genv : Env} {it : Addr} {fp : List Addr} {tn : Nat → Heap → Prop} {tg iter : Expr} {ifs : List Expr} {rest : List Comprehension} (B : Born2 X pins σ vs scope tg iter elt ifs rest gpos J H a gi s0 genv it fp tn s) :
    s0.heap.objs.size < a ∧ ∃ o, s.heap.get? a = some o ∧ ∀ v, o.data ≠ .cell v := by
  obtain ⟨o, nm, qn, ho, _, hd, _⟩ := B.gen
  exact ⟨B.old, o, ho, fun v z => by rw [hd] at z; cases z⟩
theorem pe_sortedG (hr : Room (k + 1) X.A) (hN : X.N.Nodup) (hg : Gl X "sorted") (hm : X.mg "sorted" = none) (hb : bootBuiltins "sorted" = some (.builtin "sorted")) (TB : TabB X.base X.mg c P) (hcode : X.env.code = .ref c) (G : GScp X.N X.env.scope scope own) (hi : PI X t0 i0 wi) (hs : ∀ v, genFold i0 X.env v = pure v)
    (hs1 : ∀ env x, foldedSetIterable i1 env x = pure x)
    (pg0 : ∀ (A' : Around) (s : Shared) (H : Hp) (C : Addr) (code : Value) (fp : List Addr), PG (gcx X A' s H (genvOf X scope C code) fp) t0 (gName k0))
    (hi1 : ∀ (A' : Around) (s : Shared) (H : Hp) (C : Addr) (code : Value) (fp : List Addr), PI (gcx X A' s H (genvOf X scope C code) fp) t1 i1 (iList X.K (tVar k0)))
    (pg : ∀ (A' : Around) (s : Shared) (H : Hp) (C : Addr) (code : Value) (fp : List Addr), PG (gcx X A' s H (genvOf X scope C code) fp) t1 (gName k1))
    (pe : ∀ (A' : Around) (s : Shared) (H : Hp) (C : Addr) (code : Value) (fp : List Addr), PE (gcx X A' s H (genvOf X scope C code) fp) elt (tVar k1))
    (hk0 : k0 ∈ own.map (·.2)) (hk1 : k1 ∈ own.map (·.2)) (hkN0 : k0 < X.N.length) (hkN1 : k1 < X.N.length)
    (he : starEach [e2 elt t0 i0 t1 i1 scope gpos] X.env = (false, eval (e2 elt t0 i0 t1 i1 scope gpos) X.env) :: starEach [] X.env := by rfl) :
    PE X (.Call (.Name "sorted" p) [e2 elt t0 i0 t1 i1 scope gpos] [] pos) (tSortedG X.K P wi) := by
  refine ⟨fun pins s σ H Q I h => ?_⟩
  refine wpAny_Call_Name_kw (ld_blt I hg hm hb ?_)
  refine PyProof.Rows.callWith_builtin1 ?_ he (by rfl)
  rw [he]
  show wpAny _ _ (spliced ((false, eval (e2 elt t0 i0 t1 i1 scope gpos) X.env) :: backTo pos (starEach [] X.env))) _ _ s
  refine Calls.spliced_cons (gen_make2 hr hN TB hcode G hi hs I h fun J H2 a gi s0 genv it fp tn s5 hR B => ?_)
  refine Calls.spliced_nil ?_
  obtain ⟨a1, rows, refs, rfl, ha, hlen, hrow, hz, hQ⟩ := hR
  obtain ⟨code, rfl⟩ := B.ge
  refine Calls.call_function_entry PyProof.Rows.kind_sorted PyProof.Rows.plain_sorted PyProof.Rows.entry_sorted (PyProof.Rows.args_sorted1 _) ?_
  unfold Builtin.«sorted»
  refine wpAny_bind (m := checkCount "sorted" 1 1 _) (wpAny_pure ?_)
  have hlt : a < s5.heap.objs.size := by
    obtain ⟨o, nm, qn, ho, _⟩ := B.gen
    exact Heap.lt_size ho
  have hNs : X.N.length = σ.length := I.len.symm
  have hzs : (rows.flatten.map V.int).length ≤ sizeLine := by rw [List.length_map]; exact Nat.le_trans hz (by decide)
  -- the list sorts
  have key : ∀ s6 acc, Inv X pins σ H2 s6 → Vals (rows.flatten.map V.int) acc → wpAny (model X.prog X.w) X.A.in1 (newList acc >>= fun l => holding [l] (call (.builtin "list.sort") [l] []) >>= fun _ => ret l) (fun fin s' => ∃ v, fin = .done (.ret v) ∧ EP X pins σ Q v s') X.xe s6 := fun s6 acc I6 rv => by
    have hzl : acc.length ≤ sizeLine := by rw [← rv.length]; exact hzs
    refine wpAny_bind (wpAny_newList ?_ hzl)
    have hob : (s6.heap.push (PyProof.Rows.seqObj "list" acc.toArray 0)).get? s6.heap.objs.size = some (PyProof.Rows.seqObj "list" acc.toArray 0) := Heap.get?_push_size _ rfl
    refine wpAny_bind (wpAny_holding (wpAny_call_entry PyProof.Rows.slot_list_sort ⟨_, hob, rfl⟩ PyProof.Rows.entry_list_sort (SrtO.list_sort_ord SrtO.swo_int hob hzl (fun h2 => SrtO.ints_sortable rv.ints h2) fun out h1 h2 => ⟨_, rfl, ?_⟩) (PyProof.Rows.args_list_sort _)))
    obtain ⟨q1, q2, q3⟩ := SrtO.ints_out rv.ints h1 h2
    obtain ⟨ep, he'⟩ := PyProof.Rows.sortedHeap_at (vs := acc) (out := out.toArray) hob
    have hlen2 : ((out.map SrtO.iv).map V.int).length ≤ sizeLine := by
      rw [List.length_map, q2.length_eq]
      exact Nat.le_trans hz (by decide)
    refine wpAny_pure ⟨_, rfl, .ref s6.heap.objs.size, upd H2 s6.heap.objs.size (.lst ((out.map SrtO.iv).map V.int)), I6.laid (t' := s6.toks) (fun b o e => ?_) (Nat.le_refl _) ⟨hlen2, out, ep, vals_of_ints q1, he'⟩, rfl, hQ _ _ q2 q3 (I6.hok.fresh (Nat.le_refl _))⟩
    have hb : b ≠ s6.heap.objs.size := Nat.ne_of_lt (Heap.lt_size e)
    have e2 := Heap.get?_push_of_some (PyProof.Rows.seqObj "list" acc.toArray 0) e
    rw [PyProof.Rows.sortedHeap_old hb (Heap.lt_size e2)]
    exact e2
  refine wpAny_bind (m := collect _) ?_
  -- the items are collected
  unfold collect
  refine wpAny_bind (wpAny_runValue (codeAny_builtin F.entry_proto_collect ?_))
  rw [Around.under_plainId F.plain_proto_collect _]
  show wpAny _ X.A.in1.in1 (newList [] >>= fun l => again (.builtin "list.__iadd__" ⟨[l, .ref a], []⟩)) _ _ s5
  refine wpAny_bind (wpAny_newObj_type ?_)
  refine wpAny_pure ⟨plainId_quiet F.plain_list_iadd _, codeAny_builtin F.entry_list_iadd ?_⟩
  rw [Around.under_plainId F.plain_list_iadd _]
  show wpAny _ X.A.in1.in1 (Builtin.List.listExtendWith (.ref s5.heap.objs.size) (.ref a) (.ref s5.heap.objs.size)) _ _ _
  generalize hS : s5.heap.objs.size = S at *
  have hT : ∀ h' : Heap, (∀ o, s5.heap.get? a = some o → h'.get? a = some o) → ∀ tk, ({ s5 with heap := h', toks := tk } : Shared).TypeIs (.ref a) "generator" := fun h' k tk => by
    obtain ⟨o, nm, qn, ho, hcl, _⟩ := B.gen
    exact ⟨o, k o ho, hcl⟩
  have hp1 : ∀ b o, s5.heap.get? b = some o → (s5.heap.push { cls := .type "list", data := .seq ([] : List Value).toArray }).get? b = some o := fun b o e => Heap.get?_push_of_some _ e
  have hSa : S ≠ a := fun z => by rw [z] at hlt; exact Nat.lt_irrefl _ hlt
  have hgen1 := isGen_keep (h' := s5.heap.push { cls := .type "list", data := .seq ([] : List Value).toArray }) B.gen fun o e => hp1 a o e
  unfold Builtin.List.listExtendWith
  refine wpAny_bind (wpAny_typeOf (hT _ (fun o e => hp1 a o e) _) ?_)
  have n1 : Builtin.List.listSameRef (.ref S) (.ref a) = false := by simp [Builtin.List.listSameRef, hSa]
  have n2 : (Value.type "generator" == Value.type "list") = false := by decide
  have n3 : (Value.type "generator" == Value.type "tuple") = false := by decide
  simp only [n1, n2, n3, Bool.or_false, Bool.false_eq_true, if_false]
  refine wpAny_bind (wpAny_pyIter_gen hgen1 ?_)
  refine wpAny_bind (wpAny_holding ?_)
  unfold Builtin.List.listLengthHint
  refine wpAny_bind (wpAny_specialOf (hT _ (fun o e => hp1 a o e) _) F.gen_no_len ?_)
  show wpAny _ X.A.in1.in1 (specialOf (Value.ref a) (Str.ofString "__length_hint__") >>= _) _ _ _
  refine wpAny_bind (wpAny_specialOf (hT _ (fun o e => hp1 a o e) _) F.gen_no_hint ?_)
  refine wpAny_pure ?_
  show wpAny _ X.A.in1.in1 (rule "list.extend.makes-room" >>= fun _ => Builtin.List.listTouch (.ref S) >>= fun _ => again (.builtin "list.extend.loop" ⟨[.ref S, .ref a, .ref S], []⟩)) _ _ _
  refine wpAny_bind (wpAny_rule ?_)
  have hS1 : (s5.heap.push { cls := .type "list", data := .seq ([] : List Value).toArray }).get? S = some { cls := .type "list", data := .seq ([] : List Value).toArray } := by rw [← hS]; exact Heap.get?_push_size _ rfl
  refine wpAny_bind ?_
  show wpAny _ X.A.in1.in1 (updateSeq S (·.push .none) >>= fun _ => updateSeq S (·.pop)) _ _ _
  refine wpAny_bind (wpAny_updateSeq hS1 rfl ?_)
  have hS2 := Heap.get?_update_self (Obj.mapSeq (·.push Value.none)) hS1 rfl
  refine wpAny_updateSeq hS2 rfl ?_
  have hS3 := Heap.get?_update_self (Obj.mapSeq (·.pop)) hS2 rfl
  have oth : ∀ b o, s5.heap.get? b = some o → (((s5.heap.push { cls := .type "list", data := .seq ([] : List Value).toArray }).update S (Obj.mapSeq (·.push Value.none))).update S (Obj.mapSeq (·.pop))).get? b = some o := fun b o e => by
    have hb : S ≠ b := fun z => by rw [← hS] at z; exact Nat.ne_of_lt (Heap.lt_size e) z.symm
    exact (Heap.get?_update_other _ _ hb).trans ((Heap.get?_update_other _ _ hb).trans (hp1 b o e))
  have gsp := gen2_sp B
  have As := B.asleep (Aq := X.A.in1.in1) (k0 := k0) (k1 := k1) (rows := rows.map fun r => r.map V.int) (refs := refs) (ys := rows.flatten.map V.int) (sp := [a, S])
    (s' := { s5 with heap := ((s5.heap.push { cls := .type "list", data := .seq ([] : List Value).toArray }).update S (Obj.mapSeq (·.push Value.none))).update S (Obj.mapSeq (·.pop)) }) I.ok.frames hr.hd (pg0 _ _ _ _ _ _) (hi1 _ _ _ _ _ _) (hs1 _) (pg _ _ _ _ _ _) (pe _ _ _ _ _ _) hk0 (by rw [← hNs]; exact hkN0) hk1 (by rw [← hNs]; exact hkN1) ha (by rw [List.length_map]; exact hlen)
    (fun u row hu => by
      rw [List.getElem?_map] at hu
      cases e : rows[u]? with
      | none => rw [e] at hu; cases hu
      | some r => rw [e] at hu; cases hu; exact hrow u r e) (by rw [List.map_flatten]) rfl rfl oth (fun b hb => by
      rcases List.mem_cons.mp hb with z | z
      · subst z
        obtain ⟨g1, o, g2, g3⟩ := gsp
        exact ⟨g1, o, oth _ _ g2, g3⟩
      · have z : b = S := by simpa using z
        subst z
        exact ⟨Nat.lt_trans B.old hlt, _, hS3, fun v q => by cases q⟩)
  refine wpAny_pure ⟨plainId_quiet F.plain_extend_loop _, collect_loop (Xg := gcx X (X.A.in1.in1.in1.deeper (genvOf X scope s0.heap.objs.size code)) s0 H2 (genvOf X scope s0.heap.objs.size code) fp) (sp := [a, S]) (A := X.A.in1) (S := S) (turn_no B.turn) rfl hr.hd (by have := hr.dp; show X.A.depth < _; omega) (by simp) (by simp) hSa.symm hzs (fun s6 acc c' I6 e6 v6 => ?_) _ 0 _ #[] _ (Nat.add_zero _) (Nat.zero_le _) As hS3 .nil⟩
  show wpAny _ X.A.in1 (load S >>= _) _ _ s6
  refine wpAny_bind (wpAny_load e6 ?_)
  exact wpAny_pure (key s6 acc.toList (B.back I6) v6)
end
end Gx

set_option Elab.async false
set_option linter.all false
set_option maxRecDepth 100000
set_option maxHeartbeats 2000000
/-! The text of the row, what stays true of the heap, small words of the walk. -/
namespace Bw
open PySem PySem.Spec PyProof.Rows L2

/-! ### the text -/
def topS (i : Nat) : Stmt := PySem.Challenge.pw_bestsets_k39_whole_divided_sets.main.body.getD i (.Pass ⟨0, 0, 0, 0⟩)
abbrev s_graph_rank : Stmt := topS 4
theorem bd_graph_rank {K : PySem.W.Frag} {f : Addr} {fd : FuncData} (F : Fun K "graph_rank" "graph_rank" s_graph_rank f fd) : Binds K fd ["line", "members"] [] := F.binds fun _ _ _ _ _ _ us hl => match us, hl with | [_, _], _ => rfl
theorem sc_graph_rank : FnScope ["line", "members", "roots", "rank", "element", "one", "two", "old", "new", "root"] ["line", "members"] (defScope s_graph_rank) := ⟨rfl, rfl, rfl, by decide +kernel, rfl, by decide +kernel, by decide +kernel⟩
abbrev s_inverse : Stmt := topS 5
theorem bd_inverse {K : PySem.W.Frag} {f : Addr} {fd : FuncData} (F : Fun K "inverse" "inverse" s_inverse f fd) : Binds K fd ["number", "prime"] [] := F.binds fun _ _ _ _ _ _ us hl => match us, hl with | [_, _], _ => rfl
theorem sc_inverse : FnScope ["number", "prime", "candidate"] ["number", "prime"] (defScope s_inverse) := ⟨rfl, rfl, rfl, by decide +kernel, rfl, by decide +kernel, by decide +kernel⟩
abbrev s_reduced : Stmt := topS 6
theorem bd_reduced {K : PySem.W.Frag} {f : Addr} {fd : FuncData} (F : Fun K "reduced" "reduced" s_reduced f fd) : Binds K fd ["vector", "rows", "prime"] [] := F.binds fun _ _ _ _ _ _ us hl => match us, hl with | [_, _, _], _ => rfl
theorem sc_reduced : FnScope ["vector", "rows", "prime", "result", "place", "row", "factor", "one", "two"] ["vector", "rows", "prime"] (defScope s_reduced) := ⟨rfl, rfl, rfl, by decide +kernel, rfl, by decide +kernel, by decide +kernel⟩
abbrev s_vectors_rank : Stmt := topS 7
theorem bd_vectors_rank {K : PySem.W.Frag} {f : Addr} {fd : FuncData} (F : Fun K "vectors_rank" "vectors_rank" s_vectors_rank f fd) : Binds K fd ["line", "members"] [] := F.binds fun _ _ _ _ _ _ us hl => match us, hl with | [_, _], _ => rfl
theorem sc_vectors_rank : FnScope ["line", "members", "prime", "rows", "element", "rest", "places", "factor", "place", "entry"] ["line", "members"] (defScope s_vectors_rank) := ⟨rfl, rfl, rfl, by decide +kernel, rfl, by decide +kernel, by decide +kernel⟩
abbrev s_find_thing : Stmt := topS 8
theorem bd_find_thing {K : PySem.W.Frag} {f : Addr} {fd : FuncData} (F : Fun K "find_thing" "find_thing" s_find_thing f fd) : Binds K fd ["line", "element", "owners", "seen"] [] := F.binds fun _ _ _ _ _ _ us hl => match us, hl with | [_, _, _, _], _ => rfl
theorem sc_find_thing : FnScope ["line", "element", "owners", "seen", "thing"] ["line", "element", "owners", "seen"] (defScope s_find_thing) := ⟨rfl, rfl, rfl, by decide +kernel, rfl, by decide +kernel, by decide +kernel⟩
abbrev s_choices_rank : Stmt := topS 9
theorem bd_choices_rank {K : PySem.W.Frag} {f : Addr} {fd : FuncData} (F : Fun K "choices_rank" "choices_rank" s_choices_rank f fd) : Binds K fd ["line", "members"] [] := F.binds fun _ _ _ _ _ _ us hl => match us, hl with | [_, _], _ => rfl
theorem sc_choices_rank : FnScope ["line", "members", "owners", "element"] ["line", "members"] (defScope s_choices_rank) := ⟨rfl, rfl, rfl, by decide +kernel, rfl, by decide +kernel, by decide +kernel⟩
abbrev s_bounds_rank : Stmt := topS 10
theorem bd_bounds_rank {K : PySem.W.Frag} {f : Addr} {fd : FuncData} (F : Fun K "bounds_rank" "bounds_rank" s_bounds_rank f fd) : Binds K fd ["line", "members"] [] := F.binds fun _ _ _ _ _ _ us hl => match us, hl with | [_, _], _ => rfl
theorem sc_bounds_rank : FnScope ["line", "members", "taken", "element", "counts", "group", "_", "one", "pair", "count"] ["line", "members"] (defScope s_bounds_rank) := ⟨rfl, rfl, rfl, by decide +kernel, rfl, by decide +kernel, by decide +kernel⟩
abbrev s_bases_rank : Stmt := topS 11
theorem bd_bases_rank {K : PySem.W.Frag} {f : Addr} {fd : FuncData} (F : Fun K "bases_rank" "bases_rank" s_bases_rank f fd) : Binds K fd ["line", "members"] [] := F.binds fun _ _ _ _ _ _ us hl => match us, hl with | [_, _], _ => rfl
theorem sc_bases_rank : FnScope ["line", "members", "base", "element"] ["line", "members"] (defScope s_bases_rank) := ⟨rfl, rfl, rfl, by decide +kernel, rfl, by decide +kernel, by decide +kernel⟩
abbrev s_rank_of_kind : Stmt := topS 12
theorem bd_rank_of_kind {K : PySem.W.Frag} {f : Addr} {fd : FuncData} (F : Fun K "rank_of_kind" "rank_of_kind" s_rank_of_kind f fd) : Binds K fd ["line", "members"] [] := F.binds fun _ _ _ _ _ _ us hl => match us, hl with | [_, _], _ => rfl
theorem sc_rank_of_kind : FnScope ["line", "members", "name"] ["line", "members"] (defScope s_rank_of_kind) := ⟨rfl, rfl, rfl, by decide +kernel, rfl, by decide +kernel, by decide +kernel⟩
abbrev s_size_of_kind : Stmt := topS 13
theorem bd_size_of_kind {K : PySem.W.Frag} {f : Addr} {fd : FuncData} (F : Fun K "size_of_kind" "size_of_kind" s_size_of_kind f fd) : Binds K fd ["line"] [] := F.binds fun _ _ _ _ _ _ us hl => match us, hl with | [_], _ => rfl
theorem sc_size_of_kind : FnScope ["line"] ["line"] (defScope s_size_of_kind) := ⟨rfl, rfl, rfl, by decide +kernel, rfl, by decide +kernel, by decide +kernel⟩
abbrev s_Ranked___init__ : Stmt := inClass (topS 15) 0
theorem bd_Ranked___init__ {K : PySem.W.Frag} {f : Addr} {fd : FuncData} (F : Fun K "__init__" "Ranked.__init__" s_Ranked___init__ f fd) : Binds K fd ["self", "size"] [] := F.binds fun _ _ _ _ _ _ us hl => match us, hl with | [_, _], _ => rfl
theorem sc_Ranked___init__ : FnScope ["self", "size"] ["self", "size"] (defScope s_Ranked___init__) := ⟨rfl, rfl, rfl, by decide +kernel, rfl, by decide +kernel, by decide +kernel⟩
abbrev s_Ranked_rank : Stmt := inClass (topS 15) 1
theorem bd_Ranked_rank {K : PySem.W.Frag} {f : Addr} {fd : FuncData} (F : Fun K "rank" "Ranked.rank" s_Ranked_rank f fd) : Binds K fd ["self", "members"] [] := F.binds fun _ _ _ _ _ _ us hl => match us, hl with | [_, _], _ => rfl
theorem sc_Ranked_rank : FnScope ["self", "members", "key"] ["self", "members"] (defScope s_Ranked_rank) := ⟨rfl, rfl, rfl, by decide +kernel, rfl, by decide +kernel, by decide +kernel⟩
abbrev s_Ranked_compute : Stmt := inClass (topS 15) 2
theorem bd_Ranked_compute {K : PySem.W.Frag} {f : Addr} {fd : FuncData} (F : Fun K "compute" "Ranked.compute" s_Ranked_compute f fd) : Binds K fd ["self", "members"] [] := F.binds fun _ _ _ _ _ _ us hl => match us, hl with | [_, _], _ => rfl
theorem sc_Ranked_compute : FnScope ["self", "members"] ["self", "members"] (defScope s_Ranked_compute) := ⟨rfl, rfl, rfl, by decide +kernel, rfl, by decide +kernel, by decide +kernel⟩
abbrev s_Ranked_is_free : Stmt := inClass (topS 15) 3
theorem bd_Ranked_is_free {K : PySem.W.Frag} {f : Addr} {fd : FuncData} (F : Fun K "is_free" "Ranked.is_free" s_Ranked_is_free f fd) : Binds K fd ["self", "members"] [] := F.binds fun _ _ _ _ _ _ us hl => match us, hl with | [_, _], _ => rfl
theorem sc_Ranked_is_free : FnScope ["self", "members"] ["self", "members"] (defScope s_Ranked_is_free) := ⟨rfl, rfl, rfl, by decide +kernel, rfl, by decide +kernel, by decide +kernel⟩
abbrev s_Ranked_whole : Stmt := inClass (topS 15) 4
theorem bd_Ranked_whole {K : PySem.W.Frag} {f : Addr} {fd : FuncData} (F : Fun K "whole" "Ranked.whole" s_Ranked_whole f fd) : Binds K fd ["self"] [] := F.binds fun _ _ _ _ _ _ us hl => match us, hl with | [_], _ => rfl
theorem sc_Ranked_whole : FnScope ["self"] ["self"] (defScope s_Ranked_whole) := ⟨rfl, rfl, rfl, by decide +kernel, rfl, by decide +kernel, by decide +kernel⟩
abbrev s_changed : Stmt := topS 16
theorem bd_changed {K : PySem.W.Frag} {f : Addr} {fd : FuncData} (F : Fun K "changed" "changed" s_changed f fd) : Binds K fd ["chosen", "out", "put"] [] := F.binds fun _ _ _ _ _ _ us hl => match us, hl with | [_, _, _], _ => rfl
theorem sc_changed : FnScope ["chosen", "out", "put", "element"] ["chosen", "out", "put"] (defScope s_changed) := ⟨rfl, rfl, rfl, by decide +kernel, rfl, by decide +kernel, by decide +kernel⟩
abbrev s_follows : Stmt := topS 17
theorem bd_follows {K : PySem.W.Frag} {f : Addr} {fd : FuncData} (F : Fun K "follows" "follows" s_follows f fd) : Binds K fd ["first", "second", "chosen", "one", "two"] [] := F.binds fun _ _ _ _ _ _ us hl => match us, hl with | [_, _, _, _, _], _ => rfl
theorem sc_follows : FnScope ["first", "second", "chosen", "one", "two"] ["first", "second", "chosen", "one", "two"] (defScope s_follows) := ⟨rfl, rfl, rfl, by decide +kernel, rfl, by decide +kernel, by decide +kernel⟩
abbrev s_layers_of : Stmt := topS 18
theorem bd_layers_of {K : PySem.W.Frag} {f : Addr} {fd : FuncData} (F : Fun K "layers_of" "layers_of" s_layers_of f fd) : Binds K fd ["first", "second", "chosen"] [] := F.binds fun _ _ _ _ _ _ us hl => match us, hl with | [_, _, _], _ => rfl
theorem sc_layers_of : FnScope ["first", "second", "chosen", "outside", "layers", "seen", "layer", "left", "element", "two", "one"] ["first", "second", "chosen"] (defScope s_layers_of) := ⟨rfl, rfl, rfl, by decide +kernel, rfl, by decide +kernel, by decide +kernel⟩
abbrev s_ends_in : Stmt := topS 19
theorem bd_ends_in {K : PySem.W.Frag} {f : Addr} {fd : FuncData} (F : Fun K "ends_in" "ends_in" s_ends_in f fd) : Binds K fd ["second", "chosen", "layer"] [] := F.binds fun _ _ _ _ _ _ us hl => match us, hl with | [_, _, _], _ => rfl
theorem sc_ends_in : FnScope ["second", "chosen", "layer", "element"] ["second", "chosen", "layer"] (defScope s_ends_in) := ⟨rfl, rfl, rfl, by decide +kernel, rfl, by decide +kernel, by decide +kernel⟩
abbrev s_row_in : Stmt := topS 20
theorem bd_row_in {K : PySem.W.Frag} {f : Addr} {fd : FuncData} (F : Fun K "row_in" "row_in" s_row_in f fd) : Binds K fd ["first", "second", "chosen"] [] := F.binds fun _ _ _ _ _ _ us hl => match us, hl with | [_, _, _], _ => rfl
theorem sc_row_in : FnScope ["first", "second", "chosen", "layers", "number", "layer", "last", "row", "before", "one"] ["first", "second", "chosen"] (defScope s_row_in) := ⟨rfl, rfl, rfl, by decide +kernel, rfl, by decide +kernel, by decide +kernel⟩
abbrev s_after_row : Stmt := topS 21
theorem bd_after_row {K : PySem.W.Frag} {f : Addr} {fd : FuncData} (F : Fun K "after_row" "after_row" s_after_row f fd) : Binds K fd ["chosen", "row"] [] := F.binds fun _ _ _ _ _ _ us hl => match us, hl with | [_, _], _ => rfl
theorem sc_after_row : FnScope ["chosen", "row", "left", "element"] ["chosen", "row"] (defScope s_after_row) := ⟨rfl, rfl, rfl, by decide +kernel, rfl, by decide +kernel, by decide +kernel⟩
abbrev s_reached_from : Stmt := topS 22
theorem bd_reached_from {K : PySem.W.Frag} {f : Addr} {fd : FuncData} (F : Fun K "reached_from" "reached_from" s_reached_from f fd) : Binds K fd ["first", "second", "chosen"] [] := F.binds fun _ _ _ _ _ _ us hl => match us, hl with | [_, _, _], _ => rfl
theorem sc_reached_from : FnScope ["first", "second", "chosen", "layer", "element"] ["first", "second", "chosen"] (defScope s_reached_from) := ⟨rfl, rfl, rfl, by decide +kernel, rfl, by decide +kernel, by decide +kernel⟩
abbrev s_kept_of : Stmt := topS 23
theorem bd_kept_of {K : PySem.W.Frag} {f : Addr} {fd : FuncData} (F : Fun K "kept_of" "kept_of" s_kept_of f fd) : Binds K fd ["first", "second", "members"] [] := F.binds fun _ _ _ _ _ _ us hl => match us, hl with | [_, _, _], _ => rfl
theorem sc_kept_of : FnScope ["first", "second", "members", "kept", "element"] ["first", "second", "members"] (defScope s_kept_of) := ⟨rfl, rfl, rfl, by decide +kernel, rfl, by decide +kernel, by decide +kernel⟩
abbrev s_moved_in : Stmt := topS 24
theorem bd_moved_in {K : PySem.W.Frag} {f : Addr} {fd : FuncData} (F : Fun K "moved_in" "moved_in" s_moved_in f fd) : Binds K fd ["first", "second", "members"] [] := F.binds fun _ _ _ _ _ _ us hl => match us, hl with | [_, _, _], _ => rfl
theorem sc_moved_in : FnScope ["first", "second", "members", "kept", "chosen", "rows", "row"] ["first", "second", "members"] (defScope s_moved_in) := ⟨rfl, rfl, rfl, by decide +kernel, rfl, by decide +kernel, by decide +kernel⟩
abbrev s_Kind___init__ : Stmt := inClass (topS 26) 0
theorem sc_Kind___init__ : Gx.ScS ["self", "line"] ["self", "line"] (defScope s_Kind___init__) := ⟨rfl, rfl, rfl, by decide +kernel, rfl, by decide +kernel, by decide +kernel, by decide +kernel, rfl, rfl⟩
abbrev s_Kind_compute : Stmt := inClass (topS 26) 1
theorem bd_Kind_compute {K : PySem.W.Frag} {f : Addr} {fd : FuncData} (F : Fun K "compute" "Kind.compute" s_Kind_compute f fd) : Binds K fd ["self", "members"] [] := F.binds fun _ _ _ _ _ _ us hl => match us, hl with | [_, _], _ => rfl
theorem sc_Kind_compute : FnScope ["self", "members"] ["self", "members"] (defScope s_Kind_compute) := ⟨rfl, rfl, rfl, by decide +kernel, rfl, by decide +kernel, by decide +kernel⟩
abbrev s_Dual___init__ : Stmt := inClass (topS 27) 0
theorem sc_Dual___init__ : Gx.ScS ["self", "inner"] ["self", "inner"] (defScope s_Dual___init__) := ⟨rfl, rfl, rfl, by decide +kernel, rfl, by decide +kernel, by decide +kernel, by decide +kernel, rfl, rfl⟩
abbrev s_Dual_compute : Stmt := inClass (topS 27) 1
theorem bd_Dual_compute {K : PySem.W.Frag} {f : Addr} {fd : FuncData} (F : Fun K "compute" "Dual.compute" s_Dual_compute f fd) : Binds K fd ["self", "members"] [] := F.binds fun _ _ _ _ _ _ us hl => match us, hl with | [_, _], _ => rfl
theorem sc_Dual_compute : FnScope ["self", "members", "outside", "element"] ["self", "members"] (defScope s_Dual_compute) := ⟨rfl, rfl, rfl, by decide +kernel, rfl, by decide +kernel, by decide +kernel⟩
abbrev s_Copies___init__ : Stmt := inClass (topS 31) 0
theorem sc_Copies___init__ : Gx.ScS ["self", "one", "two", "members"] ["self", "one", "two", "members"] (defScope s_Copies___init__) := ⟨rfl, rfl, rfl, by decide +kernel, rfl, by decide +kernel, by decide +kernel, by decide +kernel, rfl, rfl⟩
abbrev s_Copies_compute : Stmt := inClass (topS 31) 1
theorem bd_Copies_compute {K : PySem.W.Frag} {f : Addr} {fd : FuncData} (F : Fun K "compute" "Copies.compute" s_Copies_compute f fd) : Binds K fd ["self", "members"] [] := F.binds fun _ _ _ _ _ _ us hl => match us, hl with | [_, _], _ => rfl
theorem sc_Copies_compute : FnScope ["self", "members", "count", "first", "second", "element"] ["self", "members"] (defScope s_Copies_compute) := ⟨rfl, rfl, rfl, by decide +kernel, rfl, by decide +kernel, by decide +kernel⟩
abbrev s_Single_compute : Stmt := inClass (topS 32) 0
theorem bd_Single_compute {K : PySem.W.Frag} {f : Addr} {fd : FuncData} (F : Fun K "compute" "Single.compute" s_Single_compute f fd) : Binds K fd ["self", "members"] [] := F.binds fun _ _ _ _ _ _ us hl => match us, hl with | [_, _], _ => rfl
theorem sc_Single_compute : FnScope ["self", "members", "count", "element"] ["self", "members"] (defScope s_Single_compute) := ⟨rfl, rfl, rfl, by decide +kernel, rfl, by decide +kernel, by decide +kernel⟩
abbrev s_divided_in : Stmt := topS 33
theorem bd_divided_in {K : PySem.W.Frag} {f : Addr} {fd : FuncData} (F : Fun K "divided_in" "divided_in" s_divided_in f fd) : Binds K fd ["one", "two", "members"] [] := F.binds fun _ _ _ _ _ _ us hl => match us, hl with | [_, _, _], _ => rfl
theorem sc_divided_in : FnScope ["one", "two", "members", "count", "_", "chosen", "reached", "first", "second", "tight", "element"] ["one", "two", "members"] (defScope s_divided_in) := ⟨rfl, rfl, rfl, by decide +kernel, rfl, by decide +kernel, by decide +kernel⟩
abbrev s_made_line : Stmt := topS 35
theorem bd_made_line {K : PySem.W.Frag} {f : Addr} {fd : FuncData} (F : Fun K "made_line" "made_line" s_made_line f fd) : Binds K fd ["line", "earlier"] [] := F.binds fun _ _ _ _ _ _ us hl => match us, hl with | [_, _], _ => rfl
theorem sc_made_line : FnScope ["line", "earlier", "name"] ["line", "earlier"] (defScope s_made_line) := ⟨rfl, rfl, rfl, by decide +kernel, rfl, by decide +kernel, by decide +kernel⟩
abbrev s_built : Stmt := topS 36
theorem bd_built {K : PySem.W.Frag} {f : Addr} {fd : FuncData} (F : Fun K "built" "built" s_built f fd) : Binds K fd ["matroid"] [] := F.binds fun _ _ _ _ _ _ us hl => match us, hl with | [_], _ => rfl
theorem sc_built : FnScope ["matroid", "lines", "line"] ["matroid"] (defScope s_built) := ⟨rfl, rfl, rfl, by decide +kernel, rfl, by decide +kernel, by decide +kernel⟩
abbrev s_ranked : Stmt := topS 37
theorem bd_ranked {K : PySem.W.Frag} {f : Addr} {fd : FuncData} (F : Fun K "ranked" "ranked" s_ranked f fd) : Binds K fd ["matroid"] [] := F.binds fun _ _ _ _ _ _ us hl => match us, hl with | [_], _ => rfl
theorem sc_ranked : FnScope ["matroid"] ["matroid"] (defScope s_ranked) := ⟨rfl, rfl, rfl, by decide +kernel, rfl, by decide +kernel, by decide +kernel⟩
abbrev s_both : Stmt := topS 39
theorem bd_both {K : PySem.W.Frag} {f : Addr} {fd : FuncData} (F : Fun K "both" "both" s_both f fd) : Binds K fd ["first", "second"] [] := F.binds fun _ _ _ _ _ _ us hl => match us, hl with | [_, _], _ => rfl
theorem sc_both : FnScope ["first", "second", "one", "two"] ["first", "second"] (defScope s_both) := ⟨rfl, rfl, rfl, by decide +kernel, rfl, by decide +kernel, by decide +kernel⟩
abbrev s_divided : Stmt := topS 41
theorem bd_divided {K : PySem.W.Frag} {f : Addr} {fd : FuncData} (F : Fun K "divided" "divided" s_divided f fd) : Binds K fd ["first", "second", "members"] [] := F.binds fun _ _ _ _ _ _ us hl => match us, hl with | [_, _, _], _ => rfl
theorem sc_divided : FnScope ["first", "second", "members", "one", "two"] ["first", "second", "members"] (defScope s_divided) := ⟨rfl, rfl, rfl, by decide +kernel, rfl, by decide +kernel, by decide +kernel⟩
abbrev s__law_draw : Stmt := topS 43
theorem bd__law_draw {K : PySem.W.Frag} {f : Addr} {fd : FuncData} (F : Fun K "_law_draw" "_law_draw" s__law_draw f fd) : Binds K fd ["_law_state", "_law_limit"] [] := F.binds fun _ _ _ _ _ _ us hl => match us, hl with | [_, _], _ => rfl
theorem sc__law_draw : FnScope ["_law_state", "_law_limit", "_law_position", "_law_cell", "_law_mixed", "_law_digit"] ["_law_state", "_law_limit"] (defScope s__law_draw) := ⟨rfl, rfl, rfl, by decide +kernel, rfl, by decide +kernel, by decide +kernel⟩
abbrev s__law_powers : Stmt := topS 44
theorem bd__law_powers {K : PySem.W.Frag} {f : Addr} {fd : FuncData} (F : Fun K "_law_powers" "_law_powers" s__law_powers f fd) : Binds K fd [] [] := F.binds fun _ _ _ _ _ _ us hl => match us, hl with | [], _ => rfl
theorem sc__law_powers : FnScope [] [] (defScope s__law_powers) := ⟨rfl, rfl, rfl, by decide +kernel, rfl, by decide +kernel, by decide +kernel⟩
abbrev s__law_code : Stmt := topS 45
theorem bd__law_code {K : PySem.W.Frag} {f : Addr} {fd : FuncData} (F : Fun K "_law_code" "_law_code" s__law_code f fd) : Binds K fd ["_law_those"] [] := F.binds fun _ _ _ _ _ _ us hl => match us, hl with | [_], _ => rfl
theorem sc__law_code : FnScope ["_law_those", "_law_powers_here", "_law_e"] ["_law_those"] (defScope s__law_code) := ⟨rfl, rfl, rfl, by decide +kernel, rfl, by decide +kernel, by decide +kernel⟩
abbrev s__law_members : Stmt := topS 46
theorem bd__law_members {K : PySem.W.Frag} {f : Addr} {fd : FuncData} (F : Fun K "_law_members" "_law_members" s__law_members f fd) : Binds K fd ["_law_code_here", "_law_size_here"] [] := F.binds fun _ _ _ _ _ _ us hl => match us, hl with | [_, _], _ => rfl
theorem sc__law_members : FnScope ["_law_code_here", "_law_size_here", "_law_powers_here", "_law_e"] ["_law_code_here", "_law_size_here"] (defScope s__law_members) := ⟨rfl, rfl, rfl, by decide +kernel, rfl, by decide +kernel, by decide +kernel⟩
abbrev s__law_every : Stmt := topS 47
theorem bd__law_every {K : PySem.W.Frag} {f : Addr} {fd : FuncData} (F : Fun K "_law_every" "_law_every" s__law_every f fd) : Binds K fd ["_law_size_here"] [] := F.binds fun _ _ _ _ _ _ us hl => match us, hl with | [_], _ => rfl
theorem sc__law_every : FnScope ["_law_size_here", "_law_powers_here", "_law_code_here"] ["_law_size_here"] (defScope s__law_every) := ⟨rfl, rfl, rfl, by decide +kernel, rfl, by decide +kernel, by decide +kernel⟩
abbrev s__law_nested : Stmt := topS 48
theorem bd__law_nested {K : PySem.W.Frag} {f : Addr} {fd : FuncData} (F : Fun K "_law_nested" "_law_nested" s__law_nested f fd) : Binds K fd ["_law_state", "_law_members_here"] [] := F.binds fun _ _ _ _ _ _ us hl => match us, hl with | [_, _], _ => rfl
theorem sc__law_nested : FnScope ["_law_state", "_law_members_here", "_law_made", "_law_cut"] ["_law_state", "_law_members_here"] (defScope s__law_nested) := ⟨rfl, rfl, rfl, by decide +kernel, rfl, by decide +kernel, by decide +kernel⟩
abbrev s__law_size : Stmt := topS 49
theorem bd__law_size {K : PySem.W.Frag} {f : Addr} {fd : FuncData} (F : Fun K "_law_size" "_law_size" s__law_size f fd) : Binds K fd ["_law_line", "_law_sizes"] [] := F.binds fun _ _ _ _ _ _ us hl => match us, hl with | [_, _], _ => rfl
theorem sc__law_size : FnScope ["_law_line", "_law_sizes", "_law_name"] ["_law_line", "_law_sizes"] (defScope s__law_size) := ⟨rfl, rfl, rfl, by decide +kernel, rfl, by decide +kernel, by decide +kernel⟩
abbrev s__law_sums : Stmt := topS 50
theorem bd__law_sums {K : PySem.W.Frag} {f : Addr} {fd : FuncData} (F : Fun K "_law_sums" "_law_sums" s__law_sums f fd) : Binds K fd ["_law_line", "_law_those"] [] := F.binds fun _ _ _ _ _ _ us hl => match us, hl with | [_, _], _ => rfl
theorem sc__law_sums : FnScope ["_law_line", "_law_those", "_law_found", "_law_e", "_law_made", "_law_factor", "_law_one", "_law_k"] ["_law_line", "_law_those"] (defScope s__law_sums) := ⟨rfl, rfl, rfl, by decide +kernel, rfl, by decide +kernel, by decide +kernel⟩
abbrev s__law_forest : Stmt := topS 51
theorem bd__law_forest {K : PySem.W.Frag} {f : Addr} {fd : FuncData} (F : Fun K "_law_forest" "_law_forest" s__law_forest f fd) : Binds K fd ["_law_line", "_law_those"] [] := F.binds fun _ _ _ _ _ _ us hl => match us, hl with | [_, _], _ => rfl
theorem sc__law_forest : FnScope ["_law_line", "_law_those", "_law_near", "_law_v", "_law_e", "_law_one", "_law_two_here", "_law_both"] ["_law_line", "_law_those"] (defScope s__law_forest) := ⟨rfl, rfl, rfl, by decide +kernel, rfl, by decide +kernel, by decide +kernel⟩
abbrev s__law_given : Stmt := topS 52
theorem bd__law_given {K : PySem.W.Frag} {f : Addr} {fd : FuncData} (F : Fun K "_law_given" "_law_given" s__law_given f fd) : Binds K fd ["_law_line", "_law_those", "_law_taken"] [] := F.binds fun _ _ _ _ _ _ us hl => match us, hl with | [_, _, _], _ => rfl
theorem sc__law_given : FnScope ["_law_line", "_law_those", "_law_taken", "_law_thing"] ["_law_line", "_law_those", "_law_taken"] (defScope s__law_given) := ⟨rfl, rfl, rfl, by decide +kernel, rfl, by decide +kernel, by decide +kernel⟩
abbrev s__law_is_free : Stmt := topS 53
theorem bd__law_is_free {K : PySem.W.Frag} {f : Addr} {fd : FuncData} (F : Fun K "_law_is_free" "_law_is_free" s__law_is_free f fd) : Binds K fd ["_law_line", "_law_those"] [] := F.binds fun _ _ _ _ _ _ us hl => match us, hl with | [_, _], _ => rfl
theorem sc__law_is_free : FnScope ["_law_line", "_law_those", "_law_name", "_law_base", "_law_pair", "_law_e"] ["_law_line", "_law_those"] (defScope s__law_is_free) := ⟨rfl, rfl, rfl, by decide +kernel, rfl, by decide +kernel, by decide +kernel⟩
abbrev s__law_ranks : Stmt := topS 54
theorem bd__law_ranks {K : PySem.W.Frag} {f : Addr} {fd : FuncData} (F : Fun K "_law_ranks" "_law_ranks" s__law_ranks f fd) : Binds K fd ["_law_free_here", "_law_size_here"] [] := F.binds fun _ _ _ _ _ _ us hl => match us, hl with | [_, _], _ => rfl
theorem sc__law_ranks : FnScope ["_law_free_here", "_law_size_here", "_law_powers_here", "_law_ranks_here", "_law_code_here", "_law_members_here", "_law_e"] ["_law_free_here", "_law_size_here"] (defScope s__law_ranks) := ⟨rfl, rfl, rfl, by decide +kernel, rfl, by decide +kernel, by decide +kernel⟩
abbrev s__law_made_free : Stmt := topS 55
theorem bd__law_made_free {K : PySem.W.Frag} {f : Addr} {fd : FuncData} (F : Fun K "_law_made_free" "_law_made_free" s__law_made_free f fd) : Binds K fd ["_law_line", "_law_members_here", "_law_frees", "_law_sizes"] [] := F.binds fun _ _ _ _ _ _ us hl => match us, hl with | [_, _, _, _], _ => rfl
theorem sc__law_made_free : FnScope ["_law_line", "_law_members_here", "_law_frees", "_law_sizes", "_law_powers_here", "_law_name", "_law_size_here", "_law_one", "_law_ranks_here", "_law_inside", "_law_two_here", "_law_first", "_law_code_here", "_law_part", "_law_e", "_law_k"] ["_law_line", "_law_members_here", "_law_frees", "_law_sizes"] (defScope s__law_made_free) := ⟨rfl, rfl, rfl, by decide +kernel, rfl, by decide +kernel, by decide +kernel⟩
abbrev s__law_free : Stmt := topS 56
theorem bd__law_free {K : PySem.W.Frag} {f : Addr} {fd : FuncData} (F : Fun K "_law_free" "_law_free" s__law_free f fd) : Binds K fd ["_law_line", "_law_earlier"] [] := F.binds fun _ _ _ _ _ _ us hl => match us, hl with | [_, _], _ => rfl
theorem sc__law_free : FnScope ["_law_line", "_law_earlier", "_law_sizes", "_law_frees", "_law_every_here", "_law_pair", "_law_members_here"] ["_law_line", "_law_earlier"] (defScope s__law_free) := ⟨rfl, rfl, rfl, by decide +kernel, rfl, by decide +kernel, by decide +kernel⟩
abbrev s__law_tables : Stmt := topS 57
theorem bd__law_tables {K : PySem.W.Frag} {f : Addr} {fd : FuncData} (F : Fun K "_law_tables" "_law_tables" s__law_tables f fd) : Binds K fd ["_law_matroid"] [] := F.binds fun _ _ _ _ _ _ us hl => match us, hl with | [_], _ => rfl
theorem sc__law_tables : FnScope ["_law_matroid", "_law_made", "_law_line", "_law_free_here", "_law_pair"] ["_law_matroid"] (defScope s__law_tables) := ⟨rfl, rfl, rfl, by decide +kernel, rfl, by decide +kernel, by decide +kernel⟩
abbrev s__law_table : Stmt := topS 58
theorem bd__law_table {K : PySem.W.Frag} {f : Addr} {fd : FuncData} (F : Fun K "_law_table" "_law_table" s__law_table f fd) : Binds K fd ["_law_matroid"] [] := F.binds fun _ _ _ _ _ _ us hl => match us, hl with | [_], _ => rfl
theorem sc__law_table : FnScope ["_law_matroid", "_law_size_here", "_law_free_here"] ["_law_matroid"] (defScope s__law_table) := ⟨rfl, rfl, rfl, by decide +kernel, rfl, by decide +kernel, by decide +kernel⟩
abbrev s__law_of_size : Stmt := topS 59
theorem bd__law_of_size {K : PySem.W.Frag} {f : Addr} {fd : FuncData} (F : Fun K "_law_of_size" "_law_of_size" s__law_of_size f fd) : Binds K fd ["_law_state", "_law_size_here"] [] := F.binds fun _ _ _ _ _ _ us hl => match us, hl with | [_, _], _ => rfl
theorem sc__law_of_size : FnScope ["_law_state", "_law_size_here", "_law_kind", "_law_vertices", "_law_arcs", "_law_rows", "_law_lines", "_law_k", "_law_thing", "_law_j"] ["_law_state", "_law_size_here"] (defScope s__law_of_size) := ⟨rfl, rfl, rfl, by decide +kernel, rfl, by decide +kernel, by decide +kernel⟩
abbrev s__law_some : Stmt := topS 60
theorem bd__law_some {K : PySem.W.Frag} {f : Addr} {fd : FuncData} (F : Fun K "_law_some" "_law_some" s__law_some f fd) : Binds K fd ["_law_state", "_law_size_here"] [] := F.binds fun _ _ _ _ _ _ us hl => match us, hl with | [_, _], _ => rfl
theorem sc__law_some : FnScope ["_law_state", "_law_size_here", "_law_made", "_law_e"] ["_law_state", "_law_size_here"] (defScope s__law_some) := ⟨rfl, rfl, rfl, by decide +kernel, rfl, by decide +kernel, by decide +kernel⟩
abbrev s__law_two : Stmt := topS 61
theorem bd__law_two {K : PySem.W.Frag} {f : Addr} {fd : FuncData} (F : Fun K "_law_two" "_law_two" s__law_two f fd) : Binds K fd ["_law_state", "_law_most"] [] := F.binds fun _ _ _ _ _ _ us hl => match us, hl with | [_, _], _ => rfl
theorem sc__law_two : FnScope ["_law_state", "_law_most", "_law_size_here"] ["_law_state", "_law_most"] (defScope s__law_two) := ⟨rfl, rfl, rfl, by decide +kernel, rfl, by decide +kernel, by decide +kernel⟩
abbrev s__law_is : Stmt := topS 62
theorem bd__law_is {K : PySem.W.Frag} {f : Addr} {fd : FuncData} (F : Fun K "_law_is" "_law_is" s__law_is f fd) : Binds K fd ["_law_free_here", "_law_members_here"] [] := F.binds fun _ _ _ _ _ _ us hl => match us, hl with | [_, _], _ => rfl
theorem sc__law_is : FnScope ["_law_free_here", "_law_members_here"] ["_law_free_here", "_law_members_here"] (defScope s__law_is) := ⟨rfl, rfl, rfl, by decide +kernel, rfl, by decide +kernel, by decide +kernel⟩
abbrev s_law : Stmt := topS 63
theorem bd_law {K : PySem.W.Frag} {f : Addr} {fd : FuncData} (F : Fun K "law" "law" s_law f fd) : Binds K fd ["_law_script"] [] := F.binds fun _ _ _ _ _ _ us hl => match us, hl with | [_], _ => rfl
theorem sc_law : FnScope ["_law_script", "_law_state", "_law_first", "_law_second", "_law_size_here", "_law_one", "_law_two_here", "_law_members_here", "_law_copy", "_law_left", "_law_right", "_law_tight", "_law_least", "_law_part", "_law_inside", "_law_number", "_law_told", "_law_e", "_law_k"] ["_law_script"] (defScope s_law) := ⟨rfl, rfl, rfl, by decide +kernel, rfl, by decide +kernel, by decide +kernel⟩

/-- a def of the top: where it stands -/
structure Def (K : PySem.W.Frag) (mg : Str → Option Value) (x : Str) (st : Stmt) where
  f : Addr
  fd : FuncData
  F : Fun K x x st f fd
  g : mg x = some (.ref f)

/-- a def whose code object stands at c (its generator expressions use the table of c) -/
structure FunC (K : PySem.W.Frag) (x qual : Str) (st : Stmt) (f : Addr) (fd : FuncData) (c : Addr) : Prop where
  ex : ∃ (oc : Value) (od : Option Addr) (kV doc pm : Value) (an : Option Addr) (ct : Value) (osl : Array (Option Value)),
    fd = PySem.W.fnOf x qual (defArgs st) (defBody st) (defScope st) .none kV doc pm an (.ref c) ct ∧ K.lookup f = some ⟨oc, od, .func fd, osl⟩ ∧ PySem.W.codeIn K (.ref c) qual = true
  kp : PySem.W.keepIn K (.ref f) = true
theorem FunC.F {K : PySem.W.Frag} {x qual : Str} {st : Stmt} {f : Addr} {fd : FuncData} {c : Addr} (h : FunC K x qual st f fd c) : Fun K x qual st f fd := by
  obtain ⟨oc, od, kV, doc, pm, an, ct, osl, e⟩ := h.ex
  exact ⟨⟨oc, od, kV, doc, pm, an, .ref c, ct, osl, e⟩, h.kp⟩
theorem FunC.ok {P : Program} {w : World} {K : PySem.W.Frag} {mg : Str → Option Value} {base : Heap} {x qual : Str} {st : Stmt} {f c : Addr} {fd : FuncData} {N ps : List Str} {k : Nat} {sp : Sp} (F : FunC K x qual st f fd c) (S : FnScope N ps (defScope st)) (len : ∀ vs H Q E, sp vs H Q E → vs.length = ps.length)
    (hbody : ∀ (A : Around) (outer : List Env) (s : Shared) (H : Hp) (vs : List V) (Q : VK) (E : XK), Room k (A.deeper (envOfC qual (defScope st) s.heap.objs.size f (.ref c))) → sp vs H Q E →
      ∃ t, PSs (cxOf CX0 P w K mg base N qual (defScope st) f (.ref c) A outer s H E).nox (defBody st) t ∧ t { nx := fun _ H' => Q .non H', rt := Q } (start N vs) H) : FnOk P w K mg base CX0 (k + 1) f fd ps sp := by
  obtain ⟨oc, od, kV, doc, pm, an, ct, osl, rfl, lk, hcd⟩ := F.ex
  refine fn_of lk hcd S len fun A outer s H vs Q E hr hsp => ?_
  obtain ⟨t, h, q⟩ := hbody A outer s H vs Q E hr hsp
  exact ⟨t, h.nox, q⟩
structure DefC (K : PySem.W.Frag) (mg : Str → Option Value) (x : Str) (st : Stmt) (c : Addr) where
  f : Addr
  fd : FuncData
  FC : FunC K x x st f fd c
  g : mg x = some (.ref f)
theorem DefC.F {K : PySem.W.Frag} {mg : Str → Option Value} {x : Str} {st : Stmt} {c : Addr} (D : DefC K mg x st c) : Fun K x x st D.f D.fd := D.FC.F

/-! ### ints -/
abbrev nV (l : List Nat) : List V := l.map fun e => V.int (e : Nat)
theorem flat_nV (l : List Nat) : (nV l).all flatV = true := by simp [flatV]
theorem flat_iV (l : List Int) : (l.map V.int).all flatV = true := by simp [flatV]
theorem eqV_int {i j : Int} : eqV (.int i) (.int j) = decide (i = j) := by
  unfold eqV
  simp
  try rfl
theorem inV_n {e : Nat} {l : List Nat} : inV (.int (e : Nat)) (nV l) = decide (e ∈ l) := by
  unfold inV
  rw [Bool.eq_iff_iff]
  simp [eqV_int]
  constructor
  · rintro ⟨a, h, he⟩
    have : a = e := by omega
    exact this ▸ h
  · exact fun h => ⟨e, h, rfl⟩
theorem nV_at {l : List Nat} {i : Nat} {v : V} (h : (nV l)[i]? = some v) : ∃ e, l[i]? = some e ∧ v = .int (e : Nat) := by
  rw [List.getElem?_map] at h
  cases he : l[i]? with
  | none => rw [he] at h; cases h
  | some e => rw [he] at h; exact ⟨e, rfl, (Option.some.inj h).symm⟩
theorem nV_get {l : List Nat} {i e : Nat} (h : l[i]? = some e) : (nV l)[i]? = some (.int (e : Nat)) := by
  rw [List.getElem?_map, h]; rfl
theorem nV_len (l : List Nat) : (nV l).length = l.length := List.length_map ..
theorem nV_app (a b : List Nat) : nV (a ++ b) = nV a ++ nV b := List.map_append ..
theorem nV_range (n : Nat) : rgV 0 n = nV (List.range n) := by
  unfold rgV nV
  simp
theorem int_n {l : List Nat} : (l.map Int.ofNat).map V.int = nV l := by simp [nV]
theorem sz {n : Nat} (h : n ≤ 10000) : n ≤ sizeLine := Nat.le_trans h (by decide)
theorem szl {n : Nat} (h : n ≤ 10000) : n < sizeLine := Nat.lt_of_le_of_lt h (by decide)

/-! ### what stays of the heap: all but the dicts of known ranks and the tables -/
structure Memo where
  d : Addr
  n : Nat
  rk : Bst.S → Int
abbrev kN (l : List Nat) : List Key := l.map fun e => Sum.inl ((e : Nat) : Int)
def MemoOk (m : Memo) (kvs : List (List Key × V)) : Prop :=
  (kvs.map (·.1)).Nodup ∧ ∀ kv ∈ kvs, ∃ l : List Nat, l.Pairwise (· < ·) ∧ (∀ e ∈ l, e < m.n) ∧ kv.1 = kN l ∧ kv.2 = .int (m.rk (Bst.mem l))
structure Mw where
  ms : List Memo
  tb : List Addr
def Mw.ad (M : Mw) : List Addr := M.ms.map (·.d) ++ M.tb
/-- the known ranks are true, the tables stand -/
structure Mok (M : Mw) (H : Hp) : Prop where
  mem : ∀ m ∈ M.ms, m.n ≤ 12 ∧ ∃ kvs, H m.d = some (.dT kvs) ∧ MemoOk m kvs
  tab : ∀ t ∈ M.tb, GxR.TabG H t
  nd : (M.ms.map (·.d)).Nodup
def kept : HO → Bool
  | .dT _ => false
  | .tbl _ => false
  | _ => true
theorem Mok.ad {M : Mw} {H : Hp} (m : Mok M H) {a : Addr} (h : a ∈ M.ad) : ∃ o, H a = some o ∧ kept o = false := by
  rcases List.mem_append.mp h with h | h
  · obtain ⟨x, hx, rfl⟩ := List.mem_map.mp h
    obtain ⟨_, kvs, e, _⟩ := m.mem x hx
    exact ⟨_, e, rfl⟩
  · obtain ⟨ps, e, _⟩ := m.tab a h
    exact ⟨_, e, rfl⟩
theorem Mok.keep {M : Mw} {H H' : Hp} (m : Mok M H) (h : ∀ a ∈ M.ad, H' a = H a) : Mok M H' := by
  refine ⟨fun x hx => ?_, fun t ht => ?_, m.nd⟩
  · obtain ⟨hn, kvs, e, k⟩ := m.mem x hx
    exact ⟨hn, kvs, (h _ (List.mem_append_left _ (List.mem_map_of_mem hx))).trans e, k⟩
  · obtain ⟨ps, e, k⟩ := m.tab t ht
    exact ⟨ps, (h _ (List.mem_append_right _ ht)).trans e, k⟩
/-- from H to H': what is not of M stands as it was -/
structure Go (M : Mw) (H H' : Hp) : Prop where
  a : Mok M H
  b : Mok M H'
  keep : ∀ x o, H x = some o → x ∉ M.ad → H' x = some o
section
variable {K : PySem.W.Frag} {M : Mw} {H H0 H' H1 : Hp} {p x : Addr} {o u : HO} {xs : List V}
theorem Go.refl (m : Mok M H) : Go M H H := ⟨m, m, fun _ _ h _ => h⟩
theorem Go.trans (a : Go M H0 H) (b : Go M H H') : Go M H0 H' := ⟨a.a, b.b, fun x o h n => b.keep x o (a.keep x o h n) n⟩
theorem Go.at (g : Go M H H') (h : H x = some o) (k : kept o = true := by rfl) : H' x = some o := g.keep x o h fun hx => by
  obtain ⟨o', e, k'⟩ := g.a.ad hx
  rw [h] at e
  cases e
  rw [k] at k'
  cases k'
theorem Go.back (g : Go M H H') (h : H' x = none) : H x = none := by
  cases e : H x with
  | none => rfl
  | some o =>
    by_cases hx : x ∈ M.ad
    · obtain ⟨o', e', _⟩ := g.b.ad hx
      rw [h] at e'
      cases e'
    · rw [g.keep x o e hx] at h
      cases h
theorem Mok.new (m : Mok M H) (h : H p = none) : Mok M (upd H p o) := m.keep fun a ha => upd_ne fun e => by
  subst e
  obtain ⟨o', e', _⟩ := m.ad ha
  rw [h] at e'
  cases e'
theorem Go.new (g : Go M H0 H) (h : H p = none) : Go M H0 (upd H p o) := ⟨g.a, g.b.new h, fun x u e n => by
  have e1 := g.keep x u e n
  rw [upd_ne (ne_of_none e1 h)]
  exact e1⟩
theorem Mok.set (m : Mok M H) (h : H p = some u) (k : kept u = true := by rfl) : Mok M (upd H p o) := m.keep fun a ha => upd_ne fun e => by
  subst e
  obtain ⟨o', e', k'⟩ := m.ad ha
  rw [h] at e'
  cases e'
  rw [k] at k'
  cases k'
/-- a new object changes -/
theorem Go.set (g : Go M H0 H) (h0 : H0 p = none) (h : H p = some u) (k : kept u = true := by rfl) : Go M H0 (upd H p o) := ⟨g.a, g.b.set h k, fun x w e n => by
  have e1 := g.keep x w e n
  rw [upd_ne (ne_of_none e h0)]
  exact e1⟩
theorem Go.rd (g : Go M H H') (h : Rd H x u) (k : kept u = true := by rfl) : Rd H' x u := by
  rcases h with h | ⟨o, h⟩
  · exact .inl (g.at h k)
  · exact .inr ⟨o, g.at h rfl⟩
theorem Go.l (g : Go M H H') (h : SqL K H x xs) : SqL K H' x xs := by
  rcases h with h | h
  · exact .inl (g.rd h)
  · exact .inr h
theorem Go.t (g : Go M H H') (h : SqT K H x xs) : SqT K H' x xs := by
  rcases h with h | h
  · exact .inl (g.rd h)
  · exact .inr h
theorem Go.tab {t : Addr} (g : Go M H0 H) (ht : t ∈ M.tb) (hd : t ∉ M.ms.map (·.d)) (T : GxR.Tabbed t H H') : Go M H0 H' := by
  refine ⟨g.a, ⟨fun m hm => ?_, fun t' ht' => ?_, g.b.nd⟩, fun x o e n => ?_⟩
  · obtain ⟨hn, kvs, e, k⟩ := g.b.mem m hm
    exact ⟨hn, kvs, (T.2 _ fun e => hd (e ▸ List.mem_map_of_mem hm)).trans e, k⟩
  · by_cases e : t' = t
    · subst e
      exact T.1
    · obtain ⟨ps, e', k⟩ := g.b.tab t' ht'
      exact ⟨ps, (T.2 _ e).trans e', k⟩
  · rw [T.2 x fun e => n (by rw [e]; exact List.mem_append_right _ ht)]
    exact g.keep x o e n
theorem Go.tab' {t : Addr} (g : Go M H0 H) (ht : t ∈ M.tb) (T : GxR.Tabbed t H H') : Go M H0 H' := by
  refine g.tab ht (fun h => ?_) T
  obtain ⟨m, hm, e⟩ := List.mem_map.mp h
  obtain ⟨_, kvs, e1, _⟩ := g.b.mem m hm
  obtain ⟨ps, e2, _⟩ := g.b.tab t ht
  rw [e, e2] at e1
  cases e1
end

/-! ### tuples of rows -/
inductive All2 {α β : Type} (R : α → β → Prop) : List α → List β → Prop
  | nil : All2 R [] []
  | cons {a b as bs} : R a b → All2 R as bs → All2 R (a :: as) (b :: bs)
theorem All2.len {α β : Type} {R : α → β → Prop} {as : List α} {bs : List β} (h : All2 R as bs) : as.length = bs.length := by
  induction h with
  | nil => rfl
  | cons _ _ ih => simp [ih]
theorem All2.at {α β : Type} {R : α → β → Prop} {as : List α} {bs : List β} (h : All2 R as bs) : ∀ {i : Nat} {b : β}, bs[i]? = some b → ∃ a, as[i]? = some a ∧ R a b := by
  induction h with
  | nil => intro i b e; simp at e
  | cons r _ ih =>
    intro i b e
    cases i with
    | zero => simp at e; exact ⟨_, rfl, e ▸ r⟩
    | succ i => simp at e; obtain ⟨a, h1, h2⟩ := ih e; exact ⟨a, by simpa using h1, h2⟩
theorem All2.ta {α β : Type} {R : α → β → Prop} {as : List α} {bs : List β} (h : All2 R as bs) : ∀ {i : Nat} {a : α}, as[i]? = some a → ∃ b, bs[i]? = some b ∧ R a b := by
  induction h with
  | nil => intro i b e; simp at e
  | cons r _ ih =>
    intro i b e
    cases i with
    | zero => simp at e; exact ⟨_, rfl, e ▸ r⟩
    | succ i => simp at e; obtain ⟨a, h1, h2⟩ := ih e; exact ⟨a, by simpa using h1, h2⟩
theorem All2.mono {α β : Type} {R R' : α → β → Prop} (k : ∀ a b, R a b → R' a b) {as : List α} {bs : List β} (h : All2 R as bs) : All2 R' as bs := by
  induction h with
  | nil => exact .nil
  | cons r _ ih => exact .cons (k _ _ r) ih
theorem All2.snoc {α β : Type} {R : α → β → Prop} {as : List α} {bs : List β} {a : α} {b : β} (h : All2 R as bs) (r : R a b) : All2 R (as ++ [a]) (bs ++ [b]) := by
  induction h with
  | nil => exact .cons r .nil
  | cons r' _ ih => exact .cons r' ih
/-- v is a tuple of these whole numbers -/
def TI (K : PySem.W.Frag) (H : Hp) (v : V) (ns : List Nat) : Prop := ∃ a, v = .ref a ∧ SqT K H a (nV ns)
/-- v is a tuple of such tuples -/
def TT2 (K : PySem.W.Frag) (H : Hp) (v : V) (rows : List (List Nat)) : Prop := ∃ a vs, v = .ref a ∧ SqT K H a vs ∧ All2 (TI K H) vs rows
/-- v is a pair of a tuple and a number -/
def TBd (K : PySem.W.Frag) (H : Hp) (v : V) (b : List Nat × Nat) : Prop := ∃ a w, v = .ref a ∧ SqT K H a [w, .int (b.2 : Nat)] ∧ TI K H w b.1
def TTB (K : PySem.W.Frag) (H : Hp) (v : V) (bs : List (List Nat × Nat)) : Prop := ∃ a vs, v = .ref a ∧ SqT K H a vs ∧ All2 (TBd K H) vs bs
/-- the lines of the law: all of data that is known by their numbers -/
inductive Ln
  | graph (nv : Nat) (es : List (Nat × Nat))
  | choices (m : Nat) (rows : List (List Nat))
  | bounds (n : Nat) (bs : List (List Nat × Nat))
  | uniform (n r : Nat)
  | vectors (cs : List Nat)
def LineAt (K : PySem.W.Frag) (H : Hp) (a : Addr) : Ln → Prop
  | .graph nv es => ∃ v, SqT K H a [.str "graph", .int (nv : Nat), v] ∧ TT2 K H v (es.map fun e => [e.1, e.2])
  | .choices m rows => ∃ v, SqT K H a [.str "choices", .int (m : Nat), v] ∧ TT2 K H v rows
  | .bounds n bs => ∃ v, SqT K H a [.str "bounds", .int (n : Nat), v] ∧ TTB K H v bs
  | .uniform n r => SqT K H a [.str "uniform", .int (n : Nat), .int (r : Nat)]
  | .vectors cs => ∃ v, SqT K H a [.str "vectors", .int 2, .int 3, v] ∧ TT2 K H v (cs.map Bst.bits)
section
variable {K : PySem.W.Frag} {M : Mw} {H H' : Hp}
theorem TI.go {v : V} {ns : List Nat} (g : Go M H H') (h : TI K H v ns) : TI K H' v ns := by
  obtain ⟨a, rfl, s⟩ := h
  exact ⟨a, rfl, g.t s⟩
theorem TT2.go {v : V} {ns : List (List Nat)} (g : Go M H H') (h : TT2 K H v ns) : TT2 K H' v ns := by
  obtain ⟨a, vs, rfl, s, t⟩ := h
  exact ⟨a, vs, rfl, g.t s, t.mono fun _ _ => TI.go g⟩
theorem TBd.go {v : V} {b : List Nat × Nat} (g : Go M H H') (h : TBd K H v b) : TBd K H' v b := by
  obtain ⟨a, w, rfl, s, t⟩ := h
  exact ⟨a, w, rfl, g.t s, t.go g⟩
theorem TTB.go {v : V} {ns : List (List Nat × Nat)} (g : Go M H H') (h : TTB K H v ns) : TTB K H' v ns := by
  obtain ⟨a, vs, rfl, s, t⟩ := h
  exact ⟨a, vs, rfl, g.t s, t.mono fun _ _ => TBd.go g⟩
theorem LineAt.go {a : Addr} {ln : Ln} (g : Go M H H') (h : LineAt K H a ln) : LineAt K H' a ln := by
  cases ln with
  | graph nv es => obtain ⟨v, s, t⟩ := h; exact ⟨v, g.t s, t.go g⟩
  | choices m rows => obtain ⟨v, s, t⟩ := h; exact ⟨v, g.t s, t.go g⟩
  | bounds n bs => obtain ⟨v, s, t⟩ := h; exact ⟨v, g.t s, t.go g⟩
  | uniform n r => exact g.t h
  | vectors cs => obtain ⟨v, s, t⟩ := h; exact ⟨v, g.t s, t.go g⟩
end
end Bw

set_option Elab.async false
set_option linter.all false
set_option maxRecDepth 100000
set_option maxHeartbeats 0
/-! the head: the facts of the top -/
namespace BwH
open PySem PySem.Spec PyProof.Rows L2 Bw
def fn0 : List He.DefD := [
  ⟨("graph_rank", none), "graph_rank", "graph_rank", defArgs s_graph_rank, defBody s_graph_rank, defScope s_graph_rank, [], []⟩,
  ⟨("inverse", none), "inverse", "inverse", defArgs s_inverse, defBody s_inverse, defScope s_inverse, [], []⟩,
  ⟨("reduced", none), "reduced", "reduced", defArgs s_reduced, defBody s_reduced, defScope s_reduced, [], []⟩,
  ⟨("vectors_rank", none), "vectors_rank", "vectors_rank", defArgs s_vectors_rank, defBody s_vectors_rank, defScope s_vectors_rank, [], []⟩,
  ⟨("find_thing", none), "find_thing", "find_thing", defArgs s_find_thing, defBody s_find_thing, defScope s_find_thing, [], []⟩,
  ⟨("choices_rank", none), "choices_rank", "choices_rank", defArgs s_choices_rank, defBody s_choices_rank, defScope s_choices_rank, [], []⟩,
  ⟨("bounds_rank", none), "bounds_rank", "bounds_rank", defArgs s_bounds_rank, defBody s_bounds_rank, defScope s_bounds_rank, [], []⟩,
  ⟨("rank_of_kind", none), "rank_of_kind", "rank_of_kind", defArgs s_rank_of_kind, defBody s_rank_of_kind, defScope s_rank_of_kind, [], []⟩,
  ⟨("size_of_kind", none), "size_of_kind", "size_of_kind", defArgs s_size_of_kind, defBody s_size_of_kind, defScope s_size_of_kind, [], []⟩,
  ⟨("changed", none), "changed", "changed", defArgs s_changed, defBody s_changed, defScope s_changed, [], []⟩,
  ⟨("follows", none), "follows", "follows", defArgs s_follows, defBody s_follows, defScope s_follows, [], []⟩,
  ⟨("layers_of", none), "layers_of", "layers_of", defArgs s_layers_of, defBody s_layers_of, defScope s_layers_of, [], []⟩,
  ⟨("ends_in", none), "ends_in", "ends_in", defArgs s_ends_in, defBody s_ends_in, defScope s_ends_in, [], []⟩,
  ⟨("row_in", none), "row_in", "row_in", defArgs s_row_in, defBody s_row_in, defScope s_row_in, [], []⟩,
  ⟨("after_row", none), "after_row", "after_row", defArgs s_after_row, defBody s_after_row, defScope s_after_row, [], []⟩,
  ⟨("reached_from", none), "reached_from", "reached_from", defArgs s_reached_from, defBody s_reached_from, defScope s_reached_from, [], []⟩,
  ⟨("kept_of", none), "kept_of", "kept_of", defArgs s_kept_of, defBody s_kept_of, defScope s_kept_of, [], []⟩,
  ⟨("moved_in", none), "moved_in", "moved_in", defArgs s_moved_in, defBody s_moved_in, defScope s_moved_in, [], []⟩,
  ⟨("divided_in", none), "divided_in", "divided_in", defArgs s_divided_in, defBody s_divided_in, defScope s_divided_in, [], []⟩,
  ⟨("made_line", none), "made_line", "made_line", defArgs s_made_line, defBody s_made_line, defScope s_made_line, [], []⟩,
  ⟨("built", none), "built", "built", defArgs s_built, defBody s_built, defScope s_built, [], []⟩,
  ⟨("ranked", none), "ranked", "ranked", defArgs s_ranked, defBody s_ranked, defScope s_ranked, [], []⟩,
  ⟨("both", none), "both", "both", defArgs s_both, defBody s_both, defScope s_both, [], []⟩,
  ⟨("divided", none), "divided", "divided", defArgs s_divided, defBody s_divided, defScope s_divided, [], []⟩,
  ⟨("_law_draw", none), "_law_draw", "_law_draw", defArgs s__law_draw, defBody s__law_draw, defScope s__law_draw, [], []⟩,
  ⟨("_law_powers", none), "_law_powers", "_law_powers", defArgs s__law_powers, defBody s__law_powers, defScope s__law_powers, [], []⟩,
  ⟨("_law_code", none), "_law_code", "_law_code", defArgs s__law_code, defBody s__law_code, defScope s__law_code, [], []⟩,
  ⟨("_law_members", none), "_law_members", "_law_members", defArgs s__law_members, defBody s__law_members, defScope s__law_members, [], []⟩,
  ⟨("_law_every", none), "_law_every", "_law_every", defArgs s__law_every, defBody s__law_every, defScope s__law_every, [], []⟩,
  ⟨("_law_nested", none), "_law_nested", "_law_nested", defArgs s__law_nested, defBody s__law_nested, defScope s__law_nested, [], []⟩,
  ⟨("_law_size", none), "_law_size", "_law_size", defArgs s__law_size, defBody s__law_size, defScope s__law_size, [], []⟩,
  ⟨("_law_sums", none), "_law_sums", "_law_sums", defArgs s__law_sums, defBody s__law_sums, defScope s__law_sums, [], []⟩,
  ⟨("_law_forest", none), "_law_forest", "_law_forest", defArgs s__law_forest, defBody s__law_forest, defScope s__law_forest, [], []⟩,
  ⟨("_law_given", none), "_law_given", "_law_given", defArgs s__law_given, defBody s__law_given, defScope s__law_given, [], []⟩,
  ⟨("_law_is_free", none), "_law_is_free", "_law_is_free", defArgs s__law_is_free, defBody s__law_is_free, defScope s__law_is_free, [], []⟩,
  ⟨("_law_ranks", none), "_law_ranks", "_law_ranks", defArgs s__law_ranks, defBody s__law_ranks, defScope s__law_ranks, [], []⟩]
def fn1 : List He.DefD := [
  ⟨("_law_made_free", none), "_law_made_free", "_law_made_free", defArgs s__law_made_free, defBody s__law_made_free, defScope s__law_made_free, [], []⟩,
  ⟨("_law_free", none), "_law_free", "_law_free", defArgs s__law_free, defBody s__law_free, defScope s__law_free, [], []⟩,
  ⟨("_law_tables", none), "_law_tables", "_law_tables", defArgs s__law_tables, defBody s__law_tables, defScope s__law_tables, [], []⟩,
  ⟨("_law_table", none), "_law_table", "_law_table", defArgs s__law_table, defBody s__law_table, defScope s__law_table, [], []⟩,
  ⟨("_law_of_size", none), "_law_of_size", "_law_of_size", defArgs s__law_of_size, defBody s__law_of_size, defScope s__law_of_size, [], []⟩,
  ⟨("_law_some", none), "_law_some", "_law_some", defArgs s__law_some, defBody s__law_some, defScope s__law_some, [], []⟩,
  ⟨("_law_two", none), "_law_two", "_law_two", defArgs s__law_two, defBody s__law_two, defScope s__law_two, [], []⟩,
  ⟨("_law_is", none), "_law_is", "_law_is", defArgs s__law_is, defBody s__law_is, defScope s__law_is, [], []⟩,
  ⟨("law", none), "law", "law", defArgs s_law, defBody s_law, defScope s_law, [], []⟩,
  ⟨("Kind", some "compute"), "compute", "Kind.compute", defArgs s_Kind_compute, defBody s_Kind_compute, defScope s_Kind_compute, [], []⟩,
  ⟨("Kind", some "rank"), "rank", "Ranked.rank", defArgs s_Ranked_rank, defBody s_Ranked_rank, defScope s_Ranked_rank, [], []⟩,
  ⟨("Dual", some "compute"), "compute", "Dual.compute", defArgs s_Dual_compute, defBody s_Dual_compute, defScope s_Dual_compute, [], []⟩,
  ⟨("Dual", some "rank"), "rank", "Ranked.rank", defArgs s_Ranked_rank, defBody s_Ranked_rank, defScope s_Ranked_rank, [], []⟩,
  ⟨("Copies", some "compute"), "compute", "Copies.compute", defArgs s_Copies_compute, defBody s_Copies_compute, defScope s_Copies_compute, [], []⟩,
  ⟨("Copies", some "rank"), "rank", "Ranked.rank", defArgs s_Ranked_rank, defBody s_Ranked_rank, defScope s_Ranked_rank, [], []⟩,
  ⟨("Single", some "compute"), "compute", "Single.compute", defArgs s_Single_compute, defBody s_Single_compute, defScope s_Single_compute, [], []⟩,
  ⟨("Single", some "rank"), "rank", "Ranked.rank", defArgs s_Ranked_rank, defBody s_Ranked_rank, defScope s_Ranked_rank, [], []⟩,
  ⟨("Kind", some "whole"), "whole", "Ranked.whole", defArgs s_Ranked_whole, defBody s_Ranked_whole, defScope s_Ranked_whole, [], []⟩,
  ⟨("Copies", some "is_free"), "is_free", "Ranked.is_free", defArgs s_Ranked_is_free, defBody s_Ranked_is_free, defScope s_Ranked_is_free, [], []⟩,
  ⟨("Single", some "is_free"), "is_free", "Ranked.is_free", defArgs s_Ranked_is_free, defBody s_Ranked_is_free, defScope s_Ranked_is_free, [], []⟩,
  ⟨("Single", some "__init__"), "__init__", "Ranked.__init__", defArgs s_Ranked___init__, defBody s_Ranked___init__, defScope s_Ranked___init__, [], []⟩,
  ⟨("Ranked", some "__init__"), "__init__", "Ranked.__init__", defArgs s_Ranked___init__, defBody s_Ranked___init__, defScope s_Ranked___init__, [], []⟩]
def fn : List He.DefD := fn0 ++ (fn1)
def fa0 : List He.Fa := [
  .glo "graph_rank",
  .glo "inverse",
  .glo "reduced",
  .glo "vectors_rank",
  .glo "find_thing",
  .glo "choices_rank",
  .glo "bounds_rank",
  .glo "rank_of_kind",
  .glo "size_of_kind",
  .glo "changed",
  .glo "follows",
  .glo "layers_of",
  .glo "ends_in",
  .glo "row_in",
  .glo "after_row",
  .glo "reached_from",
  .glo "kept_of",
  .glo "moved_in",
  .glo "divided_in",
  .glo "made_line",
  .glo "built",
  .glo "ranked",
  .glo "both",
  .glo "divided",
  .glo "_law_draw",
  .glo "_law_powers",
  .glo "_law_code",
  .glo "_law_members",
  .glo "_law_every",
  .glo "_law_nested",
  .glo "_law_size",
  .glo "_law_sums",
  .glo "_law_forest",
  .glo "_law_given",
  .glo "_law_is_free",
  .glo "_law_ranks"]
def fa1 : List He.Fa := [
  .glo "_law_made_free",
  .glo "_law_free",
  .glo "_law_tables",
  .glo "_law_table",
  .glo "_law_of_size",
  .glo "_law_some",
  .glo "_law_two",
  .glo "_law_is",
  .glo "law",
  .glo "Kind",
  .glo "Dual",
  .glo "Copies",
  .glo "Single",
  .free "len",
  .free "list",
  .free "tuple",
  .free "sorted",
  .free "range",
  .free "sum",
  .free "max",
  .free "min",
  .free "int",
  .free "all",
  .free "any",
  .free "zip",
  .free "enumerate",
  .free "reversed",
  .free "set",
  .free "super",
  .cls "Kind",
  .cls "Dual",
  .cls "Copies",
  .cls "Single",
  .noat "Kind" "size",
  .noat "Kind" "known",
  .noat "Kind" "line"]
def fa2 : List He.Fa := [
  .noat "Kind" "inner",
  .noat "Kind" "one",
  .noat "Kind" "two",
  .noat "Kind" "members",
  .noat "Dual" "size",
  .noat "Dual" "known",
  .noat "Dual" "line",
  .noat "Dual" "inner",
  .noat "Dual" "one",
  .noat "Dual" "two",
  .noat "Dual" "members",
  .noat "Copies" "size",
  .noat "Copies" "known",
  .noat "Copies" "line",
  .noat "Copies" "inner",
  .noat "Copies" "one",
  .noat "Copies" "two",
  .noat "Copies" "members",
  .noat "Single" "size",
  .noat "Single" "known",
  .noat "Single" "line",
  .noat "Single" "inner",
  .noat "Single" "one",
  .noat "Single" "two",
  .noat "Single" "members",
  .meth "Kind" "compute",
  .meth "Kind" "rank",
  .meth "Dual" "compute",
  .meth "Dual" "rank",
  .meth "Copies" "compute",
  .meth "Copies" "rank",
  .meth "Single" "compute",
  .meth "Single" "rank",
  .meth "Kind" "whole",
  .meth "Copies" "is_free",
  .meth "Single" "is_free"]
def fa3 : List He.Fa := [
  .mkr "Kind",
  .mkr "Dual",
  .mkr "Copies",
  .mkr "Single"]
def fa : List He.Fa := fa0 ++ (fa1 ++ (fa2 ++ (fa3)))
def names0 : List PySem.Str := [
  ("BestsetsError" : PySem.Str),
  ("DifferentSizes" : PySem.Str),
  ("graph_rank" : PySem.Str),
  ("inverse" : PySem.Str),
  ("reduced" : PySem.Str),
  ("vectors_rank" : PySem.Str),
  ("find_thing" : PySem.Str),
  ("choices_rank" : PySem.Str),
  ("bounds_rank" : PySem.Str),
  ("bases_rank" : PySem.Str),
  ("rank_of_kind" : PySem.Str),
  ("size_of_kind" : PySem.Str),
  ("Ranked" : PySem.Str),
  ("changed" : PySem.Str),
  ("follows" : PySem.Str),
  ("layers_of" : PySem.Str),
  ("ends_in" : PySem.Str),
  ("row_in" : PySem.Str),
  ("after_row" : PySem.Str),
  ("reached_from" : PySem.Str),
  ("kept_of" : PySem.Str),
  ("moved_in" : PySem.Str),
  ("Kind" : PySem.Str),
  ("Dual" : PySem.Str),
  ("Without" : PySem.Str),
  ("Sum" : PySem.Str),
  ("Truncated" : PySem.Str),
  ("Copies" : PySem.Str),
  ("Single" : PySem.Str),
  ("divided_in" : PySem.Str),
  ("Union" : PySem.Str),
  ("made_line" : PySem.Str),
  ("built" : PySem.Str),
  ("ranked" : PySem.Str),
  ("both" : PySem.Str),
  ("divided" : PySem.Str)]
def names1 : List PySem.Str := [
  ("_law_draw" : PySem.Str),
  ("_law_powers" : PySem.Str),
  ("_law_code" : PySem.Str),
  ("_law_members" : PySem.Str),
  ("_law_every" : PySem.Str),
  ("_law_nested" : PySem.Str),
  ("_law_size" : PySem.Str),
  ("_law_sums" : PySem.Str),
  ("_law_forest" : PySem.Str),
  ("_law_given" : PySem.Str),
  ("_law_is_free" : PySem.Str),
  ("_law_ranks" : PySem.Str),
  ("_law_made_free" : PySem.Str),
  ("_law_free" : PySem.Str),
  ("_law_tables" : PySem.Str),
  ("_law_table" : PySem.Str),
  ("_law_of_size" : PySem.Str),
  ("_law_some" : PySem.Str),
  ("_law_two" : PySem.Str),
  ("_law_is" : PySem.Str)]
def names : List PySem.Str := names0 ++ (names1)
/-! ### a method that asks super(): its class stands in a cell -/
structure InD where
  C : Str
  qual : Str
  st : Stmt
abbrev FnC : Type := Option (Str × Str × Arguments × FuncBody × Scope × Addr × Value × Addr)
def inAd (K : PySem.W.Frag) (C : Str) : Addr := He.ma K (He.ga K C) "__init__"
def fnC (K : PySem.W.Frag) (C : Str) : FnC := match K.lookup (inAd K C) with
  | some ⟨_, _, .func fd, _⟩ => some (fd.name, fd.qualname, fd.params, fd.body, fd.scope, fd.globals, fd.defaults, fd.builtins)
  | _ => none
def InD.val (d : InD) : FnC := some ("__init__", d.qual, defArgs d.st, .stmts (defBody d.st), defScope d.st, mainGlobals, .none, builtinsNs)
def cellB (K : PySem.W.Frag) (C : Addr) : List (Str × Addr) → Bool
  | [(x, cc)] => decide (x = "__class__") && (match K.lookup cc with
    | some ⟨_, _, .cell (some (.ref D)), _⟩ => decide (D = C)
    | _ => false)
  | _ => false
def fileB (P : Program) (K : PySem.W.Frag) : Value → Bool
  | .ref c => (match K.lookup c with
    | some ⟨_, _, .fields vs, _⟩ => (match (vs[2]? : Option Value) with
      | some (.str file _) => (P.main.file : Str) == file
      | _ => false)
    | _ => false)
  | _ => false
def inOk (P : Program) (K : PySem.W.Frag) (d : InD) : Bool := (match K.lookup (inAd K d.C) with
    | some ⟨_, _, .func fd, _⟩ => PySem.W.codeIn K fd.code d.qual && (cellB K (He.ga K d.C) fd.closure && fileB P K fd.code)
    | _ => false) && ((PySem.W.clsIn K (He.ga K d.C)).isSome && (decide (PySem.W.mroIn K (He.ga K d.C) (.ref (He.ga K d.C)) = some true) && (He.eqO (PySem.W.ks_superIn K (He.ga K d.C) (He.ga K d.C) "__init__") (some (some (.ref (inAd K "Ranked")))) && (PySem.W.fnIn K (inAd K "Ranked") && decide (PySem.W.typeIn K (.ref (inAd K "Ranked")) = some (.type "function"))))))
theorem cellB_ok {K : PySem.W.Frag} {C : Addr} : ∀ {l : List (Str × Addr)}, cellB K C l = true → ∃ cc : Addr, l = [(("__class__" : Str), cc)] ∧ ∃ (cl : Value) (cld : Option Addr) (csl : Array (Option Value)), K.lookup cc = some ⟨cl, cld, .cell (some (.ref C)), csl⟩
  | [], h => by cases h
  | [(x, cc)], h => by
    obtain ⟨h1, h2⟩ := He.ba h
    refine ⟨cc, by rw [of_decide_eq_true h1], ?_⟩
    cases q : K.lookup cc with
    | none => rw [q] at h2; cases h2
    | some o =>
      obtain ⟨oc, od, dt, osl⟩ := o
      rw [q] at h2
      cases dt with
      | cell v =>
        cases v with
        | none => cases h2
        | some v =>
          cases v with
          | ref D =>
            have : D = C := of_decide_eq_true h2
            exact ⟨oc, od, osl, by rw [this]⟩
          | _ => cases h2
      | _ => cases h2
  | _ :: _ :: _, h => by cases h
theorem fileB_ok {P : Program} {K : PySem.W.Frag} {v : Value} (h : fileB P K v = true) : ∃ c, v = .ref c ∧ ∃ (ccl : Value) (cdd : Option Addr) (ccs : Array (Option Value)) (vs : Array Value) (file : Str) (tf : Tok), K.lookup c = some ⟨ccl, cdd, .fields vs, ccs⟩ ∧ vs[2]? = some (.str file tf) ∧ ((P.main.file : Str) == file) = true := by
  cases v with
  | ref c =>
    refine ⟨c, rfl, ?_⟩
    unfold fileB at h
    dsimp only at h
    cases q : K.lookup c with
    | none => rw [q] at h; cases h
    | some o =>
      obtain ⟨oc, od, dt, osl⟩ := o
      rw [q] at h
      cases dt with
      | fields vs =>
        dsimp only at h
        cases q2 : vs[2]? with
        | none => rw [q2] at h; cases h
        | some u =>
          rw [q2] at h
          cases u with
          | str file tf => exact ⟨oc, od, osl, vs, file, tf, rfl, q2, h⟩
          | _ => cases h
      | _ => cases h
  | _ => cases h
theorem in_ok {P : Program} {K : PySem.W.Frag} {mg : Str → Option Value} {d : InD} (e : fnC K d.C = d.val) (h : inOk P K d = true) (a : PySem.W.nsIn K cStatics "thirdparty.any" = some none) (gs : mg "super" = none) :
    ∃ fd c cc, Gx.SupF P K mg d.qual d.st (inAd K d.C) fd c cc (He.ga K d.C) (inAd K "Ranked") ∧ ∃ kV doc pm an ct, fd = { PySem.W.fnOf "__init__" d.qual (defArgs d.st) (defBody d.st) (defScope d.st) .none kV doc pm an (.ref c) ct with closure := [("__class__", cc)] } := by
  obtain ⟨h1, h2⟩ := He.ba h
  obtain ⟨h3, h4⟩ := He.ba h2
  obtain ⟨h5, h6⟩ := He.ba h4
  obtain ⟨h7, h8⟩ := He.ba h6
  obtain ⟨h9, h10⟩ := He.ba h8
  unfold fnC at e
  cases q : K.lookup (inAd K d.C) with
  | none => rw [q] at h1; cases h1
  | some o =>
    obtain ⟨oc, od, dt, osl⟩ := o
    rw [q] at h1 e
    cases dt with
    | func fd =>
      obtain ⟨n1, n2, n3, n4, n5, n6, n7, n8, n9, n10, n11, n12, n13, n14, n15⟩ := fd
      have e2 : (some (n1, n2, n3, n4, n5, n6, n8, n15) : FnC) = (some (("__init__" : Str), d.qual, defArgs d.st, .stmts (defBody d.st), defScope d.st, mainGlobals, .none, builtinsNs) : FnC) := e
      simp only [Option.some.injEq, Prod.mk.injEq] at e2
      obtain ⟨z1, z2, z3, z4, z5, z6, z7, z8⟩ := e2
      subst z1 z2 z3 z4 z5 z6 z7 z8
      obtain ⟨k1, k2⟩ := He.ba h1
      obtain ⟨k3, k4⟩ := He.ba k2
      obtain ⟨cc, y1, y2⟩ := cellB_ok k3
      obtain ⟨c, x1, x2⟩ := fileB_ok k4
      have y1 : n7 = [(("__class__" : Str), cc)] := y1
      have x1 : n13 = .ref c := x1
      subst y1 x1
      exact ⟨_, c, cc, ⟨⟨oc, od, n9, n10, n11, n12, n14, osl, rfl, q, k1⟩, y2, x2, Option.isSome_iff_exists.mp h3, of_decide_eq_true h5, He.eqO_ok h7, h9, of_decide_eq_true h10, a, gs⟩, n9, n10, n11, n12, n14, rfl⟩
    | _ => cases h1
/-! ### the Hook -/
abbrev R : PySem.W.OpenRow := PySem.W.OpenLaw.row PySem.Challenge.rw_bestsets_k39_whole_divided_sets
abbrev PP : Program := PySem.Challenge.pw_bestsets_k39_whole_divided_sets
def ins : List InD := [⟨"Kind", "Kind.__init__", s_Kind___init__⟩, ⟨"Dual", "Dual.__init__", s_Dual___init__⟩, ⟨"Copies", "Copies.__init__", s_Copies___init__⟩]
def tf : List He.Defn := [("choices_rank", none), ("bounds_rank", none), ("layers_of", none), ("reached_from", none)]
def kOf (g : Addr → Option Obj) : PySem.W.Frag := He.frT g (cStatics :: He.asD g 4)
def exB (K : PySem.W.Frag) : Bool := He.eqO (PySem.W.nsIn K cStatics "thirdparty.any") (some none) && ins.all fun d => inOk PP K d
abbrev AlY : Type := He.AlD × (List FnC × Bool)
def obsK (g : Addr → Option Obj) (K : PySem.W.Frag) : AlY := (He.obsD fa fn K, (ins.map fun d => fnC K d.C, exB K && He.tabsB g tf K))
def obsY (g : Addr → Option Obj) : AlY := obsK g (kOf g)
def valY : AlY := (He.valD fn, (ins.map InD.val, true))
structure SaysY (h : Heap) (K : PySem.W.Frag) : Prop where
  d : He.SaysD fa fn K
  i : ins.map (fun d => fnC K d.C) = ins.map InD.val
  more : exB K = true
  hd : ∀ p ∈ tf, PySem.W.codeHdIn K (He.cT K p).1 (He.cT K p).2 = true
  out : ∀ p ∈ tf, K.lookup (He.cT K p).2 = none
  empty : ∀ p ∈ tf, h.get? (He.cT K p).2 = some { cls := .none, data := .fields #[] }
theorem saysY_of {h : Heap} (e : obsY h.get? = valY) : SaysY h (kOf h.get?) := by
  have e3 : (exB (kOf h.get?) && He.tabsB h.get? tf (kOf h.get?)) = true := congrArg (fun z : AlY => z.2.2) e
  obtain ⟨h1, h2⟩ := He.ba e3
  have key : ∀ p ∈ tf, PySem.W.codeHdIn (kOf h.get?) (He.cT (kOf h.get?) p).1 (He.cT (kOf h.get?) p).2 = true ∧ ∃ o, h.get? (He.cT (kOf h.get?) p).2 = some o ∧ He.emptyTab o = true := fun p hp => by
    obtain ⟨h3, h4⟩ := He.ba (List.all_eq_true.mp h2 p hp)
    refine ⟨h3, ?_⟩
    cases q : h.get? (He.cT (kOf h.get?) p).2 with
    | none => rw [q] at h4; cases h4
    | some o => rw [q] at h4; exact ⟨o, rfl, h4⟩
  refine ⟨congrArg (fun z : AlY => z.1) e, congrArg (fun z : AlY => z.2.1) e, h1, fun p hp => (key p hp).1, fun p hp => ?_, fun p hp => ?_⟩
  · obtain ⟨_, o, q, z⟩ := key p hp
    exact He.frT_none q z
  · obtain ⟨_, o, q, z⟩ := key p hp
    rw [q, He.emptyTab_eq z]
def hk : PySem.W.Hook where
  α := AlY
  obs := fun s => obsY s.heap.get?
  val := fun _ => valY
  says := fun _ h => ∃ K : PySem.W.Frag, K.In h ∧ SaysY h K
  of := fun _ _ e => ⟨_, He.frT_in, saysY_of e⟩
  keeps := fun _ _ _ ⟨K, hK, c⟩ k => ⟨K, PySem.W.Frag.In.keeps hK k, ⟨c.d, c.i, c.more, c.hd, c.out, fun p hp => k _ _ (c.empty p hp)⟩⟩
def ob (s : PySem.W.SharedT) : AlY := obsY (HandSHeadRun.getT s)
theorem ob_eq (s : PySem.W.SharedT) : ob s = hk.obs s.abs := by
  have e : HandSHeadRun.getT s = s.abs.heap.get? := funext (HandSHeadRun.getT_eq s)
  show obsY (HandSHeadRun.getT s) = obsY s.abs.heap.get?
  rw [e]
abbrev qv : Program := PySem.W.view R.prog [63]
theorem run (w : World) : HandSHeadRun.RunEq R qv hk ob 6000 names w := by
  intro os
  kernel_rfl
end BwH

set_option Elab.async false
set_option linter.all false
set_option maxRecDepth 100000
set_option maxHeartbeats 2000000
namespace Bw
open PySem PySem.Spec PyProof.Rows L2
/-- what the top has left: the built-in names -/
structure Bn (mg : Str → Option Value) : Prop where
  m_len : mg "len" = none
  m_list : mg "list" = none
  m_tuple : mg "tuple" = none
  m_sorted : mg "sorted" = none
  m_range : mg "range" = none
  m_sum : mg "sum" = none
  m_max : mg "max" = none
  m_min : mg "min" = none
  m_int : mg "int" = none
  m_all : mg "all" = none
  m_any : mg "any" = none
  m_zip : mg "zip" = none
  m_enumerate : mg "enumerate" = none
  m_reversed : mg "reversed" = none
  m_set : mg "set" = none
/-! ### the rules with the written part named (a rule within a comprehension may not speak of its context) -/
section
variable {X : Cx} {K : PySem.W.Frag} {tg e e2 : Expr} {te : TE} {ta : TA} {p pos tpos : Pos} {elts : List Expr} {kk : Nat}
theorem ix_listK (hK : X.K = K := by rfl) : IxR X (rIxL K) := hK ▸ ix_list
theorem ix_tupK (hK : X.K = K := by rfl) : IxR X (rIxT K) := hK ▸ ix_tup
theorem op_in_seqK (hK : X.K = K := by rfl) : OpR X (compareOp .In) (rIn K false) := hK ▸ op_in_seq
theorem op_notIn_seqK (hK : X.K = K := by rfl) : OpR X (compareOp .NotIn) (rIn K true) := hK ▸ op_notIn_seq
theorem op_eqDK (hu : X.A.units + 64 < cLine) (hK : X.K = K := by rfl) : OpR X (compareOp .Eq) (rEqD K) := hK ▸ op_eqD hu
theorem op_neDK (hu : X.A.units + 64 < cLine) (hK : X.K = K := by rfl) : OpR X (compareOp .NotEq) (rNeD K) := hK ▸ op_neD hu
theorem op_catTK (hK : X.K = K := by rfl) : OpR X (binaryOp .Add) (rCatT K) := hK ▸ op_catT
abbrev rLen (K : PySem.W.Frag) : List V → Hp → VK → Prop := fun xs H Q => ∃ p ys, xs = [.ref p] ∧ (SqL K H p ys ∨ SqT K H p ys) ∧ Q (.int ys.length) H
abbrev rListOf (K : PySem.W.Frag) : List V → Hp → VK → Prop := fun xs H Q => ∃ p ys, xs = [.ref p] ∧ (SqL K H p ys ∨ SqT K H p ys) ∧ ∀ l, H l = none → Q (.ref l) (upd H l (.lst ys))
abbrev rTupOf (K : PySem.W.Frag) : List V → Hp → VK → Prop := fun xs H Q => ∃ p ys, xs = [.ref p] ∧ ((SqL K H p ys ∧ ∀ l, H l = none → Q (.ref l) (upd H l (.tup ys))) ∨ (SqT K H p ys ∧ Q (.ref p) H))
theorem call_len_seqK (hK : X.K = K := by rfl) : CallR X (.builtin "len") (rLen K) := hK ▸ call_len_seq
theorem call_list_ofK (hK : X.K = K := by rfl) : CallR X (.type "list") (rListOf K) := hK ▸ call_list_of
theorem call_tuple_ofK (hK : X.K = K := by rfl) : CallR X (.type "tuple") (rTupOf K) := hK ▸ call_tuple_of
theorem cr_sumK (hc : X.calm = true) (hK : X.K = K := by rfl) : CallR X (.builtin "sum") (rSum K) := hK ▸ cr_sum hc
theorem cr_maxK (hc : X.calm = true) (hK : X.K = K := by rfl) : CallR X (.builtin "max") (rMax K) := hK ▸ cr_max hc
theorem cr_allK (hc : X.calm = true) (hK : X.K = K := by rfl) : CallR X (.builtin "all") (rAll K) := hK ▸ cr_all hc
theorem cr_sortedIK (hK : X.K = K := by rfl) : CallR X (.builtin "sorted") (rSortedI K) := hK ▸ cr_sortedI
theorem sl_listK (hK : X.K = K := by rfl) : SlR X (rSlL K) := hK ▸ sl_list
theorem sl_tupK (hK : X.K = K := by rfl) : SlR X (rSlT K) := hK ▸ sl_tup
theorem pg_tupK {es : List Expr} {k : Nat} {t : TGs} {n : Nat} (hc : X.calm = true) (hK : X.K = K) (h : PGs X es t)
    (hn : (assignEach es X.env).length = n := by rfl) (hst : (assignEach es X.env).findIdx? (·.1) = none := by rfl) : PG X (.Tuple es k pos) (gTup K n t) := hK ▸ pg_tup hc h hn hst
theorem pi_listK (he : PE X e te) (hK : X.K = K := by rfl) : PI X tg e (iList K te) := hK ▸ pi_list he
theorem pi_tupK (he : PE X e te) (hK : X.K = K := by rfl) : PI X tg e (iTup K te) := hK ▸ pi_tup he
theorem pi_zipK (hg : Gl X "zip") (hm : X.mg "zip" = none) (ha : PA X [e, e2] ta) (hK : X.K = K := by rfl)
    (hs : starEach [e, e2] X.env = (false, eval e X.env) :: starEach [e2] X.env := by rfl) (hpl : (backTo pos (starEach [e2] X.env)).any (·.1) = false := by rfl) :
    PI X (.Tuple elts kk tpos) (.Call (.Name "zip" p) [e, e2] [] pos) (iZip K ta) := hK ▸ pi_zip hg hm ha hs hpl
theorem pi_enumK (hg : Gl X "enumerate") (hm : X.mg "enumerate" = none) (ha : PA X [e] ta) (hK : X.K = K := by rfl) (hs : starEach [e] X.env = [(false, eval e X.env)] := by rfl) :
    PI X (.Tuple elts kk tpos) (.Call (.Name "enumerate" p) [e] [] pos) (iEnum K ta) := hK ▸ pi_enum hg hm ha hs
theorem pi_reversedK (hg : Gl X "reversed") (hm : X.mg "reversed" = none) (ha : PA X [e] ta) (hK : X.K = K := by rfl) (hs : starEach [e] X.env = [(false, eval e X.env)] := by rfl) : PI X tg (.Call (.Name "reversed" p) [e] [] pos) (iRev K ta) := hK ▸ pi_reversed hg hm ha hs
theorem pt_truthK (ha : PE X e te) (he : ∀ whole, isTrue e X.env whole = (do let v ← whole; standAt e.pos; holding [v] (truthy v))) (hK : X.K = K := by rfl) :
    PT X e (fun σ H Q => te σ H fun x H' => ∃ k, TruV K x H' k ∧ Q k H') := hK ▸ pt_truth ha he
theorem pe_fldK {f : Str} (he : PE X e te) (hb : attributeBase e f X.env (eval e X.env) = eval e X.env) (hK : X.K = K := by rfl) : PE X (.Attribute e f pos) (tFld K te f) := hK ▸ pe_fld he hb
end
theorem fm_succ (f : Nat → Option V) (i : Nat) : (List.range (i + 1)).filterMap f = (List.range i).filterMap f ++ (f i).toList := by
  rw [List.range_succ, List.filterMap_append]
  cases h : f i <;> simp [h]
theorem fm_len (f : Nat → Option V) (i : Nat) : ((List.range i).filterMap f).length ≤ i := by
  have := List.length_filterMap_le f (List.range i)
  simpa using this
theorem fm_list {α : Type} (xs : List α) (g : α → Option V) : (List.range xs.length).filterMap (fun i => (xs[i]?).bind g) = xs.filterMap g := by
  have : ∀ n, n ≤ xs.length → (List.range n).filterMap (fun i => (xs[i]?).bind g) = (xs.take n).filterMap g := by
    intro n
    induction n with
    | zero => intro _; simp
    | succ n ih =>
      intro hn
      have hl : n < xs.length := by omega
      rw [fm_succ, ih (by omega), List.take_succ, List.filterMap_append, List.getElem?_eq_getElem hl]
      cases h : g xs[n] <;> simp [h]
  have h := this xs.length (Nat.le_refl _)
  rwa [List.take_length] at h
section
variable {K : PySem.W.Frag} {M : Mw} {J : It} {n : Nat} {G : Hp → Prop} {Y : Nat → Hp → V → Hp → Prop} {g : TG} {tt : TT} {te : TE} {vs : List Nat} {σ : L2.St} {H1 : Hp} {D : Addr} {Qd : Hp → Prop}
abbrev LcGoal (J : It) (g : TG) (tt : TT) (te : TE) (vs : List Nat) (σ : L2.St) (H1 : Hp) (D : Addr) (Qd : Hp → Prop) : Prop :=
  ∃ W : Nat → Nat → Hp → Prop, (∃ m, W 0 m (upd H1 D (.lst []))) ∧ ∀ i m H, W i m H →
      (J.stop i H ∧ Qd H) ∨ (J.go i H ∧ ∃ Nx : Hp → Prop, (∀ H', Nx H' → ∃ m', m' < m ∧ W (i + 1) m' H') ∧ ∀ x H', J.yld i H x H' → g x (wipe σ vs) H' fun σ2 H2 => wipe σ2 vs = wipe σ vs ∧ tt σ2 H2 fun b H3 =>
        if b = true then te σ2 H3 fun y H4 => ∃ acc, H4 D = some (.lst acc) ∧ acc.length < sizeLine ∧ Nx (upd H4 D (.lst (acc ++ [y]))) else Nx H3)
/-- one turn: the item's value, or none; the rest of the heap stays -/
abbrev LcTurn (M : Mw) (g : TG) (tt : TT) (te : TE) (vs : List Nat) (σ : L2.St) (H : Hp) (x : V) (H' : Hp) (r : Option V) : Prop :=
  ∀ (B : V → Hp → Prop) (C : Hp → Prop), (∀ H4 y, Go M H H4 → r = some y → B y H4) → (∀ H3, Go M H H3 → r = none → C H3) →
    g x (wipe σ vs) H' fun σ2 H2 => wipe σ2 vs = wipe σ vs ∧ tt σ2 H2 fun b H3 => if b = true then te σ2 H3 fun y H4 => B y H4 else C H3
theorem lcW (w : Walk J n G Y) (mk : Mok M H1) (nD : H1 D = none) (f : Nat → Option V) (hn : n ≤ 10000) (hG : ∀ H, Go M H1 H → G H)
    (hs : ∀ i x H H', i < n → Go M H1 H → Y i H x H' → LcTurn M g tt te vs σ H x H' (f i))
    (hd : ∀ H, Go M H1 H → H D = some (.lst ((List.range n).filterMap f)) → Qd H) : LcGoal J g tt te vs σ H1 D Qd := by
  refine lc_it w (fun i H => Go M H1 H ∧ H D = some (.lst ((List.range i).filterMap f))) ⟨(Go.refl mk).new nD, upd_same⟩ (fun i H _ h => hG H h.1) (fun i x H H' hi ⟨g1, hD⟩ y => ?_) (fun H h => hd H h.1 h.2)
  refine hs i x H H' hi g1 y (fun y H4 => ∃ acc, H4 D = some (.lst acc) ∧ acc.length < sizeLine ∧ (Go M H1 (upd H4 D (.lst (acc ++ [y]))) ∧ (upd H4 D (.lst (acc ++ [y]))) D = some (.lst ((List.range (i + 1)).filterMap f)))) _ (fun H4 y g4 hr => ⟨_, g4.at hD, ?_, (g1.trans g4).set nD (g4.at hD), ?_⟩) (fun H3 g3 hr => ⟨g1.trans g3, ?_⟩)
  · exact szl (Nat.le_trans (fm_len f i) (by omega))
  · rw [upd_same, fm_succ, hr]; rfl
  · rw [fm_succ, hr]; simpa using g3.at hD
/-- over a list or a tuple of whole numbers -/
theorem lcL {a : Addr} {l : List Nat} (hS : SqL K H1 a (nV l)) (mk : Mok M H1) (nD : H1 D = none) (f : Nat → Option V) (hn : l.length ≤ 10000)
    (hs : ∀ (i e : Nat) (H : Hp), l[i]? = some e → Go M H1 H → LcTurn M g tt te vs σ H (.int (e : Nat)) H (f e))
    (hd : ∀ H, Go M H1 H → H D = some (.lst (l.filterMap f)) → Qd H) : LcGoal (Itl K a) g tt te vs σ H1 D Qd := by
  refine lcW (walk_list (xs := nV l)) mk nD (fun i => (l[i]?).bind f) (by rw [nV_len]; exact hn) (fun H g => g.l hS) (fun i x H H' hi g y => ?_) (fun H g h => ?_)
  · obtain ⟨rfl, e⟩ := y
    obtain ⟨e', h1, rfl⟩ := nV_at e
    rw [h1]
    exact hs i e' H' h1 g
  · rw [nV_len, fm_list] at h
    exact hd H g h
theorem lcT {a : Addr} {l : List Nat} (hS : SqT K H1 a (nV l)) (mk : Mok M H1) (nD : H1 D = none) (f : Nat → Option V) (hn : l.length ≤ 10000)
    (hs : ∀ (i e : Nat) (H : Hp), l[i]? = some e → Go M H1 H → LcTurn M g tt te vs σ H (.int (e : Nat)) H (f e))
    (hd : ∀ H, Go M H1 H → H D = some (.lst (l.filterMap f)) → Qd H) : LcGoal (Itt K a) g tt te vs σ H1 D Qd := by
  refine lcW (walk_tup (xs := nV l)) mk nD (fun i => (l[i]?).bind f) (by rw [nV_len]; exact hn) (fun H g => g.t hS) (fun i x H H' hi g y => ?_) (fun H g h => ?_)
  · obtain ⟨rfl, e⟩ := y
    obtain ⟨e', h1, rfl⟩ := nV_at e
    rw [h1]
    exact hs i e' H' h1 g
  · rw [nV_len, fm_list] at h
    exact hd H g h
theorem lcR {n : Nat} (mk : Mok M H1) (nD : H1 D = none) (f : Nat → Option V) (hn : n ≤ 10000)
    (hs : ∀ i H, i < n → Go M H1 H → LcTurn M g tt te vs σ H (.int (i : Nat)) H (f i))
    (hd : ∀ H, Go M H1 H → H D = some (.lst ((List.range n).filterMap f)) → Qd H) : LcGoal (Itr 0 n) g tt te vs σ H1 D Qd := by
  refine lcW (walk_range (lo := 0) (n := n)) mk nD f hn (fun H g => trivial) (fun i x H H' hi g y => ?_) hd
  obtain ⟨rfl, rfl⟩ := y
  show LcTurn _ _ _ _ _ _ _ (V.int (0 + (i : Nat))) _ _
  rw [Int.zero_add]
  exact hs i H' hi g
/-- over zip of two lists of whole numbers -/
theorem lcZ {a b : Addr} {l m : List Nat} (hl : l.length = m.length) (hS : SqL K H1 a (nV l)) (hS2 : SqL K H1 b (nV m)) (mk : Mok M H1) (nD : H1 D = none) (f : Nat → Option V) (hn : l.length ≤ 10000)
    (hs : ∀ (i e e' : Nat) (H : Hp) (T : Addr), l[i]? = some e → m[i]? = some e' → Go M H1 H → H T = none → Go M H (upd H T (.tup [.int (e : Nat), .int (e' : Nat)])) → LcTurn M g tt te vs σ H (.ref T) (upd H T (.tup [.int (e : Nat), .int (e' : Nat)])) (f i))
    (hd : ∀ H, Go M H1 H → H D = some (.lst ((List.range l.length).filterMap f)) → Qd H) : LcGoal (Itz K a b) g tt te vs σ H1 D Qd := by
  refine lcW (walk_zip (xs := nV l) (ys := nV m) (n := l.length) (by simp [hl])) mk nD f hn (fun H g => ⟨g.l hS, g.l hS2⟩) (fun i x H H' hi g y => ?_) hd
  obtain ⟨T, u, v, rfl, nT, rfl, e1, e2⟩ := y
  obtain ⟨e, h1, rfl⟩ := nV_at e1
  obtain ⟨e', h2, rfl⟩ := nV_at e2
  exact hs i e e' H T h1 h2 g nT ((Go.refl g.b).new nT)
/-- over enumerate of a list of whole numbers -/
theorem lcE {a : Addr} {l : List Nat} (hS : SqL K H1 a (nV l)) (mk : Mok M H1) (nD : H1 D = none) (f : Nat → Option V) (hn : l.length ≤ 10000)
    (hs : ∀ (i e : Nat) (H : Hp) (T : Addr), l[i]? = some e → Go M H1 H → H T = none → Go M H (upd H T (.tup [.int (i : Nat), .int (e : Nat)])) → LcTurn M g tt te vs σ H (.ref T) (upd H T (.tup [.int (i : Nat), .int (e : Nat)])) (f i))
    (hd : ∀ H, Go M H1 H → H D = some (.lst ((List.range l.length).filterMap f)) → Qd H) : LcGoal (Ite K a) g tt te vs σ H1 D Qd := by
  refine lcW (n := l.length) (by rw [← nV_len l]; exact walk_enum (xs := nV l)) mk nD f hn (fun H g => g.l hS) (fun i x H H' hi g y => ?_) hd
  obtain ⟨T, u, v, rfl, nT, rfl, e1, e2⟩ := y
  cases e1
  obtain ⟨e, h1, rfl⟩ := nV_at e2
  exact hs i e H T h1 g nT ((Go.refl g.b).new nT)
end
theorem fm_map (l : List Nat) (h : Nat → Nat) : l.filterMap (fun e => some (V.int (h e : Nat))) = nV (l.map h) := by
  induction l with
  | nil => rfl
  | cons x r ih => simp [ih]
theorem fm_filter (l : List Nat) (p : Nat → Bool) : l.filterMap (fun e => if p e = true then some (V.int (e : Nat)) else none) = nV (l.filter p) := by
  induction l with
  | nil => rfl
  | cons x r ih => cases h : p x <;> simp [h, ih]
theorem fm_both (l : List Nat) (p : Nat → Bool) (h : Nat → Nat) : l.filterMap (fun e => if p e = true then some (V.int (h e : Nat)) else none) = nV ((l.filter p).map h) := by
  induction l with
  | nil => rfl
  | cons x r ih => cases h : p x <;> simp [h, ih]
/-- the turns of a generator expression -/
theorem gW {J : It} {n : Nat} {G : Hp → Prop} {Y : Nat → Hp → V → Hp → Prop} {ρ : Type} {R : ρ → Nat → V → Hp → Prop} (w : Walk J n G Y) (W : ρ → Nat → Hp → Prop) (hG : ∀ r i H, W r i H → G H) (hs : ∀ r i x H H', i < n → W r i H → Y i H x H' → R r i x H') :
    ∀ (r : ρ) (i : Nat) (H : Hp), i ≤ n → W r i H → (i = n ∧ J.stop i H) ∨ (i < n ∧ J.go i H ∧ ∀ x H', J.yld i H x H' → R r i x H') := fun r i H hi hW => by
  by_cases h : i < n
  · exact .inr ⟨h, w.goes i H h (hG r i H hW), fun x H' y => hs r i x H H' h hW (w.yields i H x H' h (hG r i H hW) y)⟩
  · have e : i = n := by omega
    subst e
    exact .inl ⟨rfl, w.stops H (hG r _ H hW)⟩
theorem spanL_snoc {σ α : Type} {add : σ → α → σ} {vec : Nat → α} {s : σ} {xs : List Nat} {e : Nat} : Bst.spanL add vec s (xs ++ [e]) = add (Bst.spanL add vec s xs) (vec e) := by
  unfold Bst.spanL; rw [List.foldl_append]; rfl
theorem rkL_snoc {σ α : Type} {add : σ → α → σ} {inn : σ → α → Bool} {vec : Nat → α} {e : Nat} : ∀ {xs : List Nat} {s : σ}, Bst.rkL add inn vec s (xs ++ [e]) = Bst.rkL add inn vec s xs + (if inn (Bst.spanL add vec s xs) (vec e) = true then 0 else 1)
  | [], s => by show (if inn s (vec e) = true then 0 else 1) + 0 = 0 + (if inn s (vec e) = true then 0 else 1); omega
  | x :: xs, s => by
    show (if inn s (vec x) = true then 0 else 1) + Bst.rkL add inn vec (add s (vec x)) (xs ++ [e]) = (if inn s (vec x) = true then 0 else 1) + Bst.rkL add inn vec (add s (vec x)) xs + _
    rw [rkL_snoc (xs := xs)]
    show _ = _ + (if inn (Bst.spanL add vec (add s (vec x)) xs) (vec e) = true then 0 else 1)
    omega
theorem tk_snoc {α : Type} {l : List α} {i : Nat} {e : α} (h : l[i]? = some e) : l.take (i + 1) = l.take i ++ [e] := by rw [List.take_succ, h]; rfl
theorem nodup_len {α : Type} [DecidableEq α] : ∀ {xs ys : List α}, xs.Nodup → (∀ x ∈ xs, x ∈ ys) → xs.length ≤ ys.length
  | [], _, _, _ => Nat.zero_le _
  | x :: xs, ys, hn, h => by
    obtain ⟨h1, h2⟩ := List.nodup_cons.mp hn
    have hx := h x (by simp)
    have := nodup_len (xs := xs) (ys := ys.erase x) h2 fun y hy => (List.mem_erase_of_ne (fun e => h1 (by rw [← e]; exact hy))).mpr (h y (by simp [hy]))
    rw [List.length_erase_of_mem hx] at this
    have hpos := List.length_pos_of_mem hx
    rw [List.length_cons]
    omega
theorem putK_keys {κ : Type} [DecidableEq κ] {kvs : List (κ × V)} {k : κ} {v : V} (hn : (kvs.map (·.1)).Nodup) : ((putK kvs k v).map (·.1)).Nodup ∧ ∀ j, j ∈ (putK kvs k v).map (·.1) → j = k ∨ j ∈ kvs.map (·.1) := by
  unfold putK
  split
  · have e : (kvs.map (fun kv => if kv.1 = k then (kv.1, v) else kv)).map (·.1) = kvs.map (·.1) := by
      rw [List.map_map]
      refine List.map_congr_left fun x _ => ?_
      show (if x.1 = k then (x.1, v) else x).1 = x.1
      split <;> rfl
    rw [e]
    exact ⟨hn, fun j h => .inr h⟩
  · rename_i h
    have hk : k ∉ kvs.map (·.1) := fun z => h (by
      obtain ⟨x, hx, e⟩ := List.mem_map.mp z
      exact List.any_eq_true.mpr ⟨x, hx, decide_eq_true e⟩)
    rw [List.map_append]
    refine ⟨List.nodup_append.mpr ⟨hn, by simp, fun a ha b hb => ?_⟩, fun j hj => ?_⟩
    · have : b = k := by simpa using hb
      exact fun e => hk (by rw [← this, ← e]; exact ha)
    · rcases List.mem_append.mp hj with h1 | h1
      · exact .inr h1
      · exact .inl (by simpa using h1)
/-! ### a heap without one object -/
def hid (H : Hp) (p : Addr) : Hp := fun a => if a = p then none else H a
theorem hid_upd {H : Hp} {p : Addr} {o : HO} : hid (upd H p o) p = hid H p := by
  funext a; unfold hid upd; by_cases h : a = p <;> simp [h]
theorem hid_at {H : Hp} {p x : Addr} (h : x ≠ p) : hid H p x = H x := by unfold hid; rw [if_neg h]
theorem hid_some {H : Hp} {p x : Addr} {o : HO} (h : hid H p x = some o) : x ≠ p ∧ H x = some o := by
  unfold hid at h
  by_cases e : x = p
  · rw [if_pos e] at h; cases h
  · rw [if_neg e] at h; exact ⟨e, h⟩
section
variable {K : PySem.W.Frag} {M : Mw} {H H' : Hp} {p x : Addr} {xs : List V}
theorem hid_t (h : SqT K (hid H p) x xs) : SqT K H x xs := by
  rcases h with (h | ⟨o, h⟩) | h
  · exact .inl (.inl (hid_some h).2)
  · exact .inl (.inr ⟨o, (hid_some h).2⟩)
  · exact .inr h
theorem hid_l (h : SqL K (hid H p) x xs) : SqL K H x xs := by
  rcases h with (h | ⟨o, h⟩) | h
  · exact .inl (.inl (hid_some h).2)
  · exact .inl (.inr ⟨o, (hid_some h).2⟩)
  · exact .inr h
theorem hid_goT (g : Go M H H') (h : SqT K (hid H p) x xs) : SqT K (hid H' p) x xs := by
  rcases h with (h | ⟨o, h⟩) | h
  · exact .inl (.inl ((hid_at (hid_some h).1).trans (g.at (hid_some h).2)))
  · exact .inl (.inr ⟨o, (hid_at (hid_some h).1).trans (g.at (hid_some h).2)⟩)
  · exact .inr h
theorem hid_goL (g : Go M H H') (h : SqL K (hid H p) x xs) : SqL K (hid H' p) x xs := by
  rcases h with (h | ⟨o, h⟩) | h
  · exact .inl (.inl ((hid_at (hid_some h).1).trans (g.at (hid_some h).2)))
  · exact .inl (.inr ⟨o, (hid_at (hid_some h).1).trans (g.at (hid_some h).2)⟩)
  · exact .inr h
theorem hid_l0 (h : SqL K H x xs) (hp : H p = none) : SqL K (hid H p) x xs := by
  rcases h with (h | ⟨o, h⟩) | h
  · exact .inl (.inl ((hid_at (ne_of_none h hp)).trans h))
  · exact .inl (.inr ⟨o, (hid_at (ne_of_none h hp)).trans h⟩)
  · exact .inr h
end
end Bw

set_option Elab.async false
set_option linter.all false
set_option maxRecDepth 100000
set_option maxHeartbeats 2000000
namespace Bw
open PySem PySem.Spec PyProof.Rows L2
section
variable {P : Program} {w : World} {K : PySem.W.Frag} {mg : Str → Option Value} {base : Heap}
def gEdge (es : List (Nat × Nat)) (e : Nat) : Nat × Nat := es.getD e (0, 0)
def spGraph (K : PySem.W.Frag) : Sp := fun vs H Q _ => ∃ (M : Mw) (L a : Addr) (nv : Nat) (es : List (Nat × Nat)) (l : List Nat), vs = [.ref L, .ref a] ∧ Mok M H ∧ LineAt K H L (.graph nv es) ∧ SqT K H a (nV l) ∧
  (∀ e ∈ l, e < es.length) ∧ (∀ e ∈ es, e.1 < nv ∧ e.2 < nv) ∧ nv ≤ 1000 ∧ l.length ≤ 1000 ∧ ∀ H', Go M H H' → Q (.int (Bst.rkL Bst.gAdd Bst.gIn (gEdge es) id l : Nat)) H'
theorem ok_graph_rank {f : Addr} {fd : FuncData} {k : Nat} (T : Bn mg) (F : Fun K "graph_rank" "graph_rank" s_graph_rank f fd) : FnOk P w K mg base CX0 (k + 1) f fd ["line", "members"] (spGraph K) := by
  refine F.ok sc_graph_rank (fun vs H Q E h => ?_) (fun cdv A outer s H vs Q E hr h => ?_)
  · obtain ⟨M, L, a, nv, es, l, rfl, _⟩ := h
    rfl
  · obtain ⟨M, L, a, nv, es, l, rfl, mk, hL, hA, hl, he, hv, hl2, q⟩ := h
    -- 0 line, 1 members, 2 roots, 3 rank, 4 element, 5 one, 6 two, 7 old, 8 new, 9 root
    refine ⟨_, (pss_cons (ps_set (i := 2) sc_graph_rank.nd rfl (.inl rfl) (pe_listRg rfl (by rfl) T.m_list (prg_1 (by rfl) T.m_range (pe_ix (ix_tupK (K := K)) (pv 0) pe_int (fun _ _ => rfl)))))
      (pss_cons (ps_set (i := 3) sc_graph_rank.nd rfl (.inl rfl) pe_int)
      (pss_cons (ps_for PassesOwn.never rfl (pi_tupK (K := K) (pv 1)) (pg_name (i := 4) sc_graph_rank.nd rfl (.inl rfl)) (pss_cons (ps_asg (pe_ix (ix_tupK (K := K)) (pe_ix (ix_tupK (K := K)) (pv 0) pe_int (fun _ _ => rfl)) (pv 4) (fun _ _ => rfl)) (pg_tupK (K := K) (n := 2) rfl rfl (pgs_cons (pg_name (i := 5) sc_graph_rank.nd rfl (.inl rfl)) (pgs_cons (pg_name (i := 6) sc_graph_rank.nd rfl (.inl rfl)) pgs_nil))))
      (pss_one (ps_if (pt_cmpR op_ne (pe_ix (ix_listK (K := K)) (pv 2) (pv 5) (fun _ _ => rfl)) (pe_ix (ix_listK (K := K)) (pv 2) (pv 6) (fun _ _ => rfl)) (nomark _)) (pss_cons (ps_aug (i := 3) sc_graph_rank.nd rfl (.inl rfl) pe_int ip_add)
      (pss_cons (ps_set (i := 7) sc_graph_rank.nd rfl (.inr rfl) (pe_ix (ix_listK (K := K)) (pv 2) (pv 5) (fun _ _ => rfl)))
      (pss_cons (ps_set (i := 8) sc_graph_rank.nd rfl (.inr rfl) (pe_ix (ix_listK (K := K)) (pv 2) (pv 6) (fun _ _ => rfl)))
      (pss_one (ps_setLc (i := 2) (own := [("root", 9)]) (by rfl) sc_graph_rank.nd rfl rfl (sw_true rfl rfl rfl (by decide +kernel)) (pi_listK (K := K) (pv 2)) (blkOk_by (by rfl)) (fun _ _ _ _ _ => (pg_name (i := 9) sc_graph_rank.nd rfl (.inl rfl))) (fun _ _ _ _ _ => pts_nil) (fun _ _ _ _ _ => (pe_ifExp (pt_cmpR op_eq (pv 9) (pv 7) (nomark _)) (pv 8) (pv 9)))))))) pss_nil))))
      (pss_one (ps_ret (pv 3)))))), ?_⟩
    obtain ⟨v, sL, ae, ve, rfl, sE, aE⟩ := hL
    have hvi : ∀ e ∈ l, (gEdge es e).1 < nv ∧ (gEdge es e).2 < nv := fun e h => by
      have : gEdge es e = es[e]'(hl e h) := by unfold gEdge; rw [List.getD_eq_getElem?_getD, List.getElem?_eq_getElem (hl e h)]; rfl
      rw [this]
      exact he _ (List.getElem_mem _)
    -- roots = list(range(line[1]))
    refine ⟨.ref L, rfl, L, _, 1, .int (nv : Nat), rfl, rfl, sL, atI_nat (j := 1) rfl, nv, rfl, RgOk.of_le (by decide) (by omega) (by decide) (by omega), fun r nr => ?_⟩
    rw [nV_range]
    have g1 := (Go.refl mk).new (o := .lst (nV (List.range nv))) nr
    -- the loop
    refine ⟨.ref a, rfl, a, rfl, ⟨_, g1.t hA⟩, for_it walk_tup (G := fun H' => SqT K H' a (nV l)) (fun i σ H' => Go M H H' ∧ ∃ (r : Addr) (s : Nat → Nat) (n : Nat) (x4 x5 x6 x7 x8 : Option V), σ = [some (.ref L), some (.ref a), some (.ref r), some (.int (n : Nat)), x4, x5, x6, x7, x8, none] ∧ n = Bst.rkL Bst.gAdd Bst.gIn (gEdge es) id (l.take i) ∧ s = Bst.spanL Bst.gAdd (gEdge es) id (l.take i) ∧ (∀ u, u < nv → s u < nv) ∧ H' r = some (.lst (nV ((List.range nv).map s)))) ?_ ?_ ?_ ?_⟩
    · exact ⟨g1, r, id, 0, none, none, none, none, none, rfl, rfl, rfl, fun u h => h, by rw [upd_same, List.map_id]⟩
    · exact fun i σ H' _ h => h.1.t hA
    · rintro i x σ H1 H1' hi ⟨g, r, s, n, x4, x5, x6, x7, x8, rfl, en, es', hs, hr⟩ ⟨rfl, ex⟩
      obtain ⟨e, ee, rfl⟩ := nV_at ex
      have hel : e ∈ l := List.mem_of_getElem? ee
      have hlt := hl e hel
      obtain ⟨_, ep, pp, rfl, sp⟩ := (aE.mono fun _ _ => TI.go g).at (i := e) (b := [(gEdge es e).1, (gEdge es e).2]) (by
        rw [List.getElem?_map, List.getElem?_eq_getElem hlt]
        unfold gEdge; rw [List.getD_eq_getElem?_getD, List.getElem?_eq_getElem hlt]; rfl)
      have ge := hvi e hel
      generalize hpq : gEdge es e = pq at ge sp ep
      obtain ⟨c, d⟩ := pq
      have at1 : ∀ u, u < nv → (nV ((List.range nv).map s))[u]? = some (.int (s u : Nat)) := fun u hu => by
        rw [List.getElem?_map, List.getElem?_map, List.getElem?_range hu]; rfl
      have eS : Bst.spanL Bst.gAdd (gEdge es) id (l.take (i + 1)) = Bst.gAdd s (c, d) := by
        rw [tk_snoc ee, spanL_snoc, hpq, es']
      have eR : Bst.rkL Bst.gAdd Bst.gIn (gEdge es) id (l.take (i + 1)) = Bst.rkL Bst.gAdd Bst.gIn (gEdge es) id (l.take i) + (if s c = s d then 0 else 1) := by
        rw [tk_snoc ee, rkL_snoc, hpq, ← es']
        unfold Bst.gIn
        by_cases h : s c = s d <;> simp [h]
      -- one, two = line[2][element]
      refine ⟨.ref L, rfl, L, _, 2, _, rfl, rfl, g.t sL, atI_nat (j := 2) rfl, .int (e : Nat), rfl, ae, _, e, _, rfl, rfl, g.t sE, atI_nat ep, pp, _, rfl, sp, rfl, _, _, rfl, _, _, rfl, rfl, ?_⟩
      refine ⟨.ref r, rfl, .int (c : Nat), rfl, r, _, _, _, rfl, rfl, SqL.of hr, atI_nat (at1 c ge.1), .ref r, rfl, .int (d : Nat), rfl, r, _, _, _, rfl, rfl, SqL.of hr, atI_nat (at1 d ge.2), rfl, _, rfl, ?_⟩
      by_cases hcd : s c = s d
      · rw [hcd, decide_eq_true rfl]
        refine iteF ⟨g, r, s, n, _, _, _, _, _, rfl, ?_, ?_, hs, hr⟩
        · rw [eR, if_pos hcd, en]; rfl
        · rw [eS]; unfold Bst.gAdd; rw [if_pos hcd]
      · rw [decide_eq_false (fun h => hcd (by have := V.int.inj h; omega))]
        refine iteT ⟨_, rfl, _, _, rfl, rfl, .ref r, rfl, .int (c : Nat), rfl, r, _, _, _, rfl, rfl, SqL.of hr, atI_nat (at1 c ge.1), .ref r, rfl, .int (d : Nat), rfl, r, _, _, _, rfl, rfl, SqL.of hr, atI_nat (at1 d ge.2), ?_⟩
        refine ⟨.ref r, rfl, r, rfl, ⟨_, SqL.of hr⟩, fun D nD => lcL (M := M) (SqL.of hr) g.b nD (fun u => some (.int ((if u = s c then s d else u : Nat) : Nat))) (by simp; omega) (fun j u H2 hj g2 B C kB kC => ?_) (fun H2 g2 hD => ?_)⟩
        · refine ⟨rfl, .int (u : Nat), rfl, .int (s c : Nat), rfl, rfl, _, rfl, ?_⟩
          by_cases hu : u = s c
          · rw [hu, decide_eq_true rfl]
            exact iteT ⟨.int (s d : Nat), rfl, kB _ _ (.refl g2.b) (by rw [if_pos hu])⟩
          · rw [decide_eq_false (fun h => hu (by have := V.int.inj h; omega))]
            exact iteF ⟨.int (u : Nat), rfl, kB _ _ (.refl g2.b) (by simp [hu])⟩
        · refine ⟨g.trans g2, D, Bst.gAdd s (c, d), n + 1, _, _, _, _, _, rfl, ?_, ?_, ?_, ?_⟩
          · rw [eR, if_neg hcd, en]
          · rw [eS]
          · intro u hu
            unfold Bst.gAdd
            rw [if_neg hcd]
            show (if s u = s c then s d else s u) < nv
            split
            · exact hs _ ge.2
            · exact hs _ hu
          · rw [hD, fm_map (h := fun u => if u = s c then s d else u), List.map_map]
            refine congrArg (fun z => some (HO.lst (nV z))) (List.map_congr_left fun u _ => ?_)
            unfold Bst.gAdd
            rw [if_neg hcd]
            rfl
    · rintro σ H1 ⟨g, r, s, n, x4, x5, x6, x7, x8, rfl, en, es', hs, hr⟩
      rw [nV_len, List.take_length] at en
      exact ⟨.int (n : Nat), rfl, en ▸ q H1 g⟩
end
end Bw

set_option Elab.async false
set_option linter.all false
set_option maxRecDepth 100000
set_option maxHeartbeats 2000000
namespace Bw
open PySem PySem.Spec PyProof.Rows L2
section
variable {P : Program} {w : World} {K : PySem.W.Frag} {mg : Str → Option Value} {base : Heap}
def spInverse : Sp := fun vs H Q _ => vs = [.int 1, .int 2] ∧ Q (.int 1) H
theorem ok_inverse {f : Addr} {fd : FuncData} {k : Nat} (T : Bn mg) (F : Fun K "inverse" "inverse" s_inverse f fd) : FnOk P w K mg base CX0 (k + 1) f fd ["number", "prime"] spInverse := by
  refine F.ok sc_inverse (fun vs H Q E h => ?_) (fun cdv A outer s H vs Q E hr h => ?_)
  · obtain ⟨rfl, _⟩ := h
    rfl
  · obtain ⟨rfl, q⟩ := h
    -- 0 number, 1 prime, 2 candidate
    refine ⟨_, (pss_cons (ps_for PassesOwn.never rfl (pi_range2 (by rfl) T.m_range (pa_cons pe_int (pa_cons (pv 1) pa_nil))) (pg_name (i := 2) sc_inverse.nd rfl (.inl rfl)) (pss_one (ps_if (pt_cmpR op_eq (pe_op op_mod (pe_op op_mul (pv 0) (pv 2)) (pv 1)) pe_int (nomark _)) (pss_one (ps_ret (pv 2))) pss_nil)))
      (pss_one (ps_ret pe_int))), ?_⟩
    refine ⟨.int 2, rfl, 1, 2, rfl, by decide, for_it walk_range (fun i σ H' => i = 0 ∧ σ = [some (.int 1), some (.int 2), none] ∧ H' = H) ⟨rfl, rfl, rfl⟩ (fun _ _ _ _ _ => trivial) ?_ ?_⟩
    · rintro i x σ H1 H2 hi ⟨rfl, rfl, rfl⟩ ⟨rfl, rfl⟩
      refine ⟨.int 1, rfl, .int 1, rfl, 1, 1, rfl, rfl, .inl (by decide), .int 2, rfl, _, _, rfl, rfl, by decide, rfl, _, rfl, iteT ⟨_, rfl, q⟩⟩
    · rintro σ H1 ⟨h, _⟩
      cases h
/-- a row of the elimination: a pair of its place and its entries -/
def RowAt (K : PySem.W.Frag) (H : Hp) (v : V) (c : Nat) : Prop := ∃ t a, v = .ref t ∧ SqT K H t [.int (Bst.piv c : Nat), .ref a] ∧ SqL K H a (nV (Bst.bits c))
theorem RowAt.go {M : Mw} {H H' : Hp} {v : V} {c : Nat} (g : Go M H H') (h : RowAt K H v c) : RowAt K H' v c := by
  obtain ⟨t, a, rfl, s1, s2⟩ := h
  exact ⟨t, a, rfl, g.t s1, g.l s2⟩
theorem RowAt.hid {H : Hp} {p : Addr} {v : V} {c : Nat} (h : RowAt K (hid H p) v c) : RowAt K H v c := by
  obtain ⟨t, a, rfl, s1, s2⟩ := h
  exact ⟨t, a, rfl, hid_t s1, hid_l s2⟩
theorem RowAt.hgo {M : Mw} {H H' : Hp} {p : Addr} {v : V} {c : Nat} (g : Go M H H') (h : RowAt K (Bw.hid H p) v c) : RowAt K (Bw.hid H' p) v c := by
  obtain ⟨t, a, rfl, s1, s2⟩ := h
  exact ⟨t, a, rfl, hid_goT g s1, hid_goL g s2⟩
theorem bits_at {c i : Nat} (hi : i < 3) : (Bst.bits c)[i]? = some ((Bst.bits c).getD i 0) := by
  rw [List.getD_eq_getElem?_getD, List.getElem?_eq_getElem (show i < (Bst.bits c).length from hi)]
  rfl
def spReduced (K : PySem.W.Frag) : Sp := fun vs H Q _ => ∃ (M : Mw) (a r : Addr) (c : Nat) (rows : List Nat) (rs : List V), vs = [.ref a, .ref r, .int 2] ∧ Mok M H ∧ SqT K H a (nV (Bst.bits c)) ∧ SqL K H r rs ∧ All2 (RowAt K H) rs rows ∧
  c < 8 ∧ (∀ b ∈ rows, b < 8) ∧ rows.length ≤ 100 ∧ ∀ H' p, Go M H H' → H p = none → H' p = some (.lst (nV (Bst.bits (Bst.red rows c)))) → Q (.ref p) H'
theorem ok_reduced {f : Addr} {fd : FuncData} {k : Nat} (T : Bn mg) (F : Fun K "reduced" "reduced" s_reduced f fd) : FnOk P w K mg base CX0 (k + 1) f fd ["vector", "rows", "prime"] (spReduced K) := by
  refine F.ok sc_reduced (fun vs H Q E h => ?_) (fun cdv A outer s H vs Q E hr h => ?_)
  · obtain ⟨M, a, r, c, rows, rs, rfl, _⟩ := h
    rfl
  · obtain ⟨M, a, r, c, rows, rs, rfl, mk, hA, hR, hAll, hc, hb, hlen, q⟩ := h
    -- 0 vector, 1 rows, 2 prime, 3 result, 4 place, 5 row, 6 factor, 7 one, 8 two
    refine ⟨_, (pss_cons (ps_set (i := 3) sc_reduced.nd rfl (.inl rfl) (pe_callTy (call_list_ofK (K := K)) (by rfl) T.m_list (by decide +kernel) (pa_cons (pv 0) pa_nil)))
      (pss_cons (ps_for PassesOwn.never rfl (pi_listK (K := K) (pv 1)) (pg_tupK (K := K) (n := 2) rfl rfl (pgs_cons (pg_name (i := 4) sc_reduced.nd rfl (.inl rfl)) (pgs_cons (pg_name (i := 5) sc_reduced.nd rfl (.inl rfl)) pgs_nil))) (pss_cons (ps_set (i := 6) sc_reduced.nd rfl (.inr rfl) (pe_ix (ix_listK (K := K)) (pv 3) (pv 4) (fun _ _ => rfl)))
      (pss_one (ps_setLc (i := 3) (own := [("one", 7), ("two", 8)]) (by rfl) sc_reduced.nd rfl rfl (sw_true rfl rfl rfl (by decide +kernel)) (pi_zipK (K := K) (by rfl) T.m_zip (pa_cons (pv 3) (pa_cons (pv 5) pa_nil))) (blkOk_by (by rfl)) (fun _ _ _ _ _ => (pg_tupK (K := K) (n := 2) rfl rfl (pgs_cons (pg_name (i := 7) sc_reduced.nd rfl (.inl rfl)) (pgs_cons (pg_name (i := 8) sc_reduced.nd rfl (.inl rfl)) pgs_nil)))) (fun _ _ _ _ _ => pts_nil) (fun _ _ _ _ _ => (pe_op op_mod (pe_op op_sub (pv 7) (pe_op op_mul (pv 6) (pv 8))) (pv 2)))))))
      (pss_one (ps_ret (pv 3))))), ?_⟩
    -- result = list(vector)
    refine ⟨.ref a, rfl, a, _, rfl, .inr hA, fun p np => ?_⟩
    have g1 := (Go.refl mk).new (o := .lst (nV (Bst.bits c))) np
    refine ⟨.ref r, rfl, r, rfl, ⟨_, g1.l hR⟩, for_it walk_list (G := fun H' => SqL K H' r rs) (fun i σ H' => Go M H H' ∧ ∃ (p : Addr) (d : Nat) (x4 x5 x6 : Option V), σ = [some (.ref a), some (.ref r), some (.int 2), some (.ref p), x4, x5, x6, none, none] ∧ d = Bst.red (rows.take i) c ∧ d < 8 ∧ H p = none ∧ H' p = some (.lst (nV (Bst.bits d)))) ?_ ?_ ?_ ?_⟩
    · exact ⟨g1, p, c, none, none, none, rfl, rfl, hc, np, upd_same⟩
    · exact fun i σ H' _ h => h.1.l hR
    · rintro i x σ H1 H1' hi ⟨g, p, d, x4, x5, x6, rfl, ed, hd, np, hp⟩ ⟨rfl, ex⟩
      obtain ⟨b, eb, t, la, rfl, s1, s2⟩ := (hAll.mono fun _ _ => RowAt.go g).ta ex
      have hb8 : b < 8 := hb b (List.mem_of_getElem? eb)
      refine ⟨t, _, rfl, s1, rfl, _, _, rfl, _, _, rfl, rfl, ?_⟩
      have hpv := Bst.piv_lt b
      refine ⟨.ref p, rfl, .int (Bst.piv b : Nat), rfl, p, _, _, _, rfl, rfl, SqL.of hp, atI_nat (nV_get (bits_at hpv)), ?_⟩
      refine ⟨.ref p, rfl, .ref la, rfl, p, la, _, _, rfl, SqL.of hp, s2, fun D nD => lcZ (M := M) (l := Bst.bits d) (m := Bst.bits b) rfl (SqL.of hp) s2 g.b nD (fun j => some (.int ((Bst.bits (Bst.red1 d b)).getD j 0 : Nat))) (by rw [Bst.bits_len]; decide) (fun j e e' H2 T' he he' g2 nT gT B C kB kC => ?_) (fun H2 g2 hD => ?_)⟩
      · have hj : j < 3 := by
          have := (List.getElem?_eq_some_iff.mp he).1
          exact this
        have e1 : e = (Bst.bits d).getD j 0 := Option.some.inj (he.symm.trans (bits_at hj))
        have e2 : e' = (Bst.bits b).getD j 0 := Option.some.inj (he'.symm.trans (bits_at hj))
        have key := Bst.bits_red2 d hd b hb8 j hj
        refine ⟨T', _, rfl, SqT.of upd_same, rfl, _, _, rfl, _, _, rfl, rfl, rfl, .int (e : Nat), rfl, .int ((Bst.bits d).getD (Bst.piv b) 0 : Nat), rfl, .int (e' : Nat), rfl, _, _, rfl, rfl, .inl ?_, _, _, rfl, rfl, .int 2, rfl, _, _, rfl, rfl, by (show (0 : Int) < 2; decide), kB _ _ gT ?_⟩
        · have : (Bst.bits d).getD (Bst.piv b) 0 < 2 := Bst.bits_le d _ (by rw [List.getD_eq_getElem?_getD, List.getElem?_eq_getElem (show Bst.piv b < (Bst.bits d).length from hpv)]; exact List.getElem_mem _)
          constructor <;> omega
        · rw [e1, e2]; exact congrArg (fun z => some (V.int z)) key.symm
      · have hres : (List.range 3).filterMap (fun j => some (V.int ((Bst.bits (Bst.red1 d b)).getD j 0 : Nat))) = nV (Bst.bits (Bst.red1 d b)) := rfl
        refine ⟨g.trans g2, D, Bst.red1 d b, _, _, _, rfl, ?_, Bst.red1_lt d hd b hb8, g.back nD, ?_⟩
        · rw [tk_snoc eb, ed]; unfold Bst.red; rw [List.foldl_append]; rfl
        · rw [hD]; exact congrArg (fun z => some (HO.lst z)) hres
    · rintro σ H1 ⟨g, p, d, x4, x5, x6, rfl, ed, hd, np, hp⟩
      rw [hAll.len, List.take_length] at ed
      exact ⟨.ref p, rfl, q H1 p g np (ed ▸ hp)⟩
def vCode (cs : List Nat) (e : Nat) : Nat := cs.getD e 0
def spVectors (K : PySem.W.Frag) : Sp := fun vs H Q _ => ∃ (M : Mw) (L a : Addr) (cs l : List Nat), vs = [.ref L, .ref a] ∧ Mok M H ∧ LineAt K H L (.vectors cs) ∧ SqT K H a (nV l) ∧
  (∀ e ∈ l, e < cs.length) ∧ (∀ c ∈ cs, c < 8) ∧ l.length ≤ 1000 ∧ ∀ H', Go M H H' → Q (.int (Bst.rkL Bst.vStep Bst.vIn (vCode cs) 1 l : Nat)) H'
theorem fm_places (d : Nat) : (List.range 3).filterMap (fun j => if ((Bst.bits d).getD j 0 != 0) = true then some (V.int (j : Nat)) else none) = nV ((List.range 3).filter fun i => (Bst.bits d).getD i 0 != 0) := fm_filter _ _
theorem ok_vectors_rank {f : Addr} {fd : FuncData} (T : Bn mg) (F : Fun K "vectors_rank" "vectors_rank" s_vectors_rank f fd) (D_reduced : Def K mg "reduced" s_reduced) (D_inverse : Def K mg "inverse" s_inverse)
    (G_reduced : FnOk P w K mg base CX0 1 D_reduced.f D_reduced.fd ["vector", "rows", "prime"] (spReduced K)) (G_inverse : FnOk P w K mg base CX0 1 D_inverse.f D_inverse.fd ["number", "prime"] spInverse) : FnOk P w K mg base CX0 2 f fd ["line", "members"] (spVectors K) := by
  refine F.ok sc_vectors_rank (fun vs H Q E h => ?_) (fun cdv A outer s H vs Q E hr h => ?_)
  · obtain ⟨M, L, a, cs, l, rfl, _⟩ := h
    rfl
  · obtain ⟨M, L, a, cs, l, rfl, mk, hL, hA, hl, hc, hl2, q⟩ := h
    -- 0 line, 1 members, 2 prime, 3 rows, 4 element, 5 rest, 6 places, 7 factor, 8 place, 9 entry
    refine ⟨_, (pss_cons (ps_set (i := 2) sc_vectors_rank.nd rfl (.inr rfl) (pe_ix (ix_tupK (K := K)) (pv 0) pe_int (fun _ _ => rfl)))
      (pss_cons (ps_set (i := 3) sc_vectors_rank.nd rfl (.inl rfl) (pe_lst pa_nil))
      (pss_cons (ps_for PassesOwn.never rfl (pi_tupK (K := K) (pv 1)) (pg_name (i := 4) sc_vectors_rank.nd rfl (.inl rfl)) (pss_cons (ps_set (i := 5) sc_vectors_rank.nd rfl (.inl rfl) (pe_call G_reduced (hr.mono (by first | decide | omega)) (by rfl) D_reduced.g D_reduced.F.kp (bd_reduced D_reduced.F) .nil pass0 (pa_cons (pe_ix (ix_tupK (K := K)) (pe_ix (ix_tupK (K := K)) (pv 0) pe_int (fun _ _ => rfl)) (pv 4) (fun _ _ => rfl)) (pa_cons (pv 3) (pa_cons (pv 2) pa_nil)))))
      (pss_cons (ps_setLc (i := 6) (own := [("place", 8), ("entry", 9)]) (by rfl) sc_vectors_rank.nd rfl rfl (sw_true rfl rfl rfl (by decide +kernel)) (pi_enumK (K := K) (by rfl) T.m_enumerate (pa_cons (pv 5) pa_nil)) (blkOk_by (by rfl)) (fun _ _ _ _ _ => (pg_tupK (K := K) (n := 2) rfl rfl (pgs_cons (pg_name (i := 8) sc_vectors_rank.nd rfl (.inl rfl)) (pgs_cons (pg_name (i := 9) sc_vectors_rank.nd rfl (.inl rfl)) pgs_nil)))) (fun _ _ _ _ _ => (pts_one (pt_cmpR op_ne (pv 9) pe_int (nomark _)))) (fun _ _ _ _ _ => (pv 8)))
      (pss_one (ps_if (pt_truthK (K := K) (pv 6) (by intro _; rfl)) (pss_cons (ps_set (i := 7) sc_vectors_rank.nd rfl (.inr rfl) (pe_call G_inverse (hr.mono (by first | decide | omega)) (by rfl) D_inverse.g D_inverse.F.kp (bd_inverse D_inverse.F) .nil pass0 (pa_cons (pe_ix (ix_listK (K := K)) (pv 5) (pe_ix (ix_listK (K := K)) (pv 6) pe_int (fun _ _ => rfl)) (fun _ _ => rfl)) (pa_cons (pv 2) pa_nil))))
      (pss_one (ps_expr (pe_bm PySem.F.plainAttrs_list PySem.F.slot_list_append PySem.F.type_list_append mt_append (pv 3) (pa_cons (pe_tup (pa_cons (pe_ix (ix_listK (K := K)) (pv 6) pe_int (fun _ _ => rfl)) (pa_cons (pe_lc (own := [("entry", 9)]) (by rfl) sc_vectors_rank.nd (pi_listK (K := K) (pv 5)) (blkOk_by (by rfl)) (fun _ _ _ _ _ => (pg_name (i := 9) sc_vectors_rank.nd rfl (.inl rfl))) (fun _ _ _ _ _ => pts_nil) (fun _ _ _ _ _ => (pe_op op_mod (pe_op op_mul (pv 9) (pv 7)) (pv 2)))) pa_nil))) pa_nil))))) pss_nil)))))
      (pss_one (ps_ret (pe_callB (call_len_seqK (K := K)) (by rfl) T.m_len PySem.boot_len (pa_cons (pv 3) pa_nil))))))), ?_⟩
    obtain ⟨v, sL, ae, ve, rfl, sE, aE⟩ := hL
    have hvc : ∀ e ∈ l, vCode cs e < 8 := fun e h => by
      unfold vCode; rw [List.getD_eq_getElem?_getD, List.getElem?_eq_getElem (hl e h)]; exact hc _ (List.getElem_mem _)
    -- prime = line[1]; rows = []
    refine ⟨.ref L, rfl, L, _, 1, .int 2, rfl, rfl, sL, atI_nat (j := 1) rfl, Nat.zero_le _, fun R nR => ?_⟩
    have g1 := (Go.refl mk).new (o := .lst []) nR
    refine ⟨.ref a, rfl, a, rfl, ⟨_, g1.t hA⟩, for_it walk_tup (G := fun H' => SqT K H' a (nV l)) (fun i σ H' => Go M H H' ∧ ∃ (rows : List Nat) (rs : List V) (x4 x5 x6 x7 : Option V), σ = [some (.ref L), some (.ref a), some (.int 2), some (.ref R), x4, x5, x6, x7, none, none] ∧
      rows = Bst.rowsL (vCode cs) [] (l.take i) ∧ Bst.RowsOk rows ∧ H' R = some (.lst rs) ∧ All2 (RowAt K (hid H' R)) rs rows) ?_ ?_ ?_ ?_⟩
    · exact ⟨g1, [], [], none, none, none, none, rfl, rfl, .nil, upd_same, .nil⟩
    · exact fun i σ H' _ h => h.1.t hA
    · rintro i x σ H1 H1' hi ⟨g, rows, rs, x4, x5, x6, x7, rfl, er, rok, hR, hAll⟩ ⟨rfl, ex⟩
      obtain ⟨e, ee, rfl⟩ := nV_at ex
      have hel : e ∈ l := List.mem_of_getElem? ee
      have hlt := hl e hel
      have hc8 := hvc e hel
      obtain ⟨_, ep, pp, rfl, sp⟩ := (aE.mono fun _ _ => TI.go g).at (i := e) (b := Bst.bits (vCode cs e)) (by
        rw [List.getElem?_map, List.getElem?_eq_getElem hlt]
        unfold vCode; rw [List.getD_eq_getElem?_getD, List.getElem?_eq_getElem hlt]; rfl)
      have eR : Bst.rowsL (vCode cs) [] (l.take (i + 1)) = Bst.addR rows (vCode cs e) := by
        rw [tk_snoc ee, er]; unfold Bst.rowsL; rw [List.foldl_append]; rfl
      generalize vCode cs e = c at hc8 sp eR
      have hred := rok.red hc8
      have hadd := (rok.add hc8).1
      -- rest = reduced(..)
      refine ⟨.ref L, rfl, L, _, 3, _, rfl, rfl, g.t sL, atI_nat (j := 3) rfl, .int (e : Nat), rfl, ae, _, e, _, rfl, rfl, g.t sE, atI_nat ep, .ref R, rfl, .int 2, rfl, M, pp, R, c, rows, rs, rfl, g.b, sp, SqL.of hR, hAll.mono fun _ _ => RowAt.hid, hc8,
        fun b hb => (Bst.okR_lt rok.ok b hb).2, Nat.le_trans rok.len (by decide), fun H2 D g2 nD hD => ?_⟩
      generalize hd : Bst.red rows c = d at hred hD
      have hR2 : H2 R = some (.lst rs) := g2.at hR
      have nRD : D ≠ R := fun z => by rw [z, hR] at nD; cases nD
      -- places
      refine ⟨.ref D, rfl, D, _, rfl, SqL.of hD, fun D2 nD2 => lcE (M := M) (l := Bst.bits d) (SqL.of hD) g2.b nD2 (fun j => if ((Bst.bits d).getD j 0 != 0) = true then some (.int (j : Nat)) else none) (by rw [Bst.bits_len]; decide) (fun j e' H3 T' he' g3 nT gT B C kB kC => ?_) (fun H3 g3 hD2 => ?_)⟩
      · have hj : j < 3 := (List.getElem?_eq_some_iff.mp he').1
        have e1 : e' = (Bst.bits d).getD j 0 := Option.some.inj (he'.symm.trans (bits_at hj))
        refine ⟨T', _, rfl, SqT.of upd_same, rfl, _, _, rfl, _, _, rfl, rfl, rfl, .int (e' : Nat), rfl, rfl, _, rfl, ?_⟩
        by_cases h0 : e' = 0
        · subst h0
          exact kC _ gT (by rw [← e1]; rfl)
        · rw [decide_eq_false (fun z => h0 (by have := V.int.inj z; omega))]
          exact iteT ⟨.int (j : Nat), rfl, kB _ _ gT (by rw [← e1]; simp [h0])⟩
      · rw [Bst.bits_len, fm_places] at hD2
        have g13 := g.trans (g2.trans g3)
        have hR3 : H3 R = some (.lst rs) := g3.at hR2
        have hD3 : H3 D = some (.lst (nV (Bst.bits d))) := g3.at hD
        have hAll3 : All2 (RowAt K (hid H3 R)) rs rows := hAll.mono fun _ _ => RowAt.hgo (g2.trans g3)
        refine ⟨.ref D2, rfl, _, .inl ⟨_, SqL.of hD2, rfl⟩, ?_⟩
        by_cases h0 : d = 0
        · rw [h0, Bst.bits_zero]
          refine iteF ⟨g13, rows, rs, _, _, _, _, rfl, ?_, rok, hR3, hAll3⟩
          rw [eR]; unfold Bst.addR; rw [hd, if_pos h0]
        · obtain ⟨ep1, ep2⟩ := Bst.bits_piv d hred.1 h0
          rw [ep1] at hD2 ⊢
          refine iteT ?_
          have hpv := Bst.piv_lt d
          have at0 : (nV (Bst.piv d :: ((List.range 3).filter (fun i => (Bst.bits d).getD i 0 != 0)).tail))[0]? = some (.int (Bst.piv d : Nat)) := rfl
          have at1 : (nV (Bst.bits d))[Bst.piv d]? = some (.int 1) := by rw [nV_get (bits_at hpv), ep2]; rfl
          refine ⟨.ref D, rfl, .ref D2, rfl, D2, _, 0, _, rfl, rfl, SqL.of hD2, atI_nat (j := 0) at0, D, _, _, _, rfl, rfl, SqL.of hD3, atI_nat at1, .int 2, rfl, rfl, ?_⟩
          -- rows.append((places[0], [..]))
          refine ⟨.ref R, rfl, .inl ⟨rfl, _, SqL.of hR3⟩, .ref D2, rfl, D2, _, 0, _, rfl, rfl, SqL.of hD2, atI_nat (j := 0) at0, .ref D, rfl, D, rfl, ⟨_, SqL.of hD3⟩, fun D4 nD4 => lcL (M := M) (l := Bst.bits d) (SqL.of hD3) g13.b nD4 (fun u => some (.int (u : Nat))) (by rw [Bst.bits_len]; decide) (fun j u H5 hu g5 B C kB kC => ?_) (fun H5 g5 hD4 => ?_)⟩
          · have hu2 := Bst.bits_le d u (List.mem_of_getElem? hu)
            refine ⟨rfl, .int (u : Nat), rfl, .int 1, rfl, _, _, rfl, rfl, .inr (by decide), .int 2, rfl, _, _, rfl, rfl, by (show (0 : Int) < 2; decide), kB _ _ (.refl g5.b) ?_⟩
            show some (V.int (u : Nat)) = some (V.int ((u : Int) * 1 % 2))
            rw [show ((u : Int) * 1 % 2) = u by omega]
          · have eD4 : H5 D4 = some (.lst (nV (Bst.bits d))) := by
              rw [hD4]; exact congrArg (fun z => some (HO.lst z)) (fm_map (Bst.bits d) id |>.trans (by rw [List.map_id]))
            have hR5 : H5 R = some (.lst rs) := g5.at hR3
            have nR5 : D4 ≠ R := ne_of_none hR3 nD4 |>.symm
            refine ⟨by show 2 ≤ sizeLine; decide, fun t nt => ?_⟩
            have g6 : Go M H5 (upd H5 t (.tup [.int (Bst.piv d : Nat), .ref D4])) := (Go.refl g5.b).new nt
            have nRt : R ≠ t := ne_of_none hR5 nt
            have hR6 : (upd H5 t (.tup [.int (Bst.piv d : Nat), .ref D4])) R = some (.lst rs) := g6.at hR5
            refine ⟨R, rs, _, rfl, rfl, hR6, ?_, ?_⟩
            · rw [hAll.len]; exact szl (Nat.le_trans rok.len (by decide))
            · have g16 := g13.trans (g5.trans g6)
              refine ⟨g16.set nR hR6, rows ++ [d], _, _, _, _, _, rfl, ?_, ?_, upd_same, ?_⟩
              · rw [eR]; unfold Bst.addR; rw [hd, if_neg h0]
              · unfold Bst.addR at hadd; rw [hd, if_neg h0] at hadd; exact hadd
              · rw [hid_upd]
                refine (hAll3.mono fun _ _ => RowAt.hgo (g5.trans g6)).snoc ⟨t, D4, rfl, SqT.of ((hid_at (Ne.symm nRt)).trans upd_same), SqL.of ((hid_at nR5).trans (g6.at eD4))⟩
    · rintro σ H1 ⟨g, rows, rs, x4, x5, x6, x7, rfl, er, rok, hR, hAll⟩
      rw [nV_len, List.take_length] at er
      have := (Bst.rowsL_ok (vec := vCode cs) l [] .nil hvc).2
      rw [← er] at this
      refine ⟨.ref R, rfl, R, _, rfl, .inl (SqL.of hR), ?_⟩
      rw [hAll.len, this, List.length_nil, Nat.zero_add]
      exact q H1 g
end
end Bw

set_option Elab.async false
set_option linter.all false
set_option maxRecDepth 100000
set_option maxHeartbeats 2000000
namespace Bw
open PySem PySem.Spec PyProof.Rows L2
section
variable {P : Program} {w : World} {K : PySem.W.Frag} {mg : Str → Option Value} {base : Heap}
/-- the dict of the owners: of things below T -/
structure OwnAt (T : Nat) (kvs : List (Key × V)) (own : Bst.Own) : Prop where
  val : ∀ t : Nat, valV kvs (Sum.inl (t : Int)) = (own t).map fun a => V.int (a : Nat)
  nd : (kvs.map (·.1)).Nodup
  ks : ∀ k ∈ kvs.map (·.1), ∃ t, t < T ∧ k = Sum.inl ((t : Nat) : Int)
theorem OwnAt.len {T : Nat} {kvs : List (Key × V)} {own : Bst.Own} (h : OwnAt T kvs own) : kvs.length ≤ T := by
  have := nodup_len (ys := (List.range T).map fun t => (Sum.inl ((t : Nat) : Int) : Key)) h.nd fun k hk => by
    obtain ⟨t, ht, rfl⟩ := h.ks k hk
    exact List.mem_map.mpr ⟨t, List.mem_range.mpr ht, rfl⟩
  simpa using this
theorem OwnAt.put {T t a : Nat} {kvs : List (Key × V)} {own : Bst.Own} (h : OwnAt T kvs own) (ht : t < T) : OwnAt T (putK kvs (Sum.inl (t : Int)) (.int (a : Nat))) (Bst.setO own t a) := by
  obtain ⟨h1, h2⟩ := putK_keys (k := (Sum.inl (t : Int) : Key)) (v := .int (a : Nat)) h.nd
  refine ⟨fun u => ?_, h1, fun k hk => ?_⟩
  · rw [valV_put, h.val]
    unfold Bst.setO
    by_cases e : u = t
    · subst e; simp
    · rw [if_neg e, if_neg (fun z => e (by have := Sum.inl.inj z; omega))]
  · rcases h2 k hk with rfl | hk
    · exact ⟨t, ht, rfl⟩
    · exact h.ks k hk
def rowOf (rows : List (List Nat)) (e : Nat) : List Nat := rows.getD e []
/-- from the heap B: the owners at d, the seen things at s -/
def spFind (K : PySem.W.Frag) (k : Nat) : Sp := fun vs H Q _ => ∃ (M : Mw) (B : Hp) (L d s : Addr) (m T : Nat) (rows : List (List Nat)) (e : Nat) (kvs : List (Key × V)) (own : Bst.Own) (seen : List Nat), vs = [.ref L, .int (e : Nat), .ref d, .ref s] ∧ Go M B H ∧ B d = none ∧ B s = none ∧ LineAt K B L (.choices m rows) ∧
  e < rows.length ∧ (∀ r ∈ rows, ∀ t ∈ r, t < T) ∧ T ≤ 100 ∧ H d = some (.dK kvs) ∧ OwnAt T kvs own ∧ H s = some (.lst (nV seen)) ∧ seen.Nodup ∧ (∀ t ∈ seen, t < T) ∧ (∀ t a, own t = some a → a < rows.length) ∧ T < k + seen.length ∧
  ∀ H' kvs', Go M B H' → H' d = some (.dK kvs') → OwnAt T kvs' (Bst.find (rowOf rows) k e own seen).2.1 → H' s = some (.lst (nV (Bst.find (rowOf rows) k e own seen).2.2)) → (Bst.find (rowOf rows) k e own seen).2.2.Nodup → (∀ t ∈ (Bst.find (rowOf rows) k e own seen).2.2, t < T) →
    (∀ t a, (Bst.find (rowOf rows) k e own seen).2.1 t = some a → a < rows.length) → seen.length ≤ (Bst.find (rowOf rows) k e own seen).2.2.length → Q (.bl (Bst.find (rowOf rows) k e own seen).1) H'
theorem ok_find_thing (D_find_thing : Def K mg "find_thing" s_find_thing) : ∀ k, FnOk P w K mg base CX0 (k + 1) D_find_thing.f D_find_thing.fd ["line", "element", "owners", "seen"] (spFind K k) := by
  intro k
  induction k with
  | zero =>
    refine D_find_thing.F.ok sc_find_thing (fun vs H Q E h => ?_) (fun cdv A outer s H vs Q E hr h => ?_)
    · obtain ⟨M, B, L, d, s, m, T, rows, e, kvs, own, seen, rfl, _⟩ := h
      rfl
    · obtain ⟨M, B, L, d, s, m, T, rows, e, kvs, own, seen, rfl, g, nd, ns, hL, he, hT, hT2, hd, ho, hs, hn, hst, hoe, hf, q⟩ := h
      have := nodup_len (ys := List.range T) hn fun t ht => List.mem_range.mpr (hst t ht)
      rw [List.length_range] at this
      omega
  | succ k G_self =>
  refine D_find_thing.F.ok sc_find_thing (fun vs H Q E h => ?_) (fun cdv A outer s H vs Q E hr h => ?_)
  · obtain ⟨M, B, L, d, s, m, T, rows, e, kvs, own, seen, rfl, _⟩ := h
    rfl
  · obtain ⟨M, B, L, d, s, m, T, rows, e, kvs, own, seen, rfl, g, nd, ns, hL, he, hT, hT2, hd, ho, hs, hn, hst, hoe, hf, q⟩ := h
    -- 0 line, 1 element, 2 owners, 3 seen, 4 thing
    refine ⟨_, (pss_cons (ps_for PassesOwn.never rfl (pi_tupK (K := K) (pe_ix (ix_tupK (K := K)) (pe_ix (ix_tupK (K := K)) (pv 0) pe_int (fun _ _ => rfl)) (pv 1) (fun _ _ => rfl))) (pg_name (i := 4) sc_find_thing.nd rfl (.inl rfl)) (pss_one (ps_if (pt_cmpR (op_notIn_seqK (K := K)) (pv 4) (pv 3) rfl) (pss_cons (ps_expr (pe_bm PySem.F.plainAttrs_list PySem.F.slot_list_append PySem.F.type_list_append mt_append (pv 3) (pa_cons (pv 4) pa_nil)))
      (pss_one (ps_if (PW.pt (pw_or (pt_cmp (pc_dnotin (hu_of hr) (pv 4) (pv 2))) (pw_or1 (pt_val (pe_call G_self hr (by rfl) D_find_thing.g D_find_thing.F.kp (bd_find_thing D_find_thing.F) .nil pass0 (pa_cons (pv 0) (pa_cons (pe_dget (hu_of hr) (pv 2) (pv 4) (fun _ _ => rfl)) (pa_cons (pv 2) (pa_cons (pv 3) pa_nil))))))))) (pss_cons (ps_dput (hu_of hr) (pv 2) (pv 4) (pv 1) rfl)
      (pss_one (ps_ret pe_bl))) pss_nil))) pss_nil)))
      (pss_one (ps_ret pe_bl))), ?_⟩
    obtain ⟨v, sL, ae, ve, rfl, sE, aE⟩ := hL
    obtain ⟨_, ep, pp, rfl, sp⟩ := aE.at (i := e) (b := rowOf rows e) (by unfold rowOf; rw [List.getD_eq_getElem?_getD, List.getElem?_eq_getElem he]; rfl)
    have hrT : ∀ t ∈ rowOf rows e, t < T := by
      refine hT _ ?_
      unfold rowOf; rw [List.getD_eq_getElem?_getD, List.getElem?_eq_getElem he]; exact List.getElem_mem _
    have eF : Bst.find (rowOf rows) (k + 1) e own seen = Bst.findIn (rowOf rows) k e (rowOf rows e) own seen := by rw [Bst.find]
    generalize hrow : rowOf rows e = row at sp hrT eF
    generalize hans : Bst.find (rowOf rows) (k + 1) e own seen = ans at q eF
    refine ⟨.ref L, rfl, L, _, 2, _, rfl, rfl, g.t sL, atI_nat (j := 2) rfl, .int (e : Nat), rfl, ae, _, e, _, rfl, rfl, g.t sE, atI_nat ep, pp, rfl, ⟨_, g.t sp⟩, for_it walk_tup (G := fun H' => SqT K H' pp (nV row)) (fun i σ H' => Go M B H' ∧ ∃ (kvs : List (Key × V)) (own : Bst.Own) (sn : List Nat) (x4 : Option V), σ = [some (.ref L), some (.int (e : Nat)), some (.ref d), some (.ref s), x4] ∧
      H' d = some (.dK kvs) ∧ OwnAt T kvs own ∧ H' s = some (.lst (nV sn)) ∧ sn.Nodup ∧ (∀ t ∈ sn, t < T) ∧ (∀ t a, own t = some a → a < rows.length) ∧ T < k + 1 + sn.length ∧ seen.length ≤ sn.length ∧ ans = Bst.findIn (rowOf rows) k e (row.drop i) own sn) ?_ ?_ ?_ ?_⟩
    · exact ⟨g, kvs, own, seen, none, rfl, hd, ho, hs, hn, hst, hoe, hf, Nat.le_refl _, eF⟩
    · exact fun i σ H' _ h => h.1.t sp
    · rintro i x σ H1 H1' hi ⟨g, kvs, own, sn, x4, rfl, hd, ho, hs, hn, hst, hoe, hf, hle, ea⟩ ⟨rfl, ex⟩
      obtain ⟨t, et, rfl⟩ := nV_at ex
      have hti := (List.getElem?_eq_some_iff.mp et)
      have hdr : row.drop i = t :: row.drop (i + 1) := by rw [← hti.2]; exact List.drop_eq_getElem_cons hti.1
      have ht : t < T := hrT t (List.mem_of_getElem? et)
      rw [hdr, Bst.findIn] at ea
      have hsl := nodup_len (ys := List.range T) hn fun t ht => List.mem_range.mpr (hst t ht)
      rw [List.length_range] at hsl
      refine ⟨.int (t : Nat), rfl, .ref s, rfl, s, _, rfl, .inl (SqL.of hs), rfl, flat_nV _, _, rfl, ?_⟩
      rw [inV_n]
      by_cases hin : t ∈ sn
      · rw [if_pos hin] at ea
        rw [decide_eq_true hin]
        exact iteF ⟨g, kvs, own, sn, _, rfl, hd, ho, hs, hn, hst, hoe, hf, hle, ea⟩
      · rw [if_neg hin] at ea
        rw [decide_eq_false hin]
        refine iteT ⟨.ref s, rfl, .inl ⟨rfl, _, SqL.of hs⟩, .int (t : Nat), rfl, s, _, _, rfl, rfl, hs, ?_, ?_⟩
        · rw [nV_len]; exact szl (by omega)
        have eap : nV sn ++ [V.int (t : Nat)] = nV (sn ++ [t]) := by rw [nV_app]; rfl
        rw [eap]
        have g2 : Go M B (upd H1' s (.lst (nV (sn ++ [t])))) := g.set ns hs
        have nds : d ≠ s := ne_of hd hs (by intro z; cases z)
        have hd2 : (upd H1' s (.lst (nV (sn ++ [t])))) d = some (.dK kvs) := (upd_ne nds).trans hd
        have hs2 : (upd H1' s (.lst (nV (sn ++ [t])))) s = some (.lst (nV (sn ++ [t]))) := upd_same
        have hn2 : (sn ++ [t]).Nodup := List.nodup_append.mpr ⟨hn, by simp, fun a ha b hb => by
          have : b = t := by simpa using hb
          exact fun z => hin (by rw [← this, ← z]; exact ha)⟩
        have hst2 : ∀ u ∈ sn ++ [t], u < T := fun u hu => by
          rcases List.mem_append.mp hu with h1 | h1
          · exact hst u h1
          · have : u = t := by simpa using h1
            omega
        generalize upd H1' s (.lst (nV (sn ++ [t]))) = H2 at g2 hd2 hs2
        refine ⟨.int (t : Nat), rfl, .ref d, rfl, d, _, rfl, DGet.k (k := Sum.inl (t : Int)) hd2, _, rfl, ?_⟩
        rw [ho.val]
        cases hot : own t with
        | none =>
          rw [hot] at ea
          dsimp only at ea
          have ho2 := ho.put (a := e) ht
          refine iteT (iteT ⟨.int (e : Nat), rfl, .ref d, rfl, .int (t : Nat), rfl, d, _, rfl, DPut.k (k := Sum.inl (t : Int)) hd2 (szl (by have := ho.len; omega)), ?_⟩)
          have hq := q (upd H2 d (.dK (putK kvs (Sum.inl (t : Int)) (.int (e : Nat))))) _ (g2.set nd hd2) upd_same
          rw [ea] at hq
          refine hq ho2 ((upd_ne (Ne.symm nds)).trans hs2) hn2 hst2 (fun u a hu => ?_) (by simp; omega)
          have hu : Bst.setO own t e u = some a := hu
          unfold Bst.setO at hu
          split at hu
          · cases hu; exact he
          · exact hoe u a hu
        | some a =>
          rw [hot] at ea
          dsimp only at ea
          have ha := hoe t a hot
          have hdg : valV kvs (Sum.inl (t : Int)) = some (.int (a : Nat)) := by rw [ho.val, hot]; rfl
          refine iteF ⟨.ref L, rfl, .ref d, rfl, .int (t : Nat), rfl, d, .int (a : Nat), rfl, hdg ▸ DGet.k (k := Sum.inl (t : Int)) hd2, .ref d, rfl, .ref s, rfl, M, B, L, d, s, m, T, rows, a, kvs, own, sn ++ [t], rfl, g2, nd, ns, ⟨_, sL, ae, ve, rfl, sE, aE⟩, ha, hT, hT2, hd2, ho, hs2, hn2, hst2, hoe, by simp; omega, fun H3 kvs3 g3 hd3 ho3 hs3 hn3 hst3 hoe3 hle3 => ⟨_, rfl, ?_⟩⟩
          generalize hres : Bst.find (rowOf rows) k a own (sn ++ [t]) = res at ea ho3 hs3 hn3 hst3 hoe3 hle3 ⊢
          obtain ⟨b, own3, sn3⟩ := res
          have hle3 : sn.length + 1 ≤ sn3.length := by simpa using hle3
          have hsl3 := nodup_len (ys := List.range T) hn3 fun t ht => List.mem_range.mpr (hst3 t ht)
          have hsl3 : sn3.length ≤ T := by rwa [List.length_range] at hsl3
          cases b with
          | true =>
            dsimp only at ea ho3 hs3 hn3 hst3 hoe3
            have ho4 := OwnAt.put (a := e) ho3 ht
            refine iteT ⟨.int (e : Nat), rfl, .ref d, rfl, .int (t : Nat), rfl, d, _, rfl, DPut.k (k := Sum.inl (t : Int)) hd3 (szl (by have := ho3.len; omega)), ?_⟩
            have nds3 : d ≠ s := nds
            have hq := q (upd H3 d (.dK (putK kvs3 (Sum.inl (t : Int)) (.int (e : Nat))))) _ (g3.set nd hd3) upd_same
            rw [ea] at hq
            refine hq ho4 ((upd_ne (Ne.symm nds)).trans hs3) hn3 hst3 (fun u c hu => ?_) (by show seen.length ≤ sn3.length; omega)
            have hu : Bst.setO own3 t e u = some c := hu
            unfold Bst.setO at hu
            split at hu
            · cases hu; exact he
            · exact hoe3 u c hu
          | false =>
            dsimp only at ea ho3 hs3 hn3 hst3 hoe3
            exact iteF ⟨g3, kvs3, own3, sn3, _, rfl, hd3, ho3, hs3, hn3, hst3, hoe3, by omega, by omega, ea⟩
    · rintro σ H1 ⟨g, kvs, own, sn, x4, rfl, hd, ho, hs, hn, hst, hoe, hf, hle, ea⟩
      rw [nV_len, List.drop_length, Bst.findIn] at ea
      subst ea
      exact q H1 kvs g hd ho hs hn hst hoe hle
def spChoices (K : PySem.W.Frag) (tb : Addr) : Sp := fun vs H Q _ => ∃ (M : Mw) (L a : Addr) (m : Nat) (rows : List (List Nat)) (l : List Nat), vs = [.ref L, .ref a] ∧ Mok M H ∧ tb ∈ M.tb ∧ LineAt K H L (.choices m rows) ∧ SqT K H a (nV l) ∧
  (∀ e ∈ l, e < rows.length) ∧ (∀ r ∈ rows, ∀ t ∈ r, t < 4) ∧ l.length ≤ 1000 ∧ ∀ H', Go M H H' → Q (.int (Bst.kuhn (rowOf rows) 5 (fun _ => none) l : Nat)) H'
theorem ok_choices_rank {c tb : Addr} (T : Bn mg) (D : DefC K mg "choices_rank" s_choices_rank c) (TB : GxR.TabB base mg c tb) (D_find_thing : Def K mg "find_thing" s_find_thing) (G_find_thing : FnOk P w K mg base CX0 6 D_find_thing.f D_find_thing.fd ["line", "element", "owners", "seen"] (spFind K 5)) :
    FnOk P w K mg base CX0 8 D.f D.fd ["line", "members"] (spChoices K tb) := by
  refine D.FC.ok sc_choices_rank (fun vs H Q E h => ?_) (fun A outer s H vs Q E hr h => ?_)
  · obtain ⟨M, L, a, m, rows, l, rfl, _⟩ := h
    rfl
  · obtain ⟨M, L, a, m, rows, l, rfl, mk, ht, hL, hA, hl, hT, hl2, q⟩ := h
    -- 0 line, 1 members, 2 owners, 3 element
    refine ⟨_, (pss_cons (ps_set (i := 2) sc_choices_rank.nd rfl (.inr rfl) pe_dnewK)
      (pss_one (ps_ret (Gx.pe_countG (own := [("element", 3)]) hr sc_choices_rank.nd (by rfl) T.m_sum (by decide +kernel) TB rfl ⟨blkOk_by (by rfl), rfl, by decide +kernel, rfl⟩ (pi_tupK (K := K) (pv 1)) (fun _ => rfl) (fun _ _ _ _ _ _ _ => (pg_name (i := 3) sc_choices_rank.nd rfl (.inl rfl))) (fun _ _ _ _ _ _ hg1 => (pts_one (pt_val (pe_call G_find_thing (hg1.mono (by first | decide | omega)) (by rfl) D_find_thing.g D_find_thing.F.kp (bd_find_thing D_find_thing.F) .nil pass0 (pa_cons (pv 0) (pa_cons (pv 3) (pa_cons (pv 2) (pa_cons (pe_lst pa_nil) pa_nil)))))))) (fun _ _ _ _ _ _ hg1 => pe_int))))), ?_⟩
    -- owners = {}
    refine fun d nd => ?_
    have g1 := (Go.refl mk).new (o := .dK []) nd
    refine ⟨.ref a, rfl, a, rfl, ⟨_, g1.t hA⟩, g1.b.tab tb ht, fun H2 tb2 => ?_⟩
    have g2 := g1.tab' ht tb2
    have hd2 : H2 d = some (.dK []) := ((Go.refl g1.b).tab' ht tb2).at upd_same
    refine ⟨(nV l).length, fun r i H' => Go M H H' ∧ ∃ (k : Nat) (kvs : List (Key × V)) (own : Bst.Own), r = (k : Nat) ∧ k ≤ i ∧ H' d = some (.dK kvs) ∧ OwnAt 4 kvs own ∧ (∀ t a, own t = some a → a < rows.length) ∧ k + Bst.kuhn (rowOf rows) 5 own (l.drop i) = Bst.kuhn (rowOf rows) 5 (fun _ => none) l,
      ⟨g2, 0, [], fun _ => none, rfl, Nat.le_refl _, hd2, ⟨fun t => rfl, .nil, fun k hk => by cases hk⟩, (fun t a h => by cases h), by simp⟩, fun r H' h => ?_, gW (walk_tup (xs := nV l)) _ (fun r i H' h => h.1.t hA) (fun r i x H' H'' hi h y => ?_)⟩
    · obtain ⟨g, k, kvs, own, rfl, _, _, _, _, e⟩ := h
      rw [nV_len, List.drop_length, Bst.kuhn, Nat.add_zero] at e
      rw [e]
      exact q H' g
    · obtain ⟨rfl, ex⟩ := y
      obtain ⟨g, k, kvs, own, rfl, hk, hd, ho, hoe, e⟩ := h
      obtain ⟨e1, ee, rfl⟩ := nV_at ex
      have hti := (List.getElem?_eq_some_iff.mp ee)
      have hdr : l.drop i = e1 :: l.drop (i + 1) := by rw [← hti.2]; exact List.drop_eq_getElem_cons hti.1
      rw [hdr, Bst.kuhn] at e
      refine ⟨rfl, .ref L, rfl, .int (e1 : Nat), rfl, .ref d, rfl, Nat.zero_le _, fun s ns => ?_⟩
      have g3 : Go M H (upd H'' s (.lst [])) := g.new ns
      have nds := ne_of_none hd ns
      refine ⟨M, H, L, d, s, m, 4, rows, e1, kvs, own, [], rfl, g3, nd, g.back ns, hL, hl e1 (List.mem_of_getElem? ee), hT, by decide, (upd_ne nds).trans hd, ho, upd_same, .nil, (fun t h => by cases h), hoe, by decide, fun H3 kvs3 g4 hd3 ho3 hs3 _ _ hoe3 _ => ⟨_, rfl, ?_⟩⟩
      generalize Bst.find (rowOf rows) 5 e1 own [] = res at e ho3 hoe3 ⊢
      obtain ⟨b, own3, sn3⟩ := res
      dsimp only at e ho3 hoe3 ⊢
      cases b with
      | true =>
        rw [if_pos rfl] at e
        have := (List.getElem?_eq_some_iff.mp ee).1
        exact iteT ⟨rfl, ⟨by omega, by omega⟩, g4, k + 1, kvs3, own3, by omega, by omega, hd3, ho3, hoe3, by omega⟩
      | false =>
        rw [if_neg (by decide)] at e
        exact iteF ⟨g4, k, kvs3, own3, rfl, by omega, hd3, ho3, hoe3, by omega⟩
end
end Bw

set_option Elab.async false
set_option linter.all false
set_option maxRecDepth 100000
set_option maxHeartbeats 2000000
namespace Bw
open PySem PySem.Spec PyProof.Rows L2
section
variable {P : Program} {w : World} {K : PySem.W.Frag} {mg : Str → Option Value} {base : Heap}
def spBounds (K : PySem.W.Frag) (tb : Addr) : Sp := fun vs H Q _ => ∃ (M : Mw) (L a : Addr) (n : Nat) (bs : List (List Nat × Nat)) (l : List Nat), vs = [.ref L, .ref a] ∧ Mok M H ∧ tb ∈ M.tb ∧ LineAt K H L (.bounds n bs) ∧ SqT K H a (nV l) ∧
  l.length ≤ 1000 ∧ bs.length ≤ 1000 ∧ ∀ H', Go M H H' → Q (.int ((Bst.greedy bs [] l).length : Nat)) H'
theorem ok_bounds_rank {c tb : Addr} (T : Bn mg) (D : DefC K mg "bounds_rank" s_bounds_rank c) (TB : GxR.TabB base mg c tb) :
    FnOk P w K mg base CX0 3 D.f D.fd ["line", "members"] (spBounds K tb) := by
  refine D.FC.ok sc_bounds_rank (fun vs H Q E h => ?_) (fun A outer s H vs Q E hr h => ?_)
  · obtain ⟨M, L, a, n, bs, l, rfl, _⟩ := h
    rfl
  · obtain ⟨M, L, a, n, bs, l, rfl, mk, ht, hL, hA, hl2, hb2, q⟩ := h
    -- 0 line, 1 members, 2 taken, 3 element, 4 counts, 5 group, 6 _, 7 one, 8 pair, 9 count
    refine ⟨_, (pss_cons (ps_set (i := 2) sc_bounds_rank.nd rfl (.inr rfl) (pe_lst pa_nil))
      (pss_cons (ps_for PassesOwn.never rfl (pi_tupK (K := K) (pv 1)) (pg_name (i := 3) sc_bounds_rank.nd rfl (.inr rfl)) (pss_cons (ps_setLc (i := 4) (own := [("group", 5), ("_", 6)]) (by rfl) sc_bounds_rank.nd rfl rfl (sw_true rfl rfl rfl (by decide +kernel)) (pi_tupK (K := K) (pe_ix (ix_tupK (K := K)) (pv 0) pe_int (fun _ _ => rfl))) (blkOk_by (by rfl)) (fun _ _ _ _ _ => (pg_tupK (K := K) (n := 2) rfl rfl (pgs_cons (pg_name (i := 5) sc_bounds_rank.nd rfl (.inr rfl)) (pgs_cons (pg_name (i := 6) sc_bounds_rank.nd rfl (.inl rfl)) pgs_nil)))) (fun _ _ _ _ _ => pts_nil) (fun _ _ _ _ _ => (Gx.pe_countG (own := [("one", 7)]) hr sc_bounds_rank.nd (by rfl) T.m_sum (by decide +kernel) TB rfl ⟨blkOk_by (by rfl), rfl, by decide +kernel, rfl⟩ (pi_listK (K := K) (pv 2)) (fun _ => rfl) (fun _ _ _ _ _ _ _ => (pg_name (i := 7) sc_bounds_rank.nd rfl (.inl rfl))) (fun _ _ _ _ _ _ hg2 => (pts_one (pt_cmpR (op_in_seqK (K := K)) (pv 7) (pv 5) rfl))) (fun _ _ _ _ _ _ hg2 => pe_int))))
      (pss_one (ps_if (pt_val (Gx.pe_allG (own := [("pair", 8), ("count", 9)]) hr sc_bounds_rank.nd (by rfl) T.m_all (by decide +kernel) TB rfl ⟨blkOk_by (by rfl), rfl, by decide +kernel, rfl⟩ (Gx.pi_zipTL (K := K) (by rfl) T.m_zip (pa_cons (pe_ix (ix_tupK (K := K)) (pv 0) pe_int (fun _ _ => rfl)) (pa_cons (pv 4) pa_nil))) (fun _ => rfl) (fun _ _ _ _ _ _ _ => (pg_tupK (K := K) (n := 2) rfl rfl (pgs_cons (pg_name (i := 8) sc_bounds_rank.nd rfl (.inl rfl)) (pgs_cons (pg_name (i := 9) sc_bounds_rank.nd rfl (.inl rfl)) pgs_nil)))) (fun _ _ _ _ _ _ hg1 => pts_nil) (fun _ _ _ _ _ _ hg1 => (pe_or (pe_cmpR (op_notIn_seqK (K := K)) (pv 3) (pe_ix (ix_tupK (K := K)) (pv 8) pe_int (fun _ _ => rfl)) rfl) (pe_one (pe_cmpR op_lt (pv 9) (pe_ix (ix_tupK (K := K)) (pv 8) pe_int (fun _ _ => rfl)) (nomark _))))))) (pss_one (ps_expr (pe_bm PySem.F.plainAttrs_list PySem.F.slot_list_append PySem.F.type_list_append mt_append (pv 2) (pa_cons (pv 3) pa_nil)))) pss_nil))))
      (pss_one (ps_ret (pe_callB (call_len_seqK (K := K)) (by rfl) T.m_len PySem.boot_len (pa_cons (pv 2) pa_nil)))))), ?_⟩
    obtain ⟨v, sL, ae, ve, rfl, sE, aE⟩ := hL
    refine ⟨Nat.zero_le _, fun R nR => ?_⟩
    have g1 := (Go.refl mk).new (o := .lst []) nR
    refine ⟨.ref a, rfl, a, rfl, ⟨_, g1.t hA⟩, for_it walk_tup (G := fun H' => SqT K H' a (nV l)) (fun i σ H' => Go M H H' ∧ ∃ (tk : List Nat) (x3 x4 : Option V), σ = [some (.ref L), some (.ref a), some (.ref R), x3, x4, none, none, none, none, none] ∧
      H' R = some (.lst (nV tk)) ∧ tk.length ≤ i ∧ (Bst.greedy bs tk (l.drop i)).length = (Bst.greedy bs [] l).length) ?_ ?_ ?_ ?_⟩
    · exact ⟨g1, [], none, none, rfl, upd_same, Nat.le_refl _, by simp⟩
    · exact fun i σ H' _ h => h.1.t hA
    · rintro i x σ H1 H1' hi ⟨g, tk, x3, x4, rfl, hR, htk, eg⟩ ⟨rfl, ex⟩
      obtain ⟨e, ee, rfl⟩ := nV_at ex
      have hti := (List.getElem?_eq_some_iff.mp ee)
      have hdr : l.drop i = e :: l.drop (i + 1) := by rw [← hti.2]; exact List.drop_eq_getElem_cons hti.1
      rw [hdr, Bst.greedy] at eg
      have hlen : i < l.length := hti.1
      -- counts
      refine ⟨.ref L, rfl, L, _, 2, _, rfl, rfl, g.t sL, atI_nat (j := 2) rfl, ae, rfl, ⟨_, g.t sE⟩, fun D nD => lcW (M := M) (walk_tup (xs := ve)) g.b nD (fun j => (bs[j]?).map fun p => V.int ((tk.filter fun x => decide (x ∈ p.1)).length : Nat)) (by rw [aE.len]; omega) (fun H2 g2 => g2.t (g.t sE)) (fun j x H2 H2' hj g2 y B C kB kC => ?_) (fun H2 g2 hD => ?_)⟩
      · obtain ⟨rfl, ex⟩ := y
        obtain ⟨p, ep, b, w, rfl, sb, gp, rfl, sp⟩ := (aE.mono fun _ _ => TBd.go (g.trans g2)).ta ex
        rw [ep] at kB
        refine ⟨b, _, rfl, sb, rfl, _, _, rfl, _, _, rfl, rfl, rfl, .ref R, rfl, R, rfl, ⟨_, SqL.of (g2.at hR)⟩, g2.b.tab tb ht, fun H3 tb3 => ?_⟩
        have g3 : Go M H2' H3 := (Go.refl g2.b).tab' ht tb3
        have hR3 : H3 R = some (.lst (nV tk)) := g3.at (g2.at hR)
        refine ⟨tk.length, fun r i H' => Go M H3 H' ∧ r = (((tk.take i).filter fun x => decide (x ∈ p.1)).length : Nat), ⟨Go.refl g3.b, by simp⟩, fun r H' h => ?_, gW (nV_len tk ▸ walk_list (xs := nV tk)) _ (fun r i H' h => h.1.l (SqL.of hR3)) (fun r i x H' H'' hi h y => ?_)⟩
        · obtain ⟨g4, rfl⟩ := h
          rw [List.take_length]
          exact kB _ _ (g3.trans g4) rfl
        · obtain ⟨rfl, ex⟩ := y
          obtain ⟨g4, rfl⟩ := h
          obtain ⟨u, eu, rfl⟩ := nV_at ex
          refine ⟨rfl, .int (u : Nat), rfl, .ref gp, rfl, gp, _, rfl, .inr ((g3.trans g4).t sp), rfl, flat_nV _, _, rfl, ?_⟩
          have hf := List.length_filter_le (fun x => decide (x ∈ p.1)) (tk.take i)
          have ht2 := List.length_take_le i tk
          rw [if_neg (by decide), inV_n]
          have e2 : (((tk.take (i + 1)).filter fun x => decide (x ∈ p.1)).length) = ((tk.take i).filter fun x => decide (x ∈ p.1)).length + (if u ∈ p.1 then 1 else 0) := by
            rw [tk_snoc eu, List.filter_append, List.length_append]
            by_cases h : u ∈ p.1 <;> simp [h]
          by_cases h : u ∈ p.1
          · rw [decide_eq_true h]
            rw [if_pos h] at e2
            exact iteT ⟨rfl, ⟨by omega, by omega⟩, g4, by omega⟩
          · rw [decide_eq_false h]
            rw [if_neg h] at e2
            exact iteF ⟨g4, by omega⟩
      · -- if all(..)
        have eD : (List.range ve.length).filterMap (fun j => (bs[j]?).map fun p => V.int ((tk.filter fun x => decide (x ∈ p.1)).length : Nat)) = bs.map fun p => V.int ((tk.filter fun x => decide (x ∈ p.1)).length : Nat) := by
          rw [aE.len]
          have := fm_list bs fun p => some (V.int ((tk.filter fun x => decide (x ∈ p.1)).length : Nat))
          rw [List.filterMap_eq_map'] at this
          rw [← this]
          refine congrArg (fun z => (List.range bs.length).filterMap z) (funext fun j => ?_)
          cases bs[j]? <;> rfl
        rw [eD] at hD
        have g12 := g.trans g2
        refine ⟨.ref L, rfl, L, _, 2, _, rfl, rfl, g12.t sL, atI_nat (j := 2) rfl, .ref D, rfl, ae, D, _, _, rfl, g12.t sE, SqL.of hD, g2.b.tab tb ht, fun H3 tb3 => ?_⟩
        have g3 : Go M H2 H3 := (Go.refl g2.b).tab' ht tb3
        have g13 := g12.trans g3
        have hR3 : H3 R = some (.lst (nV tk)) := g3.at (g2.at hR)
        refine ⟨bs.length, fun i H' => Go M H3 H' ∧ ∀ j p, j < i → bs[j]? = some p → (!decide (e ∈ p.1) || decide ((tk.filter fun x => decide (x ∈ p.1)).length < p.2)) = true, ⟨Go.refl g3.b, fun j p h => by omega⟩, fun H' h => ⟨true, rfl, ?_⟩, gW (Gx.walk_zipM (xs := ve) (by rw [aE.len, List.length_map, Nat.min_self])) _ (fun r i H' h => ⟨(g13.trans h.1).t sE, SqL.of ((g3.trans h.1).at hD)⟩) (fun r i x H' H'' hi h y => ?_)⟩
        · obtain ⟨g4, hall⟩ := h
          have hin : Bst.inGrp bs tk e = true := by
            unfold Bst.inGrp
            rw [List.all_eq_true]
            intro p hp
            obtain ⟨j, hj, ej⟩ := List.getElem_of_mem hp
            exact hall j p hj (by rw [List.getElem?_eq_getElem hj, ej])
          rw [if_pos hin] at eg
          have hR4 : H' R = some (.lst (nV tk)) := g4.at hR3
          refine iteT ⟨.ref R, rfl, .inl ⟨rfl, _, SqL.of hR4⟩, .int (e : Nat), rfl, R, _, _, rfl, rfl, hR4, ?_, ?_⟩
          · rw [nV_len]; exact szl (by omega)
          · refine ⟨(g13.trans g4).set nR hR4, tk ++ [e], _, _, rfl, ?_, by simp; omega, eg⟩
            rw [upd_same, nV_app]; rfl
        · obtain ⟨g4, hall⟩ := h
          obtain ⟨T', u, v, rfl, nT, rfl, e1, e2⟩ := y
          have gT : Go M H' (upd H' T' (.tup [u, v])) := (Go.refl g4.b).new nT
          have g14 := g13.trans (g4.trans gT)
          obtain ⟨p, ep, b, w, rfl, sb, gp, rfl, sp⟩ := (aE.mono fun _ _ => TBd.go g14).ta e1
          dsimp only at e2
          rw [List.getElem?_map, ep] at e2
          obtain rfl := (Option.some.inj e2).symm
          refine ⟨T', _, rfl, SqT.of upd_same, rfl, _, _, rfl, _, _, rfl, rfl, rfl, .int (e : Nat), rfl, .ref b, rfl, b, _, 0, _, rfl, rfl, sb, atI_nat (j := 0) rfl, gp, _, rfl, .inr sp, rfl, flat_nV _, _, rfl, ?_⟩
          rw [if_pos rfl, inV_n]
          by_cases h : e ∈ p.1
          · rw [decide_eq_true h]
            refine iteF ⟨_, rfl, .ref b, rfl, b, _, 1, _, rfl, rfl, sb, atI_nat (j := 1) rfl, _, _, rfl, rfl, _, rfl, ?_⟩
            by_cases hc : (tk.filter fun x => decide (x ∈ p.1)).length < p.2
            · rw [decide_eq_true (by omega)]
              refine iteT ⟨g4.trans gT, fun j p' hj ep' => ?_⟩
              by_cases e' : j = i
              · subst e'
                rw [ep] at ep'
                cases ep'
                rw [decide_eq_true hc, Bool.or_true]
              · exact hall j p' (by omega) ep'
            · rw [decide_eq_false (by omega)]
              refine iteF ⟨false, rfl, iteF ?_⟩
              have hin : ¬ Bst.inGrp bs tk e = true := fun z => by
                unfold Bst.inGrp at z
                rw [List.all_eq_true] at z
                have := z p (List.mem_of_getElem? ep)
                simp [h, hc] at this
              rw [if_neg hin] at eg
              exact ⟨g14, tk, _, _, rfl, gT.at (g4.at hR3), by omega, eg⟩
          · rw [decide_eq_false h]
            refine iteT ⟨true, rfl, iteT ⟨g4.trans gT, fun j p' hj ep' => ?_⟩⟩
            by_cases e' : j = i
            · subst e'
              rw [ep] at ep'
              cases ep'
              simp [h]
            · exact hall j p' (by omega) ep'
    · rintro σ H1 ⟨g, tk, x3, x4, rfl, hR, htk, eg⟩
      rw [nV_len, List.drop_length, Bst.greedy] at eg
      refine ⟨.ref R, rfl, R, _, rfl, .inl (SqL.of hR), ?_⟩
      rw [nV_len, eg]
      exact q H1 g
end
end Bw

set_option Elab.async false
set_option linter.all false
set_option maxRecDepth 100000
set_option maxHeartbeats 2000000
namespace Bw
open PySem PySem.Spec PyProof.Rows L2
def lnSize : Ln → Nat
  | .graph _ es => es.length
  | .choices _ rows => rows.length
  | .bounds n _ => n
  | .uniform n _ => n
  | .vectors cs => cs.length
def LnOk : Ln → Prop
  | .graph nv es => (∀ e ∈ es, e.1 < nv ∧ e.2 < nv) ∧ nv ≤ 1000
  | .choices _ rows => ∀ r ∈ rows, ∀ t ∈ r, t < 4
  | .bounds n bs => bs.length ≤ 1000 ∧ ∃ U, Bst.Fam n U bs ∧ ∀ x, x < n → U x = true
  | .uniform _ _ => True
  | .vectors cs => ∀ c ∈ cs, c < 8
def lnRk : Ln → List Nat → Nat
  | .graph _ es, l => Bst.rkL Bst.gAdd Bst.gIn (gEdge es) id l
  | .choices _ rows, l => Bst.kuhn (rowOf rows) 5 (fun _ => none) l
  | .bounds _ bs, l => (Bst.greedy bs [] l).length
  | .uniform _ r, l => min l.length r
  | .vectors cs, l => Bst.rkL Bst.vStep Bst.vIn (vCode cs) 1 l
theorem iteY {c A B : Prop} [Decidable c] (h : c) (hA : A) : if c then A else B := by rw [if_pos h]; exact hA
theorem iteN {c A B : Prop} [Decidable c] (h : ¬ c) (hB : B) : if c then A else B := by rw [if_neg h]; exact hB
section
variable {P : Program} {w : World} {K : PySem.W.Frag} {mg : Str → Option Value} {base : Heap}
def spKind (K : PySem.W.Frag) (tc tb : Addr) : Sp := fun vs H Q _ => ∃ (M : Mw) (L a : Addr) (ln : Ln) (l : List Nat), vs = [.ref L, .ref a] ∧ Mok M H ∧ tc ∈ M.tb ∧ tb ∈ M.tb ∧ LineAt K H L ln ∧ LnOk ln ∧ SqT K H a (nV l) ∧
  (∀ e ∈ l, e < lnSize ln) ∧ l.length ≤ 1000 ∧ ∀ H', Go M H H' → Q (.int (lnRk ln l : Nat)) H'
theorem ok_rank_of_kind {f tc tb : Addr} {fd : FuncData} {cc cb : Addr} (T : Bn mg) (F : Fun K "rank_of_kind" "rank_of_kind" s_rank_of_kind f fd) (D_graph_rank : Def K mg "graph_rank" s_graph_rank) (D_vectors_rank : Def K mg "vectors_rank" s_vectors_rank) (D_choices_rank : DefC K mg "choices_rank" s_choices_rank cc)
    (D_bounds_rank : DefC K mg "bounds_rank" s_bounds_rank cb)
    (G_graph_rank : FnOk P w K mg base CX0 1 D_graph_rank.f D_graph_rank.fd ["line", "members"] (spGraph K)) (G_vectors_rank : FnOk P w K mg base CX0 2 D_vectors_rank.f D_vectors_rank.fd ["line", "members"] (spVectors K))
    (G_choices_rank : FnOk P w K mg base CX0 8 D_choices_rank.f D_choices_rank.fd ["line", "members"] (spChoices K tc)) (G_bounds_rank : FnOk P w K mg base CX0 3 D_bounds_rank.f D_bounds_rank.fd ["line", "members"] (spBounds K tb)) :
    FnOk P w K mg base CX0 9 f fd ["line", "members"] (spKind K tc tb) := by
  refine F.ok sc_rank_of_kind (fun vs H Q E h => ?_) (fun cdv A outer s H vs Q E hr h => ?_)
  · obtain ⟨M, L, a, ln, l, rfl, _⟩ := h
    rfl
  · obtain ⟨M, L, a, ln, l, rfl, mk, ht1, ht2, hL, hok, hA, hl, hl2, q⟩ := h
    -- 0 line, 1 members, 2 name
    refine ⟨_, (pss_cons (ps_set (i := 2) sc_rank_of_kind.nd rfl (.inl rfl) (pe_ix (ix_tupK (K := K)) (pv 0) pe_int (fun _ _ => rfl)))
      (pss_cons (ps_if (pt_cmpR op_eq (pv 2) pe_str (nomark _)) (pss_one (ps_ret (pe_call G_graph_rank (hr.mono (by first | decide | omega)) (by rfl) D_graph_rank.g D_graph_rank.F.kp (bd_graph_rank D_graph_rank.F) .nil pass0 (pa_cons (pv 0) (pa_cons (pv 1) pa_nil))))) pss_nil)
      (pss_cons (ps_if (pt_cmpR op_eq (pv 2) pe_str (nomark _)) (pss_one (ps_ret (pe_call G_vectors_rank (hr.mono (by first | decide | omega)) (by rfl) D_vectors_rank.g D_vectors_rank.F.kp (bd_vectors_rank D_vectors_rank.F) .nil pass0 (pa_cons (pv 0) (pa_cons (pv 1) pa_nil))))) pss_nil)
      (pss_cons (ps_if (pt_cmpR op_eq (pv 2) pe_str (nomark _)) (pss_one (ps_ret (pe_call G_choices_rank (hr.mono (by first | decide | omega)) (by rfl) D_choices_rank.g D_choices_rank.F.kp (bd_choices_rank D_choices_rank.F) .nil pass0 (pa_cons (pv 0) (pa_cons (pv 1) pa_nil))))) pss_nil)
      (pss_cons (ps_if (pt_cmpR op_eq (pv 2) pe_str (nomark _)) (pss_one (ps_ret (pe_call G_bounds_rank (hr.mono (by first | decide | omega)) (by rfl) D_bounds_rank.g D_bounds_rank.F.kp (bd_bounds_rank D_bounds_rank.F) .nil pass0 (pa_cons (pv 0) (pa_cons (pv 1) pa_nil))))) pss_nil)
      (pss_cons (ps_if (pt_cmpR op_eq (pv 2) pe_str (nomark _)) (pss_one (ps_ret (pe_callB (call_min2 rfl) (by rfl) T.m_min (by decide +kernel) (pa_cons (pe_callB (call_len_seqK (K := K)) (by rfl) T.m_len PySem.boot_len (pa_cons (pv 1) pa_nil)) (pa_cons (pe_ix (ix_tupK (K := K)) (pv 0) pe_int (fun _ _ => rfl)) pa_nil))))) pss_nil)
      (pss_one ps_never))))))), ?_⟩
    cases ln with
    | graph nv es =>
      obtain ⟨v, sL, t⟩ := id hL
      refine ⟨.ref L, rfl, L, _, 0, _, rfl, rfl, sL, atI_nat (j := 0) rfl, ?_⟩
      exact ⟨_, rfl, rfl, _, rfl, iteY (by decide +kernel) ⟨.ref L, rfl, .ref a, rfl, M, L, a, nv, es, l, rfl, mk, hL, hA, hl, hok.1, hok.2, hl2, q⟩⟩
    | vectors cs =>
      obtain ⟨v, sL, t⟩ := id hL
      refine ⟨.ref L, rfl, L, _, 0, _, rfl, rfl, sL, atI_nat (j := 0) rfl, ?_⟩
      exact ⟨_, rfl, rfl, _, rfl, iteN (by decide +kernel) ⟨_, rfl, rfl, _, rfl, iteY (by decide +kernel) ⟨.ref L, rfl, .ref a, rfl, M, L, a, cs, l, rfl, mk, hL, hA, hl, hok, hl2, q⟩⟩⟩
    | choices m rows =>
      obtain ⟨v, sL, t⟩ := id hL
      refine ⟨.ref L, rfl, L, _, 0, _, rfl, rfl, sL, atI_nat (j := 0) rfl, ?_⟩
      exact ⟨_, rfl, rfl, _, rfl, iteN (by decide +kernel) ⟨_, rfl, rfl, _, rfl, iteN (by decide +kernel) ⟨_, rfl, rfl, _, rfl, iteY (by decide +kernel) ⟨.ref L, rfl, .ref a, rfl, M, L, a, m, rows, l, rfl, mk, ht1, hL, hA, hl, hok, hl2, q⟩⟩⟩⟩
    | bounds n bs =>
      obtain ⟨v, sL, t⟩ := id hL
      refine ⟨.ref L, rfl, L, _, 0, _, rfl, rfl, sL, atI_nat (j := 0) rfl, ?_⟩
      exact ⟨_, rfl, rfl, _, rfl, iteN (by decide +kernel) ⟨_, rfl, rfl, _, rfl, iteN (by decide +kernel) ⟨_, rfl, rfl, _, rfl, iteN (by decide +kernel) ⟨_, rfl, rfl, _, rfl, iteY (by decide +kernel) ⟨.ref L, rfl, .ref a, rfl, M, L, a, n, bs, l, rfl, mk, ht2, hL, hA, hl2, hok.1, q⟩⟩⟩⟩⟩
    | uniform n r =>
      have sL : SqT K H L [.str "uniform", .int (n : Nat), .int (r : Nat)] := hL
      refine ⟨.ref L, rfl, L, _, 0, _, rfl, rfl, sL, atI_nat (j := 0) rfl, ?_⟩
      refine ⟨_, rfl, rfl, _, rfl, iteN (by decide +kernel) ⟨_, rfl, rfl, _, rfl, iteN (by decide +kernel) ⟨_, rfl, rfl, _, rfl, iteN (by decide +kernel) ⟨_, rfl, rfl, _, rfl, iteN (by decide +kernel) ⟨_, rfl, rfl, _, rfl, iteY (by decide +kernel) ?_⟩⟩⟩⟩⟩
      refine ⟨.ref a, rfl, a, _, rfl, .inr hA, .ref L, rfl, L, _, 2, _, rfl, rfl, sL, atI_nat (j := 2) rfl, _, _, rfl, ?_⟩
      have e : (if ((r : Nat) : Int) < ((nV l).length : Nat) then ((r : Nat) : Int) else ((nV l).length : Nat)) = ((lnRk (.uniform n r) l : Nat) : Int) := by
        rw [nV_len]
        show _ = ((min l.length r : Nat) : Int)
        split <;> omega
      rw [e]
      exact q H (Go.refl mk)
def spSize (K : PySem.W.Frag) : Sp := fun vs H Q _ => ∃ (M : Mw) (L : Addr) (ln : Ln), vs = [.ref L] ∧ Mok M H ∧ LineAt K H L ln ∧ ∀ H', Go M H H' → Q (.int (lnSize ln : Nat)) H'
theorem ok_size_of_kind {f : Addr} {fd : FuncData} {k : Nat} (T : Bn mg) (F : Fun K "size_of_kind" "size_of_kind" s_size_of_kind f fd) : FnOk P w K mg base CX0 (k + 1) f fd ["line"] (spSize K) := by
  refine F.ok sc_size_of_kind (fun vs H Q E h => ?_) (fun cdv A outer s H vs Q E hr h => ?_)
  · obtain ⟨M, L, ln, rfl, _⟩ := h
    rfl
  · obtain ⟨M, L, ln, rfl, mk, hL, q⟩ := h
    refine ⟨_, (pss_cons (ps_if (pt_cmpR op_eq (pe_ix (ix_tupK (K := K)) (pv 0) pe_int (fun _ _ => rfl)) pe_str (nomark _)) (pss_one (ps_ret (pe_callB (call_len_seqK (K := K)) (by rfl) T.m_len PySem.boot_len (pa_cons (pe_ix (ix_tupK (K := K)) (pv 0) pe_int (fun _ _ => rfl)) pa_nil)))) pss_nil)
      (pss_cons (ps_if (pt_cmpR (op_in_seqK (K := K)) (pe_ix (ix_tupK (K := K)) (pv 0) pe_int (fun _ _ => rfl)) (pe_tup (pa_cons pe_str (pa_cons pe_str pa_nil))) rfl) (pss_one (ps_ret (pe_callB (call_len_seqK (K := K)) (by rfl) T.m_len PySem.boot_len (pa_cons (pe_ix (ix_tupK (K := K)) (pv 0) pe_int (fun _ _ => rfl)) pa_nil)))) pss_nil)
      (pss_one (ps_ret (pe_ix (ix_tupK (K := K)) (pv 0) pe_int (fun _ _ => rfl)))))), ?_⟩
    have e2 : (2 : Nat) ≤ sizeLine := by decide
    have tg : ∀ t, H t = none → Go M H (upd H t (.tup [.str "graph", .str "choices"])) := fun t nt => (Go.refl mk).new nt
    cases ln with
    | vectors cs =>
      obtain ⟨v, sL, ae, ve, rfl, sE, aE⟩ := hL
      refine ⟨.ref L, rfl, L, _, 0, _, rfl, rfl, sL, atI_nat (j := 0) rfl, rfl, _, rfl, iteY (by decide +kernel) ⟨.ref L, rfl, L, _, 3, _, rfl, rfl, sL, atI_nat (j := 3) rfl, ae, _, rfl, .inr sE, ?_⟩⟩
      rw [aE.len, List.length_map]
      exact q H (Go.refl mk)
    | graph nv es =>
      obtain ⟨v, sL, ae, ve, rfl, sE, aE⟩ := hL
      refine ⟨.ref L, rfl, L, _, 0, _, rfl, rfl, sL, atI_nat (j := 0) rfl, rfl, _, rfl, iteN (by decide +kernel) ⟨.ref L, rfl, L, _, 0, _, rfl, rfl, sL, atI_nat (j := 0) rfl, e2, fun t nt => ?_⟩⟩
      have g := tg t nt
      refine ⟨t, _, rfl, .inr (SqT.of upd_same), rfl, rfl, _, rfl, iteY (by decide +kernel) ⟨.ref L, rfl, L, _, 2, _, rfl, rfl, g.t sL, atI_nat (j := 2) rfl, ae, _, rfl, .inr (g.t sE), ?_⟩⟩
      rw [aE.len, List.length_map]
      exact q _ g
    | choices m rows =>
      obtain ⟨v, sL, ae, ve, rfl, sE, aE⟩ := hL
      refine ⟨.ref L, rfl, L, _, 0, _, rfl, rfl, sL, atI_nat (j := 0) rfl, rfl, _, rfl, iteN (by decide +kernel) ⟨.ref L, rfl, L, _, 0, _, rfl, rfl, sL, atI_nat (j := 0) rfl, e2, fun t nt => ?_⟩⟩
      have g := tg t nt
      refine ⟨t, _, rfl, .inr (SqT.of upd_same), rfl, rfl, _, rfl, iteY (by decide +kernel) ⟨.ref L, rfl, L, _, 2, _, rfl, rfl, g.t sL, atI_nat (j := 2) rfl, ae, _, rfl, .inr (g.t sE), ?_⟩⟩
      rw [aE.len]
      exact q _ g
    | bounds n bs =>
      obtain ⟨v, sL, _⟩ := hL
      refine ⟨.ref L, rfl, L, _, 0, _, rfl, rfl, sL, atI_nat (j := 0) rfl, rfl, _, rfl, iteN (by decide +kernel) ⟨.ref L, rfl, L, _, 0, _, rfl, rfl, sL, atI_nat (j := 0) rfl, e2, fun t nt => ?_⟩⟩
      have g := tg t nt
      exact ⟨t, _, rfl, .inr (SqT.of upd_same), rfl, rfl, _, rfl, iteN (by decide +kernel) ⟨.ref L, rfl, L, _, 1, _, rfl, rfl, g.t sL, atI_nat (j := 1) rfl, q _ g⟩⟩
    | uniform n r =>
      have sL : SqT K H L [.str "uniform", .int (n : Nat), .int (r : Nat)] := hL
      refine ⟨.ref L, rfl, L, _, 0, _, rfl, rfl, sL, atI_nat (j := 0) rfl, rfl, _, rfl, iteN (by decide +kernel) ⟨.ref L, rfl, L, _, 0, _, rfl, rfl, sL, atI_nat (j := 0) rfl, e2, fun t nt => ?_⟩⟩
      have g := tg t nt
      exact ⟨t, _, rfl, .inr (SqT.of upd_same), rfl, rfl, _, rfl, iteN (by decide +kernel) ⟨.ref L, rfl, L, _, 1, _, rfl, rfl, g.t sL, atI_nat (j := 1) rfl, q _ g⟩⟩
end
end Bw

set_option Elab.async false
set_option linter.all false
set_option maxRecDepth 100000
set_option maxHeartbeats 2000000
namespace Bw
open PySem PySem.Spec PyProof.Rows L2
/-! ### sorted lists -/
theorem toNat_map {l : List Nat} {ns : List Int} (p : ns.Perm (l.map Int.ofNat)) : ∃ l' : List Nat, ns = l'.map Int.ofNat ∧ l'.Perm l := by
  refine ⟨ns.map Int.toNat, ?_, ?_⟩
  · rw [List.map_map]
    refine ((List.map_congr_left fun x hx => ?_).trans (List.map_id ns)).symm
    obtain ⟨y, _, rfl⟩ := List.mem_map.mp (p.mem_iff.mp hx)
    rfl
  · have h := p.map Int.toNat
    rw [List.map_map] at h
    exact h.trans (List.Perm.of_eq ((List.map_congr_left fun x _ => rfl).trans (List.map_id l)))
theorem sort_n {l : List Nat} {ns : List Int} (p : ns.Perm (l.map Int.ofNat)) (r : ns.Pairwise (· ≤ ·)) : ∃ l' : List Nat, ns = l'.map Int.ofNat ∧ l'.Perm l ∧ l'.Pairwise (· ≤ ·) := by
  obtain ⟨l', rfl, p'⟩ := toNat_map p
  refine ⟨l', rfl, p', ?_⟩
  rw [List.pairwise_map] at r
  exact r.imp fun h => Int.ofNat_le.mp h
theorem sort_lt {l : List Nat} (h : l.Pairwise (· ≤ ·)) (n : l.Nodup) : l.Pairwise (· < ·) := by
  have := List.pairwise_and_iff.mpr ⟨h, n⟩
  exact this.imp fun ⟨a, b⟩ => Nat.lt_of_le_of_ne a b
/-- a set's list, sorted -/
theorem sort_set {n : Nat} {l : List Nat} {ns : List Int} (hn : l.Nodup) (hl : ∀ e ∈ l, e < n) (p : ns.Perm (l.map Int.ofNat)) (r : ns.Pairwise (· ≤ ·)) : ns.map V.int = nV (Bst.lst n (Bst.mem l)) := by
  obtain ⟨l', rfl, p', r'⟩ := sort_n p r
  have s := sort_lt r' (p'.nodup_iff.mpr hn)
  have e : l' = Bst.lst n (Bst.mem l) := Bst.sorted_eq s (Bst.lst_sorted _ _) fun e => by
    rw [Bst.mem_lst, Bst.mem_true, p'.mem_iff]
    exact ⟨fun h => ⟨hl e h, h⟩, fun h => h.2⟩
  rw [← e]
  exact int_n
/-! ### the known ranks -/
def allSub : Nat → List (List Nat)
  | 0 => [[]]
  | n + 1 => allSub n ++ (allSub n).map (· ++ [n])
theorem allSub_len : ∀ n, (allSub n).length = 2 ^ n
  | 0 => rfl
  | n + 1 => by
    unfold allSub
    rw [List.length_append, List.length_map, allSub_len n, Nat.pow_succ]
    omega
theorem allSub_mem (A : Bst.S) : ∀ n, Bst.lst n A ∈ allSub n
  | 0 => by simp [allSub, Bst.lst]
  | n + 1 => by
    rw [Bst.lst_succ]
    unfold allSub
    by_cases h : A n = true
    · rw [if_pos h]
      exact List.mem_append_right _ (List.mem_map.mpr ⟨_, allSub_mem A n, rfl⟩)
    · rw [if_neg h, List.append_nil]
      exact List.mem_append_left _ (allSub_mem A n)
theorem kN_inj {a b : List Nat} (h : kN a = kN b) : a = b := by
  induction a generalizing b with
  | nil => cases b with
    | nil => rfl
    | cons => cases h
  | cons x r ih => cases b with
    | nil => cases h
    | cons y r' =>
      have h1 := (List.cons.inj h).1
      have h2 := ih (List.cons.inj h).2
      have h3 := Sum.inl.inj h1
      rw [h2, show x = y by omega]
theorem MemoOk.len {m : Memo} {kvs : List (List Key × V)} (h : MemoOk m kvs) (hn : m.n ≤ 12) : kvs.length ≤ 4096 := by
  have := nodup_len (ys := (allSub m.n).map kN) h.1 fun k hk => by
    obtain ⟨kv, hkv, rfl⟩ := List.mem_map.mp hk
    obtain ⟨l, hs, hl, e, _⟩ := h.2 kv hkv
    rw [e]
    refine List.mem_map.mpr ⟨l, ?_, rfl⟩
    have := allSub_mem (Bst.mem l) m.n
    rwa [Bst.lst_mem hs hl] at this
  rw [List.length_map, List.length_map, allSub_len] at this
  exact Nat.le_trans this (Nat.pow_le_pow_right (by decide) hn)
theorem MemoOk.val {m : Memo} {kvs : List (List Key × V)} {l : List Nat} {v : V} (h : MemoOk m kvs) (e : valV kvs (kN l) = some v) : v = .int (m.rk (Bst.mem l)) := by
  unfold valV at e
  cases hf : kvs.find? fun kv => decide (kv.1 = kN l) with
  | none => rw [hf] at e; cases e
  | some kv =>
    rw [hf] at e
    have h1 := List.mem_of_find?_eq_some hf
    have h2 : kv.1 = kN l := by simpa using List.find?_some hf
    obtain ⟨l', _, _, e1, e2⟩ := h.2 kv h1
    have e3 : kv.2 = v := Option.some.inj e
    rw [← e3, e2, kN_inj (e1.symm.trans h2)]
theorem MemoOk.put {m : Memo} {kvs : List (List Key × V)} {l : List Nat} (h : MemoOk m kvs) (hs : l.Pairwise (· < ·)) (hl : ∀ e ∈ l, e < m.n) : MemoOk m (putK kvs (kN l) (.int (m.rk (Bst.mem l)))) := by
  refine ⟨(putK_keys h.1).1, fun kv hkv => ?_⟩
  unfold putK at hkv
  split at hkv
  · obtain ⟨x, hx, rfl⟩ := List.mem_map.mp hkv
    split
    · rename_i e
      exact ⟨l, hs, hl, e, rfl⟩
    · exact h.2 x hx
  · rcases List.mem_append.mp hkv with hx | hx
    · exact h.2 kv hx
    · have : kv = (kN l, .int (m.rk (Bst.mem l))) := by simpa using hx
      subst this
      exact ⟨l, hs, hl, rfl, rfl⟩
theorem nd_map {α β : Type} {f : α → β} : ∀ {xs : List α} {a b : α}, (xs.map f).Nodup → a ∈ xs → b ∈ xs → f a = f b → a = b
  | [], _, _, _, h, _, _ => by cases h
  | x :: xs, a, b, hn, ha, hb, e => by
    rw [List.map_cons, List.nodup_cons] at hn
    rcases List.mem_cons.mp ha with rfl | ha' <;> rcases List.mem_cons.mp hb with rfl | hb'
    · rfl
    · exact absurd (e ▸ List.mem_map_of_mem hb') hn.1
    · exact absurd (e ▸ List.mem_map_of_mem ha') hn.1
    · exact nd_map hn.2 ha' hb' e
theorem Go.put {M : Mw} {H0 H : Hp} {m : Memo} {kvs kvs' : List (List Key × V)} (g : Go M H0 H) (hm : m ∈ M.ms) (h : H m.d = some (.dT kvs)) (ok : MemoOk m kvs') : Go M H0 (upd H m.d (.dT kvs')) := by
  refine ⟨g.a, ⟨fun x hx => ?_, fun t ht => ?_, g.b.nd⟩, fun x o e n => ?_⟩
  · obtain ⟨hn, k, e, ke⟩ := g.b.mem x hx
    by_cases he : x.d = m.d
    · obtain rfl := nd_map g.b.nd hx hm he
      exact ⟨hn, kvs', upd_same, ok⟩
    · exact ⟨hn, k, (upd_ne he).trans e, ke⟩
  · obtain ⟨ps, e, k⟩ := g.b.tab t ht
    exact ⟨ps, (upd_ne (fun z => by rw [z, h] at e; cases e)).trans e, k⟩
  · rw [upd_ne (fun (z : x = m.d) => n (by rw [z]; exact List.mem_append_left _ (List.mem_map_of_mem hm)))]
    exact g.keep x o e n

theorem pe_either {X : Cx} {e : Expr} {t1 t2 : TE} (h1 : PE X e t1) (h2 : PE X e t2) : PE X e (fun σ H Q => t1 σ H Q ∨ t2 σ H Q) :=
  ⟨fun pins s σ H Q I h => h.elim (h1.run pins s σ H Q I) (h2.run pins s σ H Q I)⟩
/-! ### classes -/
structure CF (K : PySem.W.Frag) where
  C : Addr
  cl : Cls K C
  nSize : NoAttr K C "size"
  nKnown : NoAttr K C "known"
structure MF (K : PySem.W.Frag) (C : Addr) (m qual : Str) (st : Stmt) (ps : List Str) where
  f : Addr
  fd : FuncData
  F : Fun K m qual st f fd
  me : Meth K C m f
  b : Binds K fd ps []
/-- what is known of an object of the class: its fields in H, its memo; stays from heap to heap -/
structure ObP (C : Addr) where
  O : Mw → Hp → Addr → Memo → Prop
  ins : ∀ {M H p m}, O M H p m → ∃ dx fs, H p = some (.ins C dx fs) ∧ fs.lookup ("size" : Str) = some (.int (m.n : Nat)) ∧ fs.lookup ("known" : Str) = some (.ref m.d) ∧ fs.lookup ("rank" : Str) = none ∧ fs.lookup ("compute" : Str) = none ∧ fs.lookup ("is_free" : Str) = none ∧ fs.lookup ("whole" : Str) = none
  mem : ∀ {M H p m}, O M H p m → m ∈ M.ms
  go : ∀ {M H H' p m}, O M H p m → Go M H H' → O M H' p m
section
variable {P : Program} {w : World} {K : PySem.W.Frag} {mg : Str → Option Value} {base : Heap}
/-- compute of a sorted tuple -/
def spComp (K : PySem.W.Frag) {C : Addr} (B : ObP C) : Sp := fun vs H Q _ => ∃ (M : Mw) (p a : Addr) (m : Memo) (l : List Nat), vs = [.ref p, .ref a] ∧ Mok M H ∧ B.O M H p m ∧ SqT K H a (nV l) ∧ l.Pairwise (· < ·) ∧ (∀ e ∈ l, e < m.n) ∧
  ∀ H', Go M H H' → Q (.int (m.rk (Bst.mem l))) H'
def spRank (K : PySem.W.Frag) {C : Addr} (B : ObP C) : Sp := fun vs H Q _ => ∃ (M : Mw) (p a : Addr) (m : Memo) (l : List Nat), vs = [.ref p, .ref a] ∧ Mok M H ∧ B.O M H p m ∧ SqL K H a (nV l) ∧ l.Nodup ∧ (∀ e ∈ l, e < m.n) ∧
  ∀ H', Go M H H' → Q (.int (m.rk (Bst.mem l))) H'
theorem ok_rank {kc : Nat} {cst : Stmt} {cq : Str} (T : Bn mg) (C : CF K) (B : ObP C.C) (C_rank : MF K C.C "rank" "Ranked.rank" s_Ranked_rank ["self", "members"]) (C_compute : MF K C.C "compute" cq cst ["self", "members"])
    (G_C_compute : FnOk P w K mg base CX0 kc C_compute.f C_compute.fd ["self", "members"] (spComp K B)) : FnOk P w K mg base CX0 (kc + 1) C_rank.f C_rank.fd ["self", "members"] (spRank K B) := by
  refine C_rank.F.ok sc_Ranked_rank (fun vs H Q E h => ?_) (fun cdv A outer s H vs Q E hr h => ?_)
  · obtain ⟨M, p, a, m, l, rfl, _⟩ := h
    rfl
  · obtain ⟨M, p, a, m, l, rfl, mk, hO, hA, hn, hl, q⟩ := h
    -- 0 self, 1 members, 2 key
    refine ⟨_, (pss_cons (ps_set (i := 2) sc_Ranked_rank.nd rfl (.inl rfl) (pe_callTy (call_tuple_ofK (K := K)) (by rfl) T.m_tuple (by decide +kernel) (pa_cons (pe_callB (cr_sortedIK (K := K)) (by rfl) T.m_sorted (by decide +kernel) (pa_cons (pv 1) pa_nil)) pa_nil)))
      (pss_cons (ps_if (pt_cmp (pc_dnotin (hu_of hr) (pv 2) (pe_fldK (K := K) (pv 0) rfl))) (pss_one (ps_dput (hu_of hr) (pe_fldK (K := K) (pv 0) rfl) (pv 2) (pe_meth (pv 0) C.cl C_compute.me G_C_compute (hr.mono (by first | decide | omega)) C_compute.b .nil pass0 (pa_cons (pv 2) pa_nil)) rfl)) pss_nil)
      (pss_one (ps_ret (pe_dget (hu_of hr) (pe_fldK (K := K) (pv 0) rfl) (pv 2) (fun _ _ => rfl)))))), ?_⟩
    refine ⟨.ref a, rfl, a, l.map Int.ofNat, rfl, int_n ▸ hA, fun ns' b perm rising nb => ?_⟩
    rw [sort_set hn hl perm rising]
    generalize hl' : Bst.lst m.n (Bst.mem l) = l'
    have hs' : l'.Pairwise (· < ·) := hl' ▸ Bst.lst_sorted _ _
    have hm' : ∀ e ∈ l', e < m.n := fun e he => by
      rw [← hl', Bst.mem_lst] at he
      exact he.1
    have hmem : Bst.mem l' = Bst.mem l := by
      rw [← hl']
      exact Bst.mem_of_lst fun x hx => hl x (Bst.mem_true.mp hx)
    rw [← hmem] at q
    have g1 : Go M H (upd H b (.lst (nV l'))) := (Go.refl mk).new nb
    have hb1 : (upd H b (.lst (nV l'))) b = some (.lst (nV l')) := upd_same
    generalize upd H b (.lst (nV l')) = H1 at g1 hb1
    refine ⟨b, _, rfl, .inl ⟨SqL.of hb1, fun t nt => ?_⟩⟩
    have g2 : Go M H (upd H1 t (.tup (nV l'))) := g1.new nt
    have ht2 : (upd H1 t (.tup (nV l'))) t = some (.tup (nV l')) := upd_same
    generalize upd H1 t (.tup (nV l')) = H2 at g2 ht2
    have hk : nV l' = (kN l').map kV := by simp [kV]
    obtain ⟨dx, fs, hp, f1, f2, f3, f4, f5, f6⟩ := B.ins hO
    have hp2 := g2.at hp
    have hmm := B.mem hO
    obtain ⟨hn12, kvs, hd, hok⟩ := g2.b.mem m hmm
    refine ⟨.ref t, rfl, .ref p, rfl, p, C.C, dx, fs, _, rfl, hp2, C.cl, C.nKnown, f2, m.d, _, rfl, DGet.t hd (hk ▸ ht2), _, rfl, ?_⟩
    cases hv : valV kvs (kN l') with
    | some v =>
      have ev := hok.val hv
      exact iteF ⟨.ref p, rfl, p, C.C, dx, fs, _, rfl, hp2, C.cl, C.nKnown, f2, .ref t, rfl, m.d, _, rfl, hv ▸ DGet.t hd (hk ▸ ht2), ev ▸ q _ g2⟩
    | none =>
      refine iteT ⟨.ref p, rfl, p, dx, fs, rfl, hp2, f4, .ref t, rfl, M, p, t, m, l', rfl, g2.b, B.go hO g2, SqT.of ht2, hs', hm', fun H3 g3 => ?_⟩
      have g13 := g2.trans g3
      have hp3 := g3.at hp2
      have ht3 := g3.at ht2
      obtain ⟨_, kvs3, hd3, hok3⟩ := g3.b.mem m hmm
      refine ⟨.ref p, rfl, p, C.C, dx, fs, _, rfl, hp3, C.cl, C.nKnown, f2, .ref t, rfl, m.d, _, rfl, DPut.t hd3 (hk ▸ ht3) (szl (Nat.le_trans (hok3.len hn12) (by decide))), ?_⟩
      have g4 := g13.put hmm hd3 (hok3.put hs' hm')
      have hp4 := (g13.b |> fun z => (Go.refl z).put hmm hd3 (hok3.put hs' hm')).at hp3
      have ht4 := (g13.b |> fun z => (Go.refl z).put hmm hd3 (hok3.put hs' hm')).at ht3
      have hg := DGet.t (H := upd H3 m.d (.dT (putK kvs3 (kN l') (.int (m.rk (Bst.mem l')))))) (k := kN l') upd_same (hk ▸ ht4)
      rw [valV_put, if_pos rfl] at hg
      exact ⟨.ref p, rfl, p, C.C, dx, fs, _, rfl, hp4, C.cl, C.nKnown, f2, .ref t, rfl, m.d, _, rfl, hg, q _ g4⟩
/-- the program's test of a set -/
def fr (m : Memo) (A : Bst.S) : Bool := decide (m.rk A = (Bst.cnt m.n A : Nat))
theorem len_cnt {n : Nat} {l : List Nat} (hn : l.Nodup) (hl : ∀ e ∈ l, e < n) : l.length = Bst.cnt n (Bst.mem l) := by
  rw [← Bst.length_lst]
  refine Nat.le_antisymm (nodup_len hn fun e he => ?_) (nodup_len (Bst.lst_nodup _ _) fun e he => ?_)
  · exact Bst.mem_lst.mpr ⟨hl e he, Bst.mem_true.mpr he⟩
  · exact Bst.mem_true.mp (Bst.mem_lst.mp he).2
def spFree (K : PySem.W.Frag) {C : Addr} (B : ObP C) : Sp := fun vs H Q _ => ∃ (M : Mw) (p a : Addr) (m : Memo) (l : List Nat), vs = [.ref p, .ref a] ∧ Mok M H ∧ B.O M H p m ∧ SqL K H a (nV l) ∧ l.Nodup ∧ (∀ e ∈ l, e < m.n) ∧
  ∀ H', Go M H H' → Q (.bl (fr m (Bst.mem l))) H'
theorem ok_is_free {k : Nat} (T : Bn mg) (C : CF K) (B : ObP C.C) (C_is_free : MF K C.C "is_free" "Ranked.is_free" s_Ranked_is_free ["self", "members"]) (C_rank : MF K C.C "rank" "Ranked.rank" s_Ranked_rank ["self", "members"])
    (G_C_rank : FnOk P w K mg base CX0 k C_rank.f C_rank.fd ["self", "members"] (spRank K B)) : FnOk P w K mg base CX0 (k + 1) C_is_free.f C_is_free.fd ["self", "members"] (spFree K B) := by
  refine C_is_free.F.ok sc_Ranked_is_free (fun vs H Q E h => ?_) (fun cdv A outer s H vs Q E hr h => ?_)
  · obtain ⟨M, p, a, m, l, rfl, _⟩ := h
    rfl
  · obtain ⟨M, p, a, m, l, rfl, mk, hO, hA, hn, hl, q⟩ := h
    refine ⟨_, (pss_one (ps_ret (pe_cmpR op_eq (pe_meth (pv 0) C.cl C_rank.me G_C_rank (hr.mono (by first | decide | omega)) C_rank.b .nil pass0 (pa_cons (pv 1) pa_nil)) (pe_callB (call_len_seqK (K := K)) (by rfl) T.m_len PySem.boot_len (pa_cons (pv 1) pa_nil)) (nomark _)))), ?_⟩
    obtain ⟨dx, fs, hp, f1, f2, f3, f4, f5, f6⟩ := B.ins hO
    refine ⟨.ref p, rfl, p, dx, fs, rfl, hp, f3, .ref a, rfl, M, p, a, m, l, rfl, mk, hO, hA, hn, hl, fun H1 g1 => ⟨.ref a, rfl, a, _, rfl, .inl (g1.l hA), rfl, ?_⟩⟩
    have e : decide (V.int (m.rk (Bst.mem l)) = V.int ((nV l).length : Nat)) = fr m (Bst.mem l) := by
      unfold fr
      rw [nV_len, decide_eq_decide, len_cnt hn hl]
      exact ⟨fun z => V.int.inj z, fun z => by rw [z]⟩
    rw [e]
    exact q H1 g1
def spWhole (K : PySem.W.Frag) {C : Addr} (B : ObP C) : Sp := fun vs H Q _ => ∃ (M : Mw) (p : Addr) (m : Memo), vs = [.ref p] ∧ Mok M H ∧ B.O M H p m ∧ m.n ≤ 1000 ∧ ∀ H', Go M H H' → Q (.int (m.rk (Bst.mem (List.range m.n)))) H'
theorem ok_whole {k : Nat} (T : Bn mg) (C : CF K) (B : ObP C.C) (C_whole : MF K C.C "whole" "Ranked.whole" s_Ranked_whole ["self"]) (C_rank : MF K C.C "rank" "Ranked.rank" s_Ranked_rank ["self", "members"])
    (G_C_rank : FnOk P w K mg base CX0 k C_rank.f C_rank.fd ["self", "members"] (spRank K B)) : FnOk P w K mg base CX0 (k + 1) C_whole.f C_whole.fd ["self"] (spWhole K B) := by
  refine C_whole.F.ok sc_Ranked_whole (fun vs H Q E h => ?_) (fun cdv A outer s H vs Q E hr h => ?_)
  · obtain ⟨M, p, m, rfl, _⟩ := h
    rfl
  · obtain ⟨M, p, m, rfl, mk, hO, hn, q⟩ := h
    refine ⟨_, (pss_one (ps_ret (pe_meth (pv 0) C.cl C_rank.me G_C_rank (hr.mono (by first | decide | omega)) C_rank.b .nil pass0 (pa_cons (pe_listRg rfl (by rfl) T.m_list (prg_1 (by rfl) T.m_range (pe_fldK (K := K) (pv 0) rfl))) pa_nil)))), ?_⟩
    obtain ⟨dx, fs, hp, f1, f2, f3, f4, f5, f6⟩ := B.ins hO
    refine ⟨.ref p, rfl, p, dx, fs, rfl, hp, f3, .ref p, rfl, p, C.C, dx, fs, _, rfl, hp, C.cl, C.nSize, f1, m.n, rfl, RgOk.of_le (by decide) (by omega) (by decide) (by omega), fun t nt => ?_⟩
    rw [nV_range]
    have g1 : Go M H (upd H t (.lst (nV (List.range m.n)))) := (Go.refl mk).new nt
    exact ⟨M, p, t, m, List.range m.n, rfl, g1.b, B.go hO g1, SqL.of upd_same, List.nodup_range, fun e he => List.mem_range.mp he, fun H1 g2 => q H1 (g1.trans g2)⟩
end
end Bw

set_option Elab.async false
set_option linter.all false
set_option maxRecDepth 100000
set_option maxHeartbeats 2000000
namespace Bw
open PySem PySem.Spec PyProof.Rows L2
theorem mem_app {a b : List Nat} {e : Nat} : Bst.mem (a ++ b) e = (Bst.mem a e || Bst.mem b e) := by simp [Bst.mem]
theorem mem_snoc (l : List Nat) (x : Nat) : Bst.mem (l ++ [x]) = Bst.ins (Bst.mem l) x := by
  funext e
  unfold Bst.mem Bst.ins
  by_cases h : e = x <;> simp [h]
theorem mem_swap (l : List Nat) (o x : Nat) : Bst.mem (l.filter (fun e => decide (e ≠ o)) ++ [x]) = Bst.ins (Bst.del (Bst.mem l) o) x := by
  rw [mem_snoc]
  congr 1
  funext e
  unfold Bst.mem Bst.del
  by_cases h : e = o <;> simp [h]
theorem nodup_snoc {l : List Nat} {x : Nat} (h : l.Nodup) (hx : x ∉ l) : (l ++ [x]).Nodup := List.nodup_append.mpr ⟨h, by simp, fun a ha b hb => by
  have : b = x := by simpa using hb
  exact fun z => hx (by rw [← this, ← z]; exact ha)⟩
theorem lt_snoc {l : List Nat} {x n : Nat} (h : ∀ e ∈ l, e < n) (hx : x < n) : ∀ e ∈ l ++ [x], e < n := fun e he => by
  rcases List.mem_append.mp he with h1 | h1
  · exact h e h1
  · have : e = x := by simpa using h1
    omega
theorem nodup_lt_len {l : List Nat} {n : Nat} (hn : l.Nodup) (hl : ∀ e ∈ l, e < n) : l.length ≤ n := by
  have := nodup_len (ys := List.range n) hn fun e he => List.mem_range.mpr (hl e he)
  rwa [List.length_range] at this
theorem nV_snoc (l : List Nat) (x : Nat) : nV l ++ [V.int (x : Nat)] = nV (l ++ [x]) := by rw [nV_app]; rfl
theorem dec_n {a b : Nat} : decide (V.int (a : Nat) = V.int (b : Nat)) = decide (a = b) := by
  rw [decide_eq_decide]
  exact ⟨fun z => by have := V.int.inj z; omega, fun z => by rw [z]⟩
theorem dec_ne {a b : Nat} : (!decide (V.int (a : Nat) = V.int (b : Nat))) = decide (a ≠ b) := by
  rw [dec_n]
  by_cases h : a = b <;> simp [h]
section
variable {P : Program} {w : World} {K : PySem.W.Frag} {mg : Str → Option Value} {base : Heap}
def spChanged : Sp := fun vs H Q _ => ∃ (M : Mw) (c : Addr) (ch : List Nat) (o x : Nat), vs = [.ref c, .int (o : Nat), .int (x : Nat)] ∧ Mok M H ∧ H c = some (.lst (nV ch)) ∧ ch.length ≤ 1000 ∧
  ∀ H' p, Go M H H' → H p = none → H' p = some (.lst (nV (ch.filter (fun e => decide (e ≠ o)) ++ [x]))) → Q (.ref p) H'
theorem ok_changed {f : Addr} {fd : FuncData} {k : Nat} (T : Bn mg) (F : Fun K "changed" "changed" s_changed f fd) : FnOk P w K mg base CX0 (k + 1) f fd ["chosen", "out", "put"] spChanged := by
  refine F.ok sc_changed (fun vs H Q E h => ?_) (fun cdv A outer s H vs Q E hr h => ?_)
  · obtain ⟨M, c, ch, o, x, rfl, _⟩ := h
    rfl
  · obtain ⟨M, c, ch, o, x, rfl, mk, hc, hlen, q⟩ := h
    -- 0 chosen, 1 out, 2 put, 3 element
    refine ⟨_, (pss_one (ps_ret (pe_op op_cat (pe_lc (own := [("element", 3)]) (by rfl) sc_changed.nd (pi_listK (K := K) (pv 0)) (blkOk_by (by rfl)) (fun _ _ _ _ _ => (pg_name (i := 3) sc_changed.nd rfl (.inl rfl))) (fun _ _ _ _ _ => (pts_one (pt_cmpR op_ne (pv 3) (pv 1) (nomark _)))) (fun _ _ _ _ _ => (pv 3))) (pe_lst (pa_cons (pv 2) pa_nil))))), ?_⟩
    refine ⟨.ref c, rfl, c, rfl, ⟨_, SqL.of hc⟩, fun D nD => lcL (M := M) (SqL.of hc) mk nD (fun e => if decide (e ≠ o) = true then some (.int (e : Nat)) else none) (by omega) (fun i e H2 he g2 B C kB kC => ?_) (fun H2 g2 hD => ?_)⟩
    · refine ⟨rfl, .int (e : Nat), rfl, .int (o : Nat), rfl, rfl, _, rfl, ?_⟩
      rw [dec_ne]
      by_cases h : e = o
      · rw [decide_eq_false (fun z => z h)]
        exact iteF (kC _ (.refl g2.b) (by simp [h]))
      · rw [decide_eq_true h]
        exact iteT ⟨_, rfl, kB _ _ (.refl g2.b) (by simp [h])⟩
    · rw [fm_filter] at hD
      have hf := List.length_filter_le (fun e => decide (e ≠ o)) ch
      refine ⟨.int (x : Nat), rfl, by show 1 ≤ sizeLine; decide, fun t nt => ?_⟩
      have g3 : Go M H (upd H2 t (.lst [.int (x : Nat)])) := g2.new nt
      have nDt := ne_of_none hD nt
      refine ⟨D, t, _, [.int (x : Nat)], rfl, rfl, (upd_ne nDt).trans hD, upd_same, ?_, fun p np => ?_⟩
      · rw [nV_len]; exact sz (by simp only [List.length_cons, List.length_nil]; omega)
      · rw [nV_snoc]
        exact q _ p (g3.new np) (g3.back np) upd_same
/-- the two objects of the search: of one size -/
structure PairAt {C1 C2 : Addr} (B1 : ObP C1) (B2 : ObP C2) (M : Mw) (H : Hp) (p1 p2 : Addr) (m1 m2 : Memo) (m : Nat) : Prop where
  mok : Mok M H
  o1 : B1.O M H p1 m1
  o2 : B2.O M H p2 m2
  n1 : m1.n = m
  n2 : m2.n = m
  le : m ≤ 12
theorem PairAt.go {C1 C2 : Addr} {B1 : ObP C1} {B2 : ObP C2} {M : Mw} {H H' : Hp} {p1 p2 : Addr} {m1 m2 : Memo} {m : Nat} (h : PairAt B1 B2 M H p1 p2 m1 m2 m) (g : Go M H H') : PairAt B1 B2 M H' p1 p2 m1 m2 m :=
  ⟨g.b, B1.go h.o1 g, B2.go h.o2 g, h.n1, h.n2, h.le⟩
/-- the chosen list -/
structure ChAt (H : Hp) (c : Addr) (ch : List Nat) (m : Nat) : Prop where
  at_ : H c = some (.lst (nV ch))
  nd : ch.Nodup
  lt : ∀ e ∈ ch, e < m
theorem ChAt.go {M : Mw} {H H' : Hp} {c : Addr} {ch : List Nat} {m : Nat} (h : ChAt H c ch m) (g : Go M H H') : ChAt H' c ch m := ⟨g.at h.at_, h.nd, h.lt⟩
variable {CC CS : CF K} {B1 : ObP CC.C} {B2 : ObP CS.C}
def spFollows (B1 : ObP CC.C) (B2 : ObP CS.C) : Sp := fun vs H Q _ => ∃ (M : Mw) (p1 p2 c : Addr) (m1 m2 : Memo) (m : Nat) (ch : List Nat) (x y : Nat), vs = [.ref p1, .ref p2, .ref c, .int (x : Nat), .int (y : Nat)] ∧ PairAt B1 B2 M H p1 p2 m1 m2 m ∧ ChAt H c ch m ∧ x < m ∧ y < m ∧
  ∀ H', Go M H H' → Q (.bl (Bst.fol (fr m1) (fr m2) (Bst.mem ch) x y)) H'
theorem ok_follows {kf : Nat} {f : Addr} {fd : FuncData} (hk : 1 ≤ kf) (T : Bn mg) (F : Fun K "follows" "follows" s_follows f fd) (CC_is_free : MF K CC.C "is_free" "Ranked.is_free" s_Ranked_is_free ["self", "members"]) (CS_is_free : MF K CS.C "is_free" "Ranked.is_free" s_Ranked_is_free ["self", "members"])
    (G_CC_is_free : FnOk P w K mg base CX0 kf CC_is_free.f CC_is_free.fd ["self", "members"] (spFree K B1)) (G_CS_is_free : FnOk P w K mg base CX0 kf CS_is_free.f CS_is_free.fd ["self", "members"] (spFree K B2))
    (D_changed : Def K mg "changed" s_changed) (G_changed : FnOk P w K mg base CX0 1 D_changed.f D_changed.fd ["chosen", "out", "put"] spChanged) : FnOk P w K mg base CX0 (kf + 1) f fd ["first", "second", "chosen", "one", "two"] (spFollows B1 B2) := by
  refine F.ok sc_follows (fun vs H Q E h => ?_) (fun cdv A outer s H vs Q E hr h => ?_)
  · obtain ⟨M, p1, p2, c, m1, m2, m, ch, x, y, rfl, _⟩ := h
    rfl
  · obtain ⟨M, p1, p2, c, m1, m2, m, ch, x, y, rfl, hP, hC, hx, hy, q⟩ := h
    -- 0 first, 1 second, 2 chosen, 3 one, 4 two
    refine ⟨_, (pss_cons (ps_if (PW.pt (pw_and (pt_cmpR (op_notIn_seqK (K := K)) (pv 3) (pv 2) rfl) (pw_and1 (pt_cmpR (op_in_seqK (K := K)) (pv 4) (pv 2) rfl)))) (pss_one (ps_ret (pe_meth (pv 1) CS.cl CS_is_free.me G_CS_is_free (hr.mono (by first | decide | omega)) CS_is_free.b .nil pass0 (pa_cons (pe_call G_changed (hr.mono (by first | decide | omega)) (by rfl) D_changed.g D_changed.F.kp (bd_changed D_changed.F) .nil pass0 (pa_cons (pv 2) (pa_cons (pv 4) (pa_cons (pv 3) pa_nil)))) pa_nil)))) pss_nil)
      (pss_cons (ps_if (PW.pt (pw_and (pt_cmpR (op_in_seqK (K := K)) (pv 3) (pv 2) rfl) (pw_and1 (pt_cmpR (op_notIn_seqK (K := K)) (pv 4) (pv 2) rfl)))) (pss_one (ps_ret (pe_meth (pv 0) CC.cl CC_is_free.me G_CC_is_free (hr.mono (by first | decide | omega)) CC_is_free.b .nil pass0 (pa_cons (pe_call G_changed (hr.mono (by first | decide | omega)) (by rfl) D_changed.g D_changed.F.kp (bd_changed D_changed.F) .nil pass0 (pa_cons (pv 2) (pa_cons (pv 3) (pa_cons (pv 4) pa_nil)))) pa_nil)))) pss_nil)
      (pss_one (ps_ret pe_bl)))), ?_⟩
    obtain ⟨hc, hn, hl⟩ := id hC
    have hlen := nodup_lt_len hn hl
    have h12 := hP.le
    have two : ∀ (o z : Nat), o ∈ ch → z ∉ ch → z < m → (ch.filter (fun e => decide (e ≠ o)) ++ [z]).Nodup ∧ ∀ e ∈ ch.filter (fun e => decide (e ≠ o)) ++ [z], e < m := fun o z ho hz hzm =>
      ⟨nodup_snoc (hn.filter _) (fun h => hz (List.mem_filter.mp h).1), lt_snoc (fun e he => hl e (List.mem_filter.mp he).1) hzm⟩
    refine ⟨.int (x : Nat), rfl, .ref c, rfl, c, _, rfl, .inl (SqL.of hc), rfl, flat_nV _, _, rfl, ?_⟩
    rw [inV_n]
    by_cases hxc : x ∈ ch
    · rw [decide_eq_true hxc]
      refine iteF (iteF ⟨.int (x : Nat), rfl, .ref c, rfl, c, _, rfl, .inl (SqL.of hc), rfl, flat_nV _, _, rfl, ?_⟩)
      rw [inV_n, decide_eq_true hxc]
      refine iteT ⟨.int (y : Nat), rfl, .ref c, rfl, c, _, rfl, .inl (SqL.of hc), rfl, flat_nV _, _, rfl, ?_⟩
      rw [inV_n]
      by_cases hyc : y ∈ ch
      · rw [decide_eq_true hyc]
        refine iteF ?_
        have hq := q H (Go.refl hP.mok)
        rw [show Bst.fol (fr m1) (fr m2) (Bst.mem ch) x y = false from by unfold Bst.fol; simp [Bst.mem, hxc, hyc]] at hq
        exact hq
      · rw [decide_eq_false hyc]
        obtain ⟨d1, d2⟩ := two x y hxc hyc hy
        obtain ⟨dx, fs, hp, f1, f2, f3, f4, f5, f6⟩ := B1.ins hP.o1
        refine iteT ⟨.ref p1, rfl, p1, dx, fs, rfl, hp, f5, .ref c, rfl, .int (x : Nat), rfl, .int (y : Nat), rfl, M, c, ch, x, y, rfl, hP.mok, hc, by omega, fun H1 d g1 nd hd => ?_⟩
        refine ⟨M, p1, d, m1, _, rfl, g1.b, B1.go hP.o1 g1, SqL.of hd, d1, fun e he => by rw [hP.n1]; exact d2 e he, fun H2 g2 => ?_⟩
        have hq := q H2 (g1.trans g2)
        rw [show Bst.fol (fr m1) (fr m2) (Bst.mem ch) x y = fr m1 (Bst.ins (Bst.del (Bst.mem ch) x) y) from by unfold Bst.fol; simp [Bst.mem, hxc, hyc]] at hq
        rw [mem_swap]
        exact hq
    · rw [decide_eq_false hxc]
      refine iteT ⟨.int (y : Nat), rfl, .ref c, rfl, c, _, rfl, .inl (SqL.of hc), rfl, flat_nV _, _, rfl, ?_⟩
      rw [inV_n]
      by_cases hyc : y ∈ ch
      · rw [decide_eq_true hyc]
        obtain ⟨d1, d2⟩ := two y x hyc hxc hx
        obtain ⟨dx, fs, hp, f1, f2, f3, f4, f5, f6⟩ := B2.ins hP.o2
        refine iteT ⟨.ref p2, rfl, p2, dx, fs, rfl, hp, f5, .ref c, rfl, .int (y : Nat), rfl, .int (x : Nat), rfl, M, c, ch, y, x, rfl, hP.mok, hc, by omega, fun H1 d g1 nd hd => ?_⟩
        refine ⟨M, p2, d, m2, _, rfl, g1.b, B2.go hP.o2 g1, SqL.of hd, d1, fun e he => by rw [hP.n2]; exact d2 e he, fun H2 g2 => ?_⟩
        have hq := q H2 (g1.trans g2)
        rw [show Bst.fol (fr m1) (fr m2) (Bst.mem ch) x y = fr m2 (Bst.ins (Bst.del (Bst.mem ch) y) x) from by unfold Bst.fol; simp [Bst.mem, hxc, hyc]] at hq
        rw [mem_swap]
        exact hq
      · rw [decide_eq_false hyc]
        refine iteF ⟨.int (x : Nat), rfl, .ref c, rfl, c, _, rfl, .inl (SqL.of hc), rfl, flat_nV _, _, rfl, ?_⟩
        rw [inV_n, decide_eq_false hxc]
        refine iteF (iteF ?_)
        have hq := q H (Go.refl hP.mok)
        rw [show Bst.fol (fr m1) (fr m2) (Bst.mem ch) x y = false from by unfold Bst.fol; simp [Bst.mem, hxc, hyc]] at hq
        exact hq
/-- the elements of the layer that end a row -/
def endsL (m2 : Memo) (A : Bst.S) (l : List Nat) : List Nat := l.filter fun e => !A e && fr m2 (Bst.ins A e)
def spEnds (B2 : ObP CS.C) : Sp := fun vs H Q _ => ∃ (M : Mw) (p2 c a : Addr) (m2 : Memo) (ch l : List Nat), vs = [.ref p2, .ref c, .ref a] ∧ Mok M H ∧ B2.O M H p2 m2 ∧ m2.n ≤ 12 ∧ ChAt H c ch m2.n ∧ H a = some (.lst (nV l)) ∧ (∀ e ∈ l, e < m2.n) ∧ l.length ≤ 1000 ∧
  ∀ H' p, Go M H H' → H p = none → H' p = some (.lst (nV (endsL m2 (Bst.mem ch) l))) → Q (.ref p) H'
theorem ok_ends_in {kf : Nat} {f : Addr} {fd : FuncData} (T : Bn mg) (F : Fun K "ends_in" "ends_in" s_ends_in f fd) (CS_is_free : MF K CS.C "is_free" "Ranked.is_free" s_Ranked_is_free ["self", "members"])
    (G_CS_is_free : FnOk P w K mg base CX0 kf CS_is_free.f CS_is_free.fd ["self", "members"] (spFree K B2)) : FnOk P w K mg base CX0 (kf + 1) f fd ["second", "chosen", "layer"] (spEnds B2) := by
  refine F.ok sc_ends_in (fun vs H Q E h => ?_) (fun cdv A outer s H vs Q E hr h => ?_)
  · obtain ⟨M, p2, c, a, m2, ch, l, rfl, _⟩ := h
    rfl
  · obtain ⟨M, p2, c, a, m2, ch, l, rfl, mk, hO, hm, hC, ha, hl, hl2, q⟩ := h
    -- 0 second, 1 chosen, 2 layer, 3 element
    refine ⟨_, (pss_one (ps_ret (pe_lc (own := [("element", 3)]) (by rfl) sc_ends_in.nd (pi_listK (K := K) (pv 2)) (blkOk_by (by rfl)) (fun _ _ _ _ _ => (pg_name (i := 3) sc_ends_in.nd rfl (.inl rfl))) (fun _ _ _ _ _ => (pts_one (PW.pt (pw_and (pt_cmpR (op_notIn_seqK (K := K)) (pv 3) (pv 1) rfl) (pw_and1 (pt_val (pe_meth (pv 0) CS.cl CS_is_free.me G_CS_is_free (hr.mono (by first | decide | omega)) CS_is_free.b .nil pass0 (pa_cons (pe_op op_cat (pv 1) (pe_lst (pa_cons (pv 3) pa_nil))) pa_nil)))))))) (fun _ _ _ _ _ => (pv 3))))), ?_⟩
    refine ⟨.ref a, rfl, a, rfl, ⟨_, SqL.of ha⟩, fun D nD => lcL (M := M) (SqL.of ha) mk nD (fun e => if (!Bst.mem ch e && fr m2 (Bst.ins (Bst.mem ch) e)) = true then some (.int (e : Nat)) else none) (by omega) (fun i e H2 he g2 B C kB kC => ?_) (fun H2 g2 hD => ?_)⟩
    · obtain ⟨hc, hn, hlc⟩ := hC.go g2
      have hlen := nodup_lt_len hn hlc
      refine ⟨rfl, .int (e : Nat), rfl, .ref c, rfl, c, _, rfl, .inl (SqL.of hc), rfl, flat_nV _, _, rfl, ?_⟩
      rw [inV_n]
      by_cases h : e ∈ ch
      · rw [decide_eq_true h]
        exact iteF (iteF (kC _ (.refl g2.b) (by simp [Bst.mem, h])))
      · rw [decide_eq_false h]
        obtain ⟨dx, fs, hp, f1, f2, f3, f4, f5, f6⟩ := B2.ins (B2.go hO g2)
        have he2 := hl e (List.mem_of_getElem? he)
        refine iteT ⟨.ref p2, rfl, p2, dx, fs, rfl, hp, f5, .ref c, rfl, .int (e : Nat), rfl, by show 1 ≤ sizeLine; decide, fun t nt => ?_⟩
        have g3 : Go M H2 (upd H2 t (.lst [.int (e : Nat)])) := (Go.refl g2.b).new nt
        refine ⟨c, t, _, [.int (e : Nat)], rfl, rfl, g3.at hc, upd_same, ?_, fun p np => ?_⟩
        · rw [nV_len]; exact sz (by simp only [List.length_cons, List.length_nil]; omega)
        · rw [nV_snoc]
          have g4 := g3.new (o := .lst (nV (ch ++ [e]))) np
          refine ⟨M, p2, p, m2, _, rfl, g4.b, B2.go hO (g2.trans g4), SqL.of upd_same, nodup_snoc hn h, lt_snoc hlc he2, fun H5 g5 => ⟨_, rfl, ?_⟩⟩
          rw [mem_snoc]
          by_cases hf : fr m2 (Bst.ins (Bst.mem ch) e) = true
          · rw [hf]
            exact iteT ⟨_, rfl, kB _ _ (g4.trans g5) (by rw [hf]; simp [Bst.mem, h])⟩
          · rw [Bool.not_eq_true] at hf
            rw [hf]
            exact iteF (kC _ (g4.trans g5) (by rw [hf]; simp))
    · rw [fm_filter] at hD
      exact q H2 D g2 nD hD
end
end Bw

set_option Elab.async false
set_option linter.all false
set_option maxRecDepth 100000
set_option maxHeartbeats 2000000
namespace Bw
open PySem PySem.Spec PyProof.Rows L2
section
variable {P : Program} {w : World} {K : PySem.W.Frag} {mg : Str → Option Value} {base : Heap} {CC CS : CF K} {B1 : ObP CC.C} {B2 : ObP CS.C}
/-- v is a list of these -/
def LAt (H : Hp) (v : V) (l : List Nat) : Prop := ∃ a, v = .ref a ∧ H a = some (.lst (nV l))
theorem LAt.go {M : Mw} {H H' : Hp} {v : V} {l : List Nat} (g : Go M H H') (h : LAt H v l) : LAt H' v l := by
  obtain ⟨a, rfl, e⟩ := h
  exact ⟨a, rfl, g.at e⟩
theorem LAt.hid {H : Hp} {p : Addr} {v : V} {l : List Nat} (h : LAt (Bw.hid H p) v l) : LAt H v l := by
  obtain ⟨a, rfl, e⟩ := h
  exact ⟨a, rfl, (hid_some e).2⟩
theorem LAt.hgo {M : Mw} {H H' : Hp} {p : Addr} {v : V} {l : List Nat} (g : Go M H H') (h : LAt (Bw.hid H p) v l) : LAt (Bw.hid H' p) v l := by
  obtain ⟨a, rfl, e⟩ := h
  exact ⟨a, rfl, (hid_at (hid_some e).1).trans (g.at (hid_some e).2)⟩
/-- a heap without two objects -/
abbrev hid2 (H : Hp) (R t : Addr) : Hp := hid (hid H R) t
theorem hid2_at {H : Hp} {R t x : Addr} (h1 : x ≠ R) (h2 : x ≠ t) : hid2 H R t x = H x := (hid_at h2).trans (hid_at h1)
theorem hid2_some {H : Hp} {R t x : Addr} {o : HO} (h : hid2 H R t x = some o) : x ≠ R ∧ x ≠ t ∧ H x = some o :=
  ⟨(hid_some (hid_some h).2).1, (hid_some h).1, (hid_some (hid_some h).2).2⟩
theorem hid2_go {M : Mw} {H H' : Hp} {R t x : Addr} {o : HO} (g : Go M H H') (h : hid2 H R t x = some o) (k : kept o = true := by rfl) : hid2 H' R t x = some o := by
  obtain ⟨a, b, c⟩ := hid2_some h
  rw [hid2_at a b]
  exact g.at c k
theorem hid2_u1 {H : Hp} {R t : Addr} {o : HO} : hid2 (upd H R o) R t = hid2 H R t := congrArg (fun z => hid z t) hid_upd
theorem hid2_u2 {H : Hp} {R t : Addr} {o : HO} : hid2 (upd H t o) R t = hid2 H R t := by
  funext x
  unfold hid2 hid upd
  by_cases h1 : x = t
  · rw [if_pos h1, if_pos h1]
  · rw [if_neg h1, if_neg h1, if_neg h1]
theorem LAt.h2go {M : Mw} {H H' : Hp} {R t : Addr} {v : V} {l : List Nat} (g : Go M H H') (h : LAt (hid2 H R t) v l) : LAt (hid2 H' R t) v l := by
  obtain ⟨a, rfl, e⟩ := h
  exact ⟨a, rfl, hid2_go g e⟩
theorem LAt.h2 {H : Hp} {R t : Addr} {v : V} {l : List Nat} (h : LAt (hid2 H R t) v l) : LAt H v l := by
  obtain ⟨a, rfl, e⟩ := h
  exact ⟨a, rfl, (hid2_some e).2.2⟩
theorem mem_nil : Bst.mem [] = fun _ => false := by funext e; simp [Bst.mem]
theorem lst_lt {m e : Nat} {A : Bst.S} (h : e ∈ Bst.lst m A) : e < m := (Bst.mem_lst.mp h).1
abbrev laysL (m : Nat) (m1 m2 : Memo) (A : Bst.S) : List (List Nat) := (Bst.lays m (fr m1) (fr m2) A).map (Bst.lst m)
def spLayers (B1 : ObP CC.C) (B2 : ObP CS.C) (tb : Addr) : Sp := fun vs H Q _ => ∃ (M : Mw) (p1 p2 c : Addr) (m1 m2 : Memo) (m : Nat) (ch : List Nat), vs = [.ref p1, .ref p2, .ref c] ∧ PairAt B1 B2 M H p1 p2 m1 m2 m ∧ tb ∈ M.tb ∧ ChAt H c ch m ∧
  ∀ H' R rs, Go M H H' → H R = none → H' R = some (.lst rs) → All2 (LAt H') rs (laysL m m1 m2 (Bst.mem ch)) → Q (.ref R) H'
theorem ok_layers_of {kf : Nat} {c tb : Addr} (hk : 1 ≤ kf) (T : Bn mg) (D : DefC K mg "layers_of" s_layers_of c) (TB : GxR.TabB base mg c tb) (CC_is_free : MF K CC.C "is_free" "Ranked.is_free" s_Ranked_is_free ["self", "members"])
    (G_CC_is_free : FnOk P w K mg base CX0 kf CC_is_free.f CC_is_free.fd ["self", "members"] (spFree K B1))
    (D_follows : Def K mg "follows" s_follows) (G_follows : FnOk P w K mg base CX0 (kf + 1) D_follows.f D_follows.fd ["first", "second", "chosen", "one", "two"] (spFollows B1 B2)) : FnOk P w K mg base CX0 (kf + 3) D.f D.fd ["first", "second", "chosen"] (spLayers B1 B2 tb) := by
  refine D.FC.ok sc_layers_of (fun vs H Q E h => ?_) (fun A outer s H vs Q E hr h => ?_)
  · obtain ⟨M, p1, p2, c, m1, m2, m, ch, rfl, _⟩ := h
    rfl
  · obtain ⟨M, p1, p2, c, m1, m2, m, ch, rfl, hP, ht, hC, q⟩ := h
    -- 0 first, 1 second, 2 chosen, 3 outside, 4 layers, 5 seen, 6 layer, 7 left, 8 element, 9 two, 10 one
    refine ⟨_, (pss_cons (ps_setLc (i := 3) (own := [("element", 8)]) (by rfl) sc_layers_of.nd rfl rfl (sw_true rfl rfl rfl (by decide +kernel)) (pi_range1 (by rfl) T.m_range (pa_cons (pe_fldK (K := K) (pv 0) rfl) pa_nil)) (blkOk_by (by rfl)) (fun _ _ _ _ _ => (pg_name (i := 8) sc_layers_of.nd rfl (.inl rfl))) (fun _ _ _ _ _ => (pts_one (pt_cmpR (op_notIn_seqK (K := K)) (pv 8) (pv 2) rfl))) (fun _ _ _ _ _ => (pv 8)))
      (pss_cons (ps_set (i := 4) sc_layers_of.nd rfl (.inl rfl) (pe_lst pa_nil))
      (pss_cons (ps_set (i := 5) sc_layers_of.nd rfl (.inr rfl) (pe_lst pa_nil))
      (pss_cons (ps_set (i := 6) sc_layers_of.nd rfl (.inr rfl) (pe_lc (own := [("element", 8)]) (by rfl) sc_layers_of.nd (pi_listK (K := K) (pv 3)) (blkOk_by (by rfl)) (fun _ _ _ _ _ => (pg_name (i := 8) sc_layers_of.nd rfl (.inl rfl))) (fun _ _ _ _ _ => (pts_one (pt_val (pe_meth (pv 0) CC.cl CC_is_free.me G_CC_is_free (hr.mono (by first | decide | omega)) CC_is_free.b .nil pass0 (pa_cons (pe_op op_cat (pv 2) (pe_lst (pa_cons (pv 8) pa_nil))) pa_nil))))) (fun _ _ _ _ _ => (pv 8))))
      (pss_cons (ps_while PassesOwn.never (pt_truthK (K := K) (pv 6) (by intro _; rfl)) (pss_cons (ps_expr (pe_bm PySem.F.plainAttrs_list PySem.F.slot_list_append PySem.F.type_list_append mt_append (pv 4) (pa_cons (pv 6) pa_nil)))
      (pss_cons (ps_aug (i := 5) sc_layers_of.nd rfl (.inr rfl) (pv 6) iop_ext)
      (pss_cons (ps_setLc (i := 7) (own := [("element", 8)]) (by rfl) sc_layers_of.nd rfl rfl (sw_true rfl rfl rfl (by decide +kernel)) (pi_range1 (by rfl) T.m_range (pa_cons (pe_fldK (K := K) (pv 0) rfl) pa_nil)) (blkOk_by (by rfl)) (fun _ _ _ _ _ => (pg_name (i := 8) sc_layers_of.nd rfl (.inl rfl))) (fun _ _ _ _ _ => (pts_one (pt_cmpR (op_notIn_seqK (K := K)) (pv 8) (pv 5) rfl))) (fun _ _ _ _ _ => (pv 8)))
      (pss_one (ps_set (i := 6) sc_layers_of.nd rfl (.inr rfl) (pe_lc (own := [("two", 9)]) (by rfl) sc_layers_of.nd (pi_listK (K := K) (pv 7)) (blkOk_by (by rfl)) (fun _ _ _ _ _ => (pg_name (i := 9) sc_layers_of.nd rfl (.inr rfl))) (fun _ _ _ _ _ => (pts_one (pt_val (Gx.pe_anyG (own := [("one", 10)]) hr sc_layers_of.nd (by rfl) T.m_any TB rfl ⟨blkOk_by (by rfl), rfl, by decide +kernel, rfl⟩ (pi_listK (K := K) (pv 6)) (fun _ => rfl) (fun _ _ _ _ _ _ _ => (pg_name (i := 10) sc_layers_of.nd rfl (.inl rfl))) (fun _ _ _ _ _ _ hg1 => pts_nil) (fun _ _ _ _ _ _ hg1 => (pe_call G_follows (hg1.mono (by first | decide | omega)) (by rfl) D_follows.g D_follows.F.kp (bd_follows D_follows.F) .nil pass0 (pa_cons (pv 0) (pa_cons (pv 1) (pa_cons (pv 2) (pa_cons (pv 10) (pa_cons (pv 9) pa_nil))))))))))) (fun _ _ _ _ _ => (pv 9)))))))))
      (pss_one (ps_ret (pv 4)))))))), ?_⟩
    obtain ⟨hc, hn, hl⟩ := id hC
    have hlen := nodup_lt_len hn hl
    have h12 := hP.le
    obtain ⟨dx, fs, hp1, f1, f2, f3, f4, f5, f6⟩ := B1.ins hP.o1
    -- outside
    refine ⟨.ref p1, rfl, p1, CC.C, dx, fs, _, rfl, hp1, CC.cl, CC.nSize, f1, (m1.n : Nat), rfl, by omega, by have := hP.n1; omega, fun D nD => ?_⟩
    rw [hP.n1, Int.toNat_natCast]
    refine lcR (n := m) (M := M) hP.mok nD (fun e => if (!Bst.mem ch e) = true then some (.int (e : Nat)) else none) (by omega) (fun e H2 he g2 B C kB kC => ?_) (fun H2 g2 hD => ?_)
    · refine ⟨rfl, .int (e : Nat), rfl, .ref c, rfl, c, _, rfl, .inl (SqL.of (g2.at hc)), rfl, flat_nV _, _, rfl, ?_⟩
      rw [inV_n]
      by_cases h : e ∈ ch
      · rw [decide_eq_true h]
        exact iteF (kC _ (.refl g2.b) (by simp [Bst.mem, h]))
      · rw [decide_eq_false h]
        exact iteT ⟨_, rfl, kB _ _ (.refl g2.b) (by simp [Bst.mem, h])⟩
    rw [fm_filter] at hD
    -- layers = []; seen = []
    refine ⟨Nat.zero_le _, fun R nR => ⟨Nat.zero_le _, fun t nt => ?_⟩⟩
    have g3 : Go M H (upd H2 R (.lst [])) := g2.new nR
    have g4 : Go M H (upd (upd H2 R (.lst [])) t (.lst [])) := g3.new nt
    have nRt : R ≠ t := ne_of_none upd_same nt
    have hR4 : (upd (upd H2 R (.lst [])) t (.lst [])) R = some (.lst []) := (upd_ne nRt).trans upd_same
    have ht4 : (upd (upd H2 R (.lst [])) t (.lst [])) t = some (.lst []) := upd_same
    have hD4 : (upd (upd H2 R (.lst [])) t (.lst [])) D = some (.lst (nV ((List.range m).filter fun e => !Bst.mem ch e))) := (upd_ne (ne_of_none ((upd_ne (ne_of_none hD nR)).trans hD) nt)).trans ((upd_ne (ne_of_none hD nR)).trans hD)
    have nRH := g2.back nR
    have ntH := g3.back nt
    generalize upd (upd H2 R (.lst [])) t (.lst []) = H4 at g4 hR4 ht4 hD4
    -- layer
    refine ⟨.ref D, rfl, D, rfl, ⟨_, SqL.of hD4⟩, fun D2 nD2 => ?_⟩
    refine lcL (M := M) (SqL.of hD4) g4.b nD2 (fun e => if fr m1 (Bst.ins (Bst.mem ch) e) = true then some (.int (e : Nat)) else none) (Nat.le_trans (List.length_filter_le _ _) (by rw [List.length_range]; omega)) (fun i e H5 he g5 B C kB kC => ?_) (fun H5 g5 hL => ?_)
    · have he' := List.mem_filter.mp (List.mem_of_getElem? he)
      have hem : e < m := List.mem_range.mp he'.1
      have hec : e ∉ ch := fun z => by have := he'.2; simp [Bst.mem, z] at this
      have g15 := g4.trans g5
      obtain ⟨dx, fs, hp1, f1, f2, f3, f4, f5, f6⟩ := B1.ins (B1.go hP.o1 g15)
      refine ⟨rfl, .ref p1, rfl, p1, dx, fs, rfl, hp1, f5, .ref c, rfl, .int (e : Nat), rfl, by show 1 ≤ sizeLine; decide, fun u nu => ?_⟩
      have g6 : Go M H5 (upd H5 u (.lst [.int (e : Nat)])) := (Go.refl g5.b).new nu
      refine ⟨c, u, _, [.int (e : Nat)], rfl, rfl, g6.at (g15.at hc), upd_same, ?_, fun p np => ?_⟩
      · rw [nV_len]; exact sz (by simp only [List.length_cons, List.length_nil]; omega)
      · rw [nV_snoc]
        have g7 := g6.new (o := .lst (nV (ch ++ [e]))) np
        refine ⟨M, p1, p, m1, _, rfl, g7.b, B1.go hP.o1 (g15.trans g7), SqL.of upd_same, nodup_snoc hn hec, fun x hx => by rw [hP.n1]; exact lt_snoc hl hem x hx, fun H8 g8 => ⟨_, rfl, ?_⟩⟩
        rw [mem_snoc]
        by_cases hf : fr m1 (Bst.ins (Bst.mem ch) e) = true
        · rw [hf]
          exact iteT ⟨_, rfl, kB _ _ (g7.trans g8) (by rw [if_pos hf])⟩
        · rw [if_neg hf] at kB kC
          rw [Bool.not_eq_true] at hf
          rw [hf]
          exact iteF (kC _ (g7.trans g8) rfl)
    rw [fm_filter, List.filter_filter] at hL
    have eL0 : ((List.range m).filter fun e => fr m1 (Bst.ins (Bst.mem ch) e) && !Bst.mem ch e) = Bst.lst m (Bst.lay0 m (fr m1) (Bst.mem ch)) := by
      unfold Bst.lst
      refine List.filter_congr fun e he => ?_
      have := List.mem_range.mp he
      unfold Bst.lay0
      rw [decide_eq_true this, Bool.true_and, Bool.and_comm]
    rw [eL0] at hL
    have g15 := g4.trans g5
    have hR5 := g5.at hR4
    have ht5 := g5.at ht4
    have hLa : hid2 H5 R t D2 = some (.lst (nV (Bst.lst m (Bst.lay0 m (fr m1) (Bst.mem ch))))) := (hid2_at (ne_of_none hR4 nD2).symm (ne_of_none ht4 nD2).symm).trans hL
    -- while layer
    refine ⟨fun k σ H' => Go M H H' ∧ ∃ (dn : List Bst.S) (sn : List Nat) (L : Bst.S) (rs : List V) (la : Addr) (x7 : Option V), σ = [some (.ref p1), some (.ref p2), some (.ref c), some (.ref D), some (.ref R), some (.ref t), some (.ref la), x7, none, none, none] ∧
      H' R = some (.lst rs) ∧ All2 (LAt (hid2 H' R t)) rs (dn.map (Bst.lst m)) ∧ H' t = some (.lst (nV sn)) ∧ sn.Nodup ∧ (∀ e ∈ sn, e < m) ∧ hid2 H' R t la = some (.lst (nV (Bst.lst m L))) ∧ (∀ e, L e = true → e < m ∧ Bst.mem sn e = false) ∧
      Bst.lays m (fr m1) (fr m2) (Bst.mem ch) = dn ++ Bst.laysF m (fr m1) (fr m2) (Bst.mem ch) k (Bst.mem sn) L ∧ m < k + Bst.cnt m (Bst.mem sn) ∧ dn.length ≤ sn.length,
      ⟨m + 1, g15, [], [], _, [], D2, none, rfl, hR5, .nil, ht5, .nil, (fun e h => by cases h), hLa, (fun e h => ⟨(Bst.lay0_true.mp h).1, by rw [mem_nil]⟩), by rw [mem_nil]; rfl, by omega, Nat.le_refl _⟩, ?_⟩
    rintro k σ H6 ⟨g, dn, sn, L, rs, la, x7, rfl, hR, hAll, hs, hsn, hsl, hla, hL, elays, hk, hdl⟩
    obtain ⟨nlaR, nlat, hla'⟩ := hid2_some hla
    have hsnl := nodup_lt_len hsn hsl
    refine ⟨.ref la, rfl, _, .inl ⟨_, SqL.of hla', rfl⟩, ?_⟩
    have hcl : (nV (Bst.lst m L)).length = Bst.cnt m L := by rw [nV_len, Bst.length_lst]
    by_cases hz : Bst.cnt m L = 0
    · have e0 : nV (Bst.lst m L) = [] := List.eq_nil_of_length_eq_zero (by rw [hcl, hz])
      rw [e0]
      refine iteF ⟨.ref R, rfl, q H6 R rs g nRH hR ?_⟩
      have : Bst.laysF m (fr m1) (fr m2) (Bst.mem ch) k (Bst.mem sn) L = [] := by
        cases k with
        | zero => rfl
        | succ k => unfold Bst.laysF; rw [if_pos hz]
      rw [this, List.append_nil] at elays
      unfold laysL
      rw [elays]
      exact hAll.mono fun _ _ => LAt.h2
    · have hne : (!(nV (Bst.lst m L)).isEmpty) = true := by
        cases e : nV (Bst.lst m L) with
        | nil => rw [e] at hcl; exact absurd hcl.symm hz
        | cons => rfl
      rw [hne]
      refine iteT ?_
      obtain ⟨k, rfl⟩ : ∃ k', k = k' + 1 := ⟨k - 1, by
        have := Bst.cnt_le m (Bst.mem sn)
        omega⟩
      have eF : Bst.laysF m (fr m1) (fr m2) (Bst.mem ch) (k + 1) (Bst.mem sn) L = L :: Bst.laysF m (fr m1) (fr m2) (Bst.mem ch) k (Bst.uni (Bst.mem sn) L) (Bst.layN m (fr m1) (fr m2) (Bst.mem ch) (Bst.uni (Bst.mem sn) L) L) := by
        rw [Bst.laysF, if_neg hz]
      rw [eF] at elays
      have hmL : Bst.mem (Bst.lst m L) = L := Bst.mem_of_lst fun x hx => (hL x hx).1
      have hmS : Bst.mem (sn ++ Bst.lst m L) = Bst.uni (Bst.mem sn) L := by
        funext e
        rw [mem_app, hmL]
        rfl
      have hnd : (sn ++ Bst.lst m L).Nodup := List.nodup_append.mpr ⟨hsn, Bst.lst_nodup _ _, fun a ha b hb => by
        have hb' := (Bst.mem_lst.mp hb).2
        have := (hL b hb').2
        intro z
        rw [← z, Bst.mem_true.mpr ha] at this
        cases this⟩
      have hlt : ∀ e ∈ sn ++ Bst.lst m L, e < m := fun e he => by
        rcases List.mem_append.mp he with h1 | h1
        · exact hsl e h1
        · exact lst_lt h1
      have hcu : Bst.cnt m (Bst.mem sn) + 1 ≤ Bst.cnt m (Bst.uni (Bst.mem sn) L) := Bst.cnt_uni_lt (fun x _ hx => (hL x hx).2) hz
      have hLpos : 0 < (Bst.lst m L).length := by rw [Bst.length_lst]; omega
      refine ⟨_, fun σ' H' hN => ⟨k, Nat.lt_succ_self k, hN⟩, ?_⟩
      -- layers.append(layer)
      refine ⟨.ref R, rfl, .inl ⟨rfl, _, SqL.of hR⟩, .ref la, rfl, R, _, _, rfl, rfl, hR, ?_, ?_⟩
      · rw [hAll.len, List.length_map]; exact szl (by omega)
      have ntR : t ≠ R := nRt.symm
      have g7 : Go M H (upd H6 R (.lst (rs ++ [.ref la]))) := g.set nRH hR
      have h7t : (upd H6 R (.lst (rs ++ [.ref la]))) t = some (.lst (nV sn)) := (upd_ne ntR).trans hs
      have h7R : (upd H6 R (.lst (rs ++ [.ref la]))) R = some (.lst (rs ++ [.ref la])) := upd_same
      have h7la : hid2 (upd H6 R (.lst (rs ++ [.ref la]))) R t la = some (.lst (nV (Bst.lst m L))) := by rw [hid2_u1]; exact hla
      have h7all : All2 (LAt (hid2 (upd H6 R (.lst (rs ++ [.ref la]))) R t)) (rs ++ [.ref la]) ((dn ++ [L]).map (Bst.lst m)) := by
        rw [hid2_u1, List.map_append]
        exact hAll.snoc ⟨la, rfl, hla⟩
      generalize upd H6 R (.lst (rs ++ [.ref la])) = H7 at g7 h7t h7R h7la h7all
      -- seen += layer
      have h7la' := (hid2_some h7la).2.2
      refine ⟨_, rfl, .ref la, rfl, t, la, _, _, rfl, rfl, h7t, h7la', ?_, ?_⟩
      · rw [nV_len, nV_len]; have := nodup_lt_len hnd hlt; rw [List.length_append] at this; exact sz (by omega)
      rw [← nV_app]
      have g8 : Go M H (upd H7 t (.lst (nV (sn ++ Bst.lst m L)))) := g7.set ntH h7t
      have h8t : (upd H7 t (.lst (nV (sn ++ Bst.lst m L)))) t = some (.lst (nV (sn ++ Bst.lst m L))) := upd_same
      have h8R : (upd H7 t (.lst (nV (sn ++ Bst.lst m L)))) R = some (.lst (rs ++ [.ref la])) := (upd_ne nRt).trans h7R
      have h8la : hid2 (upd H7 t (.lst (nV (sn ++ Bst.lst m L)))) R t la = some (.lst (nV (Bst.lst m L))) := by rw [hid2_u2]; exact h7la
      have h8all : All2 (LAt (hid2 (upd H7 t (.lst (nV (sn ++ Bst.lst m L)))) R t)) (rs ++ [.ref la]) ((dn ++ [L]).map (Bst.lst m)) := by rw [hid2_u2]; exact h7all
      generalize upd H7 t (.lst (nV (sn ++ Bst.lst m L))) = H8 at g8 h8t h8R h8la h8all
      -- left
      obtain ⟨dx, fs, hp1, f1, f2, f3, f4, f5, f6⟩ := B1.ins (B1.go hP.o1 g8)
      refine ⟨.ref p1, rfl, p1, CC.C, dx, fs, _, rfl, hp1, CC.cl, CC.nSize, f1, (m1.n : Nat), rfl, by omega, by have := hP.n1; omega, fun D3 nD3 => ?_⟩
      rw [hP.n1, Int.toNat_natCast]
      refine lcR (n := m) (M := M) g8.b nD3 (fun e => if (!Bst.uni (Bst.mem sn) L e) = true then some (.int (e : Nat)) else none) (by omega) (fun e H9 he g9 B C kB kC => ?_) (fun H9 g9 hD3 => ?_)
      · refine ⟨rfl, .int (e : Nat), rfl, .ref t, rfl, t, _, rfl, .inl (SqL.of (g9.at h8t)), rfl, flat_nV _, _, rfl, ?_⟩
        rw [inV_n, show decide (e ∈ sn ++ Bst.lst m L) = Bst.uni (Bst.mem sn) L e from by rw [← hmS]; rfl]
        rw [if_pos rfl]
        cases h : Bst.uni (Bst.mem sn) L e with
        | true => exact iteF (kC _ (.refl g9.b) (by rw [h]; rfl))
        | false => exact iteT ⟨_, rfl, kB _ _ (.refl g9.b) (by rw [h]; rfl)⟩
      rw [fm_filter] at hD3
      have g19 := g8.trans g9
      have h9la := hid2_go g9 h8la
      obtain ⟨n9R, n9t, h9la'⟩ := hid2_some h9la
      -- layer
      refine ⟨.ref D3, rfl, D3, rfl, ⟨_, SqL.of hD3⟩, fun D4 nD4 => ?_⟩
      refine lcL (M := M) (SqL.of hD3) g9.b nD4 (fun y => if ((Bst.lst m L).any fun x => Bst.fol (fr m1) (fr m2) (Bst.mem ch) x y) = true then some (.int (y : Nat)) else none) (Nat.le_trans (List.length_filter_le _ _) (by rw [List.length_range]; omega)) (fun i y H10 hy g10 B C kB kC => ?_) (fun H10 g10 hL4 => ?_)
      · have hym : y < m := List.mem_range.mp (List.mem_filter.mp (List.mem_of_getElem? hy)).1
        have g110 := g19.trans g10
        have hla10 := g10.at h9la'
        refine ⟨rfl, .ref la, rfl, la, rfl, ⟨_, SqL.of hla10⟩, g10.b.tab tb ht, fun H11 tb11 => ?_⟩
        have g11 : Go M H10 H11 := (Go.refl g10.b).tab' ht tb11
        have hla11 := g11.at hla10
        refine ⟨(nV (Bst.lst m L)).length, fun j H' => Go M H10 H' ∧ ∀ u ∈ (Bst.lst m L).take j, Bst.fol (fr m1) (fr m2) (Bst.mem ch) u y = false, ⟨g11, by simp⟩, fun H' h => ⟨_, rfl, ?_⟩, gW (walk_list (xs := nV (Bst.lst m L))) _ (fun r j H' h => SqL.of (h.1.at hla10)) (fun r j x H' H'' hj h yy => ?_)⟩
        · obtain ⟨g12, hall⟩ := h
          rw [nV_len, List.take_length] at hall
          have : ((Bst.lst m L).any fun x => Bst.fol (fr m1) (fr m2) (Bst.mem ch) x y) = false := List.any_eq_false.mpr fun u hu => by rw [hall u hu]; decide
          exact iteF (kC _ g12 (by rw [this]; rfl))
        · obtain ⟨rfl, ex⟩ := yy
          obtain ⟨g12, hall⟩ := h
          obtain ⟨u, eu, rfl⟩ := nV_at ex
          have hul := List.mem_of_getElem? eu
          have g112 := g110.trans g12
          refine ⟨rfl, .ref p1, rfl, .ref p2, rfl, .ref c, rfl, .int (u : Nat), rfl, .int (y : Nat), rfl, M, p1, p2, c, m1, m2, m, ch, u, y, rfl, hP.go g112, hC.go g112, lst_lt hul, hym, fun H13 g13 => ⟨_, rfl, ?_⟩⟩
          cases hf : Bst.fol (fr m1) (fr m2) (Bst.mem ch) u y with
          | true =>
            have : ((Bst.lst m L).any fun x => Bst.fol (fr m1) (fr m2) (Bst.mem ch) x y) = true := List.any_eq_true.mpr ⟨u, hul, hf⟩
            exact iteT ⟨_, rfl, iteT ⟨_, rfl, kB _ _ (g12.trans g13) (by rw [this]; rfl)⟩⟩
          | false =>
            refine iteF ⟨g12.trans g13, fun z hz => ?_⟩
            rw [tk_snoc eu] at hz
            rcases List.mem_append.mp hz with h1 | h1
            · exact hall z h1
            · have : z = u := by simpa using h1
              rw [this, hf]
      · rw [fm_filter, List.filter_filter] at hL4
        have eN : ((List.range m).filter fun y => ((Bst.lst m L).any fun x => Bst.fol (fr m1) (fr m2) (Bst.mem ch) x y) && !Bst.uni (Bst.mem sn) L y) = Bst.lst m (Bst.layN m (fr m1) (fr m2) (Bst.mem ch) (Bst.uni (Bst.mem sn) L) L) := by
          show _ = (List.range m).filter _
          refine List.filter_congr fun y hy => ?_
          have hym := List.mem_range.mp hy
          unfold Bst.layN
          rw [decide_eq_true hym, Bool.true_and, Bool.and_comm]
          congr 1
          unfold Bst.lst
          rw [List.any_filter]
        rw [eN] at hL4
        refine ⟨g19.trans g10, dn ++ [L], sn ++ Bst.lst m L, Bst.layN m (fr m1) (fr m2) (Bst.mem ch) (Bst.uni (Bst.mem sn) L) L, rs ++ [.ref la], D4, some (.ref D3), rfl, (g9.trans g10).at h8R, h8all.mono fun _ _ => LAt.h2go (g9.trans g10), (g9.trans g10).at h8t, hnd, hlt, ?_, fun e he => ?_, ?_, ?_, ?_⟩
        · exact (hid2_at (ne_of_none (g9.at h8R) nD4).symm (ne_of_none (g9.at h8t) nD4).symm).trans hL4
        · rw [hmS]; have := Bst.layN_true.mp he; exact ⟨this.1, this.2.1⟩
        · rw [hmS, elays, List.append_assoc]; rfl
        · rw [hmS]; omega
        · simp only [List.length_append, List.length_cons, List.length_nil]; omega
end
end Bw

set_option Elab.async false
set_option linter.all false
set_option maxRecDepth 100000
set_option maxHeartbeats 2000000
namespace Bw
open PySem PySem.Spec PyProof.Rows L2
section
variable {P : Program} {w : World} {K : PySem.W.Frag} {mg : Str → Option Value} {base : Heap} {CC CS : CF K} {B1 : ObP CC.C} {B2 : ObP CS.C}
theorem cut_take (xs : List V) {i : Nat} (h : i ≤ xs.length) : cutV xs none (some (i : Int)) = xs.take i := by
  unfold cutV
  rw [HT.sIx_none, show HT.sIx xs.length xs.length (some (i : Int)) = min i xs.length from HT.sIx_nat xs.length xs.length i, Nat.min_eq_left h]
  rfl
theorem laysF_len {m : Nat} {f1 f2 : Bst.S → Bool} {A : Bst.S} : ∀ (k : Nat) (seen L : Bst.S), (Bst.laysF m f1 f2 A k seen L).length ≤ k
  | 0, _, _ => Nat.le_refl _
  | k + 1, seen, L => by
    unfold Bst.laysF
    split
    · exact Nat.zero_le _
    · rw [List.length_cons]; exact Nat.succ_le_succ (laysF_len k _ _)
def spAfter : Sp := fun vs H Q _ => ∃ (M : Mw) (c r : Addr) (ch rw : List Nat) (m : Nat), vs = [.ref c, .ref r] ∧ Mok M H ∧ ChAt H c ch m ∧ ChAt H r rw m ∧ m ≤ 12 ∧
  ∀ H' p, Go M H H' → H p = none → H' p = some (.lst (nV (Bst.lst m fun e => xor (Bst.mem ch e) (Bst.mem rw e)))) → Q (.ref p) H'
theorem ok_after_row {k : Nat} {f : Addr} {fd : FuncData} (T : Bn mg) (F : Fun K "after_row" "after_row" s_after_row f fd) : FnOk P w K mg base CX0 (k + 1) f fd ["chosen", "row"] spAfter := by
  refine F.ok sc_after_row (fun vs H Q E h => ?_) (fun cdv A outer s H vs Q E hr h => ?_)
  · obtain ⟨M, c, r, ch, rw, m, rfl, _⟩ := h
    rfl
  · obtain ⟨M, c, r, ch, rw, m, rfl, mk, hC, hR, h12, q⟩ := h
    -- 0 chosen, 1 row, 2 left, 3 element
    refine ⟨_, (pss_cons (ps_setLc (i := 2) (own := [("element", 3)]) (by rfl) sc_after_row.nd rfl rfl (sw_true rfl rfl rfl (by decide +kernel)) (pi_listK (K := K) (pv 0)) (blkOk_by (by rfl)) (fun _ _ _ _ _ => (pg_name (i := 3) sc_after_row.nd rfl (.inl rfl))) (fun _ _ _ _ _ => (pts_one (pt_cmpR (op_notIn_seqK (K := K)) (pv 3) (pv 1) rfl))) (fun _ _ _ _ _ => (pv 3)))
      (pss_one (ps_ret (pe_callB (cr_sortedIK (K := K)) (by rfl) T.m_sorted (by decide +kernel) (pa_cons (pe_op op_cat (pv 2) (pe_lc (own := [("element", 3)]) (by rfl) sc_after_row.nd (pi_listK (K := K) (pv 1)) (blkOk_by (by rfl)) (fun _ _ _ _ _ => (pg_name (i := 3) sc_after_row.nd rfl (.inl rfl))) (fun _ _ _ _ _ => (pts_one (pt_cmpR (op_notIn_seqK (K := K)) (pv 3) (pv 0) rfl))) (fun _ _ _ _ _ => (pv 3)))) pa_nil))))), ?_⟩
    obtain ⟨hc, hn, hl⟩ := id hC
    obtain ⟨hr', rn, rl⟩ := id hR
    have hlen := nodup_lt_len hn hl
    have rlen := nodup_lt_len rn rl
    refine ⟨.ref c, rfl, c, rfl, ⟨_, SqL.of hc⟩, fun D nD => lcL (M := M) (SqL.of hc) mk nD (fun e => if (!Bst.mem rw e) = true then some (.int (e : Nat)) else none) (by omega) (fun i e H2 he g2 B C kB kC => ?_) (fun H2 g2 hD => ?_)⟩
    · refine ⟨rfl, .int (e : Nat), rfl, .ref r, rfl, r, _, rfl, .inl (SqL.of (g2.at hr')), rfl, flat_nV _, _, rfl, ?_⟩
      rw [inV_n]
      by_cases h : e ∈ rw
      · rw [decide_eq_true h]
        exact iteF (kC _ (.refl g2.b) (by simp [Bst.mem, h]))
      · rw [decide_eq_false h]
        exact iteT ⟨_, rfl, kB _ _ (.refl g2.b) (by simp [Bst.mem, h])⟩
    rw [fm_filter] at hD
    have hr2 := g2.at hr'
    have hc2 := g2.at hc
    refine ⟨.ref D, rfl, .ref r, rfl, r, rfl, ⟨_, SqL.of hr2⟩, fun D2 nD2 => lcL (M := M) (SqL.of hr2) g2.b nD2 (fun e => if (!Bst.mem ch e) = true then some (.int (e : Nat)) else none) (by omega) (fun i e H3 he g3 B C kB kC => ?_) (fun H3 g3 hD2 => ?_)⟩
    · refine ⟨rfl, .int (e : Nat), rfl, .ref c, rfl, c, _, rfl, .inl (SqL.of (g3.at hc2)), rfl, flat_nV _, _, rfl, ?_⟩
      rw [inV_n]
      by_cases h : e ∈ ch
      · rw [decide_eq_true h]
        exact iteF (kC _ (.refl g3.b) (by simp [Bst.mem, h]))
      · rw [decide_eq_false h]
        exact iteT ⟨_, rfl, kB _ _ (.refl g3.b) (by simp [Bst.mem, h])⟩
    rw [fm_filter] at hD2
    have hD3 := g3.at hD
    have f1 := List.length_filter_le (fun e => !Bst.mem rw e) ch
    have f2 := List.length_filter_le (fun e => !Bst.mem ch e) rw
    refine ⟨D, D2, _, _, rfl, rfl, hD3, hD2, ?_, fun p np => ?_⟩
    · rw [nV_len, nV_len]; exact sz (by omega)
    rw [← nV_app]
    generalize hL : (ch.filter fun e => !Bst.mem rw e) ++ (rw.filter fun e => !Bst.mem ch e) = l
    have ln : l.Nodup := by
      rw [← hL]
      refine List.nodup_append.mpr ⟨hn.filter _, rn.filter _, fun a ha b hb z => ?_⟩
      have h1 := (List.mem_filter.mp ha).1
      have h2 := (List.mem_filter.mp hb).2
      rw [← z] at h2
      simp [Bst.mem, h1] at h2
    have ll : ∀ e ∈ l, e < m := fun e he => by
      rw [← hL] at he
      rcases List.mem_append.mp he with h | h
      · exact hl e (List.mem_filter.mp h).1
      · exact rl e (List.mem_filter.mp h).1
    have hm : Bst.lst m (Bst.mem l) = Bst.lst m fun e => xor (Bst.mem ch e) (Bst.mem rw e) := by
      refine Bst.lst_congr fun e _ => ?_
      rw [← hL, mem_app]
      unfold Bst.mem
      by_cases h1 : e ∈ ch <;> by_cases h2 : e ∈ rw <;> simp [h1, h2]
    have g4 := g3.new (o := .lst (nV l)) np
    refine ⟨p, l.map Int.ofNat, rfl, int_n ▸ SqL.of upd_same, fun ns' b perm rising nb => ?_⟩
    rw [sort_set ln ll perm rising, hm]
    have g5 := (g2.trans g4).new (o := .lst (nV (Bst.lst m fun e => xor (Bst.mem ch e) (Bst.mem rw e)))) nb
    exact q _ b g5 ((g2.trans g4).back nb) upd_same
/-- a row from the i-th layer on to the end -/
structure RT (m : Nat) (f1 f2 : Bst.S → Bool) (A : Bst.S) (n i : Nat) (rw : List Nat) : Prop where
  len : rw.length + i = n + 1
  at_ : ∀ k x, rw[k]? = some x → ∃ L, (Bst.lays m f1 f2 A)[i + k]? = some L ∧ L x = true
  fol : ∀ k x y, rw[k]? = some x → rw[k + 1]? = some y → Bst.fol f1 f2 A x y = true
  fin : ∀ z, rw[n - i]? = some z → A z = false ∧ f2 (Bst.ins A z) = true
theorem RT.step {m : Nat} {f1 f2 : Bst.S → Bool} {A : Bst.S} {n i : Nat} {rw : List Nat} {x y : Nat} (h : RT m f1 f2 A n (i + 1) rw) (L : Bst.S) (hL : (Bst.lays m f1 f2 A)[i]? = some L) (hx : L x = true) (hy : rw[0]? = some y) (hf : Bst.fol f1 f2 A x y = true) : RT m f1 f2 A n i (x :: rw) := by
  have h1 := h.len
  refine ⟨by rw [List.length_cons]; omega, fun k z hz => ?_, fun k u v hu hv => ?_, fun z hz => ?_⟩
  · cases k with
    | zero => simp at hz; subst hz; exact ⟨L, hL, hx⟩
    | succ k =>
      simp at hz
      have := h.at_ k z hz
      rwa [show i + (k + 1) = i + 1 + k by omega]
  · cases k with
    | zero =>
      simp at hu hv
      rw [List.getElem?_eq_some_iff] at hy
      subst hu
      obtain ⟨hlt, rfl⟩ := hy
      have : rw[0] = v := by simpa [List.getElem?_eq_getElem hlt] using hv
      rw [← this]; exact hf
    | succ k => simp at hu hv; exact h.fol k u v hu hv
  · have e : n - i = (n - (i + 1)) + 1 := by
      have : 0 < rw.length := List.length_pos_of_mem (List.mem_of_getElem? hy)
      omega
    rw [e] at hz
    simp at hz
    exact h.fin z hz
theorem RT.row {m : Nat} {f1 f2 : Bst.S → Bool} {A : Bst.S} {n : Nat} {rw : List Nat} (h : RT m f1 f2 A n 0 rw) (he : ∀ (i : Nat) (L : Bst.S), i < n → (Bst.lays m f1 f2 A)[i]? = some L → ∀ e, L e = true → A e = false → f2 (Bst.ins A e) = false) :
    Bst.IsRow m f1 f2 A n (fun k => rw.getD k 0) ∧ rw = (List.range (n + 1)).map (fun k => rw.getD k 0) := by
  have hl : rw.length = n + 1 := by have := h.len; omega
  have at_ : ∀ k, k ≤ n → rw[k]? = some (rw.getD k 0) := fun k hk => by
    rw [List.getD_eq_getElem?_getD, List.getElem?_eq_getElem (by omega)]; rfl
  refine ⟨⟨fun i hi => ?_, fun i hi => h.fol i _ _ (at_ i (by omega)) (at_ (i + 1) (by omega)), (h.fin _ (at_ n (Nat.le_refl _))).1, (h.fin _ (at_ n (Nat.le_refl _))).2, he⟩, ?_⟩
  · have := h.at_ i _ (at_ i hi)
    rwa [Nat.zero_add] at this
  · refine List.ext_getElem? fun k => ?_
    by_cases hk : k < n + 1
    · rw [List.getElem?_map, List.getElem?_range hk, at_ k (by omega)]; rfl
    · rw [List.getElem?_eq_none (by omega), List.getElem?_eq_none (by simp; omega)]
def spRow (B1 : ObP CC.C) (B2 : ObP CS.C) (tb : Addr) : Sp := fun vs H Q _ => ∃ (M : Mw) (p1 p2 c : Addr) (m1 m2 : Memo) (m : Nat) (ch : List Nat), vs = [.ref p1, .ref p2, .ref c] ∧ PairAt B1 B2 M H p1 p2 m1 m2 m ∧ tb ∈ M.tb ∧ ChAt H c ch m ∧
  (∀ H' p n r, Go M H H' → H p = none → H' p = some (.lst (nV ((List.range (n + 1)).map r))) → Bst.IsRow m (fr m1) (fr m2) (Bst.mem ch) n r → Q (.ref p) H') ∧
  (∀ H', Go M H H' → (∀ e, Bst.reach m (fr m1) (fr m2) (Bst.mem ch) e = true → Bst.mem ch e = false → fr m2 (Bst.ins (Bst.mem ch) e) = false) → Q .non H')
theorem ok_row_in {kf : Nat} {f tb : Addr} {fd : FuncData} {cl : Addr} (hk : 1 ≤ kf) (T : Bn mg) (F : Fun K "row_in" "row_in" s_row_in f fd)
    (D_layers_of : DefC K mg "layers_of" s_layers_of cl) (G_layers_of : FnOk P w K mg base CX0 (kf + 3) D_layers_of.f D_layers_of.fd ["first", "second", "chosen"] (spLayers B1 B2 tb))
    (D_ends_in : Def K mg "ends_in" s_ends_in) (G_ends_in : FnOk P w K mg base CX0 (kf + 1) D_ends_in.f D_ends_in.fd ["second", "chosen", "layer"] (spEnds B2))
    (D_follows : Def K mg "follows" s_follows) (G_follows : FnOk P w K mg base CX0 (kf + 1) D_follows.f D_follows.fd ["first", "second", "chosen", "one", "two"] (spFollows B1 B2)) : FnOk P w K mg base CX0 (kf + 4) f fd ["first", "second", "chosen"] (spRow B1 B2 tb) := by
  refine F.ok sc_row_in (fun vs H Q E h => ?_) (fun cdv A outer s H vs Q E hr h => ?_)
  · obtain ⟨M, p1, p2, c, m1, m2, m, ch, rfl, _⟩ := h
    rfl
  · obtain ⟨M, p1, p2, c, m1, m2, m, ch, rfl, hP, ht, hC, q1, q2⟩ := h
    -- 0 first, 1 second, 2 chosen, 3 layers, 4 number, 5 layer, 6 last, 7 row, 8 before, 9 one
    refine ⟨_, (pss_cons (ps_set (i := 3) sc_row_in.nd rfl (.inl rfl) (pe_call G_layers_of (hr.mono (by first | decide | omega)) (by rfl) D_layers_of.g D_layers_of.F.kp (bd_layers_of D_layers_of.F) .nil pass0 (pa_cons (pv 0) (pa_cons (pv 1) (pa_cons (pv 2) pa_nil)))))
      (pss_cons (ps_for PassesOwn.never rfl (pi_enumK (K := K) (by rfl) T.m_enumerate (pa_cons (pv 3) pa_nil)) (pg_tupK (K := K) (n := 2) rfl rfl (pgs_cons (pg_name (i := 4) sc_row_in.nd rfl (.inl rfl)) (pgs_cons (pg_name (i := 5) sc_row_in.nd rfl (.inl rfl)) pgs_nil))) (pss_cons (ps_set (i := 6) sc_row_in.nd rfl (.inl rfl) (pe_call G_ends_in (hr.mono (by first | decide | omega)) (by rfl) D_ends_in.g D_ends_in.F.kp (bd_ends_in D_ends_in.F) .nil pass0 (pa_cons (pv 1) (pa_cons (pv 2) (pa_cons (pv 5) pa_nil)))))
      (pss_one (ps_if (pt_truthK (K := K) (pv 6) (by intro _; rfl)) (pss_cons (ps_set (i := 7) sc_row_in.nd rfl (.inr rfl) (pe_lst (pa_cons (pe_ix (ix_listK (K := K)) (pv 6) pe_int (fun _ _ => rfl)) pa_nil)))
      (pss_cons (ps_for PassesOwn.never rfl (pi_reversedK (K := K) (by rfl) T.m_reversed (pa_cons (pe_slice (sl_listK (K := K)) (pv 3) po_none (po_some (pv 4))) pa_nil)) (pg_name (i := 8) sc_row_in.nd rfl (.inl rfl)) (pss_one (ps_set (i := 7) sc_row_in.nd rfl (.inr rfl) (pe_op op_cat (pe_slice (sl_listK (K := K)) (pe_lc (own := [("one", 9)]) (by rfl) sc_row_in.nd (pi_listK (K := K) (pv 8)) (blkOk_by (by rfl)) (fun _ _ _ _ _ => (pg_name (i := 9) sc_row_in.nd rfl (.inl rfl))) (fun _ _ _ _ _ => (pts_one (pt_val (pe_call G_follows (hr.mono (by first | decide | omega)) (by rfl) D_follows.g D_follows.F.kp (bd_follows D_follows.F) .nil pass0 (pa_cons (pv 0) (pa_cons (pv 1) (pa_cons (pv 2) (pa_cons (pv 9) (pa_cons (pe_ix (ix_listK (K := K)) (pv 7) pe_int (fun _ _ => rfl)) pa_nil))))))))) (fun _ _ _ _ _ => (pv 9))) po_none (po_some pe_int)) (pv 7)))))
      (pss_one (ps_ret (pv 7))))) pss_nil))))
      (pss_one (ps_ret pe_non)))), ?_⟩
    have e2 := hP.n2
    subst e2
    obtain ⟨hc, hn, hl⟩ := id hC
    have h12 := hP.le
    refine ⟨.ref p1, rfl, .ref p2, rfl, .ref c, rfl, M, p1, p2, c, m1, m2, m2.n, ch, rfl, hP, ht, hC, fun H1 R rs g1 nR hR hAll => ?_⟩
    generalize hLs : Bst.lays m2.n (fr m1) (fr m2) (Bst.mem ch) = Ls at *
    have hAll' : All2 (LAt H1) rs (Ls.map (Bst.lst m2.n)) := by rw [← hLs]; exact hAll
    have layAt : ∀ {i : Nat} {y : V}, rs[i]? = some y → ∃ L la, Ls[i]? = some L ∧ y = .ref la ∧ H1 la = some (.lst (nV (Bst.lst m2.n L))) := fun {i y} hy => by
      obtain ⟨b, hb, la, rfl, e⟩ := hAll'.ta hy
      rw [List.getElem?_map] at hb
      cases hL : Ls[i]? with
      | none => rw [hL] at hb; cases hb
      | some L => rw [hL] at hb; cases hb; exact ⟨L, la, rfl, rfl, e⟩
    have lenL : rs.length = Ls.length := by rw [hAll'.len, List.length_map]
    refine ⟨.ref R, rfl, R, _, rfl, SqL.of hR, for_it (walk_enum (K := K) (a := R) (xs := rs)) (fun i σ H' => Go M H1 H' ∧ ∃ (x4 x5 x6 x7 x8 : Option V), σ = [some (.ref p1), some (.ref p2), some (.ref c), some (.ref R), x4, x5, x6, x7, x8, none] ∧
      ∀ (j : Nat) (L : Bst.S), j < i → Ls[j]? = some L → ∀ e, L e = true → Bst.mem ch e = false → fr m2 (Bst.ins (Bst.mem ch) e) = false) ?_ ?_ ?_ ?_⟩
    · exact ⟨Go.refl g1.b, none, none, none, none, none, rfl, fun j L h => by omega⟩
    · exact fun i σ H' _ h => h.1.l (SqL.of hR)
    · rintro i x σ H2 H2' hi ⟨g2, x4, x5, x6, x7, x8, rfl, early⟩ ⟨T', u, v, rfl, nT, rfl, e1, e2⟩
      cases e1
      obtain ⟨L, la, hL, rfl, hla⟩ := layAt e2
      have gT : Go M H2 (upd H2 T' (.tup [.int (i : Nat), .ref la])) := (Go.refl g2.b).new nT
      have g3 := g2.trans gT
      have g13 := g1.trans g3
      refine ⟨T', _, rfl, SqT.of upd_same, rfl, _, _, rfl, _, _, rfl, rfl, ?_⟩
      generalize upd H2 T' (.tup [.int (i : Nat), .ref la]) = H3 at gT g3 g13
      have hll : (Bst.lst m2.n L).length ≤ 12 := by
        have := nodup_lt_len (Bst.lst_nodup m2.n L) fun e he => lst_lt he
        omega
      -- last = ends_in(..)
      refine ⟨.ref p2, rfl, .ref c, rfl, .ref la, rfl, M, p2, c, la, m2, ch, Bst.lst m2.n L, rfl, g3.b, B2.go hP.o2 g13, h12, hC.go g13, g3.at hla, (fun e he => lst_lt he), by omega, fun H4 D g4 nD hD => ?_⟩
      have g14 := g3.trans g4
      refine ⟨.ref D, rfl, _, .inl ⟨_, SqL.of hD, rfl⟩, ?_⟩
      cases hends : endsL m2 (Bst.mem ch) (Bst.lst m2.n L) with
      | nil =>
        refine iteF ⟨g14, _, _, _, _, _, rfl, fun j L' hj hL' e he hA => ?_⟩
        by_cases h : j = i
        · subst h
          rw [hL] at hL'
          cases hL'
          have hem : e ∈ Bst.lst m2.n L := Bst.mem_lst.mpr ⟨(Bst.lays_low (by rw [hLs]; exact hL) he).1, he⟩
          have := List.filter_eq_nil_iff.mp hends e hem
          rw [hA, Bool.not_false, Bool.true_and, Bool.not_eq_true] at this
          exact this
        · exact early j L' (by omega) hL' e he hA
      | cons z zs =>
        rw [hends] at hD
        have hz : z ∈ endsL m2 (Bst.mem ch) (Bst.lst m2.n L) := by rw [hends]; exact List.mem_cons_self
        obtain ⟨hz1, hz2⟩ := List.mem_filter.mp hz
        rw [Bool.and_eq_true, Bool.not_eq_true'] at hz2
        have hzL := (Bst.mem_lst.mp hz1).2
        refine iteT ⟨.ref D, rfl, D, _, 0, _, rfl, rfl, SqL.of hD, atI_nat (j := 0) rfl, by show 1 ≤ sizeLine; decide, fun r0 nr0 => ?_⟩
        have g5 : Go M H1 (upd H4 r0 (.lst [.int (z : Nat)])) := g14.new nr0
        have hr0 : (upd H4 r0 (.lst [.int (z : Nat)])) r0 = some (.lst (nV [z])) := upd_same
        generalize upd H4 r0 (.lst [.int (z : Nat)]) = H5 at g5 hr0
        have hil : i < rs.length := hi
        -- for before in reversed(layers[:number])
        refine ⟨.ref R, rfl, .int (i : Nat), rfl, (i : Nat), rfl, R, _, rfl, SqL.of (g5.at hR), fun sl nsl => ?_⟩
        rw [cut_take rs (Nat.le_of_lt hil)]
        have g6 : Go M H1 (upd H5 sl (.lst (rs.take i))) := g5.new nsl
        have hsl : (upd H5 sl (.lst (rs.take i))) sl = some (.lst (rs.take i)) := upd_same
        have hr6 : (upd H5 sl (.lst (rs.take i))) r0 = some (.lst (nV [z])) := (upd_ne (ne_of_none hr0 nsl)).trans hr0
        generalize upd H5 sl (.lst (rs.take i)) = H6 at g6 hsl hr6
        have lent : (rs.take i).length = i := by rw [List.length_take]; omega
        refine ⟨sl, _, rfl, SqL.of hsl, for_it (walk_rev (K := K) (a := sl) (xs := rs.take i)) (fun j σ H' => Go M H6 H' ∧ j ≤ i ∧ ∃ (ra : Addr) (rw : List Nat) (x8 : Option V), σ = [some (.ref p1), some (.ref p2), some (.ref c), some (.ref R), some (.int (i : Nat)), some (.ref la), some (.ref D), some (.ref ra), x8, none] ∧
          H ra = none ∧ H' ra = some (.lst (nV rw)) ∧ RT m2.n (fr m1) (fr m2) (Bst.mem ch) i (i - j) rw) ?_ ?_ ?_ ?_⟩
        · refine ⟨Go.refl g6.b, Nat.zero_le _, r0, [z], _, rfl, g1.back (g14.back nr0), hr6, ⟨by simp; omega, fun k x hx => ?_, fun k x y hx hy => ?_, fun y hy => ?_⟩⟩
          · cases k with
            | zero => simp at hx; subst hx; exact ⟨L, by rw [hLs]; exact hL, hzL⟩
            | succ k => simp at hx
          · simp at hy
          · simp at hy; subst hy; exact hz2
        · exact fun j σ H' _ h => h.1.l (SqL.of hsl)
        · rintro j x σ H7 H7' hj ⟨g7, hji, ra, rw, x8, rfl, nra, hra, rt⟩ ⟨rfl, ex⟩
          rw [lent] at ex hj
          have eb : rs[i - 1 - j]? = some x := by
            rw [List.getElem?_take] at ex
            split at ex
            · exact ex
            · cases ex
          obtain ⟨L', lb, hL', rfl, hlb⟩ := layAt eb
          have g17 := g6.trans g7
          have hlb7 := g17.at hlb
          have hlb12 : (Bst.lst m2.n L').length ≤ 12 := by
            have := nodup_lt_len (Bst.lst_nodup m2.n L') fun e he => lst_lt he
            omega
          obtain ⟨y, rw', rfl⟩ : ∃ y rw', rw = y :: rw' := by
            cases rw with
            | nil => have := rt.len; simp at this; omega
            | cons y r => exact ⟨y, r, rfl⟩
          obtain ⟨Ly, hLy, hLyy⟩ := rt.at_ 0 y rfl
          have hyl := Bst.lays_low hLy hLyy
          rw [hLs] at hLy hyl
          obtain ⟨Lx, hLx, x, hxm, hxL, hxf⟩ := hyl.2.2 (i - 1 - j) (by omega)
          rw [hL'] at hLx
          cases hLx
          -- the comprehension
          refine ⟨.ref lb, rfl, lb, rfl, ⟨_, SqL.of hlb7⟩, fun D7 nD7 => ?_⟩
          refine lcL (M := M) (SqL.of hlb7) g7.b nD7 (fun e => if Bst.fol (fr m1) (fr m2) (Bst.mem ch) e y = true then some (.int (e : Nat)) else none) (by omega) (fun k e H8 he g8 B C kB kC => ?_) (fun H8 g8 hD7 => ?_)
          · have g18 := g1.trans (g17.trans g8)
            refine ⟨rfl, .ref p1, rfl, .ref p2, rfl, .ref c, rfl, .int (e : Nat), rfl, .ref ra, rfl, ra, _, 0, _, rfl, rfl, SqL.of (g8.at hra), atI_nat (j := 0) rfl, M, p1, p2, c, m1, m2, m2.n, ch, e, y, rfl, hP.go g18, hC.go g18, lst_lt (List.mem_of_getElem? he), hyl.1, fun H9 g9 => ⟨_, rfl, ?_⟩⟩
            cases hf : Bst.fol (fr m1) (fr m2) (Bst.mem ch) e y with
            | true => exact iteT ⟨_, rfl, kB _ _ g9 (by rw [hf]; rfl)⟩
            | false => exact iteF (kC _ g9 (by rw [hf]; rfl))
          · rw [fm_filter] at hD7
            generalize hfl : (Bst.lst m2.n L').filter (fun e => Bst.fol (fr m1) (fr m2) (Bst.mem ch) e y) = fl at hD7
            obtain ⟨w, fl', rfl⟩ : ∃ w fl', fl = w :: fl' := by
              cases fl with
              | nil =>
                have := List.filter_eq_nil_iff.mp hfl x (Bst.mem_lst.mpr ⟨hxm, hxL⟩)
                exact absurd hxf this
              | cons w r => exact ⟨w, r, rfl⟩
            have hw : w ∈ (Bst.lst m2.n L').filter (fun e => Bst.fol (fr m1) (fr m2) (Bst.mem ch) e y) := by rw [hfl]; exact List.mem_cons_self
            obtain ⟨hw1, hw2⟩ := List.mem_filter.mp hw
            refine ⟨1, rfl, D7, _, rfl, SqL.of hD7, fun q nq => ?_⟩
            rw [show cutV (nV (w :: fl')) none (some 1) = nV [w] from cut_take (i := 1) (nV (w :: fl')) (by simp)]
            have g9 : Go M H7' (upd H8 q (.lst (nV [w]))) := g8.new nq
            have hq9 : (upd H8 q (.lst (nV [w]))) q = some (.lst (nV [w])) := upd_same
            have hra9 := g9.at hra
            have := rt.len
            refine ⟨.ref ra, rfl, q, ra, _, _, rfl, rfl, hq9, hra9, ?_, fun t nt => ?_⟩
            · rw [nV_len, nV_len]; exact sz (by
                have h2 : Ls.length ≤ m2.n + 1 := by rw [← hLs]; exact laysF_len _ _ _
                simp only [List.length_cons, List.length_nil] at this ⊢
                omega)
            · rw [← nV_app]
              have g10 := g9.new (o := .lst (nV ([w] ++ y :: rw'))) nt
              refine ⟨g7.trans g10, by omega, t, w :: y :: rw', _, rfl, g1.back (g6.back (g7.back (g9.back nt))), upd_same, ?_⟩
              have e9 : i - j = (i - (j + 1)) + 1 := by omega
              rw [e9] at rt
              refine rt.step L' ?_ (Bst.mem_lst.mp hw1).2 rfl hw2
              rw [hLs, show i - (j + 1) = i - 1 - j by omega]
              exact hL'
        · rintro σ H7 ⟨g7, hji, ra, rw, x8, rfl, nra, hra, rt⟩
          rw [lent, Nat.sub_self] at rt
          obtain ⟨r1, r2⟩ := rt.row (by rw [hLs]; exact fun j L' hj hL' => early j L' hj hL')
          rw [r2] at hra
          exact ⟨.ref ra, rfl, q1 H7 ra i _ (g1.trans (g6.trans g7)) nra hra r1⟩
    · rintro σ H2 ⟨g2, x4, x5, x6, x7, x8, rfl, early⟩
      refine q2 H2 (g1.trans g2) fun e he hA => ?_
      obtain ⟨i, L, hL, hLe⟩ := Bst.reach_true.mp he
      rw [hLs] at hL
      exact early i L (by have := (List.getElem?_eq_some_iff.mp hL).1; omega) hL e hLe hA
end
end Bw

set_option Elab.async false
set_option linter.all false
set_option maxRecDepth 100000
set_option maxHeartbeats 2000000
namespace Bw
open PySem PySem.Spec PyProof.Rows L2
section
variable {P : Program} {w : World} {K : PySem.W.Frag} {mg : Str → Option Value} {base : Heap} {CC CS : CF K} {B1 : ObP CC.C} {B2 : ObP CS.C}
def spKept : Sp := fun vs H Q _ => ∃ (M : Mw) (p1 p2 e : Addr), vs = [.ref p1, .ref p2, .ref e] ∧ Mok M H ∧ H e = some (.lst []) ∧ ∀ H' p, Go M H H' → H p = none → H' p = some (.lst []) → Q (.ref p) H'
theorem ok_kept_of {kf : Nat} {f : Addr} {fd : FuncData} (T : Bn mg) (F : Fun K "kept_of" "kept_of" s_kept_of f fd) (CC_is_free : MF K CC.C "is_free" "Ranked.is_free" s_Ranked_is_free ["self", "members"]) (CS_is_free : MF K CS.C "is_free" "Ranked.is_free" s_Ranked_is_free ["self", "members"])
    (G_CC_is_free : FnOk P w K mg base CX0 kf CC_is_free.f CC_is_free.fd ["self", "members"] (spFree K B1)) (G_CS_is_free : FnOk P w K mg base CX0 kf CS_is_free.f CS_is_free.fd ["self", "members"] (spFree K B2)) : FnOk P w K mg base CX0 (kf + 1) f fd ["first", "second", "members"] spKept := by
  refine F.ok sc_kept_of (fun vs H Q E h => ?_) (fun cdv A outer s H vs Q E hr h => ?_)
  · obtain ⟨M, p1, p2, e, rfl, _⟩ := h
    rfl
  · obtain ⟨M, p1, p2, e, rfl, mk, he, q⟩ := h
    -- 0 first, 1 second, 2 members, 3 kept, 4 element
    refine ⟨_, (pss_cons (ps_set (i := 3) sc_kept_of.nd rfl (.inl rfl) (pe_lst pa_nil))
      (pss_cons (ps_for PassesOwn.never rfl (pi_listK (K := K) (pe_callB (cr_sortedIK (K := K)) (by rfl) T.m_sorted (by decide +kernel) (pa_cons (pv 2) pa_nil))) (pg_name (i := 4) sc_kept_of.nd rfl (.inl rfl)) (pss_one (ps_if (PW.pt (pw_and (pt_val (pe_meth (pv 0) CC.cl CC_is_free.me G_CC_is_free (hr.mono (by first | decide | omega)) CC_is_free.b .nil pass0 (pa_cons (pe_op op_cat (pv 3) (pe_lst (pa_cons (pv 4) pa_nil))) pa_nil))) (pw_and1 (pt_val (pe_meth (pv 1) CS.cl CS_is_free.me G_CS_is_free (hr.mono (by first | decide | omega)) CS_is_free.b .nil pass0 (pa_cons (pe_op op_cat (pv 3) (pe_lst (pa_cons (pv 4) pa_nil))) pa_nil)))))) (pss_one (ps_expr (pe_bm PySem.F.plainAttrs_list PySem.F.slot_list_append PySem.F.type_list_append mt_append (pv 3) (pa_cons (pv 4) pa_nil)))) pss_nil)))
      (pss_one (ps_ret (pv 3))))), ?_⟩
    refine ⟨Nat.zero_le _, fun k nk => ?_⟩
    have g1 : Go M H (upd H k (.lst [])) := (Go.refl mk).new nk
    have hk : (upd H k (.lst [])) k = some (.lst []) := upd_same
    have he1 := g1.at he
    generalize upd H k (.lst []) = H1 at g1 hk he1
    refine ⟨.ref e, rfl, e, [], rfl, SqL.of he1, fun ns b perm rising nb => ?_⟩
    have e0 : ns = [] := List.Perm.eq_nil perm
    subst e0
    have g2 : Go M H (upd H1 b (.lst ([].map V.int))) := g1.new nb
    have hk2 : (upd H1 b (.lst ([].map V.int))) k = some (.lst []) := (upd_ne (ne_of_none hk nb)).trans hk
    refine ⟨b, rfl, ⟨_, SqL.of upd_same⟩, for_it (walk_list (K := K) (a := b) (xs := [])) (fun i σ H' => H' = upd H1 b (.lst ([].map V.int)) ∧ i = 0 ∧ σ = [some (.ref p1), some (.ref p2), some (.ref e), some (.ref k), none]) ⟨rfl, rfl, rfl⟩ ?_ ?_ ?_⟩
    · rintro i σ H' _ ⟨rfl, _⟩
      exact SqL.of upd_same
    · rintro i x σ H1 H1' hi
      simp at hi
    · rintro σ H' ⟨rfl, _, rfl⟩
      exact ⟨.ref k, rfl, q _ k g2 nk hk2⟩
def spReached (B1 : ObP CC.C) (B2 : ObP CS.C) (tl tr : Addr) : Sp := fun vs H Q _ => ∃ (M : Mw) (p1 p2 c : Addr) (m1 m2 : Memo) (m : Nat) (ch : List Nat), vs = [.ref p1, .ref p2, .ref c] ∧ PairAt B1 B2 M H p1 p2 m1 m2 m ∧ tl ∈ M.tb ∧ tr ∈ M.tb ∧ ChAt H c ch m ∧
  ∀ H' p, Go M H H' → H p = none → H' p = some (.lst (nV (Bst.lst m (Bst.reach m (fr m1) (fr m2) (Bst.mem ch))))) → Q (.ref p) H'
/-- what the search ends with -/
structure Moved (m : Nat) (f1 f2 : Bst.S → Bool) (I1 I2 : Bst.S → Prop) (ch : List Nat) : Prop where
  i1 : I1 (Bst.mem ch)
  i2 : I2 (Bst.mem ch)
  last : ∀ e, Bst.reach m f1 f2 (Bst.mem ch) e = true → Bst.mem ch e = false → f2 (Bst.ins (Bst.mem ch) e) = false
def spMoved (B1 : ObP CC.C) (B2 : ObP CS.C) (tl tr : Addr) : Sp := fun vs H Q _ => ∃ (M : Mw) (p1 p2 e : Addr) (m1 m2 : Memo) (m : Nat) (I1 I2 : Bst.S → Prop), vs = [.ref p1, .ref p2, .ref e] ∧ PairAt B1 B2 M H p1 p2 m1 m2 m ∧ tl ∈ M.tb ∧ tr ∈ M.tb ∧ H e = some (.lst []) ∧
  Bst.Mat m I1 ∧ Bst.Mat m I2 ∧ (∀ B : Bst.S, (∀ x, B x = true → x < m) → (fr m1 B = true ↔ I1 B)) ∧ (∀ B : Bst.S, (∀ x, B x = true → x < m) → (fr m2 B = true ↔ I2 B)) ∧
  ∀ H' t u v c r ch, Go M H H' → H' t = some (.tup [u, v, .ref c, .ref r]) → ChAt H' c ch m → Moved m (fr m1) (fr m2) I1 I2 ch → H' r = some (.lst (nV (Bst.lst m (Bst.reach m (fr m1) (fr m2) (Bst.mem ch))))) → Q (.ref t) H'
theorem ok_moved_in {kf : Nat} {f tl tr : Addr} {fd : FuncData} {cr : Addr} (T : Bn mg) (F : Fun K "moved_in" "moved_in" s_moved_in f fd)
    (D_kept_of : Def K mg "kept_of" s_kept_of) (G_kept_of : FnOk P w K mg base CX0 (kf + 1) D_kept_of.f D_kept_of.fd ["first", "second", "members"] spKept)
    (D_row_in : Def K mg "row_in" s_row_in) (G_row_in : FnOk P w K mg base CX0 (kf + 4) D_row_in.f D_row_in.fd ["first", "second", "chosen"] (spRow B1 B2 tl))
    (D_after_row : Def K mg "after_row" s_after_row) (G_after_row : FnOk P w K mg base CX0 1 D_after_row.f D_after_row.fd ["chosen", "row"] spAfter)
    (D_reached_from : DefC K mg "reached_from" s_reached_from cr) (G_reached_from : FnOk P w K mg base CX0 (kf + 5) D_reached_from.f D_reached_from.fd ["first", "second", "chosen"] (spReached B1 B2 tl tr)) : FnOk P w K mg base CX0 (kf + 6) f fd ["first", "second", "members"] (spMoved B1 B2 tl tr) := by
  refine F.ok sc_moved_in (fun vs H Q E h => ?_) (fun cdv A outer s H vs Q E hr h => ?_)
  · obtain ⟨M, p1, p2, e, m1, m2, m, I1, I2, rfl, _⟩ := h
    rfl
  · obtain ⟨M, p1, p2, e, m1, m2, m, I1, I2, rfl, hP, htl, htr, he, M1, M2, e1, e2, q⟩ := h
    -- 0 first, 1 second, 2 members, 3 kept, 4 chosen, 5 rows, 6 row
    refine ⟨_, (pss_cons (ps_set (i := 3) sc_moved_in.nd rfl (.inl rfl) (pe_call G_kept_of (hr.mono (by first | decide | omega)) (by rfl) D_kept_of.g D_kept_of.F.kp (bd_kept_of D_kept_of.F) .nil pass0 (pa_cons (pv 0) (pa_cons (pv 1) (pa_cons (pv 2) pa_nil)))))
      (pss_cons (ps_set (i := 4) sc_moved_in.nd rfl (.inl rfl) (pe_callTy (call_list_ofK (K := K)) (by rfl) T.m_list (by decide +kernel) (pa_cons (pv 3) pa_nil)))
      (pss_cons (ps_set (i := 5) sc_moved_in.nd rfl (.inl rfl) (pe_lst pa_nil))
      (pss_cons (ps_set (i := 6) sc_moved_in.nd rfl (.inl rfl) (pe_call G_row_in (hr.mono (by first | decide | omega)) (by rfl) D_row_in.g D_row_in.F.kp (bd_row_in D_row_in.F) .nil pass0 (pa_cons (pv 0) (pa_cons (pv 1) (pa_cons (pv 4) pa_nil)))))
      (pss_cons (ps_while PassesOwn.never (pt_cmpR op_notN (pv 6) pe_non (nomark _)) (pss_cons (ps_expr (pe_bm PySem.F.plainAttrs_list PySem.F.slot_list_append PySem.F.type_list_append mt_append (pv 5) (pa_cons (pv 6) pa_nil)))
      (pss_cons (ps_set (i := 4) sc_moved_in.nd rfl (.inl rfl) (pe_call G_after_row (hr.mono (by first | decide | omega)) (by rfl) D_after_row.g D_after_row.F.kp (bd_after_row D_after_row.F) .nil pass0 (pa_cons (pv 4) (pa_cons (pv 6) pa_nil))))
      (pss_one (ps_set (i := 6) sc_moved_in.nd rfl (.inl rfl) (pe_call G_row_in (hr.mono (by first | decide | omega)) (by rfl) D_row_in.g D_row_in.F.kp (bd_row_in D_row_in.F) .nil pass0 (pa_cons (pv 0) (pa_cons (pv 1) (pa_cons (pv 4) pa_nil)))))))))
      (pss_one (ps_ret (pe_tup (pa_cons (pv 3) (pa_cons (pv 5) (pa_cons (pv 4) (pa_cons (pe_call G_reached_from (hr.mono (by first | decide | omega)) (by rfl) D_reached_from.g D_reached_from.F.kp (bd_reached_from D_reached_from.F) .nil pass0 (pa_cons (pv 0) (pa_cons (pv 1) (pa_cons (pv 4) pa_nil)))) pa_nil)))))))))))), ?_⟩
    have h12 := hP.le
    refine ⟨.ref p1, rfl, .ref p2, rfl, .ref e, rfl, M, p1, p2, e, rfl, hP.mok, he, fun H1 k g1 nk hk => ?_⟩
    refine ⟨.ref k, rfl, k, _, rfl, .inl (SqL.of hk), fun c nc => ?_⟩
    have g2 : Go M H (upd H1 c (.lst [])) := g1.new nc
    have hc2 : (upd H1 c (.lst [])) c = some (.lst (nV [])) := upd_same
    generalize upd H1 c (.lst []) = H2 at g2 hc2
    refine ⟨Nat.zero_le _, fun R nR => ?_⟩
    have g3 : Go M H (upd H2 R (.lst [])) := g2.new nR
    have ncR := ne_of_none hc2 nR
    have hc3 : (upd H2 R (.lst [])) c = some (.lst (nV [])) := (upd_ne ncR).trans hc2
    have hR3 : (upd H2 R (.lst [])) R = some (.lst []) := upd_same
    have nRH := g2.back nR
    generalize upd H2 R (.lst []) = H3 at g3 hc3 hR3
    have hC3 : ChAt H3 c [] m := ⟨hc3, .nil, fun e h => by cases h⟩
    let W : Nat → L2.St → Hp → Prop := fun k' σ H' => Go M H H' ∧ ∃ (c : Addr) (ch : List Nat) (rs : List V) (rv : V), σ = [some (.ref p1), some (.ref p2), some (.ref e), some (.ref k), some (.ref c), some (.ref R), some rv] ∧ c ≠ R ∧ ChAt H' c ch m ∧ I1 (Bst.mem ch) ∧ I2 (Bst.mem ch) ∧
      H' R = some (.lst rs) ∧ rs.length = Bst.cnt m (Bst.mem ch) ∧ k' = m - Bst.cnt m (Bst.mem ch) ∧
      ((∃ r n rr, rv = .ref r ∧ r ≠ R ∧ H' r = some (.lst (nV ((List.range (n + 1)).map rr))) ∧ Bst.IsRow m (fr m1) (fr m2) (Bst.mem ch) n rr) ∨
        (rv = .non ∧ ∀ e, Bst.reach m (fr m1) (fr m2) (Bst.mem ch) e = true → Bst.mem ch e = false → fr m2 (Bst.ins (Bst.mem ch) e) = false))
    have wA : ∀ {H3 : Hp} {c : Addr} {ch : List Nat} {rs : List V}, Go M H H3 → c ≠ R → ChAt H3 c ch m → I1 (Bst.mem ch) → I2 (Bst.mem ch) → H3 R = some (.lst rs) → rs.length = Bst.cnt m (Bst.mem ch) → ∀ (H4 : Hp) (r n : Nat) (rr : Nat → Nat), Go M H3 H4 → H3 r = none → H4 r = some (.lst (nV ((List.range (n + 1)).map rr))) → Bst.IsRow m (fr m1) (fr m2) (Bst.mem ch) n rr →
        W (m - Bst.cnt m (Bst.mem ch)) [some (.ref p1), some (.ref p2), some (.ref e), some (.ref k), some (.ref c), some (.ref R), some (.ref r)] H4 := fun {H3 c ch rs} g3 ncR hC3 i1 i2 hR hrs H4 r n rr g4 nr hr isr =>
      ⟨g3.trans g4, c, ch, rs, _, rfl, ncR, hC3.go g4, i1, i2, g4.at hR, hrs, rfl, .inl ⟨r, n, rr, rfl, (ne_of_none hR nr).symm, hr, isr⟩⟩
    have wB : ∀ {H3 : Hp} {c : Addr} {ch : List Nat} {rs : List V}, Go M H H3 → c ≠ R → ChAt H3 c ch m → I1 (Bst.mem ch) → I2 (Bst.mem ch) → H3 R = some (.lst rs) → rs.length = Bst.cnt m (Bst.mem ch) → ∀ (H4 : Hp), Go M H3 H4 → (∀ e, Bst.reach m (fr m1) (fr m2) (Bst.mem ch) e = true → Bst.mem ch e = false → fr m2 (Bst.ins (Bst.mem ch) e) = false) →
        W (m - Bst.cnt m (Bst.mem ch)) [some (.ref p1), some (.ref p2), some (.ref e), some (.ref k), some (.ref c), some (.ref R), some .non] H4 := fun {H3 c ch rs} g3 ncR hC3 i1 i2 hR hrs H4 g4 hl =>
      ⟨g3.trans g4, c, ch, rs, _, rfl, ncR, hC3.go g4, i1, i2, g4.at hR, hrs, rfl, .inr ⟨rfl, hl⟩⟩
    have i10 : I1 (Bst.mem []) := by rw [mem_nil]; exact M1.emp
    have i20 : I2 (Bst.mem []) := by rw [mem_nil]; exact M2.emp
    have c0 : ([] : List V).length = Bst.cnt m (Bst.mem []) := by rw [mem_nil]; exact (Bst.cnt_zero_iff.mpr fun _ _ => rfl).symm
    refine ⟨.ref p1, rfl, .ref p2, rfl, .ref c, rfl, M, p1, p2, c, m1, m2, m, [], rfl, hP.go g3, htl, hC3, fun H4 r n rr g4 nr hr isr => ⟨W, ⟨_, wA g3 ncR hC3 i10 i20 hR3 c0 H4 r n rr g4 nr hr isr⟩, ?_⟩, fun H4 g4 hl => ⟨W, ⟨_, wB g3 ncR hC3 i10 i20 hR3 c0 H4 g4 hl⟩, ?_⟩⟩
    all_goals (
      clear hC3 hc3 hR3 c0 i10 i20 ncR
      rintro k' σ H5 ⟨g5, c, ch, rs, rv, rfl, ncR, hC, i1, i2, hR, hrs, rfl, alt⟩
      have hcm := Bst.cnt_le m (Bst.mem ch)
      obtain ⟨hc, hn, hl⟩ := id hC
      rcases alt with ⟨r, n, rr, rfl, nrR, hr', isr⟩ | ⟨rfl, hlast⟩
      · refine ⟨_, rfl, rfl, _, rfl, iteT ⟨fun σ' H' => ∃ m', m' < m - Bst.cnt m (Bst.mem ch) ∧ W m' σ' H', fun σ' H' hN => hN, ?_⟩⟩
        -- rows.append(row)
        refine ⟨.ref R, rfl, .inl ⟨rfl, _, SqL.of hR⟩, .ref r, rfl, R, _, _, rfl, rfl, hR, szl (by omega), ?_⟩
        have g6 : Go M H (upd H5 R (.lst (rs ++ [.ref r]))) := g5.set nRH hR
        have hR6 : (upd H5 R (.lst (rs ++ [.ref r]))) R = some (.lst (rs ++ [.ref r])) := upd_same
        have hC6 : ChAt (upd H5 R (.lst (rs ++ [.ref r]))) c ch m := ⟨(upd_ne ncR).trans hc, hn, hl⟩
        have hr6 : (upd H5 R (.lst (rs ++ [.ref r]))) r = some (.lst (nV ((List.range (n + 1)).map rr))) := (upd_ne nrR).trans hr'
        generalize upd H5 R (.lst (rs ++ [.ref r])) = H6 at g6 hR6 hC6 hr6
        have rnd : ((List.range (n + 1)).map rr).Nodup := by
          refine List.pairwise_map.mpr ?_
          refine (List.nodup_range (n := n + 1)).imp_of_mem fun {i j} hi hj hij => ?_
          have h1 := List.mem_range.mp hi
          have h2 := List.mem_range.mp hj
          exact isr.ne (by omega) (by omega) hij
        have rlt : ∀ x ∈ (List.range (n + 1)).map rr, x < m := fun x hx => by
          obtain ⟨i, hi, rfl⟩ := List.mem_map.mp hx
          have h1 := List.mem_range.mp hi
          exact isr.lt (by omega)
        obtain ⟨f1, f2, f3⟩ := Bst.row_free M1 M2 e1 e2 i1 i2 isr
        have eflip : (fun e => xor (Bst.mem ch e) (Bst.mem ((List.range (n + 1)).map rr) e)) = Bst.flip (Bst.mem ch) n rr := by
          funext x
          unfold Bst.flip
          congr 1
          unfold Bst.mem
          rw [Bool.eq_iff_iff, decide_eq_true_eq, List.mem_map, List.any_eq_true]
          simp
        refine ⟨.ref c, rfl, .ref r, rfl, M, c, r, ch, _, m, rfl, g6.b, hC6, ⟨hr6, rnd, rlt⟩, h12, fun H7 c' g7 nc' hc' => ?_⟩
        rw [eflip] at hc'
        have hfl : ∀ x, Bst.flip (Bst.mem ch) n rr x = true → x < m := fun x hx => M1.sup _ x f1 hx
        have hmf : Bst.mem (Bst.lst m (Bst.flip (Bst.mem ch) n rr)) = Bst.flip (Bst.mem ch) n rr := Bst.mem_of_lst hfl
        have hC7 : ChAt H7 c' (Bst.lst m (Bst.flip (Bst.mem ch) n rr)) m := ⟨hc', Bst.lst_nodup _ _, fun e he => lst_lt he⟩
        have ncR' := (ne_of_none hR6 nc').symm
        have hR7 := g7.at hR6
        have hcm2 := Bst.cnt_le m (Bst.flip (Bst.mem ch) n rr)
        have cn : (rs ++ [V.ref r]).length = Bst.cnt m (Bst.mem (Bst.lst m (Bst.flip (Bst.mem ch) n rr))) := by
          rw [hmf, f3, List.length_append, List.length_cons, List.length_nil, hrs]
        have dec : m - Bst.cnt m (Bst.mem (Bst.lst m (Bst.flip (Bst.mem ch) n rr))) < m - Bst.cnt m (Bst.mem ch) := by
          rw [hmf, f3]; omega
        have i1' : I1 (Bst.mem (Bst.lst m (Bst.flip (Bst.mem ch) n rr))) := by rw [hmf]; exact f1
        have i2' : I2 (Bst.mem (Bst.lst m (Bst.flip (Bst.mem ch) n rr))) := by rw [hmf]; exact f2
        exact ⟨.ref p1, rfl, .ref p2, rfl, .ref c', rfl, M, p1, p2, c', m1, m2, m, _, rfl, hP.go (g6.trans g7), htl, hC7,
          fun H8 r8 n8 rr8 g8 nr8 hr8 isr8 => ⟨_, dec, wA (g6.trans g7) ncR' hC7 i1' i2' hR7 cn H8 r8 n8 rr8 g8 nr8 hr8 isr8⟩, fun H8 g8 hl8 => ⟨_, dec, wB (g6.trans g7) ncR' hC7 i1' i2' hR7 cn H8 g8 hl8⟩⟩
      · refine ⟨_, rfl, rfl, _, rfl, iteF ?_⟩
        refine ⟨.ref k, rfl, .ref R, rfl, .ref c, rfl, .ref p1, rfl, .ref p2, rfl, .ref c, rfl, M, p1, p2, c, m1, m2, m, ch, rfl, hP.go g5, htl, htr, hC, fun H6 r g6 nr hr6 => ⟨by show 4 ≤ sizeLine; decide, fun t nt => ?_⟩⟩
        have g7 : Go M H6 (upd H6 t (.tup [.ref k, .ref R, .ref c, .ref r])) := (Go.refl g6.b).new nt
        exact q _ t _ _ c r ch (g5.trans (g6.trans g7)) upd_same (hC.go (g6.trans g7)) ⟨i1, i2, hlast⟩ (g7.at hr6))
end
end Bw

set_option Elab.async false
set_option linter.all false
set_option maxRecDepth 100000
set_option maxHeartbeats 2000000
namespace Bw
open PySem PySem.Spec PyProof.Rows L2
section
variable {P : Program} {w : World} {K : PySem.W.Frag} {mg : Str → Option Value} {base : Heap} {CC CS : CF K} {B1 : ObP CC.C} {B2 : ObP CS.C}
theorem ok_reached_from {kf : Nat} {c tl tr : Addr} {cl : Addr} (T : Bn mg) (D : DefC K mg "reached_from" s_reached_from c) (TB : GxR.TabB base mg c tr)
    (D_layers_of : DefC K mg "layers_of" s_layers_of cl) (G_layers_of : FnOk P w K mg base CX0 (kf + 3) D_layers_of.f D_layers_of.fd ["first", "second", "chosen"] (spLayers B1 B2 tl)) : FnOk P w K mg base CX0 (kf + 5) D.f D.fd ["first", "second", "chosen"] (spReached B1 B2 tl tr) := by
  refine D.FC.ok sc_reached_from (fun vs H Q E h => ?_) (fun A outer s H vs Q E hr h => ?_)
  · obtain ⟨M, p1, p2, c, m1, m2, m, ch, rfl, _⟩ := h
    rfl
  · obtain ⟨M, p1, p2, c, m1, m2, m, ch, rfl, hP, htl, htr, hC, q⟩ := h
    -- 0 first, 1 second, 2 chosen, 3 layer, 4 element
    refine ⟨_, (pss_one (ps_ret (Gx.pe_sortedG (own := [("layer", 3), ("element", 4)]) hr sc_reached_from.nd (by rfl) T.m_sorted (by decide +kernel) TB rfl ⟨blkOk_by (by rfl), rfl, by decide +kernel, rfl⟩ (pi_listK (K := K) (pe_call G_layers_of (hr.mono (by first | decide | omega)) (by rfl) D_layers_of.g D_layers_of.F.kp (bd_layers_of D_layers_of.F) .nil pass0 (pa_cons (pv 0) (pa_cons (pv 1) (pa_cons (pv 2) pa_nil))))) (fun _ => rfl) (fun _ _ => rfl) (fun _ _ _ _ _ _ => pg_name (i := 3) sc_reached_from.nd rfl (.inl rfl)) (fun _ _ _ _ _ _ => pi_list (pv 3)) (fun _ _ _ _ _ _ => pg_name (i := 4) sc_reached_from.nd rfl (.inl rfl)) (fun _ _ _ _ _ _ => pv 4) (by simp) (by simp) (by show 3 < 5; decide) (by show 4 < 5; decide)))), ?_⟩
    have h12 := hP.le
    generalize hl : (laysL m m1 m2 (Bst.mem ch)).flatten = l
    have lmem : ∀ e, e ∈ l ↔ e < m ∧ Bst.reach m (fr m1) (fr m2) (Bst.mem ch) e = true := fun e => by
      rw [← hl, List.mem_flatten]
      constructor
      · rintro ⟨r, hr, he⟩
        obtain ⟨L, hL, rfl⟩ := List.mem_map.mp hr
        have := Bst.mem_lst.mp he
        exact ⟨this.1, List.any_eq_true.mpr ⟨L, hL, this.2⟩⟩
      · rintro ⟨h1, h2⟩
        obtain ⟨L, hL, h3⟩ := List.any_eq_true.mp h2
        exact ⟨_, List.mem_map.mpr ⟨L, hL, rfl⟩, Bst.mem_lst.mpr ⟨h1, h3⟩⟩
    have ln : l.Nodup := by
      rw [← hl]
      refine List.pairwise_flatten.mpr ⟨fun r hr => ?_, ?_⟩
      · obtain ⟨L, hL, rfl⟩ := List.mem_map.mp hr
        exact Bst.lst_nodup _ _
      · refine List.pairwise_map.mpr (List.pairwise_iff_getElem.mpr fun i j hi hj hij x hx y hy => ?_)
        intro e
        subst e
        have h1 := (Bst.mem_lst.mp hx).2
        have h2 := (Bst.mem_lst.mp hy).2
        have := (Bst.lays_low (List.getElem?_eq_getElem hj) h2).2.1 i _ hij (List.getElem?_eq_getElem hi)
        rw [h1] at this
        cases this
    have ll : ∀ e ∈ l, e < m := fun e he => ((lmem e).mp he).1
    have hmem : Bst.lst m (Bst.mem l) = Bst.lst m (Bst.reach m (fr m1) (fr m2) (Bst.mem ch)) := Bst.lst_congr fun e he => by
      rw [Bool.eq_iff_iff, Bst.mem_true, lmem]
      exact ⟨fun h => h.2, fun h => ⟨he, h⟩⟩
    have hfl : ((laysL m m1 m2 (Bst.mem ch)).map fun r => r.map Int.ofNat).flatten = l.map Int.ofNat := by rw [← hl, List.map_flatten]
    refine ⟨.ref p1, rfl, .ref p2, rfl, .ref c, rfl, M, p1, p2, c, m1, m2, m, ch, rfl, hP, htl, hC, fun H1 R rs g1 nR hR hAll => ⟨R, rfl, ⟨_, SqL.of hR⟩, g1.b.tab tr htr, fun H2 tb2 => ?_⟩⟩
    have g12 : Go M H1 H2 := (Go.refl g1.b).tab' htr tb2
    refine ⟨R, (laysL m m1 m2 (Bst.mem ch)).map fun r => r.map Int.ofNat, rs, rfl, SqL.of (g12.at hR), ?_, fun u row hu => ?_, ?_, fun ns p perm rising np => ?_⟩
    · rw [hAll.len]; simp
    · rw [List.getElem?_map] at hu
      cases e : (laysL m m1 m2 (Bst.mem ch))[u]? with
      | none => rw [e] at hu; cases hu
      | some r =>
        rw [e] at hu
        cases hu
        obtain ⟨v, ev, b, rfl, hb⟩ := hAll.at e
        exact ⟨b, ev, int_n ▸ SqL.of (g12.at hb)⟩
    · rw [hfl, List.length_map]
      have := nodup_lt_len ln ll
      omega
    · rw [hfl] at perm
      rw [sort_set ln ll perm rising, hmem]
      have g2 := g1.trans g12
      exact q _ p (g2.new np) (g2.back np) upd_same
end
end Bw

set_option Elab.async false
set_option linter.all false
set_option maxRecDepth 100000
set_option maxHeartbeats 2000000
namespace Bw
open PySem PySem.Spec PyProof.Rows L2
/-! ### what stays but the memos, as they grow -/
def Kp (H H' : Hp) : Prop := ∀ x o, H x = some o → kept o = true → H' x = some o
section
variable {K : PySem.W.Frag} {M M' M1 M2 : Mw} {H H' H1 H2 : Hp} {x : Addr} {u : HO} {xs : List V}
theorem Go.kp (g : Go M H H') : Kp H H' := fun _ _ h k => g.at h k
theorem Kp.trans (a : Kp H H1) (b : Kp H1 H2) : Kp H H2 := fun x o h k => b x o (a x o h k) k
theorem Kp.rd (g : Kp H H') (h : Rd H x u) (k : kept u = true := by rfl) : Rd H' x u := by
  rcases h with h | ⟨o, h⟩
  · exact .inl (g _ _ h k)
  · exact .inr ⟨o, g _ _ h rfl⟩
theorem Kp.l (g : Kp H H') (h : SqL K H x xs) : SqL K H' x xs := by
  rcases h with h | h
  · exact .inl (g.rd h)
  · exact .inr h
theorem Kp.t (g : Kp H H') (h : SqT K H x xs) : SqT K H' x xs := by
  rcases h with h | h
  · exact .inl (g.rd h)
  · exact .inr h
theorem TI.kp {v : V} {ns : List Nat} (g : Kp H H') (h : TI K H v ns) : TI K H' v ns := by
  obtain ⟨a, rfl, s⟩ := h
  exact ⟨a, rfl, g.t s⟩
theorem TT2.kp {v : V} {ns : List (List Nat)} (g : Kp H H') (h : TT2 K H v ns) : TT2 K H' v ns := by
  obtain ⟨a, vs, rfl, s, t⟩ := h
  exact ⟨a, vs, rfl, g.t s, t.mono fun _ _ => TI.kp g⟩
theorem TBd.kp {v : V} {b : List Nat × Nat} (g : Kp H H') (h : TBd K H v b) : TBd K H' v b := by
  obtain ⟨a, w, rfl, s, t⟩ := h
  exact ⟨a, w, rfl, g.t s, t.kp g⟩
theorem TTB.kp {v : V} {ns : List (List Nat × Nat)} (g : Kp H H') (h : TTB K H v ns) : TTB K H' v ns := by
  obtain ⟨a, vs, rfl, s, t⟩ := h
  exact ⟨a, vs, rfl, g.t s, t.mono fun _ _ => TBd.kp g⟩
theorem LineAt.kp {a : Addr} {ln : Ln} (g : Kp H H') (h : LineAt K H a ln) : LineAt K H' a ln := by
  cases ln with
  | graph nv es => obtain ⟨v, s, t⟩ := h; exact ⟨v, g.t s, t.kp g⟩
  | choices m rows => obtain ⟨v, s, t⟩ := h; exact ⟨v, g.t s, t.kp g⟩
  | bounds n bs => obtain ⟨v, s, t⟩ := h; exact ⟨v, g.t s, t.kp g⟩
  | uniform n r => exact g.t h
  | vectors cs => obtain ⟨v, s, t⟩ := h; exact ⟨v, g.t s, t.kp g⟩
/-- from (M, H) to (M', H'): memos may have come -/
structure Gr (M M' : Mw) (H H' : Hp) : Prop where
  a : Mok M H
  b : Mok M' H'
  keep : ∀ x o, H x = some o → x ∉ M.ad → H' x = some o
  ms : ∀ m ∈ M.ms, m ∈ M'.ms
  tb : M'.tb = M.tb
  new : ∀ m ∈ M'.ms, m ∈ M.ms ∨ H m.d = none
theorem Gr.of (g : Go M H H') : Gr M M H H' := ⟨g.a, g.b, g.keep, fun _ h => h, rfl, fun _ h => .inl h⟩
theorem Gr.kp (g : Gr M M' H H') : Kp H H' := fun x o h k => g.keep x o h fun hx => by
  obtain ⟨o', e, k'⟩ := g.a.ad hx
  rw [h] at e
  cases e
  rw [k] at k'
  cases k'
theorem Gr.back (g : Gr M M' H H') (h : H' x = none) : H x = none := by
  cases e : H x with
  | none => rfl
  | some o =>
    by_cases hx : x ∈ M.ad
    · rcases List.mem_append.mp hx with h1 | h1
      · obtain ⟨m, hm, rfl⟩ := List.mem_map.mp h1
        obtain ⟨_, kvs, e', _⟩ := g.b.mem m (g.ms m hm)
        rw [h] at e'; cases e'
      · obtain ⟨ps, e', _⟩ := g.b.tab x (by rw [g.tb]; exact h1)
        rw [h] at e'; cases e'
    · rw [g.keep x o e hx] at h
      cases h
theorem Gr.trans (g : Gr M M1 H H1) (g2 : Gr M1 M2 H1 H2) : Gr M M2 H H2 := by
  refine ⟨g.a, g2.b, fun x o e n => ?_, fun m h => g2.ms m (g.ms m h), g2.tb.trans g.tb, fun m h => ?_⟩
  · refine g2.keep x o (g.keep x o e n) fun hx => ?_
    rcases List.mem_append.mp hx with h1 | h1
    · obtain ⟨m, hm, rfl⟩ := List.mem_map.mp h1
      rcases g.new m hm with h2 | h2
      · exact n (List.mem_append_left _ (List.mem_map_of_mem h2))
      · rw [e] at h2; cases h2
    · exact n (List.mem_append_right _ (by rw [← g.tb]; exact h1))
  · rcases g2.new m h with h1 | h1
    · exact g.new m h1
    · exact .inr (g.back h1)
theorem Gr.go (g : Gr M M1 H H1) (g2 : Go M1 H1 H2) : Gr M M1 H H2 := g.trans (Gr.of g2)
/-- a new memo -/
theorem Gr.memo {d : Addr} {n : Nat} {rk : Bst.S → Int} (g : Gr M M1 H H1) (hd : H1 d = some (.dT [])) (hn : d ∉ M1.ad) (h0 : H d = none) (h12 : n ≤ 12) : Gr M ⟨⟨d, n, rk⟩ :: M1.ms, M1.tb⟩ H H1 := by
  refine ⟨g.a, ⟨fun m hm => ?_, g.b.tab, ?_⟩, g.keep, fun m h => List.mem_cons_of_mem _ (g.ms m h), g.tb, fun m h => ?_⟩
  · rcases List.mem_cons.mp hm with rfl | hm
    · exact ⟨h12, [], hd, List.Pairwise.nil, fun kv h => by cases h⟩
    · exact g.b.mem m hm
  · show (d :: M1.ms.map (·.d)).Nodup
    exact List.nodup_cons.mpr ⟨fun h => hn (List.mem_append_left _ h), g.b.nd⟩
  · rcases List.mem_cons.mp h with rfl | h
    · exact .inr h0
    · exact g.new m h
end
/-! ### the objects -/
structure Cls2 (K : PySem.W.Frag) extends CF K where
  nA : NoAttr K C "line"
  nB : NoAttr K C "inner"
  nC : NoAttr K C "one"
  nD : NoAttr K C "two"
  nE : NoAttr K C "members"
section
variable {K : PySem.W.Frag}
def OKind (K : PySem.W.Frag) (C tc tb : Addr) (M : Mw) (H : Hp) (p : Addr) (m : Memo) : Prop := ∃ (dx L : Addr) (ln : Ln), H p = some (.ins C dx [("size", .int (m.n : Nat)), ("known", .ref m.d), ("line", .ref L)]) ∧ LineAt K H L ln ∧ LnOk ln ∧ lnSize ln = m.n ∧
  m.rk = (fun A => ((lnRk ln (Bst.lst m.n A) : Nat) : Int)) ∧ m ∈ M.ms ∧ tc ∈ M.tb ∧ tb ∈ M.tb
theorem OKind.gr {C tc tb : Addr} {M M' : Mw} {H H' : Hp} {p : Addr} {m : Memo} (h : OKind K C tc tb M H p m) (g : Gr M M' H H') : OKind K C tc tb M' H' p m := by
  obtain ⟨dx, L, ln, h1, h2, h3, h4, h5, h6, h7, h8⟩ := h
  exact ⟨dx, L, ln, g.kp _ _ h1 rfl, h2.kp g.kp, h3, h4, h5, g.ms m h6, by rw [g.tb]; exact h7, by rw [g.tb]; exact h8⟩
def BKind (K : PySem.W.Frag) (C tc tb : Addr) : ObP C where
  O := OKind K C tc tb
  ins := fun ⟨dx, L, ln, h1, _⟩ => ⟨dx, _, h1, rfl, rfl, rfl, rfl, rfl, rfl⟩
  mem := fun ⟨dx, L, ln, h1, h2, h3, h4, h5, h6, _⟩ => h6
  go := fun h g => OKind.gr h (Gr.of g)
def ODual (K : PySem.W.Frag) (CK CD tc tb : Addr) (M : Mw) (H : Hp) (p : Addr) (m : Memo) : Prop := ∃ (dx q : Addr) (mi : Memo), H p = some (.ins CD dx [("size", .int (m.n : Nat)), ("known", .ref m.d), ("inner", .ref q)]) ∧ OKind K CK tc tb M H q mi ∧ mi.n = m.n ∧
  m.rk = (fun A => (Bst.cnt m.n A : Nat) + mi.rk (fun e => decide (e < m.n) && !A e) - mi.rk (fun e => decide (e < m.n))) ∧ m ∈ M.ms
theorem ODual.gr {CK CD tc tb : Addr} {M M' : Mw} {H H' : Hp} {p : Addr} {m : Memo} (h : ODual K CK CD tc tb M H p m) (g : Gr M M' H H') : ODual K CK CD tc tb M' H' p m := by
  obtain ⟨dx, q, mi, h1, h2, h3, h4, h5⟩ := h
  exact ⟨dx, q, mi, g.kp _ _ h1 rfl, h2.gr g, h3, h4, g.ms m h5⟩
def BDual (K : PySem.W.Frag) (CK CD tc tb : Addr) : ObP CD where
  O := ODual K CK CD tc tb
  ins := fun ⟨dx, L, ln, h1, _⟩ => ⟨dx, _, h1, rfl, rfl, rfl, rfl, rfl, rfl⟩
  mem := fun ⟨dx, L, ln, h1, h2, h3, h4, h5⟩ => h5
  go := fun h g => ODual.gr h (Gr.of g)
def OAny (K : PySem.W.Frag) (CK CD tc tb : Addr) (M : Mw) (H : Hp) (p : Addr) (m : Memo) : Prop := OKind K CK tc tb M H p m ∨ ODual K CK CD tc tb M H p m
theorem OAny.gr {CK CD tc tb : Addr} {M M' : Mw} {H H' : Hp} {p : Addr} {m : Memo} (h : OAny K CK CD tc tb M H p m) (g : Gr M M' H H') : OAny K CK CD tc tb M' H' p m := h.imp (·.gr g) (·.gr g)
theorem OAny.fld {CK CD : Cls2 K} {tc tb : Addr} {M : Mw} {H : Hp} {p : Addr} {m : Memo} (h : OAny K CK.C CD.C tc tb M H p m) : ∃ (C dx : Addr) (fs : List (Str × V)), H p = some (.ins C dx fs) ∧ Cls K C ∧ NoAttr K C "size" ∧ fs.lookup ("size" : Str) = some (.int (m.n : Nat)) := by
  rcases h with ⟨dx, L, ln, h1, _⟩ | ⟨dx, q, mi, h1, _⟩
  · exact ⟨_, dx, _, h1, CK.cl, CK.nSize, rfl⟩
  · exact ⟨_, dx, _, h1, CD.cl, CD.nSize, rfl⟩
def OCop (K : PySem.W.Frag) (CK CD CC tc tb : Addr) (M : Mw) (H : Hp) (p : Addr) (m : Memo) : Prop := ∃ (dx q1 q2 a : Addr) (n : Nat) (m1 m2 : Memo) (ms : List Nat), H p = some (.ins CC dx [("size", .int (m.n : Nat)), ("known", .ref m.d), ("one", .ref q1), ("two", .ref q2), ("members", .ref a)]) ∧
  OAny K CK CD tc tb M H q1 m1 ∧ OAny K CK CD tc tb M H q2 m2 ∧ m1.n = n ∧ m2.n = n ∧ m.n = 2 * n ∧ H a = some (.lst (nV ms)) ∧ ms.length ≤ 1000 ∧
  m.rk = (fun A => m1.rk (fun e => Bst.lo n A e && Bst.mem ms e) + m2.rk (fun e => Bst.hi n A e && Bst.mem ms e)) ∧ m ∈ M.ms
theorem OCop.gr {CK CD CC tc tb : Addr} {M M' : Mw} {H H' : Hp} {p : Addr} {m : Memo} (h : OCop K CK CD CC tc tb M H p m) (g : Gr M M' H H') : OCop K CK CD CC tc tb M' H' p m := by
  obtain ⟨dx, q1, q2, a, n, m1, m2, ms, h1, h2, h3, h4, h5, h6, h7, h8, h9, h10⟩ := h
  exact ⟨dx, q1, q2, a, n, m1, m2, ms, g.kp _ _ h1 rfl, h2.gr g, h3.gr g, h4, h5, h6, g.kp _ _ h7 rfl, h8, h9, g.ms m h10⟩
def BCop (K : PySem.W.Frag) (CK CD CC tc tb : Addr) : ObP CC where
  O := OCop K CK CD CC tc tb
  ins := fun ⟨dx, q1, q2, a, n, m1, m2, ms, h1, _⟩ => ⟨dx, _, h1, rfl, rfl, rfl, rfl, rfl, rfl⟩
  mem := fun ⟨dx, q1, q2, a, n, m1, m2, ms, h1, h2, h3, h4, h5, h6, h7, h8, h9, h10⟩ => h10
  go := fun h g => OCop.gr h (Gr.of g)
def OSin (CS : Addr) (M : Mw) (H : Hp) (p : Addr) (m : Memo) : Prop := ∃ (dx : Addr) (n : Nat), H p = some (.ins CS dx [("size", .int (m.n : Nat)), ("known", .ref m.d)]) ∧ m.n = 2 * n ∧ m.rk = (fun A => ((Bst.cnt n (fun e => A e || A (e + n)) : Nat) : Int)) ∧ m ∈ M.ms
theorem OSin.gr {CS : Addr} {M M' : Mw} {H H' : Hp} {p : Addr} {m : Memo} (h : OSin CS M H p m) (g : Gr M M' H H') : OSin CS M' H' p m := by
  obtain ⟨dx, n, h1, h2, h3, h4⟩ := h
  exact ⟨dx, n, g.kp _ _ h1 rfl, h2, h3, g.ms m h4⟩
def BSin (CS : Addr) : ObP CS where
  O := OSin CS
  ins := fun ⟨dx, n, h1, _⟩ => ⟨dx, _, h1, rfl, rfl, rfl, rfl, rfl, rfl⟩
  mem := fun ⟨dx, n, h1, h2, h3, h4⟩ => h4
  go := fun h g => OSin.gr h (Gr.of g)
end
end Bw

set_option Elab.async false
set_option linter.all false
set_option maxRecDepth 100000
set_option maxHeartbeats 2000000
namespace Bw
open PySem PySem.Spec PyProof.Rows L2
section
variable {P : Program} {w : World} {K : PySem.W.Frag} {mg : Str → Option Value} {base : Heap}
theorem ok_Kind_compute {tc tb : Addr} (T : Bn mg) (CK : Cls2 K) (CK_compute : MF K CK.C "compute" "Kind.compute" s_Kind_compute ["self", "members"]) (D_rank_of_kind : Def K mg "rank_of_kind" s_rank_of_kind)
    (G_rank_of_kind : FnOk P w K mg base CX0 9 D_rank_of_kind.f D_rank_of_kind.fd ["line", "members"] (spKind K tc tb)) : FnOk P w K mg base CX0 10 CK_compute.f CK_compute.fd ["self", "members"] (spComp K (BKind K CK.C tc tb)) := by
  refine CK_compute.F.ok sc_Kind_compute (fun vs H Q E h => ?_) (fun cdv A outer s H vs Q E hr h => ?_)
  · obtain ⟨M, p, a, m, l, rfl, _⟩ := h
    rfl
  · obtain ⟨M, p, a, m, l, rfl, mk, hO, hA, hs, hl, q⟩ := h
    refine ⟨_, (pss_one (ps_ret (pe_call G_rank_of_kind (hr.mono (by first | decide | omega)) (by rfl) D_rank_of_kind.g D_rank_of_kind.F.kp (bd_rank_of_kind D_rank_of_kind.F) .nil pass0 (pa_cons (pe_fldK (K := K) (pv 0) rfl) (pa_cons (pv 1) pa_nil))))), ?_⟩
    obtain ⟨dx, L, ln, h1, h2, h3, h4, h5, h6, h7, h8⟩ := id hO
    have hlen : l.length ≤ 1000 := by
      have := nodup_lt_len (hs.imp fun h => Nat.ne_of_lt h) hl
      have := (mk.mem m h6).1
      omega
    refine ⟨.ref p, rfl, p, CK.C, dx, _, _, rfl, h1, CK.cl, CK.nA, rfl, .ref a, rfl, M, L, a, ln, l, rfl, mk, h7, h8, h2, h3, hA, fun e he => by rw [h4]; exact hl e he, hlen, fun H1 g1 => ?_⟩
    have hq := q H1 g1
    rw [h5] at hq
    dsimp only at hq
    rw [Bst.lst_mem hs hl] at hq
    exact hq
theorem compl_mem {n : Nat} {l : List Nat} : (List.range n).filter (fun e => !Bst.mem l e) = Bst.lst n (fun e => !Bst.mem l e) := rfl
theorem ok_Dual_compute {tc tb : Addr} (T : Bn mg) (CK CD : Cls2 K) (CD_compute : MF K CD.C "compute" "Dual.compute" s_Dual_compute ["self", "members"]) (CK_rank : MF K CK.C "rank" "Ranked.rank" s_Ranked_rank ["self", "members"]) (CK_whole : MF K CK.C "whole" "Ranked.whole" s_Ranked_whole ["self"])
    (G_CK_rank : FnOk P w K mg base CX0 11 CK_rank.f CK_rank.fd ["self", "members"] (spRank K (BKind K CK.C tc tb))) (G_CK_whole : FnOk P w K mg base CX0 12 CK_whole.f CK_whole.fd ["self"] (spWhole K (BKind K CK.C tc tb))) :
    FnOk P w K mg base CX0 13 CD_compute.f CD_compute.fd ["self", "members"] (spComp K (BDual K CK.C CD.C tc tb)) := by
  refine CD_compute.F.ok sc_Dual_compute (fun vs H Q E h => ?_) (fun cdv A outer s H vs Q E hr h => ?_)
  · obtain ⟨M, p, a, m, l, rfl, _⟩ := h
    rfl
  · obtain ⟨M, p, a, m, l, rfl, mk, hO, hA, hs, hl, q⟩ := h
    -- 0 self, 1 members, 2 outside, 3 element
    refine ⟨_, (pss_cons (ps_setLc (i := 2) (own := [("element", 3)]) (by rfl) sc_Dual_compute.nd rfl rfl (sw_true rfl rfl rfl (by decide +kernel)) (pi_range1 (by rfl) T.m_range (pa_cons (pe_fldK (K := K) (pv 0) rfl) pa_nil)) (blkOk_by (by rfl)) (fun _ _ _ _ _ => (pg_name (i := 3) sc_Dual_compute.nd rfl (.inl rfl))) (fun _ _ _ _ _ => (pts_one (pt_cmpR (op_notIn_seqK (K := K)) (pv 3) (pv 1) rfl))) (fun _ _ _ _ _ => (pv 3)))
      (pss_one (ps_ret (pe_op op_sub (pe_op op_add (pe_callB (call_len_seqK (K := K)) (by rfl) T.m_len PySem.boot_len (pa_cons (pv 1) pa_nil)) (pe_meth (pe_fldK (K := K) (pv 0) rfl) CK.cl CK_rank.me G_CK_rank (hr.mono (by first | decide | omega)) CK_rank.b .nil pass0 (pa_cons (pv 2) pa_nil))) (pe_meth0 (pe_fldK (K := K) (pv 0) rfl) CK.cl CK_whole.me G_CK_whole (hr.mono (by first | decide | omega)) CK_whole.b .nil pass0))))), ?_⟩
    obtain ⟨dx, qi, mi, h1, h2, h3, h4, h5⟩ := id hO
    have h12 := (mk.mem m h5).1
    have hnd := (hs.imp fun {a b} (h : a < b) => Nat.ne_of_lt h)
    refine ⟨.ref p, rfl, p, CD.C, dx, _, _, rfl, h1, CD.cl, CD.nSize, rfl, (m.n : Nat), rfl, by omega, by omega, fun D nD => ?_⟩
    rw [Int.toNat_natCast]
    refine lcR (n := m.n) (M := M) mk nD (fun e => if (!Bst.mem l e) = true then some (.int (e : Nat)) else none) (by omega) (fun e H2 he g2 B C kB kC => ?_) (fun H2 g2 hD => ?_)
    · refine ⟨rfl, .int (e : Nat), rfl, .ref a, rfl, a, _, rfl, .inr (g2.t hA), rfl, flat_nV _, _, rfl, ?_⟩
      rw [inV_n]
      by_cases h : e ∈ l
      · rw [decide_eq_true h]
        exact iteF (kC _ (.refl g2.b) (by simp [Bst.mem, h]))
      · rw [decide_eq_false h]
        exact iteT ⟨_, rfl, kB _ _ (.refl g2.b) (by simp [Bst.mem, h])⟩
    rw [fm_filter] at hD
    have hO2 := OKind.gr h2 (Gr.of g2)
    have hm2 := g2.at h1
    obtain ⟨dxk, fs, hk, f1, f2, f3, f4, f5, f6⟩ := (BKind K CK.C tc tb).ins hO2
    -- len(members) + self.inner.rank(outside)
    refine ⟨.ref a, rfl, a, _, rfl, .inr (g2.t hA), .ref p, rfl, p, CD.C, dx, _, _, rfl, hm2, CD.cl, CD.nB, rfl, qi, dxk, fs, rfl, hk, f3, .ref D, rfl, M, qi, D, mi, _, rfl, g2.b, hO2, SqL.of hD, List.nodup_range.filter _, fun e he => by rw [h3]; exact List.mem_range.mp (List.mem_filter.mp he).1, fun H3 g3 => ?_⟩
    have hO3 := OKind.gr hO2 (Gr.of g3)
    have hm3 := g3.at hm2
    obtain ⟨dxk, fs, hk, f1, f2, f3, f4, f5, f6⟩ := (BKind K CK.C tc tb).ins hO3
    refine ⟨_, _, rfl, rfl, .ref p, rfl, p, CD.C, dx, _, _, rfl, hm3, CD.cl, CD.nB, rfl, qi, dxk, fs, rfl, hk, f6, M, qi, mi, rfl, g3.b, hO3, by omega, fun H4 g4 => ⟨_, _, rfl, rfl, ?_⟩⟩
    have hq := q H4 (g2.trans (g3.trans g4))
    rw [h4] at hq
    dsimp only at hq
    rw [nV_len, len_cnt hnd hl]
    have e1 : Bst.mem ((List.range m.n).filter fun e => !Bst.mem l e) = fun e => decide (e < m.n) && !Bst.mem l e := by
      funext e
      unfold Bst.mem
      rw [Bool.eq_iff_iff]
      simp
    have e2 : Bst.mem (List.range mi.n) = fun e => decide (e < m.n) := by
      funext e
      unfold Bst.mem
      rw [h3]
      simp
    rw [e1, e2]
    exact hq
theorem ok_Copies_compute {tc tb : Addr} (T : Bn mg) (CK CD CC : Cls2 K) (CC_compute : MF K CC.C "compute" "Copies.compute" s_Copies_compute ["self", "members"]) (CK_rank : MF K CK.C "rank" "Ranked.rank" s_Ranked_rank ["self", "members"]) (CD_rank : MF K CD.C "rank" "Ranked.rank" s_Ranked_rank ["self", "members"])
    (G_CK_rank : FnOk P w K mg base CX0 11 CK_rank.f CK_rank.fd ["self", "members"] (spRank K (BKind K CK.C tc tb))) (G_CD_rank : FnOk P w K mg base CX0 14 CD_rank.f CD_rank.fd ["self", "members"] (spRank K (BDual K CK.C CD.C tc tb))) :
    FnOk P w K mg base CX0 15 CC_compute.f CC_compute.fd ["self", "members"] (spComp K (BCop K CK.C CD.C CC.C tc tb)) := by
  refine CC_compute.F.ok sc_Copies_compute (fun vs H Q E h => ?_) (fun cdv A outer s H vs Q E hr h => ?_)
  · obtain ⟨M, p, a, m, l, rfl, _⟩ := h
    rfl
  · obtain ⟨M, p, a, m, l, rfl, mk, hO, hA, hs, hl, q⟩ := h
    -- 0 self, 1 members, 2 count, 3 first, 4 second, 5 element
    refine ⟨_, (pss_cons (ps_set (i := 2) sc_Copies_compute.nd rfl (.inr rfl) (pe_fldK (K := K) (pe_fldK (K := K) (pv 0) rfl) rfl))
      (pss_cons (ps_setLc (i := 3) (own := [("element", 5)]) (by rfl) sc_Copies_compute.nd rfl rfl (sw_true rfl rfl rfl (by decide +kernel)) (pi_tupK (K := K) (pv 1)) (blkOk_by (by rfl)) (fun _ _ _ _ _ => (pg_name (i := 5) sc_Copies_compute.nd rfl (.inl rfl))) (fun _ _ _ _ _ => (pts_one (PW.pt (pw_and (pt_cmpR op_lt (pv 5) (pv 2) (nomark _)) (pw_and1 (pt_cmpR (op_in_seqK (K := K)) (pv 5) (pe_fldK (K := K) (pv 0) rfl) rfl)))))) (fun _ _ _ _ _ => (pv 5)))
      (pss_cons (ps_setLc (i := 4) (own := [("element", 5)]) (by rfl) sc_Copies_compute.nd rfl rfl (sw_true rfl rfl rfl (by decide +kernel)) (pi_tupK (K := K) (pv 1)) (blkOk_by (by rfl)) (fun _ _ _ _ _ => (pg_name (i := 5) sc_Copies_compute.nd rfl (.inl rfl))) (fun _ _ _ _ _ => (pts_one (PW.pt (pw_and (pt_cmpR op_ge (pv 5) (pv 2) (nomark _)) (pw_and1 (pt_cmpR (op_in_seqK (K := K)) (pe_op op_sub (pv 5) (pv 2)) (pe_fldK (K := K) (pv 0) rfl) rfl)))))) (fun _ _ _ _ _ => (pe_op op_sub (pv 5) (pv 2))))
      (pss_one (ps_ret (pe_op op_add (pe_either (pe_meth (pe_fldK (K := K) (pv 0) rfl) CK.cl CK_rank.me G_CK_rank (hr.mono (by first | decide | omega)) CK_rank.b .nil pass0 (pa_cons (pv 3) pa_nil)) (pe_meth (pe_fldK (K := K) (pv 0) rfl) CD.cl CD_rank.me G_CD_rank (hr.mono (by first | decide | omega)) CD_rank.b .nil pass0 (pa_cons (pv 3) pa_nil))) (pe_either (pe_meth (pe_fldK (K := K) (pv 0) rfl) CK.cl CK_rank.me G_CK_rank (hr.mono (by first | decide | omega)) CK_rank.b .nil pass0 (pa_cons (pv 4) pa_nil)) (pe_meth (pe_fldK (K := K) (pv 0) rfl) CD.cl CD_rank.me G_CD_rank (hr.mono (by first | decide | omega)) CD_rank.b .nil pass0 (pa_cons (pv 4) pa_nil))))))))), ?_⟩
    obtain ⟨dx, q1, q2, am, n, m1, m2, ms, h1, ho1, ho2, hn1, hn2, hm, hms, hml, hrk, hmem⟩ := id hO
    have h12 := (mk.mem m hmem).1
    have hnd := (hs.imp fun {a b} (h : a < b) => Nat.ne_of_lt h)
    have hlen := nodup_lt_len hnd hl
    obtain ⟨C1, dx1, fs1, e1, e2, e3, e4⟩ := ho1.fld
    refine ⟨.ref p, rfl, p, CC.C, dx, _, _, rfl, h1, CC.cl, CC.nC, rfl, q1, C1, dx1, fs1, _, rfl, e1, e2, e3, e4, ?_⟩
    rw [hn1]
    -- first
    refine ⟨.ref a, rfl, a, rfl, ⟨_, hA⟩, fun D nD => lcT (M := M) hA mk nD (fun e => if (decide (e < n) && Bst.mem ms e) = true then some (.int (e : Nat)) else none) (by omega) (fun i e H2 he g2 B C kB kC => ?_) (fun H2 g2 hD => ?_)⟩
    · refine ⟨rfl, .int (e : Nat), rfl, .int (n : Nat), rfl, _, _, rfl, rfl, _, rfl, ?_⟩
      by_cases h : e < n
      · rw [decide_eq_true (by omega : (e : Int) < (n : Int))]
        refine iteT ⟨.int (e : Nat), rfl, .ref p, rfl, p, CC.C, dx, _, _, rfl, g2.at h1, CC.cl, CC.nE, rfl, am, _, rfl, .inl (SqL.of (g2.at hms)), rfl, flat_nV _, _, rfl, ?_⟩
        rw [inV_n]
        by_cases hm : e ∈ ms
        · rw [decide_eq_true hm]
          exact iteT ⟨_, rfl, kB _ _ (.refl g2.b) (by simp [Bst.mem, h, hm])⟩
        · rw [decide_eq_false hm]
          exact iteF (kC _ (.refl g2.b) (by simp [Bst.mem, hm]))
      · rw [decide_eq_false (by omega : ¬ (e : Int) < (n : Int))]
        exact iteF (iteF (kC _ (.refl g2.b) (by simp [h])))
    rw [fm_filter] at hD
    have hA2 := g2.t hA
    have h12' := g2.at h1
    have hms2 := g2.at hms
    -- second
    refine ⟨.ref a, rfl, a, rfl, ⟨_, hA2⟩, fun D2 nD2 => lcT (M := M) hA2 g2.b nD2 (fun e => if (decide (n ≤ e) && Bst.mem ms (e - n)) = true then some (.int ((e - n : Nat) : Nat)) else none) (by omega) (fun i e H3 he g3 B C kB kC => ?_) (fun H3 g3 hD2 => ?_)⟩
    · refine ⟨rfl, .int (e : Nat), rfl, .int (n : Nat), rfl, _, _, rfl, rfl, _, rfl, ?_⟩
      by_cases h : n ≤ e
      · rw [decide_eq_true (by omega : (n : Int) ≤ (e : Int))]
        have esub : ((e : Int) - (n : Int)) = ((e - n : Nat) : Int) := by omega
        refine iteT ⟨.int (e : Nat), rfl, .int (n : Nat), rfl, _, _, rfl, rfl, .ref p, rfl, p, CC.C, dx, _, _, rfl, g3.at h12', CC.cl, CC.nE, rfl, am, _, rfl, .inl (SqL.of (g3.at hms2)), rfl, flat_nV _, _, rfl, ?_⟩
        have hinv : inV (.int ((e : Int) - (n : Int))) (nV ms) = decide (e - n ∈ ms) := by rw [esub]; exact inV_n
        dsimp only
        rw [hinv]
        by_cases hm : e - n ∈ ms
        · rw [decide_eq_true hm]
          exact iteT ⟨.int (e : Nat), rfl, .int (n : Nat), rfl, _, _, rfl, rfl, kB _ _ (.refl g3.b) (by dsimp only; rw [esub]; simp [Bst.mem, h, hm])⟩
        · rw [decide_eq_false hm]
          exact iteF (kC _ (.refl g3.b) (by simp [Bst.mem, hm]))
      · rw [decide_eq_false (by omega : ¬ (n : Int) ≤ (e : Int))]
        exact iteF (iteF (kC _ (.refl g3.b) (by simp [h])))
    rw [fm_both] at hD2
    have g13 := g2.trans g3
    have hD3 := g3.at hD
    have h13 := g3.at h12'
    have hl2 : ∀ e ∈ l, e < 2 * n := fun e he => by have := hl e he; omega
    have nd1 : (l.filter fun e => decide (e < n) && Bst.mem ms e).Nodup := hnd.filter _
    have lt1 : ∀ e ∈ l.filter (fun e => decide (e < n) && Bst.mem ms e), e < n := fun e he => by
      have := (List.mem_filter.mp he).2
      rw [Bool.and_eq_true, decide_eq_true_eq] at this
      exact this.1
    have nd2 : ((l.filter fun e => decide (n ≤ e) && Bst.mem ms (e - n)).map (· - n)).Nodup := by
      refine List.pairwise_map.mpr ((hnd.filter _).imp_of_mem fun {x y} hx hy hxy => ?_)
      have h1 := (List.mem_filter.mp hx).2
      have h2 := (List.mem_filter.mp hy).2
      rw [Bool.and_eq_true, decide_eq_true_eq] at h1 h2
      omega
    have lt2 : ∀ e ∈ (l.filter fun e => decide (n ≤ e) && Bst.mem ms (e - n)).map (· - n), e < n := fun e he => by
      obtain ⟨x, hx, rfl⟩ := List.mem_map.mp he
      have := hl2 x (List.mem_filter.mp hx).1
      have h1 := (List.mem_filter.mp hx).2
      rw [Bool.and_eq_true, decide_eq_true_eq] at h1
      omega
    have me1 : Bst.mem (l.filter fun e => decide (e < n) && Bst.mem ms e) = fun e => Bst.lo n (Bst.mem l) e && Bst.mem ms e := by
      funext e
      rw [Bool.eq_iff_iff, Bst.mem_true, List.mem_filter, Bool.and_eq_true, Bool.and_eq_true, Bst.lo_true, Bst.mem_true, decide_eq_true_eq]
      exact ⟨fun ⟨a, b, c⟩ => ⟨⟨b, Bst.mem_true.mpr a⟩, c⟩, fun ⟨⟨b, a⟩, c⟩ => ⟨Bst.mem_true.mp a, b, c⟩⟩
    have me2 : Bst.mem ((l.filter fun e => decide (n ≤ e) && Bst.mem ms (e - n)).map (· - n)) = fun e => Bst.hi n (Bst.mem l) e && Bst.mem ms e := by
      funext e
      rw [Bool.eq_iff_iff, Bst.mem_true, List.mem_map, Bool.and_eq_true, Bst.hi_true, Bst.mem_true]
      constructor
      · rintro ⟨x, hx, rfl⟩
        obtain ⟨a, b⟩ := List.mem_filter.mp hx
        rw [Bool.and_eq_true, decide_eq_true_eq] at b
        have := hl2 x a
        refine ⟨⟨by omega, ?_⟩, b.2⟩
        rw [show x - n + n = x by omega]
        exact a
      · rintro ⟨⟨a, b⟩, c⟩
        refine ⟨e + n, List.mem_filter.mpr ⟨b, ?_⟩, by omega⟩
        rw [Bool.and_eq_true, decide_eq_true_eq, Nat.add_sub_cancel]
        exact ⟨by omega, c⟩
    generalize hL1 : (l.filter fun e => decide (e < n) && Bst.mem ms e) = l1 at hD3 nd1 lt1 me1
    generalize hL2 : (l.filter fun e => decide (n ≤ e) && Bst.mem ms (e - n)).map (· - n) = l2 at hD2 nd2 lt2 me2
    have fin : ∀ H5, Go M H3 H5 → Q (.int (m1.rk (Bst.mem l1) + m2.rk (Bst.mem l2))) H5 := fun H5 g5 => by
      have hq := q H5 (g13.trans g5)
      rw [hrk] at hq
      dsimp only at hq
      rw [me1, me2]
      exact hq
    rcases ho1.gr (Gr.of g13) with ha | ha
    · obtain ⟨dxk, fsk, hk, f1, f2, f3, f4, f5, f6⟩ := (BKind K CK.C tc tb).ins ha
      refine .inl ⟨.ref p, rfl, p, CC.C, dx, _, _, rfl, h13, CC.cl, CC.nC, rfl, q1, dxk, fsk, rfl, hk, f3, .ref D, rfl, M, q1, D, m1, l1, rfl, g13.b, ha, SqL.of (hD3), nd1, fun e he => by rw [hn1]; exact lt1 e he, fun H4 gH4 => ?_⟩
      rcases ho2.gr (Gr.of (g13.trans gH4)) with hb | hb
      · obtain ⟨dxk, fsk, hk, f1, f2, f3, f4, f5, f6⟩ := (BKind K CK.C tc tb).ins hb
        refine .inl ⟨.ref p, rfl, p, CC.C, dx, _, _, rfl, gH4.at h13, CC.cl, CC.nD, rfl, q2, dxk, fsk, rfl, hk, f3, .ref D2, rfl, M, q2, D2, m2, l2, rfl, gH4.b, hb, SqL.of (gH4.at hD2), nd2, fun e he => by rw [hn2]; exact lt2 e he, fun H5 gH5 => ?_⟩
        exact ⟨_, _, rfl, rfl, fin H5 (gH4.trans gH5)⟩
      · obtain ⟨dxk, fsk, hk, f1, f2, f3, f4, f5, f6⟩ := (BDual K CK.C CD.C tc tb).ins hb
        refine .inr ⟨.ref p, rfl, p, CC.C, dx, _, _, rfl, gH4.at h13, CC.cl, CC.nD, rfl, q2, dxk, fsk, rfl, hk, f3, .ref D2, rfl, M, q2, D2, m2, l2, rfl, gH4.b, hb, SqL.of (gH4.at hD2), nd2, fun e he => by rw [hn2]; exact lt2 e he, fun H5 gH5 => ?_⟩
        exact ⟨_, _, rfl, rfl, fin H5 (gH4.trans gH5)⟩
    · obtain ⟨dxk, fsk, hk, f1, f2, f3, f4, f5, f6⟩ := (BDual K CK.C CD.C tc tb).ins ha
      refine .inr ⟨.ref p, rfl, p, CC.C, dx, _, _, rfl, h13, CC.cl, CC.nC, rfl, q1, dxk, fsk, rfl, hk, f3, .ref D, rfl, M, q1, D, m1, l1, rfl, g13.b, ha, SqL.of (hD3), nd1, fun e he => by rw [hn1]; exact lt1 e he, fun H4 gH4 => ?_⟩
      rcases ho2.gr (Gr.of (g13.trans gH4)) with hb | hb
      · obtain ⟨dxk, fsk, hk, f1, f2, f3, f4, f5, f6⟩ := (BKind K CK.C tc tb).ins hb
        refine .inl ⟨.ref p, rfl, p, CC.C, dx, _, _, rfl, gH4.at h13, CC.cl, CC.nD, rfl, q2, dxk, fsk, rfl, hk, f3, .ref D2, rfl, M, q2, D2, m2, l2, rfl, gH4.b, hb, SqL.of (gH4.at hD2), nd2, fun e he => by rw [hn2]; exact lt2 e he, fun H5 gH5 => ?_⟩
        exact ⟨_, _, rfl, rfl, fin H5 (gH4.trans gH5)⟩
      · obtain ⟨dxk, fsk, hk, f1, f2, f3, f4, f5, f6⟩ := (BDual K CK.C CD.C tc tb).ins hb
        refine .inr ⟨.ref p, rfl, p, CC.C, dx, _, _, rfl, gH4.at h13, CC.cl, CC.nD, rfl, q2, dxk, fsk, rfl, hk, f3, .ref D2, rfl, M, q2, D2, m2, l2, rfl, gH4.b, hb, SqL.of (gH4.at hD2), nd2, fun e he => by rw [hn2]; exact lt2 e he, fun H5 gH5 => ?_⟩
        exact ⟨_, _, rfl, rfl, fin H5 (gH4.trans gH5)⟩
theorem ok_Single_compute {k : Nat} (T : Bn mg) (CS : Cls2 K) (CS_compute : MF K CS.C "compute" "Single.compute" s_Single_compute ["self", "members"]) : FnOk P w K mg base CX0 (k + 1) CS_compute.f CS_compute.fd ["self", "members"] (spComp K (BSin CS.C)) := by
  refine CS_compute.F.ok sc_Single_compute (fun vs H Q E h => ?_) (fun cdv A outer s H vs Q E hr h => ?_)
  · obtain ⟨M, p, a, m, l, rfl, _⟩ := h
    rfl
  · obtain ⟨M, p, a, m, l, rfl, mk, hO, hA, hs, hl, q⟩ := h
    -- 0 self, 1 members, 2 count, 3 element
    refine ⟨_, (pss_cons (ps_set (i := 2) sc_Single_compute.nd rfl (.inr rfl) (pe_op op_fdiv (pe_fldK (K := K) (pv 0) rfl) pe_int))
      (pss_one (ps_ret (pe_callB Gx.call_len_setI (by rfl) T.m_len PySem.boot_len (pa_cons (Gx.pe_scI (own := [("element", 3)]) (by rfl) sc_Single_compute.nd (pi_tupK (K := K) (pv 1)) (blkOk_by (by rfl)) (fun _ _ _ _ _ => (pg_name (i := 3) sc_Single_compute.nd rfl (.inl rfl))) (fun _ _ _ _ _ => pts_nil) (fun _ _ _ _ _ => (pe_op op_mod (pv 3) (pv 2)))) pa_nil))))), ?_⟩
    obtain ⟨dx, n, h1, hm, hrk, hmem⟩ := id hO
    have h12 := (mk.mem m hmem).1
    have hnd := (hs.imp fun {a b} (h : a < b) => Nat.ne_of_lt h)
    have hlen := nodup_lt_len hnd hl
    refine ⟨.ref p, rfl, p, CS.C, dx, _, _, rfl, h1, CS.cl, CS.nSize, rfl, _, _, rfl, rfl, ⟨by decide, by decide⟩, ?_⟩
    have ehalf : ((m.n : Int) / 2) = (n : Nat) := by omega
    dsimp only
    rw [ehalf]
    refine ⟨.ref a, rfl, a, rfl, ⟨_, hA⟩, fun D nD => ?_⟩
    let Wp : Nat → Hp → Prop := fun i H' => Go M H H' ∧ ∃ (S : Int → Bool) (c : Nat), H' D = some (SetO w D S c) ∧ c = Bst.cnt n (fun r => (l.take i).any fun e => e % n == r) ∧ ∀ r : Nat, r < n → S (r : Int) = (l.take i).any fun e => e % n == r
    refine ⟨fun i k H' => k = l.length - i ∧ i ≤ l.length ∧ Wp i H', ⟨l.length, by simp, Nat.zero_le _, (Go.refl mk).new nD, fun _ => false, 0, upd_same, by simp [Bst.cnt_zero_iff.mpr], fun r hr => by simp⟩, ?_⟩
    rintro i k H' ⟨rfl, hi, g, S, c, hD, hc, hS⟩
    by_cases hlt : i < l.length
    · refine .inr ⟨⟨nV l, .int (l[i] : Nat), g.t hA, nV_get (List.getElem?_eq_getElem hlt)⟩, Wp (i + 1), fun H'' p' => ⟨l.length - (i + 1), by omega, rfl, hlt, p'⟩, fun x H'' y => ?_⟩
      obtain ⟨rfl, ey⟩ := y
      obtain ⟨e, ee, rfl⟩ := nV_at (ey _ (g.t hA))
      have hel := List.mem_of_getElem? ee
      have hen := hl e hel
      have hn0 : 0 < n := by omega
      have emod : ((e : Int) % (n : Int)) = ((e % n : Nat) : Int) := by omega
      have hlt2 : e % n < n := Nat.mod_lt _ hn0
      refine ⟨rfl, .int (e : Nat), rfl, .int (n : Nat), rfl, _, _, rfl, rfl, by omega, ((e % n : Nat) : Int), S, c, by dsimp only; rw [emod], hD, ?_, g.set nD hD, _, _, upd_same, ?_, fun r hr => ?_⟩
      · have := Bst.cnt_le n (fun r => (l.take i).any fun e => e % n == r)
        rw [← hc] at this
        exact Nat.lt_of_le_of_lt (show c + 1 ≤ 100 by omega) (by decide)
      · have eA : (fun r => (l.take (i + 1)).any fun e => e % n == r) = Bst.ins (fun r => (l.take i).any fun e => e % n == r) (e % n) := by
          funext r
          rw [tk_snoc ee, List.any_append]
          unfold Bst.ins
          simp only [List.any_cons, List.any_nil, Bool.or_false]
          rw [Bool.or_comm]
          congr 1
          rw [Bool.eq_iff_iff, beq_iff_eq, beq_iff_eq]
          exact eq_comm
        rw [eA, hS _ hlt2]
        by_cases hin : ((l.take i).any fun x => x % n == e % n) = true
        · rw [if_pos hin, hc]
          refine Bst.cnt_congr fun r _ => ?_
          by_cases h : r = e % n
          · rw [h, Bst.ins_self]; exact hin
          · rw [Bst.ins_ne h]
        · rw [if_neg hin, hc]
          exact (Bst.cnt_ins hlt2 (by rw [Bool.not_eq_true] at hin; exact hin)).symm
      · rw [hS r hr, tk_snoc ee, List.any_append]
        simp only [List.any_cons, List.any_nil, Bool.or_false]
        congr 1
        rw [Bool.eq_iff_iff]
        simp
        omega
    · have hie : i = l.length := by omega
      refine .inl ⟨⟨nV l, g.t hA, by rw [nV_len]; omega⟩, D, S, c, rfl, hD, ?_⟩
      have hq := q H' g
      rw [hrk] at hq
      dsimp only at hq
      rw [hc, hie, List.take_length]
      refine Eq.mp (congrArg (fun z : Nat => Q (.int (z : Nat)) H') (Bst.cnt_congr fun r hr => ?_)) hq
      rw [Bool.eq_iff_iff, Bool.or_eq_true, Bst.mem_true, Bst.mem_true, List.any_eq_true]
      constructor
      · rintro (h | h)
        · exact ⟨r, h, by rw [Nat.mod_eq_of_lt hr]; simp⟩
        · refine ⟨r + n, h, ?_⟩
          rw [Nat.add_mod_right, Nat.mod_eq_of_lt hr]
          simp
      · rintro ⟨x, hx, h⟩
        have hx2 := hl x hx
        have h : x % n = r := by simpa using h
        by_cases hxn : x < n
        · rw [Nat.mod_eq_of_lt hxn] at h
          exact .inl (h ▸ hx)
        · have : x % n = x - n := by
            rw [Nat.mod_eq_sub_mod (by omega), Nat.mod_eq_of_lt (by omega)]
          have : r + n = x := by omega
          exact .inr (by rw [this]; exact hx)
end
end Bw

set_option Elab.async false
set_option linter.all false
set_option maxRecDepth 100000
set_option maxHeartbeats 2000000
namespace Bw
open PySem PySem.Spec PyProof.Rows L2
section
variable {P : Program} {w : World} {K : PySem.W.Frag} {mg : Str → Option Value} {base : Heap}
def spInit (K : PySem.W.Frag) : Sp := fun vs H Q _ => ∃ (M : Mw) (H0 : Hp) (x dx C : Addr) (n : Int), vs = [.ref x, .int n] ∧ Cls K C ∧ NoAttr K C "size" ∧ NoAttr K C "known" ∧ Go M H0 H ∧ H0 x = none ∧ H x = some (.ins C dx []) ∧
  ∀ (d : Addr) (H' : Hp), Go M H0 H' → H0 d = none → H' x = some (.ins C dx [("size", .int n), ("known", .ref d)]) → H' d = some (.dT []) → Q .non H'
theorem ok_init {f : Addr} {fd : FuncData} {k : Nat} (T : Bn mg) (F : Fun K "__init__" "Ranked.__init__" s_Ranked___init__ f fd) : FnOk P w K mg base CX0 (k + 1) f fd ["self", "size"] (spInit K) := by
  refine F.ok sc_Ranked___init__ (fun vs H Q E h => ?_) (fun cdv A outer s H vs Q E hr h => ?_)
  · obtain ⟨M, H0, x, dx, C, n, rfl, _⟩ := h
    rfl
  · obtain ⟨M, H0, x, dx, C, n, rfl, cl, nS, nK, g, h0, hx, q⟩ := h
    -- 0 self, 1 size
    refine ⟨_, (pss_cons (ps_fld (pv 0) (pv 1) rfl)
      (pss_one (ps_fld (pv 0) pe_dnewT rfl))), ?_⟩
    refine ⟨_, rfl, .ref x, rfl, x, C, dx, _, rfl, hx, cl, nS, by decide, fun d nd => ?_⟩
    have g1 := g.set (o := .ins C dx (putF "size" (.int n) [])) h0 hx
    have hx1 : (upd H x (.ins C dx (putF "size" (.int n) []))) x = some _ := upd_same
    generalize upd H x (.ins C dx (putF "size" (.int n) [])) = H1 at g1 hx1 nd
    have g2 := g1.new (o := .dT []) nd
    have hdx : d ≠ x := fun e => by rw [e, hx1] at nd; cases nd
    have hx2 : (upd H1 d (.dT [])) x = some _ := (upd_ne (Ne.symm hdx)).trans hx1
    have hd2 : (upd H1 d (.dT [])) d = some (.dT []) := upd_same
    generalize upd H1 d (.dT []) = H2 at g2 hx2 hd2
    refine ⟨.ref x, rfl, x, C, dx, _, rfl, hx2, cl, nK, show 1 < 1000 by decide, ?_⟩
    exact q d _ (g2.set h0 hx2) (g1.back nd) upd_same ((upd_ne hdx).trans hd2)
def spKInit (K : PySem.W.Frag) (CK : Addr) : Sp := fun vs H Q _ => ∃ (M : Mw) (H0 : Hp) (x dx L : Addr) (ln : Ln), vs = [.ref x, .ref L] ∧ Go M H0 H ∧ H0 x = none ∧ H x = some (.ins CK dx []) ∧ LineAt K H L ln ∧
  ∀ (d : Addr) (H' : Hp), Go M H0 H' → H0 d = none → H' x = some (.ins CK dx [("size", .int (lnSize ln : Nat)), ("known", .ref d), ("line", .ref L)]) → H' d = some (.dT []) → Q .non H'
theorem ok_Kind_init {f fr c cc : Addr} {fd fdr : FuncData} (T : Bn mg) (CK : Cls2 K) (hP : P = PySem.Challenge.pw_bestsets_k39_whole_divided_sets) (F : Gx.SupF P K mg "Kind.__init__" s_Kind___init__ f fd c cc CK.C fr) (D_size_of_kind : Def K mg "size_of_kind" s_size_of_kind) (b0 : Binds K fdr ["self", "size"] [])
    (G_size_of_kind : FnOk P w K mg base CX0 1 D_size_of_kind.f D_size_of_kind.fd ["line"] (spSize K)) (G_init : FnOk P w K mg base CX0 1 fr fdr ["self", "size"] (spInit K)) :
    FnOk P w K mg base CX0 2 f fd ["self", "line"] (spKInit K CK.C) := by
  subst hP
  refine Gx.fn_super F sc_Kind___init__ (fun vs H Q E h => ?_) (by rfl) (by rfl) rfl (by decide +kernel) G_init b0 (fun _ => by rfl) (fun _ => by rfl) (fun _ => by rfl) (fun _ => ⟨_, by rfl⟩) (fun A outer s H vs Q E hr h => ?_)
  · obtain ⟨M, H0, x, dx, L, ln, rfl, _⟩ := h
    rfl
  · obtain ⟨M, H0, x, dx, L, ln, rfl, g, h0, hx, hL, q⟩ := h
    refine ⟨x, dx, [], _, _, rfl, hx, pe_call G_size_of_kind (hr.mono (by omega)) (by rfl) D_size_of_kind.g D_size_of_kind.F.kp (bd_size_of_kind D_size_of_kind.F) .nil pass0 (pa_cons (pv 1) pa_nil), pss_one (ps_fld (pv 0) (pv 1) rfl), ?_⟩
    refine ⟨.ref L, rfl, M, L, ln, rfl, g.b, hL, fun H1 g1 => ?_⟩
    refine ⟨M, H0, x, dx, CK.C, _, rfl, CK.cl, CK.nSize, CK.nKnown, g.trans g1, h0, g1.at hx, fun d H2 g2 nd hx2 hd2 => ?_⟩
    have hdx : d ≠ x := fun e => by rw [e, hx2] at hd2; cases hd2
    exact ⟨_, rfl, .ref x, rfl, x, CK.C, dx, _, rfl, hx2, CK.cl, CK.nA, show 2 < 1000 by decide, q d _ (g2.set h0 hx2) nd upd_same ((upd_ne hdx).trans hd2)⟩
def spDInit (K : PySem.W.Frag) (CD : Addr) : Sp := fun vs H Q _ => ∃ (M : Mw) (H0 : Hp) (x dx p Ci di : Addr) (fs : List (Str × V)) (n : Int), vs = [.ref x, .ref p] ∧ Go M H0 H ∧ H0 x = none ∧ H x = some (.ins CD dx []) ∧ H p = some (.ins Ci di fs) ∧ Cls K Ci ∧ NoAttr K Ci "size" ∧ fs.lookup ("size" : Str) = some (.int n) ∧
  ∀ (d : Addr) (H' : Hp), Go M H0 H' → H0 d = none → H' x = some (.ins CD dx [("size", .int n), ("known", .ref d), ("inner", .ref p)]) → H' d = some (.dT []) → Q .non H'
theorem ok_Dual_init {f fr c cc : Addr} {fd fdr : FuncData} {k : Nat} (T : Bn mg) (CD : Cls2 K) (hP : P = PySem.Challenge.pw_bestsets_k39_whole_divided_sets) (F : Gx.SupF P K mg "Dual.__init__" s_Dual___init__ f fd c cc CD.C fr) (b0 : Binds K fdr ["self", "size"] [])
    (G_init : FnOk P w K mg base CX0 (k + 1) fr fdr ["self", "size"] (spInit K)) :
    FnOk P w K mg base CX0 (k + 2) f fd ["self", "inner"] (spDInit K CD.C) := by
  subst hP
  refine Gx.fn_super F sc_Dual___init__ (fun vs H Q E h => ?_) (by rfl) (by rfl) rfl (by decide +kernel) G_init b0 (fun _ => by rfl) (fun _ => by rfl) (fun _ => by rfl) (fun _ => ⟨_, by rfl⟩) (fun A outer s H vs Q E hr h => ?_)
  · obtain ⟨M, H0, x, dx, p, Ci, di, fs, n, rfl, _⟩ := h
    rfl
  · obtain ⟨M, H0, x, dx, p, Ci, di, fs, n, rfl, g, h0, hx, hp, cl, nS, hl, q⟩ := h
    refine ⟨x, dx, [], _, _, rfl, hx, pe_fldK (K := K) (pv 1) rfl, pss_one (ps_fld (pv 0) (pv 1) rfl), ?_⟩
    refine ⟨.ref p, rfl, p, Ci, di, fs, _, rfl, hp, cl, nS, hl, ?_⟩
    refine ⟨M, H0, x, dx, CD.C, _, rfl, CD.cl, CD.nSize, CD.nKnown, g, h0, hx, fun d H2 g2 nd hx2 hd2 => ?_⟩
    have hdx : d ≠ x := fun e => by rw [e, hx2] at hd2; cases hd2
    exact ⟨_, rfl, .ref x, rfl, x, CD.C, dx, _, rfl, hx2, CD.cl, CD.nB, show 2 < 1000 by decide, q d _ (g2.set h0 hx2) nd upd_same ((upd_ne hdx).trans hd2)⟩
def spCInit (K : PySem.W.Frag) (CC : Addr) : Sp := fun vs H Q _ => ∃ (M : Mw) (H0 : Hp) (x dx p p2 a Ci di : Addr) (fs : List (Str × V)) (n : Int), vs = [.ref x, .ref p, .ref p2, .ref a] ∧ CMul 2 n ∧ Go M H0 H ∧ H0 x = none ∧ H x = some (.ins CC dx []) ∧ H p = some (.ins Ci di fs) ∧ Cls K Ci ∧ NoAttr K Ci "size" ∧ fs.lookup ("size" : Str) = some (.int n) ∧
  ∀ (d : Addr) (H' : Hp), Go M H0 H' → H0 d = none → H' x = some (.ins CC dx [("size", .int (2 * n)), ("known", .ref d), ("one", .ref p), ("two", .ref p2), ("members", .ref a)]) → H' d = some (.dT []) → Q .non H'
theorem ok_Copies_init {f fr c cc : Addr} {fd fdr : FuncData} {k : Nat} (T : Bn mg) (CC : Cls2 K) (hP : P = PySem.Challenge.pw_bestsets_k39_whole_divided_sets) (F : Gx.SupF P K mg "Copies.__init__" s_Copies___init__ f fd c cc CC.C fr) (b0 : Binds K fdr ["self", "size"] [])
    (G_init : FnOk P w K mg base CX0 (k + 1) fr fdr ["self", "size"] (spInit K)) :
    FnOk P w K mg base CX0 (k + 2) f fd ["self", "one", "two", "members"] (spCInit K CC.C) := by
  subst hP
  refine Gx.fn_super F sc_Copies___init__ (fun vs H Q E h => ?_) (by rfl) (by rfl) rfl (by decide +kernel) G_init b0 (fun _ => by rfl) (fun _ => by rfl) (fun _ => by rfl) (fun _ => ⟨_, by rfl⟩) (fun A outer s H vs Q E hr h => ?_)
  · obtain ⟨M, H0, x, dx, p, p2, a, Ci, di, fs, n, rfl, _⟩ := h
    rfl
  · obtain ⟨M, H0, x, dx, p, p2, a, Ci, di, fs, n, rfl, cm, g, h0, hx, hp, cl, nS, hl, q⟩ := h
    refine ⟨x, dx, [], _, _, rfl, hx, pe_op op_mul pe_int (pe_fldK (K := K) (pv 1) rfl), pss_cons (ps_fld (pv 0) (pv 1) rfl) (pss_cons (ps_fld (pv 0) (pv 2) rfl) (pss_one (ps_fld (pv 0) (pv 3) rfl))), ?_⟩
    refine ⟨.ref p, rfl, p, Ci, di, fs, _, rfl, hp, cl, nS, hl, _, _, rfl, rfl, cm, ?_⟩
    refine ⟨M, H0, x, dx, CC.C, _, rfl, CC.cl, CC.nSize, CC.nKnown, g, h0, hx, fun d H2 g2 nd hx2 hd2 => ?_⟩
    have hdx : d ≠ x := fun e => by rw [e, hx2] at hd2; cases hd2
    have st : ∀ {H2 : Hp} {o u : HO}, Go M H0 H2 → H2 x = some u → kept u = true → H2 d = some (.dT []) → Go M H0 (upd H2 x o) ∧ (upd H2 x o) x = some o ∧ (upd H2 x o) d = some (.dT []) := fun g hx k hd => ⟨g.set h0 hx k, upd_same, (upd_ne hdx).trans hd⟩
    obtain ⟨g3, hx3, hd3⟩ := st (o := .ins CC.C dx [("size", .int (2 * n)), ("known", .ref d), ("one", .ref p)]) g2 hx2 rfl hd2
    obtain ⟨g4, hx4, hd4⟩ := st (o := .ins CC.C dx [("size", .int (2 * n)), ("known", .ref d), ("one", .ref p), ("two", .ref p2)]) g3 hx3 rfl hd3
    obtain ⟨g5, hx5, hd5⟩ := st (o := .ins CC.C dx [("size", .int (2 * n)), ("known", .ref d), ("one", .ref p), ("two", .ref p2), ("members", .ref a)]) g4 hx4 rfl hd4
    refine ⟨_, rfl, .ref x, rfl, x, CC.C, dx, _, rfl, hx2, CC.cl, CC.nC, show 2 < 1000 by decide, _, rfl, .ref x, rfl, x, CC.C, dx, _, rfl, hx3, CC.cl, CC.nD, show 3 < 1000 by decide, _, rfl, .ref x, rfl, x, CC.C, dx, _, rfl, hx4, CC.cl, CC.nE, show 4 < 1000 by decide, q d _ g5 nd hx5 hd5⟩
end
end Bw

set_option Elab.async false
set_option linter.all false
set_option maxRecDepth 100000
set_option maxHeartbeats 2000000
namespace Bw
open PySem PySem.Spec PyProof.Rows L2
/-- a class that is called -/
structure KC (K : PySem.W.Frag) (mg : Str → Option Value) (x : Str) (C : Addr) (ps : List Str) where
  f : Addr
  fd : FuncData
  g : mg x = some (.ref C)
  mkC : Mk K C f
  b : Binds K fd ps []
/-- a matroid of the law: a line, and whether its dual is meant -/
structure Mat where
  ln : Ln
  du : Bool
def kRk (n : Nat) (ln : Ln) : Bst.S → Int := fun A => ((lnRk ln (Bst.lst n A) : Nat) : Int)
def dRk (n : Nat) (rk : Bst.S → Int) : Bst.S → Int := fun A => (Bst.cnt n A : Nat) + rk (fun e => decide (e < n) && !A e) - rk (fun e => decide (e < n))
def Mat.rk (m : Mat) : Bst.S → Int := if m.du = true then dRk (lnSize m.ln) (kRk (lnSize m.ln) m.ln) else kRk (lnSize m.ln) m.ln
def MatAt (K : PySem.W.Frag) (H : Hp) (a : Addr) (m : Mat) : Prop := ∃ L : Addr, LineAt K H L m.ln ∧ ((m.du = false ∧ SqT K H a [.ref L]) ∨ (∃ D : Addr, m.du = true ∧ SqT K H D [.str "dual", .int 0] ∧ SqT K H a [.ref L, .ref D]))
theorem MatAt.kp {K : PySem.W.Frag} {H H' : Hp} {a : Addr} {m : Mat} (h : MatAt K H a m) (g : Kp H H') : MatAt K H' a m := by
  obtain ⟨L, hL, h⟩ := h
  refine ⟨L, hL.kp g, h.imp (fun ⟨a, b⟩ => ⟨a, g.t b⟩) fun ⟨D, a, b, c⟩ => ⟨D, a, g.t b, g.t c⟩⟩
theorem line_name {K : PySem.W.Frag} {H : Hp} {L : Addr} {ln : Ln} (h : LineAt K H L ln) : ∃ (nm : Str) (r : List V), SqT K H L (.str nm :: r) ∧ (nm = "graph" ∨ nm = "vectors" ∨ nm = "choices" ∨ nm = "bounds" ∨ nm = "uniform") := by
  cases ln with
  | graph nv es => obtain ⟨v, s, _⟩ := h; exact ⟨_, _, s, .inl rfl⟩
  | choices m rows => obtain ⟨v, s, _⟩ := h; exact ⟨_, _, s, .inr (.inr (.inl rfl))⟩
  | bounds n bs => obtain ⟨v, s, _⟩ := h; exact ⟨_, _, s, .inr (.inr (.inr (.inl rfl)))⟩
  | uniform n r => exact ⟨_, _, (h : SqT K H L _), .inr (.inr (.inr (.inr rfl)))⟩
  | vectors cs => obtain ⟨v, s, _⟩ := h; exact ⟨_, _, s, .inr (.inl rfl)⟩
section
variable {P : Program} {w : World} {K : PySem.W.Frag} {mg : Str → Option Value} {base : Heap}
def spMade (K : PySem.W.Frag) (CK CD tc tb : Addr) : Sp := fun vs H Q _ => ∃ (M : Mw) (L e : Addr), vs = [.ref L, .ref e] ∧ Mok M H ∧ tc ∈ M.tb ∧ tb ∈ M.tb ∧
  ((∃ ln, LineAt K H L ln ∧ LnOk ln ∧ lnSize ln ≤ 12 ∧ ∀ (M' : Mw) (H' : Hp) (p : Addr) (m : Memo), Gr M M' H H' → OKind K CK tc tb M' H' p m → m.n = lnSize ln → m.rk = kRk (lnSize ln) ln → Q (.ref p) H') ∨
   (∃ (q : Addr) (mi : Memo), SqT K H L [.str "dual", .int 0] ∧ H e = some (.lst [.ref q]) ∧ OKind K CK tc tb M H q mi ∧ ∀ (M' : Mw) (H' : Hp) (p : Addr) (m : Memo), Gr M M' H H' → ODual K CK CD tc tb M' H' p m → m.n = mi.n → m.rk = dRk mi.n mi.rk → Q (.ref p) H'))
theorem dn_ad {M : Mw} {H : Hp} {d : Addr} (m : Mok M H) (h : H d = none) : d ∉ M.ad := fun hx => by
  obtain ⟨o, e, _⟩ := m.ad hx
  rw [h] at e
  cases e
theorem go_make {M : Mw} {H : Hp} {x dx : Addr} {C : Addr} (mk : Mok M H) (hx : H x = none) (hdx : H dx = none) (ne : dx ≠ x) : Go M H (upd (upd H dx (.own x)) x (.ins C dx [])) :=
  ((Go.refl mk).new hdx).new ((upd_ne (Ne.symm ne)).trans hx)
theorem ok_made_line {f tc tb : Addr} {fd : FuncData} (T : Bn mg) (CK CD : Cls2 K) (F : Fun K "made_line" "made_line" s_made_line f fd) (N_Kind : KC K mg "Kind" CK.C ["self", "line"]) (N_Dual : KC K mg "Dual" CD.C ["self", "inner"])
    (G_N_Kind : FnOk P w K mg base CX0 2 N_Kind.f N_Kind.fd ["self", "line"] (spKInit K CK.C)) (G_N_Dual : FnOk P w K mg base CX0 2 N_Dual.f N_Dual.fd ["self", "inner"] (spDInit K CD.C)) :
    FnOk P w K mg base CX0 4 f fd ["line", "earlier"] (spMade K CK.C CD.C tc tb) := by
  refine F.ok sc_made_line (fun vs H Q E h => ?_) (fun cdv A outer s H vs Q E hr h => ?_)
  · obtain ⟨M, L, e, rfl, _⟩ := h
    rfl
  · obtain ⟨M, L, e, rfl, mk, htc, htb, h⟩ := h
    -- 0 line, 1 earlier, 2 name
    refine ⟨_, (pss_cons (ps_set (i := 2) sc_made_line.nd rfl (.inl rfl) (pe_ix (ix_tupK (K := K)) (pv 0) pe_int (fun _ _ => rfl)))
      (pss_cons (ps_if (pt_cmpR op_eq (pv 2) pe_str (nomark _)) (pss_one (ps_ret (pe_make N_Dual.mkC G_N_Dual (hr.mono (by first | decide | omega)) (by rfl) N_Dual.g N_Dual.b .nil pass0 (pa_cons (pe_ix (ix_listK (K := K)) (pv 1) (pe_ix (ix_tupK (K := K)) (pv 0) pe_int (fun _ _ => rfl)) (fun _ _ => rfl)) pa_nil)))) pss_nil)
      (pss_cons (ps_if (pt_cmpR (op_in_seqK (K := K)) (pv 2) (pe_tup (pa_cons pe_str (pa_cons pe_str pa_nil))) rfl) (pss_one ps_never) pss_nil)
      (pss_cons (ps_if (pt_cmpR op_eq (pv 2) pe_str (nomark _)) (pss_one ps_never) pss_nil)
      (pss_cons (ps_if (pt_cmpR op_eq (pv 2) pe_str (nomark _)) (pss_one ps_never) pss_nil)
      (pss_cons (ps_if (pt_cmpR op_eq (pv 2) pe_str (nomark _)) (pss_one ps_never) pss_nil)
      (pss_one (ps_ret (pe_make N_Kind.mkC G_N_Kind (hr.mono (by first | decide | omega)) (by rfl) N_Kind.g N_Kind.b .nil pass0 (pa_cons (pv 0) pa_nil)))))))))), ?_⟩
    rcases h with ⟨ln, hL, hok, h12, q⟩ | ⟨qd, mi, hL, he, hO, q⟩
    · obtain ⟨nm, r, sL, hnm⟩ := line_name hL
      refine ⟨.ref L, rfl, L, _, 0, _, rfl, rfl, sL, atI_nat (j := 0) rfl, ?_⟩
      refine ⟨_, rfl, rfl, _, rfl, iteN (by rcases hnm with rfl | rfl | rfl | rfl | rfl <;> decide +kernel) ?_⟩
      refine ⟨_, rfl, (by decide : (2 : Nat) ≤ sizeLine), fun t nt => ?_⟩
      have g0 : Go M H (upd H t (.tup [.str "delete", .str "contract"])) := (Go.refl mk).new nt
      refine ⟨t, _, rfl, .inr (SqT.of upd_same), rfl, rfl, _, rfl, iteN (by rcases hnm with rfl | rfl | rfl | rfl | rfl <;> decide +kernel) ?_⟩
      refine ⟨_, rfl, rfl, _, rfl, iteN (by rcases hnm with rfl | rfl | rfl | rfl | rfl <;> decide +kernel) ⟨_, rfl, rfl, _, rfl, iteN (by rcases hnm with rfl | rfl | rfl | rfl | rfl <;> decide +kernel) ⟨_, rfl, rfl, _, rfl, iteN (by rcases hnm with rfl | rfl | rfl | rfl | rfl <;> decide +kernel) ?_⟩⟩⟩
      generalize upd H t (.tup [.str "delete", .str "contract"]) = H1 at g0
      refine ⟨.ref L, rfl, fun x dx hx hdx ne => ?_⟩
      have g1 := go_make (C := CK.C) g0.b hx hdx ne
      refine ⟨M, H1, x, dx, L, ln, rfl, g1, hx, upd_same, (hL.go g0).go g1, fun d H' g2 nd hx2 hd2 => ⟨rfl, ?_⟩⟩
      have gr := (Gr.of (g0.trans g2)).memo (n := lnSize ln) (rk := kRk (lnSize ln) ln) hd2 (dn_ad g2.a nd) (g0.back nd) h12
      refine q _ H' x ⟨d, lnSize ln, kRk (lnSize ln) ln⟩ gr ⟨dx, L, ln, hx2, (hL.go g0).go g2, hok, rfl, rfl, List.mem_cons_self .., htc, htb⟩ rfl rfl
    · refine ⟨.ref L, rfl, L, _, 0, _, rfl, rfl, hL, atI_nat (j := 0) rfl, ?_⟩
      refine ⟨_, rfl, rfl, _, rfl, iteY (by decide +kernel) ?_⟩
      obtain ⟨dx', L', ln', e1, e2, e3, e4, e5, e6, e7, e8⟩ := id hO
      refine ⟨.ref e, rfl, .ref L, rfl, L, _, 1, _, rfl, rfl, hL, atI_nat (j := 1) rfl, e, _, 0, _, rfl, rfl, SqL.of he, atI_nat (j := 0) rfl, fun x dx hx hdx ne => ?_⟩
      have g1 := go_make (C := CD.C) mk hx hdx ne
      refine ⟨M, H, x, dx, qd, CK.C, dx', _, (mi.n : Nat), rfl, g1, hx, upd_same, g1.at e1, CK.cl, CK.nSize, rfl, fun d H' g2 nd hx2 hd2 => ⟨rfl, ?_⟩⟩
      have gr := (Gr.of g2).memo (n := mi.n) (rk := dRk mi.n mi.rk) hd2 (dn_ad g2.a nd) nd (mk.mem mi e6).1
      refine q _ H' x ⟨d, mi.n, dRk mi.n mi.rk⟩ gr ⟨dx, qd, mi, hx2, hO.gr gr, rfl, rfl, List.mem_cons_self ..⟩ rfl rfl
end
end Bw

set_option Elab.async false
set_option linter.all false
set_option maxRecDepth 100000
set_option maxHeartbeats 2000000
namespace Bw
open PySem PySem.Spec PyProof.Rows L2
theorem Gr.set {M M' : Mw} {H H1 : Hp} {p : Addr} {u o : HO} (g : Gr M M' H H1) (h0 : H p = none) (h : H1 p = some u) (k : kept u = true := by rfl) : Gr M M' H (upd H1 p o) :=
  ⟨g.a, g.b.set h k, fun x w e n => by
    have e1 := g.keep x w e n
    rw [upd_ne (ne_of_none e h0)]
    exact e1, g.ms, g.tb, g.new⟩
theorem Gr.here {M' : Mw} {H1 : Hp} {p : Addr} {u o : HO} (mk : Mok M' H1) (h : H1 p = some u) (k : kept u = true := by rfl) : Mok M' (upd H1 p o) := mk.set h k
section
variable {P : Program} {w : World} {K : PySem.W.Frag} {mg : Str → Option Value} {base : Heap}
/-- the objects while a list changes -/
def Tk (K : PySem.W.Frag) (H H' : Hp) : Prop := ∀ x xs, SqT K H x xs → SqT K H' x xs
theorem TI.tk {H H' : Hp} {v : V} {ns : List Nat} (g : Tk K H H') (h : TI K H v ns) : TI K H' v ns := by
  obtain ⟨a, rfl, s⟩ := h
  exact ⟨a, rfl, g _ _ s⟩
theorem TT2.tk {H H' : Hp} {v : V} {ns : List (List Nat)} (g : Tk K H H') (h : TT2 K H v ns) : TT2 K H' v ns := by
  obtain ⟨a, vs, rfl, s, t⟩ := h
  exact ⟨a, vs, rfl, g _ _ s, t.mono fun _ _ => TI.tk g⟩
theorem TBd.tk {H H' : Hp} {v : V} {b : List Nat × Nat} (g : Tk K H H') (h : TBd K H v b) : TBd K H' v b := by
  obtain ⟨a, w, rfl, s, t⟩ := h
  exact ⟨a, w, rfl, g _ _ s, t.tk g⟩
theorem TTB.tk {H H' : Hp} {v : V} {ns : List (List Nat × Nat)} (g : Tk K H H') (h : TTB K H v ns) : TTB K H' v ns := by
  obtain ⟨a, vs, rfl, s, t⟩ := h
  exact ⟨a, vs, rfl, g _ _ s, t.mono fun _ _ => TBd.tk g⟩
theorem LineAt.tk {H H' : Hp} {a : Addr} {ln : Ln} (g : Tk K H H') (h : LineAt K H a ln) : LineAt K H' a ln := by
  cases ln with
  | graph nv es => obtain ⟨v, s, t⟩ := h; exact ⟨v, g _ _ s, t.tk g⟩
  | choices m rows => obtain ⟨v, s, t⟩ := h; exact ⟨v, g _ _ s, t.tk g⟩
  | bounds n bs => obtain ⟨v, s, t⟩ := h; exact ⟨v, g _ _ s, t.tk g⟩
  | uniform n r => exact g _ _ h
  | vectors cs => obtain ⟨v, s, t⟩ := h; exact ⟨v, g _ _ s, t.tk g⟩
theorem Tk.lst {H : Hp} {R : Addr} {xs ys : List V} (e : H R = some (.lst xs)) : Tk K H (upd H R (.lst ys)) := fun x us h => by
  have ne : ∀ o, H x = some o → (∀ zs, o ≠ .lst zs) → (upd H R (.lst ys)) x = some o := fun o h n => (upd_ne (fun z => by rw [z, e] at h; exact n xs (Option.some.inj h).symm)).trans h
  rcases h with (h | ⟨o, h⟩) | h
  · exact .inl (.inl (ne _ h (fun zs z => by cases z)))
  · exact .inl (.inr ⟨o, ne _ h (fun zs z => by cases z)⟩)
  · exact .inr h
theorem OKind.lst {C tc tb : Addr} {M : Mw} {H : Hp} {p R : Addr} {m : Memo} {xs ys : List V} (h : OKind K C tc tb M H p m) (e : H R = some (.lst xs)) : OKind K C tc tb M (upd H R (.lst ys)) p m := by
  obtain ⟨dx, L, ln, h1, h2, h3⟩ := h
  exact ⟨dx, L, ln, (upd_ne (fun z => by rw [z, e] at h1; cases h1)).trans h1, h2.tk (Tk.lst e), h3⟩
theorem ODual.lst {C CD tc tb : Addr} {M : Mw} {H : Hp} {p R : Addr} {m : Memo} {xs ys : List V} (h : ODual K C CD tc tb M H p m) (e : H R = some (.lst xs)) : ODual K C CD tc tb M (upd H R (.lst ys)) p m := by
  obtain ⟨dx, q, mi, h1, h2, h3⟩ := h
  exact ⟨dx, q, mi, (upd_ne (fun z => by rw [z, e] at h1; cases h1)).trans h1, h2.lst e, h3⟩
def spBuilt (K : PySem.W.Frag) (CK CD tc tb : Addr) : Sp := fun vs H Q _ => ∃ (M : Mw) (a : Addr) (mt : Mat), vs = [.ref a] ∧ Mok M H ∧ tc ∈ M.tb ∧ tb ∈ M.tb ∧ MatAt K H a mt ∧ LnOk mt.ln ∧ lnSize mt.ln ≤ 12 ∧
  ∀ (M' : Mw) (H' : Hp) (D p : Addr) (ps : List V) (m : Memo), Gr M M' H H' → H' D = some (.lst (ps ++ [.ref p])) → ps.length ≤ 1 → OAny K CK CD tc tb M' H' p m → m.n = lnSize mt.ln → m.rk = mt.rk → Q (.ref D) H'
theorem ok_built {f tc tb : Addr} {fd : FuncData} (T : Bn mg) (CK CD : Cls2 K) (F : Fun K "built" "built" s_built f fd) (D_made_line : Def K mg "made_line" s_made_line)
    (G_made_line : FnOk P w K mg base CX0 4 D_made_line.f D_made_line.fd ["line", "earlier"] (spMade K CK.C CD.C tc tb)) :
    FnOk P w K mg base CX0 5 f fd ["matroid"] (spBuilt K CK.C CD.C tc tb) := by
  refine F.ok sc_built (fun vs H Q E h => ?_) (fun cdv A outer s H vs Q E hr h => ?_)
  · obtain ⟨M, a, mt, rfl, _⟩ := h
    rfl
  · obtain ⟨M, a, mt, rfl, mk, htc, htb, hA, hok, h12, q⟩ := h
    -- 0 matroid, 1 lines, 2 line
    refine ⟨_, (pss_cons (ps_set (i := 1) sc_built.nd rfl (.inl rfl) (pe_lst pa_nil))
      (pss_cons (ps_for PassesOwn.never rfl (pi_tupK (K := K) (pv 0)) (pg_name (i := 2) sc_built.nd rfl (.inl rfl)) (pss_one (ps_expr (pe_bm PySem.F.plainAttrs_list PySem.F.slot_list_append PySem.F.type_list_append mt_append (pv 1) (pa_cons (pe_call G_made_line (hr.mono (by first | decide | omega)) (by rfl) D_made_line.g D_made_line.F.kp (bd_made_line D_made_line.F) .nil pass0 (pa_cons (pv 2) (pa_cons (pv 1) pa_nil))) pa_nil)))))
      (pss_one (ps_ret (pv 1))))), ?_⟩
    refine ⟨Nat.zero_le _, fun R nR => ?_⟩
    have g1 : Go M H (upd H R (.lst [])) := (Go.refl mk).new nR
    have hR1 : (upd H R (.lst [])) R = some (.lst []) := upd_same
    generalize upd H R (.lst []) = H1 at g1 hR1
    obtain ⟨L, hL, hcase⟩ := hA
    obtain ⟨xs, sA, hx0, hx1⟩ : ∃ xs, SqT K H a xs ∧ xs[0]? = some (.ref L) ∧ ((mt.du = false ∧ xs.length = 1) ∨ (∃ D : Addr, mt.du = true ∧ xs = [.ref L, .ref D] ∧ SqT K H D [.str "dual", .int 0])) := by
      rcases hcase with ⟨h1, h2⟩ | ⟨D, h1, h2, h3⟩
      · exact ⟨_, h2, rfl, .inl ⟨h1, rfl⟩⟩
      · exact ⟨_, h3, rfl, .inr ⟨D, h1, rfl, h2⟩⟩
    refine ⟨.ref a, rfl, a, rfl, ⟨_, g1.t sA⟩, for_it walk_tup (G := fun H' => SqT K H' a xs) (fun i σ H' => ∃ M', Gr M M' H H' ∧ ∃ (x : Option V), σ = [some (.ref a), some (.ref R), x] ∧
      ((i = 0 ∧ M' = M ∧ Go M H H' ∧ H' R = some (.lst [])) ∨ (i = 1 ∧ ∃ p m, H' R = some (.lst [.ref p]) ∧ OKind K CK.C tc tb M' H' p m ∧ m.n = lnSize mt.ln ∧ m.rk = kRk (lnSize mt.ln) mt.ln) ∨
        (i = 2 ∧ mt.du = true ∧ ∃ (q p : Addr) (m : Memo), H' R = some (.lst [.ref q, .ref p]) ∧ ODual K CK.C CD.C tc tb M' H' p m ∧ m.n = lnSize mt.ln ∧ m.rk = mt.rk))) ?_ ?_ ?_ ?_⟩
    · exact ⟨M, Gr.of g1, none, rfl, .inl ⟨rfl, rfl, g1, hR1⟩⟩
    · rintro i σ H' _ ⟨M', g, _⟩
      exact g.kp.t sA
    · rintro i x σ H' H'' hi ⟨M', g, x0, rfl, hc⟩ ⟨rfl, ex⟩
      rcases hc with ⟨rfl, rfl, go, hR⟩ | ⟨rfl, p, m, hR, hO, hn, hrk⟩ | ⟨rfl, _⟩
      · rw [hx0] at ex
        cases ex
        refine ⟨.ref R, rfl, .inl ⟨rfl, _, SqL.of hR⟩, .ref L, rfl, .ref R, rfl, M', L, R, rfl, go.b, htc, htb, .inl ⟨mt.ln, hL.kp g.kp, hok, h12, fun M2 H2 p m g2 hO hn hrk => ?_⟩⟩
        have hR2 := g2.kp _ _ hR rfl
        refine ⟨R, _, _, rfl, rfl, hR2, szl (by simp), ⟨M2, (g.trans g2).set nR hR2, _, rfl, .inr (.inl ⟨rfl, p, m, upd_same, hO.lst hR2, hn, hrk⟩)⟩⟩
      · rcases hx1 with ⟨_, h⟩ | ⟨D, hd, rfl, hD⟩
        · omega
        · cases ex
          refine ⟨.ref R, rfl, .inl ⟨rfl, _, SqL.of hR⟩, .ref D, rfl, .ref R, rfl, M', D, R, rfl, g.b, by rw [g.tb]; exact htc, by rw [g.tb]; exact htb, .inr ⟨p, m, g.kp.t hD, hR, hO, fun M2 H2 p2 m2 g2 hO2 hn2 hrk2 => ?_⟩⟩
          have hR2 := g2.kp _ _ hR rfl
          refine ⟨R, _, _, rfl, rfl, hR2, szl (by simp), ⟨M2, (g.trans g2).set nR hR2, _, rfl, .inr (.inr ⟨rfl, hd, p, p2, m2, upd_same, hO2.lst hR2, hn2.trans hn, ?_⟩)⟩⟩
          rw [hrk2, hn, hrk]
          unfold Mat.rk
          rw [if_pos hd]
      · rcases hx1 with ⟨_, h⟩ | ⟨D, _, rfl, _⟩
        · omega
        · simp at hi
    · rintro σ H' ⟨M', g, x0, rfl, hc⟩
      refine ⟨.ref R, rfl, ?_⟩
      rcases hc with ⟨hi, _⟩ | ⟨hi, p, m, hR, hO, hn, hrk⟩ | ⟨hi, hd, q', p, m, hR, hO, hn, hrk⟩
      · rcases hx1 with ⟨_, h⟩ | ⟨D, _, rfl, _⟩
        · omega
        · simp at hi
      · rcases hx1 with ⟨hd, h⟩ | ⟨D, _, rfl, _⟩
        · refine q M' H' R p [] m g hR (by simp) (.inl hO) hn ?_
          rw [hrk]
          unfold Mat.rk
          rw [if_neg (by rw [hd]; simp)]
        · simp at hi
      · exact q M' H' R p [.ref q'] m g hR (by simp) (.inr hO) hn hrk
theorem atI_last (ps : List V) (v : V) : atI (ps ++ [v]) (-1) = some v := by
  have e : ixN (ps ++ [v]).length (-1) = some ps.length := by
    rw [List.length_append]
    show ixN (ps.length + 1) (-1) = _
    unfold ixN
    rw [if_neg (by decide), if_pos (by omega)]
    congr 1
    omega
  unfold atI
  rw [e]
  show (ps ++ [v])[ps.length]? = some v
  simp
def spRanked (K : PySem.W.Frag) (CK CD tc tb : Addr) : Sp := fun vs H Q _ => ∃ (M : Mw) (a : Addr) (mt : Mat), vs = [.ref a] ∧ Mok M H ∧ tc ∈ M.tb ∧ tb ∈ M.tb ∧ MatAt K H a mt ∧ LnOk mt.ln ∧ lnSize mt.ln ≤ 12 ∧
  ∀ (M' : Mw) (H' : Hp) (p : Addr) (m : Memo), Gr M M' H H' → OAny K CK CD tc tb M' H' p m → m.n = lnSize mt.ln → m.rk = mt.rk → Q (.ref p) H'
theorem ok_ranked {f tc tb : Addr} {fd : FuncData} (T : Bn mg) (CK CD : Cls2 K) (F : Fun K "ranked" "ranked" s_ranked f fd) (D_built : Def K mg "built" s_built)
    (G_built : FnOk P w K mg base CX0 5 D_built.f D_built.fd ["matroid"] (spBuilt K CK.C CD.C tc tb)) :
    FnOk P w K mg base CX0 6 f fd ["matroid"] (spRanked K CK.C CD.C tc tb) := by
  refine F.ok sc_ranked (fun vs H Q E h => ?_) (fun cdv A outer s H vs Q E hr h => ?_)
  · obtain ⟨M, a, mt, rfl, _⟩ := h
    rfl
  · obtain ⟨M, a, mt, rfl, mk, htc, htb, hA, hok, h12, q⟩ := h
    refine ⟨_, (pss_one (ps_ret (pe_ix (ix_listK (K := K)) (pe_call G_built (hr.mono (by first | decide | omega)) (by rfl) D_built.g D_built.F.kp (bd_built D_built.F) .nil pass0 (pa_cons (pv 0) pa_nil)) (pe_un un_neg pe_int) (fun _ _ => rfl)))), ?_⟩
    refine ⟨.ref a, rfl, M, a, mt, rfl, mk, htc, htb, hA, hok, h12, fun M' H' D p ps m g hD hps hO hn hrk => ?_⟩
    refine ⟨1, rfl, D, _, (-1 : Int), _, rfl, rfl, SqL.of hD, atI_last ps _, q M' H' p m g hO hn hrk⟩
def spBoth (K : PySem.W.Frag) (CK CD tc tb : Addr) : Sp := fun vs H Q _ => ∃ (M : Mw) (a b : Addr) (mt mt2 : Mat), vs = [.ref a, .ref b] ∧ Mok M H ∧ tc ∈ M.tb ∧ tb ∈ M.tb ∧ MatAt K H a mt ∧ LnOk mt.ln ∧ lnSize mt.ln ≤ 12 ∧ MatAt K H b mt2 ∧ LnOk mt2.ln ∧ lnSize mt2.ln = lnSize mt.ln ∧
  ∀ (M' : Mw) (H' : Hp) (t p p2 : Addr) (m m2 : Memo), Gr M M' H H' → H' t = some (.tup [.ref p, .ref p2]) → OAny K CK CD tc tb M' H' p m → OAny K CK CD tc tb M' H' p2 m2 → m.n = lnSize mt.ln → m.rk = mt.rk → m2.n = lnSize mt.ln → m2.rk = mt2.rk → Q (.ref t) H'
theorem ok_both {f tc tb : Addr} {fd : FuncData} (T : Bn mg) (CK CD : Cls2 K) (F : Fun K "both" "both" s_both f fd) (D_ranked : Def K mg "ranked" s_ranked)
    (G_ranked : FnOk P w K mg base CX0 6 D_ranked.f D_ranked.fd ["matroid"] (spRanked K CK.C CD.C tc tb)) :
    FnOk P w K mg base CX0 7 f fd ["first", "second"] (spBoth K CK.C CD.C tc tb) := by
  refine F.ok sc_both (fun vs H Q E h => ?_) (fun cdv A outer s H vs Q E hr h => ?_)
  · obtain ⟨M, a, b, mt, mt2, rfl, _⟩ := h
    rfl
  · obtain ⟨M, a, b, mt, mt2, rfl, mk, htc, htb, hA, hok, h12, hA2, hok2, hn2, q⟩ := h
    -- 0 first, 1 second, 2 one, 3 two
    refine ⟨_, (pss_cons (ps_set (i := 2) sc_both.nd rfl (.inl rfl) (pe_call G_ranked (hr.mono (by first | decide | omega)) (by rfl) D_ranked.g D_ranked.F.kp (bd_ranked D_ranked.F) .nil pass0 (pa_cons (pv 0) pa_nil)))
      (pss_cons (ps_set (i := 3) sc_both.nd rfl (.inl rfl) (pe_call G_ranked (hr.mono (by first | decide | omega)) (by rfl) D_ranked.g D_ranked.F.kp (bd_ranked D_ranked.F) .nil pass0 (pa_cons (pv 1) pa_nil)))
      (pss_cons (ps_if (pt_cmpR op_ne (pe_fldK (K := K) (pv 2) rfl) (pe_fldK (K := K) (pv 3) rfl) (nomark _)) (pss_one ps_never) pss_nil)
      (pss_one (ps_ret (pe_tup (pa_cons (pv 2) (pa_cons (pv 3) pa_nil)))))))), ?_⟩
    refine ⟨.ref a, rfl, M, a, mt, rfl, mk, htc, htb, hA, hok, h12, fun M1 H1 p m g hO hn hrk => ?_⟩
    refine ⟨.ref b, rfl, M1, b, mt2, rfl, g.b, by rw [g.tb]; exact htc, by rw [g.tb]; exact htb, hA2.kp g.kp, hok2, by omega, fun M2 H2 p2 m2 g2 hO2 hn2' hrk2 => ?_⟩
    have hO1 := hO.gr g2
    obtain ⟨C1, d1, f1, a1, a2, a3, a4⟩ := hO1.fld
    obtain ⟨C2, d2, f2, b1, b2, b3, b4⟩ := hO2.fld
    refine ⟨.ref p, rfl, p, C1, d1, f1, _, rfl, a1, a2, a3, a4, .ref p2, rfl, p2, C2, d2, f2, _, rfl, b1, b2, b3, b4, ?_⟩
    rw [show (m2.n : Nat) = m.n by omega]
    refine ⟨rfl, _, rfl, ?_⟩
    rw [decide_eq_true rfl]
    refine iteF ?_
    refine ⟨.ref p, rfl, .ref p2, rfl, (by decide : (2 : Nat) ≤ sizeLine), fun t nt => ?_⟩
    have g3 : Go M2 H2 (upd H2 t (.tup [.ref p, .ref p2])) := (Go.refl g2.b).new nt
    exact q M2 _ t p p2 m m2 ((g.trans g2).go g3) upd_same (hO1.gr (Gr.of g3)) (hO2.gr (Gr.of g3)) hn hrk (by omega) hrk2
end
end Bw

set_option Elab.async false
set_option linter.all false
set_option maxRecDepth 100000
set_option maxHeartbeats 2000000
namespace Bw
open PySem PySem.Spec PyProof.Rows L2
/-- what the search needs to know of a rank -/
structure RkOf (n : Nat) (I : Bst.S → Prop) (rk : Bst.S → Int) : Prop where
  mat : Bst.Mat n I
  le : ∀ A : Bst.S, (∀ x, A x = true → x < n) → rk A ≤ (Bst.cnt n A : Nat)
  eq : ∀ A : Bst.S, (∀ x, A x = true → x < n) → (rk A = (Bst.cnt n A : Nat) ↔ I A)
/-- what divided tells -/
structure DivOk (n : Nat) (I1 I2 : Bst.S → Prop) (ms l1 l2 l3 : List Nat) : Prop where
  nd1 : l1.Nodup
  nd2 : l2.Nodup
  nd3 : l3.Nodup
  in1 : ∀ e ∈ l1, e ∈ ms
  in2 : ∀ e ∈ l2, e ∈ ms
  in3 : ∀ e ∈ l3, e ∈ ms
  dis : ∀ e ∈ l1, e ∉ l2
  i1 : I1 (Bst.mem l1)
  i2 : I2 (Bst.mem l2)
  most : ∀ (T : Bst.S) (r1 r2 : Nat), Bst.IsRank n I1 T r1 → Bst.IsRank n I2 T r2 → l1.length + l2.length ≤ r1 + r2 + Bst.cnt n (fun e => Bst.mem ms e && !T e)
  told : ∀ (r1 r2 : Nat), Bst.IsRank n I1 (Bst.mem l3) r1 → Bst.IsRank n I2 (Bst.mem l3) r2 → r1 + r2 + Bst.cnt n (fun e => Bst.mem ms e && !Bst.mem l3 e) ≤ l1.length + l2.length
theorem cop_fr {n : Nat} {I1 I2 : Bst.S → Prop} {rk1 rk2 : Bst.S → Int} {Mm B : Bst.S} (h1 : RkOf n I1 rk1) (h2 : RkOf n I2 rk2) (hB : ∀ x, B x = true → x < 2 * n) :
    rk1 (fun e => Bst.lo n B e && Mm e) + rk2 (fun e => Bst.hi n B e && Mm e) = (Bst.cnt (2 * n) B : Nat) ↔ Bst.ICop n I1 I2 Mm B := by
  have s1 : ∀ x, (Bst.lo n B x && Mm x) = true → x < n := fun x h => by
    rw [Bool.and_eq_true] at h
    exact (Bst.lo_true.mp h.1).1
  have s2 : ∀ x, (Bst.hi n B x && Mm x) = true → x < n := fun x h => by
    rw [Bool.and_eq_true] at h
    exact (Bst.hi_true.mp h.1).1
  have l1 := h1.le _ s1
  have l2 := h2.le _ s2
  have e1 := h1.eq _ s1
  have e2 := h2.eq _ s2
  have c1 : Bst.cnt n (fun e => Bst.lo n B e && Mm e) ≤ Bst.cnt n (Bst.lo n B) := Bst.cnt_mono fun x _ q => (Bool.and_eq_true_iff.mp q).1
  have c2 : Bst.cnt n (fun e => Bst.hi n B e && Mm e) ≤ Bst.cnt n (Bst.hi n B) := Bst.cnt_mono fun x _ q => (Bool.and_eq_true_iff.mp q).1
  have c3 := Bst.cnt_two B n
  have full : ∀ {X : Bst.S}, (∀ x, X x = true → x < n) → Bst.cnt n X ≤ Bst.cnt n (fun e => X e && Mm e) → (fun e => X e && Mm e) = X ∧ ∀ x, X x = true → Mm x = true := fun {X} hX hc => by
    have q := Bst.cnt_eq_sub (fun x _ h => (Bool.and_eq_true_iff.mp h).1) hc
    have q2 : ∀ x, X x = true → Mm x = true := fun x h => by
      have := q x (hX x h)
      rw [h, Bool.true_and] at this
      exact this
    refine ⟨?_, q2⟩
    funext x
    cases z : X x with
    | false => rfl
    | true => rw [Bool.true_and]; exact q2 x z
  have hlo : ∀ x, Bst.lo n B x = true → x < n := fun x h => (Bst.lo_true.mp h).1
  have hhi : ∀ x, Bst.hi n B x = true → x < n := fun x h => (Bst.hi_true.mp h).1
  constructor
  · intro h
    obtain ⟨f1, f1'⟩ := full hlo (by omega)
    obtain ⟨f2, f2'⟩ := full hhi (by omega)
    refine ⟨hB, ?_, ?_, f1', f2'⟩
    · have := e1.mp (by omega)
      rwa [f1] at this
    · have := e2.mp (by omega)
      rwa [f2] at this
  · rintro ⟨_, i1, i2, q1, q2⟩
    have f1 : (fun e => Bst.lo n B e && Mm e) = Bst.lo n B := by
      funext x
      cases z : Bst.lo n B x with
      | false => rfl
      | true => rw [Bool.true_and]; exact q1 x z
    have f2 : (fun e => Bst.hi n B e && Mm e) = Bst.hi n B := by
      funext x
      cases z : Bst.hi n B x with
      | false => rfl
      | true => rw [Bool.true_and]; exact q2 x z
    rw [f1] at e1 ⊢
    rw [f2] at e2 ⊢
    have := e1.mpr i1
    have := e2.mpr i2
    omega
theorem cnt_ie (n : Nat) (P Q : Bst.S) : Bst.cnt n (fun e => P e || Q e) + Bst.cnt n (fun e => P e && Q e) = Bst.cnt n P + Bst.cnt n Q := by
  have h1 := Bst.cnt_split (fun e => P e || Q e) P n
  have h2 := Bst.cnt_split Q P n
  have e1 : Bst.cnt n (fun x => (P x || Q x) && P x) = Bst.cnt n P := Bst.cnt_congr fun x _ => by cases P x <;> cases Q x <;> rfl
  have e2 : Bst.cnt n (fun x => (P x || Q x) && !P x) = Bst.cnt n (fun x => Q x && !P x) := Bst.cnt_congr fun x _ => by cases P x <;> cases Q x <;> rfl
  have e3 : Bst.cnt n (fun x => Q x && P x) = Bst.cnt n (fun x => P x && Q x) := Bst.cnt_congr fun x _ => by cases P x <;> cases Q x <;> rfl
  omega
theorem pair_fr {n : Nat} {B : Bst.S} (hB : ∀ x, B x = true → x < 2 * n) : ((Bst.cnt n (fun e => B e || B (e + n)) : Nat) : Int) = (Bst.cnt (2 * n) B : Nat) ↔ Bst.IPair n B := by
  have h1 := cnt_ie n B (fun e => B (e + n))
  have h2 := Bst.cnt_two B n
  rw [Bst.cnt_lo, Bst.cnt_hi] at h2
  constructor
  · intro h
    refine ⟨hB, fun e he q => ?_⟩
    have z : Bst.cnt n (fun e => B e && B (e + n)) = 0 := by omega
    have := Bst.cnt_zero_iff.mp z e he
    rw [q, Bool.true_and] at this
    exact this
  · rintro ⟨_, h⟩
    have z : Bst.cnt n (fun e => B e && B (e + n)) = 0 := Bst.cnt_zero_iff.mpr fun e he => by
      cases q : B e with
      | false => rfl
      | true => rw [Bool.true_and]; exact h e he q
    omega
theorem mem_filter {l : List Nat} {p : Nat → Bool} {e : Nat} : Bst.mem (l.filter p) e = (Bst.mem l e && p e) := by
  rw [Bool.eq_iff_iff, Bst.mem_true, List.mem_filter, Bool.and_eq_true, Bst.mem_true]
theorem mem_lo {n : Nat} {ch : List Nat} : Bst.mem (ch.filter fun e => decide (e < n)) = Bst.lo n (Bst.mem ch) := by
  funext e
  rw [mem_filter]
  exact Bool.and_comm ..
theorem mem_hi {n : Nat} {ch : List Nat} : Bst.mem ((ch.filter fun e => decide (n ≤ e)).map (· - n)) = (fun e => Bst.mem ch (e + n)) := by
  funext e
  rw [Bool.eq_iff_iff, Bst.mem_true, List.mem_map, Bst.mem_true]
  constructor
  · rintro ⟨x, hx, rfl⟩
    obtain ⟨a, b⟩ := List.mem_filter.mp hx
    have b : n ≤ x := by simpa using b
    rw [show x - n + n = x by omega]
    exact a
  · intro h
    exact ⟨e + n, List.mem_filter.mpr ⟨h, by simp⟩, by omega⟩
theorem div_ok {n : Nat} {I1 I2 : Bst.S → Prop} {ms ch : List Nat} {f1 f2 : Bst.S → Bool} {R : Bst.S} (hnd : ms.Nodup) (hlt : ∀ e ∈ ms, e < n) (Ma : Bst.Mat n I1) (Mb : Bst.Mat n I2)
    (e1 : ∀ B : Bst.S, (∀ x, B x = true → x < 2 * n) → (f1 B = true ↔ Bst.ICop n I1 I2 (Bst.mem ms) B)) (e2 : ∀ B : Bst.S, (∀ x, B x = true → x < 2 * n) → (f2 B = true ↔ Bst.IPair n B))
    (cnd : ch.Nodup) (clt : ∀ e ∈ ch, e < 2 * n) (mv : Moved (2 * n) f1 f2 (Bst.ICop n I1 I2 (Bst.mem ms)) (Bst.IPair n) ch) (hR : R = Bst.reach (2 * n) f1 f2 (Bst.mem ch)) :
    DivOk n I1 I2 ms (ch.filter fun e => decide (e < n)) ((ch.filter fun e => decide (n ≤ e)).map (· - n)) ((Bst.lst n (Bst.mem ms)).filter fun e => !R e && !R (e + n)) := by
  have hMm : ∀ x, Bst.mem ms x = true → x < n := fun x h => hlt x (Bst.mem_true.mp h)
  have nd1 : (ch.filter fun e => decide (e < n)).Nodup := cnd.filter _
  have lt1 : ∀ e ∈ ch.filter (fun e => decide (e < n)), e < n := fun e he => by simpa using (List.mem_filter.mp he).2
  have nd2 : ((ch.filter fun e => decide (n ≤ e)).map (· - n)).Nodup := by
    refine List.pairwise_map.mpr ((cnd.filter _).imp_of_mem fun {x y} hx hy hxy => ?_)
    have h1 : n ≤ x := by simpa using (List.mem_filter.mp hx).2
    have h2 : n ≤ y := by simpa using (List.mem_filter.mp hy).2
    omega
  have lt2 : ∀ e ∈ (ch.filter fun e => decide (n ≤ e)).map (· - n), e < n := fun e he => by
    obtain ⟨x, hx, rfl⟩ := List.mem_map.mp he
    have h1 : n ≤ x := by simpa using (List.mem_filter.mp hx).2
    have := clt x (List.mem_filter.mp hx).1
    omega
  have ehi : (fun e => Bst.mem ch (e + n)) = Bst.hi n (Bst.mem ch) := by
    funext e
    rw [Bool.eq_iff_iff, Bst.hi_true]
    refine ⟨fun h => ⟨?_, h⟩, fun h => h.2⟩
    have := clt _ (Bst.mem_true.mp h)
    omega
  have len1 := len_cnt nd1 lt1
  have len2 := len_cnt nd2 lt2
  rw [mem_lo] at len1
  rw [mem_hi, ehi] at len2
  obtain ⟨a1, a2, hl⟩ := mv
  have hT : ∀ e, Bst.mem ((Bst.lst n (Bst.mem ms)).filter fun e => !R e && !R (e + n)) e = true ↔ Bst.mem ms e = true ∧ Bst.reach (2 * n) f1 f2 (Bst.mem ch) e = false ∧ Bst.reach (2 * n) f1 f2 (Bst.mem ch) (e + n) = false := fun e => by
    rw [mem_filter, Bool.and_eq_true, Bst.mem_true, Bst.mem_lst, Bool.and_eq_true, Bool.not_eq_true', Bool.not_eq_true', hR]
    exact ⟨fun ⟨⟨_, b⟩, c⟩ => ⟨b, c⟩, fun ⟨b, c⟩ => ⟨⟨hMm e b, b⟩, c⟩⟩
  have key := fun J1 J2 => Bst.divided_ok Ma Mb hMm e1 e2 a1 a2 hl _ hT J1 J2
  refine ⟨nd1, nd2, (Bst.lst_nodup _ _).filter _, fun e he => ?_, fun e he => ?_, fun e he => ?_, fun e he he2 => ?_, ?_, ?_, fun T r1 r2 h1 h2 => ?_, fun r1 r2 h1 h2 => ?_⟩
  · have : Bst.lo n (Bst.mem ch) e = true := by rw [← mem_lo]; exact Bst.mem_true.mpr he
    exact Bst.mem_true.mp (a1.2.2.2.1 e this)
  · have : Bst.hi n (Bst.mem ch) e = true := by rw [← ehi, ← mem_hi]; exact Bst.mem_true.mpr he
    exact Bst.mem_true.mp (a1.2.2.2.2 e this)
  · exact Bst.mem_true.mp ((hT e).mp (Bst.mem_true.mpr he)).1
  · have z1 : Bst.lo n (Bst.mem ch) e = true := by rw [← mem_lo]; exact Bst.mem_true.mpr he
    have z2 : Bst.mem ch (e + n) = true := by
      have := Bst.mem_true.mpr he2
      rw [mem_hi] at this
      exact this
    rw [a2.2 e (Bst.lo_true.mp z1).1 (Bst.lo_true.mp z1).2] at z2
    cases z2
  · rw [mem_lo]; exact a1.2.1
  · rw [mem_hi, ehi]; exact a1.2.2.1
  · rw [len1, len2]
    refine Bst.divided_most (J1 := fun _ => false) (J2 := fun _ => false) a1 a2 r1 r2 (h1.2 _ (Ma.sub _ _ (fun x q => (Bool.and_eq_true_iff.mp q).1) a1.2.1) fun x q => (Bool.and_eq_true_iff.mp q).2) (h2.2 _ (Mb.sub _ _ (fun x q => (Bool.and_eq_true_iff.mp q).1) a1.2.2.1) fun x q => (Bool.and_eq_true_iff.mp q).2)
  · obtain ⟨J1, j1, s1, c1⟩ := h1.1
    obtain ⟨J2, j2, s2, c2⟩ := h2.1
    have := key J1 J2 j1 j2 s1 s2
    rw [len1, len2]
    omega
section
variable {P : Program} {w : World} {K : PySem.W.Frag} {mg : Str → Option Value} {base : Heap}
def spDiv (K : PySem.W.Frag) (CK CD tc tb tl tr : Addr) : Sp := fun vs H Q _ => ∃ (M : Mw) (p1 p2 a : Addr) (m1 m2 : Memo) (n : Nat) (ms : List Nat) (I1 I2 : Bst.S → Prop), vs = [.ref p1, .ref p2, .ref a] ∧ Mok M H ∧ tl ∈ M.tb ∧ tr ∈ M.tb ∧
  OAny K CK CD tc tb M H p1 m1 ∧ OAny K CK CD tc tb M H p2 m2 ∧ m1.n = n ∧ m2.n = n ∧ n ≤ 6 ∧ RkOf n I1 m1.rk ∧ RkOf n I2 m2.rk ∧ H a = some (.lst (nV ms)) ∧ ms.Nodup ∧ (∀ e ∈ ms, e < n) ∧
  ∀ (M' : Mw) (H' : Hp) (t u1 u2 u3 : Addr) (l1 l2 l3 : List Nat), Gr M M' H H' → H' t = some (.tup [.ref u1, .ref u2, .ref u3]) → H' u1 = some (.lst (nV l1)) → H' u2 = some (.lst (nV l2)) → H' u3 = some (.lst (nV l3)) → DivOk n I1 I2 ms l1 l2 l3 → Q (.ref t) H'
theorem ok_divided_in {kf : Nat} {f tc tb tl tr : Addr} {fd : FuncData} (T : Bn mg) (CK CD CC CS : Cls2 K) (F : Fun K "divided_in" "divided_in" s_divided_in f fd) (D_moved_in : Def K mg "moved_in" s_moved_in)
    (N_Copies : KC K mg "Copies" CC.C ["self", "one", "two", "members"]) (N_Single : KC K mg "Single" CS.C ["self", "size"])
    (G_moved_in : FnOk P w K mg base CX0 (kf + 6) D_moved_in.f D_moved_in.fd ["first", "second", "members"] (spMoved (CC := CC.toCF) (CS := CS.toCF) (BCop K CK.C CD.C CC.C tc tb) (BSin CS.C) tl tr))
    (G_N_Copies : FnOk P w K mg base CX0 2 N_Copies.f N_Copies.fd ["self", "one", "two", "members"] (spCInit K CC.C)) (G_N_Single : FnOk P w K mg base CX0 1 N_Single.f N_Single.fd ["self", "size"] (spInit K)) :
    FnOk P w K mg base CX0 (kf + 7) f fd ["one", "two", "members"] (spDiv K CK.C CD.C tc tb tl tr) := by
  refine F.ok sc_divided_in (fun vs H Q E h => ?_) (fun cdv A outer s H vs Q E hr h => ?_)
  · obtain ⟨M, p1, p2, a, m1, m2, n, ms, I1, I2, rfl, _⟩ := h
    rfl
  · obtain ⟨M, p1, p2, a, m1, m2, n, ms, I1, I2, rfl, mk, htl, htr, hO1, hO2, hn1, hn2, h6, hr1, hr2, ha, hnd, hlt, q⟩ := h
    -- 0 one, 1 two, 2 members, 3 count, 4 _, 5 chosen, 6 reached, 7 first, 8 second, 9 tight, 10 element
    refine ⟨_, (pss_cons (ps_set (i := 3) sc_divided_in.nd rfl (.inr rfl) (pe_fldK (K := K) (pv 0) rfl))
      (pss_cons (ps_asg (pe_call G_moved_in (hr.mono (by first | decide | omega)) (by rfl) D_moved_in.g D_moved_in.F.kp (bd_moved_in D_moved_in.F) .nil pass0 (pa_cons (pe_make N_Copies.mkC G_N_Copies (hr.mono (by first | decide | omega)) (by rfl) N_Copies.g N_Copies.b .nil pass0 (pa_cons (pv 0) (pa_cons (pv 1) (pa_cons (pv 2) pa_nil)))) (pa_cons (pe_make N_Single.mkC G_N_Single (hr.mono (by first | decide | omega)) (by rfl) N_Single.g N_Single.b .nil pass0 (pa_cons (pe_op op_mul pe_int (pv 3)) pa_nil)) (pa_cons (pe_lst pa_nil) pa_nil)))) (pg_tupK (K := K) (n := 4) rfl rfl (pgs_cons (pg_name (i := 4) sc_divided_in.nd rfl (.inl rfl)) (pgs_cons (pg_name (i := 4) sc_divided_in.nd rfl (.inl rfl)) (pgs_cons (pg_name (i := 5) sc_divided_in.nd rfl (.inl rfl)) (pgs_cons (pg_name (i := 6) sc_divided_in.nd rfl (.inr rfl)) pgs_nil))))))
      (pss_cons (ps_setLc (i := 7) (own := [("element", 10)]) (by rfl) sc_divided_in.nd rfl rfl (sw_true rfl rfl rfl (by decide +kernel)) (pi_listK (K := K) (pv 5)) (blkOk_by (by rfl)) (fun _ _ _ _ _ => (pg_name (i := 10) sc_divided_in.nd rfl (.inl rfl))) (fun _ _ _ _ _ => (pts_one (pt_cmpR op_lt (pv 10) (pv 3) (nomark _)))) (fun _ _ _ _ _ => (pv 10)))
      (pss_cons (ps_setLc (i := 8) (own := [("element", 10)]) (by rfl) sc_divided_in.nd rfl rfl (sw_true rfl rfl rfl (by decide +kernel)) (pi_listK (K := K) (pv 5)) (blkOk_by (by rfl)) (fun _ _ _ _ _ => (pg_name (i := 10) sc_divided_in.nd rfl (.inl rfl))) (fun _ _ _ _ _ => (pts_one (pt_cmpR op_ge (pv 10) (pv 3) (nomark _)))) (fun _ _ _ _ _ => (pe_op op_sub (pv 10) (pv 3))))
      (pss_cons (ps_setLc (i := 9) (own := [("element", 10)]) (by rfl) sc_divided_in.nd rfl rfl (sw_true rfl rfl rfl (by decide +kernel)) (pi_listK (K := K) (pe_callB (cr_sortedIK (K := K)) (by rfl) T.m_sorted (by decide +kernel) (pa_cons (pv 2) pa_nil))) (blkOk_by (by rfl)) (fun _ _ _ _ _ => (pg_name (i := 10) sc_divided_in.nd rfl (.inl rfl))) (fun _ _ _ _ _ => (pts_one (PW.pt (pw_and (pt_cmpR (op_notIn_seqK (K := K)) (pv 10) (pv 6) rfl) (pw_and1 (pt_cmpR (op_notIn_seqK (K := K)) (pe_op op_add (pv 10) (pv 3)) (pv 6) rfl)))))) (fun _ _ _ _ _ => (pv 10)))
      (pss_one (ps_ret (pe_tup (pa_cons (pv 7) (pa_cons (pv 8) (pa_cons (pv 9) pa_nil))))))))))), ?_⟩
    obtain ⟨C1, d1, f1, a1, a2, a3, a4⟩ := hO1.fld
    rw [hn1] at a4
    refine ⟨.ref p1, rfl, p1, C1, d1, f1, _, rfl, a1, a2, a3, a4, ?_⟩
    have hml : ms.length ≤ 1000 := by have := nodup_lt_len hnd hlt; omega
    -- Copies(one, two, members)
    refine ⟨.ref p1, rfl, .ref p2, rfl, .ref a, rfl, fun x dx hx hdx ne => ?_⟩
    have g1 := go_make (C := CC.C) mk hx hdx ne
    refine ⟨M, H, x, dx, p1, p2, a, C1, d1, f1, (n : Nat), rfl, ?_, g1, hx, upd_same, g1.at a1, a2, a3, a4, fun d H2 g2 nd hx2 hd2 => ⟨rfl, ?_⟩⟩
    · exact .inl ⟨by decide, by decide⟩
    let mc : Memo := ⟨d, 2 * n, fun A => m1.rk (fun e => Bst.lo n A e && Bst.mem ms e) + m2.rk (fun e => Bst.hi n A e && Bst.mem ms e)⟩
    have gr2 : Gr M ⟨mc :: M.ms, M.tb⟩ H H2 := (Gr.of g2).memo (n := 2 * n) hd2 (dn_ad g2.a nd) nd (by omega)
    have hx2' : H2 x = some (.ins CC.C dx [("size", .int ((2 * n : Nat) : Int)), ("known", .ref d), ("one", .ref p1), ("two", .ref p2), ("members", .ref a)]) := by rw [hx2]; rfl
    have hOc : OCop K CK.C CD.C CC.C tc tb ⟨mc :: M.ms, M.tb⟩ H2 x mc := ⟨dx, p1, p2, a, n, m1, m2, ms, hx2', hO1.gr gr2, hO2.gr gr2, hn1, hn2, rfl, g2.at ha, hml, rfl, List.mem_cons_self ..⟩
    -- Single(2 * count)
    refine ⟨_, rfl, _, _, rfl, rfl, ?_, fun y dy hy hdy ne' => ?_⟩
    · exact .inl ⟨by decide, by decide⟩
    have g3 := go_make (C := CS.C) gr2.b hy hdy ne'
    refine ⟨_, H2, y, dy, CS.C, _, rfl, CS.cl, CS.nSize, CS.nKnown, g3, hy, upd_same, fun ds H3 g4 nds hy3 hds => ⟨rfl, ?_⟩⟩
    let msn : Memo := ⟨ds, 2 * n, fun A => ((Bst.cnt n (fun e => A e || A (e + n)) : Nat) : Int)⟩
    have gr3 : Gr M ⟨msn :: mc :: M.ms, M.tb⟩ H H3 := gr2.trans ((Gr.of g4).memo (n := 2 * n) hds (dn_ad g4.a nds) nds (by omega))
    have gr23 : Gr ⟨mc :: M.ms, M.tb⟩ ⟨msn :: mc :: M.ms, M.tb⟩ H2 H3 := (Gr.of g4).memo (n := 2 * n) hds (dn_ad g4.a nds) nds (by omega)
    have hOs : OSin CS.C ⟨msn :: mc :: M.ms, M.tb⟩ H3 y msn := ⟨dy, n, hy3, rfl, rfl, List.mem_cons_self ..⟩
    have hOc3 := hOc.gr gr23
    refine ⟨Nat.zero_le _, fun e ne => ?_⟩
    have g5 : Go ⟨msn :: mc :: M.ms, M.tb⟩ H3 (upd H3 e (.lst [])) := (Go.refl gr3.b).new ne
    let M3 : Mw := ⟨msn :: mc :: M.ms, M.tb⟩
    have hOc5 : OCop K CK.C CD.C CC.C tc tb M3 (upd H3 e (.lst [])) x mc := hOc3.gr (Gr.of g5)
    have hOs5 : OSin CS.C M3 (upd H3 e (.lst [])) y msn := hOs.gr (Gr.of g5)
    have he5 : (upd H3 e (.lst [])) e = some (.lst []) := upd_same
    have gr5 : Gr M M3 H (upd H3 e (.lst [])) := gr3.go g5
    generalize upd H3 e (.lst []) = H5 at g5 hOc5 hOs5 he5 gr5
    have eq1 : ∀ B : Bst.S, (∀ x, B x = true → x < 2 * n) → (fr mc B = true ↔ Bst.ICop n I1 I2 (Bst.mem ms) B) := fun B hB => by
      unfold fr
      rw [decide_eq_true_iff]
      exact cop_fr hr1 hr2 hB
    have eq2 : ∀ B : Bst.S, (∀ x, B x = true → x < 2 * n) → (fr msn B = true ↔ Bst.IPair n B) := fun B hB => by
      unfold fr
      rw [decide_eq_true_iff]
      exact pair_fr hB
    have hMm : ∀ x, Bst.mem ms x = true → x < n := fun x h => hlt x (Bst.mem_true.mp h)
    refine ⟨M3, x, y, e, mc, msn, 2 * n, Bst.ICop n I1 I2 (Bst.mem ms), Bst.IPair n, rfl, ⟨g5.b, hOc5, hOs5, rfl, rfl, by omega⟩, htl, htr, he5, Bst.copies_mat hr1.mat hr2.mat, Bst.pair_mat, eq1, eq2, fun H6 t u v c r ch g6 ht hch hmv hr => ?_⟩
    refine ⟨t, _, rfl, SqT.of ht, rfl, _, _, rfl, _, _, rfl, _, _, rfl, _, _, rfl, rfl, ?_⟩
    obtain ⟨hc, cnd, clt⟩ := hch
    have clen := nodup_lt_len cnd clt
    have gr6 := gr5.go g6
    have ha6 := gr6.kp _ _ ha rfl
    -- first
    refine ⟨.ref c, rfl, c, rfl, ⟨_, SqL.of hc⟩, fun D nD => lcL (M := M3) (SqL.of hc) g6.b nD (fun e => if decide (e < n) = true then some (.int (e : Nat)) else none) (by omega) (fun i e H7 he g7 B C kB kC => ?_) (fun H7 g7 hD => ?_)⟩
    · refine ⟨rfl, .int (e : Nat), rfl, .int (n : Nat), rfl, _, _, rfl, rfl, _, rfl, ?_⟩
      by_cases h : e < n
      · rw [decide_eq_true (by omega : (e : Int) < (n : Int))]
        exact iteT ⟨_, rfl, kB _ _ (.refl g7.b) (by simp [h])⟩
      · rw [decide_eq_false (by omega : ¬ (e : Int) < (n : Int))]
        exact iteF (kC _ (.refl g7.b) (by simp [h]))
    rw [fm_filter] at hD
    have hc7 := g7.at hc
    -- second
    refine ⟨.ref c, rfl, c, rfl, ⟨_, SqL.of hc7⟩, fun D2 nD2 => lcL (M := M3) (SqL.of hc7) g7.b nD2 (fun e => if decide (n ≤ e) = true then some (.int ((e - n : Nat) : Nat)) else none) (by omega) (fun i e H8 he g8 B C kB kC => ?_) (fun H8 g8 hD2 => ?_)⟩
    · refine ⟨rfl, .int (e : Nat), rfl, .int (n : Nat), rfl, _, _, rfl, rfl, _, rfl, ?_⟩
      by_cases h : n ≤ e
      · rw [decide_eq_true (by omega : (n : Int) ≤ (e : Int))]
        have esub : ((e : Int) - (n : Int)) = ((e - n : Nat) : Int) := by omega
        exact iteT ⟨.int (e : Nat), rfl, .int (n : Nat), rfl, _, _, rfl, rfl, kB _ _ (.refl g8.b) (by dsimp only; rw [esub]; simp [h])⟩
      · rw [decide_eq_false (by omega : ¬ (n : Int) ≤ (e : Int))]
        exact iteF (kC _ (.refl g8.b) (by simp [h]))
    rw [fm_both] at hD2
    have hD' := g8.at hD
    have gr8 := gr6.go (g7.trans g8)
    have ha8 := gr8.kp _ _ ha rfl
    have hr8 := (g7.trans g8).at hr
    -- tight
    refine ⟨.ref a, rfl, a, ms.map Int.ofNat, rfl, int_n ▸ SqL.of ha8, fun ns' b perm rising nb => ?_⟩
    rw [sort_set hnd hlt perm rising]
    have g9 : Go M3 H8 (upd H8 b (.lst (nV (Bst.lst n (Bst.mem ms))))) := (Go.refl g8.b).new nb
    have hb9 : (upd H8 b (.lst (nV (Bst.lst n (Bst.mem ms))))) b = some (.lst (nV (Bst.lst n (Bst.mem ms)))) := upd_same
    generalize upd H8 b (.lst (nV (Bst.lst n (Bst.mem ms)))) = H9 at g9 hb9
    have hr9 := g9.at hr8
    let R : Bst.S := Bst.reach (2 * n) (fr mc) (fr msn) (Bst.mem ch)
    have hR : ∀ e, e ∈ Bst.lst (2 * n) R ↔ R e = true := fun e => by
      rw [Bst.mem_lst]
      refine ⟨fun h => h.2, fun h => ⟨?_, h⟩⟩
      obtain ⟨i, L, h1, h2⟩ := Bst.reach_true.mp h
      exact (Bst.lays_low h1 h2).1
    have lsl : (Bst.lst n (Bst.mem ms)).length ≤ n := by rw [Bst.length_lst]; exact Bst.cnt_le _ _
    refine ⟨b, rfl, ⟨_, SqL.of hb9⟩, fun D3 nD3 => lcL (M := M3) (SqL.of hb9) g9.b nD3 (fun e => if (!R e && !R (e + n)) = true then some (.int (e : Nat)) else none) (by omega) (fun i e H10 he g10 B C kB kC => ?_) (fun H10 g10 hD3 => ?_)⟩
    · have hr10 := g10.at hr9
      refine ⟨rfl, .int (e : Nat), rfl, .ref r, rfl, r, _, rfl, .inl (SqL.of hr10), rfl, flat_nV _, _, rfl, ?_⟩
      rw [inV_n, show decide (e ∈ Bst.lst (2 * n) R) = R e by rw [Bool.eq_iff_iff, decide_eq_true_iff]; exact hR e]
      cases h1 : R e with
      | true => exact iteF (iteF (kC _ (.refl g10.b) (by simp [h1])))
      | false =>
        refine iteT ⟨.int (e : Nat), rfl, .int (n : Nat), rfl, _, _, rfl, rfl, .ref r, rfl, r, _, rfl, .inl (SqL.of hr10), rfl, flat_nV _, _, rfl, ?_⟩
        have eadd : ((e : Int) + (n : Int)) = ((e + n : Nat) : Int) := by omega
        dsimp only
        rw [eadd, inV_n, show decide (e + n ∈ Bst.lst (2 * n) R) = R (e + n) by rw [Bool.eq_iff_iff, decide_eq_true_iff]; exact hR (e + n)]
        cases h2 : R (e + n) with
        | true => exact iteF (kC _ (.refl g10.b) (by simp [h2]))
        | false => exact iteT ⟨_, rfl, kB _ _ (.refl g10.b) (by simp [h1, h2])⟩
    rw [fm_filter] at hD3
    have gr10 := gr8.go (g9.trans g10)
    have hF := (g9.trans g10).at hD'
    have hS := (g9.trans g10).at hD2
    refine ⟨.ref D, rfl, .ref D2, rfl, .ref D3, rfl, by show 3 ≤ sizeLine; decide, fun tt nt => ?_⟩
    have g11 : Go M3 H10 (upd H10 tt (.tup [.ref D, .ref D2, .ref D3])) := (Go.refl g10.b).new nt
    refine q M3 _ tt D D2 D3 _ _ _ (gr10.go g11) upd_same (g11.at hF) (g11.at hS) (g11.at hD3) ?_
    exact div_ok hnd hlt hr1.mat hr2.mat eq1 eq2 cnd clt hmv rfl
end
end Bw

set_option Elab.async false
set_option linter.all false
set_option maxRecDepth 100000
set_option maxHeartbeats 2000000
namespace Bw
open PySem PySem.Spec PyProof.Rows L2
/-! ### the lines' matroids -/
def lnI : Ln → Bst.S → Prop
  | .graph _ es => Bst.ICl Bst.gAdd Bst.gIn (gEdge es) id es.length
  | .choices _ rows => Bst.IMat (rowOf rows) rows.length
  | .bounds n bs => Bst.IBnd n bs
  | .uniform n r => Bst.IUni n r
  | .vectors cs => Bst.ICl Bst.vStep Bst.vIn (vCode cs) 1 cs.length
theorem edge_lt {nv : Nat} {es : List (Nat × Nat)} (h : ∀ e ∈ es, e.1 < nv ∧ e.2 < nv) : ∀ e, e < es.length → (gEdge es e).1 < nv ∧ (gEdge es e).2 < nv := fun e he => by
  unfold gEdge
  rw [List.getD_eq_getElem?_getD, List.getElem?_eq_getElem he]
  exact h _ (List.getElem_mem _)
theorem code_lt {cs : List Nat} (h : ∀ c ∈ cs, c < 8) : ∀ e, e < cs.length → vCode cs e < 8 := fun e he => by
  unfold vCode
  rw [List.getD_eq_getElem?_getD, List.getElem?_eq_getElem he]
  exact h _ (List.getElem_mem _)
theorem row_lt {rows : List (List Nat)} (h : ∀ r ∈ rows, ∀ t ∈ r, t < 4) : ∀ e t, t ∈ rowOf rows e → t < 4 := fun e t ht => by
  unfold rowOf at ht
  rw [List.getD_eq_getElem?_getD] at ht
  cases q : rows[e]? with
  | none => rw [q] at ht; cases ht
  | some r => rw [q] at ht; exact h r (List.mem_of_getElem? q) t ht
theorem ln_mat {ln : Ln} (h : LnOk ln) : Bst.Mat (lnSize ln) (lnI ln) := by
  cases ln with
  | graph nv es => exact Bst.clo_mat (Bst.gLe_refl nv) (Bst.g_clo nv) trivial (edge_lt h.1)
  | choices m rows => exact Bst.mat_mat (row_lt h)
  | bounds n bs => obtain ⟨_, U, h1, h2⟩ := h; exact Bst.bnd_mat h1 h2
  | uniform n r => exact Bst.uni_mat n r
  | vectors cs => exact Bst.clo_mat Bst.v_refl Bst.v_clo (by decide) (code_lt h)
theorem lst_len {n : Nat} {A : Bst.S} : (Bst.lst n A).length = Bst.cnt n A := Bst.length_lst ..
theorem ln_rk {ln : Ln} (h : LnOk ln) : RkOf (lnSize ln) (lnI ln) (kRk (lnSize ln) ln) := by
  refine ⟨ln_mat h, fun A hA => ?_, fun A hA => ?_⟩
  · refine Int.ofNat_le.mpr ?_
    rw [← lst_len]
    cases ln with
    | graph nv es => exact Bst.rkL_le _ _
    | choices m rows => exact Bst.kuhn_le _ _ _
    | bounds n bs =>
      have := Bst.greedy_len (gs := bs) (Bst.lst n A) []
      rw [List.length_nil, Nat.zero_add] at this
      exact this
    | uniform n r => exact Nat.min_le_left _ _
    | vectors cs => exact Bst.rkL_le _ _
  · have hm : Bst.mem (Bst.lst (lnSize ln) A) = A := Bst.mem_of_lst hA
    have hx : ∀ e ∈ Bst.lst (lnSize ln) A, e < lnSize ln := fun e he => (Bst.mem_lst.mp he).1
    have cast : (kRk (lnSize ln) ln A = (Bst.cnt (lnSize ln) A : Nat)) ↔ lnRk ln (Bst.lst (lnSize ln) A) = Bst.cnt (lnSize ln) A := Int.ofNat_inj
    rw [cast]
    cases ln with
    | graph nv es => exact ⟨fun z => ⟨hA, z⟩, fun z => z.2⟩
    | choices m rows =>
      have := Bst.kuhn_ok (n := rows.length) (row_lt h) (Bst.lst_nodup _ A) hx
      rw [lst_len] at this
      exact this.trans (by show Bst.IMat _ _ (Bst.mem (Bst.lst (lnSize (.choices m rows)) A)) ↔ _; rw [hm]; exact Iff.rfl)
    | bounds n bs =>
      have := Bst.greedy_ok (n := n) (gs := bs) (Bst.lst_sorted n A) hx
      rw [lst_len] at this
      exact this.trans (by show Bst.IBnd _ _ (Bst.mem (Bst.lst (lnSize (.bounds n bs)) A)) ↔ _; rw [hm]; exact Iff.rfl)
    | uniform n r =>
      show min (Bst.lst n A).length r = Bst.cnt n A ↔ _
      rw [lst_len]
      exact ⟨fun z => ⟨hA, by omega⟩, fun z => Nat.min_eq_left z.2⟩
    | vectors cs => exact ⟨fun z => ⟨hA, z⟩, fun z => z.2⟩
/-- the lines whose rank is told of every set -/
def LnFull : Ln → Prop
  | .uniform _ _ => True
  | .vectors _ => True
  | _ => False
theorem ln_rank {ln : Ln} (h : LnOk ln) (f : LnFull ln) (A : Bst.S) (hA : ∀ x, A x = true → x < lnSize ln) : Bst.IsRank (lnSize ln) (lnI ln) A (lnRk ln (Bst.lst (lnSize ln) A)) := by
  cases ln with
  | graph nv es => exact f.elim
  | choices m rows => exact f.elim
  | bounds n bs => exact f.elim
  | uniform n r =>
    show Bst.IsRank _ _ _ (min (Bst.lst n A).length r)
    rw [lst_len]
    exact Bst.uni_rank hA
  | vectors cs => exact Bst.clo_rank Bst.v_refl Bst.v_clo (by decide) (code_lt h) A hA
def allS (n : Nat) : Bst.S := fun e => decide (e < n)
theorem allS_lt {n : Nat} : ∀ x, allS n x = true → x < n := fun x h => by simpa [allS] using h
def Mat.I (m : Mat) : Bst.S → Prop := if m.du = true then Bst.IDual (lnSize m.ln) (lnI m.ln) (lnRk m.ln (Bst.lst (lnSize m.ln) (allS (lnSize m.ln)))) else lnI m.ln
structure MatOk (m : Mat) : Prop where
  ok : LnOk m.ln
  le : lnSize m.ln ≤ 6
  du : m.du = true → LnFull m.ln
theorem mat_rk {m : Mat} (h : MatOk m) : RkOf (lnSize m.ln) m.I m.rk := by
  unfold Mat.I Mat.rk
  by_cases hd : m.du = true
  · rw [if_pos hd, if_pos hd]
    have hf := h.du hd
    have rAll := ln_rank h.ok hf (allS (lnSize m.ln)) allS_lt
    have hM := ln_mat h.ok
    have hc : ∀ A : Bst.S, Bst.IsRank (lnSize m.ln) (lnI m.ln) (fun e => decide (e < lnSize m.ln) && !A e) (lnRk m.ln (Bst.lst (lnSize m.ln) (fun e => decide (e < lnSize m.ln) && !A e))) := fun A =>
      ln_rank h.ok hf _ fun x q => by simpa using (Bool.and_eq_true_iff.mp q).1
    refine ⟨Bst.dual_mat hM rAll, fun A hA => ?_, fun A hA => ?_⟩
    · unfold dRk kRk
      have := rAll.2 _ (hc A).1.choose_spec.1 fun x q => by
        have := (hc A).1.choose_spec.2.1 x q
        exact (Bool.and_eq_true_iff.mp this).1
      rw [(hc A).1.choose_spec.2.2] at this
      have e : Bst.lst (lnSize m.ln) (fun e => decide (e < lnSize m.ln)) = Bst.lst (lnSize m.ln) (allS (lnSize m.ln)) := rfl
      rw [e]
      omega
    · rw [Bst.dual_iff hM hA (hc A) rAll]
      unfold dRk kRk
      have e : Bst.lst (lnSize m.ln) (fun e => decide (e < lnSize m.ln)) = Bst.lst (lnSize m.ln) (allS (lnSize m.ln)) := rfl
      rw [e]
      omega
  · rw [if_neg hd, if_neg hd]
    exact ln_rk h.ok
section
variable {P : Program} {w : World} {K : PySem.W.Frag} {mg : Str → Option Value} {base : Heap}
def spDivided (K : PySem.W.Frag) (tc tb tl tr : Addr) : Sp := fun vs H Q _ => ∃ (M : Mw) (a b c : Addr) (mt mt2 : Mat) (ms : List Nat), vs = [.ref a, .ref b, .ref c] ∧ Mok M H ∧ tc ∈ M.tb ∧ tb ∈ M.tb ∧ tl ∈ M.tb ∧ tr ∈ M.tb ∧ MatAt K H a mt ∧ MatAt K H b mt2 ∧ MatOk mt ∧ MatOk mt2 ∧
  lnSize mt2.ln = lnSize mt.ln ∧ H c = some (.lst (nV ms)) ∧ ms.Nodup ∧ (∀ e ∈ ms, e < lnSize mt.ln) ∧
  ∀ (M' : Mw) (H' : Hp) (t u1 u2 u3 : Addr) (l1 l2 l3 : List Nat), Gr M M' H H' → H' t = some (.tup [.ref u1, .ref u2, .ref u3]) → H' u1 = some (.lst (nV l1)) → H' u2 = some (.lst (nV l2)) → H' u3 = some (.lst (nV l3)) → DivOk (lnSize mt.ln) mt.I mt2.I ms l1 l2 l3 → Q (.ref t) H'
theorem ok_divided {kd : Nat} {f tc tb tl tr : Addr} {fd : FuncData} (T : Bn mg) (CK CD : Cls2 K) (F : Fun K "divided" "divided" s_divided f fd) (D_both : Def K mg "both" s_both) (D_divided_in : Def K mg "divided_in" s_divided_in)
    (G_both : FnOk P w K mg base CX0 7 D_both.f D_both.fd ["first", "second"] (spBoth K CK.C CD.C tc tb)) (G_divided_in : FnOk P w K mg base CX0 (kd + 7) D_divided_in.f D_divided_in.fd ["one", "two", "members"] (spDiv K CK.C CD.C tc tb tl tr)) :
    FnOk P w K mg base CX0 (kd + 8) f fd ["first", "second", "members"] (spDivided K tc tb tl tr) := by
  refine F.ok sc_divided (fun vs H Q E h => ?_) (fun cdv A outer s H vs Q E hr h => ?_)
  · obtain ⟨M, a, b, c, mt, mt2, ms, rfl, _⟩ := h
    rfl
  · obtain ⟨M, a, b, c, mt, mt2, ms, rfl, mk, htc, htb, htl, htr, hA, hB, k1, k2, hn, hc, hnd, hlt, q⟩ := h
    -- 0 first, 1 second, 2 members, 3 one, 4 two
    refine ⟨_, (pss_cons (ps_asg (pe_call G_both (hr.mono (by first | decide | omega)) (by rfl) D_both.g D_both.F.kp (bd_both D_both.F) .nil pass0 (pa_cons (pv 0) (pa_cons (pv 1) pa_nil))) (pg_tupK (K := K) (n := 2) rfl rfl (pgs_cons (pg_name (i := 3) sc_divided.nd rfl (.inl rfl)) (pgs_cons (pg_name (i := 4) sc_divided.nd rfl (.inl rfl)) pgs_nil))))
      (pss_one (ps_ret (pe_call G_divided_in (hr.mono (by first | decide | omega)) (by rfl) D_divided_in.g D_divided_in.F.kp (bd_divided_in D_divided_in.F) .nil pass0 (pa_cons (pv 3) (pa_cons (pv 4) (pa_cons (pv 2) pa_nil))))))), ?_⟩
    refine ⟨.ref a, rfl, .ref b, rfl, M, a, b, mt, mt2, rfl, mk, htc, htb, hA, k1.ok, Nat.le_trans k1.le (by decide), hB, k2.ok, hn, fun M1 H1 t p p2 m m2 g ht hO hO2 e1 e2 e3 e4 => ?_⟩
    refine ⟨t, _, rfl, SqT.of ht, rfl, _, _, rfl, _, _, rfl, rfl, ?_⟩
    have r1 := mat_rk k1
    have r2 := mat_rk k2
    rw [hn] at r2
    rw [← e2] at r1
    rw [← e4] at r2
    exact ⟨.ref p, rfl, .ref p2, rfl, .ref c, rfl, M1, p, p2, c, m, m2, lnSize mt.ln, ms, mt.I, mt2.I, rfl, g.b, by rw [g.tb]; exact htl, by rw [g.tb]; exact htr, hO, hO2, e1, e3, k1.le, r1, r2, g.kp _ _ hc rfl, hnd, hlt, fun M2 H2 t u1 u2 u3 l1 l2 l3 g2 h1 h2 h3 h4 h5 => q M2 H2 t u1 u2 u3 l1 l2 l3 (g.trans g2) h1 h2 h3 h4 h5⟩
end
end Bw

set_option Elab.async false
set_option linter.all false
set_option maxRecDepth 100000
set_option maxHeartbeats 2000000
/-! list(reversed(a list)). -/
namespace Gx
open PySem PySem.Spec PyProof.Rows RT
section
variable {prog : Program} {w : World} {A : Around} {E : Value → Shared → Prop} {s : Shared}
theorem extend_rev {R : Result → Shared → Prop} {it l S : Addr} {items : Array Value} (hh : A.handled = none) (hit : s.heap.IsRevIter it l ((items.size : Int) - 1)) (hl : s.heap.IsList l items) (hne : l ≠ it) (hn : items.size ≤ sizeLine)
    (hSi : S ≠ it) (hSl : S ≠ l) (res : Value) (c₀ : Nat) (hS : s.heap.get? S = some { cls := .type "list", data := .seq #[] c₀ })
    (hR : ∀ (h' : Heap) (tk : Nat) (acc : Array Value) (c' : Nat), (∀ b o, b ≠ S → b ≠ it → s.heap.get? b = some o → h'.get? b = some o) → h'.get? S = some { cls := .type "list", dict := none, data := .seq acc c', slots := #[] } →
      ItemsOf (fun i v => items[items.size - 1 - i]? = some v) acc items.size → R (.ok (.ret res)) { s with heap := h', toks := tk }) :
    wpAny (model prog w) A.in1 (Builtin.List.listExtendWith (.ref S) (.ref it) res)
      (fun fin s' => match fin with | .done f => R (.ok f) s' | .again c' => c'.quiet = true ∧ codeAny (model prog w) A c' R s') (fun e s' => R (.error e) s') s := by
  have W := (Walks.listRev (prog := prog) (w := w) (A := A.in1) hh it l hne items).toS
  have hSf : S ∉ [it, l] := by simp only [List.mem_cons, List.not_mem_nil, or_false, not_or]; exact ⟨hSi, hSl⟩
  have hT : s.TypeIs (.ref it) "list_reverseiterator" := hit.typeIs
  have h1 : Builtin.List.listSameRef (.ref S) (.ref it) = false := by simp [Builtin.List.listSameRef, hSi]
  unfold Builtin.List.listExtendWith
  refine wpAny_bind (wpAny_typeOf hT ?_)
  rw [if_neg (by rw [h1]; decide)]
  refine wpAny_bind (wpAny_pyIter_revIter hit ?_)
  refine wpAny_bind (wpAny_holding ?_)
  unfold Builtin.List.listLengthHint
  refine wpAny_bind (wpAny_specialOf hT nolen_lri ?_)
  show wpAny _ A.in1 (specialOf (Value.ref it) (Str.ofString "__length_hint__") >>= _) _ _ _
  refine wpAny_bind (wpAny_specialOf hT hint_lri ?_)
  generalize hid : ("list_reverseiterator.__length_hint__" : String) = id0
  wp_delta
  rw [show splitId id0 = some ("list_reverseiterator", "__length_hint__") from by subst hid; decide +kernel]
  subst hid
  refine wpAny_bind (wpAny_isInstance (b := true) hT (by rw [isSubtype_type]; kernel_rfl) ?_)
  refine wpAny_pure ?_
  rw [if_neg (by decide)]
  have e0 : ((items.size : Nat) : Int) - 1 - ((0 : Nat) : Int) = (items.size : Int) - 1 := by omega
  refine wpAny_pure ⟨plainId_quiet F.plain_extend_loop _, codeAny_extend_loopS W hn _ hSf _ items.size 0 _ _ _ rfl (Nat.zero_le _) ⟨Nat.zero_le _, by rw [e0]; exact hit, hl⟩ hS (ItemsOf.nil _) fun s' acc' c' hm hS' hacc => ?_⟩
  rw [Moved.eq_with hm]
  refine hR s'.heap s'.toks acc' c' (fun b o hb hb2 e => hm.heap b o (fun hmem => ?_) e) hS' hacc
  rcases List.mem_cons.mp hmem with e' | hmem
  · exact hb e'
  · exact hb2 (List.mem_singleton.mp hmem)
theorem list_init_rev {R : Result → Shared → Prop} {it l S : Addr} {items : Array Value} (hh : A.handled = none) (hit : s.heap.IsRevIter it l ((items.size : Int) - 1)) (hl : s.heap.IsList l items) (hne : l ≠ it) (hn : items.size ≤ sizeLine)
    (hSi : S ≠ it) (hSl : S ≠ l) (hS : s.heap.get? S = some { cls := .type "list", data := .seq #[] })
    (hR : ∀ (h' : Heap) (tk : Nat) (acc : Array Value) (c' : Nat), (∀ b o, b ≠ S → b ≠ it → s.heap.get? b = some o → h'.get? b = some o) → h'.get? S = some { cls := .type "list", dict := none, data := .seq acc c', slots := #[] } →
      ItemsOf (fun i v => items[items.size - 1 - i]? = some v) acc items.size → R (.ok (.ret .none)) { s with heap := h', toks := tk }) :
    wpAny (model prog w) A.in1 (Builtin.«list.__init__» ⟨[.ref S, .ref it], []⟩)
      (fun fin s' => match fin with | .done f => R (.ok f) s' | .again c' => c'.quiet = true ∧ codeAny (model prog w) A c' R s') (fun e s' => R (.error e) s') s := by
  show wpAny _ _ (do let old ← Builtin.List.listItems (.ref S); Builtin.List.listUpdate (.ref S) (fun _ => #[]); letGo old.toList.reverse; Builtin.List.listExtendWith (.ref S) (.ref it) .none) _ _ s
  refine wpAny_bind ?_
  unfold Builtin.List.listItems
  refine wpAny_bind (wpAny_seqItems hS rfl (wpAny_pure ?_))
  show wpAny _ _ (updateSeq S (fun _ => #[]) >>= fun _ => letGo (#[] : Array Value).toList.reverse >>= fun _ => Builtin.List.listExtendWith (.ref S) (.ref it) .none) _ _ s
  refine wpAny_bind (wpAny_updateSeq hS rfl ?_)
  have hS₂ := Heap.get?_update_self (Obj.mapSeq (fun _ => (#[] : Array Value))) hS rfl
  have oth : ∀ b o, b ≠ S → s.heap.get? b = some o → (s.heap.update S (Obj.mapSeq (fun _ => (#[] : Array Value)))).get? b = some o :=
    fun b o hb e => (Heap.get?_update_other _ _ (Ne.symm hb)).trans e
  refine wpAny_bind (wpAny_letGo ?_)
  refine extend_rev (s := { s with heap := s.heap.update S (Obj.mapSeq (fun _ => (#[] : Array Value))) }) hh (hit.at fun o e => oth it o (Ne.symm hSi) e) (let ⟨o, ho, r⟩ := hl; ⟨o, oth l o (Ne.symm hSl) ho, r⟩) hne hn hSi hSl .none _ hS₂ fun h' tk acc' c' hk hS' hacc => ?_
  exact hR h' tk acc' c' (fun b o hb hb2 e => hk b o hb hb2 (oth b o hb e)) hS' hacc
theorem call_list_rev {it l : Addr} {items : Array Value} {Q : Value → Shared → Prop} (hh : A.handled = none) (hit : s.heap.IsRevIter it l ((items.size : Int) - 1)) (hl : s.heap.IsList l items) (hne : l ≠ it) (hn : items.size ≤ sizeLine)
    (hQ : ∀ (h' : Heap) (tk : Nat) (acc : Array Value) (c' : Nat), (∀ b o, b ≠ it → s.heap.get? b = some o → h'.get? b = some o) → h'.get? s.heap.objs.size = some { cls := .type "list", dict := none, data := .seq acc c', slots := #[] } →
      ItemsOf (fun i v => items[items.size - 1 - i]? = some v) acc items.size → Q (.ref s.heap.objs.size) { s with heap := h', toks := tk }) :
    wpAny (model prog w) A (call (.type "list") [.ref it]) Q E s := by
  refine callType_codes (Q₁ := fun obj s₁ => obj = .ref s.heap.objs.size ∧ s₁ = { s with heap := s.heap.push { cls := .type "list", data := .seq #[] } }) F.called_list (F.typeCall_list_1 _) F.entry_list_init
    (code_list_new _ ⟨rfl, rfl⟩) fun obj s₁ h₁ => ?_
  obtain ⟨rfl, rfl⟩ := h₁
  obtain ⟨oi, hoi, _⟩ := id hit
  obtain ⟨ol, hol, _⟩ := id hl
  have hS : (s.heap.push { cls := .type "list", data := .seq #[] }).get? s.heap.objs.size = some { cls := .type "list", data := .seq #[] } := Heap.get?_push_size _ rfl
  refine ⟨⟨_, hS, rfl⟩, F.args_list_init_2 _ _, list_init_rev (A := A.in1) (s := { s with heap := s.heap.push { cls := .type "list", data := .seq #[] } }) hh (hit.at fun o e => Heap.get?_push_of_some _ e) (hl.push _) hne hn (Nat.ne_of_gt (Heap.lt_size hoi)) (Nat.ne_of_gt (Heap.lt_size hol)) hS fun h' tk acc' c' hk hS' hacc => ?_⟩
  exact ⟨rfl, hQ h' tk acc' c' (fun b o hb e => hk b o (Nat.ne_of_lt (Heap.lt_size e)) hb (Heap.get?_push_of_some _ e)) hS' hacc⟩
end
end Gx
namespace Gx
open PySem PySem.Spec PyProof.Rows L2
/-- list(reversed(x)), x a list: a new list -/
def tListRev (K : PySem.W.Frag) (te : TE) : TE := fun σ H Q => te σ H fun v H1 => ∃ (a : Addr) (xs : List V), v = .ref a ∧ SqL K H1 a xs ∧ ∀ q, H1 q = none → Q (.ref q) (upd H1 q (.lst xs.reverse))
theorem pe_listRev {X : Cx} {e : Expr} {te : TE} {p p2 pos pos2 : Pos} (hc : X.calm = true) (hg : Gl X "list") (hm : X.mg "list" = none) (hg2 : Gl X "reversed") (hm2 : X.mg "reversed" = none) (he : PE X e te)
    (hs : starEach [e] X.env = (false, eval e X.env) :: starEach [] X.env := by rfl)
    (hs2 : starEach [.Call (.Name "reversed" p2) [e] [] pos2] X.env = (false, eval (.Call (.Name "reversed" p2) [e] [] pos2) X.env) :: starEach [] X.env := by rfl) :
    PE X (.Call (.Name "list" p) [.Call (.Name "reversed" p2) [e] [] pos2] [] pos) (tListRev X.K te) := by
  refine ⟨fun pins s σ H Q I h => ?_⟩
  refine Call_ (ld_blt I hg hm boot_list (PyProof.Rows.callWith_type1 (args_cons (Call_ (ld_blt I hg2 hm2 PyProof.Rows.boot_reversed (PyProof.Rows.callWith_type1 (args_cons (thn (he.run pins s σ H _ I h) fun u s1 ⟨v, H1, I1, r1, q1⟩ => args_nil ?_) hs) hs rfl))) hs2) hs2 rfl))
  obtain ⟨a, xs, ev, hq, q⟩ := q1
  subst ev
  obtain rfl : u = Value.ref a := r1
  obtain ⟨its, rv, p', hz⟩ := I1.list hq
  refine call_reversed_list p'.isList (args_nil ?_)
  have k0 : ∀ b o, s1.heap.get? b = some o → (s1.heap.push (revObj a ((its.toArray.size : Int) - 1))).get? b = some o := fun b o e => Heap.get?_push_of_some _ e
  have I2 : Inv X pins σ H1 { s1 with heap := s1.heap.push (revObj a ((its.toArray.size : Int) - 1)) } := I1.kept (t' := s1.toks) k0
  obtain ⟨f0, f1, f2, f3, f4, f5⟩ := I1.fpOk (H' := H1) (b := s1.heap.objs.size) (Nat.le_refl _) (I1.hok.fresh (Nat.le_refl _))
  have hl := p'.isList
  obtain ⟨ol, hol, _⟩ := id hl
  have hne : a ≠ s1.heap.objs.size := Nat.ne_of_lt (Heap.lt_size hol)
  have hn : its.toArray.size ≤ sizeLine := by rw [List.size_toArray, ← rv.length]; exact hz
  refine call_list_rev (s := { s1 with heap := s1.heap.push (revObj a ((its.toArray.size : Int) - 1)) }) (I1.ok.hd hc) ⟨_, Heap.get?_push_size _ rfl, rfl, rfl⟩ (hl.push _) hne hn fun h' tk acc c' hk hS' hi => ?_
  have hsz : s1.heap.objs.size ≤ (s1.heap.push (revObj a ((its.toArray.size : Int) - 1))).objs.size := by
    have : (s1.heap.push (revObj a ((its.toArray.size : Int) - 1))).get? s1.heap.objs.size = some _ := Heap.get?_push_size _ rfl
    exact Nat.le_of_lt (Heap.lt_size this)
  have k1 : ∀ b o, s1.heap.get? b = some o → h'.get? b = some o := fun b o e => hk b o (Nat.ne_of_lt (Heap.lt_size e)) (Heap.get?_push_of_some _ e)
  refine ⟨.ref _, upd H1 _ (.lst xs.reverse), I1.laid (t' := tk) k1 hsz (show ObjOk X.prog X.w _ h' _ (.lst xs.reverse) from ⟨by rw [List.length_reverse]; exact hz, acc.toList, c', RT.vals_rev rv hi, ?_⟩), rfl, q _ (I1.hok.fresh hsz)⟩
  rw [Array.toArray_toList]
  exact hS'
theorem pe_listRevK {X : Cx} {K : PySem.W.Frag} {e : Expr} {te : TE} {p p2 pos pos2 : Pos} (hc : X.calm = true) (hg : Gl X "list") (hm : X.mg "list" = none) (hg2 : Gl X "reversed") (hm2 : X.mg "reversed" = none) (he : PE X e te) (hK : X.K = K := by rfl)
    (hs : starEach [e] X.env = (false, eval e X.env) :: starEach [] X.env := by rfl)
    (hs2 : starEach [.Call (.Name "reversed" p2) [e] [] pos2] X.env = (false, eval (.Call (.Name "reversed" p2) [e] [] pos2) X.env) :: starEach [] X.env := by rfl) :
    PE X (.Call (.Name "list" p) [.Call (.Name "reversed" p2) [e] [] pos2] [] pos) (tListRev K te) := hK ▸ pe_listRev hc hg hm hg2 hm2 he hs hs2
end Gx

set_option Elab.async false
set_option linter.all false
set_option maxRecDepth 100000
set_option maxHeartbeats 2000000
namespace Bw
open PySem PySem.Spec PyProof.Rows L2
/-! ### the law's state, a list of four: it changes with each draw, all else stays -/
structure SS where
  S : Addr
  scr : Addr
  ns : List Int
def StAt (H : Hp) (Z : SS) : Prop := ∃ (c p d : Int), H Z.S = some (.lst [.int c, .int p, .ref Z.scr, .int d]) ∧ 0 ≤ p ∧ Z.scr ≠ Z.S ∧ H Z.scr = some (.lst (Z.ns.map V.int))
structure Sg (M : Mw) (Z : SS) (H H' : Hp) : Prop where
  a : Mok M H
  b : Mok M H'
  sa : StAt H Z
  sb : StAt H' Z
  keep : ∀ x o, H x = some o → x ∉ M.ad → x ≠ Z.S → H' x = some o
section
variable {K : PySem.W.Frag} {M : Mw} {Z : SS} {H H1 H' : Hp} {x p : Addr} {o u : HO} {xs : List V}
theorem Sg.refl (m : Mok M H) (s : StAt H Z) : Sg M Z H H := ⟨m, m, s, s, fun _ _ h _ _ => h⟩
theorem Sg.trans (a : Sg M Z H H1) (b : Sg M Z H1 H') : Sg M Z H H' := ⟨a.a, b.b, a.sa, b.sb, fun x o h n n2 => b.keep x o (a.keep x o h n n2) n n2⟩
theorem Sg.at (g : Sg M Z H H') (h : H x = some o) (ne : x ≠ Z.S) (k : kept o = true := by rfl) : H' x = some o := g.keep x o h (fun hx => by
  obtain ⟨o', e, k'⟩ := g.a.ad hx
  rw [h] at e
  cases e
  rw [k] at k'
  cases k') ne
theorem StAt.lst (s : StAt H Z) : ∃ ys, H Z.S = some (.lst ys) := by
  obtain ⟨c, p, d, h, _⟩ := s
  exact ⟨_, h⟩
theorem StAt.ne (s : StAt H Z) (h : H x = some o) (n : ∀ ys, o ≠ .lst ys) : x ≠ Z.S := fun e => by
  obtain ⟨ys, hy⟩ := s.lst
  rw [e, hy] at h
  exact n ys (Option.some.inj h).symm
theorem StAt.nen (s : StAt H Z) (h : H x = none) : x ≠ Z.S := fun e => by
  obtain ⟨ys, hy⟩ := s.lst
  rw [e, hy] at h
  cases h
theorem Sg.t (g : Sg M Z H H') (h : SqT K H x xs) : SqT K H' x xs := by
  rcases h with (h | ⟨o, h⟩) | h
  · exact .inl (.inl (g.at h (g.sa.ne h fun ys z => by cases z)))
  · exact .inl (.inr ⟨o, g.at h (g.sa.ne h fun ys z => by cases z) rfl⟩)
  · exact .inr h
theorem Sg.tk (g : Sg M Z H H') : Tk K H H' := fun x xs h => g.t h
theorem Sg.l (g : Sg M Z H H') (h : SqL K H x xs) (ne : x ≠ Z.S) : SqL K H' x xs := by
  rcases h with (h | ⟨o, h⟩) | h
  · exact .inl (.inl (g.at h ne))
  · exact .inl (.inr ⟨o, g.at h ne rfl⟩)
  · exact .inr h
theorem Sg.back (g : Sg M Z H H') (h : H' x = none) : H x = none := by
  cases e : H x with
  | none => rfl
  | some o =>
    by_cases hs : x = Z.S
    · obtain ⟨ys, hy⟩ := g.sb.lst
      rw [hs, hy] at h
      cases h
    by_cases hx : x ∈ M.ad
    · obtain ⟨o', e', _⟩ := g.b.ad hx
      rw [h] at e'
      cases e'
    · rw [g.keep x o e hx hs] at h
      cases h
theorem StAt.go (s : StAt H Z) (g : Go M H H') : StAt H' Z := by
  obtain ⟨c, p, d, h, h0, ne, h1⟩ := s
  exact ⟨c, p, d, g.at h, h0, ne, g.at h1⟩
theorem Sg.go (g : Sg M Z H H1) (g2 : Go M H1 H') : Sg M Z H H' := ⟨g.a, g2.b, g.sa, g.sb.go g2, fun x o h n n2 => g2.keep x o (g.keep x o h n n2) n⟩
theorem Sg.new (g : Sg M Z H H1) (h : H1 p = none) : Sg M Z H (upd H1 p o) := g.go ((Go.refl g.b).new h)
/-- a new object changes -/
theorem Sg.set (g : Sg M Z H H1) (h0 : H p = none) (h : H1 p = some u) (k : kept u = true := by rfl) : Sg M Z H (upd H1 p o) := by
  refine ⟨g.a, g.b.set h k, g.sa, ?_, fun x w e n n2 => ?_⟩
  · obtain ⟨c, q, d, e, hq, ne, hs⟩ := g.sb
    obtain ⟨_, _, _, e0, _, _, hs0⟩ := g.sa
    exact ⟨c, q, d, (upd_ne (ne_of_none e0 h0)).trans e, hq, ne, (upd_ne (ne_of_none hs0 h0)).trans hs⟩
  · rw [upd_ne (ne_of_none e h0)]
    exact g.keep x w e n n2
/-- the state list itself -/
def At4 (H : Hp) (Z : SS) (c p d : Int) : Prop := H Z.S = some (.lst [.int c, .int p, .ref Z.scr, .int d]) ∧ Z.scr ≠ Z.S ∧ H Z.scr = some (.lst (Z.ns.map V.int))
theorem At4.put {c p d c' p' d' : Int} (a : At4 H Z c p d) : At4 (upd H Z.S (.lst [.int c', .int p', .ref Z.scr, .int d'])) Z c' p' d' := ⟨upd_same, a.2.1, (upd_ne a.2.1).trans a.2.2⟩
theorem At4.sg {c p d c' p' d' : Int} (a : At4 H1 Z c p d) (g : Sg M Z H H1) (hp : 0 ≤ p') : Sg M Z H (upd H1 Z.S (.lst [.int c', .int p', .ref Z.scr, .int d'])) :=
  ⟨g.a, g.b.set a.1, g.sa, ⟨c', p', d', upd_same, hp, a.2.1, (upd_ne a.2.1).trans a.2.2⟩, fun x o hx n n2 => by
    rw [upd_ne n2]
    exact g.keep x o hx n n2⟩
theorem at4_step {Y : Hp → Prop} {c p d : Int} (g : Sg M Z H H1) (a : At4 H1 Z c p d) (h : ∀ H2, Sg M Z H H2 → At4 H2 Z c p d → Y H2) : Y H1 := h H1 g a
end
theorem ite_bool {b : Bool} {A B : Prop} (h1 : b = true → A) (h2 : b = false → B) : if b = true then A else B := by
  cases b with
  | true => exact h1 rfl
  | false => rw [if_neg (by simp)]; exact h2 rfl
section
variable {P : Program} {w : World} {K : PySem.W.Frag} {mg : Str → Option Value} {base : Heap}
def spDraw : Sp := fun vs H Q _ => ∃ (M : Mw) (Z : SS) (lim : Nat), vs = [.ref Z.S, .int (lim : Nat)] ∧ Mok M H ∧ StAt H Z ∧ 0 < lim ∧ lim ≤ 1000 ∧ ∀ (H' : Hp) (r : Nat), Sg M Z H H' → r < lim → Q (.int (r : Nat)) H'
theorem ok_draw {f : Addr} {fd : FuncData} {k : Nat} (T : Bn mg) (F : Fun K "_law_draw" "_law_draw" s__law_draw f fd) : FnOk P w K mg base CX0 (k + 1) f fd ["_law_state", "_law_limit"] spDraw := by
  refine F.ok sc__law_draw (fun vs H Q E h => ?_) (fun cdv A outer s H vs Q E hr h => ?_)
  · obtain ⟨M, Z, lim, rfl, _⟩ := h
    rfl
  · obtain ⟨M, Z, lim, rfl, mk, hS, hl0, hl, q⟩ := h
    -- 0 _law_state, 1 _law_limit, 2 _law_position, 3 _law_cell, 4 _law_mixed, 5 _law_digit
    refine ⟨_, (pss_cons (ps_if (pt_cmpR op_lt (pe_ix (ix_listK (K := K)) (pv 0) pe_int (fun _ _ => rfl)) (pv 1) (nomark _)) (pss_cons (ps_set (i := 2) sc__law_draw.nd rfl (.inl rfl) (pe_ix (ix_listK (K := K)) (pv 0) pe_int (fun _ _ => rfl)))
      (pss_cons (ps_asg (pe_op op_add (pv 2) pe_int) (pg_sub (pv 0) pe_int set_list))
      (pss_cons (ps_set (i := 3) sc__law_draw.nd rfl (.inl rfl) pe_int)
      (pss_cons (ps_if (pt_cmpR op_lt (pv 2) (pe_callB (call_len_seqK (K := K)) (by rfl) T.m_len PySem.boot_len (pa_cons (pe_ix (ix_listK (K := K)) (pv 0) pe_int (fun _ _ => rfl)) pa_nil)) (nomark _)) (pss_one (ps_set (i := 3) sc__law_draw.nd rfl (.inl rfl) (pe_ix (ix_listK (K := K)) (pe_ix (ix_listK (K := K)) (pv 0) pe_int (fun _ _ => rfl)) (pv 2) (fun _ _ => rfl)))) pss_nil)
      (pss_one (ps_if (pt_cmpR op_ge (pv 3) (pe_op op_pow pe_int pe_int) (nomark _)) (pss_one (ps_asg (pv 3) (pg_sub (pv 0) pe_int set_list))) (pss_cons (ps_asg (pe_op op_mod (pe_callTy call_int1 (by rfl) T.m_int (by decide +kernel) (pa_cons (pe_op op_mul (pe_op op_add (pe_op op_add (pe_op op_add (pe_ix (ix_listK (K := K)) (pv 0) pe_int (fun _ _ => rfl)) (pe_op op_mod (pe_callTy call_int1 (by rfl) T.m_int (by decide +kernel) (pa_cons (pv 3) pa_nil)) pe_int)) (pv 2)) pe_int) pe_int) pa_nil)) pe_int) (pg_sub (pv 0) pe_int set_list))
      (pss_cons (ps_set (i := 4) sc__law_draw.nd rfl (.inl rfl) (pe_op op_mod (pe_callTy call_int1 (by rfl) T.m_int (by decide +kernel) (pa_cons (pe_op op_add (pe_op op_mul (pe_ix (ix_listK (K := K)) (pv 0) pe_int (fun _ _ => rfl)) pe_int) pe_int) pa_nil)) pe_int))
      (pss_one (ps_asg (pe_op op_add (pe_op op_mul (pv 4) pe_int) (pe_op op_mod (pe_callTy call_int1 (by rfl) T.m_int (by decide +kernel) (pa_cons (pe_op op_add (pe_op op_mul (pv 4) pe_int) (pe_ix (ix_listK (K := K)) (pv 0) pe_int (fun _ _ => rfl))) pa_nil)) pe_int)) (pg_sub (pv 0) pe_int set_list))))))))))) pss_nil)
      (pss_cons (ps_set (i := 5) sc__law_draw.nd rfl (.inl rfl) (pe_op op_mod (pe_callTy call_int1 (by rfl) T.m_int (by decide +kernel) (pa_cons (pe_ix (ix_listK (K := K)) (pv 0) pe_int (fun _ _ => rfl)) pa_nil)) (pv 1)))
      (pss_cons (ps_asg (pe_op op_fdiv (pe_ix (ix_listK (K := K)) (pv 0) pe_int (fun _ _ => rfl)) (pv 1)) (pg_sub (pv 0) pe_int set_list))
      (pss_one (ps_ret (pv 5)))))), ?_⟩
    obtain ⟨c, p, d, h4, hp, hne, hs⟩ := id hS
    have a4 : At4 H Z c p d := ⟨h4, hne, hs⟩
    clear hs hne h4
    -- the end, behind the first if
    have fin : ∀ (H1 : Hp) (x2 x3 x4 : Option V) (c p d : Int), Sg M Z H H1 → 0 ≤ p → At4 H1 Z c p d →
        tSeq (tAsg (tOp (rI (fun x j => 0 < j) fun i j => V.int (i % j)) (tCB (fun xs H Q => (∃ i, xs = [V.int i] ∧ Q (V.int i) H) ∨ ∃ k, xs = [V.bl k] ∧ Q (V.int (if k = true then 1 else 0)) H) (tCons (tOp (rIxL K) (tVar 0) (tC (V.int 0))) tNil)) (tVar 1)) (gName 5))
          (tSeq (tAsg (tOp (rI CDiv fun i j => V.int (i / j)) (tOp (rIxL K) (tVar 0) (tC (V.int 0))) (tVar 1)) (gSub (tVar 0) (tC (V.int 0)) rSetL)) (tRet (tVar 5)))
          { nx := fun _ H' => Q .non H', rt := Q } [some (.ref Z.S), some (.int (lim : Nat)), x2, x3, x4, none] H1 := fun H1 x2 x3 x4 c p d g hp a4 => by
      refine ⟨.ref Z.S, rfl, Z.S, _, 0, _, rfl, rfl, SqL.of a4.1, atI_nat (j := 0) rfl, .inl ⟨_, rfl, _, rfl, _, _, rfl, rfl, by (show (0 : Int) < (lim : Nat)); omega, ?_⟩⟩
      refine ⟨.ref Z.S, rfl, Z.S, _, 0, _, rfl, rfl, SqL.of a4.1, atI_nat (j := 0) rfl, _, rfl, _, _, rfl, rfl, ⟨by (show (0 : Int) < (lim : Nat)); omega, by (show ((lim : Nat) : Int) < 1073741824); omega⟩, ?_⟩
      refine ⟨.ref Z.S, rfl, Z.S, _, 0, 0, rfl, rfl, a4.1, rfl, _, rfl, ?_⟩
      have hm : ∃ r : Nat, c % ((lim : Nat) : Int) = (r : Nat) ∧ r < lim := by
        have h1 := Int.emod_nonneg c (b := ((lim : Nat) : Int)) (by omega)
        have h2 := Int.emod_lt_of_pos c (b := ((lim : Nat) : Int)) (by omega)
        exact ⟨(c % ((lim : Nat) : Int)).toNat, by omega, by omega⟩
      obtain ⟨r, e, hr⟩ := hm
      dsimp only
      rw [e]
      exact q _ r (a4.sg g hp) hr
    refine ⟨.ref Z.S, rfl, Z.S, _, 0, _, rfl, rfl, SqL.of a4.1, atI_nat (j := 0) rfl, _, rfl, _, _, rfl, rfl, _, rfl, ?_⟩
    cases hcl : decide (c < ((lim : Nat) : Int)) with
    | false => exact iteF (fin H none none none c p d (Sg.refl mk hS) hp a4)
    | true =>
      refine iteT ⟨.ref Z.S, rfl, Z.S, _, 1, _, rfl, rfl, SqL.of a4.1, atI_nat (j := 1) rfl, ?_⟩
      refine ⟨_, rfl, _, _, rfl, rfl, .ref Z.S, rfl, Z.S, _, 1, 1, rfl, rfl, a4.1, rfl, ?_⟩
      generalize hH1 : upd H Z.S (HO.lst ([V.int c, V.int p, V.ref Z.scr, V.int d].set 1 ((fun i j => V.int (i + j)) p 1))) = H1
      have g1 : Sg M Z H H1 := by rw [← hH1]; exact a4.sg (c' := c) (p' := p + 1) (d' := d) (Sg.refl mk hS) (by omega)
      have a1 : At4 H1 Z c (p + 1) d := by rw [← hH1]; exact a4.put
      -- the cell
      refine ⟨_, rfl, .ref Z.S, rfl, Z.S, _, 2, _, rfl, rfl, SqL.of a1.1, atI_nat (j := 2) rfl, Z.scr, _, rfl, .inl (SqL.of a1.2.2), _, _, rfl, rfl, _, rfl, ?_⟩
      have hat : ¬ decide (p < (((Z.ns.map V.int).length : Nat) : Int)) = false → ∃ z : Int, atI (Z.ns.map V.int) p = some (.int z) := fun h => by
        have h : p < ((Z.ns.length : Nat) : Int) := by simpa using h
        obtain ⟨j, rfl⟩ : ∃ j : Nat, p = (j : Nat) := ⟨p.toNat, by omega⟩
        refine ⟨Z.ns[j]'(by omega), atI_nat (j := j) ?_⟩
        rw [List.getElem?_map, List.getElem?_eq_getElem (by omega)]
        rfl
      cases hpl : decide (p < (((Z.ns.map V.int).length : Nat) : Int))
      case' false => refine iteF ?_
      case' true =>
        obtain ⟨z, hz⟩ := hat (by rw [hpl]; simp)
        refine iteT ⟨.ref Z.S, rfl, Z.S, _, 2, _, rfl, rfl, SqL.of a1.1, atI_nat (j := 2) rfl, _, rfl, Z.scr, _, p, _, rfl, rfl, SqL.of a1.2.2, hz, ?_⟩
      all_goals
        refine ⟨_, rfl, _, _, rfl, rfl, ⟨by decide, by decide, by decide⟩, _, _, rfl, rfl, _, rfl, ?_⟩
        refine ite_bool (fun _ => ?_) (fun _ => ?_)
        · exact ⟨_, rfl, .ref Z.S, rfl, Z.S, _, 0, 0, rfl, rfl, a1.1, rfl, fin _ _ _ _ _ _ _ (a1.sg g1 (by omega)) (by omega) a1.put⟩
        · refine ⟨.ref Z.S, rfl, Z.S, _, 3, _, rfl, rfl, SqL.of a1.1, atI_nat (j := 3) rfl, _, rfl, .inl ⟨_, rfl, _, _, rfl, rfl, (by show (0 : Int) < _; decide), _, _, rfl, rfl, _, rfl, _, _, rfl, rfl, _, _, rfl, rfl, _, _, rfl, rfl, .inr ⟨by decide, by decide⟩, .inl ⟨_, rfl, _, _, rfl, rfl, (by show (0 : Int) < _; decide), .ref Z.S, rfl, Z.S, _, 3, 3, rfl, rfl, a1.1, rfl, ?_⟩⟩⟩
          refine at4_step (a1.sg (c' := c) (p' := p + 1) g1 (by omega)) a1.put ?_
          intro H2 g2 a2
          refine ⟨.ref Z.S, rfl, Z.S, _, 3, _, rfl, rfl, SqL.of a2.1, atI_nat (j := 3) rfl, _, _, rfl, rfl, .inr ⟨by decide, by decide⟩, _, _, rfl, rfl, .inl ⟨_, rfl, _, _, rfl, rfl, (by show (0 : Int) < _; decide), ?_⟩⟩
          refine ⟨_, rfl, _, _, rfl, rfl, .inr ⟨by decide, by decide⟩, _, rfl, _, _, rfl, rfl, .inr ⟨by decide, by decide⟩, .ref Z.S, rfl, Z.S, _, 3, _, rfl, rfl, SqL.of a2.1, atI_nat (j := 3) rfl, _, _, rfl, rfl, .inl ⟨_, rfl, _, _, rfl, rfl, (by show (0 : Int) < _; decide), _, _, rfl, rfl, ?_⟩⟩
          exact ⟨.ref Z.S, rfl, Z.S, _, 0, 0, rfl, rfl, a2.1, rfl, fin _ _ _ _ _ _ _ (a2.sg g2 (by omega)) (by omega) a2.put⟩
end
end Bw

set_option Elab.async false
set_option linter.all false
set_option maxRecDepth 100000
set_option maxHeartbeats 2000000
namespace Bw
open PySem PySem.Spec PyProof.Rows L2
/-- a comprehension that draws: Pd by the turn, the list as it stands, the heap -/
theorem lcS {K : PySem.W.Frag} {M : Mw} {Z : SS} {J : It} {n : Nat} {G : Hp → Prop} {Y : Nat → Hp → V → Hp → Prop} {g : TG} {tt : TT} {te : TE} {vs : List Nat} {σ : L2.St} {H1 : Hp} {D : Addr} {Qd : Hp → Prop}
    (w : Walk J n G Y) (mk : Mok M H1) (sZ : StAt H1 Z) (nD : H1 D = none) (hn : n ≤ 10000) (Pd : Nat → List V → Hp → Prop) (h0 : Pd 0 [] (upd H1 D (.lst []))) (hG : ∀ H, Sg M Z H1 H → G H)
    (hs : ∀ i x H H' acc, i < n → Sg M Z H1 H → H D = some (.lst acc) → Pd i acc H → Y i H x H' → ∀ (B : V → Hp → Prop) (C : Hp → Prop),
      (∀ y H4, Sg M Z H H4 → (H4 D = some (.lst acc) → Pd (i + 1) (acc ++ [y]) (upd H4 D (.lst (acc ++ [y])))) → B y H4) → (∀ H3, Sg M Z H H3 → Pd (i + 1) acc H3 → C H3) →
      g x (wipe σ vs) H' fun σ2 H2 => wipe σ2 vs = wipe σ vs ∧ tt σ2 H2 fun b H3 => if b = true then te σ2 H3 fun y H4 => B y H4 else C H3)
    (hd : ∀ H acc, Sg M Z H1 H → H D = some (.lst acc) → acc.length ≤ n → Pd n acc H → Qd H) : LcGoal J g tt te vs σ H1 D Qd := by
  have nDS : D ≠ Z.S := sZ.nen nD
  refine lc_it w (fun i H => Sg M Z H1 H ∧ ∃ acc, H D = some (.lst acc) ∧ acc.length ≤ i ∧ Pd i acc H) ⟨(Sg.refl mk sZ).new nD, [], upd_same, Nat.le_refl _, h0⟩ (fun i H _ h => hG H h.1) (fun i x H H' hi ⟨g1, acc, hD, hl, hP⟩ y => ?_) (fun H ⟨g1, acc, hD, hl, hP⟩ => hd H acc g1 hD hl hP)
  refine hs i x H H' acc hi g1 hD hP y (fun y H4 => ∃ acc, H4 D = some (.lst acc) ∧ acc.length < sizeLine ∧ (Sg M Z H1 (upd H4 D (.lst (acc ++ [y]))) ∧ ∃ acc2, (upd H4 D (.lst (acc ++ [y]))) D = some (.lst acc2) ∧ acc2.length ≤ i + 1 ∧ Pd (i + 1) acc2 (upd H4 D (.lst (acc ++ [y]))))) _ (fun y H4 g4 hp => ?_) (fun H3 g3 hp => ⟨g1.trans g3, acc, g3.at hD nDS, by omega, hp⟩)
  have hD4 := g4.at hD nDS
  exact ⟨acc, hD4, szl (by omega), (g1.trans g4).set nD hD4, acc ++ [y], upd_same, by rw [List.length_append, List.length_singleton]; omega, hp hD4⟩
section
variable {P : Program} {w : World} {K : PySem.W.Frag} {mg : Str → Option Value} {base : Heap}
theorem Sg.tup2 {M : Mw} {Z : SS} {H H4 : Hp} {D : Addr} {acc ys : List V} {v : V} {ns : List Nat} (g : Sg M Z H H4) (h : TI K H v ns) : TI K H4 v ns := h.tk g.tk
def spSome : Sp := fun vs H Q _ => ∃ (M : Mw) (Z : SS) (n : Nat), vs = [.ref Z.S, .int (n : Nat)] ∧ Mok M H ∧ StAt H Z ∧ n ≤ 100 ∧ ∀ (H' : Hp) (p : Addr) (l : List Nat), Sg M Z H H' → H p = none → H' p = some (.lst (nV l)) → l.Nodup → (∀ e ∈ l, e < n) → Q (.ref p) H'
theorem ok_some {f : Addr} {fd : FuncData} (T : Bn mg) (F : Fun K "_law_some" "_law_some" s__law_some f fd) (D__law_draw : Def K mg "_law_draw" s__law_draw) (G__law_draw : FnOk P w K mg base CX0 1 D__law_draw.f D__law_draw.fd ["_law_state", "_law_limit"] spDraw) :
    FnOk P w K mg base CX0 2 f fd ["_law_state", "_law_size_here"] spSome := by
  refine F.ok sc__law_some (fun vs H Q E h => ?_) (fun cdv A outer s H vs Q E hr h => ?_)
  · obtain ⟨M, Z, n, rfl, _⟩ := h
    rfl
  · obtain ⟨M, Z, n, rfl, mk, hS, hn, q⟩ := h
    -- 0 _law_state, 1 _law_size_here, 2 _law_made, 3 _law_e
    refine ⟨_, (pss_cons (ps_setLc (i := 2) (own := [("_law_e", 3)]) (by rfl) sc__law_some.nd rfl rfl (sw_true rfl rfl rfl (by decide +kernel)) (pi_range1 (by rfl) T.m_range (pa_cons (pv 1) pa_nil)) (blkOk_by (by rfl)) (fun _ _ _ _ _ => (pg_name (i := 3) sc__law_some.nd rfl (.inl rfl))) (fun _ _ _ _ _ => (pts_one (pt_cmpR op_eq (pe_call G__law_draw (hr.mono (by first | decide | omega)) (by rfl) D__law_draw.g D__law_draw.F.kp (bd__law_draw D__law_draw.F) .nil pass0 (pa_cons (pv 0) (pa_cons pe_int pa_nil))) pe_int (nomark _)))) (fun _ _ _ _ _ => (pv 3)))
      (pss_cons (ps_if (pt_cmpR op_eq (pe_call G__law_draw (hr.mono (by first | decide | omega)) (by rfl) D__law_draw.g D__law_draw.F.kp (bd__law_draw D__law_draw.F) .nil pass0 (pa_cons (pv 0) (pa_cons pe_int pa_nil))) pe_int (nomark _)) (pss_one (ps_set (i := 2) sc__law_some.nd rfl (.inl rfl) (Gx.pe_listRevK (K := K) rfl (by rfl) T.m_list (by rfl) T.m_reversed (pv 2)))) pss_nil)
      (pss_one (ps_ret (pv 2))))), ?_⟩
    refine ⟨_, rfl, (n : Nat), rfl, by omega, by omega, fun D nD => ?_⟩
    rw [Int.toNat_natCast]
    refine lcS (K := K) (walk_range (lo := 0) (n := n)) mk hS nD (by omega) (fun i acc _ => ∃ l : List Nat, acc = nV l ∧ l.Nodup ∧ ∀ e ∈ l, e < i) ⟨[], rfl, .nil, fun e h => by cases h⟩ (fun _ _ => trivial) (fun i x H2 H2' acc hi g2 hD hP y B C kB kC => ?_) (fun H2 acc g2 hD hl hP => ?_)
    · obtain ⟨rfl, rfl⟩ := y
      obtain ⟨l, rfl, hnd, hlt⟩ := hP
      refine ⟨rfl, .ref Z.S, rfl, M, Z, 2, rfl, g2.b, g2.sb, by decide, by decide, fun H3 r g3 hr => ⟨rfl, _, rfl, ite_bool (fun _ => ?_) (fun _ => ?_)⟩⟩
      · refine ⟨_, rfl, kB _ _ g3 fun _ => ⟨l ++ [i], by rw [nV_app]; show _ ++ [V.int (0 + (i : Nat))] = _; rw [Int.zero_add]; rfl, nodup_snoc hnd fun h => Nat.lt_irrefl _ (hlt i h), fun e he => ?_⟩⟩
        rcases List.mem_append.mp he with h | h
        · exact Nat.lt_succ_of_lt (hlt e h)
        · rw [List.mem_singleton.mp h]; exact Nat.lt_succ_self i
      · exact kC _ g3 ⟨l, rfl, hnd, fun e he => Nat.lt_succ_of_lt (hlt e he)⟩
    · obtain ⟨l, rfl, hnd, hlt⟩ := hP
      refine ⟨.ref Z.S, rfl, M, Z, 2, rfl, g2.b, g2.sb, by decide, by decide, fun H3 r g3 hr => ⟨rfl, _, rfl, ite_bool (fun _ => ?_) (fun _ => ?_)⟩⟩
      · have hD3 := g3.at hD (hS.nen nD)
        refine ⟨.ref D, rfl, D, _, rfl, SqL.of hD3, fun q' nq => ⟨_, rfl, q _ q' l.reverse ((g2.trans g3).new nq) ((g2.trans g3).back nq) (by rw [upd_same]; exact congrArg (fun z => some (HO.lst z)) (List.map_reverse ..).symm) ((List.reverse_perm l).nodup_iff.mpr hnd) fun e he => hlt e (List.mem_reverse.mp he)⟩⟩
      · exact ⟨_, rfl, q _ D l (g2.trans g3) nD (g3.at hD (hS.nen nD)) hnd hlt⟩
end
end Bw

set_option Elab.async false
set_option linter.all false
set_option maxRecDepth 100000
set_option maxHeartbeats 2000000
namespace Bw
open PySem PySem.Spec PyProof.Rows L2
theorem cut_from (xs : List V) {i : Nat} (h : i ≤ xs.length) : cutV xs (some (i : Int)) none = xs.drop i := by
  unfold cutV
  rw [HT.sIx_none, show HT.sIx xs.length 0 (some (i : Int)) = min i xs.length from HT.sIx_nat xs.length 0 i, Nat.min_eq_left h]
  rw [List.take_of_length_le]
  rw [List.length_drop]
  exact Nat.le_refl _
theorem TTBd.tk {K : PySem.W.Frag} {H H' : Hp} {vs : List V} {gs : List (List Nat × Nat)} (g : Tk K H H') (h : All2 (TBd K H) vs gs) : All2 (TBd K H') vs gs := h.mono fun _ _ => TBd.tk g
theorem tk_new {K : PySem.W.Frag} {H : Hp} {p : Addr} {o : HO} (n : H p = none) : Tk K H (upd H p o) := fun x us h => by
  rcases h with (h | ⟨o, h⟩) | h
  · exact .inl (.inl ((upd_ne (ne_of_none h n)).trans h))
  · exact .inl (.inr ⟨o, (upd_ne (ne_of_none h n)).trans h⟩)
  · exact .inr h
theorem All2.app {α β : Type} {R : α → β → Prop} {as as' : List α} {bs bs' : List β} (h : All2 R as bs) (h' : All2 R as' bs') : All2 R (as ++ as') (bs ++ bs') := by
  induction h with
  | nil => exact h'
  | cons r _ ih => exact .cons r ih
/-- nested sets over l -/
structure Nst (n : Nat) (l : List Nat) (gs : List (List Nat × Nat)) : Prop where
  hd : ∃ b rest, gs = (l, b) :: rest ∧ Bst.Fam n (Bst.mem l) rest
  len : gs.length ≤ 2 * l.length - 1
theorem Nst.fam {n : Nat} {l : List Nat} {gs : List (List Nat × Nat)} (h : Nst n l gs) : Bst.Fam n (Bst.mem l) gs := by
  obtain ⟨⟨b, rest, rfl, f⟩, _⟩ := h
  exact .cons (fun x _ => rfl) f
theorem Nst.one {n : Nat} {l : List Nat} {b : Nat} (h : 1 ≤ l.length) : Nst n l [(l, b)] := ⟨⟨b, [], rfl, .nil⟩, by simp; omega⟩
theorem take_disj {l : List Nat} (nd : l.Nodup) {c : Nat} {x : Nat} (h1 : x ∈ l.take c) (h2 : x ∈ l.drop c) : False := by
  have := nd
  rw [← List.take_append_drop c l] at this
  exact (List.nodup_append.mp this).2.2 x h1 x h2 rfl
theorem fam_two {n : Nat} {l : List Nat} {c : Nat} {g1 g2 : List (List Nat × Nat)} (nd : l.Nodup) (h1 : Bst.Fam n (Bst.mem (l.take c)) g1) (h2 : Bst.Fam n (Bst.mem (l.drop c)) g2) : Bst.Fam n (Bst.mem l) (g1 ++ g2) := by
  refine .app (fun x _ q => ?_) (fun x _ => ?_) h1 h2
  · cases z : Bst.mem (l.drop c) x with
    | false => rfl
    | true => exact (take_disj nd (Bst.mem_true.mp q) (Bst.mem_true.mp z)).elim
  · rw [← mem_app, List.take_append_drop]
section
variable {P : Program} {w : World} {K : PySem.W.Frag} {mg : Str → Option Value} {base : Heap}
def spNested (K : PySem.W.Frag) (k : Nat) : Sp := fun vs H Q _ => ∃ (M : Mw) (Z : SS) (a : Addr) (n : Nat) (l : List Nat), vs = [.ref Z.S, .ref a] ∧ Mok M H ∧ StAt H Z ∧ H a = some (.lst (nV l)) ∧ a ≠ Z.S ∧ l.Nodup ∧ 1 ≤ l.length ∧ l.length ≤ k ∧ l.length ≤ 100 ∧
  ∀ (H' : Hp) (p : Addr) (us : List V) (gs : List (List Nat × Nat)), Sg M Z H H' → H p = none → H' p = some (.lst us) → All2 (TBd K H') us gs → Nst n l gs → Q (.ref p) H'
theorem ok_nested (T : Bn mg) (D__law_draw : Def K mg "_law_draw" s__law_draw) (G__law_draw : FnOk P w K mg base CX0 1 D__law_draw.f D__law_draw.fd ["_law_state", "_law_limit"] spDraw) (D__law_nested : Def K mg "_law_nested" s__law_nested) :
    ∀ k, FnOk P w K mg base CX0 (k + 2) D__law_nested.f D__law_nested.fd ["_law_state", "_law_members_here"] (spNested K k) := by
  intro k
  induction k with
  | zero =>
    refine D__law_nested.F.ok sc__law_nested (fun vs H Q E h => ?_) (fun cdv A outer s H vs Q E hr h => ?_)
    · obtain ⟨M, Z, a, n, l, rfl, _⟩ := h
      rfl
    · obtain ⟨M, Z, a, n, l, rfl, mk, hS, ha, hne, hnd, h1, h2, _⟩ := h
      omega
  | succ k G_self =>
  refine D__law_nested.F.ok sc__law_nested (fun vs H Q E h => ?_) (fun cdv A outer s H vs Q E hr h => ?_)
  · obtain ⟨M, Z, a, n, l, rfl, _⟩ := h
    rfl
  · obtain ⟨M, Z, a, n, l, rfl, mk, hS, ha, hne, hnd, h1, h2, h100, q⟩ := h
    -- 0 _law_state, 1 _law_members_here, 2 _law_made, 3 _law_cut
    refine ⟨_, (pss_cons (ps_set (i := 2) sc__law_nested.nd rfl (.inl rfl) (pe_lst (pa_cons (pe_tup (pa_cons (pe_callTy (call_tuple_ofK (K := K)) (by rfl) T.m_tuple (by decide +kernel) (pa_cons (pv 1) pa_nil)) (pa_cons (pe_call G__law_draw (hr.mono (by first | decide | omega)) (by rfl) D__law_draw.g D__law_draw.F.kp (bd__law_draw D__law_draw.F) .nil pass0 (pa_cons (pv 0) (pa_cons (pe_op op_add (pe_callB (call_len_seqK (K := K)) (by rfl) T.m_len PySem.boot_len (pa_cons (pv 1) pa_nil)) pe_int) pa_nil))) pa_nil))) pa_nil)))
      (pss_cons (ps_if (PW.pt (pw_and (pt_cmpR op_gt (pe_callB (call_len_seqK (K := K)) (by rfl) T.m_len PySem.boot_len (pa_cons (pv 1) pa_nil)) pe_int (nomark _)) (pw_and1 (pt_cmpR op_gt (pe_call G__law_draw (hr.mono (by first | decide | omega)) (by rfl) D__law_draw.g D__law_draw.F.kp (bd__law_draw D__law_draw.F) .nil pass0 (pa_cons (pv 0) (pa_cons pe_int pa_nil))) pe_int (nomark _))))) (pss_cons (ps_set (i := 3) sc__law_nested.nd rfl (.inl rfl) (pe_op op_add pe_int (pe_call G__law_draw (hr.mono (by first | decide | omega)) (by rfl) D__law_draw.g D__law_draw.F.kp (bd__law_draw D__law_draw.F) .nil pass0 (pa_cons (pv 0) (pa_cons (pe_op op_sub (pe_callB (call_len_seqK (K := K)) (by rfl) T.m_len PySem.boot_len (pa_cons (pv 1) pa_nil)) pe_int) pa_nil)))))
      (pss_cons (ps_set (i := 2) sc__law_nested.nd rfl (.inl rfl) (pe_op op_cat (pv 2) (pe_call G_self hr (by rfl) D__law_nested.g D__law_nested.F.kp (bd__law_nested D__law_nested.F) .nil pass0 (pa_cons (pv 0) (pa_cons (pe_slice (sl_listK (K := K)) (pv 1) po_none (po_some (pv 3))) pa_nil)))))
      (pss_one (ps_if (pt_cmpR op_eq (pe_call G__law_draw (hr.mono (by first | decide | omega)) (by rfl) D__law_draw.g D__law_draw.F.kp (bd__law_draw D__law_draw.F) .nil pass0 (pa_cons (pv 0) (pa_cons pe_int pa_nil))) pe_int (nomark _)) (pss_one (ps_set (i := 2) sc__law_nested.nd rfl (.inl rfl) (pe_op op_cat (pv 2) (pe_call G_self hr (by rfl) D__law_nested.g D__law_nested.F.kp (bd__law_nested D__law_nested.F) .nil pass0 (pa_cons (pv 0) (pa_cons (pe_slice (sl_listK (K := K)) (pv 1) (po_some (pv 3)) po_none) pa_nil)))))) pss_nil)))) pss_nil)
      (pss_one (ps_ret (pv 2))))), ?_⟩
    -- made = [(tuple(members), draw)]
    refine ⟨.ref a, rfl, a, _, rfl, .inl ⟨SqL.of ha, fun t nt => ?_⟩⟩
    have g1 : Sg M Z H (upd H t (.tup (nV l))) := (Sg.refl mk hS).new nt
    have ht1 : (upd H t (.tup (nV l))) t = some (.tup (nV l)) := upd_same
    have ha1 : (upd H t (.tup (nV l))) a = some (.lst (nV l)) := g1.at ha hne
    generalize upd H t (.tup (nV l)) = H1 at g1 ht1 ha1
    refine ⟨.ref Z.S, rfl, .ref a, rfl, a, _, rfl, .inl (SqL.of ha1), _, _, rfl, rfl, ?_⟩
    rw [nV_len]
    refine ⟨M, Z, l.length + 2, rfl, g1.b, g1.sb, by omega, by omega, fun H2 b g2 hb => ?_⟩
    have ht2 := g2.t (K := K) (SqT.of ht1)
    have ha2 := g2.at ha1 hne
    have g02 := g1.trans g2
    refine ⟨(by decide : (2 : Nat) ≤ sizeLine), fun t2 nt2 => ?_⟩
    have g3 := g02.new (o := .tup [.ref t, .int (b : Nat)]) nt2
    have hb3 : TBd K (upd H2 t2 (.tup [.ref t, .int (b : Nat)])) (.ref t2) (l, b) := ⟨t2, _, rfl, SqT.of upd_same, t, rfl, tk_new nt2 _ _ ht2⟩
    have ha3 := ((Sg.refl g2.b g2.sb).new (o := .tup [.ref t, .int (b : Nat)]) nt2).at ha2 hne
    generalize upd H2 t2 (.tup [.ref t, .int (b : Nat)]) = H3 at g3 hb3 ha3
    refine ⟨(by decide : (1 : Nat) ≤ sizeLine), fun D nD => ?_⟩
    have g4 := g3.new (o := .lst [.ref t2]) nD
    have hD4 : (upd H3 D (.lst [.ref t2])) D = some (.lst [.ref t2]) := upd_same
    have hb4 : All2 (TBd K (upd H3 D (.lst [.ref t2]))) [.ref t2] [(l, b)] := .cons (hb3.tk (tk_new nD)) .nil
    have ha4 := ((Sg.refl g3.b g3.sb).new (o := .lst [.ref t2]) nD).at ha3 hne
    have nDH := g3.back nD
    generalize upd H3 D (.lst [.ref t2]) = H4 at g4 hD4 hb4 ha4
    -- the end without parts
    have fin0 : ∀ H5, Sg M Z H4 H5 → Q (.ref D) H5 := fun H5 g5 => q H5 D _ [(l, b)] (g4.trans g5) nDH (g5.at hD4 (hS.nen nDH)) (TTBd.tk g5.tk hb4) (Nst.one h1)
    refine ⟨.ref a, rfl, a, _, rfl, .inl (SqL.of ha4), _, _, rfl, rfl, _, rfl, ?_⟩
    rw [nV_len]
    refine ite_bool (fun hc => ?_) (fun hc => iteF ⟨_, rfl, fin0 _ (Sg.refl g4.b g4.sb)⟩)
    have hc : 1 < l.length := by have := of_decide_eq_true hc; omega
    refine ⟨.ref Z.S, rfl, M, Z, 3, rfl, g4.b, g4.sb, by decide, by decide, fun H5 r g5 hr => ⟨_, _, rfl, rfl, _, rfl, ite_bool (fun _ => ?_) (fun _ => ⟨_, rfl, fin0 _ g5⟩)⟩⟩
    have ha5 := g5.at ha4 hne
    refine ⟨.ref Z.S, rfl, .ref a, rfl, a, _, rfl, .inl (SqL.of ha5), _, _, rfl, rfl, ?_⟩
    dsimp only
    rw [nV_len, show ((l.length : Nat) : Int) - 1 = ((l.length - 1 : Nat) : Int) by omega]
    refine ⟨M, Z, l.length - 1, rfl, g5.b, g5.sb, by omega, by omega, fun H6 r g6 hr6 => ⟨_, _, rfl, rfl, ?_⟩⟩
    dsimp only
    rw [show (1 : Int) + ((r : Nat) : Int) = ((1 + r : Nat) : Int) by omega]
    generalize hcc : 1 + r = c
    have ha6 := g6.at ha5 hne
    have g46 := g5.trans g6
    -- made + nested(members[:cut])
    have hcl : c ≤ (nV l).length := by rw [nV_len]; omega
    have hD6 := g46.at hD4 (hS.nen nDH)
    have hb6 := TTBd.tk g46.tk hb4
    refine ⟨.ref D, rfl, .ref Z.S, rfl, .ref a, rfl, .int (c : Nat), rfl, (c : Nat), rfl, a, _, rfl, SqL.of ha6, fun s1 ns1 => ?_⟩
    rw [cut_take (nV l) hcl, show (nV l).take c = nV (l.take c) from (List.map_take ..).symm]
    have g7 := (g4.trans g46).new (o := .lst (nV (l.take c))) ns1
    have hs7 : (upd H6 s1 (.lst (nV (l.take c)))) s1 = some (.lst (nV (l.take c))) := upd_same
    have ha7 := ((Sg.refl g6.b g6.sb).new (o := .lst (nV (l.take c))) ns1).at ha6 hne
    have hD7 := ((Sg.refl g6.b g6.sb).new (o := .lst (nV (l.take c))) ns1).at hD6 (hS.nen nDH)
    have hb7 := TTBd.tk (tk_new (o := .lst (nV (l.take c))) ns1) hb6
    have ns1S : s1 ≠ Z.S := g6.sb.nen ns1
    generalize upd H6 s1 (.lst (nV (l.take c))) = H7 at g7 hs7 ha7 hD7 hb7
    refine ⟨M, Z, s1, n, l.take c, rfl, g7.b, g7.sb, hs7, ns1S, hnd.sublist (List.take_sublist ..), by rw [List.length_take]; omega, by rw [List.length_take]; omega, by rw [List.length_take]; omega, fun H8 p1 us1 gs1 g8 np1 hp1 hus1 hN1 => ?_⟩
    have hD8 := g8.at hD7 (hS.nen nDH)
    have hb8 := TTBd.tk g8.tk hb7
    have ha8 := g8.at ha7 hne
    have l1 : us1.length ≤ 200 := by have := hus1.len; have := hN1.len; rw [List.length_take] at this; omega
    refine ⟨D, p1, _, _, rfl, rfl, hD8, hp1, sz (by simp only [List.length_singleton]; omega), fun D2 nD2 => ?_⟩
    have g9 := (g7.trans g8).new (o := .lst ([.ref t2] ++ us1)) nD2
    have g9' := (Sg.refl g8.b g8.sb).new (o := .lst ([.ref t2] ++ us1)) nD2
    have hD9 : (upd H8 D2 (.lst ([.ref t2] ++ us1))) D2 = some (.lst ([.ref t2] ++ us1)) := upd_same
    have hb9 := TTBd.tk g9'.tk (hb8.app hus1)
    have ha9 := g9'.at ha8 hne
    have nD2H := (g7.trans g8).back nD2
    have f1 := hN1.fam
    have N1 : Nst n l ([(l, b)] ++ gs1) := ⟨⟨b, gs1, rfl, by have := fam_two hnd f1 (.nil (U := Bst.mem (l.drop c))); rwa [List.append_nil] at this⟩, by have := hN1.len; rw [List.length_take] at this; rw [List.length_append, List.length_singleton]; omega⟩
    generalize upd H8 D2 (.lst ([.ref t2] ++ us1)) = H9 at g9 hD9 hb9 ha9 g9'
    -- the other part
    refine ⟨.ref Z.S, rfl, M, Z, 2, rfl, g9.b, g9.sb, by decide, by decide, fun H10 r10 g10 hr10 => ⟨rfl, _, rfl, ite_bool (fun _ => ?_) (fun _ => ⟨_, rfl, q _ D2 _ _ (g9.trans g10) nD2H (g10.at hD9 (hS.nen nD2H)) (TTBd.tk g10.tk hb9) N1⟩)⟩⟩
    have ha10 := g10.at ha9 hne
    have hD10 := g10.at hD9 (hS.nen nD2H)
    have hb10 := TTBd.tk g10.tk hb9
    refine ⟨.ref D2, rfl, .ref Z.S, rfl, .ref a, rfl, .int (c : Nat), rfl, (c : Nat), rfl, a, _, rfl, SqL.of ha10, fun s2 ns2 => ?_⟩
    rw [cut_from (nV l) hcl, show (nV l).drop c = nV (l.drop c) from (List.map_drop ..).symm]
    have g11 := (g9.trans g10).new (o := .lst (nV (l.drop c))) ns2
    have g11' := (Sg.refl g10.b g10.sb).new (o := .lst (nV (l.drop c))) ns2
    have hs11 : (upd H10 s2 (.lst (nV (l.drop c)))) s2 = some (.lst (nV (l.drop c))) := upd_same
    have hD11 := g11'.at hD10 (hS.nen nD2H)
    have hb11 := TTBd.tk g11'.tk hb10
    have ns2S : s2 ≠ Z.S := g10.sb.nen ns2
    generalize upd H10 s2 (.lst (nV (l.drop c))) = H11 at g11 hs11 hD11 hb11 g11'
    refine ⟨M, Z, s2, n, l.drop c, rfl, g11.b, g11.sb, hs11, ns2S, hnd.sublist (List.drop_sublist ..), by rw [List.length_drop]; omega, by rw [List.length_drop]; omega, by rw [List.length_drop]; omega, fun H12 p2 us2 gs2 g12 np2 hp2 hus2 hN2 => ?_⟩
    have hD12 := g12.at hD11 (hS.nen nD2H)
    have hb12 := TTBd.tk g12.tk hb11
    have l2 : us2.length ≤ 200 := by have := hus2.len; have := hN2.len; rw [List.length_drop] at this; omega
    refine ⟨D2, p2, _, _, rfl, rfl, hD12, hp2, sz (by simp only [List.length_append, List.length_singleton]; omega), fun D3 nD3 => ?_⟩
    have g13 := (g11.trans g12).new (o := .lst ([.ref t2] ++ us1 ++ us2)) nD3
    have g13' := (Sg.refl g12.b g12.sb).new (o := .lst ([.ref t2] ++ us1 ++ us2)) nD3
    refine ⟨_, rfl, q _ D3 _ _ g13 ((g11.trans g12).back nD3) upd_same (TTBd.tk g13'.tk (hb12.app hus2)) ⟨⟨b, gs1 ++ gs2, by simp, fam_two hnd f1 hN2.fam⟩, ?_⟩⟩
    have := hN1.len
    have := hN2.len
    rw [List.length_take] at *
    rw [List.length_drop] at *
    rw [List.length_append, List.length_append, List.length_singleton]
    omega
end
end Bw

set_option Elab.async false
set_option linter.all false
set_option maxRecDepth 100000
set_option maxHeartbeats 2000000
namespace Bw
open PySem PySem.Spec PyProof.Rows L2
section
variable {P : Program} {w : World} {K : PySem.W.Frag} {mg : Str → Option Value} {base : Heap}
/-- tuples of whole numbers, as they come -/
def Rows (K : PySem.W.Frag) (Rr : List Nat → Prop) (i : Nat) (acc : List V) (H : Hp) : Prop := ∃ rows : List (List Nat), rows.length = i ∧ All2 (TI K H) acc rows ∧ ∀ r ∈ rows, Rr r
theorem Rows.nil {Rr : List Nat → Prop} {H : Hp} : Rows K Rr 0 [] H := ⟨[], rfl, .nil, fun r h => by cases h⟩
theorem Rows.put {Rr : List Nat → Prop} {i : Nat} {acc : List V} {H H4 : Hp} {y : V} {r : List Nat} {D : Addr} (h : Rows K Rr i acc H) (g : Tk K H H4) (hy : TI K H4 y r) (hr : Rr r) (hD : H4 D = some (.lst acc)) : Rows K Rr (i + 1) (acc ++ [y]) (upd H4 D (.lst (acc ++ [y]))) := by
  obtain ⟨rows, e, ha, hR⟩ := h
  refine ⟨rows ++ [r], by rw [List.length_append, e]; rfl, (ha.mono fun _ _ z => TI.tk (Tk.lst hD) (TI.tk g z)).snoc (hy.tk (Tk.lst hD)), fun r' h' => ?_⟩
  rcases List.mem_append.mp h' with z | z
  · exact hR r' z
  · rw [List.mem_singleton.mp z]; exact hr
theorem mat_one {H : Hp} {L p : Addr} {ln : Ln} (hL : LineAt K H L ln) (np : H p = none) : MatAt K (upd H p (.tup [.ref L])) p ⟨ln, false⟩ := ⟨L, hL.tk (tk_new np), .inl ⟨rfl, SqT.of upd_same⟩⟩
/-- rows of pairs -/
theorem pairs_of {v : Nat} : ∀ {rows : List (List Nat)}, (∀ r ∈ rows, ∃ a b, r = [a, b] ∧ a < v ∧ b < v) → ∃ es : List (Nat × Nat), rows = es.map (fun e => [e.1, e.2]) ∧ ∀ e ∈ es, e.1 < v ∧ e.2 < v
  | [], _ => ⟨[], rfl, fun e h => by cases h⟩
  | r :: rows, h => by
    obtain ⟨es, e1, e2⟩ := pairs_of (rows := rows) fun r' h' => h r' (List.mem_cons_of_mem _ h')
    obtain ⟨a, b, e, ha, hb⟩ := h r List.mem_cons_self
    exact ⟨(a, b) :: es, by rw [e, e1]; rfl, fun e' h' => by
      rcases List.mem_cons.mp h' with z | z
      · rw [z]; exact ⟨ha, hb⟩
      · exact e2 e' z⟩
theorem bits_of {l : List Nat} (h : l.length = 3) (h2 : ∀ t ∈ l, t < 2) : ∃ c, c < 8 ∧ l = Bst.bits c := by
  match l, h with
  | [a, b, c], _ =>
    have ha := h2 a (by simp)
    have hb := h2 b (by simp)
    have hc := h2 c (by simp)
    have key : ∀ a < 2, ∀ b < 2, ∀ c < 2, ∃ d, d < 8 ∧ [a, b, c] = Bst.bits d := by decide +kernel
    exact key a ha b hb c hc
theorem cols_of : ∀ {rows : List (List Nat)}, (∀ r ∈ rows, ∃ c, c < 8 ∧ r = Bst.bits c) → ∃ cs : List Nat, rows = cs.map Bst.bits ∧ ∀ c ∈ cs, c < 8
  | [], _ => ⟨[], rfl, fun e h => by cases h⟩
  | r :: rows, h => by
    obtain ⟨cs, e1, e2⟩ := cols_of (rows := rows) fun r' h' => h r' (List.mem_cons_of_mem _ h')
    obtain ⟨c, hc, e⟩ := h r List.mem_cons_self
    exact ⟨c :: cs, by rw [e, e1]; rfl, fun e' h' => by
      rcases List.mem_cons.mp h' with z | z
      · rw [z]; exact hc
      · exact e2 e' z⟩
theorem mat_two {M : Mw} {Z : SS} {H0 H : Hp} {L p : Addr} {ln : Ln} (g : Sg M Z H0 H) (hL : LineAt K H L ln) (hp : SqT K H p [.ref L]) {Q : VK} (q : ∀ (H' : Hp) (p : Addr), Sg M Z H0 H' → MatAt K H' p ⟨ln, true⟩ → Q (.ref p) H') :
    ∀ t, H t = none → ∀ t2, (upd H t (.tup [.str "dual", .int 0])) t2 = none → rCatT K (.ref p) (.ref t2) (upd (upd H t (.tup [.str "dual", .int 0])) t2 (.tup [.ref t])) Q := fun t nt t2 nt2 => by
  have g1 := g.new (o := .tup [.str "dual", .int 0]) nt
  have hL1 := hL.tk (tk_new (K := K) (o := .tup [.str "dual", .int 0]) nt)
  have hp1 := tk_new (K := K) (o := .tup [.str "dual", .int 0]) nt _ _ hp
  have ht1 : SqT K (upd H t (.tup [.str "dual", .int 0])) t [.str "dual", .int 0] := SqT.of upd_same
  generalize upd H t (.tup [.str "dual", .int 0]) = H1 at *
  have g2 := g1.new (o := .tup [.ref t]) nt2
  have hL2 := hL1.tk (tk_new (K := K) (o := .tup [.ref t]) nt2)
  have hp2 := tk_new (K := K) (o := .tup [.ref t]) nt2 _ _ hp1
  have ht2 := tk_new (K := K) (o := .tup [.ref t]) nt2 _ _ ht1
  have hu2 : SqT K (upd H1 t2 (.tup [.ref t])) t2 [.ref t] := SqT.of upd_same
  generalize upd H1 t2 (.tup [.ref t]) = H2 at *
  refine ⟨p, t2, [.ref L], [.ref t], rfl, rfl, hp2, hu2, by simp, sz (by simp), (fun h => by cases h), fun _ r nr => ?_⟩
  exact q _ r (g2.new nr) ⟨L, hL2.tk (tk_new nr), .inr ⟨t, rfl, tk_new nr _ _ ht2, SqT.of upd_same⟩⟩
def spOfSize (K : PySem.W.Frag) : Sp := fun vs H Q _ => ∃ (M : Mw) (Z : SS) (n : Nat), vs = [.ref Z.S, .int (n : Nat)] ∧ Mok M H ∧ StAt H Z ∧ n ≤ 6 ∧
  ∀ (H' : Hp) (p : Addr) (mt : Mat), Sg M Z H H' → MatAt K H' p mt → MatOk mt → lnSize mt.ln = n → Q (.ref p) H'
theorem ok_of_size {f : Addr} {fd : FuncData} (T : Bn mg) (F : Fun K "_law_of_size" "_law_of_size" s__law_of_size f fd) (D__law_draw : Def K mg "_law_draw" s__law_draw) (D__law_nested : Def K mg "_law_nested" s__law_nested)
    (G__law_draw : FnOk P w K mg base CX0 1 D__law_draw.f D__law_draw.fd ["_law_state", "_law_limit"] spDraw) (G__law_nested : FnOk P w K mg base CX0 8 D__law_nested.f D__law_nested.fd ["_law_state", "_law_members_here"] (spNested K 6)) :
    FnOk P w K mg base CX0 9 f fd ["_law_state", "_law_size_here"] (spOfSize K) := by
  refine F.ok sc__law_of_size (fun vs H Q E h => ?_) (fun cdv A outer s H vs Q E hr h => ?_)
  · obtain ⟨M, Z, n, rfl, _⟩ := h
    rfl
  · obtain ⟨M, Z, n, rfl, mk, hS, h6, q⟩ := h
    -- 0 _law_state, 1 _law_size_here, 2 _law_kind, 3 _law_vertices, 4 _law_arcs, 5 _law_rows, 6 _law_lines, 7 _law_k, 8 _law_thing, 9 _law_j
    refine ⟨_, (pss_cons (ps_set (i := 2) sc__law_of_size.nd rfl (.inl rfl) (pe_call G__law_draw (hr.mono (by first | decide | omega)) (by rfl) D__law_draw.g D__law_draw.F.kp (bd__law_draw D__law_draw.F) .nil pass0 (pa_cons (pv 0) (pa_cons pe_int pa_nil))))
      (pss_cons (ps_if (pt_cmpR op_eq (pv 2) pe_int (nomark _)) (pss_cons (ps_set (i := 3) sc__law_of_size.nd rfl (.inr rfl) (pe_op op_add pe_int (pe_call G__law_draw (hr.mono (by first | decide | omega)) (by rfl) D__law_draw.g D__law_draw.F.kp (bd__law_draw D__law_draw.F) .nil pass0 (pa_cons (pv 0) (pa_cons pe_int pa_nil)))))
      (pss_cons (ps_set (i := 4) sc__law_of_size.nd rfl (.inl rfl) (pe_callTy (call_tuple_ofK (K := K)) (by rfl) T.m_tuple (by decide +kernel) (pa_cons (pe_lc (own := [("_law_k", 7)]) (by rfl) sc__law_of_size.nd (pi_range1 (by rfl) T.m_range (pa_cons (pv 1) pa_nil)) (blkOk_by (by rfl)) (fun _ _ _ _ _ => (pg_name (i := 7) sc__law_of_size.nd rfl (.inl rfl))) (fun _ _ _ _ _ => pts_nil) (fun _ _ _ _ _ => (pe_tup (pa_cons (pe_call G__law_draw (hr.mono (by first | decide | omega)) (by rfl) D__law_draw.g D__law_draw.F.kp (bd__law_draw D__law_draw.F) .nil pass0 (pa_cons (pv 0) (pa_cons (pv 3) pa_nil))) (pa_cons (pe_call G__law_draw (hr.mono (by first | decide | omega)) (by rfl) D__law_draw.g D__law_draw.F.kp (bd__law_draw D__law_draw.F) .nil pass0 (pa_cons (pv 0) (pa_cons (pv 3) pa_nil))) pa_nil))))) pa_nil)))
      (pss_one (ps_ret (pe_tup (pa_cons (pe_tup (pa_cons pe_str (pa_cons (pv 3) (pa_cons (pv 4) pa_nil)))) pa_nil)))))) pss_nil)
      (pss_cons (ps_if (pt_cmpR op_eq (pv 2) pe_int (nomark _)) (pss_cons (ps_set (i := 5) sc__law_of_size.nd rfl (.inl rfl) (pe_callTy (call_tuple_ofK (K := K)) (by rfl) T.m_tuple (by decide +kernel) (pa_cons (pe_lc (own := [("_law_k", 7)]) (by rfl) sc__law_of_size.nd (pi_range1 (by rfl) T.m_range (pa_cons (pv 1) pa_nil)) (blkOk_by (by rfl)) (fun _ _ _ _ _ => (pg_name (i := 7) sc__law_of_size.nd rfl (.inl rfl))) (fun _ _ _ _ _ => pts_nil) (fun _ _ _ _ _ => (pe_callTy (call_tuple_ofK (K := K)) (by rfl) T.m_tuple (by decide +kernel) (pa_cons (pe_lc (own := [("_law_thing", 8)]) (by rfl) sc__law_of_size.nd (pi_range1 (by rfl) T.m_range (pa_cons pe_int pa_nil)) (blkOk_by (by rfl)) (fun _ _ _ _ _ => (pg_name (i := 8) sc__law_of_size.nd rfl (.inl rfl))) (fun _ _ _ _ _ => (pts_one (pt_cmpR op_eq (pe_call G__law_draw (hr.mono (by first | decide | omega)) (by rfl) D__law_draw.g D__law_draw.F.kp (bd__law_draw D__law_draw.F) .nil pass0 (pa_cons (pv 0) (pa_cons pe_int pa_nil))) pe_int (nomark _)))) (fun _ _ _ _ _ => (pv 8))) pa_nil)))) pa_nil)))
      (pss_one (ps_ret (pe_tup (pa_cons (pe_tup (pa_cons pe_str (pa_cons pe_int (pa_cons (pv 5) pa_nil)))) pa_nil))))) pss_nil)
      (pss_cons (ps_if (PW.pt (pw_and (pt_cmpR op_eq (pv 2) pe_int (nomark _)) (pw_and1 (pt_cmpR op_gt (pv 1) pe_int (nomark _))))) (pss_one (ps_ret (pe_tup (pa_cons (pe_tup (pa_cons pe_str (pa_cons (pv 1) (pa_cons (pe_callTy (call_tuple_ofK (K := K)) (by rfl) T.m_tuple (by decide +kernel) (pa_cons (pe_slice (sl_listK (K := K)) (pe_call G__law_nested (hr.mono (by first | decide | omega)) (by rfl) D__law_nested.g D__law_nested.F.kp (bd__law_nested D__law_nested.F) .nil pass0 (pa_cons (pv 0) (pa_cons (pe_listRg rfl (by rfl) T.m_list (prg_1 (by rfl) T.m_range (pv 1))) pa_nil))) (po_some (pe_call G__law_draw (hr.mono (by first | decide | omega)) (by rfl) D__law_draw.g D__law_draw.F.kp (bd__law_draw D__law_draw.F) .nil pass0 (pa_cons (pv 0) (pa_cons pe_int pa_nil)))) po_none) pa_nil)) pa_nil)))) pa_nil)))) pss_nil)
      (pss_cons (ps_set (i := 6) sc__law_of_size.nd rfl (.inl rfl) (pe_tup (pa_cons (pe_tup (pa_cons pe_str (pa_cons (pv 1) (pa_cons (pe_call G__law_draw (hr.mono (by first | decide | omega)) (by rfl) D__law_draw.g D__law_draw.F.kp (bd__law_draw D__law_draw.F) .nil pass0 (pa_cons (pv 0) (pa_cons (pe_op op_add (pv 1) pe_int) pa_nil))) pa_nil)))) pa_nil)))
      (pss_cons (ps_if (pt_cmpR op_eq (pe_call G__law_draw (hr.mono (by first | decide | omega)) (by rfl) D__law_draw.g D__law_draw.F.kp (bd__law_draw D__law_draw.F) .nil pass0 (pa_cons (pv 0) (pa_cons pe_int pa_nil))) pe_int (nomark _)) (pss_cons (ps_set (i := 5) sc__law_of_size.nd rfl (.inl rfl) (pe_callTy (call_tuple_ofK (K := K)) (by rfl) T.m_tuple (by decide +kernel) (pa_cons (pe_lc (own := [("_law_k", 7)]) (by rfl) sc__law_of_size.nd (pi_range1 (by rfl) T.m_range (pa_cons (pv 1) pa_nil)) (blkOk_by (by rfl)) (fun _ _ _ _ _ => (pg_name (i := 7) sc__law_of_size.nd rfl (.inl rfl))) (fun _ _ _ _ _ => pts_nil) (fun _ _ _ _ _ => (pe_callTy (call_tuple_ofK (K := K)) (by rfl) T.m_tuple (by decide +kernel) (pa_cons (pe_lc (own := [("_law_j", 9)]) (by rfl) sc__law_of_size.nd (pi_range1 (by rfl) T.m_range (pa_cons pe_int pa_nil)) (blkOk_by (by rfl)) (fun _ _ _ _ _ => (pg_name (i := 9) sc__law_of_size.nd rfl (.inl rfl))) (fun _ _ _ _ _ => pts_nil) (fun _ _ _ _ _ => (pe_call G__law_draw (hr.mono (by first | decide | omega)) (by rfl) D__law_draw.g D__law_draw.F.kp (bd__law_draw D__law_draw.F) .nil pass0 (pa_cons (pv 0) (pa_cons pe_int pa_nil))))) pa_nil)))) pa_nil)))
      (pss_one (ps_set (i := 6) sc__law_of_size.nd rfl (.inl rfl) (pe_tup (pa_cons (pe_tup (pa_cons pe_str (pa_cons pe_int (pa_cons pe_int (pa_cons (pv 5) pa_nil))))) pa_nil))))) pss_nil)
      (pss_cons (ps_if (pt_cmpR op_eq (pe_call G__law_draw (hr.mono (by first | decide | omega)) (by rfl) D__law_draw.g D__law_draw.F.kp (bd__law_draw D__law_draw.F) .nil pass0 (pa_cons (pv 0) (pa_cons pe_int pa_nil))) pe_int (nomark _)) (pss_one (ps_set (i := 6) sc__law_of_size.nd rfl (.inl rfl) (pe_op (op_catTK (K := K)) (pv 6) (pe_tup (pa_cons (pe_tup (pa_cons pe_str (pa_cons pe_int pa_nil))) pa_nil))))) pss_nil)
      (pss_one (ps_ret (pv 6)))))))))), ?_⟩
    refine ⟨.ref Z.S, rfl, M, Z, 4, rfl, mk, hS, by decide, by decide, fun H1 kd g1 hkd => ?_⟩
    refine ⟨_, rfl, rfl, _, rfl, ite_bool (fun h => ?_) (fun h => ?_)⟩
    · -- graph
      refine ⟨.ref Z.S, rfl, M, Z, 4, rfl, g1.b, g1.sb, by decide, by decide, fun H2 v0 g2 hv => ⟨_, _, rfl, rfl, ?_⟩⟩
      dsimp only
      rw [show (2 : Int) + ((v0 : Nat) : Int) = ((2 + v0 : Nat) : Int) by omega]
      generalize hv2 : 2 + v0 = v
      have g02 := g1.trans g2
      refine ⟨_, rfl, (n : Nat), rfl, by omega, by omega, fun D nD => ?_⟩
      rw [Int.toNat_natCast]
      refine lcS (K := K) (walk_range (lo := 0) (n := n)) g02.b g02.sb nD (by omega) (Rows K fun r => ∃ a b, r = [a, b] ∧ a < v ∧ b < v) Rows.nil (fun _ _ => trivial) (fun i x H3 H3' acc hi g3 hD hP y B C kB kC => ?_) (fun H3 acc g3 hD hl hP => ?_)
      · obtain ⟨rfl, rfl⟩ := y
        refine ⟨rfl, .ref Z.S, rfl, .int (v : Nat), rfl, M, Z, v, rfl, g3.b, g3.sb, by omega, by omega, fun H4 r g4 hr4 => ?_⟩
        refine ⟨.ref Z.S, rfl, .int (v : Nat), rfl, M, Z, v, rfl, g4.b, g4.sb, by omega, by omega, fun H5 r' g5 hr5 => ⟨(by decide : (2 : Nat) ≤ sizeLine), fun t nt => ?_⟩⟩
        have g6 := (g4.trans g5).new (o := .tup [.int (r : Nat), .int (r' : Nat)]) nt
        exact kB _ _ g6 fun hD6 => hP.put g6.tk ⟨t, rfl, SqT.of upd_same⟩ ⟨r, r', rfl, hr4, hr5⟩ hD6
      · obtain ⟨rows, hlen, ha, hR⟩ := hP
        obtain ⟨es, rfl, hes⟩ := pairs_of hR
        refine ⟨D, _, rfl, .inl ⟨SqL.of hD, fun t nt => ?_⟩⟩
        have g4 := g3.new (o := .tup acc) nt
        have ha4 := ha.mono fun _ _ z => TI.tk (tk_new (o := .tup acc) nt) z
        have ht4 : SqT K (upd H3 t (.tup acc)) t acc := SqT.of upd_same
        generalize upd H3 t (.tup acc) = H4 at g4 ha4 ht4
        refine ⟨_, rfl, _, rfl, (by decide : (3 : Nat) ≤ sizeLine), fun L nL => ?_⟩
        have g5 := g4.new (o := .tup [.str "graph", .int (v : Nat), .ref t]) nL
        have hL : LineAt K (upd H4 L (.tup [.str "graph", .int (v : Nat), .ref t])) L (.graph v es) := ⟨.ref t, SqT.of upd_same, t, acc, rfl, tk_new nL _ _ ht4, ha4.mono fun _ _ z => TI.tk (tk_new nL) z⟩
        generalize upd H4 L (.tup [.str "graph", .int (v : Nat), .ref t]) = H5 at g5 hL
        refine ⟨(by decide : (1 : Nat) ≤ sizeLine), fun p np => ?_⟩
        have hle : es.length = n := by rw [List.length_map] at hlen; exact hlen
        exact q _ p ⟨.graph v es, false⟩ (g02.trans (g5.new np)) (mat_one hL np) ⟨⟨hes, by omega⟩, by show es.length ≤ 6; omega, fun h => by cases h⟩ hle
    refine ⟨_, rfl, rfl, _, rfl, ite_bool (fun h => ?_) (fun h => ?_)⟩
    · -- choices
      refine ⟨_, rfl, (n : Nat), rfl, by omega, by omega, fun D nD => ?_⟩
      rw [Int.toNat_natCast]
      refine lcS (K := K) (walk_range (lo := 0) (n := n)) g1.b g1.sb nD (by omega) (Rows K fun r => ∀ t ∈ r, t < 4) Rows.nil (fun _ _ => trivial) (fun i x H3 H3' acc hi g3 hD hP y B C kB kC => ?_) (fun H3 acc g3 hD hl hP => ?_)
      · obtain ⟨rfl, rfl⟩ := y
        refine ⟨rfl, 4, rfl, by decide, by decide, fun D2 nD2 => ?_⟩
        refine lcS (K := K) (walk_range (lo := 0) (n := 4)) g3.b g3.sb nD2 (by decide) (fun i acc _ => ∃ l : List Nat, acc = nV l ∧ ∀ t ∈ l, t < i) ⟨[], rfl, fun t h => by cases h⟩ (fun _ _ => trivial) (fun i x H4 H4' acc hi g4 hD hP2 y B C kB kC => ?_) (fun H4 acc2 g4 hD2 hl hP2 => ?_)
        · obtain ⟨rfl, rfl⟩ := y
          obtain ⟨l, rfl, hlt⟩ := hP2
          refine ⟨rfl, .ref Z.S, rfl, M, Z, 3, rfl, g4.b, g4.sb, by decide, by decide, fun H5 r g5 hr => ⟨rfl, _, rfl, ite_bool (fun _ => ?_) (fun _ => ?_)⟩⟩
          · refine ⟨_, rfl, kB _ _ g5 fun _ => ⟨l ++ [i], by rw [nV_app]; show _ ++ [V.int (0 + (i : Nat))] = _; rw [Int.zero_add]; rfl, fun e he => ?_⟩⟩
            rcases List.mem_append.mp he with h | h
            · exact Nat.lt_succ_of_lt (hlt e h)
            · rw [List.mem_singleton.mp h]; exact Nat.lt_succ_self i
          · exact kC _ g5 ⟨l, rfl, fun e he => Nat.lt_succ_of_lt (hlt e he)⟩
        · obtain ⟨l, rfl, hlt⟩ := hP2
          refine ⟨D2, _, rfl, .inl ⟨SqL.of hD2, fun t nt => ?_⟩⟩
          have g5 := g4.new (o := .tup (nV l)) nt
          exact kB _ _ g5 fun hD6 => hP.put g5.tk ⟨t, rfl, SqT.of upd_same⟩ hlt hD6
      · obtain ⟨rows, hlen, ha, hR⟩ := hP
        refine ⟨D, _, rfl, .inl ⟨SqL.of hD, fun t nt => ?_⟩⟩
        have g4 := g3.new (o := .tup acc) nt
        have ha4 := ha.mono fun _ _ z => TI.tk (tk_new (o := .tup acc) nt) z
        have ht4 : SqT K (upd H3 t (.tup acc)) t acc := SqT.of upd_same
        generalize upd H3 t (.tup acc) = H4 at g4 ha4 ht4
        refine ⟨_, rfl, (by decide : (3 : Nat) ≤ sizeLine), fun L nL => ?_⟩
        have g5 := g4.new (o := .tup [.str "choices", .int 4, .ref t]) nL
        have hL : LineAt K (upd H4 L (.tup [.str "choices", .int 4, .ref t])) L (.choices 4 rows) := ⟨.ref t, SqT.of upd_same, t, acc, rfl, tk_new nL _ _ ht4, ha4.mono fun _ _ z => TI.tk (tk_new nL) z⟩
        generalize upd H4 L (.tup [.str "choices", .int 4, .ref t]) = H5 at g5 hL
        refine ⟨(by decide : (1 : Nat) ≤ sizeLine), fun p np => ?_⟩
        exact q _ p ⟨.choices 4 rows, false⟩ (g1.trans (g5.new np)) (mat_one hL np) ⟨hR, by show rows.length ≤ 6; omega, fun h => by cases h⟩ hlen
    refine ⟨_, rfl, rfl, _, rfl, ?_⟩
    have hgp : ∀ {us : List V} {gs : List (List Nat × Nat)} {H : Hp} (r : Nat), All2 (TBd K H) us gs → All2 (TBd K H) (us.drop r) (gs.drop r) := fun {us gs H} r h => by
      induction h generalizing r with
      | nil => cases r <;> exact .nil
      | cons a _ ih => cases r with
        | zero => exact .cons a (ih 0)
        | succ r => exact ih r
    cases hk2 : decide (V.int ((kd : Nat) : Int) = V.int 2) <;> cases hk3 : decide ((0 : Int) < ((n : Nat) : Int))
    case' true.true =>
      have hn0 : 0 < n := by have := of_decide_eq_true hk3; omega
      refine iteT ⟨_, rfl, _, _, rfl, rfl, _, rfl, ?_⟩
      rw [hk3]
      refine iteT ⟨_, rfl, .ref Z.S, rfl, _, rfl, (n : Nat), rfl, RgOk.of_le (by decide) (by omega) (by decide) (by omega), fun t nt => ?_⟩
      rw [nV_range]
      have g2 := g1.new (o := .lst (nV (List.range n))) nt
      have ht2 : (upd H1 t (.lst (nV (List.range n)))) t = some (.lst (nV (List.range n))) := upd_same
      have ntS := g1.sb.nen nt
      generalize upd H1 t (.lst (nV (List.range n))) = H2 at g2 ht2
      refine ⟨M, Z, t, n, List.range n, rfl, g2.b, g2.sb, ht2, ntS, List.nodup_range, by rw [List.length_range]; omega, by rw [List.length_range]; omega, by rw [List.length_range]; omega, fun H3 p us gs g3 np hp hus hN => ?_⟩
      have npS := g2.sb.nen np
      refine ⟨.ref Z.S, rfl, M, Z, 2, rfl, g3.b, g3.sb, by decide, by decide, fun H4 r g4 hr => ⟨(r : Nat), rfl, ?_⟩⟩
      have hp4 := g4.at hp npS
      have hgs := TTBd.tk g4.tk hus
      have hlen : 1 ≤ us.length := by rw [hus.len]; obtain ⟨⟨b, rest, e, _⟩, _⟩ := hN; rw [e]; simp
      refine ⟨p, _, rfl, SqL.of hp4, fun sl nsl => ?_⟩
      rw [cut_from us (by omega)]
      have g5 := ((g2.trans g3).trans g4).new (o := .lst (us.drop r)) nsl
      have hs5 : (upd H4 sl (.lst (us.drop r))) sl = some (.lst (us.drop r)) := upd_same
      have hg5 := TTBd.tk (tk_new (o := .lst (us.drop r)) nsl) (hgp r hgs)
      generalize upd H4 sl (.lst (us.drop r)) = H5 at g5 hs5 hg5
      refine ⟨sl, _, rfl, .inl ⟨SqL.of hs5, fun t nt => ?_⟩⟩
      have g6 := g5.new (o := .tup (us.drop r)) nt
      have hg6 := TTBd.tk (tk_new (o := .tup (us.drop r)) nt) hg5
      have ht6 : SqT K (upd H5 t (.tup (us.drop r))) t (us.drop r) := SqT.of upd_same
      generalize upd H5 t (.tup (us.drop r)) = H6 at g6 hg6 ht6
      refine ⟨(by decide : (3 : Nat) ≤ sizeLine), fun L nL => ?_⟩
      have g7 := g6.new (o := .tup [.str "bounds", .int (n : Nat), .ref t]) nL
      have hL : LineAt K (upd H6 L (.tup [.str "bounds", .int (n : Nat), .ref t])) L (.bounds n (gs.drop r)) := ⟨.ref t, SqT.of upd_same, t, _, rfl, tk_new nL _ _ ht6, TTBd.tk (tk_new nL) hg6⟩
      generalize upd H6 L (.tup [.str "bounds", .int (n : Nat), .ref t]) = H7 at g7 hL
      refine ⟨(by decide : (1 : Nat) ≤ sizeLine), fun p np => ?_⟩
      refine q _ p ⟨.bounds n (gs.drop r), false⟩ (g7.new np) (mat_one hL np) ⟨⟨?_, Bst.mem (List.range n), ?_, fun x hx => Bst.mem_true.mpr (List.mem_range.mpr hx)⟩, h6, fun h => by cases h⟩ rfl
      · have := hN.len; rw [List.length_range] at this; rw [List.length_drop]; omega
      · obtain ⟨b, rest, e, hf⟩ := hN.hd
        have hf2 := hN.fam
        rcases (by omega : r = 0 ∨ r = 1) with rfl | rfl
        · exact hf2
        · rw [e]; exact hf
    case' true.false => refine iteT ⟨_, rfl, _, _, rfl, rfl, _, rfl, ?_⟩; rw [hk3]; refine iteF ?_
    case' false.true => refine iteF (iteF ?_)
    case' false.false => refine iteF (iteF ?_)
    all_goals
      refine ⟨_, rfl, .ref Z.S, rfl, _, rfl, _, _, rfl, rfl, ?_⟩
      dsimp only
      rw [show ((n : Nat) : Int) + 1 = ((n + 1 : Nat) : Int) by omega]
      refine ⟨M, Z, n + 1, rfl, g1.b, g1.sb, by omega, by omega, fun H2 r g2 hr => ?_⟩
      refine ⟨(by decide : (3 : Nat) ≤ sizeLine), fun L nL => ?_⟩
      have g3 := (g1.trans g2).new (o := .tup [.str "uniform", .int (n : Nat), .int (r : Nat)]) nL
      have hL : LineAt K (upd H2 L (.tup [.str "uniform", .int (n : Nat), .int (r : Nat)])) L (.uniform n r) := SqT.of upd_same
      generalize upd H2 L (.tup [.str "uniform", .int (n : Nat), .int (r : Nat)]) = H3 at g3 hL
      refine ⟨(by decide : (1 : Nat) ≤ sizeLine), fun p np => ?_⟩
      have g4 := g3.new (o := .tup [.ref L]) np
      have hL4 := hL.tk (tk_new (K := K) (o := .tup [.ref L]) np)
      have hp4 : SqT K (upd H3 p (.tup [.ref L])) p [.ref L] := SqT.of upd_same
      generalize upd H3 p (.tup [.ref L]) = H4 at g4 hL4 hp4
      refine ⟨.ref Z.S, rfl, M, Z, 2, rfl, g4.b, g4.sb, by decide, by decide, fun H5 r2 g5 hr2 => ⟨rfl, _, rfl, ite_bool (fun _ => ?_) (fun _ => ?_)⟩⟩
      · -- vectors
        refine ⟨_, rfl, (n : Nat), rfl, by omega, by omega, fun D nD => ?_⟩
        rw [Int.toNat_natCast]
        refine lcS (K := K) (walk_range (lo := 0) (n := n)) g5.b g5.sb nD (by omega) (Rows K fun r => ∃ c, c < 8 ∧ r = Bst.bits c) Rows.nil (fun _ _ => trivial) (fun i x H6 H6' acc hi g6 hD hP y B C kB kC => ?_) (fun H6 acc g6 hD hl hP => ?_)
        · obtain ⟨rfl, rfl⟩ := y
          refine ⟨rfl, 3, rfl, by decide, by decide, fun D2 nD2 => ?_⟩
          refine lcS (K := K) (walk_range (lo := 0) (n := 3)) g6.b g6.sb nD2 (by decide) (fun i acc _ => ∃ l : List Nat, acc = nV l ∧ l.length = i ∧ ∀ t ∈ l, t < 2) ⟨[], rfl, rfl, fun t h => by cases h⟩ (fun _ _ => trivial) (fun i x H7 H7' acc hi g7 hD hP2 y B C kB kC => ?_) (fun H7 acc2 g7 hD2 hl hP2 => ?_)
          · obtain ⟨rfl, rfl⟩ := y
            obtain ⟨l, rfl, hlen, hlt⟩ := hP2
            refine ⟨rfl, .ref Z.S, rfl, M, Z, 2, rfl, g7.b, g7.sb, by decide, by decide, fun H8 r8 g8 hr8 => ?_⟩
            refine kB _ _ g8 fun _ => ⟨l ++ [r8], by rw [nV_app]; rfl, by rw [List.length_append, hlen]; rfl, fun e he => ?_⟩
            rcases List.mem_append.mp he with h | h
            · exact hlt e h
            · rw [List.mem_singleton.mp h]; exact hr8
          · obtain ⟨l, rfl, hlen, hlt⟩ := hP2
            refine ⟨D2, _, rfl, .inl ⟨SqL.of hD2, fun t nt => ?_⟩⟩
            have g8 := g7.new (o := .tup (nV l)) nt
            exact kB _ _ g8 fun hD6 => hP.put g8.tk ⟨t, rfl, SqT.of upd_same⟩ (bits_of hlen hlt) hD6
        · obtain ⟨rows, hlen, ha, hR⟩ := hP
          obtain ⟨cs, rfl, hcs⟩ := cols_of hR
          refine ⟨D, _, rfl, .inl ⟨SqL.of hD, fun t nt => ?_⟩⟩
          have g7 := (g4.trans (g5.trans g6)).new (o := .tup acc) nt
          have ha7 := ha.mono fun _ _ z => TI.tk (tk_new (o := .tup acc) nt) z
          have ht7 : SqT K (upd H6 t (.tup acc)) t acc := SqT.of upd_same
          generalize upd H6 t (.tup acc) = H7 at g7 ha7 ht7
          refine ⟨_, rfl, (by decide : (4 : Nat) ≤ sizeLine), fun L2 nL2 => ?_⟩
          have g8 := g7.new (o := .tup [.str "vectors", .int 2, .int 3, .ref t]) nL2
          have hL8 : LineAt K (upd H7 L2 (.tup [.str "vectors", .int 2, .int 3, .ref t])) L2 (.vectors cs) := ⟨.ref t, SqT.of upd_same, t, acc, rfl, tk_new nL2 _ _ ht7, ha7.mono fun _ _ z => TI.tk (tk_new nL2) z⟩
          generalize upd H7 L2 (.tup [.str "vectors", .int 2, .int 3, .ref t]) = H8 at g8 hL8
          refine ⟨(by decide : (1 : Nat) ≤ sizeLine), fun p2 np2 => ?_⟩
          have hle : cs.length = n := by rw [List.length_map] at hlen; exact hlen
          have g9 := g8.new (o := .tup [.ref L2]) np2
          have hL9 := hL8.tk (tk_new (K := K) (o := .tup [.ref L2]) np2)
          have hp9 : SqT K (upd H8 p2 (.tup [.ref L2])) p2 [.ref L2] := SqT.of upd_same
          generalize upd H8 p2 (.tup [.ref L2]) = H9 at g9 hL9 hp9
          refine ⟨.ref Z.S, rfl, M, Z, 3, rfl, g9.b, g9.sb, by decide, by decide, fun H10 r10 g10 hr10 => ⟨rfl, _, rfl, ite_bool (fun _ => ?_) (fun _ => ⟨_, rfl, q _ p2 ⟨.vectors cs, false⟩ (g9.trans g10) ⟨L2, hL9.tk g10.tk, .inl ⟨rfl, g10.t hp9⟩⟩ ⟨hcs, by (show cs.length ≤ 6); omega, fun h => by cases h⟩ hle⟩)⟩⟩
          exact ⟨_, rfl, (by decide : (2 : Nat) ≤ sizeLine), fun t nt => ⟨(by decide : (1 : Nat) ≤ sizeLine), fun t2 nt2 => mat_two (g9.trans g10) (hL9.tk g10.tk) (g10.t hp9) (fun H' p' g' hm => ⟨_, rfl, q H' p' _ g' hm ⟨hcs, by (show cs.length ≤ 6); omega, fun _ => trivial⟩ hle⟩) t nt t2 nt2⟩⟩
      · refine ⟨.ref Z.S, rfl, M, Z, 3, rfl, g5.b, g5.sb, by decide, by decide, fun H10 r10 g10 hr10 => ⟨rfl, _, rfl, ite_bool (fun _ => ?_) (fun _ => ⟨_, rfl, q _ p ⟨.uniform n r, false⟩ (g4.trans (g5.trans g10)) ⟨L, hL4.tk (g5.trans g10).tk, .inl ⟨rfl, (g5.trans g10).t hp4⟩⟩ ⟨trivial, h6, fun h => by cases h⟩ rfl⟩)⟩⟩
        exact ⟨_, rfl, (by decide : (2 : Nat) ≤ sizeLine), fun t nt => ⟨(by decide : (1 : Nat) ≤ sizeLine), fun t2 nt2 => mat_two (g4.trans (g5.trans g10)) (hL4.tk (g5.trans g10).tk) ((g5.trans g10).t hp4) (fun H' p' g' hm => ⟨_, rfl, q H' p' _ g' hm ⟨trivial, h6, fun _ => trivial⟩ rfl⟩) t nt t2 nt2⟩⟩
end
end Bw

set_option Elab.async false
set_option linter.all false
set_option maxRecDepth 100000
set_option maxHeartbeats 2000000
namespace Bw
open PySem PySem.Spec PyProof.Rows L2
section
variable {P : Program} {w : World} {K : PySem.W.Frag} {mg : Str → Option Value} {base : Heap}
theorem MatAt.tk {H H' : Hp} {a : Addr} {m : Mat} (h : MatAt K H a m) (g : Tk K H H') : MatAt K H' a m := by
  obtain ⟨L, hL, h⟩ := h
  refine ⟨L, hL.tk g, h.imp (fun ⟨a, b⟩ => ⟨a, g _ _ b⟩) fun ⟨D, a, b, c⟩ => ⟨D, a, g _ _ b, g _ _ c⟩⟩
def spTwo (K : PySem.W.Frag) : Sp := fun vs H Q _ => ∃ (M : Mw) (Z : SS), vs = [.ref Z.S, .int 6] ∧ Mok M H ∧ StAt H Z ∧
  ∀ (H' : Hp) (p a b : Addr) (n : Nat) (mt mt2 : Mat), Sg M Z H H' → H' p = some (.lst [.ref a, .ref b, .int (n : Nat)]) → p ≠ Z.S → n ≤ 6 → MatAt K H' a mt → MatOk mt → lnSize mt.ln = n → MatAt K H' b mt2 → MatOk mt2 → lnSize mt2.ln = n → Q (.ref p) H'
theorem ok_two {f : Addr} {fd : FuncData} (T : Bn mg) (F : Fun K "_law_two" "_law_two" s__law_two f fd) (D__law_draw : Def K mg "_law_draw" s__law_draw) (D__law_of_size : Def K mg "_law_of_size" s__law_of_size)
    (G__law_draw : FnOk P w K mg base CX0 1 D__law_draw.f D__law_draw.fd ["_law_state", "_law_limit"] spDraw) (G__law_of_size : FnOk P w K mg base CX0 9 D__law_of_size.f D__law_of_size.fd ["_law_state", "_law_size_here"] (spOfSize K)) :
    FnOk P w K mg base CX0 10 f fd ["_law_state", "_law_most"] (spTwo K) := by
  refine F.ok sc__law_two (fun vs H Q E h => ?_) (fun cdv A outer s H vs Q E hr h => ?_)
  · obtain ⟨M, Z, rfl, _⟩ := h
    rfl
  · obtain ⟨M, Z, rfl, mk, hS, q⟩ := h
    -- 0 _law_state, 1 _law_most, 2 _law_size_here
    refine ⟨_, (pss_cons (ps_set (i := 2) sc__law_two.nd rfl (.inl rfl) (pe_call G__law_draw (hr.mono (by first | decide | omega)) (by rfl) D__law_draw.g D__law_draw.F.kp (bd__law_draw D__law_draw.F) .nil pass0 (pa_cons (pv 0) (pa_cons (pe_op op_add (pv 1) pe_int) pa_nil))))
      (pss_one (ps_ret (pe_lst (pa_cons (pe_call G__law_of_size (hr.mono (by first | decide | omega)) (by rfl) D__law_of_size.g D__law_of_size.F.kp (bd__law_of_size D__law_of_size.F) .nil pass0 (pa_cons (pv 0) (pa_cons (pv 2) pa_nil))) (pa_cons (pe_call G__law_of_size (hr.mono (by first | decide | omega)) (by rfl) D__law_of_size.g D__law_of_size.F.kp (bd__law_of_size D__law_of_size.F) .nil pass0 (pa_cons (pv 0) (pa_cons (pv 2) pa_nil))) (pa_cons (pv 2) pa_nil))))))), ?_⟩
    refine ⟨.ref Z.S, rfl, _, rfl, _, _, rfl, rfl, M, Z, 7, rfl, mk, hS, by decide, by decide, fun H1 n g1 hn => ?_⟩
    refine ⟨.ref Z.S, rfl, _, rfl, M, Z, n, rfl, g1.b, g1.sb, by omega, fun H2 a mt g2 hA ok hsz => ?_⟩
    refine ⟨.ref Z.S, rfl, _, rfl, M, Z, n, rfl, g2.b, g2.sb, by omega, fun H3 b mt2 g3 hB ok2 hsz2 => ?_⟩
    refine ⟨_, rfl, (by decide : (3 : Nat) ≤ sizeLine), fun p np => ?_⟩
    have g4 := (g1.trans (g2.trans g3)).new (o := .lst [.ref a, .ref b, .int (n : Nat)]) np
    exact q _ p a b n mt mt2 g4 upd_same (g3.sb.nen np) (by omega) ((hA.tk g3.tk).tk (tk_new np)) ok hsz (hB.tk (tk_new np)) ok2 hsz2
end
end Bw

set_option Elab.async false
set_option linter.all false
set_option maxRecDepth 100000
set_option maxHeartbeats 2000000
namespace Bw
open PySem PySem.Spec PyProof.Rows L2
/-- a comprehension: Pd by the turn, the list as it stands, the heap -/
theorem lcG {M : Mw} {J : It} {n : Nat} {G : Hp → Prop} {Y : Nat → Hp → V → Hp → Prop} {g : TG} {tt : TT} {te : TE} {vs : List Nat} {σ : L2.St} {H1 : Hp} {D : Addr} {Qd : Hp → Prop}
    (w : Walk J n G Y) (mk : Mok M H1) (nD : H1 D = none) (hn : n ≤ 10000) (Pd : Nat → List V → Hp → Prop) (h0 : Pd 0 [] (upd H1 D (.lst []))) (hG : ∀ H, Go M H1 H → G H)
    (hs : ∀ i x H H' acc, i < n → Go M H1 H → H D = some (.lst acc) → Pd i acc H → Y i H x H' → ∀ (B : V → Hp → Prop) (C : Hp → Prop),
      (∀ y H4, Go M H H4 → (H4 D = some (.lst acc) → Pd (i + 1) (acc ++ [y]) (upd H4 D (.lst (acc ++ [y])))) → B y H4) → (∀ H3, Go M H H3 → Pd (i + 1) acc H3 → C H3) →
      g x (wipe σ vs) H' fun σ2 H2 => wipe σ2 vs = wipe σ vs ∧ tt σ2 H2 fun b H3 => if b = true then te σ2 H3 fun y H4 => B y H4 else C H3)
    (hd : ∀ H acc, Go M H1 H → H D = some (.lst acc) → acc.length ≤ n → Pd n acc H → Qd H) : LcGoal J g tt te vs σ H1 D Qd := by
  refine lc_it w (fun i H => Go M H1 H ∧ ∃ acc, H D = some (.lst acc) ∧ acc.length ≤ i ∧ Pd i acc H) ⟨(Go.refl mk).new nD, [], upd_same, Nat.le_refl _, h0⟩ (fun i H _ h => hG H h.1) (fun i x H H' hi ⟨g1, acc, hD, hl, hP⟩ y => ?_) (fun H ⟨g1, acc, hD, hl, hP⟩ => hd H acc g1 hD hl hP)
  refine hs i x H H' acc hi g1 hD hP y (fun y H4 => ∃ acc, H4 D = some (.lst acc) ∧ acc.length < sizeLine ∧ (Go M H1 (upd H4 D (.lst (acc ++ [y]))) ∧ ∃ acc2, (upd H4 D (.lst (acc ++ [y]))) D = some (.lst acc2) ∧ acc2.length ≤ i + 1 ∧ Pd (i + 1) acc2 (upd H4 D (.lst (acc ++ [y]))))) _ (fun y H4 g4 hp => ?_) (fun H3 g3 hp => ⟨g1.trans g3, acc, g3.at hD, by omega, hp⟩)
  have hD4 := g4.at hD
  exact ⟨acc, hD4, szl (by omega), (g1.trans g4).set nD hD4, acc ++ [y], upd_same, by rw [List.length_append, List.length_singleton]; omega, hp hD4⟩
theorem all2_mono_mem {α β : Type} {R R' : α → β → Prop} {as : List α} {bs : List β} (h : All2 R as bs) (k : ∀ a ∈ as, ∀ b, R a b → R' a b) : All2 R' as bs := by
  induction h with
  | nil => exact .nil
  | cons r _ ih => exact .cons (k _ List.mem_cons_self _ r) (ih fun a ha => k a (List.mem_cons_of_mem _ ha))
theorem sum_ofNat : ∀ l : List Nat, (l.map Int.ofNat).sum = ((l.sum : Nat) : Int)
  | [] => rfl
  | x :: l => by
    rw [List.map_cons, List.sum_cons, List.sum_cons, sum_ofNat l]
    show ((x : Nat) : Int) + _ = _
    omega
theorem walk_rg0 {n : Nat} : Walk (Itr 0 n) n (fun _ => True) (YFn fun i => .int (i : Nat)) := by
  have := walk_range (lo := 0) (n := n)
  simp only [Int.zero_add] at this
  exact this
/-! ### codes -/
def pw15 : List Nat := (List.range 15).map fun e => 2 ^ e
def codeOf (l : List Nat) : Nat := (l.map fun e => 2 ^ e).sum
def bs (c : Nat) : Bst.S := fun e => decide (c / 2 ^ e % 2 = 1)
theorem pw_at {e : Nat} (h : e < 15) : (nV pw15)[e]? = some (.int ((2 ^ e : Nat) : Nat)) := nV_get (by unfold pw15; rw [List.getElem?_map, List.getElem?_range h]; rfl)
section
variable {P : Program} {w : World} {K : PySem.W.Frag} {mg : Str → Option Value} {base : Heap}
def spPowers : Sp := fun vs H Q _ => ∃ (M : Mw), vs = [] ∧ Mok M H ∧ ∀ (H' : Hp) (p : Addr), Go M H H' → H p = none → H' p = some (.lst (nV pw15)) → Q (.ref p) H'
theorem ok_powers {k : Nat} {f : Addr} {fd : FuncData} (T : Bn mg) (F : Fun K "_law_powers" "_law_powers" s__law_powers f fd) : FnOk P w K mg base CX0 (k + 1) f fd [] spPowers := by
  refine F.ok sc__law_powers (fun vs H Q E h => ?_) (fun cdv A outer s H vs Q E hr h => ?_)
  · obtain ⟨M, rfl, _⟩ := h
    rfl
  · obtain ⟨M, rfl, mk, q⟩ := h
    refine ⟨_, (pss_one (ps_ret (pe_lst (pa_cons pe_int (pa_cons pe_int (pa_cons pe_int (pa_cons pe_int (pa_cons pe_int (pa_cons pe_int (pa_cons pe_int (pa_cons pe_int (pa_cons pe_int (pa_cons pe_int (pa_cons pe_int (pa_cons pe_int (pa_cons pe_int (pa_cons pe_int (pa_cons pe_int pa_nil)))))))))))))))))), ?_⟩
    refine ⟨by show 15 ≤ sizeLine; decide, fun p np => q _ p ((Go.refl mk).new np) np ?_⟩
    rw [upd_same]
    rfl
def spCode (K : PySem.W.Frag) : Sp := fun vs H Q _ => ∃ (M : Mw) (a : Addr) (l : List Nat), vs = [.ref a] ∧ Mok M H ∧ SqL K H a (nV l) ∧ (∀ e ∈ l, e < 15) ∧ l.length ≤ 1000 ∧ ∀ (H' : Hp), Go M H H' → Q (.int (codeOf l : Nat)) H'
theorem ok_code {f : Addr} {fd : FuncData} (T : Bn mg) (F : Fun K "_law_code" "_law_code" s__law_code f fd) (D__law_powers : Def K mg "_law_powers" s__law_powers) (G__law_powers : FnOk P w K mg base CX0 1 D__law_powers.f D__law_powers.fd [] spPowers) : FnOk P w K mg base CX0 2 f fd ["_law_those"] (spCode K) := by
  refine F.ok sc__law_code (fun vs H Q E h => ?_) (fun cdv A outer s H vs Q E hr h => ?_)
  · obtain ⟨M, a, l, rfl, _⟩ := h
    rfl
  · obtain ⟨M, a, l, rfl, mk, hA, hl, hlen, q⟩ := h
    -- 0 _law_those, 1 _law_powers_here, 2 _law_e
    refine ⟨_, (pss_cons (ps_set (i := 1) sc__law_code.nd rfl (.inr rfl) (pe_call0 G__law_powers (hr.mono (by first | decide | omega)) (by rfl) D__law_powers.g D__law_powers.F.kp (bd__law_powers D__law_powers.F) .nil pass0))
      (pss_one (ps_ret (pe_callB (cr_sumK (K := K) rfl) (by rfl) T.m_sum (by decide +kernel) (pa_cons (pe_lc (own := [("_law_e", 2)]) (by rfl) sc__law_code.nd (pi_listK (K := K) (pv 0)) (blkOk_by (by rfl)) (fun _ _ _ _ _ => (pg_name (i := 2) sc__law_code.nd rfl (.inl rfl))) (fun _ _ _ _ _ => pts_nil) (fun _ _ _ _ _ => (pe_ix (ix_listK (K := K)) (pv 1) (pv 2) (fun _ _ => rfl)))) pa_nil))))), ?_⟩
    refine ⟨M, rfl, mk, fun H1 p g1 np hp => ?_⟩
    refine ⟨.ref a, rfl, a, rfl, ⟨_, g1.l hA⟩, fun D nD => lcL (M := M) (g1.l hA) g1.b nD (fun e => some (.int ((2 ^ e : Nat) : Nat))) (by omega) (fun i e H2 he g2 B C kB kC => ?_) (fun H2 g2 hD => ?_)⟩
    · have hel := hl e (List.mem_of_getElem? he)
      exact ⟨rfl, .ref p, rfl, .int (e : Nat), rfl, p, _, _, _, rfl, rfl, SqL.of (g2.at hp), atI_nat (pw_at hel), kB _ _ (.refl g2.b) rfl⟩
    · rw [fm_map (h := fun e => 2 ^ e)] at hD
      refine ⟨D, (l.map fun e => 2 ^ e).map Int.ofNat, rfl, by rw [int_n]; exact SqL.of hD, ?_⟩
      rw [sum_ofNat]
      exact q _ (g1.trans g2)
def spMembers : Sp := fun vs H Q _ => ∃ (M : Mw) (c n : Nat), vs = [.int (c : Nat), .int (n : Nat)] ∧ Mok M H ∧ n ≤ 15 ∧ ∀ (H' : Hp) (p : Addr), Go M H H' → H p = none → H' p = some (.lst (nV (Bst.lst n (bs c)))) → Q (.ref p) H'
theorem ok_members {f : Addr} {fd : FuncData} (T : Bn mg) (F : Fun K "_law_members" "_law_members" s__law_members f fd) (D__law_powers : Def K mg "_law_powers" s__law_powers) (G__law_powers : FnOk P w K mg base CX0 1 D__law_powers.f D__law_powers.fd [] spPowers) : FnOk P w K mg base CX0 2 f fd ["_law_code_here", "_law_size_here"] spMembers := by
  refine F.ok sc__law_members (fun vs H Q E h => ?_) (fun cdv A outer s H vs Q E hr h => ?_)
  · obtain ⟨M, c, n, rfl, _⟩ := h
    rfl
  · obtain ⟨M, c, n, rfl, mk, hn, q⟩ := h
    -- 0 _law_code_here, 1 _law_size_here, 2 _law_powers_here, 3 _law_e
    refine ⟨_, (pss_cons (ps_set (i := 2) sc__law_members.nd rfl (.inr rfl) (pe_call0 G__law_powers (hr.mono (by first | decide | omega)) (by rfl) D__law_powers.g D__law_powers.F.kp (bd__law_powers D__law_powers.F) .nil pass0))
      (pss_one (ps_ret (pe_lc (own := [("_law_e", 3)]) (by rfl) sc__law_members.nd (pi_range1 (by rfl) T.m_range (pa_cons (pv 1) pa_nil)) (blkOk_by (by rfl)) (fun _ _ _ _ _ => (pg_name (i := 3) sc__law_members.nd rfl (.inl rfl))) (fun _ _ _ _ _ => (pts_one (pt_cmpR op_eq (pe_op op_mod (pe_callTy call_int1 (by rfl) T.m_int (by decide +kernel) (pa_cons (pe_op op_fdiv (pe_callTy call_int1 (by rfl) T.m_int (by decide +kernel) (pa_cons (pv 0) pa_nil)) (pe_ix (ix_listK (K := K)) (pv 2) (pv 3) (fun _ _ => rfl))) pa_nil)) pe_int) pe_int (nomark _)))) (fun _ _ _ _ _ => (pv 3)))))), ?_⟩
    refine ⟨M, rfl, mk, fun H1 p g1 np hp => ?_⟩
    refine ⟨_, rfl, (n : Nat), rfl, by omega, by omega, fun D nD => ?_⟩
    rw [Int.toNat_natCast]
    refine lcR (n := n) (M := M) g1.b nD (fun e => if bs c e = true then some (.int (e : Nat)) else none) (by omega) (fun e H2 he g2 B C kB kC => ?_) (fun H2 g2 hD => ?_)
    · have hp2 := g2.at hp
      have hpos : 0 < 2 ^ e := Nat.pow_pos (by decide)
      have hle : 2 ^ e ≤ 2 ^ 14 := Nat.pow_le_pow_right (by decide) (by omega)
      refine ⟨rfl, _, rfl, .inl ⟨_, rfl, .ref p, rfl, _, rfl, p, _, _, _, rfl, rfl, SqL.of hp2, atI_nat (pw_at (by omega)), _, _, rfl, rfl, ⟨by (show (0 : Int) < ((2 ^ e : Nat) : Int)); omega, by (show ((2 ^ e : Nat) : Int) < 1073741824); omega⟩, ?_⟩⟩
      refine .inl ⟨_, rfl, _, _, rfl, rfl, by (show (0 : Int) < 2); decide, rfl, _, rfl, ?_⟩
      have ed : decide (V.int (((c : Nat) : Int) / ((2 ^ e : Nat) : Int) % 2) = V.int 1) = bs c e := by
        unfold bs
        rw [decide_eq_decide]
        have h1 : (((c : Nat) : Int) / ((2 ^ e : Nat) : Int) % 2) = ((c / 2 ^ e % 2 : Nat) : Int) := by simp
        rw [h1]
        exact ⟨fun z => by have := V.int.inj z; omega, fun z => by rw [z]; rfl⟩
      rw [ed]
      refine ite_bool (fun h => ⟨_, rfl, kB _ _ (.refl g2.b) (by rw [if_pos h])⟩) (fun h => kC _ (.refl g2.b) (by rw [if_neg (by rw [h]; simp)]))
    · rw [fm_filter] at hD
      exact q _ D (g1.trans g2) (g1.back nD) hD
/-- the sets by their codes -/
def codes (n : Nat) : List (List Nat) := (List.range (2 ^ n)).map fun c => Bst.lst n (bs c)
def spEvery : Sp := fun vs H Q _ => ∃ (M : Mw) (n : Nat), vs = [.int (n : Nat)] ∧ Mok M H ∧ n ≤ 6 ∧ ∀ (H' : Hp) (p : Addr) (us : List V), Go M H H' → H p = none → H' p = some (.lst us) → All2 (LAt H') us (codes n) → (∀ u ∈ us, u ≠ .ref p) → Q (.ref p) H'
theorem ok_every {f : Addr} {fd : FuncData} (T : Bn mg) (F : Fun K "_law_every" "_law_every" s__law_every f fd) (D__law_powers : Def K mg "_law_powers" s__law_powers) (G__law_powers : FnOk P w K mg base CX0 1 D__law_powers.f D__law_powers.fd [] spPowers)
    (D__law_members : Def K mg "_law_members" s__law_members) (G__law_members : FnOk P w K mg base CX0 2 D__law_members.f D__law_members.fd ["_law_code_here", "_law_size_here"] spMembers) : FnOk P w K mg base CX0 3 f fd ["_law_size_here"] spEvery := by
  refine F.ok sc__law_every (fun vs H Q E h => ?_) (fun cdv A outer s H vs Q E hr h => ?_)
  · obtain ⟨M, n, rfl, _⟩ := h
    rfl
  · obtain ⟨M, n, rfl, mk, hn, q⟩ := h
    -- 0 _law_size_here, 1 _law_powers_here, 2 _law_code_here
    refine ⟨_, (pss_cons (ps_set (i := 1) sc__law_every.nd rfl (.inl rfl) (pe_call0 G__law_powers (hr.mono (by first | decide | omega)) (by rfl) D__law_powers.g D__law_powers.F.kp (bd__law_powers D__law_powers.F) .nil pass0))
      (pss_one (ps_ret (pe_lc (own := [("_law_code_here", 2)]) (by rfl) sc__law_every.nd (pi_range1 (by rfl) T.m_range (pa_cons (pe_ix (ix_listK (K := K)) (pv 1) (pv 0) (fun _ _ => rfl)) pa_nil)) (blkOk_by (by rfl)) (fun _ _ _ _ _ => (pg_name (i := 2) sc__law_every.nd rfl (.inl rfl))) (fun _ _ _ _ _ => pts_nil) (fun _ _ _ _ _ => (pe_call G__law_members (hr.mono (by first | decide | omega)) (by rfl) D__law_members.g D__law_members.F.kp (bd__law_members D__law_members.F) .nil pass0 (pa_cons (pv 2) (pa_cons (pv 0) pa_nil)))))))), ?_⟩
    have h64 : 2 ^ n ≤ 64 := Nat.pow_le_pow_right (by decide) hn
    refine ⟨M, rfl, mk, fun H1 p g1 np hp => ?_⟩
    refine ⟨.ref p, rfl, _, rfl, p, _, _, _, rfl, rfl, SqL.of hp, atI_nat (pw_at (by omega)), ?_⟩
    have hz : (0 : Int) ≤ ((2 ^ n : Nat) : Int) ∧ ((2 ^ n : Nat) : Int) ≤ 64 := ⟨Int.natCast_nonneg _, Int.ofNat_le.mpr h64⟩
    generalize hz2 : ((2 ^ n : Nat) : Int) = z at hz
    refine ⟨z, rfl, by omega, by omega, fun D nD => ?_⟩
    rw [← hz2, Int.toNat_natCast]
    refine lcG (walk_rg0 (n := 2 ^ n)) g1.b nD (by omega) (fun i acc H => All2 (LAt H) acc ((List.range i).map fun c => Bst.lst n (bs c)) ∧ ∀ u ∈ acc, u ≠ .ref D) ⟨.nil, fun u h => by cases h⟩ (fun _ _ => trivial) (fun i x H2 H2' acc hi g2 hD hP y B C kB kC => ?_) (fun H2 acc g2 hD hl hP => ?_)
    · obtain ⟨rfl, rfl⟩ := y
      refine ⟨rfl, .int (i : Nat), rfl, _, rfl, M, i, n, rfl, g2.b, by omega, fun H3 a g3 na ha => kB _ _ g3 fun hD3 => ?_⟩
      have naD : a ≠ D := (ne_of_none hD na).symm
      have hmono : ∀ v l, v ≠ .ref D → LAt H2' v l → LAt (upd H3 D (.lst (acc ++ [.ref a]))) v l := fun v l hv ⟨b, e, hb⟩ => ⟨b, e, (upd_ne (fun z => hv (by rw [e, z]))).trans (g3.at hb)⟩
      refine ⟨?_, fun u hu => ?_⟩
      · rw [List.range_succ, List.map_append]
        refine All2.snoc ?_ ⟨a, rfl, (upd_ne naD).trans ha⟩
        exact all2_mono_mem hP.1 fun v hv l hl => hmono v l (hP.2 v hv) hl
      · rcases List.mem_append.mp hu with z | z
        · exact hP.2 u z
        · rw [List.mem_singleton.mp z]; exact fun e => naD (V.ref.inj e)
    · exact q _ D acc (g1.trans g2) (g1.back nD) hD hP.1 hP.2
end
end Bw

set_option Elab.async false
set_option linter.all false
set_option maxRecDepth 100000
set_option maxHeartbeats 2000000
namespace Bw
open PySem PySem.Spec PyProof.Rows L2
/-! ### codes and sets -/
def cS : Nat → Bst.S → Nat
  | 0, _ => 0
  | n + 1, A => cS n A + (if A n = true then 2 ^ n else 0)
theorem cS_lt (A : Bst.S) : ∀ n, cS n A < 2 ^ n
  | 0 => by show 0 < 1; decide
  | n + 1 => by
    have := cS_lt A n
    unfold cS
    rw [Nat.pow_succ]
    split <;> omega
theorem cS_congr {A B : Bst.S} : ∀ {n : Nat}, (∀ x, x < n → A x = B x) → cS n A = cS n B
  | 0, _ => rfl
  | n + 1, h => by
    unfold cS
    rw [cS_congr fun x hx => h x (Nat.lt_succ_of_lt hx), h n (Nat.lt_succ_self n)]
theorem bs_high {c e n : Nat} (h : c < 2 ^ n) (he : n ≤ e) : bs c e = false := by
  unfold bs
  have : 2 ^ n ≤ 2 ^ e := Nat.pow_le_pow_right (by decide) he
  rw [Nat.div_eq_of_lt (by omega)]
  rfl
theorem bs_add {c n e : Nat} (he : e < n) : bs (c + 2 ^ n) e = bs c e := by
  unfold bs
  rw [decide_eq_decide]
  have h1 : 2 ^ n = 2 ^ e * (2 * 2 ^ (n - e - 1)) := by
    rw [← Nat.pow_succ', ← Nat.pow_add]
    congr 1
    omega
  rw [h1, Nat.add_mul_div_left _ _ (Nat.pow_pos (by decide)), Nat.add_mul_mod_self_left]
theorem bs_cS (A : Bst.S) : ∀ n e, bs (cS n A) e = (decide (e < n) && A e)
  | 0, e => by
    show bs 0 e = _
    unfold bs
    simp
  | n + 1, e => by
    have hlt := cS_lt A n
    have hp : 0 < 2 ^ n := Nat.pow_pos (by decide)
    unfold cS
    rcases Nat.lt_trichotomy e n with h | h | h
    · have h2 : e < n + 1 := by omega
      rw [decide_eq_true h2]
      split
      · rw [bs_add h, bs_cS A n e, decide_eq_true h]
      · rw [Nat.add_zero, bs_cS A n e, decide_eq_true h]
    · subst h
      rw [decide_eq_true (Nat.lt_succ_self e)]
      split
      · rename_i ha
        rw [ha]
        unfold bs
        rw [show (cS e A + 2 ^ e) / 2 ^ e = 1 by rw [Nat.add_div_right _ hp, Nat.div_eq_of_lt hlt]]
        rfl
      · rename_i ha
        rw [Nat.add_zero, bs_high hlt (Nat.le_refl _)]
        have : A e = false := by simpa using ha
        rw [this]; rfl
    · have := cS_lt A (n + 1)
      have e2 : bs (cS (n + 1) A) e = false := bs_high this (by omega)
      unfold cS at e2
      rw [e2, decide_eq_false (by omega)]
      rfl
theorem bs_inj {c d : Nat} : ∀ {n : Nat}, c < 2 ^ n → d < 2 ^ n → (∀ e, e < n → bs c e = bs d e) → c = d
  | 0, h1, h2, _ => by
    have h1 : c < 1 := h1
    have h2 : d < 1 := h2
    omega
  | n + 1, h1, h2, h => by
    have key : ∀ c, c < 2 ^ (n + 1) → ∃ c', c' < 2 ^ n ∧ ((bs c n = true ∧ c = c' + 2 ^ n) ∨ (bs c n = false ∧ c = c')) := fun c hc => by
      rw [Nat.pow_succ] at hc
      by_cases q : c < 2 ^ n
      · exact ⟨c, q, .inr ⟨bs_high q (Nat.le_refl _), rfl⟩⟩
      · refine ⟨c - 2 ^ n, by omega, .inl ⟨?_, by omega⟩⟩
        unfold bs
        have : c / 2 ^ n = 1 := by
          rw [show c = (c - 2 ^ n) + 2 ^ n by omega, Nat.add_div_right _ (Nat.pow_pos (by decide)), Nat.div_eq_of_lt (by omega)]
        rw [this]; rfl
    obtain ⟨c', c1, c2⟩ := key c h1
    obtain ⟨d', d1, d2⟩ := key d h2
    have hn := h n (Nat.lt_succ_self n)
    rcases c2 with ⟨c2, rfl⟩ | ⟨c2, rfl⟩ <;> rcases d2 with ⟨d2, rfl⟩ | ⟨d2, rfl⟩
    · rw [bs_inj c1 d1 fun e he => by have := h e (Nat.lt_succ_of_lt he); rwa [bs_add he, bs_add he] at this]
    · rw [c2, d2] at hn; cases hn
    · rw [c2, d2] at hn; cases hn
    · exact bs_inj c1 d1 fun e he => h e (Nat.lt_succ_of_lt he)
theorem cS_bs {c n : Nat} (h : c < 2 ^ n) : cS n (bs c) = c := bs_inj (cS_lt _ n) h fun e he => by rw [bs_cS, decide_eq_true he]; rfl
theorem codeOf_lst (A : Bst.S) : ∀ n, codeOf (Bst.lst n A) = cS n A
  | 0 => rfl
  | n + 1 => by
    rw [Bst.lst_succ]
    unfold codeOf cS
    rw [List.map_append, List.sum_append]
    have := codeOf_lst A n
    unfold codeOf at this
    rw [this]
    split <;> simp
theorem codeOf_perm {l l' : List Nat} (h : l.Perm l') : codeOf l = codeOf l' := by
  unfold codeOf
  exact (h.map _).sum_nat
theorem lst_perm {n : Nat} {l : List Nat} (nd : l.Nodup) (h : ∀ e ∈ l, e < n) : l.Perm (Bst.lst n (Bst.mem l)) := by
  refine List.perm_iff_count.mpr fun a => ?_
  rw [List.Nodup.count nd, List.Nodup.count (Bst.lst_nodup _ _)]
  have : a ∈ l ↔ a ∈ Bst.lst n (Bst.mem l) := by
    rw [Bst.mem_lst, Bst.mem_true]
    exact ⟨fun z => ⟨h a z, z⟩, fun z => z.2⟩
  simp [this]
theorem codeOf_eq {n : Nat} {l : List Nat} (nd : l.Nodup) (h : ∀ e ∈ l, e < n) : codeOf l = cS n (Bst.mem l) := by
  rw [codeOf_perm (lst_perm nd h), codeOf_lst]
theorem codeOf_lt {n : Nat} {l : List Nat} (nd : l.Nodup) (h : ∀ e ∈ l, e < n) : codeOf l < 2 ^ n := by
  rw [codeOf_eq nd h]; exact cS_lt _ _
theorem bs_code {n : Nat} {l : List Nat} (nd : l.Nodup) (h : ∀ e ∈ l, e < n) : bs (codeOf l) = Bst.mem l := by
  funext e
  rw [codeOf_eq nd h, bs_cS]
  by_cases he : e < n
  · rw [decide_eq_true he]; rfl
  · rw [decide_eq_false he]
    cases z : Bst.mem l e with
    | false => rfl
    | true => exact absurd (h e (Bst.mem_true.mp z)) he
theorem cS_del {n e : Nat} {A : Bst.S} (he : e < n) (ha : A e = true) : cS n A = cS n (Bst.del A e) + 2 ^ e := by
  induction n with
  | zero => omega
  | succ n ih =>
    unfold cS
    by_cases h : e = n
    · subst h
      rw [Bst.del_self, ha, if_pos rfl, if_neg (by simp), Nat.add_zero]
      rw [cS_congr (A := A) (B := Bst.del A e) fun x hx => (Bst.del_ne (by omega)).symm]
    · rw [ih (by omega), Bst.del_ne (by omega : n ≠ e)]
      omega
end Bw

set_option Elab.async false
set_option linter.all false
set_option maxRecDepth 100000
set_option maxHeartbeats 2000000
namespace Bw
open PySem PySem.Spec PyProof.Rows L2
/-- the list of a law's table: of each code, whether its set is free -/
def frV (n : Nat) (F : List Nat → Bool) : List V := (List.range (2 ^ n)).map fun c => V.bl (F (Bst.lst n (bs c)))
theorem frV_at {n c : Nat} {F : List Nat → Bool} (h : c < 2 ^ n) : (frV n F)[c]? = some (.bl (F (Bst.lst n (bs c)))) := by
  unfold frV
  rw [List.getElem?_map, List.getElem?_range h]
  rfl
theorem lst_code {n : Nat} {l : List Nat} (nd : l.Nodup) (h : ∀ e ∈ l, e < n) : Bst.lst n (bs (codeOf l)) = Bst.lst n (Bst.mem l) := by rw [bs_code nd h]
section
variable {P : Program} {w : World} {K : PySem.W.Frag} {mg : Str → Option Value} {base : Heap}
def spIs (K : PySem.W.Frag) : Sp := fun vs H Q _ => ∃ (M : Mw) (a b : Addr) (n : Nat) (F : List Nat → Bool) (l : List Nat), vs = [.ref a, .ref b] ∧ Mok M H ∧ SqL K H a (frV n F) ∧ SqL K H b (nV l) ∧ l.Nodup ∧ (∀ e ∈ l, e < n) ∧ n ≤ 6 ∧ ∀ (H' : Hp), Go M H H' → Q (.bl (F (Bst.lst n (Bst.mem l)))) H'
theorem ok_is {f : Addr} {fd : FuncData} (T : Bn mg) (F : Fun K "_law_is" "_law_is" s__law_is f fd) (D__law_code : Def K mg "_law_code" s__law_code) (G__law_code : FnOk P w K mg base CX0 2 D__law_code.f D__law_code.fd ["_law_those"] (spCode K)) : FnOk P w K mg base CX0 3 f fd ["_law_free_here", "_law_members_here"] (spIs K) := by
  refine F.ok sc__law_is (fun vs H Q E h => ?_) (fun cdv A outer s H vs Q E hr h => ?_)
  · obtain ⟨M, a, b, n, F, l, rfl, _⟩ := h
    rfl
  · obtain ⟨M, a, b, n, F, l, rfl, mk, hA, hB, hnd, hlt, h6, q⟩ := h
    -- 0 _law_free_here, 1 _law_members_here
    refine ⟨_, (pss_one (ps_ret (pe_ix (ix_listK (K := K)) (pv 0) (pe_call G__law_code (hr.mono (by first | decide | omega)) (by rfl) D__law_code.g D__law_code.F.kp (bd__law_code D__law_code.F) .nil pass0 (pa_cons (pv 1) pa_nil)) (fun _ _ => rfl)))), ?_⟩
    have hlen := nodup_lt_len hnd hlt
    refine ⟨.ref a, rfl, .ref b, rfl, M, b, l, rfl, mk, hB, fun e he => by have := hlt e he; omega, by omega, fun H1 g1 => ?_⟩
    refine ⟨a, _, _, _, rfl, rfl, g1.l hA, atI_nat (frV_at (codeOf_lt hnd hlt)), ?_⟩
    rw [lst_code hnd hlt]
    exact q _ g1
def spGiven (K : PySem.W.Frag) (k : Nat) : Sp := fun vs H Q _ => ∃ (M : Mw) (L a b m : Addr) (n : Nat) (rows : List (List Nat)) (l tk : List Nat), vs = [.ref L, .ref a, .ref b] ∧ Mok M H ∧ LineAt K H L (.choices n rows) ∧ SqL K H a (nV l) ∧ H b = some (.lst (nV tk)) ∧ (∀ e ∈ l, e < rows.length) ∧ l.length < k ∧ k ≤ 100 ∧ tk.length + l.length ≤ 100 ∧
  ∀ (H' : Hp), Go M H H' → Q (.bl (Bst.given (rowOf rows) l tk)) H'
theorem ok_given (T : Bn mg) (D__law_given : Def K mg "_law_given" s__law_given) : ∀ k, FnOk P w K mg base CX0 (k + 1) D__law_given.f D__law_given.fd ["_law_line", "_law_those", "_law_taken"] (spGiven K k) := by
  intro k
  induction k with
  | zero =>
    refine D__law_given.F.ok sc__law_given (fun vs H Q E h => ?_) (fun cdv A outer s H vs Q E hr h => ?_)
    · obtain ⟨M, L, a, b, m, n, rows, l, tk, rfl, _⟩ := h
      rfl
    · obtain ⟨M, L, a, b, m, n, rows, l, tk, rfl, mk, hL, hA, hB, hlt, hk, _⟩ := h
      omega
  | succ k G_self =>
  refine D__law_given.F.ok sc__law_given (fun vs H Q E h => ?_) (fun cdv A outer s H vs Q E hr h => ?_)
  · obtain ⟨M, L, a, b, m, n, rows, l, tk, rfl, _⟩ := h
    rfl
  · obtain ⟨M, L, a, b, m, n, rows, l, tk, rfl, mk, hL, hA, hB, hlt, hk, h100, ht100, q⟩ := h
    -- 0 _law_line, 1 _law_those, 2 _law_taken, 3 _law_thing
    refine ⟨_, (pss_cons (ps_if (pt_cmpR op_eq (pe_callB (call_len_seqK (K := K)) (by rfl) T.m_len PySem.boot_len (pa_cons (pv 1) pa_nil)) pe_int (nomark _)) (pss_one (ps_ret pe_bl)) pss_nil)
      (pss_cons (ps_for PassesOwn.never rfl (pi_tupK (K := K) (pe_ix (ix_tupK (K := K)) (pe_ix (ix_tupK (K := K)) (pv 0) pe_int (fun _ _ => rfl)) (pe_ix (ix_listK (K := K)) (pv 1) pe_int (fun _ _ => rfl)) (fun _ _ => rfl))) (pg_name (i := 3) sc__law_given.nd rfl (.inl rfl)) (pss_one (ps_if (PW.pt (pw_and (pt_cmpR (op_notIn_seqK (K := K)) (pv 3) (pv 2) rfl) (pw_and1 (pt_val (pe_call G_self hr (by rfl) D__law_given.g D__law_given.F.kp (bd__law_given D__law_given.F) .nil pass0 (pa_cons (pv 0) (pa_cons (pe_slice (sl_listK (K := K)) (pv 1) (po_some pe_int) po_none) (pa_cons (pe_op op_cat (pv 2) (pe_lst (pa_cons (pv 3) pa_nil))) pa_nil)))))))) (pss_one (ps_ret pe_bl)) pss_nil)))
      (pss_one (ps_ret pe_bl)))), ?_⟩
    refine ⟨.ref a, rfl, a, _, rfl, .inl hA, rfl, _, rfl, ?_⟩
    cases l with
    | nil => exact iteT (q H (Go.refl mk))
    | cons e l =>
      rw [show decide (V.int ((nV (e :: l)).length : Nat) = V.int 0) = false from decide_eq_false (fun h => by have := V.int.inj h; rw [nV_len, List.length_cons] at this; omega)]
      refine iteF ?_
      obtain ⟨v, sL, ae, ve, rfl, sE, aE⟩ := id hL
      have he := hlt e List.mem_cons_self
      obtain ⟨_, ep, pp, rfl, sp⟩ := aE.at (i := e) (b := rowOf rows e) (by unfold rowOf; rw [List.getD_eq_getElem?_getD, List.getElem?_eq_getElem he]; rfl)
      refine ⟨.ref L, rfl, L, _, 2, _, rfl, rfl, sL, atI_nat (j := 2) rfl, .ref a, rfl, a, _, 0, _, rfl, rfl, hA, atI_nat (j := 0) rfl, ae, _, e, _, rfl, rfl, sE, atI_nat ep, ?_⟩
      let p : Nat → Bool := fun t => !decide (t ∈ tk) && Bst.given (rowOf rows) l (tk ++ [t])
      refine ⟨pp, rfl, ⟨_, sp⟩, for_it walk_tup (G := fun H' => SqT K H' pp (nV (rowOf rows e))) (fun i σ H' => Go M H H' ∧ ((rowOf rows e).take i).any p = false ∧ ∃ x : Option V, σ = [some (.ref L), some (.ref a), some (.ref b), x]) ⟨Go.refl mk, by simp, none, rfl⟩ (fun i σ H' _ h => h.1.t sp) ?_ ?_⟩
      · rintro i x σ H1 H1' hi ⟨g, hany, x0, rfl⟩ ⟨rfl, ex⟩
        obtain ⟨t, et, rfl⟩ := nV_at ex
        have hnext : p t = false → ((rowOf rows e).take (i + 1)).any p = false := fun h => by
          rw [tk_snoc et, List.any_append, hany]
          simp [h]
        have hyes : p t = true → Bst.given (rowOf rows) (e :: l) tk = true := fun h => by
          show (rowOf rows e).any p = true
          exact List.any_eq_true.mpr ⟨t, List.mem_of_getElem? et, h⟩
        have hB1 := g.at hB
        refine ⟨.int (t : Nat), rfl, .ref b, rfl, b, _, rfl, .inl (SqL.of hB1), rfl, flat_nV _, _, rfl, ?_⟩
        rw [inV_n]
        by_cases hin : t ∈ tk
        · rw [decide_eq_true hin]
          exact iteF (iteF ⟨g, hnext (by simp [p, hin]), _, rfl⟩)
        · rw [decide_eq_false hin]
          refine iteT ⟨.ref L, rfl, .ref a, rfl, 1, rfl, a, _, rfl, g.l hA, fun s1 ns1 => ?_⟩
          rw [show cutV (nV (e :: l)) (some (1 : Int)) none = nV l from (cut_from (nV (e :: l)) (i := 1) (by simp)).trans rfl]
          have g2 := g.new (o := .lst (nV l)) ns1
          have hs2 : (upd H1' s1 (.lst (nV l))) s1 = some (.lst (nV l)) := upd_same
          have hB2 := ((Go.refl g.b).new (o := .lst (nV l)) ns1).at hB1
          generalize upd H1' s1 (.lst (nV l)) = H2 at g2 hs2 hB2
          refine ⟨.ref b, rfl, .int (t : Nat), rfl, (by show 1 ≤ sizeLine; decide), fun s3 ns3 => ?_⟩
          have g3 := g2.new (o := .lst [.int (t : Nat)]) ns3
          have g3' := (Go.refl g2.b).new (o := .lst [.int (t : Nat)]) ns3
          have hs3 : (upd H2 s3 (.lst [.int (t : Nat)])) s3 = some (.lst [.int (t : Nat)]) := upd_same
          have hB3 := g3'.at hB2
          have hs23 := g3'.at hs2
          generalize upd H2 s3 (.lst [.int (t : Nat)]) = H3 at g3 hs3 hB3 hs23 g3'
          have hle : tk.length + (l.length + 1) ≤ 100 := ht100
          refine ⟨b, s3, _, _, rfl, rfl, hB3, hs3, sz (by rw [nV_len]; simp only [List.length_singleton]; omega), fun s4 ns4 => ?_⟩
          have g4 := g3.new (o := .lst (nV tk ++ [.int (t : Nat)])) ns4
          have g4' := (Go.refl g3.b).new (o := .lst (nV tk ++ [.int (t : Nat)])) ns4
          refine ⟨M, L, s1, s4, m, n, rows, l, tk ++ [t], rfl, g4.b, hL.go g4, SqL.of (g4'.at hs23), by rw [upd_same, nV_app]; rfl, fun e' he' => hlt e' (List.mem_cons_of_mem _ he'), by rw [List.length_cons] at hk; omega, by omega, by rw [List.length_append, List.length_singleton]; omega, fun H5 g5 => ⟨_, rfl, ?_⟩⟩
          cases hg : Bst.given (rowOf rows) l (tk ++ [t]) with
          | true =>
            refine iteT ?_
            have := hyes (by simp [p, hin, hg])
            have hq := q H5 (g4.trans g5)
            rw [this] at hq
            exact hq
          | false => exact iteF ⟨g4.trans g5, hnext (by simp [p, hg]), _, rfl⟩
      · rintro σ H1 ⟨g, hany, x0, rfl⟩
        rw [nV_len, List.take_length] at hany
        have hq := q H1 g
        have : Bst.given (rowOf rows) (e :: l) tk = false := hany
        rw [this] at hq
        exact hq
end
end Bw

set_option Elab.async false
set_option linter.all false
set_option maxRecDepth 100000
set_option maxHeartbeats 2000000
namespace Bw
open PySem PySem.Spec PyProof.Rows L2
/-- the dict of what is near: the keys below k -/
structure NrAt (nv k : Nat) (kvs : List (Key × V)) (A : Nat → Addr) : Prop where
  val : ∀ v, v < k → valV kvs (Sum.inl (v : Int)) = some (.ref (A v))
  nd : (kvs.map (·.1)).Nodup
  ks : ∀ x ∈ kvs.map (·.1), ∃ t, t < nv ∧ x = Sum.inl ((t : Nat) : Int)
theorem NrAt.len {nv k : Nat} {kvs : List (Key × V)} {A : Nat → Addr} (h : NrAt nv k kvs A) : kvs.length ≤ nv := by
  have := nodup_len (ys := (List.range nv).map fun t => (Sum.inl ((t : Nat) : Int) : Key)) h.nd fun k hk => by
    obtain ⟨t, ht, rfl⟩ := h.ks k hk
    exact List.mem_map.mpr ⟨t, List.mem_range.mpr ht, rfl⟩
  simpa using this
theorem NrAt.put {nv k v : Nat} {kvs : List (Key × V)} {A : Nat → Addr} {b : Addr} (h : NrAt nv k kvs A) (hv : v < nv) : NrAt nv k (putK kvs (Sum.inl (v : Int)) (.ref b)) (fun u => if u = v then b else A u) := by
  obtain ⟨h1, h2⟩ := putK_keys (k := (Sum.inl (v : Int) : Key)) (v := .ref b) h.nd
  refine ⟨fun u hu => ?_, h1, fun k hk => ?_⟩
  · rw [valV_put]
    by_cases e : u = v
    · subst e; simp
    · rw [if_neg (fun z => e (by have := Sum.inl.inj z; omega)), h.val u hu, if_neg e]
  · rcases h2 k hk with rfl | hk
    · exact ⟨v, hv, rfl⟩
    · exact h.ks k hk
theorem NrAt.more {nv k : Nat} {kvs : List (Key × V)} {A : Nat → Addr} {b : Addr} (h : NrAt nv k kvs A) (hv : k < nv) : NrAt nv (k + 1) (putK kvs (Sum.inl (k : Int)) (.ref b)) (fun u => if u = k then b else A u) := by
  obtain ⟨h1, h2⟩ := putK_keys (k := (Sum.inl (k : Int) : Key)) (v := .ref b) h.nd
  refine ⟨fun u hu => ?_, h1, fun x hk => ?_⟩
  · rw [valV_put]
    by_cases e : u = k
    · subst e; simp
    · rw [if_neg (fun z => e (by have := Sum.inl.inj z; omega)), h.val u (by omega), if_neg e]
  · rcases h2 x hk with rfl | hk
    · exact ⟨k, hv, rfl⟩
    · exact h.ks x hk
/-- the lists of the near ones -/
structure NrL (nv k : Nat) (H : Hp) (A : Nat → Addr) (near : Nat → List Nat) (s : Nat → Nat) : Prop where
  at_ : ∀ v, v < k → H (A v) = some (.lst (nV (near v)))
  nd : ∀ v, v < k → (near v).Nodup
  mem : ∀ v, v < k → ∀ u, u ∈ near v ↔ u < nv ∧ s u = s v
section
variable {P : Program} {w : World} {K : PySem.W.Frag} {mg : Str → Option Value} {base : Heap}
theorem allNew_cons {σ α : Type} {add : σ → α → σ} {inn : σ → α → Bool} {vec : Nat → α} {s : σ} {e : Nat} {es : List Nat} : Bst.allNew add inn vec s (e :: es) = if inn s (vec e) = true then false else Bst.allNew add inn vec (add s (vec e)) es := rfl
def spForest (K : PySem.W.Frag) : Sp := fun vs H Q _ => ∃ (M : Mw) (L a : Addr) (nv : Nat) (es : List (Nat × Nat)) (l : List Nat), vs = [.ref L, .ref a] ∧ Mok M H ∧ LineAt K H L (.graph nv es) ∧ SqL K H a (nV l) ∧
  (∀ e ∈ l, e < es.length) ∧ (∀ e ∈ es, e.1 < nv ∧ e.2 < nv) ∧ nv ≤ 1000 ∧ l.length ≤ 1000 ∧ ∀ H', Go M H H' → Q (.bl (Bst.allNew Bst.gAdd Bst.gIn (gEdge es) id l)) H'
theorem ok_forest {f : Addr} {fd : FuncData} {k : Nat} (T : Bn mg) (F : Fun K "_law_forest" "_law_forest" s__law_forest f fd) : FnOk P w K mg base CX0 (k + 1) f fd ["_law_line", "_law_those"] (spForest K) := by
  refine F.ok sc__law_forest (fun vs H Q E h => ?_) (fun cdv A outer s H vs Q E hr h => ?_)
  · obtain ⟨M, L, a, nv, es, l, rfl, _⟩ := h
    rfl
  · obtain ⟨M, L, a, nv, es, l, rfl, mk, hL, hA, hl, he, hv, hl2, q⟩ := h
    -- 0 _law_line, 1 _law_those, 2 _law_near, 3 _law_v, 4 _law_e, 5 _law_one, 6 _law_two_here, 7 _law_both
    refine ⟨_, (pss_cons (ps_set (i := 2) sc__law_forest.nd rfl (.inl rfl) pe_dnewK)
      (pss_cons (ps_for PassesOwn.never rfl (pi_range1 (by rfl) T.m_range (pa_cons (pe_ix (ix_tupK (K := K)) (pv 0) pe_int (fun _ _ => rfl)) pa_nil)) (pg_name (i := 3) sc__law_forest.nd rfl (.inl rfl)) (pss_one (ps_dput (hu_of hr) (pv 2) (pv 3) (pe_lst (pa_cons (pv 3) pa_nil)) rfl)))
      (pss_cons (ps_for PassesOwn.never rfl (pi_listK (K := K) (pv 1)) (pg_name (i := 4) sc__law_forest.nd rfl (.inl rfl)) (pss_cons (ps_asg (pe_ix (ix_tupK (K := K)) (pe_ix (ix_tupK (K := K)) (pv 0) pe_int (fun _ _ => rfl)) (pv 4) (fun _ _ => rfl)) (pg_tupK (K := K) (n := 2) rfl rfl (pgs_cons (pg_name (i := 5) sc__law_forest.nd rfl (.inl rfl)) (pgs_cons (pg_name (i := 6) sc__law_forest.nd rfl (.inl rfl)) pgs_nil))))
      (pss_cons (ps_if (pt_cmpR (op_in_seqK (K := K)) (pv 6) (pe_dget (hu_of hr) (pv 2) (pv 5) (fun _ _ => rfl)) rfl) (pss_one (ps_ret pe_bl)) pss_nil)
      (pss_cons (ps_set (i := 7) sc__law_forest.nd rfl (.inl rfl) (pe_op op_cat (pe_dget (hu_of hr) (pv 2) (pv 5) (fun _ _ => rfl)) (pe_dget (hu_of hr) (pv 2) (pv 6) (fun _ _ => rfl))))
      (pss_one (ps_for PassesOwn.never rfl (pi_listK (K := K) (pv 7)) (pg_name (i := 3) sc__law_forest.nd rfl (.inl rfl)) (pss_one (ps_dput (hu_of hr) (pv 2) (pv 3) (pv 7) rfl))))))))
      (pss_one (ps_ret pe_bl))))), ?_⟩
    obtain ⟨v, sL, ae, ve, rfl, sE, aE⟩ := hL
    have hvi : ∀ e ∈ l, (gEdge es e).1 < nv ∧ (gEdge es e).2 < nv := fun e h => by
      have : gEdge es e = es[e]'(hl e h) := by unfold gEdge; rw [List.getD_eq_getElem?_getD, List.getElem?_eq_getElem (hl e h)]; rfl
      rw [this]
      exact he _ (List.getElem_mem _)
    refine fun d nd => ?_
    have g1 : Go M H (upd H d (.dK [])) := (Go.refl mk).new nd
    have hd1 : (upd H d (.dK [])) d = some (.dK []) := upd_same
    generalize upd H d (.dK []) = H1 at g1 hd1
    refine ⟨.ref L, rfl, L, _, 1, _, rfl, rfl, g1.t sL, atI_nat (j := 1) rfl, (nv : Nat), rfl, by omega, by omega, ?_⟩
    rw [Int.toNat_natCast]
    refine for_it walk_rg0 (fun i σ H' => Go M H H' ∧ ∃ (kvs : List (Key × V)) (A : Nat → Addr) (x3 : Option V), σ = [some (.ref L), some (.ref a), some (.ref d), x3, none, none, none, none] ∧ H' d = some (.dK kvs) ∧ NrAt nv i kvs A ∧ NrL nv i H' A (fun v => [v]) id) ?_ ?_ ?_ ?_
    · exact ⟨g1, [], fun _ => d, none, rfl, hd1, ⟨fun v h => by omega, .nil, fun x h => by cases h⟩, ⟨fun v h => by omega, fun v h => by omega, fun v h => by omega⟩⟩
    · exact fun _ _ _ _ _ => trivial
    · rintro i x σ H2 H2' hi ⟨g, kvs, A, x3, rfl, hd, hN, hR⟩ ⟨rfl, rfl⟩
      refine ⟨_, rfl, (by show 1 ≤ sizeLine; decide), fun t nt => ?_⟩
      have g2 := g.new (o := .lst [.int (i : Nat)]) nt
      have g2' := (Go.refl g.b).new (o := .lst [.int (i : Nat)]) nt
      have ndt := ne_of_none hd nt
      have hd3 : (upd H2' t (.lst [.int (i : Nat)])) d = some (.dK kvs) := (upd_ne ndt).trans hd
      have ht3 : (upd H2' t (.lst [.int (i : Nat)])) t = some (.lst (nV [i])) := upd_same
      have hR3 : ∀ v, v < i → (upd H2' t (.lst [.int (i : Nat)])) (A v) = some (.lst (nV [v])) := fun v hv => g2'.at (hR.at_ v hv)
      generalize upd H2' t (.lst [.int (i : Nat)]) = H3 at g2 hd3 ht3 hR3
      refine ⟨.ref d, rfl, .int (i : Nat), rfl, d, _, rfl, DPut.k (k := Sum.inl (i : Int)) hd3 (szl (by have := hN.len; omega)), ?_⟩
      refine ⟨g2.set nd hd3, _, _, _, rfl, upd_same, hN.more hi, ⟨fun v hv => ?_, fun v hv => by simp, fun v hv u => ?_⟩⟩
      · by_cases e : v = i
        · rw [if_pos e, e]
          exact (upd_ne (Ne.symm ndt)).trans ht3
        · rw [if_neg e]
          have := hR3 v (by omega)
          exact (upd_ne (fun z => by rw [z, hd3] at this; cases this)).trans this
      · rw [List.mem_singleton]
        exact ⟨fun z => ⟨by omega, z⟩, fun z => z.2⟩
    · rintro σ H2 ⟨g, kvs, A, x3, rfl, hd, hN, hR⟩
      refine ⟨.ref a, rfl, a, rfl, ⟨_, g.l hA⟩, for_it walk_list (G := fun H' => SqL K H' a (nV l)) (fun i σ H' => Go M H H' ∧ ∃ (kvs : List (Key × V)) (A : Nat → Addr) (near : Nat → List Nat) (s : Nat → Nat) (x3 x4 x5 x6 x7 : Option V), σ = [some (.ref L), some (.ref a), some (.ref d), x3, x4, x5, x6, x7] ∧ H' d = some (.dK kvs) ∧ NrAt nv nv kvs A ∧ NrL nv nv H' A near s ∧
        Bst.allNew Bst.gAdd Bst.gIn (gEdge es) id l = Bst.allNew Bst.gAdd Bst.gIn (gEdge es) s (l.drop i)) ?_ ?_ ?_ ?_⟩
      · exact ⟨g, kvs, A, _, id, x3, none, none, none, none, rfl, hd, hN, hR, by rw [List.drop_zero]⟩
      · exact fun i σ H' _ h => h.1.l hA
      · rintro i x σ H1 H1' hi ⟨g, kvs, A, near, s, x3, x4, x5, x6, x7, rfl, hd, hN, hR, eA⟩ ⟨rfl, ex⟩
        obtain ⟨e, ee, rfl⟩ := nV_at ex
        have hel : e ∈ l := List.mem_of_getElem? ee
        have hlt := hl e hel
        have hdr : l.drop i = e :: l.drop (i + 1) := by
          have := List.getElem?_eq_some_iff.mp ee
          rw [← this.2]; exact List.drop_eq_getElem_cons this.1
        obtain ⟨_, ep, pp, rfl, sp⟩ := (aE.mono fun _ _ => TI.go g).at (i := e) (b := [(gEdge es e).1, (gEdge es e).2]) (by
          rw [List.getElem?_map, List.getElem?_eq_getElem hlt]
          unfold gEdge; rw [List.getD_eq_getElem?_getD, List.getElem?_eq_getElem hlt]; rfl)
        have ge := hvi e hel
        rw [hdr] at eA
        rw [allNew_cons] at eA
        generalize hpq : gEdge es e = pq at ge sp ep eA
        obtain ⟨c, c2⟩ := pq
        refine ⟨.ref L, rfl, L, _, 2, _, rfl, rfl, g.t sL, atI_nat (j := 2) rfl, .int (e : Nat), rfl, ae, _, e, _, rfl, rfl, g.t sE, atI_nat ep, pp, _, rfl, sp, rfl, _, _, rfl, _, _, rfl, rfl, ?_⟩
        have gc : valV kvs (Sum.inl (c : Int)) = some (.ref (A c)) := hN.val c ge.1
        have gc2 : valV kvs (Sum.inl (c2 : Int)) = some (.ref (A c2)) := hN.val c2 ge.2
        have hnc := hR.at_ c ge.1
        have hnc2 := hR.at_ c2 ge.2
        refine ⟨.int (c2 : Nat), rfl, .ref d, rfl, .int (c : Nat), rfl, d, .ref (A c), rfl, gc ▸ DGet.k (k := Sum.inl (c : Int)) hd, A c, _, rfl, .inl (SqL.of hnc), rfl, flat_nV _, _, rfl, ?_⟩
        rw [inV_n]
        have hmem := hR.mem c ge.1 c2
        have hin : Bst.gIn s (c, c2) = decide (s c = s c2) := by unfold Bst.gIn; rw [Bool.eq_iff_iff]; simp
        rw [hin] at eA
        by_cases hcc : s c = s c2
        · rw [decide_eq_true (hmem.mpr ⟨ge.2, hcc.symm⟩)]
          refine iteT ?_
          rw [decide_eq_true hcc, if_pos rfl] at eA
          have hq := q H1' g
          rw [eA] at hq
          exact hq
        · rw [decide_eq_false (fun z => hcc (hmem.mp z).2.symm)]
          rw [decide_eq_false hcc, if_neg (by simp)] at eA
          refine iteF ?_
          have l1 : (near c).length ≤ nv := nodup_lt_len (hR.nd c ge.1) fun u hu => ((hR.mem c ge.1 u).mp hu).1
          have l2 : (near c2).length ≤ nv := nodup_lt_len (hR.nd c2 ge.2) fun u hu => ((hR.mem c2 ge.2 u).mp hu).1
          refine ⟨.ref d, rfl, .int (c : Nat), rfl, d, .ref (A c), rfl, gc ▸ DGet.k (k := Sum.inl (c : Int)) hd, .ref d, rfl, .int (c2 : Nat), rfl, d, .ref (A c2), rfl, gc2 ▸ DGet.k (k := Sum.inl (c2 : Int)) hd, A c, A c2, _, _, rfl, rfl, hnc, hnc2, sz (by rw [nV_len, nV_len]; omega), fun bt nbt => ?_⟩
          rw [← nV_app]
          have g2 := g.new (o := .lst (nV (near c ++ near c2))) nbt
          have g2' := (Go.refl g.b).new (o := .lst (nV (near c ++ near c2))) nbt
          have ndt := ne_of_none hd nbt
          have hd3 : (upd H1' bt (.lst (nV (near c ++ near c2)))) d = some (.dK kvs) := (upd_ne ndt).trans hd
          have ht3 : (upd H1' bt (.lst (nV (near c ++ near c2)))) bt = some (.lst (nV (near c ++ near c2))) := upd_same
          have hR3 : ∀ v, v < nv → (upd H1' bt (.lst (nV (near c ++ near c2)))) (A v) = some (.lst (nV (near v))) := fun v hv => g2'.at (hR.at_ v hv)
          generalize upd H1' bt (.lst (nV (near c ++ near c2))) = H3 at g2 hd3 ht3 hR3
          generalize hbo : near c ++ near c2 = bo at ht3
          have mbo : ∀ u, u ∈ bo ↔ u < nv ∧ (s u = s c ∨ s u = s c2) := fun u => by
            rw [← hbo, List.mem_append, hR.mem c ge.1, hR.mem c2 ge.2]
            exact ⟨fun z => z.elim (fun z => ⟨z.1, .inl z.2⟩) fun z => ⟨z.1, .inr z.2⟩, fun ⟨z, z2⟩ => z2.elim (fun y => .inl ⟨z, y⟩) fun y => .inr ⟨z, y⟩⟩
          have ndbo : bo.Nodup := by
            rw [← hbo]
            refine List.nodup_append.mpr ⟨hR.nd c ge.1, hR.nd c2 ge.2, fun x hx y hy e => hcc ?_⟩
            subst e
            rw [← ((hR.mem c ge.1 x).mp hx).2, ((hR.mem c2 ge.2 x).mp hy).2]
          refine ⟨.ref bt, rfl, bt, rfl, ⟨_, SqL.of ht3⟩, for_it walk_list (G := fun H' => SqL K H' bt (nV bo)) (fun j σ H' => Go M H H' ∧ ∃ (kvs : List (Key × V)) (B : Nat → Addr) (x3 : Option V), σ = [some (.ref L), some (.ref a), some (.ref d), x3, some (.int (e : Nat)), some (.int (c : Nat)), some (.int (c2 : Nat)), some (.ref bt)] ∧ H' d = some (.dK kvs) ∧ NrAt nv nv kvs B ∧
            (∀ u, u ∈ bo.take j → B u = bt) ∧ (∀ u, u ∉ bo.take j → B u = A u) ∧ H' bt = some (.lst (nV bo)) ∧ ∀ v, v < nv → H' (A v) = some (.lst (nV (near v)))) ?_ ?_ ?_ ?_⟩
          · exact ⟨g2, kvs, A, _, rfl, hd3, hN, fun u h => by simp at h, fun u _ => rfl, ht3, hR3⟩
          · exact fun j σ H' _ h => by
              obtain ⟨_, _, _, _, _, _, _, _, _, h, _⟩ := h
              exact SqL.of h
          · rintro j x σ H4 H4' hj ⟨g, kvs, B, x3, rfl, hd, hN, hB1, hB2, ht, hR⟩ ⟨rfl, ex⟩
            obtain ⟨u, eu, rfl⟩ := nV_at ex
            have hu := (mbo u).mp (List.mem_of_getElem? eu)
            refine ⟨_, rfl, .ref d, rfl, .int (u : Nat), rfl, d, _, rfl, DPut.k (k := Sum.inl (u : Int)) hd (szl (by have := hN.len; omega)), ?_⟩
            refine ⟨g.set nd hd, _, _, _, rfl, upd_same, hN.put (b := bt) hu.1, fun w hw => ?_, fun w hw => ?_, ?_, fun v hv => ?_⟩
            · split
              · rfl
              · rename_i hne
                rw [tk_snoc eu, List.mem_append] at hw
                exact hB1 w (hw.resolve_right fun z => hne (List.mem_singleton.mp z))
            · rw [tk_snoc eu, List.mem_append, not_or] at hw
              rw [if_neg (fun z => hw.2 (List.mem_singleton.mpr z))]
              exact hB2 w hw.1
            · exact (upd_ne (fun z => by rw [z, hd] at ht; cases ht)).trans ht
            · have := hR v hv
              exact (upd_ne (fun z => by rw [z, hd] at this; cases this)).trans this
          · rintro σ H4 ⟨g, kvs, B, x3, rfl, hd, hN, hB1, hB2, ht, hR4⟩
            rw [nV_len, List.take_length] at hB1 hB2
            refine ⟨g, kvs, B, (fun u => if u ∈ bo then bo else near u), Bst.gAdd s (c, c2), _, _, _, _, _, rfl, hd, hN, ⟨fun v hv => ?_, fun v hv => ?_, fun v hv u => ?_⟩, eA⟩
            · by_cases h : v ∈ bo
              · rw [hB1 v h, if_pos h]; exact ht
              · rw [hB2 v h, if_neg h]; exact hR4 v hv
            · split
              · exact ndbo
              · exact hR.nd v hv
            · have hs' : ∀ w, Bst.gAdd s (c, c2) w = if s w = s c then s c2 else s w := fun w => by unfold Bst.gAdd; rw [if_neg hcc]
              rw [hs', hs']
              by_cases h : v ∈ bo
              · rw [if_pos h, mbo u]
                have hv2 := ((mbo v).mp h).2
                have e1 : (if s v = s c then s c2 else s v) = s c2 := by
                  rcases hv2 with z | z
                  · rw [if_pos z]
                  · split
                    · rfl
                    · exact z
                rw [e1]
                refine ⟨fun ⟨z, z2⟩ => ⟨z, ?_⟩, fun ⟨z, z2⟩ => ⟨z, ?_⟩⟩
                · rcases z2 with y | y
                  · rw [if_pos y]
                  · split
                    · rfl
                    · exact y
                · by_cases y : s u = s c
                  · exact .inl y
                  · rw [if_neg y] at z2; exact .inr z2
              · rw [if_neg h, hR.mem v hv u]
                have hv1 : s v ≠ s c := fun z => h ((mbo v).mpr ⟨hv, .inl z⟩)
                have hv2 : s v ≠ s c2 := fun z => h ((mbo v).mpr ⟨hv, .inr z⟩)
                rw [if_neg hv1]
                refine ⟨fun ⟨z, z2⟩ => ⟨z, by rw [if_neg (by rw [z2]; exact hv1)]; exact z2⟩, fun ⟨z, z2⟩ => ⟨z, ?_⟩⟩
                by_cases y : s u = s c
                · rw [if_pos y] at z2; exact absurd z2.symm hv2
                · rw [if_neg y] at z2; exact z2
      · rintro σ H1 ⟨g, kvs, A, near, s, x3, x4, x5, x6, x7, rfl, hd, hN, hR, eA⟩
        rw [nV_len, List.drop_length] at eA
        have hq := q H1 g
        rw [eA] at hq
        exact hq
end
end Bw

set_option Elab.async false
set_option linter.all false
set_option maxRecDepth 100000
set_option maxHeartbeats 2000000
namespace Bw
open PySem PySem.Spec PyProof.Rows L2
theorem cr_setOfTK {X : Cx} {K : PySem.W.Frag} {P : Program} {w : World} (hc : X.calm = true) (hu : X.A.units + 64 < cLine) (hK : X.K = K := by rfl) (hP : X.prog = P := by rfl) (hw : X.w = w := by rfl) : CallR X (.type "set") (rSetOfT K P w) := by
  subst hK hP hw
  exact cr_setOfT hc hu
theorem cr_sortedTK {X : Cx} {K : PySem.W.Frag} {P : Program} {w : World} (hc : X.calm = true) (hK : X.K = K := by rfl) (hP : X.prog = P := by rfl) (hw : X.w = w := by rfl) : CallR X (.builtin "sorted") (rSortedT K P w) := by
  subst hK hP hw
  exact cr_sortedT hc
/-! ### sums -/
theorem step_bit : ∀ M ∈ Bst.vMasks, ∀ v, v < 8 → ∀ x, x < 8 → (Bst.vStep M v).testBit x = (M.testBit x || M.testBit (x ^^^ v)) := by decide +kernel
theorem mask_cnt : ∀ M ∈ Bst.vMasks, Bst.cnt 8 (fun x => M.testBit x) = 2 ^ Bst.vDim M := by decide +kernel
theorem bits_add : ∀ x, x < 8 → ∀ c, c < 8 → ∀ f, f < 2 → ∀ k, k < 3 → ((Bst.bits x).getD k 0 + f * (Bst.bits c).getD k 0) % 2 = (Bst.bits (x ^^^ (f * c))).getD k 0 := by decide +kernel
theorem xor_lt : ∀ x, x < 8 → ∀ c, c < 8 → x ^^^ c < 8 := by decide +kernel
theorem bits_inj : ∀ x, x < 8 → ∀ c, c < 8 → Bst.bits x = Bst.bits c → x = c := by decide +kernel
theorem kept_setTO {P : Program} {w : World} {a : Addr} {L : List (Addr × List Int)} : kept (SetTO P w a L) = true := rfl
theorem map_ofNat_inj : ∀ {a b : List Nat}, a.map Int.ofNat = b.map Int.ofNat → a = b
  | [], [], _ => rfl
  | [], y :: b, h => by cases h
  | x :: a, [], h => by cases h
  | x :: a, y :: b, h => by
    rw [List.map_cons, List.map_cons] at h
    injection h with h1 h2
    rw [Int.ofNat.inj h1, map_ofNat_inj h2]
/-- rows as the set's rule wants them -/
theorem ks_of {K : PySem.W.Frag} {H : Hp} : ∀ {us : List V} {rows : List (List Nat)}, All2 (TI K H) us rows → ∃ ks : List (Addr × List Int), us = ks.map (fun p => V.ref p.1) ∧ ks.map (·.2) = rows.map (fun r => r.map Int.ofNat) ∧ ∀ p ∈ ks, SqT K H p.1 (p.2.map V.int)
  | _, _, .nil => ⟨[], rfl, rfl, fun p h => by cases h⟩
  | _, _, .cons (a := u) (b := r) h t => by
    obtain ⟨ks, e1, e2, e3⟩ := ks_of t
    obtain ⟨a, rfl, s⟩ := h
    refine ⟨(a, r.map Int.ofNat) :: ks, by rw [e1]; rfl, by rw [List.map_cons, List.map_cons, e2], fun p hp => ?_⟩
    rcases List.mem_cons.mp hp with rfl | hp
    · show SqT K H a ((r.map Int.ofNat).map V.int)
      rw [int_n]
      exact s
    · exact e3 p hp
/-- .. and back -/
theorem of_ks {K : PySem.W.Frag} {H : Hp} {ml : List Nat} : ∀ {L : List (Addr × List Int)}, (∀ p ∈ L, SqT K H p.1 (p.2.map V.int)) → (∀ p ∈ L, ∃ x ∈ ml, p.2 = (Bst.bits x).map Int.ofNat) →
    ∃ cl : List Nat, All2 (TI K H) (L.map fun p => V.ref p.1) (cl.map Bst.bits) ∧ L.map (·.2) = cl.map (fun x => (Bst.bits x).map Int.ofNat) ∧ ∀ x ∈ cl, x ∈ ml
  | [], _, _ => ⟨[], .nil, rfl, fun x h => by cases h⟩
  | p :: L, h1, h2 => by
    obtain ⟨cl, e1, e2, e3⟩ := of_ks (L := L) (fun p hp => h1 p (List.mem_cons_of_mem _ hp)) fun p hp => h2 p (List.mem_cons_of_mem _ hp)
    obtain ⟨x, hx, e⟩ := h2 p List.mem_cons_self
    refine ⟨x :: cl, .cons ⟨p.1, rfl, ?_⟩ e1, by rw [List.map_cons, List.map_cons, e2, e], fun y hy => ?_⟩
    · have := h1 p List.mem_cons_self
      rw [e, int_n] at this
      exact this
    · rcases List.mem_cons.mp hy with rfl | hy
      · exact hx
      · exact e3 y hy
section
variable {P : Program} {w : World} {K : PySem.W.Frag} {mg : Str → Option Value} {base : Heap}
def spSums (K : PySem.W.Frag) : Sp := fun vs H Q _ => ∃ (M : Mw) (L a : Addr) (cs l : List Nat), vs = [.ref L, .ref a] ∧ Mok M H ∧ LineAt K H L (.vectors cs) ∧ SqL K H a (nV l) ∧
  (∀ e ∈ l, e < cs.length) ∧ (∀ c ∈ cs, c < 8) ∧ l.length ≤ 1000 ∧ ∀ H', Go M H H' → Q (.int ((2 ^ Bst.rkL Bst.vStep Bst.vIn (vCode cs) 1 l : Nat) : Nat)) H'
theorem ok_sums {f : Addr} {fd : FuncData} {k : Nat} (T : Bn mg) (F : Fun K "_law_sums" "_law_sums" s__law_sums f fd) : FnOk P w K mg base CX0 (k + 1) f fd ["_law_line", "_law_those"] (spSums K) := by
  refine F.ok sc__law_sums (fun vs H Q E h => ?_) (fun cdv A outer s H vs Q E hr h => ?_)
  · obtain ⟨M, L, a, cs, l, rfl, _⟩ := h
    rfl
  · obtain ⟨M, L, a, cs, l, rfl, mk, hL, hA, hl, hc, hl2, q⟩ := h
    -- 0 _law_line, 1 _law_those, 2 _law_found, 3 _law_e, 4 _law_made, 5 _law_factor, 6 _law_one, 7 _law_k
    refine ⟨_, (pss_cons (ps_set (i := 2) sc__law_sums.nd rfl (.inl rfl) (pe_lst (pa_cons (pe_callTy (call_tuple_ofK (K := K)) (by rfl) T.m_tuple (by decide +kernel) (pa_cons (pe_op op_rep (pe_lst (pa_cons pe_int pa_nil)) (pe_ix (ix_tupK (K := K)) (pv 0) pe_int (fun _ _ => rfl))) pa_nil)) pa_nil)))
      (pss_cons (ps_for PassesOwn.never rfl (pi_listK (K := K) (pv 1)) (pg_name (i := 3) sc__law_sums.nd rfl (.inr rfl)) (pss_cons (ps_set (i := 4) sc__law_sums.nd rfl (.inl rfl) (pe_lst pa_nil))
      (pss_cons (ps_for PassesOwn.never rfl (pi_range1 (by rfl) T.m_range (pa_cons (pe_ix (ix_tupK (K := K)) (pv 0) pe_int (fun _ _ => rfl)) pa_nil)) (pg_name (i := 5) sc__law_sums.nd rfl (.inr rfl)) (pss_one (ps_for PassesOwn.never rfl (pi_listK (K := K) (pv 2)) (pg_name (i := 6) sc__law_sums.nd rfl (.inr rfl)) (pss_one (ps_expr (pe_bm PySem.F.plainAttrs_list PySem.F.slot_list_append PySem.F.type_list_append mt_append (pv 4) (pa_cons (pe_callTy (call_tuple_ofK (K := K)) (by rfl) T.m_tuple (by decide +kernel) (pa_cons (pe_lc (own := [("_law_k", 7)]) (by rfl) sc__law_sums.nd (pi_range1 (by rfl) T.m_range (pa_cons (pe_ix (ix_tupK (K := K)) (pv 0) pe_int (fun _ _ => rfl)) pa_nil)) (blkOk_by (by rfl)) (fun _ _ _ _ _ => (pg_name (i := 7) sc__law_sums.nd rfl (.inl rfl))) (fun _ _ _ _ _ => pts_nil) (fun _ _ _ _ _ => (pe_op op_mod (pe_callTy call_int1 (by rfl) T.m_int (by decide +kernel) (pa_cons (pe_op op_add (pe_ix (ix_tupK (K := K)) (pv 6) (pv 7) (fun _ _ => rfl)) (pe_op op_mul (pv 5) (pe_ix (ix_tupK (K := K)) (pe_ix (ix_tupK (K := K)) (pe_ix (ix_tupK (K := K)) (pv 0) pe_int (fun _ _ => rfl)) (pv 3) (fun _ _ => rfl)) (pv 7) (fun _ _ => rfl)))) pa_nil)) (pe_ix (ix_tupK (K := K)) (pv 0) pe_int (fun _ _ => rfl))))) pa_nil)) pa_nil)))))))
      (pss_one (ps_set (i := 2) sc__law_sums.nd rfl (.inl rfl) (pe_callB (cr_sortedTK (K := K) (P := P) (w := w) rfl) (by rfl) T.m_sorted (by decide +kernel) (pa_cons (pe_callTy (cr_setOfTK (K := K) (P := P) (w := w) rfl hr.units) (by rfl) T.m_set (by decide +kernel) (pa_cons (pv 4) pa_nil)) pa_nil)))))))
      (pss_one (ps_ret (pe_callB (call_len_seqK (K := K)) (by rfl) T.m_len PySem.boot_len (pa_cons (pv 2) pa_nil)))))), ?_⟩
    obtain ⟨v, sL, ae, ve, rfl, sE, aE⟩ := id hL
    have hvc : ∀ e ∈ l, vCode cs e < 8 := fun e h => by
      unfold vCode; rw [List.getD_eq_getElem?_getD, List.getElem?_eq_getElem (hl e h)]; exact hc _ (List.getElem_mem _)
    refine ⟨(by decide : (1 : Nat) ≤ sizeLine), fun z nz => ?_⟩
    have g1 := (Go.refl mk).new (o := .lst [.int 0]) nz
    have hz : (upd H z (.lst [.int 0])) z = some (.lst [.int 0]) := upd_same
    generalize upd H z (.lst [.int 0]) = H1 at g1 hz
    refine ⟨.ref L, rfl, L, _, 2, .int 3, rfl, rfl, g1.t sL, atI_nat (j := 2) rfl, z, 3, _, rfl, rfl, hz, by decide, by decide, by decide, fun z2 nz2 => ?_⟩
    have g2 := g1.new (o := .lst (nV (Bst.bits 0))) nz2
    have hz2 : (upd H1 z2 (.lst (nV (Bst.bits 0)))) z2 = some (.lst (nV (Bst.bits 0))) := upd_same
    have eR : (List.replicate (3 : Int).toNat [V.int 0]).flatten = nV (Bst.bits 0) := rfl
    rw [eR]
    generalize upd H1 z2 (.lst (nV (Bst.bits 0))) = H2 at g2 hz2
    refine ⟨z2, _, rfl, .inl ⟨SqL.of hz2, fun t nt => ?_⟩⟩
    have g3 := g2.new (o := .tup (nV (Bst.bits 0))) nt
    have ht3 : SqT K (upd H2 t (.tup (nV (Bst.bits 0)))) t (nV (Bst.bits 0)) := SqT.of upd_same
    generalize upd H2 t (.tup (nV (Bst.bits 0))) = H3 at g3 ht3
    refine ⟨(by decide : (1 : Nat) ≤ sizeLine), fun fa nfa => ?_⟩
    have g4 := g3.new (o := .lst [.ref t]) nfa
    have ht4 := tk_new (K := K) (o := .lst [.ref t]) nfa _ _ ht3
    have hf4 : (upd H3 fa (.lst [.ref t])) fa = some (.lst [.ref t]) := upd_same
    generalize upd H3 fa (.lst [.ref t]) = H4 at g4 ht4 hf4
    refine ⟨.ref a, rfl, a, rfl, ⟨_, g4.l hA⟩, for_it walk_list (G := fun H' => SqL K H' a (nV l)) (fun i σ H' => Go M H H' ∧ ∃ (fa : Addr) (us : List V) (cl : List Nat) (Mk : Nat) (x3 x4 x5 x6 : Option V), σ = [some (.ref L), some (.ref a), some (.ref fa), x3, x4, x5, x6, none] ∧ H' fa = some (.lst us) ∧
      All2 (TI K H') us (cl.map Bst.bits) ∧ cl.Nodup ∧ (∀ x, x ∈ cl ↔ x < 8 ∧ Mk.testBit x = true) ∧ Mk ∈ Bst.vMasks ∧ Bst.vDim Mk + Bst.rkL Bst.vStep Bst.vIn (vCode cs) Mk (l.drop i) = Bst.rkL Bst.vStep Bst.vIn (vCode cs) 1 l) ?_ ?_ ?_ ?_⟩
    · refine ⟨g4, fa, _, [0], 1, none, none, none, none, rfl, hf4, .cons ⟨t, rfl, ht4⟩ .nil, by simp, ?_, by decide, by rw [List.drop_zero]; exact Nat.zero_add _⟩
      intro x
      rw [List.mem_singleton]
      refine ⟨fun h => by subst h; exact ⟨by decide, by decide⟩, fun ⟨h1, h2⟩ => ?_⟩
      have key : ∀ x, x < 8 → (1 : Nat).testBit x = true → x = 0 := by decide +kernel
      exact key x h1 h2
    · exact fun i σ H' _ h => h.1.l hA
    · rintro i x σ H5 H5' hi ⟨g, fa, us, cl, Mk, x3, x4, x5, x6, rfl, hf, hus, cnd, hcl, hMk, eD⟩ ⟨rfl, ex⟩
      obtain ⟨e, ee, rfl⟩ := nV_at ex
      have hel : e ∈ l := List.mem_of_getElem? ee
      have hlt := hl e hel
      have hc8 := hvc e hel
      have cl8 : ∀ x ∈ cl, x < 8 := fun x hx => ((hcl x).mp hx).1
      have clen := nodup_lt_len cnd cl8
      have ulen : us.length = cl.length := by rw [hus.len, List.length_map]
      obtain ⟨_, ep, pp, rfl, sp⟩ := aE.at (i := e) (b := Bst.bits (vCode cs e)) (by
        rw [List.getElem?_map, List.getElem?_eq_getElem hlt]
        unfold vCode; rw [List.getD_eq_getElem?_getD, List.getElem?_eq_getElem hlt]; rfl)
      have hdr : l.drop i = e :: l.drop (i + 1) := by
        have := List.getElem?_eq_some_iff.mp ee
        rw [← this.2]; exact List.drop_eq_getElem_cons this.1
      rw [hdr] at eD
      have eD2 : Bst.vDim (Bst.vStep Mk (vCode cs e)) + Bst.rkL Bst.vStep Bst.vIn (vCode cs) (Bst.vStep Mk (vCode cs e)) (l.drop (i + 1)) = Bst.rkL Bst.vStep Bst.vIn (vCode cs) 1 l := by
        rw [Bst.v_step Mk hMk _ hc8, ← eD]
        show _ = _ + ((if Bst.vIn Mk (vCode cs e) = true then 0 else 1) + _)
        omega
      clear eD
      generalize vCode cs e = c at hc8 sp eD2
      refine ⟨Nat.zero_le _, fun ma nma => ?_⟩
      have g6 := g.new (o := .lst []) nma
      have g6' := (Go.refl g.b).new (o := .lst []) nma
      have nfm := ne_of_none hf nma
      have hf6 := g6'.at hf
      have hus6 := hus.mono fun _ _ => TI.tk (tk_new (K := K) (o := .lst []) nma)
      have hm6 : (upd H5' ma (.lst [])) ma = some (.lst []) := upd_same
      have nmH := g.back nma
      generalize upd H5' ma (.lst []) = H6 at g6 hf6 hus6 hm6
      refine ⟨.ref L, rfl, L, _, 1, .int 2, rfl, rfl, g6.t sL, atI_nat (j := 1) rfl, 2, rfl, by decide, by decide, ?_⟩
      refine for_it (walk_rg0 (n := 2)) (fun f σ H' => Go M H H' ∧ H' fa = some (.lst us) ∧ ∃ (ms : List V) (ml : List Nat) (x5 x6 : Option V), σ = [some (.ref L), some (.ref a), some (.ref fa), some (.int (e : Nat)), some (.ref ma), x5, x6, none] ∧ H' ma = some (.lst ms) ∧ All2 (TI K H') ms (ml.map Bst.bits) ∧ All2 (TI K H') us (cl.map Bst.bits) ∧
        ml.length = f * cl.length ∧ (∀ x, x ∈ ml ↔ ∃ g, g < f ∧ ∃ y ∈ cl, x = y ^^^ (g * c))) ?_ ?_ ?_ ?_
      · exact ⟨g6, hf6, [], [], x5, x6, rfl, hm6, .nil, hus6, by simp, fun x => by simp⟩
      · exact fun _ _ _ _ _ => trivial
      · rintro f x σ H7 H7' hf2 ⟨g, hf, ms, ml, x5, x6, rfl, hm, hms, hus, mlen, hml⟩ ⟨rfl, rfl⟩
        refine ⟨.ref fa, rfl, fa, rfl, ⟨_, SqL.of hf⟩, for_it walk_list (G := fun H' => SqL K H' fa us) (fun j σ H' => Go M H H' ∧ H' fa = some (.lst us) ∧ ∃ (ms : List V) (ml2 : List Nat) (x6 : Option V), σ = [some (.ref L), some (.ref a), some (.ref fa), some (.int (e : Nat)), some (.ref ma), some (.int (f : Nat)), x6, none] ∧ H' ma = some (.lst ms) ∧ All2 (TI K H') ms (ml2.map Bst.bits) ∧
          All2 (TI K H') us (cl.map Bst.bits) ∧ ml2 = ml ++ (cl.take j).map fun y => y ^^^ (f * c)) ?_ ?_ ?_ ?_⟩
        · exact ⟨g, hf, ms, ml, x6, rfl, hm, hms, hus, by simp⟩
        · exact fun j σ H' _ h => SqL.of h.2.1
        · rintro j x σ H8 H8' hj ⟨g, hf, ms, ml2, x6, rfl, hm, hms, hus, rfl⟩ ⟨rfl, ex⟩
          obtain ⟨r, er, tr⟩ := hus.ta ex
          rw [List.getElem?_map] at er
          obtain ⟨y, ey, rfl⟩ : ∃ y, cl[j]? = some y ∧ r = Bst.bits y := by
            cases z : cl[j]? with
            | none => rw [z] at er; cases er
            | some y => rw [z] at er; exact ⟨y, rfl, (Option.some.inj er).symm⟩
          obtain ⟨tp, rfl, stp⟩ := tr
          have hy8 := cl8 y (List.mem_of_getElem? ey)
          have mslen : ms.length ≤ 16 := by
            rw [hms.len, List.length_map, List.length_append, List.length_map, List.length_take, mlen]
            have : f ≤ 1 := by omega
            have := Nat.mul_le_mul this clen
            omega
          refine ⟨.ref ma, rfl, .inl ⟨rfl, _, SqL.of hm⟩, .ref L, rfl, L, _, 2, .int 3, rfl, rfl, g.t sL, atI_nat (j := 2) rfl, 3, rfl, by decide, by decide, fun D nD => ?_⟩
          refine lcR (n := 3) (M := M) g.b nD (fun k => some (.int ((Bst.bits (y ^^^ (f * c))).getD k 0 : Nat))) (by decide) (fun k H9 hk g9 B C kB kC => ?_) (fun H9 g9 hD => ?_)
          · have g09 := g.trans g9
            have hb1 : (nV (Bst.bits y))[k]? = some (.int ((Bst.bits y).getD k 0 : Nat)) := nV_get (bits_at hk)
            have hb2 : (nV (Bst.bits c))[k]? = some (.int ((Bst.bits c).getD k 0 : Nat)) := nV_get (bits_at hk)
            have hlt2 : (Bst.bits c).getD k 0 < 2 := Bst.bits_le c _ (List.mem_of_getElem? (bits_at hk))
            refine ⟨rfl, .ref tp, rfl, _, rfl, tp, _, k, _, rfl, rfl, g9.t stp, atI_nat hb1, _, rfl, .ref L, rfl, L, _, 3, _, rfl, rfl, g09.t sL, atI_nat (j := 3) rfl, _, rfl, ae, _, e, _, rfl, rfl, g09.t sE, atI_nat ep, _, rfl, pp, _, k, _, rfl, rfl, g09.t sp, atI_nat hb2, _, _, rfl, rfl, .inl ⟨by omega, by omega⟩, _, _, rfl, rfl, .inl ⟨_, rfl, ?_⟩⟩
            refine ⟨.ref L, rfl, L, _, 1, .int 2, rfl, rfl, g09.t sL, atI_nat (j := 1) rfl, _, _, rfl, rfl, by (show (0 : Int) < 2; decide), kB _ _ (.refl g9.b) ?_⟩
            rw [← bits_add y hy8 c hc8 f hf2 k hk]
            rfl
          · have hres : (List.range 3).filterMap (fun k => some (V.int ((Bst.bits (y ^^^ (f * c))).getD k 0 : Nat))) = nV (Bst.bits (y ^^^ (f * c))) := rfl
            rw [hres] at hD
            refine ⟨D, _, rfl, .inl ⟨SqL.of hD, fun t nt => ?_⟩⟩
            have gA := (g.trans g9).new (o := .tup (nV (Bst.bits (y ^^^ (f * c))))) nt
            have gA' := g9.new (o := .tup (nV (Bst.bits (y ^^^ (f * c))))) nt
            have htA : SqT K (upd H9 t (.tup (nV (Bst.bits (y ^^^ (f * c)))))) t (nV (Bst.bits (y ^^^ (f * c)))) := SqT.of upd_same
            generalize upd H9 t (.tup (nV (Bst.bits (y ^^^ (f * c))))) = HA at gA gA' htA
            have hmA := gA'.at hm
            have hfA := gA'.at hf
            refine ⟨ma, _, _, rfl, rfl, hmA, szl (by omega), ?_⟩
            have tk : Tk K H8' (upd HA ma (.lst (ms ++ [.ref t]))) := fun x xs h => Tk.lst hmA x xs (gA'.t h)
            refine ⟨gA.set nmH hmA, (upd_ne nfm).trans hfA, _, _, _, rfl, upd_same, ?_, hus.mono fun _ _ => TI.tk tk, rfl⟩
            rw [tk_snoc ey, show ml ++ List.map (fun y => y ^^^ (f * c)) (cl.take j ++ [y]) = (ml ++ List.map (fun y => y ^^^ (f * c)) (cl.take j)) ++ [y ^^^ (f * c)] by simp, List.map_append]
            exact (hms.mono fun _ _ => TI.tk tk).snoc ⟨t, rfl, Tk.lst hmA _ _ htA⟩
        · rintro σ H8 ⟨g, hf, ms, ml2, x6, rfl, hm, hms, hus, rfl⟩
          rw [ulen, List.take_length] at hms
          refine ⟨g, hf, ms, _, _, x6, rfl, hm, hms, hus, ?_, fun x => ?_⟩
          · rw [List.length_append, List.length_map, mlen, Nat.add_mul, Nat.one_mul]
          · rw [List.mem_append, hml, List.mem_map]
            constructor
            · rintro (⟨g', h1, y, hy, rfl⟩ | ⟨y, hy, rfl⟩)
              · exact ⟨g', by omega, y, hy, rfl⟩
              · exact ⟨f, by omega, y, hy, rfl⟩
            · rintro ⟨g', h1, y, hy, rfl⟩
              rcases Nat.lt_or_ge g' f with h2 | h2
              · exact .inl ⟨g', h2, y, hy, rfl⟩
              · have : g' = f := by omega
                subst this
                exact .inr ⟨y, hy, rfl⟩
      · rintro σ H7 ⟨g, hf, ms, ml, x5, x6, rfl, hm, hms, hus, mlen, hml⟩
        have hml2 : ∀ x, x ∈ ml ↔ x ∈ cl ∨ ∃ y ∈ cl, x = y ^^^ c := fun x => by
          rw [hml]
          constructor
          · rintro ⟨g', h1, y, hy, rfl⟩
            rcases (by omega : g' = 0 ∨ g' = 1) with rfl | rfl
            · rw [Nat.zero_mul, Nat.xor_zero]; exact .inl hy
            · rw [Nat.one_mul]; exact .inr ⟨y, hy, rfl⟩
          · rintro (hx | ⟨y, hy, rfl⟩)
            · exact ⟨0, by decide, x, hx, by rw [Nat.zero_mul, Nat.xor_zero]⟩
            · exact ⟨1, by decide, y, hy, by rw [Nat.one_mul]⟩
        have ml8 : ∀ x ∈ ml, x < 8 := fun x hx => by
          rcases (hml2 x).mp hx with h | ⟨y, hy, rfl⟩
          · exact cl8 x h
          · exact xor_lt y (cl8 y hy) c hc8
        obtain ⟨ks, rfl, ek, hk⟩ := ks_of hms
        have kslen : ks.length ≤ 16 := by
          have := congrArg List.length ek
          rw [List.length_map, List.length_map, List.length_map, mlen] at this
          omega
        refine ⟨.ref ma, rfl, ma, ks, rfl, SqL.of hm, hk, by omega, fun sa Ls nsa hsub hall => ?_⟩
        have gA := g.new (o := SetTO P w sa Ls) nsa
        have tkA := tk_new (K := K) (o := SetTO P w sa Ls) nsa
        have hsA : (upd H7 sa (SetTO P w sa Ls)) sa = some (SetTO P w sa Ls) := upd_same
        generalize upd H7 sa (SetTO P w sa Ls) = HA at gA tkA hsA
        have hLs : ∀ p ∈ Ls, ∃ x ∈ ml, p.2 = (Bst.bits x).map Int.ofNat := fun p hp => by
          have : p.2 ∈ ks.map (·.2) := List.mem_map_of_mem (hsub p hp)
          rw [ek] at this
          obtain ⟨r, hr, e1⟩ := List.mem_map.mp this
          obtain ⟨x, hx, rfl⟩ := List.mem_map.mp hr
          exact ⟨x, hx, e1.symm⟩
        refine ⟨sa, Ls, 3, 2, rfl, hsA, fun p hp => tkA _ _ (hk p (hsub p hp)), by decide, fun p hp => ?_, fun L' pf perm nd few srt npf => ?_⟩
        · obtain ⟨x, hx, e1⟩ := hLs p hp
          rw [e1]
          refine ⟨rfl, fun m hm => ?_⟩
          obtain ⟨z, hz, rfl⟩ := List.mem_map.mp hm
          have := Bst.bits_le x z hz
          show (0 : Int) ≤ (z : Int) ∧ (z : Int) < 2
          omega
        · have gB := gA.new (o := .lst (L'.map fun q => V.ref q.1)) npf
          have tkB := tk_new (K := K) (o := .lst (L'.map fun q => V.ref q.1)) npf
          have hpB : (upd HA pf (.lst (L'.map fun q => V.ref q.1))) pf = some (.lst (L'.map fun q => V.ref q.1)) := upd_same
          generalize upd HA pf (.lst (L'.map fun q => V.ref q.1)) = HB at gB tkB hpB
          obtain ⟨cl', e1, e2, e3⟩ := of_ks (K := K) (H := HB) (ml := ml) (L := L') (fun p hp => tkB _ _ (tkA _ _ (hk p (hsub p (perm.mem_iff.mp hp))))) fun p hp => hLs p (perm.mem_iff.mp hp)
          have nd' : cl'.Nodup := by
            rw [e2] at nd
            refine (List.pairwise_map.mp nd).imp fun {x y} h z => h (by rw [z])
          have back : ∀ x ∈ ml, x ∈ cl' := fun x hx => by
            have h1 : (Bst.bits x).map Int.ofNat ∈ ks.map (·.2) := by
              rw [ek]
              exact List.mem_map.mpr ⟨_, List.mem_map_of_mem hx, rfl⟩
            obtain ⟨p, hp, ep'⟩ := List.mem_map.mp h1
            have h2 := hall p hp
            rw [ep'] at h2
            have h3 : (Bst.bits x).map Int.ofNat ∈ L'.map (·.2) := (perm.map (·.2)).mem_iff.mpr h2
            rw [e2] at h3
            obtain ⟨y, hy, e4⟩ := List.mem_map.mp h3
            have e5 : Bst.bits y = Bst.bits x := map_ofNat_inj e4
            rw [← bits_inj y (ml8 y (e3 y hy)) x (ml8 x hx) e5]
            exact hy
          refine ⟨gB, pf, _, cl', Bst.vStep Mk c, _, _, _, _, rfl, hpB, e1, nd', fun x => ?_, Bst.v_okA Mk hMk c hc8, eD2⟩
          have e6 : x ∈ cl' ↔ x ∈ ml := ⟨e3 x, back x⟩
          rw [e6, hml2 x]
          constructor
          · rintro (h | ⟨y, hy, rfl⟩)
            · obtain ⟨h1, h2⟩ := (hcl x).mp h
              exact ⟨h1, by rw [step_bit Mk hMk c hc8 x h1, h2]; rfl⟩
            · obtain ⟨h1, h2⟩ := (hcl y).mp hy
              refine ⟨xor_lt y h1 c hc8, ?_⟩
              rw [step_bit Mk hMk c hc8 _ (xor_lt y h1 c hc8), Nat.xor_assoc, Nat.xor_self, Nat.xor_zero, h2, Bool.or_true]
          · rintro ⟨h1, h2⟩
            rw [step_bit Mk hMk c hc8 x h1] at h2
            rcases Bool.or_eq_true_iff.mp h2 with h3 | h3
            · exact .inl ((hcl x).mpr ⟨h1, h3⟩)
            · exact .inr ⟨x ^^^ c, (hcl _).mpr ⟨xor_lt x h1 c hc8, h3⟩, by rw [Nat.xor_assoc, Nat.xor_self, Nat.xor_zero]⟩
    · rintro σ H5 ⟨g, fa, us, cl, Mk, x3, x4, x5, x6, rfl, hf, hus, cnd, hcl, hMk, eD⟩
      rw [nV_len, List.drop_length] at eD
      have cl8 : ∀ x ∈ cl, x < 8 := fun x hx => ((hcl x).mp hx).1
      have ulen : us.length = cl.length := by rw [hus.len, List.length_map]
      have hcard : cl.length = 2 ^ Bst.vDim Mk := by
        rw [len_cnt cnd cl8, ← mask_cnt Mk hMk]
        refine Bst.cnt_congr fun x hx => ?_
        rw [Bool.eq_iff_iff, Bst.mem_true, hcl x]
        exact ⟨fun z => z.2, fun z => ⟨hx, z⟩⟩
      refine ⟨.ref fa, rfl, fa, _, rfl, .inl (SqL.of hf), ?_⟩
      rw [ulen, hcard]
      have : Bst.vDim Mk = Bst.rkL Bst.vStep Bst.vIn (vCode cs) 1 l := eD
      rw [this]
      exact q _ g
end
end Bw

set_option Elab.async false
set_option linter.all false
set_option maxRecDepth 100000
set_option maxHeartbeats 2000000
namespace Bw
open PySem PySem.Spec PyProof.Rows L2
/-! ### the law's own tests of a line's sets -/
def frL : Ln → List Nat → Bool
  | .graph _ es, l => Bst.allNew Bst.gAdd Bst.gIn (gEdge es) id l
  | .choices _ rows, l => Bst.given (rowOf rows) l []
  | .bounds _ bs, l => bs.all fun p => decide ((l.filter fun x => decide (x ∈ p.1)).length ≤ p.2)
  | .uniform _ r, l => decide (l.length ≤ r)
  | .vectors cs, l => decide (Bst.rkL Bst.vStep Bst.vIn (vCode cs) 1 l = l.length)
theorem frL_ok {ln : Ln} (h : LnOk ln) {A : Bst.S} (hA : ∀ x, A x = true → x < lnSize ln) : frL ln (Bst.lst (lnSize ln) A) = true ↔ lnI ln A := by
  have hm : Bst.mem (Bst.lst (lnSize ln) A) = A := Bst.mem_of_lst hA
  have hx : ∀ e ∈ Bst.lst (lnSize ln) A, e < lnSize ln := fun e he => (Bst.mem_lst.mp he).1
  cases ln with
  | graph nv es =>
    refine (Bst.allNew_iff _ _).trans ?_
    rw [lst_len]
    exact ⟨fun z => ⟨hA, z⟩, fun z => z.2⟩
  | choices m rows => exact (Bst.given_ok (Bst.lst_nodup _ A) hx).trans (by show Bst.IMat _ _ (Bst.mem (Bst.lst (lnSize (.choices m rows)) A)) ↔ _; rw [hm]; exact Iff.rfl)
  | bounds n bs =>
    show (bs.all _) = true ↔ _
    rw [List.all_eq_true]
    have hs := Bst.lst_sorted n A
    refine ⟨fun z => ⟨hA, fun p hp => ?_⟩, fun z p hp => ?_⟩
    · have := of_decide_eq_true (z p hp)
      have e := Bst.filter_cnt (g := p.1) hs hx
      rw [show Bst.mem (Bst.lst n A) = A from hm] at e
      exact e ▸ this
    · refine decide_eq_true ?_
      have e := Bst.filter_cnt (g := p.1) hs hx
      rw [show Bst.mem (Bst.lst n A) = A from hm] at e
      exact e.symm ▸ z.2 p hp
  | uniform n r =>
    show decide ((Bst.lst n A).length ≤ r) = true ↔ _
    rw [decide_eq_true_eq, lst_len]
    exact ⟨fun z => ⟨hA, z⟩, fun z => z.2⟩
  | vectors cs =>
    show decide (_ = _) = true ↔ _
    rw [decide_eq_true_eq, lst_len]
    exact ⟨fun z => ⟨hA, z⟩, fun z => z.2⟩
section
variable {P : Program} {w : World} {K : PySem.W.Frag} {mg : Str → Option Value} {base : Heap}
def spIsFree (K : PySem.W.Frag) : Sp := fun vs H Q _ => ∃ (M : Mw) (L a : Addr) (ln : Ln) (l : List Nat), vs = [.ref L, .ref a] ∧ Mok M H ∧ LineAt K H L ln ∧ LnOk ln ∧ lnSize ln ≤ 6 ∧ H a = some (.lst (nV l)) ∧ l.Nodup ∧ (∀ e ∈ l, e < lnSize ln) ∧ ∀ H', Go M H H' → Q (.bl (frL ln l)) H'
theorem pow_inj2 {a b : Nat} (h : 2 ^ a = 2 ^ b) : a = b := (Nat.pow_right_inj (by decide)).mp h
theorem ok_law_is_free {f : Addr} {fd : FuncData} (T : Bn mg) (F : Fun K "_law_is_free" "_law_is_free" s__law_is_free f fd) (D__law_forest : Def K mg "_law_forest" s__law_forest) (D__law_sums : Def K mg "_law_sums" s__law_sums) (D__law_given : Def K mg "_law_given" s__law_given)
    (G__law_forest : FnOk P w K mg base CX0 1 D__law_forest.f D__law_forest.fd ["_law_line", "_law_those"] (spForest K)) (G__law_sums : FnOk P w K mg base CX0 1 D__law_sums.f D__law_sums.fd ["_law_line", "_law_those"] (spSums K))
    (G__law_given : FnOk P w K mg base CX0 8 D__law_given.f D__law_given.fd ["_law_line", "_law_those", "_law_taken"] (spGiven K 7)) : FnOk P w K mg base CX0 9 f fd ["_law_line", "_law_those"] (spIsFree K) := by
  refine F.ok sc__law_is_free (fun vs H Q E h => ?_) (fun cdv A outer s H vs Q E hr h => ?_)
  · obtain ⟨M, L, a, ln, l, rfl, _⟩ := h
    rfl
  · obtain ⟨M, L, a, ln, l, rfl, mk, hL, ok, h6, hA, hnd, hlt, q⟩ := h
    -- 0 _law_line, 1 _law_those, 2 _law_name, 3 _law_base, 4 _law_pair, 5 _law_e
    refine ⟨_, (pss_cons (ps_set (i := 2) sc__law_is_free.nd rfl (.inl rfl) (pe_ix (ix_tupK (K := K)) (pv 0) pe_int (fun _ _ => rfl)))
      (pss_cons (ps_if (pt_cmpR op_eq (pv 2) pe_str (nomark _)) (pss_one (ps_ret (pe_call G__law_forest (hr.mono (by first | decide | omega)) (by rfl) D__law_forest.g D__law_forest.F.kp (bd__law_forest D__law_forest.F) .nil pass0 (pa_cons (pv 0) (pa_cons (pv 1) pa_nil))))) pss_nil)
      (pss_cons (ps_if (pt_cmpR op_eq (pv 2) pe_str (nomark _)) (pss_one (ps_ret (pe_cmpR op_eq (pe_call G__law_sums (hr.mono (by first | decide | omega)) (by rfl) D__law_sums.g D__law_sums.F.kp (bd__law_sums D__law_sums.F) .nil pass0 (pa_cons (pv 0) (pa_cons (pv 1) pa_nil))) (pe_ix (ix_listK (K := K)) (pe_lst (pa_cons pe_int (pa_cons (pe_ix (ix_tupK (K := K)) (pv 0) pe_int (fun _ _ => rfl)) (pa_cons (pe_op op_pow (pe_ix (ix_tupK (K := K)) (pv 0) pe_int (fun _ _ => rfl)) pe_int) (pa_cons (pe_op op_pow (pe_ix (ix_tupK (K := K)) (pv 0) pe_int (fun _ _ => rfl)) pe_int) (pa_cons (pe_op op_pow (pe_ix (ix_tupK (K := K)) (pv 0) pe_int (fun _ _ => rfl)) pe_int) (pa_cons (pe_op op_pow (pe_ix (ix_tupK (K := K)) (pv 0) pe_int (fun _ _ => rfl)) pe_int) (pa_cons (pe_op op_pow (pe_ix (ix_tupK (K := K)) (pv 0) pe_int (fun _ _ => rfl)) pe_int) pa_nil)))))))) (pe_callB (call_len_seqK (K := K)) (by rfl) T.m_len PySem.boot_len (pa_cons (pv 1) pa_nil)) (fun _ _ => rfl)) (nomark _)))) pss_nil)
      (pss_cons (ps_if (pt_cmpR op_eq (pv 2) pe_str (nomark _)) (pss_one (ps_ret (pe_call G__law_given (hr.mono (by first | decide | omega)) (by rfl) D__law_given.g D__law_given.F.kp (bd__law_given D__law_given.F) .nil pass0 (pa_cons (pv 0) (pa_cons (pv 1) (pa_cons (pe_lst pa_nil) pa_nil)))))) pss_nil)
      (pss_cons (ps_if (pt_cmpR op_eq (pv 2) pe_str (nomark _)) (pss_one (ps_ret (pe_callB (cr_allK (K := K) rfl) (by rfl) T.m_all (by decide +kernel) (pa_cons (pe_lc (own := [("_law_pair", 4)]) (by rfl) sc__law_is_free.nd (pi_tupK (K := K) (pe_ix (ix_tupK (K := K)) (pv 0) pe_int (fun _ _ => rfl))) (blkOk_by (by rfl)) (fun _ _ _ _ _ => (pg_name (i := 4) sc__law_is_free.nd rfl (.inr rfl))) (fun _ _ _ _ _ => pts_nil) (fun _ _ _ _ _ => (pe_cmpR op_le (pe_callB (call_len_seqK (K := K)) (by rfl) T.m_len PySem.boot_len (pa_cons (pe_lc (own := [("_law_e", 5)]) (by rfl) sc__law_is_free.nd (pi_listK (K := K) (pv 1)) (blkOk_by (by rfl)) (fun _ _ _ _ _ => (pg_name (i := 5) sc__law_is_free.nd rfl (.inl rfl))) (fun _ _ _ _ _ => (pts_one (pt_cmpR (op_in_seqK (K := K)) (pv 5) (pe_ix (ix_tupK (K := K)) (pv 4) pe_int (fun _ _ => rfl)) rfl))) (fun _ _ _ _ _ => (pv 5))) pa_nil)) (pe_ix (ix_tupK (K := K)) (pv 4) pe_int (fun _ _ => rfl)) (nomark _)))) pa_nil)))) pss_nil)
      (pss_cons (ps_if (pt_cmpR op_eq (pv 2) pe_str (nomark _)) (pss_one (ps_ret (pe_cmpR op_le (pe_callB (call_len_seqK (K := K)) (by rfl) T.m_len PySem.boot_len (pa_cons (pv 1) pa_nil)) (pe_ix (ix_tupK (K := K)) (pv 0) pe_int (fun _ _ => rfl)) (nomark _)))) pss_nil)
      (pss_cons (ps_for PassesOwn.never rfl (pi_tupK (K := K) (pe_ix (ix_tupK (K := K)) (pv 0) pe_int (fun _ _ => rfl))) (pg_name (i := 3) sc__law_is_free.nd rfl (.inr rfl)) (pss_one (ps_if (pt_val (pe_callB (cr_allK (K := K) rfl) (by rfl) T.m_all (by decide +kernel) (pa_cons (pe_lc (own := [("_law_e", 5)]) (by rfl) sc__law_is_free.nd (pi_listK (K := K) (pv 1)) (blkOk_by (by rfl)) (fun _ _ _ _ _ => (pg_name (i := 5) sc__law_is_free.nd rfl (.inl rfl))) (fun _ _ _ _ _ => pts_nil) (fun _ _ _ _ _ => (pe_cmpR (op_in_seqK (K := K)) (pv 5) (pv 3) rfl))) pa_nil))) (pss_one (ps_ret pe_bl)) pss_nil)))
      (pss_one (ps_ret pe_bl))))))))), ?_⟩
    have hlen := nodup_lt_len hnd hlt
    cases ln with
    | graph nv es =>
      obtain ⟨v, sL, t⟩ := id hL
      refine ⟨.ref L, rfl, L, _, 0, _, rfl, rfl, sL, atI_nat (j := 0) rfl, _, rfl, rfl, _, rfl, iteY (by decide +kernel) ?_⟩
      exact ⟨.ref L, rfl, .ref a, rfl, M, L, a, nv, es, l, rfl, mk, hL, SqL.of hA, hlt, ok.1, ok.2, Nat.le_trans hlen (Nat.le_trans h6 (by decide)), q⟩
    | vectors cs =>
      obtain ⟨v, sL, t⟩ := id hL
      refine ⟨.ref L, rfl, L, _, 0, _, rfl, rfl, sL, atI_nat (j := 0) rfl, _, rfl, rfl, _, rfl, iteN (by decide +kernel) ⟨_, rfl, rfl, _, rfl, iteY (by decide +kernel) ?_⟩⟩
      refine ⟨.ref L, rfl, .ref a, rfl, M, L, a, cs, l, rfl, mk, hL, SqL.of hA, hlt, ok, Nat.le_trans hlen (Nat.le_trans h6 (by decide)), fun H1 g1 => ?_⟩
      have at1 : ∀ {k : Int}, 0 ≤ k → k ≤ 1000000 → CPow 2 k := fun h1 h2 => ⟨h1, h2, by decide⟩
      have l1 := atI_nat (j := 1) (xs := [V.str "vectors", .int 2, .int 3, v]) rfl
      have sL1 := g1.t sL
      refine ⟨.ref L, rfl, L, _, 1, .int 2, rfl, rfl, sL1, l1, .ref L, rfl, L, _, 1, .int 2, rfl, rfl, sL1, l1, 2, 2, rfl, rfl, at1 (by decide) (by decide), .ref L, rfl, L, _, 1, .int 2, rfl, rfl, sL1, l1, 2, 3, rfl, rfl, at1 (by decide) (by decide), .ref L, rfl, L, _, 1, .int 2, rfl, rfl, sL1, l1, 2, 4, rfl, rfl, at1 (by decide) (by decide),
        .ref L, rfl, L, _, 1, .int 2, rfl, rfl, sL1, l1, 2, 5, rfl, rfl, at1 (by decide) (by decide), .ref L, rfl, L, _, 1, .int 2, rfl, rfl, sL1, l1, 2, 6, rfl, rfl, at1 (by decide) (by decide), (by decide : (7 : Nat) ≤ sizeLine), fun k nk => ?_⟩
      have g2 := g1.new (o := .lst [.int 1, .int 2, .int (2 ^ 2), .int (2 ^ 3), .int (2 ^ 4), .int (2 ^ 5), .int (2 ^ 6)]) nk
      have hk : (upd H1 k (.lst [.int 1, .int 2, .int (2 ^ 2), .int (2 ^ 3), .int (2 ^ 4), .int (2 ^ 5), .int (2 ^ 6)])) k = some (.lst [.int 1, .int 2, .int (2 ^ 2), .int (2 ^ 3), .int (2 ^ 4), .int (2 ^ 5), .int (2 ^ 6)]) := upd_same
      have hat : ∀ j, j < 7 → [V.int 1, .int 2, .int (2 ^ 2), .int (2 ^ 3), .int (2 ^ 4), .int (2 ^ 5), .int (2 ^ 6)][j]? = some (.int ((2 ^ j : Nat) : Nat)) := fun j hj => by
        match j, hj with
        | 0, _ => rfl
        | 1, _ => rfl
        | 2, _ => rfl
        | 3, _ => rfl
        | 4, _ => rfl
        | 5, _ => rfl
        | 6, _ => rfl
      refine ⟨.ref a, rfl, a, _, rfl, .inl (SqL.of (g2.at hA)), k, _, _, _, rfl, rfl, SqL.of hk, atI_nat (hat _ (by rw [nV_len]; exact Nat.lt_of_le_of_lt hlen (by omega))), rfl, ?_⟩
      have e : decide (V.int ((2 ^ Bst.rkL Bst.vStep Bst.vIn (vCode cs) 1 l : Nat) : Nat) = V.int ((2 ^ (nV l).length : Nat) : Nat)) = frL (.vectors cs) l := by
        rw [dec_n, nV_len, Bool.eq_iff_iff]
        show decide _ = true ↔ decide (Bst.rkL Bst.vStep Bst.vIn (vCode cs) 1 l = l.length) = true
        rw [decide_eq_true_eq, decide_eq_true_eq]
        exact ⟨pow_inj2, fun h => by rw [h]⟩
      show Q (.bl (decide (V.int ((2 ^ Bst.rkL Bst.vStep Bst.vIn (vCode cs) 1 l : Nat) : Nat) = V.int ((2 ^ (nV l).length : Nat) : Nat)))) _
      rw [e]
      exact q _ g2
    | choices m rows =>
      obtain ⟨v, sL, t⟩ := id hL
      refine ⟨.ref L, rfl, L, _, 0, _, rfl, rfl, sL, atI_nat (j := 0) rfl, _, rfl, rfl, _, rfl, iteN (by decide +kernel) ⟨_, rfl, rfl, _, rfl, iteN (by decide +kernel) ⟨_, rfl, rfl, _, rfl, iteY (by decide +kernel) ?_⟩⟩⟩
      refine ⟨.ref L, rfl, .ref a, rfl, Nat.zero_le _, fun k nk => ?_⟩
      have g := (Go.refl mk).new (o := .lst []) nk
      have h7 : l.length < 7 := Nat.lt_of_le_of_lt hlen (by omega)
      exact ⟨M, L, a, k, k, m, rows, l, [], rfl, g.b, hL.go g, SqL.of (g.at hA), upd_same, hlt, h7, by decide, by rw [List.length_nil]; omega, fun H' g' => q H' (g.trans g')⟩
    | bounds n bs =>
      obtain ⟨v, sL, ae, ve, rfl, sE, aE⟩ := id hL
      refine ⟨.ref L, rfl, L, _, 0, _, rfl, rfl, sL, atI_nat (j := 0) rfl, _, rfl, rfl, _, rfl, iteN (by decide +kernel) ⟨_, rfl, rfl, _, rfl, iteN (by decide +kernel) ⟨_, rfl, rfl, _, rfl, iteN (by decide +kernel) ⟨_, rfl, rfl, _, rfl, iteY (by decide +kernel) ?_⟩⟩⟩⟩
      refine ⟨.ref L, rfl, L, _, 2, _, rfl, rfl, sL, atI_nat (j := 2) rfl, ae, rfl, ⟨_, sE⟩, fun D nD => ?_⟩
      have hbl : ve.length ≤ 1000 := by rw [aE.len]; exact ok.1
      let tst : List Nat × Nat → Bool := fun p => decide ((l.filter fun x => decide (x ∈ p.1)).length ≤ p.2)
      refine lcW (walk_tup (xs := ve)) mk nD (fun i => (bs[i]?).bind fun p => some (.bl (tst p))) (by omega) (fun H' g => g.t sE) (fun i x H1 H1' hi g1 y => ?_) (fun H1 g1 hD => ?_)
      · obtain ⟨rfl, ex⟩ := y
        obtain ⟨p, ep, b, w, rfl, sb, gp, rfl, sp⟩ := (aE.mono fun _ _ => TBd.go g1).ta ex
        rw [ep]
        intro B C kB kC
        refine ⟨rfl, .ref a, rfl, a, rfl, ⟨_, g1.l (SqL.of hA)⟩, fun D2 nD2 => ?_⟩
        refine lcL (M := M) (g1.l (SqL.of hA)) g1.b nD2 (fun e => if decide (e ∈ p.1) = true then some (.int (e : Nat)) else none) (by omega) (fun j e H2 he g2 B C kB kC => ?_) (fun H2 g2 hD2 => ?_)
        · refine ⟨rfl, .int (e : Nat), rfl, .ref b, rfl, b, _, 0, _, rfl, rfl, g2.t sb, atI_nat (j := 0) rfl, gp, _, rfl, .inr (g2.t sp), rfl, flat_nV _, _, rfl, ?_⟩
          rw [inV_n]
          exact ite_bool (fun h => ⟨_, rfl, kB _ _ (.refl g2.b) (if_pos (show decide (e ∈ p.1) = true from h))⟩) (fun h => kC _ (.refl g2.b) (if_neg (by rw [show decide (e ∈ p.1) = false from h]; simp)))
        · rw [fm_filter] at hD2
          refine ⟨D2, _, rfl, .inl (SqL.of hD2), .ref b, rfl, b, _, 1, .int (p.2 : Nat), rfl, rfl, g2.t sb, atI_nat (j := 1) rfl, _, _, rfl, rfl, kB _ _ g2 ?_⟩
          show some (V.bl (tst p)) = some (V.bl (decide ((((nV (l.filter fun e => decide (e ∈ p.1))).length : Nat) : Int) ≤ ((p.2 : Nat) : Int))))
          refine congrArg (fun z => some (V.bl z)) ?_
          rw [nV_len, Bool.eq_iff_iff, decide_eq_true_eq, decide_eq_true_eq]
          omega
      · rw [aE.len, fm_list] at hD
        have e1 : bs.filterMap (fun p => some (V.bl (tst p))) = (bs.map tst).map V.bl := by
          rw [List.map_map]; exact congrFun List.filterMap_eq_map' bs
        rw [e1] at hD
        refine ⟨D, bs.map tst, rfl, SqL.of hD, ?_⟩
        have e2 : (bs.map tst).all id = frL (.bounds n bs) l := by
          rw [List.all_map]; rfl
        rw [e2]
        exact q _ g1
    | uniform n r =>
      have sL : SqT K H L [.str "uniform", .int (n : Nat), .int (r : Nat)] := hL
      refine ⟨.ref L, rfl, L, _, 0, _, rfl, rfl, sL, atI_nat (j := 0) rfl, _, rfl, rfl, _, rfl, iteN (by decide +kernel) ⟨_, rfl, rfl, _, rfl, iteN (by decide +kernel) ⟨_, rfl, rfl, _, rfl, iteN (by decide +kernel) ⟨_, rfl, rfl, _, rfl, iteN (by decide +kernel) ⟨_, rfl, rfl, _, rfl, iteY (by decide +kernel) ?_⟩⟩⟩⟩⟩
      refine ⟨.ref a, rfl, a, _, rfl, .inl (SqL.of hA), .ref L, rfl, L, _, 2, _, rfl, rfl, sL, atI_nat (j := 2) rfl, _, _, rfl, rfl, ?_⟩
      have e : decide ((((nV l).length : Nat) : Int) ≤ ((r : Nat) : Int)) = frL (.uniform n r) l := by
        rw [nV_len, Bool.eq_iff_iff]
        show decide _ = true ↔ decide (l.length ≤ r) = true
        rw [decide_eq_true_eq, decide_eq_true_eq]
        omega
      show Q (.bl (decide ((((nV l).length : Nat) : Int) ≤ ((r : Nat) : Int)))) H
      rw [e]
      exact q H (Go.refl mk)
end
end Bw

set_option Elab.async false
set_option linter.all false
set_option maxRecDepth 100000
set_option maxHeartbeats 2000000
namespace Bw
open PySem PySem.Spec PyProof.Rows L2
theorem bs_lt {c n x : Nat} (h : c < 2 ^ n) (q : bs c x = true) : x < n := by
  rcases Nat.lt_or_ge x n with z | z
  · exact z
  · rw [bs_high h z] at q; cases q
theorem cS_compl (A : Bst.S) : ∀ n, cS n A + cS n (fun e => !A e) + 1 = 2 ^ n
  | 0 => rfl
  | n + 1 => by
    have := cS_compl A n
    unfold cS
    rw [Nat.pow_succ]
    cases h : A n
    · rw [if_neg (by simp), if_pos (by simp [h])]
      omega
    · rw [if_pos rfl, if_neg (by simp [h])]
      omega
theorem bs_compl {n : Nat} {l : List Nat} (nd : l.Nodup) (h : ∀ e ∈ l, e < n) : 2 ^ n - 1 - codeOf l < 2 ^ n ∧ bs (2 ^ n - 1 - codeOf l) = fun e => decide (e < n) && !Bst.mem l e := by
  have h1 := cS_compl (Bst.mem l) n
  have h2 := codeOf_eq nd h
  have e : 2 ^ n - 1 - codeOf l = cS n (fun e => !Bst.mem l e) := by omega
  rw [e]
  exact ⟨cS_lt _ _, funext fun x => bs_cS _ _ _⟩
theorem bs_all {n : Nat} : 2 ^ n - 1 < 2 ^ n ∧ bs (2 ^ n - 1) = allS n := by
  have := bs_compl (n := n) (l := []) .nil (fun e h => by cases h)
  have e0 : codeOf [] = 0 := rfl
  rw [e0, Nat.sub_zero] at this
  refine ⟨this.1, this.2.trans ?_⟩
  funext x
  show (decide (x < n) && !Bst.mem [] x) = decide (x < n)
  unfold Bst.mem
  simp
theorem bs_del {c n e : Nat} (h : c < 2 ^ n) (he : bs c e = true) : 2 ^ e ≤ c ∧ bs (c - 2 ^ e) = Bst.del (bs c) e := by
  have hen := bs_lt h he
  have h1 := cS_del hen he
  rw [cS_bs h] at h1
  have e1 : c - 2 ^ e = cS n (Bst.del (bs c) e) := by omega
  refine ⟨by omega, ?_⟩
  rw [e1]
  funext x
  rw [bs_cS]
  by_cases hx : x < n
  · rw [decide_eq_true hx]; rfl
  · rw [decide_eq_false hx]
    cases q : Bst.del (bs c) e x with
    | false => rfl
    | true => exact absurd (bs_lt h (Bst.of_del q).2) hx
/-- the ranks of all sets by their codes, up to i -/
def RkT (n : Nat) (I : Bst.S → Prop) (i : Nat) (rks : List Nat) : Prop := rks.length = i ∧ ∀ c, c < i → Bst.IsRank n I (bs c) (rks.getD c 0)
theorem RkT.put {n i r : Nat} {I : Bst.S → Prop} {rks : List Nat} (h : RkT n I i rks) (hr : Bst.IsRank n I (bs i) r) : RkT n I (i + 1) (rks ++ [r]) := by
  refine ⟨by rw [List.length_append, h.1]; rfl, fun c hc => ?_⟩
  rw [List.getD_eq_getElem?_getD]
  by_cases e : c < i
  · rw [List.getElem?_append_left (by rw [h.1]; exact e), ← List.getD_eq_getElem?_getD]; exact h.2 c e
  · have e2 : c = i := by omega
    subst e2
    rw [List.getElem?_append_right (by rw [h.1]; exact Nat.le_refl _), h.1, Nat.sub_self]
    exact hr
theorem RkT.at {n i c : Nat} {I : Bst.S → Prop} {rks : List Nat} (h : RkT n I i rks) (hc : c < i) : (nV rks)[c]? = some (.int (rks.getD c 0 : Nat)) := nV_get (by rw [List.getD_eq_getElem?_getD, List.getElem?_eq_getElem (by rw [h.1]; exact hc)]; rfl)
/-- the table of a matroid's free sets -/
def FrOk (n : Nat) (I : Bst.S → Prop) (F : List Nat → Bool) : Prop := ∀ A : Bst.S, (∀ x, A x = true → x < n) → (F (Bst.lst n A) = true ↔ I A)
section
variable {P : Program} {w : World} {K : PySem.W.Frag} {mg : Str → Option Value} {base : Heap}
def spRanks (K : PySem.W.Frag) : Sp := fun vs H Q _ => ∃ (M : Mw) (a : Addr) (n : Nat) (F : List Nat → Bool) (I : Bst.S → Prop), vs = [.ref a, .int (n : Nat)] ∧ Mok M H ∧ H a = some (.lst (frV n F)) ∧ n ≤ 6 ∧ Bst.Mat n I ∧ FrOk n I F ∧
  ∀ H' p rks, Go M H H' → H p = none → H' p = some (.lst (nV rks)) → RkT n I (2 ^ n) rks → Q (.ref p) H'
theorem ok_ranks {f : Addr} {fd : FuncData} (T : Bn mg) (F : Fun K "_law_ranks" "_law_ranks" s__law_ranks f fd) (D__law_powers : Def K mg "_law_powers" s__law_powers) (D__law_members : Def K mg "_law_members" s__law_members)
    (G__law_powers : FnOk P w K mg base CX0 1 D__law_powers.f D__law_powers.fd [] spPowers) (G__law_members : FnOk P w K mg base CX0 2 D__law_members.f D__law_members.fd ["_law_code_here", "_law_size_here"] spMembers) :
    FnOk P w K mg base CX0 3 f fd ["_law_free_here", "_law_size_here"] (spRanks K) := by
  refine F.ok sc__law_ranks (fun vs H Q E h => ?_) (fun cdv A outer s H vs Q E hr h => ?_)
  · obtain ⟨M, a, n, F, I, rfl, _⟩ := h
    rfl
  · obtain ⟨M, a, n, F, I, rfl, mk, hA, h6, hM, hF, q⟩ := h
    -- 0 _law_free_here, 1 _law_size_here, 2 _law_powers_here, 3 _law_ranks_here, 4 _law_code_here, 5 _law_members_here, 6 _law_e
    refine ⟨_, (pss_cons (ps_set (i := 2) sc__law_ranks.nd rfl (.inr rfl) (pe_call0 G__law_powers (hr.mono (by first | decide | omega)) (by rfl) D__law_powers.g D__law_powers.F.kp (bd__law_powers D__law_powers.F) .nil pass0))
      (pss_cons (ps_set (i := 3) sc__law_ranks.nd rfl (.inr rfl) (pe_lst pa_nil))
      (pss_cons (ps_for PassesOwn.never rfl (pi_range1 (by rfl) T.m_range (pa_cons (pe_ix (ix_listK (K := K)) (pv 2) (pv 1) (fun _ _ => rfl)) pa_nil)) (pg_name (i := 4) sc__law_ranks.nd rfl (.inr rfl)) (pss_cons (ps_set (i := 5) sc__law_ranks.nd rfl (.inl rfl) (pe_call G__law_members (hr.mono (by first | decide | omega)) (by rfl) D__law_members.g D__law_members.F.kp (bd__law_members D__law_members.F) .nil pass0 (pa_cons (pv 4) (pa_cons (pv 1) pa_nil))))
      (pss_one (ps_if (pt_val (pe_ix (ix_listK (K := K)) (pv 0) (pv 4) (fun _ _ => rfl))) (pss_one (ps_expr (pe_bm PySem.F.plainAttrs_list PySem.F.slot_list_append PySem.F.type_list_append mt_append (pv 3) (pa_cons (pe_callB (call_len_seqK (K := K)) (by rfl) T.m_len PySem.boot_len (pa_cons (pv 5) pa_nil)) pa_nil)))) (pss_one (ps_expr (pe_bm PySem.F.plainAttrs_list PySem.F.slot_list_append PySem.F.type_list_append mt_append (pv 3) (pa_cons (pe_callB (cr_maxK (K := K) rfl) (by rfl) T.m_max (by decide +kernel) (pa_cons (pe_lc (own := [("_law_e", 6)]) (by rfl) sc__law_ranks.nd (pi_listK (K := K) (pv 5)) (blkOk_by (by rfl)) (fun _ _ _ _ _ => (pg_name (i := 6) sc__law_ranks.nd rfl (.inl rfl))) (fun _ _ _ _ _ => pts_nil) (fun _ _ _ _ _ => (pe_ix (ix_listK (K := K)) (pv 3) (pe_op op_sub (pv 4) (pe_ix (ix_listK (K := K)) (pv 2) (pv 6) (fun _ _ => rfl))) (fun _ _ => rfl)))) pa_nil)) pa_nil))))))))
      (pss_one (ps_ret (pv 3)))))), ?_⟩
    have h64 : 2 ^ n ≤ 64 := Nat.pow_le_pow_right (by decide) h6
    refine ⟨M, rfl, mk, fun H1 pw g1 np hp => ?_⟩
    refine ⟨Nat.zero_le _, fun R nR => ?_⟩
    have g2 := g1.new (o := .lst []) nR
    have hp2 := ((Go.refl g1.b).new (o := .lst []) nR).at hp
    have hR2 : (upd H1 R (.lst [])) R = some (.lst (nV [])) := upd_same
    have nRH := g1.back nR
    generalize upd H1 R (.lst []) = H2 at g2 hp2 hR2
    have npR : pw ≠ R := fun z => by rw [z, hR2] at hp2; cases hp2
    refine ⟨.ref pw, rfl, _, rfl, pw, _, _, _, rfl, rfl, SqL.of hp2, atI_nat (pw_at (by omega)), ?_⟩
    have hz : (0 : Int) ≤ ((2 ^ n : Nat) : Int) ∧ ((2 ^ n : Nat) : Int) ≤ 64 := ⟨Int.natCast_nonneg _, Int.ofNat_le.mpr h64⟩
    generalize hz2 : ((2 ^ n : Nat) : Int) = z at hz
    refine ⟨z, rfl, by omega, by omega, ?_⟩
    rw [← hz2, Int.toNat_natCast]
    refine for_it (walk_rg0 (n := 2 ^ n)) (fun i σ H' => Go M H H' ∧ ∃ (rks : List Nat) (x4 x5 : Option V), σ = [some (.ref a), some (.int (n : Nat)), some (.ref pw), some (.ref R), x4, x5, none] ∧ H' R = some (.lst (nV rks)) ∧ H' pw = some (.lst (nV pw15)) ∧ RkT n I i rks) ?_ ?_ ?_ ?_
    · exact ⟨g2, [], none, none, rfl, hR2, hp2, rfl, fun c h => by omega⟩
    · exact fun _ _ _ _ _ => trivial
    · rintro i x σ H3 H3' hi ⟨g, rks, x4, x5, rfl, hR, hp, hT⟩ ⟨rfl, rfl⟩
      refine ⟨.int (i : Nat), rfl, _, rfl, M, i, n, rfl, g.b, by omega, fun H4 ma g4 nma hma => ?_⟩
      have hR4 := g4.at hR
      have hp4 := g4.at hp
      have g04 := g.trans g4
      have hlt : ∀ x, bs i x = true → x < n := fun x q => bs_lt hi q
      refine ⟨.ref a, rfl, _, rfl, a, _, i, _, rfl, rfl, SqL.of (g04.at hA), atI_nat (frV_at hi), ?_⟩
      have lnd := Bst.lst_nodup n (bs i)
      have llt : ∀ e ∈ Bst.lst n (bs i), e < n := fun e he => (Bst.mem_lst.mp he).1
      have llen := nodup_lt_len lnd llt
      refine ⟨_, rfl, ite_bool (fun h => ?_) (fun h => ?_)⟩
      · refine ⟨.ref R, rfl, .inl ⟨rfl, _, SqL.of hR4⟩, .ref ma, rfl, ma, _, rfl, .inl (SqL.of hma), R, _, _, rfl, rfl, hR4, szl (by rw [nV_len, hT.1]; omega), ?_⟩
        refine ⟨g04.set nRH hR4, rks ++ [(Bst.lst n (bs i)).length], _, _, rfl, ?_, (upd_ne npR).trans hp4, hT.put ?_⟩
        · rw [upd_same, nV_app, nV_len]; rfl
        · rw [lst_len]
          exact Bst.rank_free ((hF _ hlt).mp h)
      · have hnI : ¬ I (bs i) := fun z => by rw [(hF _ hlt).mpr z] at h; cases h
        refine ⟨.ref R, rfl, .inl ⟨rfl, _, SqL.of hR4⟩, .ref ma, rfl, ma, rfl, ⟨_, SqL.of hma⟩, fun D nD => ?_⟩
        refine lcL (M := M) (SqL.of hma) g4.b nD (fun e => some (.int (rks.getD (i - 2 ^ e) 0 : Nat))) (by omega) (fun j e H5 he g5 B C kB kC => ?_) (fun H5 g5 hD => ?_)
        · have heb : bs i e = true := (Bst.mem_lst.mp (List.mem_of_getElem? he)).2
          have hen := hlt e heb
          obtain ⟨hle, _⟩ := bs_del hi heb
          have hpos : 0 < 2 ^ e := Nat.pow_pos (by decide)
          have ei : ((i : Nat) : Int) - ((2 ^ e : Nat) : Int) = ((i - 2 ^ e : Nat) : Int) := by omega
          refine ⟨rfl, .ref R, rfl, .int (i : Nat), rfl, .ref pw, rfl, .int (e : Nat), rfl, pw, _, _, _, rfl, rfl, SqL.of (g5.at hp4), atI_nat (pw_at (by omega)), _, _, rfl, rfl, R, _, _, _, rfl, rfl, SqL.of (g5.at hR4), (by rw [ei]; exact atI_nat (hT.at (by omega))), kB _ _ (.refl g5.b) rfl⟩
        · rw [fm_map (h := fun e => rks.getD (i - 2 ^ e) 0)] at hD
          have hR5 := g5.at hR4
          have hne : Bst.lst n (bs i) ≠ [] := fun z => hnI (by
            have : bs i = fun _ => false := by
              funext x
              cases q : bs i x with
              | false => rfl
              | true => exact absurd (Bst.mem_lst.mpr ⟨hlt x q, q⟩) (by rw [z]; simp)
            rw [this]; exact hM.emp)
          refine ⟨D, ((Bst.lst n (bs i)).map fun e => rks.getD (i - 2 ^ e) 0).map Int.ofNat, rfl, by rw [int_n]; exact SqL.of hD, by rw [List.length_map, List.length_map]; exact List.length_pos_iff.mpr hne, fun m hm hmax => ?_⟩
          obtain ⟨m', hm', rfl⟩ := List.mem_map.mp hm
          obtain ⟨e0, he0, rfl⟩ := List.mem_map.mp hm'
          refine ⟨R, _, _, rfl, rfl, hR5, szl (by rw [nV_len, hT.1]; omega), ?_⟩
          refine ⟨(g04.trans g5).set nRH hR5, rks ++ [rks.getD (i - 2 ^ e0) 0], _, _, rfl, ?_, (upd_ne npR).trans (g5.at hp4), hT.put ?_⟩
          · rw [upd_same, nV_app]; rfl
          · refine Bst.rank_max hnI (rs := fun e => rks.getD (i - 2 ^ e) 0) (fun e he => ?_) ⟨e0, (Bst.mem_lst.mp he0).2, rfl⟩ fun e he => ?_
            · obtain ⟨hle, hd⟩ := bs_del hi he
              have hpos : 0 < 2 ^ e := Nat.pow_pos (by decide)
              rw [← hd]
              exact hT.2 _ (by omega)
            · have := hmax (Int.ofNat (rks.getD (i - 2 ^ e) 0)) (List.mem_map_of_mem (List.mem_map_of_mem (Bst.mem_lst.mpr ⟨hlt e he, he⟩)))
              exact Int.ofNat_le.mp this
    · rintro σ H3 ⟨g, rks, x4, x5, rfl, hR, hp, hT⟩
      exact ⟨_, rfl, q H3 R rks g nRH hR hT⟩
end
end Bw

set_option Elab.async false
set_option linter.all false
set_option maxRecDepth 100000
set_option maxHeartbeats 2000000
namespace Bw
open PySem PySem.Spec PyProof.Rows L2
/-- the table of a dual -/
noncomputable def dB (n : Nat) (I : Bst.S → Prop) (r : Nat) : List Nat → Bool := fun l => @decide (Bst.IDual n I r (Bst.mem l)) (Classical.propDecidable _)
theorem dB_iff {n : Nat} {I : Bst.S → Prop} {r : Nat} {l : List Nat} : dB n I r l = true ↔ Bst.IDual n I r (Bst.mem l) := by
  unfold dB
  exact @decide_eq_true_iff _ (Classical.propDecidable _)
theorem dB_eq {n : Nat} {I : Bst.S → Prop} {r : Nat} {l : List Nat} {b : Bool} (h : b = true ↔ Bst.IDual n I r (Bst.mem l)) : b = dB n I r l := by
  rw [Bool.eq_iff_iff, h, dB_iff]
theorem dB_ok {n : Nat} {I : Bst.S → Prop} {r : Nat} : FrOk n (Bst.IDual n I r) (dB n I r) := fun A hA => by
  rw [dB_iff, Bst.mem_of_lst hA]
section
variable {P : Program} {w : World} {K : PySem.W.Frag} {mg : Str → Option Value} {base : Heap}
def spLMade (K : PySem.W.Frag) : Sp := fun vs H Q _ => ∃ (M : Mw) (D a fs zs f : Addr) (n r : Nat) (l : List Nat) (F : List Nat → Bool) (I : Bst.S → Prop), vs = [.ref D, .ref a, .ref fs, .ref zs] ∧ Mok M H ∧ SqT K H D [.str "dual", .int 0] ∧ SqL K H a (nV l) ∧ l.Nodup ∧ (∀ e ∈ l, e < n) ∧
  H fs = some (.lst [.ref f]) ∧ H zs = some (.lst [.int (n : Nat)]) ∧ H f = some (.lst (frV n F)) ∧ n ≤ 6 ∧ Bst.Mat n I ∧ FrOk n I F ∧ Bst.IsRank n I (allS n) r ∧ ∀ H', Go M H H' → Q (.bl (dB n I r l)) H'
theorem ok_made_free {f : Addr} {fd : FuncData} (T : Bn mg) (F : Fun K "_law_made_free" "_law_made_free" s__law_made_free f fd) (D__law_powers : Def K mg "_law_powers" s__law_powers) (D__law_members : Def K mg "_law_members" s__law_members) (D__law_code : Def K mg "_law_code" s__law_code) (D__law_ranks : Def K mg "_law_ranks" s__law_ranks)
    (G__law_powers : FnOk P w K mg base CX0 1 D__law_powers.f D__law_powers.fd [] spPowers) (G__law_members : FnOk P w K mg base CX0 2 D__law_members.f D__law_members.fd ["_law_code_here", "_law_size_here"] spMembers)
    (G__law_code : FnOk P w K mg base CX0 2 D__law_code.f D__law_code.fd ["_law_those"] (spCode K)) (G__law_ranks : FnOk P w K mg base CX0 3 D__law_ranks.f D__law_ranks.fd ["_law_free_here", "_law_size_here"] (spRanks K)) :
    FnOk P w K mg base CX0 4 f fd ["_law_line", "_law_members_here", "_law_frees", "_law_sizes"] (spLMade K) := by
  refine F.ok sc__law_made_free (fun vs H Q E h => ?_) (fun cdv A outer s H vs Q E hr h => ?_)
  · obtain ⟨M, D, a, fs, zs, f, n, r, l, F, I, rfl, _⟩ := h
    rfl
  · obtain ⟨M, D, a, fs, zs, f, n, r, l, F, I, rfl, mk, hD, hA, hnd, hlt, hfs, hzs, hf, h6, hM, hF, hr0, q⟩ := h
    -- 0 _law_line, 1 _law_members_here, 2 _law_frees, 3 _law_sizes, 4 _law_powers_here, 5 _law_name, 6 _law_size_here, 7 _law_one, 8 _law_ranks_here, 9 _law_inside, 10 _law_two_here, 11 _law_first, 12 _law_code_here, 13 _law_part, 14 _law_e, 15 _law_k
    refine ⟨_, (pss_cons (ps_set (i := 4) sc__law_made_free.nd rfl (.inl rfl) (pe_call0 G__law_powers (hr.mono (by first | decide | omega)) (by rfl) D__law_powers.g D__law_powers.F.kp (bd__law_powers D__law_powers.F) .nil pass0))
      (pss_cons (ps_set (i := 5) sc__law_made_free.nd rfl (.inl rfl) (pe_ix (ix_tupK (K := K)) (pv 0) pe_int (fun _ _ => rfl)))
      (pss_cons (ps_set (i := 6) sc__law_made_free.nd rfl (.inr rfl) (pe_ix (ix_listK (K := K)) (pv 3) (pe_ix (ix_tupK (K := K)) (pv 0) pe_int (fun _ _ => rfl)) (fun _ _ => rfl)))
      (pss_cons (ps_set (i := 7) sc__law_made_free.nd rfl (.inl rfl) (pe_ix (ix_listK (K := K)) (pv 2) (pe_ix (ix_tupK (K := K)) (pv 0) pe_int (fun _ _ => rfl)) (fun _ _ => rfl)))
      (pss_cons (ps_if (pt_cmpR op_eq (pv 5) pe_str (nomark _)) (pss_cons (ps_set (i := 8) sc__law_made_free.nd rfl (.inl rfl) (pe_call G__law_ranks (hr.mono (by first | decide | omega)) (by rfl) D__law_ranks.g D__law_ranks.F.kp (bd__law_ranks D__law_ranks.F) .nil pass0 (pa_cons (pv 7) (pa_cons (pv 6) pa_nil))))
      (pss_one (ps_ret (pe_cmpR op_eq (pe_ix (ix_listK (K := K)) (pv 8) (pe_op op_sub (pe_op op_sub (pe_ix (ix_listK (K := K)) (pv 4) (pv 6) (fun _ _ => rfl)) pe_int) (pe_call G__law_code (hr.mono (by first | decide | omega)) (by rfl) D__law_code.g D__law_code.F.kp (bd__law_code D__law_code.F) .nil pass0 (pa_cons (pv 1) pa_nil))) (fun _ _ => rfl)) (pe_ix (ix_listK (K := K)) (pv 8) (pe_op op_sub (pe_ix (ix_listK (K := K)) (pv 4) (pv 6) (fun _ _ => rfl)) pe_int) (fun _ _ => rfl)) (nomark _))))) pss_nil)
      (pss_cons ps_never
      (pss_cons ps_never
      (pss_cons ps_never
      (pss_cons ps_never
      (pss_cons ps_never
      (pss_one ps_never))))))))))), ?_⟩
    have h64 : 2 ^ n ≤ 64 := Nat.pow_le_pow_right (by decide) h6
    have hlen := nodup_lt_len hnd hlt
    refine ⟨M, rfl, mk, fun H1 pw g1 np hp => ?_⟩
    refine ⟨.ref D, rfl, D, _, 0, _, rfl, rfl, g1.t hD, atI_nat (j := 0) rfl, ?_⟩
    refine ⟨.ref zs, rfl, .ref D, rfl, D, _, 1, .int 0, rfl, rfl, g1.t hD, atI_nat (j := 1) rfl, zs, _, 0, _, rfl, rfl, SqL.of (g1.at hzs), atI_nat (j := 0) rfl, ?_⟩
    refine ⟨.ref fs, rfl, .ref D, rfl, D, _, 1, .int 0, rfl, rfl, g1.t hD, atI_nat (j := 1) rfl, fs, _, 0, _, rfl, rfl, SqL.of (g1.at hfs), atI_nat (j := 0) rfl, ?_⟩
    refine ⟨_, rfl, rfl, _, rfl, iteY (by decide +kernel) ?_⟩
    refine ⟨.ref f, rfl, _, rfl, M, f, n, F, I, rfl, g1.b, g1.at hf, h6, hM, hF, fun H2 R rks g2 nR hR hT => ?_⟩
    have g02 := g1.trans g2
    have hp2 := g2.at hp
    have e15 : ∀ e ∈ l, e < 15 := fun e he => by have := hlt e he; omega
    obtain ⟨c1, c2⟩ := bs_compl hnd hlt
    obtain ⟨d1, d2⟩ := bs_all (n := n)
    have hcl := codeOf_lt hnd hlt
    have hat : atI (nV pw15) ((n : Nat) : Int) = some (.int ((2 ^ n : Nat) : Nat)) := atI_nat (pw_at (by omega))
    refine ⟨.ref R, rfl, .ref pw, rfl, .int (n : Nat), rfl, pw, _, _, _, rfl, rfl, SqL.of hp2, hat, _, _, rfl, rfl, .ref a, rfl, M, a, l, rfl, g2.b, g02.l hA, e15, by omega, fun H3 g3 => ?_⟩
    have hR3 := g3.at hR
    have hp3 := g3.at hp2
    have i1 : ((2 ^ n : Nat) : Int) - 1 - ((codeOf l : Nat) : Int) = ((2 ^ n - 1 - codeOf l : Nat) : Int) := by omega
    have i2 : ((2 ^ n : Nat) : Int) - 1 = ((2 ^ n - 1 : Nat) : Int) := by omega
    refine ⟨_, _, rfl, rfl, R, _, _, _, rfl, rfl, SqL.of hR3, (by rw [i1]; exact atI_nat (hT.at c1)), .ref R, rfl, .ref pw, rfl, .int (n : Nat), rfl, pw, _, _, _, rfl, rfl, SqL.of hp3, hat, _, _, rfl, rfl, R, _, _, _, rfl, rfl, SqL.of hR3, (by rw [i2]; exact atI_nat (hT.at d1)), rfl, ?_⟩
    have ra := hT.2 _ c1
    rw [c2] at ra
    have rb := hT.2 _ d1
    rw [d2] at rb
    have e1 := Bst.dual_iff hM (A := Bst.mem l) (fun x hx => hlt x (Bst.mem_true.mp hx)) ra hr0
    have e2 := hr0.eq rb
    have e3 : decide (V.int ((rks.getD (2 ^ n - 1 - codeOf l) 0 : Nat) : Nat) = V.int ((rks.getD (2 ^ n - 1) 0 : Nat) : Nat)) = dB n I r l := dB_eq (by rw [dec_n, decide_eq_true_eq, e1, e2])
    show Q (.bl (decide (V.int ((rks.getD (2 ^ n - 1 - codeOf l) 0 : Nat) : Nat) = V.int ((rks.getD (2 ^ n - 1) 0 : Nat) : Nat)))) H3
    rw [e3]
    exact q H3 (g02.trans g3)
/-- an entry of the tables -/
def TbAt (K : PySem.W.Frag) (H : Hp) (t : Addr) (n : Nat) (F : List Nat → Bool) : Prop := ∃ f : Addr, SqT K H t [.int (n : Nat), .ref f] ∧ H f = some (.lst (frV n F))
theorem TbAt.go {M : Mw} {H H' : Hp} {t : Addr} {n : Nat} {F : List Nat → Bool} (g : Go M H H') (h : TbAt K H t n F) : TbAt K H' t n F := by
  obtain ⟨f, a, b⟩ := h
  exact ⟨f, g.t a, g.at b⟩
def spLawSize (K : PySem.W.Frag) : Sp := fun vs H Q _ => ∃ (M : Mw) (L z : Addr), vs = [.ref L, .ref z] ∧ Mok M H ∧ ((∃ ln, LineAt K H L ln ∧ ∀ H', Go M H H' → Q (.int (lnSize ln : Nat)) H') ∨ (∃ n : Nat, SqT K H L [.str "dual", .int 0] ∧ H z = some (.lst [.int (n : Nat)]) ∧ ∀ H', Go M H H' → Q (.int (n : Nat)) H'))
theorem ok_law_size {f : Addr} {fd : FuncData} {k : Nat} (T : Bn mg) (F : Fun K "_law_size" "_law_size" s__law_size f fd) : FnOk P w K mg base CX0 (k + 1) f fd ["_law_line", "_law_sizes"] (spLawSize K) := by
  refine F.ok sc__law_size (fun vs H Q E h => ?_) (fun cdv A outer s H vs Q E hr h => ?_)
  · obtain ⟨M, L, z, rfl, _⟩ := h
    rfl
  · obtain ⟨M, L, z, rfl, mk, alt⟩ := h
    -- 0 _law_line, 1 _law_sizes, 2 _law_name
    refine ⟨_, (pss_cons (ps_set (i := 2) sc__law_size.nd rfl (.inl rfl) (pe_ix (ix_tupK (K := K)) (pv 0) pe_int (fun _ _ => rfl)))
      (pss_cons (ps_if (pt_cmpR op_eq (pv 2) pe_str (nomark _)) (pss_one (ps_ret (pe_callB (call_len_seqK (K := K)) (by rfl) T.m_len PySem.boot_len (pa_cons (pe_ix (ix_tupK (K := K)) (pv 0) pe_int (fun _ _ => rfl)) pa_nil)))) pss_nil)
      (pss_cons (ps_if (PW.pt (pw_or (pt_cmpR op_eq (pv 2) pe_str (nomark _)) (pw_or1 (pt_cmpR op_eq (pv 2) pe_str (nomark _))))) (pss_one (ps_ret (pe_callB (call_len_seqK (K := K)) (by rfl) T.m_len PySem.boot_len (pa_cons (pe_ix (ix_tupK (K := K)) (pv 0) pe_int (fun _ _ => rfl)) pa_nil)))) pss_nil)
      (pss_cons (ps_if (pt_cmpR (op_in_seqK (K := K)) (pv 2) (pe_lst (pa_cons pe_str (pa_cons pe_str (pa_cons pe_str pa_nil)))) rfl) (pss_one (ps_ret (pe_ix (ix_tupK (K := K)) (pv 0) pe_int (fun _ _ => rfl)))) pss_nil)
      (pss_cons (ps_if (pt_cmpR op_eq (pv 2) pe_str (nomark _)) (pss_one (ps_ret (pe_op op_add (pe_ix (ix_listK (K := K)) (pv 1) (pe_ix (ix_tupK (K := K)) (pv 0) pe_int (fun _ _ => rfl)) (fun _ _ => rfl)) (pe_ix (ix_listK (K := K)) (pv 1) (pe_ix (ix_tupK (K := K)) (pv 0) pe_int (fun _ _ => rfl)) (fun _ _ => rfl))))) pss_nil)
      (pss_one (ps_ret (pe_op op_sub (pe_ix (ix_listK (K := K)) (pv 1) (pe_ix (ix_tupK (K := K)) (pv 0) pe_int (fun _ _ => rfl)) (fun _ _ => rfl)) (pe_callTy call_int1 (by rfl) T.m_int (by decide +kernel) (pa_cons (pe_cmpR (op_in_seqK (K := K)) (pv 2) (pe_lst (pa_cons pe_str (pa_cons pe_str pa_nil))) rfl) pa_nil)))))))))), ?_⟩
    have e3 : (3 : Nat) ≤ sizeLine := by decide
    have e2 : (2 : Nat) ≤ sizeLine := by decide
    rcases alt with ⟨ln, hL, q⟩ | ⟨n, hL, hz, q⟩
    · cases ln with
      | vectors cs =>
        obtain ⟨v, sL, ae, ve, rfl, sE, aE⟩ := hL
        refine ⟨.ref L, rfl, L, _, 0, _, rfl, rfl, sL, atI_nat (j := 0) rfl, _, rfl, rfl, _, rfl, iteY (by decide +kernel) ⟨.ref L, rfl, L, _, 3, _, rfl, rfl, sL, atI_nat (j := 3) rfl, ae, _, rfl, .inr sE, ?_⟩⟩
        rw [aE.len, List.length_map]
        exact q H (Go.refl mk)
      | graph nv es =>
        obtain ⟨v, sL, ae, ve, rfl, sE, aE⟩ := hL
        refine ⟨.ref L, rfl, L, _, 0, _, rfl, rfl, sL, atI_nat (j := 0) rfl, _, rfl, rfl, _, rfl, iteN (by decide +kernel) ⟨_, rfl, rfl, _, rfl, iteY (by decide +kernel) (iteT ⟨.ref L, rfl, L, _, 2, _, rfl, rfl, sL, atI_nat (j := 2) rfl, ae, _, rfl, .inr sE, ?_⟩)⟩⟩
        rw [aE.len, List.length_map]
        exact q H (Go.refl mk)
      | choices m rows =>
        obtain ⟨v, sL, ae, ve, rfl, sE, aE⟩ := hL
        refine ⟨.ref L, rfl, L, _, 0, _, rfl, rfl, sL, atI_nat (j := 0) rfl, _, rfl, rfl, _, rfl, iteN (by decide +kernel) ⟨_, rfl, rfl, _, rfl, iteN (by decide +kernel) ⟨_, rfl, rfl, _, rfl, iteY (by decide +kernel) ⟨.ref L, rfl, L, _, 2, _, rfl, rfl, sL, atI_nat (j := 2) rfl, ae, _, rfl, .inr sE, ?_⟩⟩⟩⟩
        rw [aE.len]
        exact q H (Go.refl mk)
      | bounds n bs =>
        obtain ⟨v, sL, _⟩ := hL
        refine ⟨.ref L, rfl, L, _, 0, _, rfl, rfl, sL, atI_nat (j := 0) rfl, _, rfl, rfl, _, rfl, iteN (by decide +kernel) ⟨_, rfl, rfl, _, rfl, iteN (by decide +kernel) ⟨_, rfl, rfl, _, rfl, iteN (by decide +kernel) ⟨_, rfl, e3, fun t nt => ?_⟩⟩⟩⟩
        have g := (Go.refl mk).new (o := .lst [.str "bounds", .str "uniform", .str "bases"]) nt
        exact ⟨t, _, rfl, .inl (SqL.of upd_same), rfl, rfl, _, rfl, iteY (by decide +kernel) ⟨.ref L, rfl, L, _, 1, _, rfl, rfl, g.t sL, atI_nat (j := 1) rfl, q _ g⟩⟩
      | uniform n r =>
        have sL : SqT K H L [.str "uniform", .int (n : Nat), .int (r : Nat)] := hL
        refine ⟨.ref L, rfl, L, _, 0, _, rfl, rfl, sL, atI_nat (j := 0) rfl, _, rfl, rfl, _, rfl, iteN (by decide +kernel) ⟨_, rfl, rfl, _, rfl, iteN (by decide +kernel) ⟨_, rfl, rfl, _, rfl, iteN (by decide +kernel) ⟨_, rfl, e3, fun t nt => ?_⟩⟩⟩⟩
        have g := (Go.refl mk).new (o := .lst [.str "bounds", .str "uniform", .str "bases"]) nt
        exact ⟨t, _, rfl, .inl (SqL.of upd_same), rfl, rfl, _, rfl, iteY (by decide +kernel) ⟨.ref L, rfl, L, _, 1, _, rfl, rfl, g.t sL, atI_nat (j := 1) rfl, q _ g⟩⟩
    · refine ⟨.ref L, rfl, L, _, 0, _, rfl, rfl, hL, atI_nat (j := 0) rfl, _, rfl, rfl, _, rfl, iteN (by decide +kernel) ⟨_, rfl, rfl, _, rfl, iteN (by decide +kernel) ⟨_, rfl, rfl, _, rfl, iteN (by decide +kernel) ⟨_, rfl, e3, fun t nt => ?_⟩⟩⟩⟩
      have g := (Go.refl mk).new (o := .lst [.str "bounds", .str "uniform", .str "bases"]) nt
      refine ⟨t, _, rfl, .inl (SqL.of upd_same), rfl, rfl, _, rfl, iteN (by decide +kernel) ⟨_, rfl, rfl, _, rfl, iteN (by decide +kernel) ?_⟩⟩
      refine ⟨.ref z, rfl, .ref L, rfl, L, _, 1, .int 0, rfl, rfl, g.t hL, atI_nat (j := 1) rfl, z, _, 0, _, rfl, rfl, SqL.of (g.at hz), atI_nat (j := 0) rfl, _, rfl, e2, fun t2 nt2 => ?_⟩
      have g2 := g.new (o := .lst [.str "delete", .str "contract"]) nt2
      refine ⟨t2, _, rfl, .inl (SqL.of upd_same), rfl, rfl, .inr ⟨_, rfl, _, _, rfl, rfl, ?_⟩⟩
      have e4 : inV (.str "dual") [.str "delete", .str "contract"] = false := by decide +kernel
      have e5 : ((n : Nat) : Int) - (if inV (.str "dual") [.str "delete", .str "contract"] = true then 1 else 0) = ((n : Nat) : Int) := by rw [e4]; simp
      show Q (.int (((n : Nat) : Int) - (if inV (.str "dual") [.str "delete", .str "contract"] = true then 1 else 0))) _
      rw [e5]
      exact q _ g2
end
end Bw

set_option Elab.async false
set_option linter.all false
set_option maxRecDepth 100000
set_option maxHeartbeats 2000000
namespace Bw
open PySem PySem.Spec PyProof.Rows L2
section
variable {P : Program} {w : World} {K : PySem.W.Frag} {mg : Str → Option Value} {base : Heap}
def spLawFree (K : PySem.W.Frag) : Sp := fun vs H Q _ => ∃ (M : Mw) (L e : Addr), vs = [.ref L, .ref e] ∧ Mok M H ∧
  ((∃ ln, LineAt K H L ln ∧ LnOk ln ∧ lnSize ln ≤ 6 ∧ H e = some (.lst []) ∧ ∀ H' p, Go M H H' → H p = none → H' p = some (.lst (frV (lnSize ln) (frL ln))) → Q (.ref p) H') ∨
   (∃ (t : Addr) (n r : Nat) (F : List Nat → Bool) (I : Bst.S → Prop), SqT K H L [.str "dual", .int 0] ∧ H e = some (.lst [.ref t]) ∧ TbAt K H t n F ∧ n ≤ 6 ∧ Bst.Mat n I ∧ FrOk n I F ∧ Bst.IsRank n I (allS n) r ∧ ∀ H' p, Go M H H' → H p = none → H' p = some (.lst (frV n (dB n I r))) → Q (.ref p) H'))
theorem codes_at {n c : Nat} (h : c < 2 ^ n) : (codes n)[c]? = some (Bst.lst n (bs c)) := by
  unfold codes
  rw [List.getElem?_map, List.getElem?_range h]
  rfl
theorem codes_len (n : Nat) : (codes n).length = 2 ^ n := by unfold codes; rw [List.length_map, List.length_range]
/-- the comprehension over all sets -/
theorem lcC {M : Mw} {a : Addr} {us : List V} {n : Nat} {F : List Nat → Bool} {g : TG} {te : TE} {vs : List Nat} {σ : L2.St} {H1 : Hp} {D : Addr} {Qd : Hp → Prop} (hS : SqL K H1 a us) (hU : All2 (LAt H1) us (codes n)) (h6 : n ≤ 6) (mk : Mok M H1) (nD : H1 D = none)
    (hs : ∀ (c : Nat) (b : Addr) (H : Hp), c < 2 ^ n → Go M H1 H → H b = some (.lst (nV (Bst.lst n (bs c)))) → LcTurn M g tYes te vs σ H (.ref b) H (some (.bl (F (Bst.lst n (bs c))))))
    (hd : ∀ H, Go M H1 H → H D = some (.lst (frV n F)) → Qd H) : LcGoal (Itl K a) g tYes te vs σ H1 D Qd := by
  have hl : us.length = 2 ^ n := by rw [hU.len, codes_len]
  have h64 : 2 ^ n ≤ 64 := Nat.pow_le_pow_right (by decide) h6
  refine lcW (walk_list (xs := us)) mk nD (fun c => some (.bl (F (Bst.lst n (bs c))))) (by omega) (fun H g => g.l hS) (fun c x H H' hc g y => ?_) (fun H g h => ?_)
  · obtain ⟨rfl, ex⟩ := y
    obtain ⟨r, er, b, rfl, hb⟩ := hU.ta ex
    rw [hl] at hc
    rw [codes_at hc] at er
    cases er
    exact hs c b H' hc g (g.at hb)
  · refine hd H g ?_
    rw [h, hl]
    unfold frV
    rw [show (List.range (2 ^ n)).filterMap (fun c => some (V.bl (F (Bst.lst n (bs c))))) = (List.range (2 ^ n)).map (fun c => V.bl (F (Bst.lst n (bs c)))) from congrFun List.filterMap_eq_map' _]
theorem ok_law_free {f : Addr} {fd : FuncData} (T : Bn mg) (F : Fun K "_law_free" "_law_free" s__law_free f fd) (D__law_every : Def K mg "_law_every" s__law_every) (D__law_size : Def K mg "_law_size" s__law_size) (D__law_is_free : Def K mg "_law_is_free" s__law_is_free) (D__law_made_free : Def K mg "_law_made_free" s__law_made_free)
    (G__law_every : FnOk P w K mg base CX0 3 D__law_every.f D__law_every.fd ["_law_size_here"] spEvery) (G__law_size : FnOk P w K mg base CX0 1 D__law_size.f D__law_size.fd ["_law_line", "_law_sizes"] (spLawSize K))
    (G__law_is_free : FnOk P w K mg base CX0 9 D__law_is_free.f D__law_is_free.fd ["_law_line", "_law_those"] (spIsFree K))
    (G__law_made_free : FnOk P w K mg base CX0 4 D__law_made_free.f D__law_made_free.fd ["_law_line", "_law_members_here", "_law_frees", "_law_sizes"] (spLMade K)) :
    FnOk P w K mg base CX0 10 f fd ["_law_line", "_law_earlier"] (spLawFree K) := by
  refine F.ok sc__law_free (fun vs H Q E h => ?_) (fun cdv A outer s H vs Q E hr h => ?_)
  · obtain ⟨M, L, e, rfl, _⟩ := h
    rfl
  · obtain ⟨M, L, e, rfl, mk, alt⟩ := h
    -- 0 _law_line, 1 _law_earlier, 2 _law_sizes, 3 _law_frees, 4 _law_every_here, 5 _law_pair, 6 _law_members_here
    refine ⟨_, (pss_cons (ps_set (i := 2) sc__law_free.nd rfl (.inr rfl) (pe_lc (own := [("_law_pair", 5)]) (by rfl) sc__law_free.nd (pi_listK (K := K) (pv 1)) (blkOk_by (by rfl)) (fun _ _ _ _ _ => (pg_name (i := 5) sc__law_free.nd rfl (.inl rfl))) (fun _ _ _ _ _ => pts_nil) (fun _ _ _ _ _ => (pe_ix (ix_tupK (K := K)) (pv 5) pe_int (fun _ _ => rfl)))))
      (pss_cons (ps_set (i := 3) sc__law_free.nd rfl (.inr rfl) (pe_lc (own := [("_law_pair", 5)]) (by rfl) sc__law_free.nd (pi_listK (K := K) (pv 1)) (blkOk_by (by rfl)) (fun _ _ _ _ _ => (pg_name (i := 5) sc__law_free.nd rfl (.inl rfl))) (fun _ _ _ _ _ => pts_nil) (fun _ _ _ _ _ => (pe_ix (ix_tupK (K := K)) (pv 5) pe_int (fun _ _ => rfl)))))
      (pss_cons (ps_set (i := 4) sc__law_free.nd rfl (.inl rfl) (pe_call G__law_every (hr.mono (by first | decide | omega)) (by rfl) D__law_every.g D__law_every.F.kp (bd__law_every D__law_every.F) .nil pass0 (pa_cons (pe_call G__law_size (hr.mono (by first | decide | omega)) (by rfl) D__law_size.g D__law_size.F.kp (bd__law_size D__law_size.F) .nil pass0 (pa_cons (pv 0) (pa_cons (pv 2) pa_nil))) pa_nil)))
      (pss_cons (ps_if (pt_cmpR (op_in_seqK (K := K)) (pe_ix (ix_tupK (K := K)) (pv 0) pe_int (fun _ _ => rfl)) (pe_lst (pa_cons pe_str (pa_cons pe_str (pa_cons pe_str (pa_cons pe_str (pa_cons pe_str (pa_cons pe_str pa_nil))))))) rfl) (pss_one (ps_ret (pe_lc (own := [("_law_members_here", 6)]) (by rfl) sc__law_free.nd (pi_listK (K := K) (pv 4)) (blkOk_by (by rfl)) (fun _ _ _ _ _ => (pg_name (i := 6) sc__law_free.nd rfl (.inl rfl))) (fun _ _ _ _ _ => pts_nil) (fun _ _ _ _ _ => (pe_call G__law_is_free (hr.mono (by first | decide | omega)) (by rfl) D__law_is_free.g D__law_is_free.F.kp (bd__law_is_free D__law_is_free.F) .nil pass0 (pa_cons (pv 0) (pa_cons (pv 6) pa_nil))))))) pss_nil)
      (pss_one (ps_ret (pe_lc (own := [("_law_members_here", 6)]) (by rfl) sc__law_free.nd (pi_listK (K := K) (pv 4)) (blkOk_by (by rfl)) (fun _ _ _ _ _ => (pg_name (i := 6) sc__law_free.nd rfl (.inl rfl))) (fun _ _ _ _ _ => pts_nil) (fun _ _ _ _ _ => (pe_call G__law_made_free (hr.mono (by first | decide | omega)) (by rfl) D__law_made_free.g D__law_made_free.F.kp (bd__law_made_free D__law_made_free.F) .nil pass0 (pa_cons (pv 0) (pa_cons (pv 6) (pa_cons (pv 3) (pa_cons (pv 2) pa_nil))))))))))))), ?_⟩
    rcases alt with ⟨ln, hL, ok, h6, he, q⟩ | ⟨t, n, r, F, I, hL, he, ht, h6, hM, hF, hr0, q⟩
    · obtain ⟨nm, xs, sL, hin⟩ : ∃ nm xs, SqT K H L (.str nm :: xs) ∧ inV (.str nm) [.str "graph", .str "vectors", .str "choices", .str "bounds", .str "uniform", .str "bases"] = true := by
        cases ln with
        | graph nv es => obtain ⟨v, s, _⟩ := hL; exact ⟨_, _, s, by decide +kernel⟩
        | choices m rows => obtain ⟨v, s, _⟩ := hL; exact ⟨_, _, s, by decide +kernel⟩
        | bounds n bs => obtain ⟨v, s, _⟩ := hL; exact ⟨_, _, s, by decide +kernel⟩
        | uniform n r => exact ⟨_, _, hL, by decide +kernel⟩
        | vectors cs => obtain ⟨v, s, _⟩ := hL; exact ⟨_, _, s, by decide +kernel⟩
      refine ⟨.ref e, rfl, e, rfl, ⟨_, SqL.of he⟩, fun zs nzs => lcW (walk_list (xs := [])) mk nzs (fun _ => none) (by decide) (fun H g => g.l (SqL.of he)) (fun i x H H' hi => by simp at hi) (fun H1 g1 hzs => ?_)⟩
      have he1 := g1.at he
      refine ⟨.ref e, rfl, e, rfl, ⟨_, SqL.of he1⟩, fun fs nfs => lcW (walk_list (xs := [])) g1.b nfs (fun _ => none) (by decide) (fun H g => g.l (SqL.of he1)) (fun i x H H' hi => by simp at hi) (fun H2 g2 hfs => ?_)⟩
      have g02 := g1.trans g2
      refine ⟨.ref L, rfl, .ref zs, rfl, M, L, zs, rfl, g2.b, .inl ⟨ln, hL.go g02, fun H3 g3 => ?_⟩⟩
      refine ⟨M, lnSize ln, rfl, g3.b, h6, fun H4 p us g4 np hp hus hne => ?_⟩
      have g04 := g02.trans (g3.trans g4)
      refine ⟨.ref L, rfl, L, _, 0, _, rfl, rfl, g04.t sL, atI_nat (j := 0) rfl, (by decide : (6 : Nat) ≤ sizeLine), fun t nt => ⟨t, _, rfl, .inl (SqL.of upd_same), rfl, rfl, _, rfl, iteY hin ?_⟩⟩
      have g5 := (Go.refl g4.b).new (o := .lst [.str "graph", .str "vectors", .str "choices", .str "bounds", .str "uniform", .str "bases"]) nt
      have g05 := g04.trans g5
      have hus5 := hus.mono fun v l (h : LAt H4 v l) => (show LAt (upd H4 t (.lst [.str "graph", .str "vectors", .str "choices", .str "bounds", .str "uniform", .str "bases"])) v l from ⟨h.choose, h.choose_spec.1, g5.at h.choose_spec.2⟩)
      have hp5 := g5.at hp
      generalize upd H4 t (.lst [.str "graph", .str "vectors", .str "choices", .str "bounds", .str "uniform", .str "bases"]) = H5 at g05 g5 hus5 hp5
      refine ⟨.ref p, rfl, p, rfl, ⟨_, SqL.of hp5⟩, fun D nD => lcC (M := M) (F := frL ln) (SqL.of hp5) hus5 h6 g05.b nD (fun c b H6 hc g6 hb B C kB kC => ?_) (fun H6 g6 hD => q H6 D (g05.trans g6) (g05.back nD) hD)⟩
      exact ⟨rfl, .ref L, rfl, .ref b, rfl, M, L, b, ln, _, rfl, g6.b, hL.go (g05.trans g6), ok, h6, hb, Bst.lst_nodup _ _, fun e he => (Bst.mem_lst.mp he).1, fun H' g' => kB _ _ g' rfl⟩
    · obtain ⟨f0, sT, hf⟩ := ht
      refine ⟨.ref e, rfl, e, rfl, ⟨_, SqL.of he⟩, fun zs nzs => lcW (walk_list (xs := [.ref t])) mk nzs (fun _ => some (.int (n : Nat))) (by simp) (fun H g => g.l (SqL.of he)) (fun i x H1 H1' hi g1 y => ?_) (fun H1 g1 hzs => ?_)⟩
      · obtain ⟨rfl, ex⟩ := y
        have : i = 0 := by simp at hi; exact hi
        subst this
        cases ex
        intro B C kB kC
        exact ⟨rfl, .ref t, rfl, t, _, 0, _, rfl, rfl, g1.t sT, atI_nat (j := 0) rfl, kB _ _ (.refl g1.b) rfl⟩
      have he1 := g1.at he
      have hzs : H1 zs = some (.lst [.int (n : Nat)]) := hzs
      refine ⟨.ref e, rfl, e, rfl, ⟨_, SqL.of he1⟩, fun fs nfs => lcW (walk_list (xs := [.ref t])) g1.b nfs (fun _ => some (.ref f0)) (by simp) (fun H g => g.l (SqL.of he1)) (fun i x H2 H2' hi g2 y => ?_) (fun H2 g2 hfs => ?_)⟩
      · obtain ⟨rfl, ex⟩ := y
        have : i = 0 := by simp at hi; exact hi
        subst this
        cases ex
        intro B C kB kC
        exact ⟨rfl, .ref t, rfl, t, _, 1, _, rfl, rfl, (g1.trans g2).t sT, atI_nat (j := 1) rfl, kB _ _ (.refl g2.b) rfl⟩
      have g02 := g1.trans g2
      have hzs2 := g2.at hzs
      have hfs2 : H2 fs = some (.lst [.ref f0]) := hfs
      refine ⟨.ref L, rfl, .ref zs, rfl, M, L, zs, rfl, g2.b, .inr ⟨n, g02.t hL, hzs2, fun H3 g3 => ?_⟩⟩
      refine ⟨M, n, rfl, g3.b, h6, fun H4 p us g4 np hp hus hne => ?_⟩
      have g04 := g02.trans (g3.trans g4)
      refine ⟨.ref L, rfl, L, _, 0, _, rfl, rfl, g04.t hL, atI_nat (j := 0) rfl, (by decide : (6 : Nat) ≤ sizeLine), fun t nt => ⟨t, _, rfl, .inl (SqL.of upd_same), rfl, rfl, _, rfl, iteN (by decide +kernel) ?_⟩⟩
      have g5 := (Go.refl g4.b).new (o := .lst [.str "graph", .str "vectors", .str "choices", .str "bounds", .str "uniform", .str "bases"]) nt
      have g05 := g04.trans g5
      have g25 := (g3.trans g4).trans g5
      have hus5 := hus.mono fun v l (h : LAt H4 v l) => (show LAt (upd H4 t (.lst [.str "graph", .str "vectors", .str "choices", .str "bounds", .str "uniform", .str "bases"])) v l from ⟨h.choose, h.choose_spec.1, g5.at h.choose_spec.2⟩)
      have hp5 := g5.at hp
      generalize upd H4 t (.lst [.str "graph", .str "vectors", .str "choices", .str "bounds", .str "uniform", .str "bases"]) = H5 at g05 g5 g25 hus5 hp5
      refine ⟨.ref p, rfl, p, rfl, ⟨_, SqL.of hp5⟩, fun D nD => lcC (M := M) (F := dB n I r) (SqL.of hp5) hus5 h6 g05.b nD (fun c b H6 hc g6 hb B C kB kC => ?_) (fun H6 g6 hD => q H6 D (g05.trans g6) (g05.back nD) hD)⟩
      have g26 := g25.trans g6
      exact ⟨rfl, .ref L, rfl, .ref b, rfl, .ref fs, rfl, .ref zs, rfl, M, L, b, fs, zs, f0, n, r, _, F, I, rfl, g6.b, (g05.trans g6).t hL, SqL.of hb, Bst.lst_nodup _ _, fun e he => (Bst.mem_lst.mp he).1, g26.at hfs2, g26.at hzs2, (g05.trans g6).at hf, h6, hM, hF, hr0, fun H' g' => kB _ _ g' rfl⟩
end
end Bw

set_option Elab.async false
set_option linter.all false
set_option maxRecDepth 100000
set_option maxHeartbeats 2000000
namespace Bw
open PySem PySem.Spec PyProof.Rows L2
section
variable {P : Program} {w : World} {K : PySem.W.Frag} {mg : Str → Option Value} {base : Heap}
def spTables (K : PySem.W.Frag) : Sp := fun vs H Q _ => ∃ (M : Mw) (a : Addr) (m : Mat), vs = [.ref a] ∧ Mok M H ∧ MatAt K H a m ∧ MatOk m ∧
  ∀ (H' : Hp) (p t : Addr) (xs : List V) (F : List Nat → Bool), Go M H H' → H p = none → H' p = some (.lst (xs ++ [.ref t])) → xs.length ≤ 1 → TbAt K H' t (lnSize m.ln) F → FrOk (lnSize m.ln) m.I F → Q (.ref p) H'
theorem fr_kind {ln : Ln} (h : LnOk ln) : FrOk (lnSize ln) (lnI ln) (frL ln) := fun A hA => frL_ok h hA
theorem TbAt.lst {H : Hp} {t R : Addr} {n : Nat} {F : List Nat → Bool} {xs ys : List V} (h : TbAt K H t n F) (e : H R = some (.lst xs)) (ne : ∀ f, SqT K H t [.int (n : Nat), .ref f] → H f = some (.lst (frV n F)) → f ≠ R) : TbAt K (upd H R (.lst ys)) t n F := by
  obtain ⟨f, s, hf⟩ := h
  exact ⟨f, Tk.lst e _ _ s, (upd_ne (ne f s hf)).trans hf⟩
theorem ok_tables {f : Addr} {fd : FuncData} (T : Bn mg) (F : Fun K "_law_tables" "_law_tables" s__law_tables f fd) (D__law_free : Def K mg "_law_free" s__law_free) (D__law_size : Def K mg "_law_size" s__law_size)
    (G__law_size : FnOk P w K mg base CX0 1 D__law_size.f D__law_size.fd ["_law_line", "_law_sizes"] (spLawSize K)) (G__law_free : FnOk P w K mg base CX0 10 D__law_free.f D__law_free.fd ["_law_line", "_law_earlier"] (spLawFree K)) :
    FnOk P w K mg base CX0 11 f fd ["_law_matroid"] (spTables K) := by
  refine F.ok sc__law_tables (fun vs H Q E h => ?_) (fun cdv A outer s H vs Q E hr h => ?_)
  · obtain ⟨M, a, m, rfl, _⟩ := h
    rfl
  · obtain ⟨M, a, m, rfl, mk, hA, ok, q⟩ := h
    -- 0 _law_matroid, 1 _law_made, 2 _law_line, 3 _law_free_here, 4 _law_pair
    refine ⟨_, (pss_cons (ps_set (i := 1) sc__law_tables.nd rfl (.inl rfl) (pe_lst pa_nil))
      (pss_cons (ps_for PassesOwn.never rfl (pi_tupK (K := K) (pv 0)) (pg_name (i := 2) sc__law_tables.nd rfl (.inl rfl)) (pss_cons (ps_set (i := 3) sc__law_tables.nd rfl (.inl rfl) (pe_call G__law_free (hr.mono (by first | decide | omega)) (by rfl) D__law_free.g D__law_free.F.kp (bd__law_free D__law_free.F) .nil pass0 (pa_cons (pv 2) (pa_cons (pv 1) pa_nil))))
      (pss_one (ps_expr (pe_bm PySem.F.plainAttrs_list PySem.F.slot_list_append PySem.F.type_list_append mt_append (pv 1) (pa_cons (pe_tup (pa_cons (pe_call G__law_size (hr.mono (by first | decide | omega)) (by rfl) D__law_size.g D__law_size.F.kp (bd__law_size D__law_size.F) .nil pass0 (pa_cons (pv 2) (pa_cons (pe_lc (own := [("_law_pair", 4)]) (by rfl) sc__law_tables.nd (pi_listK (K := K) (pv 1)) (blkOk_by (by rfl)) (fun _ _ _ _ _ => (pg_name (i := 4) sc__law_tables.nd rfl (.inl rfl))) (fun _ _ _ _ _ => pts_nil) (fun _ _ _ _ _ => (pe_ix (ix_tupK (K := K)) (pv 4) pe_int (fun _ _ => rfl)))) pa_nil))) (pa_cons (pv 3) pa_nil))) pa_nil))))))
      (pss_one (ps_ret (pv 1))))), ?_⟩
    have hI : m.I = if m.du = true then Bst.IDual (lnSize m.ln) (lnI m.ln) (lnRk m.ln (Bst.lst (lnSize m.ln) (allS (lnSize m.ln)))) else lnI m.ln := rfl
    obtain ⟨L, hL, alt⟩ := hA
    refine ⟨Nat.zero_le _, fun R nR => ?_⟩
    have g1 := (Go.refl mk).new (o := .lst []) nR
    have hR1 : (upd H R (.lst [])) R = some (.lst []) := upd_same
    generalize upd H R (.lst []) = H1 at g1 hR1
    -- one turn's end: size told, the entry put
    have fin : ∀ {H2 : Hp} {ms : List V} {fa : Addr} {F : List Nat → Bool} {Y : Hp → Addr → Prop}, Go M H H2 → H2 R = some (.lst ms) → ms.length ≤ 1 → fa ≠ R → H2 fa = some (.lst (frV (lnSize m.ln) F)) →
        (∀ H3 t, Go M H H3 → H3 R = some (.lst (ms ++ [.ref t])) → TbAt K H3 t (lnSize m.ln) F → Y H3 t) → ∀ H2', Go M H2 H2' → ∀ t, H2' t = none → (upd H2' t (.tup [.int (lnSize m.ln : Nat), .ref fa])) R = some (.lst ms) ∧ ms.length < sizeLine ∧ Y (upd (upd H2' t (.tup [.int (lnSize m.ln : Nat), .ref fa])) R (.lst (ms ++ [.ref t]))) t := by
      intro H2 ms fa F Y g hR hl hne hf k H2' g' t nt
      have g3 := g'.new (o := .tup [.int (lnSize m.ln : Nat), .ref fa]) nt
      have hR3 := g3.at hR
      have hf3 := g3.at hf
      have ht3 : SqT K (upd H2' t (.tup [.int (lnSize m.ln : Nat), .ref fa])) t [.int (lnSize m.ln : Nat), .ref fa] := SqT.of upd_same
      generalize upd H2' t (.tup [.int (lnSize m.ln : Nat), .ref fa]) = H3 at g3 hR3 hf3 ht3
      exact ⟨hR3, szl (by omega), k _ t ((g.trans g3).set nR hR3) upd_same ⟨fa, Tk.lst hR3 _ _ ht3, (upd_ne hne).trans hf3⟩⟩
    have hM0 := ln_mat ok.ok
    obtain ⟨us, hus, hu0, hu1, hlen⟩ : ∃ us, SqT K H a us ∧ us[0]? = some (.ref L) ∧ (∀ x, us[1]? = some x → ∃ D, x = .ref D ∧ m.du = true ∧ SqT K H D [.str "dual", .int 0]) ∧ ((us.length = 1 ∧ m.du = false) ∨ (us.length = 2 ∧ m.du = true)) := by
      rcases alt with ⟨hd, h⟩ | ⟨D, hd, hD, h⟩
      · exact ⟨_, h, rfl, fun x e => by simp at e, .inl ⟨rfl, hd⟩⟩
      · exact ⟨_, h, rfl, fun x e => ⟨D, by simpa using e.symm, hd, hD⟩, .inr ⟨rfl, hd⟩⟩
    let Fd := dB (lnSize m.ln) (lnI m.ln) (lnRk m.ln (Bst.lst (lnSize m.ln) (allS (lnSize m.ln))))
    refine ⟨.ref a, rfl, a, rfl, ⟨_, g1.t hus⟩, for_it walk_tup (G := fun H' => SqT K H' a us) (fun i σ H' => Go M H H' ∧ ∃ (ms : List V) (x2 x3 : Option V), σ = [some (.ref a), some (.ref R), x2, x3, none] ∧ H' R = some (.lst ms) ∧ (i = 0 → ms = []) ∧ (i = 1 → ∃ t, ms = [.ref t] ∧ TbAt K H' t (lnSize m.ln) (frL m.ln)) ∧
      (i = 2 → ∃ t' t, ms = [.ref t', .ref t] ∧ TbAt K H' t (lnSize m.ln) Fd)) ?_ ?_ ?_ ?_⟩
    · exact ⟨g1, [], none, none, rfl, hR1, fun _ => rfl, fun h => by omega, fun h => by omega⟩
    · exact fun i σ H' _ h => h.1.t hus
    · rintro i x σ H2 H2' hi ⟨g, ms, x2, x3, rfl, hR, h0, h1, h2⟩ ⟨rfl, ex⟩
      rcases (by omega : i = 0 ∨ i = 1) with rfl | rfl
      · have e0 := h0 rfl
        subst e0
        rw [hu0] at ex
        cases ex
        refine ⟨.ref L, rfl, .ref R, rfl, M, L, R, rfl, g.b, .inl ⟨m.ln, hL.go g, ok.ok, ok.le, hR, fun H3 p g3 np hp => ?_⟩⟩
        have g03 := g.trans g3
        have hR3 := g3.at hR
        have npR : p ≠ R := (ne_of_none hR np).symm
        refine ⟨.ref R, rfl, .inl ⟨rfl, _, SqL.of hR3⟩, .ref L, rfl, .ref R, rfl, R, rfl, ⟨_, SqL.of hR3⟩, fun zs nzs => lcW (walk_list (xs := [])) g03.b nzs (fun _ => none) (by decide) (fun H g => g.l (SqL.of hR3)) (fun i x H H' hi => by simp at hi) (fun H4 g4 hzs => ?_)⟩
        refine ⟨M, L, zs, rfl, g4.b, .inl ⟨m.ln, hL.go (g03.trans g4), fun H5 g5 => ⟨_, rfl, (by decide : (2 : Nat) ≤ sizeLine), fun t nt => ?_⟩⟩⟩
        obtain ⟨e1, e2, e3⟩ := fin (Y := fun H6 t => Go M H H6 ∧ H6 R = some (.lst ([] ++ [.ref t])) ∧ TbAt K H6 t (lnSize m.ln) (frL m.ln)) g03 hR3 (by simp) npR hp (fun H6 t a b c => ⟨a, b, c⟩) H5 (g4.trans g5) t nt
        exact ⟨R, _, _, rfl, rfl, e1, e2, e3.1, _, _, _, rfl, e3.2.1, fun h => by omega, fun _ => ⟨t, rfl, e3.2.2⟩, fun h => by omega⟩
      · obtain ⟨t0, e0, ht0⟩ := h1 rfl
        subst e0
        obtain ⟨D, rfl, hdu, hD⟩ := hu1 _ ex
        refine ⟨.ref D, rfl, .ref R, rfl, M, D, R, rfl, g.b, .inr ⟨t0, lnSize m.ln, lnRk m.ln (Bst.lst (lnSize m.ln) (allS (lnSize m.ln))), frL m.ln, lnI m.ln, g.t hD, hR, ht0, ok.le, hM0, fr_kind ok.ok, ln_rank ok.ok (ok.du hdu) _ allS_lt, fun H3 p g3 np hp => ?_⟩⟩
        have g03 := g.trans g3
        have hR3 := g3.at hR
        have npR : p ≠ R := (ne_of_none hR np).symm
        obtain ⟨f1, s1, _⟩ := ht0.go g3
        refine ⟨.ref R, rfl, .inl ⟨rfl, _, SqL.of hR3⟩, .ref D, rfl, .ref R, rfl, R, rfl, ⟨_, SqL.of hR3⟩, fun zs nzs => lcW (walk_list (xs := [.ref t0])) g03.b nzs (fun _ => some (.int (lnSize m.ln : Nat))) (by simp) (fun H g => g.l (SqL.of hR3)) (fun i x H4 H4' hi g4 y => ?_) (fun H4 g4 hzs => ?_)⟩
        · obtain ⟨rfl, ex⟩ := y
          have : i = 0 := by simp at hi; exact hi
          subst this
          cases ex
          intro B C kB kC
          exact ⟨rfl, .ref t0, rfl, t0, _, 0, _, rfl, rfl, g4.t s1, atI_nat (j := 0) rfl, kB _ _ (.refl g4.b) rfl⟩
        have hzs : H4 zs = some (.lst [.int (lnSize m.ln : Nat)]) := hzs
        refine ⟨M, D, zs, rfl, g4.b, .inr ⟨lnSize m.ln, (g03.trans g4).t hD, hzs, fun H5 g5 => ⟨_, rfl, (by decide : (2 : Nat) ≤ sizeLine), fun t nt => ?_⟩⟩⟩
        obtain ⟨e1, e2, e3⟩ := fin (Y := fun H6 t => Go M H H6 ∧ H6 R = some (.lst ([.ref t0] ++ [.ref t])) ∧ TbAt K H6 t (lnSize m.ln) Fd) g03 hR3 (by simp) npR hp (fun H6 t a b c => ⟨a, b, c⟩) H5 (g4.trans g5) t nt
        exact ⟨R, _, _, rfl, rfl, e1, e2, e3.1, _, _, _, rfl, e3.2.1, fun h => by omega, fun h => by omega, fun _ => ⟨t0, t, rfl, e3.2.2⟩⟩
    · rintro σ H2 ⟨g, ms, x2, x3, rfl, hR, h0, h1, h2⟩
      rcases hlen with ⟨e, hd⟩ | ⟨e, hd⟩
      · obtain ⟨t, rfl, ht⟩ := h1 e
        refine ⟨.ref R, rfl, q H2 R t [] (frL m.ln) g nR hR (by simp) ht ?_⟩
        rw [hI, hd, if_neg (by simp)]
        exact fr_kind ok.ok
      · obtain ⟨t', t, rfl, ht⟩ := h2 e
        refine ⟨.ref R, rfl, q H2 R t [.ref t'] Fd g nR hR (by simp) ht ?_⟩
        rw [hI, hd, if_pos rfl]
        exact dB_ok
def spTable (K : PySem.W.Frag) : Sp := fun vs H Q _ => ∃ (M : Mw) (a : Addr) (m : Mat), vs = [.ref a] ∧ Mok M H ∧ MatAt K H a m ∧ MatOk m ∧
  ∀ (H' : Hp) (p f r : Addr) (F : List Nat → Bool) (rks : List Nat), Go M H H' → H' p = some (.tup [.int (lnSize m.ln : Nat), .ref f, .ref r]) → H' f = some (.lst (frV (lnSize m.ln) F)) → FrOk (lnSize m.ln) m.I F → H' r = some (.lst (nV rks)) → RkT (lnSize m.ln) m.I (2 ^ lnSize m.ln) rks → Q (.ref p) H'
theorem ok_table {f : Addr} {fd : FuncData} (T : Bn mg) (F : Fun K "_law_table" "_law_table" s__law_table f fd) (D__law_tables : Def K mg "_law_tables" s__law_tables) (D__law_ranks : Def K mg "_law_ranks" s__law_ranks)
    (G__law_tables : FnOk P w K mg base CX0 11 D__law_tables.f D__law_tables.fd ["_law_matroid"] (spTables K)) (G__law_ranks : FnOk P w K mg base CX0 3 D__law_ranks.f D__law_ranks.fd ["_law_free_here", "_law_size_here"] (spRanks K)) :
    FnOk P w K mg base CX0 12 f fd ["_law_matroid"] (spTable K) := by
  refine F.ok sc__law_table (fun vs H Q E h => ?_) (fun cdv A outer s H vs Q E hr h => ?_)
  · obtain ⟨M, a, m, rfl, _⟩ := h
    rfl
  · obtain ⟨M, a, m, rfl, mk, hA, ok, q⟩ := h
    -- 0 _law_matroid, 1 _law_size_here, 2 _law_free_here
    refine ⟨_, (pss_cons (ps_asg (pe_ix (ix_listK (K := K)) (pe_call G__law_tables (hr.mono (by first | decide | omega)) (by rfl) D__law_tables.g D__law_tables.F.kp (bd__law_tables D__law_tables.F) .nil pass0 (pa_cons (pv 0) pa_nil)) (pe_un un_neg pe_int) (fun _ _ => rfl)) (pg_tupK (K := K) (n := 2) rfl rfl (pgs_cons (pg_name (i := 1) sc__law_table.nd rfl (.inl rfl)) (pgs_cons (pg_name (i := 2) sc__law_table.nd rfl (.inl rfl)) pgs_nil))))
      (pss_one (ps_ret (pe_tup (pa_cons (pv 1) (pa_cons (pv 2) (pa_cons (pe_call G__law_ranks (hr.mono (by first | decide | omega)) (by rfl) D__law_ranks.g D__law_ranks.F.kp (bd__law_ranks D__law_ranks.F) .nil pass0 (pa_cons (pv 2) (pa_cons (pv 1) pa_nil))) pa_nil))))))), ?_⟩
    refine ⟨.ref a, rfl, M, a, m, rfl, mk, hA, ok, fun H1 p t xs F g1 np hp hx ⟨f, st, hf⟩ hF => ?_⟩
    have hat : atI (xs ++ [V.ref t]) (-1) = some (.ref t) := by
      match xs, hx with
      | [], _ => rfl
      | [x], _ => rfl
    refine ⟨1, rfl, p, _, _, _, rfl, rfl, SqL.of hp, hat, t, _, rfl, st, rfl, _, _, rfl, _, _, rfl, rfl, ?_⟩
    refine ⟨_, rfl, _, rfl, .ref f, rfl, _, rfl, M, f, lnSize m.ln, F, m.I, rfl, g1.b, hf, ok.le, (mat_rk ok).mat, hF, fun H2 r rks g2 nr hr hT => ⟨(by decide : (3 : Nat) ≤ sizeLine), fun u nu => ?_⟩⟩
    have g3 := g2.new (o := .tup [.int (lnSize m.ln : Nat), .ref f, .ref r]) nu
    exact q _ u f r F rks (g1.trans g3) upd_same (g3.at hf) hF (((Go.refl g2.b).new nu).at hr) hT
end
end Bw

set_option Elab.async false
set_option linter.all false
set_option maxRecDepth 100000
set_option maxHeartbeats 2000000
namespace Bw
open PySem PySem.Spec PyProof.Rows L2
theorem pg_lstK {X : Cx} {K : PySem.W.Frag} {pos : Pos} {es : List Expr} {k : Nat} {t : TGs} {n : Nat} (hc : X.calm = true) (hK : X.K = K) (h : PGs X es t)
    (hn : (assignEach es X.env).length = n := by rfl) (hst : (assignEach es X.env).findIdx? (·.1) = none := by rfl) : PG X (.Tuple es k pos) (gLst K n t) := hK ▸ pg_lst hc h hn hst
/-! ### what the law looks at -/
def numOf (rk1 rk2 ms l : List Nat) : Int := ((rk1.getD (codeOf l) 0 : Nat) : Int) + ((rk2.getD (codeOf l) 0 : Nat) : Int) + ((ms.length : Nat) : Int) - ((l.length : Nat) : Int)
structure LawEnd (n : Nat) (I1 I2 : Bst.S → Prop) (ms l1 l2 l3 rk1 rk2 : List Nat) : Prop where
  nd : ms.Nodup
  lt : ∀ e ∈ ms, e < n
  D : DivOk n I1 I2 ms l1 l2 l3
  t1 : RkT n I1 (2 ^ n) rk1
  t2 : RkT n I2 (2 ^ n) rk2
section
variable {n : Nat} {I1 I2 : Bst.S → Prop} {ms l1 l2 l3 rk1 rk2 : List Nat}
theorem LawEnd.sub (h : LawEnd n I1 I2 ms l1 l2 l3 rk1 rk2) {l : List Nat} (nd : l.Nodup) (hl : ∀ e ∈ l, e ∈ ms) : Bst.IsRank n I1 (Bst.mem l) (rk1.getD (codeOf l) 0) ∧ Bst.IsRank n I2 (Bst.mem l) (rk2.getD (codeOf l) 0) ∧ Bst.cnt n (fun e => Bst.mem ms e && !Bst.mem l e) + l.length = ms.length := by
  have lt : ∀ e ∈ l, e < n := fun e he => h.lt e (hl e he)
  have r1 := h.t1.2 _ (codeOf_lt nd lt)
  have r2 := h.t2.2 _ (codeOf_lt nd lt)
  rw [bs_code nd lt] at r1 r2
  refine ⟨r1, r2, ?_⟩
  rw [len_cnt nd lt, len_cnt h.nd h.lt]
  exact Bst.cnt_sub_of (fun x q => Bst.mem_true.mpr (hl x (Bst.mem_true.mp q))) fun x q => lt x (Bst.mem_true.mp q)
theorem LawEnd.ge (h : LawEnd n I1 I2 ms l1 l2 l3 rk1 rk2) {l : List Nat} (nd : l.Nodup) (hl : ∀ e ∈ l, e ∈ ms) : ((l1.length : Nat) : Int) + ((l2.length : Nat) : Int) ≤ numOf rk1 rk2 ms l := by
  obtain ⟨r1, r2, e⟩ := h.sub nd hl
  have := h.D.most _ _ _ r1 r2
  unfold numOf
  omega
theorem LawEnd.le (h : LawEnd n I1 I2 ms l1 l2 l3 rk1 rk2) : numOf rk1 rk2 ms l3 ≤ ((l1.length : Nat) : Int) + ((l2.length : Nat) : Int) := by
  obtain ⟨r1, r2, e⟩ := h.sub h.D.nd3 h.D.in3
  have := h.D.told _ _ r1 r2
  unfold numOf
  omega
theorem LawEnd.told (h : LawEnd n I1 I2 ms l1 l2 l3 rk1 rk2) : numOf rk1 rk2 ms l3 = ((l1.length : Nat) : Int) + ((l2.length : Nat) : Int) := Int.le_antisymm h.le (h.ge h.D.nd3 h.D.in3)
theorem LawEnd.all (h : LawEnd n I1 I2 ms l1 l2 l3 rk1 rk2) : ((l1.length : Nat) : Int) + ((l2.length : Nat) : Int) ≤ ((ms.length : Nat) : Int) := by
  have := nodup_len (xs := l1 ++ l2) (ys := ms) (List.nodup_append.mpr ⟨h.D.nd1, h.D.nd2, fun a ha b hb e => h.D.dis a ha (e ▸ hb)⟩) fun x hx => (List.mem_append.mp hx).elim (h.D.in1 x) (h.D.in2 x)
  rw [List.length_append] at this
  omega
/-- the set of a part -/
def insOf (n : Nat) (ms : List Nat) (c : Nat) : List Nat := (Bst.lst ms.length (bs c)).map fun j => (Bst.lst n (Bst.mem ms)).getD j 0
theorem LawEnd.srt (h : LawEnd n I1 I2 ms l1 l2 l3 rk1 rk2) : (Bst.lst n (Bst.mem ms)).length = ms.length := by rw [lst_len, len_cnt h.nd h.lt]
theorem LawEnd.insIn (h : LawEnd n I1 I2 ms l1 l2 l3 rk1 rk2) {c : Nat} : ∀ e ∈ insOf n ms c, e ∈ ms := fun e he => by
  obtain ⟨j, hj, rfl⟩ := List.mem_map.mp he
  have hjl : j < (Bst.lst n (Bst.mem ms)).length := by rw [h.srt]; exact (Bst.mem_lst.mp hj).1
  rw [List.getD_eq_getElem?_getD, List.getElem?_eq_getElem hjl]
  exact Bst.mem_true.mp (Bst.mem_lst.mp (List.getElem_mem hjl)).2
theorem LawEnd.insNd (h : LawEnd n I1 I2 ms l1 l2 l3 rk1 rk2) {c : Nat} : (insOf n ms c).Nodup := by
  refine List.pairwise_map.mpr ((Bst.lst_sorted _ _).imp_of_mem fun {i j} hi hj hij => ?_)
  have hi2 : i < (Bst.lst n (Bst.mem ms)).length := by rw [h.srt]; exact (Bst.mem_lst.mp hi).1
  have hj2 : j < (Bst.lst n (Bst.mem ms)).length := by rw [h.srt]; exact (Bst.mem_lst.mp hj).1
  have := List.pairwise_iff_getElem.mp (Bst.lst_sorted n (Bst.mem ms)) i j hi2 hj2 hij
  rw [List.getD_eq_getElem?_getD, List.getElem?_eq_getElem hi2, List.getD_eq_getElem?_getD, List.getElem?_eq_getElem hj2]
  exact Nat.ne_of_lt this
theorem LawEnd.some (h : LawEnd n I1 I2 ms l1 l2 l3 rk1 rk2) : ∃ c, c < 2 ^ ms.length ∧ numOf rk1 rk2 ms (insOf n ms c) = numOf rk1 rk2 ms l3 := by
  refine ⟨cS ms.length fun j => Bst.mem l3 ((Bst.lst n (Bst.mem ms)).getD j 0), cS_lt _ _, ?_⟩
  have hin := h.insIn (c := cS ms.length fun j => Bst.mem l3 ((Bst.lst n (Bst.mem ms)).getD j 0))
  have hnd := h.insNd (c := cS ms.length fun j => Bst.mem l3 ((Bst.lst n (Bst.mem ms)).getD j 0))
  have e1 : Bst.mem (insOf n ms (cS ms.length fun j => Bst.mem l3 ((Bst.lst n (Bst.mem ms)).getD j 0))) = Bst.mem l3 := by
    funext e
    rw [Bool.eq_iff_iff, Bst.mem_true]
    unfold insOf
    rw [List.mem_map]
    constructor
    · rintro ⟨j, hj, rfl⟩
      have := (Bst.mem_lst.mp hj).2
      rw [bs_cS, Bool.and_eq_true] at this
      exact this.2
    · intro he
      have hm := h.D.in3 e (Bst.mem_true.mp he)
      obtain ⟨j, hj, hje⟩ := List.getElem_of_mem (Bst.mem_lst.mpr ⟨h.lt e hm, Bst.mem_true.mpr hm⟩)
      have ej : (Bst.lst n (Bst.mem ms)).getD j 0 = e := by rw [List.getD_eq_getElem?_getD, List.getElem?_eq_getElem hj]; exact hje
      have hj2 : j < ms.length := by rw [← h.srt]; exact hj
      refine ⟨j, Bst.mem_lst.mpr ⟨hj2, ?_⟩, ej⟩
      rw [bs_cS, decide_eq_true hj2, ej, he]
      rfl
  have lt : ∀ {l : List Nat}, (∀ e ∈ l, e ∈ ms) → ∀ e ∈ l, e < n := fun hl e he => h.lt e (hl e he)
  have e2 : codeOf (insOf n ms (cS ms.length fun j => Bst.mem l3 ((Bst.lst n (Bst.mem ms)).getD j 0))) = codeOf l3 := by rw [codeOf_eq hnd (lt hin), codeOf_eq h.D.nd3 (lt h.D.in3), e1]
  have e3 : (insOf n ms (cS ms.length fun j => Bst.mem l3 ((Bst.lst n (Bst.mem ms)).getD j 0))).length = l3.length := by rw [len_cnt hnd (lt hin), len_cnt h.D.nd3 (lt h.D.in3), e1]
  unfold numOf
  rw [e2, e3]
end
theorem StAt.neF {H : Hp} {Z : SS} {f : Addr} {n : Nat} {F : List Nat → Bool} (s : StAt H Z) (h : H f = some (.lst (frV n F))) : f ≠ Z.S := fun e => by
  obtain ⟨c, p, d, hS, _⟩ := s
  rw [e, hS] at h
  have h2 : [V.int c, V.int p, V.ref Z.scr, V.int d] = frV n F := HO.lst.inj (Option.some.inj h)
  have h3 : (frV n F)[0]? = some (V.int c) := by rw [← h2]; rfl
  unfold frV at h3
  rw [List.getElem?_map] at h3
  cases q : (List.range (2 ^ n))[0]? with
  | none => rw [q] at h3; cases h3
  | some x => rw [q] at h3; cases h3
theorem StAt.neR {H : Hp} {Z : SS} {f : Addr} {l : List Nat} (s : StAt H Z) (h : H f = some (.lst (nV l))) : f ≠ Z.S := fun e => by
  obtain ⟨c, p, d, hS, _⟩ := s
  rw [e, hS] at h
  have h2 : [V.int c, V.int p, V.ref Z.scr, V.int d] = nV l := HO.lst.inj (Option.some.inj h)
  have h3 : (nV l)[2]? = some (V.ref Z.scr) := by rw [← h2]; rfl
  obtain ⟨e, _, h4⟩ := nV_at h3
  cases h4
theorem eqv_ints : ∀ l : List Nat, PyData.eqvAll (l.map fun e => PyData.int (e : Nat)) (l.map fun e => PyData.int (e : Nat)) = true
  | [] => rfl
  | x :: l => by
    show (PyData.eqv (.int (x : Nat)) (.int (x : Nat)) && _) = true
    rw [eqv_ints l, Bool.and_true]
    exact beq_self_eq_true _
theorem ints_lay : ∀ l : List Nat, PyData.canLayAll0 (l.map fun e => PyData.int (e : Nat)) = true
  | [] => by simp [PyData.canLayAll0]
  | x :: l => by simp [PyData.canLayAll0, PyData.canLay0, ints_lay l]
theorem ints_depth : ∀ l : List Nat, PyData.depthAll (l.map fun e => PyData.int (e : Nat)) = 0
  | [] => by simp [PyData.depthAll]
  | x :: l => by simp [PyData.depthAll, PyData.depth, ints_depth l]
theorem ints_shaped (l : List Nat) : SeqAt.shaped (.list (l.map fun e => PyData.int (e : Nat))) = true := by
  unfold SeqAt.shaped
  rw [Bool.and_eq_true]
  refine ⟨by simp only [PyData.canLay0]; exact ints_lay l, decide_eq_true ?_⟩
  simp only [PyData.depth]
  rw [ints_depth]
  decide
theorem dp_ints {K : PySem.W.Frag} {H : Hp} : ∀ l : List Nat, DpAll K H (nV l) (l.map fun e => PyData.int (e : Nat))
  | [] => .nil
  | x :: l => .cons (.int _) (dp_ints l)
theorem st_to {f : L2.St → Hp → Prop} {σ σ' : L2.St} {H : Hp} (e : σ = σ') (h : f σ' H) : f σ H := e ▸ h
section
variable {P : Program} {w : World} {K : PySem.W.Frag} {mg : Str → Option Value} {base : Heap}
def spLaw (K : PySem.W.Frag) (tc tb tl tr : Addr) : Sp := fun vs H Q _ => ∃ (a : Addr) (ns : List Int), vs = [.ref a] ∧ SqL K H a (ns.map V.int) ∧ ns.length ≤ 63 ∧ Mok ⟨[], [tc, tb, tl, tr]⟩ H ∧ ∀ H', Q (.bl true) H'
theorem ok_law {kd : Nat} {f tc tb tl tr : Addr} {fd : FuncData} (T : Bn mg) (hkd : 12 ≤ kd) (F : Fun K "law" "law" s_law f fd) (D__law_two : Def K mg "_law_two" s__law_two) (D__law_table : Def K mg "_law_table" s__law_table) (D__law_some : Def K mg "_law_some" s__law_some) (D_divided : Def K mg "divided" s_divided)
    (D__law_is : Def K mg "_law_is" s__law_is) (D__law_every : Def K mg "_law_every" s__law_every) (D__law_code : Def K mg "_law_code" s__law_code)
    (G__law_two : FnOk P w K mg base CX0 10 D__law_two.f D__law_two.fd ["_law_state", "_law_most"] (spTwo K)) (G__law_table : FnOk P w K mg base CX0 12 D__law_table.f D__law_table.fd ["_law_matroid"] (spTable K))
    (G__law_some : FnOk P w K mg base CX0 2 D__law_some.f D__law_some.fd ["_law_state", "_law_size_here"] spSome) (G_divided : FnOk P w K mg base CX0 kd D_divided.f D_divided.fd ["first", "second", "members"] (spDivided K tc tb tl tr))
    (G__law_is : FnOk P w K mg base CX0 3 D__law_is.f D__law_is.fd ["_law_free_here", "_law_members_here"] (spIs K)) (G__law_every : FnOk P w K mg base CX0 3 D__law_every.f D__law_every.fd ["_law_size_here"] spEvery)
    (G__law_code : FnOk P w K mg base CX0 2 D__law_code.f D__law_code.fd ["_law_those"] (spCode K)) :
    FnOk P w K mg base CX0 (kd + 1) f fd ["_law_script"] (spLaw K tc tb tl tr) := by
  refine F.ok sc_law (fun vs H Q E h => ?_) (fun cdv A outer s H vs Q E hr h => ?_)
  · obtain ⟨a, ns, rfl, _⟩ := h
    rfl
  · obtain ⟨a, ns, rfl, hS, hn, mk, q⟩ := h
    -- 0 _law_script, 1 _law_state, 2 _law_first, 3 _law_second, 4 _law_size_here, 5 _law_one, 6 _law_two_here, 7 _law_members_here, 8 _law_copy, 9 _law_left, 10 _law_right, 11 _law_tight, 12 _law_least, 13 _law_part, 14 _law_inside, 15 _law_number, 16 _law_told, 17 _law_e, 18 _law_k
    refine ⟨_, (pss_cons (ps_set (i := 1) sc_law.nd rfl (.inl rfl) (pe_lst (pa_cons pe_int (pa_cons pe_int (pa_cons (pe_callTy (call_list_ofK (K := K)) (by rfl) T.m_list (by decide +kernel) (pa_cons (pv 0) pa_nil)) (pa_cons pe_int pa_nil))))))
      (pss_cons (ps_asg (pe_call G__law_two (hr.mono (by first | decide | omega)) (by rfl) D__law_two.g D__law_two.F.kp (bd__law_two D__law_two.F) .nil pass0 (pa_cons (pv 1) (pa_cons pe_int pa_nil))) (pg_lstK (K := K) (n := 3) rfl rfl (pgs_cons (pg_name (i := 2) sc_law.nd rfl (.inl rfl)) (pgs_cons (pg_name (i := 3) sc_law.nd rfl (.inl rfl)) (pgs_cons (pg_name (i := 4) sc_law.nd rfl (.inl rfl)) pgs_nil)))))
      (pss_cons (ps_set (i := 5) sc_law.nd rfl (.inl rfl) (pe_call G__law_table (hr.mono (by first | decide | omega)) (by rfl) D__law_table.g D__law_table.F.kp (bd__law_table D__law_table.F) .nil pass0 (pa_cons (pv 2) pa_nil)))
      (pss_cons (ps_set (i := 6) sc_law.nd rfl (.inl rfl) (pe_call G__law_table (hr.mono (by first | decide | omega)) (by rfl) D__law_table.g D__law_table.F.kp (bd__law_table D__law_table.F) .nil pass0 (pa_cons (pv 3) pa_nil)))
      (pss_cons (ps_set (i := 7) sc_law.nd rfl (.inr rfl) (pe_call G__law_some (hr.mono (by first | decide | omega)) (by rfl) D__law_some.g D__law_some.F.kp (bd__law_some D__law_some.F) .nil pass0 (pa_cons (pv 1) (pa_cons (pv 4) pa_nil))))
      (pss_cons (ps_set (i := 8) sc_law.nd rfl (.inl rfl) (pe_callTy (call_list_ofK (K := K)) (by rfl) T.m_list (by decide +kernel) (pa_cons (pv 7) pa_nil)))
      (pss_cons (ps_asg (pe_call G_divided (hr.mono (by first | decide | omega)) (by rfl) D_divided.g D_divided.F.kp (bd_divided D_divided.F) .nil pass0 (pa_cons (pv 2) (pa_cons (pv 3) (pa_cons (pv 8) pa_nil)))) (pg_tupK (K := K) (n := 3) rfl rfl (pgs_cons (pg_name (i := 9) sc_law.nd rfl (.inl rfl)) (pgs_cons (pg_name (i := 10) sc_law.nd rfl (.inr rfl)) (pgs_cons (pg_name (i := 11) sc_law.nd rfl (.inl rfl)) pgs_nil)))))
      (pss_cons (ps_if (pt_cmpR (op_neDK (K := K) hr.units) (pv 8) (pv 7) (nomark _)) (pss_one (ps_ret pe_bl)) pss_nil)
      (pss_cons (ps_if (PW.pt (pw_or (pt_cmpR op_gt (pe_callB (call_len_seqK (K := K)) (by rfl) T.m_len PySem.boot_len (pa_cons (pe_lc (own := [("_law_e", 17)]) (by rfl) sc_law.nd (pi_listK (K := K) (pv 9)) (blkOk_by (by rfl)) (fun _ _ _ _ _ => (pg_name (i := 17) sc_law.nd rfl (.inl rfl))) (fun _ _ _ _ _ => (pts_one (pt_cmpR (op_in_seqK (K := K)) (pv 17) (pv 10) rfl))) (fun _ _ _ _ _ => (pv 17))) pa_nil)) pe_int (nomark _)) (pw_or1 (pt_not (pt_val (pe_callB (cr_allK (K := K) rfl) (by rfl) T.m_all (by decide +kernel) (pa_cons (pe_lc (own := [("_law_e", 17)]) (by rfl) sc_law.nd (pi_listK (K := K) (pe_op op_cat (pe_op op_cat (pv 9) (pv 10)) (pv 11))) (blkOk_by (by rfl)) (fun _ _ _ _ _ => (pg_name (i := 17) sc_law.nd rfl (.inl rfl))) (fun _ _ _ _ _ => pts_nil) (fun _ _ _ _ _ => (pe_cmpR (op_in_seqK (K := K)) (pv 17) (pv 7) rfl))) pa_nil))))))) (pss_one (ps_ret pe_bl)) pss_nil)
      (pss_cons (ps_if (PW.pt (pw_or (pt_not (pt_val (pe_call G__law_is (hr.mono (by first | decide | omega)) (by rfl) D__law_is.g D__law_is.F.kp (bd__law_is D__law_is.F) .nil pass0 (pa_cons (pe_ix (ix_tupK (K := K)) (pv 5) pe_int (fun _ _ => rfl)) (pa_cons (pv 9) pa_nil))))) (pw_or1 (pt_not (pt_val (pe_call G__law_is (hr.mono (by first | decide | omega)) (by rfl) D__law_is.g D__law_is.F.kp (bd__law_is D__law_is.F) .nil pass0 (pa_cons (pe_ix (ix_tupK (K := K)) (pv 6) pe_int (fun _ _ => rfl)) (pa_cons (pv 10) pa_nil)))))))) (pss_one (ps_ret pe_bl)) pss_nil)
      (pss_cons (ps_set (i := 12) sc_law.nd rfl (.inl rfl) (pe_callB (call_len_seqK (K := K)) (by rfl) T.m_len PySem.boot_len (pa_cons (pv 7) pa_nil)))
      (pss_cons (ps_for PassesOwn.never rfl (pi_listK (K := K) (pe_call G__law_every (hr.mono (by first | decide | omega)) (by rfl) D__law_every.g D__law_every.F.kp (bd__law_every D__law_every.F) .nil pass0 (pa_cons (pe_callB (call_len_seqK (K := K)) (by rfl) T.m_len PySem.boot_len (pa_cons (pv 7) pa_nil)) pa_nil))) (pg_name (i := 13) sc_law.nd rfl (.inl rfl)) (pss_cons (ps_setLc (i := 14) (own := [("_law_k", 18)]) (by rfl) sc_law.nd rfl rfl (sw_true rfl rfl rfl (by decide +kernel)) (pi_listK (K := K) (pv 13)) (blkOk_by (by rfl)) (fun _ _ _ _ _ => (pg_name (i := 18) sc_law.nd rfl (.inl rfl))) (fun _ _ _ _ _ => pts_nil) (fun _ _ _ _ _ => (pe_ix (ix_listK (K := K)) (pe_callB (cr_sortedIK (K := K)) (by rfl) T.m_sorted (by decide +kernel) (pa_cons (pv 7) pa_nil)) (pv 18) (fun _ _ => rfl))))
      (pss_cons (ps_set (i := 15) sc_law.nd rfl (.inl rfl) (pe_op op_sub (pe_op op_add (pe_op op_add (pe_ix (ix_listK (K := K)) (pe_ix (ix_tupK (K := K)) (pv 5) pe_int (fun _ _ => rfl)) (pe_call G__law_code (hr.mono (by first | decide | omega)) (by rfl) D__law_code.g D__law_code.F.kp (bd__law_code D__law_code.F) .nil pass0 (pa_cons (pv 14) pa_nil)) (fun _ _ => rfl)) (pe_ix (ix_listK (K := K)) (pe_ix (ix_tupK (K := K)) (pv 6) pe_int (fun _ _ => rfl)) (pe_call G__law_code (hr.mono (by first | decide | omega)) (by rfl) D__law_code.g D__law_code.F.kp (bd__law_code D__law_code.F) .nil pass0 (pa_cons (pv 14) pa_nil)) (fun _ _ => rfl))) (pe_callB (call_len_seqK (K := K)) (by rfl) T.m_len PySem.boot_len (pa_cons (pv 7) pa_nil))) (pe_callB (call_len_seqK (K := K)) (by rfl) T.m_len PySem.boot_len (pa_cons (pv 14) pa_nil))))
      (pss_one (ps_set (i := 12) sc_law.nd rfl (.inl rfl) (pe_callB (call_min2 rfl) (by rfl) T.m_min (by decide +kernel) (pa_cons (pv 12) (pa_cons (pv 15) pa_nil))))))))
      (pss_cons (ps_set (i := 16) sc_law.nd rfl (.inl rfl) (pe_op op_sub (pe_op op_add (pe_op op_add (pe_ix (ix_listK (K := K)) (pe_ix (ix_tupK (K := K)) (pv 5) pe_int (fun _ _ => rfl)) (pe_call G__law_code (hr.mono (by first | decide | omega)) (by rfl) D__law_code.g D__law_code.F.kp (bd__law_code D__law_code.F) .nil pass0 (pa_cons (pv 11) pa_nil)) (fun _ _ => rfl)) (pe_ix (ix_listK (K := K)) (pe_ix (ix_tupK (K := K)) (pv 6) pe_int (fun _ _ => rfl)) (pe_call G__law_code (hr.mono (by first | decide | omega)) (by rfl) D__law_code.g D__law_code.F.kp (bd__law_code D__law_code.F) .nil pass0 (pa_cons (pv 11) pa_nil)) (fun _ _ => rfl))) (pe_callB (call_len_seqK (K := K)) (by rfl) T.m_len PySem.boot_len (pa_cons (pv 7) pa_nil))) (pe_callB (call_len_seqK (K := K)) (by rfl) T.m_len PySem.boot_len (pa_cons (pv 11) pa_nil))))
      (pss_one (ps_ret (pe_and (pe_cmpR op_eq (pe_op op_add (pe_callB (call_len_seqK (K := K)) (by rfl) T.m_len PySem.boot_len (pa_cons (pv 9) pa_nil)) (pe_callB (call_len_seqK (K := K)) (by rfl) T.m_len PySem.boot_len (pa_cons (pv 10) pa_nil))) (pv 16) (nomark _)) (pe_one (pe_cmpR op_eq (pv 16) (pv 12) (nomark _))))))))))))))))))), ?_⟩
    let M0 : Mw := ⟨[], [tc, tb, tl, tr]⟩
    refine ⟨.ref a, rfl, a, _, rfl, .inl hS, fun c nc => ?_⟩
    have g1 := (Go.refl mk).new (o := .lst (ns.map V.int)) nc
    have hc1 : (upd H c (.lst (ns.map V.int))) c = some (.lst (ns.map V.int)) := upd_same
    generalize upd H c (.lst (ns.map V.int)) = H1 at g1 hc1
    refine ⟨(by decide : (4 : Nat) ≤ sizeLine), fun S nS => ?_⟩
    have g2 := g1.new (o := .lst [.int 0, .int 0, .ref c, .int 1]) nS
    have ncS : c ≠ S := ne_of_none hc1 nS
    have hc2 : (upd H1 S (.lst [.int 0, .int 0, .ref c, .int 1])) c = some (.lst (ns.map V.int)) := (upd_ne ncS).trans hc1
    have hS2 : (upd H1 S (.lst [.int 0, .int 0, .ref c, .int 1])) S = some (.lst [.int 0, .int 0, .ref c, .int 1]) := upd_same
    generalize upd H1 S (.lst [.int 0, .int 0, .ref c, .int 1]) = H2 at g2 hc2 hS2
    have st : StAt H2 ⟨S, c, ns⟩ := ⟨0, 0, 1, hS2, by decide, ncS, hc2⟩
    refine ⟨.ref S, rfl, M0, ⟨S, c, ns⟩, rfl, g2.b, st, fun H3 p a1 a2 n mt mt2 g3 hp hpS h6 hA ok1 sz1 hB ok2 sz2 => ?_⟩
    refine ⟨p, _, rfl, SqL.of hp, rfl, _, _, rfl, _, _, rfl, _, _, rfl, rfl, ?_⟩
    subst sz1
    refine ⟨.ref a1, rfl, M0, a1, mt, rfl, g3.b, hA, ok1, fun H4 t1 f1 r1 F1 rk1 g4 ht1 hf1 hF1 hr1 hT1 => ?_⟩
    have hB4 := hB.tk fun x xs h => g4.t h
    refine ⟨.ref a2, rfl, M0, a2, mt2, rfl, g4.b, hB4, ok2, fun H5 t2 f2 r2 F2 rk2 g5 ht2 hf2 hF2 hr2 hT2 => ?_⟩
    rw [sz2] at ht2 hf2 hF2 hT2
    have st5 := (g3.sb.go g4).go g5
    refine ⟨.ref S, rfl, _, rfl, M0, ⟨S, c, ns⟩, lnSize mt.ln, rfl, g5.b, st5, by omega, fun H6 mp ms g6 nmp hmp hnd hlt => ?_⟩
    refine ⟨.ref mp, rfl, mp, _, rfl, .inl (SqL.of hmp), fun cp ncp => ?_⟩
    have hf1 := g5.at hf1
    have hr1 := g5.at hr1
    have ht1 := g5.at ht1
    have hf16 := g6.at hf1 (st5.neF hf1)
    have hr16 := g6.at hr1 (st5.neR hr1)
    have ht16 := g6.at ht1 (st5.ne ht1 fun ys z => by cases z)
    have hf26 := g6.at hf2 (st5.neF hf2)
    have hr26 := g6.at hr2 (st5.neR hr2)
    have ht26 := g6.at ht2 (st5.ne ht2 fun ys z => by cases z)
    have hA6 := ((hA.tk fun x xs h => g4.t h).tk fun x xs h => g5.t h).tk g6.tk
    have hB6 := (hB4.tk fun x xs h => g5.t h).tk g6.tk
    clear hB4 hA hB hf1 hr1 ht1 hf2 hr2 ht2
    have g7 := (Go.refl g6.b).new (o := .lst (nV ms)) ncp
    have hcp7 : (upd H6 cp (.lst (nV ms))) cp = some (.lst (nV ms)) := upd_same
    have hA7 := hA6.tk fun x xs h => g7.t h
    have hB7 := hB6.tk fun x xs h => g7.t h
    have hmp7 := g7.at hmp
    have hf17 := g7.at hf16
    have hr17 := g7.at hr16
    have ht17 := g7.at ht16
    have hf27 := g7.at hf26
    have hr27 := g7.at hr26
    have ht27 := g7.at ht26
    generalize upd H6 cp (.lst (nV ms)) = H7 at g7 hcp7 hA7 hB7 hmp7 hf17 hr17 ht17 hf27 hr27 ht27
    refine ⟨.ref a1, rfl, .ref a2, rfl, .ref cp, rfl, M0, a1, a2, cp, mt, mt2, ms, rfl, g7.b, by simp [M0], by simp [M0], by simp [M0], by simp [M0], hA7, hB7, ok1, ok2, sz2, hcp7, hnd, hlt, fun M' H8 t u1 u2 u3 l1 l2 l3 gr ht hu1 hu2 hu3 hD => ?_⟩
    have mk8 := gr.b
    have hmp8 := gr.kp _ _ hmp7 rfl
    have hcp8 := gr.kp _ _ hcp7 rfl
    have hf18 := gr.kp _ _ hf17 rfl
    have hr18 := gr.kp _ _ hr17 rfl
    have ht18 := gr.kp _ _ ht17 rfl
    have hf28 := gr.kp _ _ hf27 rfl
    have hr28 := gr.kp _ _ hr27 rfl
    have ht28 := gr.kp _ _ ht27 rfl
    clear gr hA7 hB7 hA6 hB6 hcp7 hmp7 hf17 hr17 ht17 hf27 hr27 ht27 hf16 hr16 ht16 hf26 hr26 ht26 g7 g6 g5 g4 g3 st5 st hp
    refine ⟨t, _, rfl, SqT.of ht, rfl, _, _, rfl, _, _, rfl, _, _, rfl, rfl, ?_⟩
    have LE : LawEnd (lnSize mt.ln) mt.I mt2.I ms l1 l2 l3 rk1 rk2 := ⟨hnd, hlt, hD, hT1, hT2⟩
    have h66 := ok1.le
    generalize lnSize mt.ln = n at *
    have lt1 : ∀ e ∈ l1, e < n := fun e he => hlt e (hD.in1 e he)
    have lt2 : ∀ e ∈ l2, e < n := fun e he => hlt e (hD.in2 e he)
    have lt3 : ∀ e ∈ l3, e < n := fun e he => hlt e (hD.in3 e he)
    have len1 := nodup_lt_len hD.nd1 lt1
    have len2 := nodup_lt_len hD.nd2 lt2
    have len3 := nodup_lt_len hD.nd3 lt3
    have lenm := nodup_lt_len hnd hlt
    refine st_to (σ' := [some (.ref a), some (.ref S), some (.ref a1), some (.ref a2), some (.int (n : Nat)), some (.ref t1), some (.ref t2), some (.ref mp), some (.ref cp), some (.ref u1), some (.ref u2), some (.ref u3), none, none, none, none, none, none, none]) rfl ?_
    refine ⟨.ref cp, rfl, .ref mp, rfl, _, _, .lst (SqL.of hcp8) (dp_ints _), .lst (SqL.of hmp8) (dp_ints _), ints_shaped _, ints_shaped _, _, rfl, ?_⟩
    rw [show PyData.eqv (.list (ms.map fun e => PyData.int (e : Nat))) (.list (ms.map fun e => PyData.int (e : Nat))) = true from eqv_ints ms]
    refine iteN (by simp) ?_
    refine ⟨.ref u1, rfl, u1, rfl, ⟨_, SqL.of hu1⟩, fun D nD => lcL (M := M') (SqL.of hu1) mk8 nD (fun e => if decide (e ∈ l2) = true then some (.int (e : Nat)) else none) (by omega) (fun i e H9 he g9 B C kB kC => ?_) (fun H9 g9 hD9 => ?_)⟩
    · refine ⟨rfl, .int (e : Nat), rfl, .ref u2, rfl, u2, _, rfl, .inl (SqL.of (g9.at hu2)), rfl, flat_nV _, _, rfl, ?_⟩
      rw [inV_n]
      exact ite_bool (fun h => ⟨_, rfl, kB _ _ (.refl g9.b) (if_pos (show decide (e ∈ l2) = true from h))⟩) (fun h => kC _ (.refl g9.b) (if_neg (by rw [show decide (e ∈ l2) = false from h]; simp)))
    rw [fm_filter] at hD9
    have e0 : l1.filter (fun e => decide (e ∈ l2)) = [] := List.filter_eq_nil_iff.mpr fun e he => by
      have := hD.dis e he
      simp [this]
    rw [e0] at hD9
    refine ⟨D, _, rfl, .inl (SqL.of hD9), _, _, rfl, rfl, _, rfl, iteN (by decide) ?_⟩
    refine ⟨.ref u1, rfl, .ref u2, rfl, u1, u2, _, _, rfl, rfl, g9.at hu1, g9.at hu2, sz (by rw [nV_len, nV_len]; omega), fun q1 nq1 => ?_⟩
    have gA := g9.new (o := .lst (nV l1 ++ nV l2)) nq1
    have hqA : (upd H9 q1 (.lst (nV l1 ++ nV l2))) q1 = some (.lst (nV l1 ++ nV l2)) := upd_same
    generalize upd H9 q1 (.lst (nV l1 ++ nV l2)) = HA at gA hqA
    refine ⟨.ref u3, rfl, q1, u3, _, _, rfl, rfl, hqA, gA.at hu3, sz (by rw [List.length_append, nV_len, nV_len, nV_len]; omega), fun q2 nq2 => ?_⟩
    have gB := gA.new (o := .lst (nV l1 ++ nV l2 ++ nV l3)) nq2
    have hqB : (upd HA q2 (.lst (nV l1 ++ nV l2 ++ nV l3))) q2 = some (.lst (nV (l1 ++ l2 ++ l3))) := by rw [upd_same, nV_app, nV_app]
    generalize upd HA q2 (.lst (nV l1 ++ nV l2 ++ nV l3)) = HB at gB hqB
    refine ⟨q2, rfl, ⟨_, SqL.of hqB⟩, fun D2 nD2 => lcL (M := M') (SqL.of hqB) gB.b nD2 (fun _ => some (.bl true)) (by rw [List.length_append, List.length_append]; omega) (fun i e HC he gC B C kB kC => ?_) (fun HC gC hDC => ?_)⟩
    · have hin : e ∈ ms := by
        rcases List.mem_append.mp (List.mem_of_getElem? he) with h | h
        · exact (List.mem_append.mp h).elim (hD.in1 e) (hD.in2 e)
        · exact hD.in3 e h
      refine ⟨rfl, .int (e : Nat), rfl, .ref mp, rfl, mp, _, rfl, .inl (SqL.of ((gB.trans gC).at hmp8)), rfl, flat_nV _, kB _ _ (.refl gC.b) ?_⟩
      show some (V.bl true) = some (V.bl (inV (.int (e : Nat)) (nV ms)))
      rw [inV_n, decide_eq_true hin]
    have eT : (l1 ++ l2 ++ l3).filterMap (fun _ => some (V.bl true)) = ((l1 ++ l2 ++ l3).map fun _ => true).map V.bl := by
      rw [List.map_map]; exact congrFun List.filterMap_eq_map' _
    rw [eT] at hDC
    refine ⟨D2, (l1 ++ l2 ++ l3).map fun _ => true, rfl, SqL.of hDC, _, rfl, iteN ?_ ?_⟩
    · rw [List.all_map]
      simp
    have gD := gB.trans gC
    clear gB hqB gA hqA hDC hD9 g9 nD2 nq2 nq1 nD
    have mem1 : ∀ x, Bst.mem l1 x = true → x < n := fun x h => lt1 x (Bst.mem_true.mp h)
    have mem2 : ∀ x, Bst.mem l2 x = true → x < n := fun x h => lt2 x (Bst.mem_true.mp h)
    refine ⟨.ref t1, rfl, t1, _, 1, _, rfl, rfl, SqT.of (gD.at ht18), atI_nat (j := 1) rfl, .ref u1, rfl, M', f1, u1, n, F1, l1, rfl, gD.b, SqL.of (gD.at hf18), SqL.of (gD.at hu1), hD.nd1, lt1, h66, fun HE gE => ⟨_, rfl, ?_⟩⟩
    rw [(hF1 _ mem1).mpr hD.i1]
    refine iteN (by simp) ?_
    have gE' := gD.trans gE
    refine ⟨.ref t2, rfl, t2, _, 1, _, rfl, rfl, SqT.of (gE'.at ht28), atI_nat (j := 1) rfl, .ref u2, rfl, M', f2, u2, n, F2, l2, rfl, gE'.b, SqL.of (gE'.at hf28), SqL.of (gE'.at hu2), hD.nd2, lt2, h66, fun HF gF => ⟨_, rfl, ?_⟩⟩
    rw [(hF2 _ mem2).mpr hD.i2]
    refine iteN (by simp) ?_
    have gF' := gE'.trans gF
    clear gE' gE gD gC gF
    refine ⟨.ref mp, rfl, mp, _, rfl, .inl (SqL.of (gF'.at hmp8)), ?_⟩
    refine ⟨.ref mp, rfl, mp, _, rfl, .inl (SqL.of (gF'.at hmp8)), M', ms.length, by rw [nV_len]; rfl, gF'.b, by omega, fun HG pe us gG npe hpe hus hne => ?_⟩
    have gG' := gF'.trans gG
    have ulen : us.length = 2 ^ ms.length := by rw [hus.len, codes_len]
    have h64 : 2 ^ n ≤ 64 := Nat.pow_le_pow_right (by decide) h66
    refine ⟨pe, rfl, ⟨_, SqL.of hpe⟩, for_it walk_list (G := fun H' => SqL K H' pe us) (fun i σ H' => Go M' H8 H' ∧ Go M' HG H' ∧ ∃ (least : Int) (x13 x14 x15 : Option V), σ = [some (.ref a), some (.ref S), some (.ref a1), some (.ref a2), some (.int (n : Nat)), some (.ref t1), some (.ref t2), some (.ref mp), some (.ref cp), some (.ref u1), some (.ref u2), some (.ref u3), some (.int least), x13, x14, x15, none, none, none] ∧
      ((l1.length : Nat) : Int) + ((l2.length : Nat) : Int) ≤ least ∧ ∀ c', c' < i → least ≤ numOf rk1 rk2 ms (insOf n ms c')) ?_ ?_ ?_ ?_⟩
    · refine ⟨gG', .refl gG.b, _, none, none, none, rfl, ?_, fun c' h => by omega⟩
      rw [nV_len]
      exact LE.all
    · exact fun i σ H' _ h => h.2.1.l (SqL.of hpe)
    · rintro i x σ HH HH' hi ⟨g, gg, least, x13, x14, x15, rfl, hle, hall⟩ ⟨rfl, ex⟩
      rw [ulen] at hi
      obtain ⟨r, er, b, rfl, hb⟩ := hus.ta ex
      rw [codes_at hi] at er
      cases er
      have hbH := gg.at hb
      have plt : ∀ j ∈ Bst.lst ms.length (bs i), j < ms.length := fun j hj => (Bst.mem_lst.mp hj).1
      have plen := nodup_lt_len (Bst.lst_nodup ms.length (bs i)) plt
      refine ⟨.ref b, rfl, b, rfl, ⟨_, SqL.of hbH⟩, fun D nD => lcL (M := M') (SqL.of hbH) g.b nD (fun j => some (.int ((Bst.lst n (Bst.mem ms)).getD j 0 : Nat))) (by omega) (fun j e H9 he g9 B C kB kC => ?_) (fun H9 g9 hD9 => ?_)⟩
      · have hj := plt e (List.mem_of_getElem? he)
        refine ⟨rfl, .ref mp, rfl, mp, ms.map Int.ofNat, rfl, int_n ▸ SqL.of ((g.trans g9).at hmp8), fun ns' s2 perm rising ns2 => ?_⟩
        rw [sort_set hnd hlt perm rising]
        have gS := (Go.refl g9.b).new (o := .lst (nV (Bst.lst n (Bst.mem ms)))) ns2
        refine ⟨.int (e : Nat), rfl, s2, _, e, _, rfl, rfl, SqL.of upd_same, atI_nat (nV_get (e := (Bst.lst n (Bst.mem ms)).getD e 0) ?_), kB _ _ gS rfl⟩
        rw [List.getD_eq_getElem?_getD, List.getElem?_eq_getElem (by rw [LE.srt]; exact hj)]
        rfl
      have eI : (Bst.lst ms.length (bs i)).filterMap (fun j => some (V.int ((Bst.lst n (Bst.mem ms)).getD j 0 : Nat))) = nV (insOf n ms i) := fm_map _ _
      rw [eI] at hD9
      have gA := g.trans g9
      have ind := LE.insNd (c := i)
      have iin := LE.insIn (c := i)
      have ilt : ∀ e ∈ insOf n ms i, e < n := fun e he => hlt e (iin e he)
      have ilen := nodup_lt_len ind ilt
      have i15 : ∀ e ∈ insOf n ms i, e < 15 := fun e he => by have := ilt e he; omega
      have ic := codeOf_lt ind ilt
      refine ⟨.ref t1, rfl, t1, _, 2, _, rfl, rfl, SqT.of (gA.at ht18), atI_nat (j := 2) rfl, .ref D, rfl, M', D, insOf n ms i, rfl, gA.b, SqL.of hD9, i15, by omega, fun HB gB => ?_⟩
      have gAB := gA.trans gB
      have hDB := gB.at hD9
      refine ⟨r1, _, _, _, rfl, rfl, SqL.of (gAB.at hr18), atI_nat (hT1.at ic), .ref t2, rfl, t2, _, 2, _, rfl, rfl, SqT.of (gAB.at ht28), atI_nat (j := 2) rfl, .ref D, rfl, M', D, insOf n ms i, rfl, gAB.b, SqL.of hDB, i15, by omega, fun HC gC => ?_⟩
      have gAC := gAB.trans gC
      have hDC := gC.at hDB
      refine ⟨r2, _, _, _, rfl, rfl, SqL.of (gAC.at hr28), atI_nat (hT2.at ic), _, _, rfl, rfl, .ref mp, rfl, mp, _, rfl, .inl (SqL.of (gAC.at hmp8)), _, _, rfl, rfl, .ref D, rfl, D, _, rfl, .inl (SqL.of hDC), _, _, rfl, rfl, ?_⟩
      have en : ((rk1.getD (codeOf (insOf n ms i)) 0 : Nat) : Int) + ((rk2.getD (codeOf (insOf n ms i)) 0 : Nat) : Int) + (((nV ms).length : Nat) : Int) - (((nV (insOf n ms i)).length : Nat) : Int) = numOf rk1 rk2 ms (insOf n ms i) := by
        rw [nV_len, nV_len]; rfl
      refine ⟨_, rfl, _, rfl, _, _, rfl, gAC, gg.trans (g9.trans (gB.trans gC)), _, _, _, _, rfl, ?_, fun c' hc' => ?_⟩
      · rw [en]
        have := LE.ge ind iin
        split <;> omega
      · rw [en]
        rcases Nat.lt_or_ge c' i with h | h
        · have := hall c' h
          split <;> omega
        · have : c' = i := by omega
          subst this
          split <;> omega
    · rintro σ HH ⟨g, gg, least, x13, x14, x15, rfl, hle, hall⟩
      have c3 := codeOf_lt hD.nd3 lt3
      have i15 : ∀ e ∈ l3, e < 15 := fun e he => by have := lt3 e he; omega
      refine ⟨.ref t1, rfl, t1, _, 2, _, rfl, rfl, SqT.of (g.at ht18), atI_nat (j := 2) rfl, .ref u3, rfl, M', u3, l3, rfl, g.b, SqL.of (g.at hu3), i15, by omega, fun HB gB => ?_⟩
      have gAB := g.trans gB
      refine ⟨r1, _, _, _, rfl, rfl, SqL.of (gAB.at hr18), atI_nat (hT1.at c3), .ref t2, rfl, t2, _, 2, _, rfl, rfl, SqT.of (gAB.at ht28), atI_nat (j := 2) rfl, .ref u3, rfl, M', u3, l3, rfl, gAB.b, SqL.of (gAB.at hu3), i15, by omega, fun HC gC => ?_⟩
      have gAC := gAB.trans gC
      refine ⟨r2, _, _, _, rfl, rfl, SqL.of (gAC.at hr28), atI_nat (hT2.at c3), _, _, rfl, rfl, .ref mp, rfl, mp, _, rfl, .inl (SqL.of (gAC.at hmp8)), _, _, rfl, rfl, .ref u3, rfl, u3, _, rfl, .inl (SqL.of (gAC.at hu3)), _, _, rfl, rfl, ?_⟩
      have en : ((rk1.getD (codeOf l3) 0 : Nat) : Int) + ((rk2.getD (codeOf l3) 0 : Nat) : Int) + (((nV ms).length : Nat) : Int) - (((nV l3).length : Nat) : Int) = ((l1.length : Nat) : Int) + ((l2.length : Nat) : Int) := by
        rw [nV_len, nV_len]; exact LE.told
      dsimp only
      rw [en]
      have el : least = ((l1.length : Nat) : Int) + ((l2.length : Nat) : Int) := by
        obtain ⟨c', hc', e⟩ := LE.some
        have h1 := hall c' (by rw [ulen]; exact hc')
        rw [e, LE.told] at h1
        omega
      subst el
      refine ⟨.ref u1, rfl, u1, _, rfl, .inl (SqL.of (gAC.at hu1)), .ref u2, rfl, u2, _, rfl, .inl (SqL.of (gAC.at hu2)), _, _, rfl, rfl, _, rfl, rfl, _, rfl, ?_⟩
      dsimp only
      rw [nV_len, nV_len, decide_eq_true rfl]
      refine iteT ⟨_, rfl, _, rfl, rfl, ?_⟩
      rw [decide_eq_true rfl]
      exact q _
end
end Bw

set_option Elab.async false
set_option linter.all false
set_option maxRecDepth 100000
set_option maxHeartbeats 0
namespace BwH
open PySem PySem.Spec PyProof.Rows L2 Bw
section
variable {P : Program} {w : World} {K : PySem.W.Frag} {h base : Heap} {mg : Str → Option Value}
theorem toFun {x qual : Str} {st : Stmt} {f : Addr} {fd : FuncData} (F : FunD K x qual (defArgs st) (defBody st) (defScope st) [] [] f fd) : Fun K x qual st f fd := by
  obtain ⟨oc, od, dV, kV, doc, pm, an, cdv, ct, osl, e, lk, hc, hd, _⟩ := F.ex
  have e2 : dV = .none := hd.elim (fun z => z.2) fun z => absurd rfl z.1
  subst e2
  exact ⟨⟨oc, od, kV, doc, pm, an, cdv, ct, osl, e, lk, hc⟩, F.kp⟩
theorem mk_def (X : K.In h) (G : h.Ns mainGlobals mg) (c : SaysY h K) (x : Str) (st : Stmt) (i j : Nat) (hi : fn[i]? = some ⟨(x, none), x, x, defArgs st, defBody st, defScope st, [], []⟩) (hj : fa[j]? = some (.glo x)) : Nonempty (Def K mg x st) := by
  obtain ⟨fd, F⟩ := c.d.def_ i hi
  exact ⟨⟨He.ga K x, fd, toFun F, He.glo_ok X G (c.d.fact j hj)⟩⟩
theorem mk_defC (X : K.In h) (G : h.Ns mainGlobals mg) (c : SaysY h K) (x : Str) (st : Stmt) (i j : Nat) (hi : fn[i]? = some ⟨(x, none), x, x, defArgs st, defBody st, defScope st, [], []⟩) (hj : fa[j]? = some (.glo x)) : Nonempty (DefC K mg x st (He.codeOf K (x, none))) := by
  obtain ⟨fd, F⟩ := c.d.def_ i hi
  obtain ⟨oc, od, kV, doc, pm, an, cdv, ct, osl, e, lk, hc⟩ := (toFun F).ex
  obtain ⟨cc, rfl⟩ := He.codeIn_ref hc
  have e3 : He.codeOf K (x, none) = cc := He.codeOf_eq lk (by rw [e])
  rw [e3]
  exact ⟨⟨He.ga K x, fd, ⟨⟨oc, od, kV, doc, pm, an, ct, osl, e, lk, hc⟩, F.kp⟩, He.glo_ok X G (c.d.fact j hj)⟩⟩
theorem mk_mf (c : SaysY h K) (C m qual : Str) (st : Stmt) (ps : List Str) (i j : Nat) (hb : ∀ f fd, Fun K m qual st f fd → Binds K fd ps []) (hi : fn[i]? = some ⟨(C, some m), m, qual, defArgs st, defBody st, defScope st, [], []⟩) (hj : fa[j]? = some (.meth C m)) : Nonempty (MF K (He.ga K C) m qual st ps) := by
  obtain ⟨fd, F⟩ := c.d.def_ i hi
  exact ⟨⟨_, fd, toFun F, He.meth_ok (c.d.fact j hj), hb _ _ (toFun F)⟩⟩
theorem mk_cls (c : SaysY h K) (C : Str) (j : Nat) (h0 : fa[j]? = some (.cls C)) (k : Nat) (h1 : fa[k]? = some (.noat C "size")) (h2 : fa[k + 1]? = some (.noat C "known")) (h3 : fa[k + 2]? = some (.noat C "line")) (h4 : fa[k + 3]? = some (.noat C "inner")) (h5 : fa[k + 4]? = some (.noat C "one")) (h6 : fa[k + 5]? = some (.noat C "two")) (h7 : fa[k + 6]? = some (.noat C "members")) :
    ∃ D : Cls2 K, D.C = He.ga K C :=
  ⟨⟨⟨He.ga K C, He.cls_ok (c.d.fact j h0), He.noat_ok (c.d.fact k h1), He.noat_ok (c.d.fact (k + 1) h2)⟩, He.noat_ok (c.d.fact (k + 2) h3), He.noat_ok (c.d.fact (k + 3) h4), He.noat_ok (c.d.fact (k + 4) h5), He.noat_ok (c.d.fact (k + 5) h6), He.noat_ok (c.d.fact (k + 6) h7)⟩, rfl⟩
theorem fnC_at (c : SaysY h K) (i : Nat) {d : InD} (hi : ins[i]? = some d) : fnC K d.C = d.val := by
  have e := congrArg (fun l : List FnC => l[i]?) c.i
  simp only [List.getElem?_map, hi, Option.map_some] at e
  exact Option.some.inj e
theorem toTab {c t : Addr} (b : LamX.TabB base mg c t) : GxR.TabB base mg c t := ⟨b.1, b.2, b.3⟩
def tabAt (K : PySem.W.Frag) (x : Str) : Addr := (He.cT K (x, none)).2
def csOf (K : PySem.W.Frag) : List (Addr × Addr) := tf.map (He.cT K)
theorem tab_of (x : Str) (hx : (x, none) ∈ tf) (T : ∀ p ∈ csOf K, LamX.TabB base mg p.1 p.2) : GxR.TabB base mg (He.codeOf K (x, none)) (tabAt K x) := toTab (T (He.cT K (x, none)) (List.mem_map_of_mem hx))
theorem mk_kc {x C0 : Str} {C f : Addr} {fd : FuncData} {ps : List Str} (g : mg x = some (.ref C)) (m : Mk K C f) (b : Binds K fd ps []) : ∃ N : KC K mg x C ps, N.f = f ∧ N.fd = fd := ⟨⟨f, fd, g, m, b⟩, rfl, rfl⟩
theorem law_facts (hP : P = PP) (X : K.In h) (G : h.Ns mainGlobals mg) (c : SaysY h K) (Tb : ∀ p ∈ csOf K, LamX.TabB base mg p.1 p.2) (D_law : Def K mg "law" s_law) :
    FnOk P w K mg base CX0 26 D_law.f D_law.fd ["_law_script"] (spLaw K (tabAt K "choices_rank") (tabAt K "bounds_rank") (tabAt K "layers_of") (tabAt K "reached_from")) := by
  have T : Bn mg := ⟨He.free_ok X G (c.d.fact 49 rfl), He.free_ok X G (c.d.fact 50 rfl), He.free_ok X G (c.d.fact 51 rfl), He.free_ok X G (c.d.fact 52 rfl), He.free_ok X G (c.d.fact 53 rfl), He.free_ok X G (c.d.fact 54 rfl), He.free_ok X G (c.d.fact 55 rfl), He.free_ok X G (c.d.fact 56 rfl), He.free_ok X G (c.d.fact 57 rfl), He.free_ok X G (c.d.fact 58 rfl), He.free_ok X G (c.d.fact 59 rfl), He.free_ok X G (c.d.fact 60 rfl), He.free_ok X G (c.d.fact 61 rfl), He.free_ok X G (c.d.fact 62 rfl), He.free_ok X G (c.d.fact 63 rfl)⟩
  have gs : mg "super" = none := He.free_ok X G (c.d.fact 64 rfl)
  obtain ⟨m1, m2⟩ := He.ba (show (He.eqO (PySem.W.nsIn K cStatics "thirdparty.any") (some none) && ins.all fun d => inOk PP K d) = true from c.more)
  have any := He.eqO_ok m1
  obtain ⟨D_graph_rank⟩ := mk_def X G c "graph_rank" s_graph_rank 0 0 rfl rfl
  obtain ⟨D_inverse⟩ := mk_def X G c "inverse" s_inverse 1 1 rfl rfl
  obtain ⟨D_reduced⟩ := mk_def X G c "reduced" s_reduced 2 2 rfl rfl
  obtain ⟨D_vectors_rank⟩ := mk_def X G c "vectors_rank" s_vectors_rank 3 3 rfl rfl
  obtain ⟨D_find_thing⟩ := mk_def X G c "find_thing" s_find_thing 4 4 rfl rfl
  obtain ⟨D_choices_rank⟩ := mk_defC X G c "choices_rank" s_choices_rank 5 5 rfl rfl
  obtain ⟨D_bounds_rank⟩ := mk_defC X G c "bounds_rank" s_bounds_rank 6 6 rfl rfl
  obtain ⟨D_rank_of_kind⟩ := mk_def X G c "rank_of_kind" s_rank_of_kind 7 7 rfl rfl
  obtain ⟨D_size_of_kind⟩ := mk_def X G c "size_of_kind" s_size_of_kind 8 8 rfl rfl
  obtain ⟨D_changed⟩ := mk_def X G c "changed" s_changed 9 9 rfl rfl
  obtain ⟨D_follows⟩ := mk_def X G c "follows" s_follows 10 10 rfl rfl
  obtain ⟨D_layers_of⟩ := mk_defC X G c "layers_of" s_layers_of 11 11 rfl rfl
  obtain ⟨D_ends_in⟩ := mk_def X G c "ends_in" s_ends_in 12 12 rfl rfl
  obtain ⟨D_row_in⟩ := mk_def X G c "row_in" s_row_in 13 13 rfl rfl
  obtain ⟨D_after_row⟩ := mk_def X G c "after_row" s_after_row 14 14 rfl rfl
  obtain ⟨D_reached_from⟩ := mk_defC X G c "reached_from" s_reached_from 15 15 rfl rfl
  obtain ⟨D_kept_of⟩ := mk_def X G c "kept_of" s_kept_of 16 16 rfl rfl
  obtain ⟨D_moved_in⟩ := mk_def X G c "moved_in" s_moved_in 17 17 rfl rfl
  obtain ⟨D_divided_in⟩ := mk_def X G c "divided_in" s_divided_in 18 18 rfl rfl
  obtain ⟨D_made_line⟩ := mk_def X G c "made_line" s_made_line 19 19 rfl rfl
  obtain ⟨D_built⟩ := mk_def X G c "built" s_built 20 20 rfl rfl
  obtain ⟨D_ranked⟩ := mk_def X G c "ranked" s_ranked 21 21 rfl rfl
  obtain ⟨D_both⟩ := mk_def X G c "both" s_both 22 22 rfl rfl
  obtain ⟨D_divided⟩ := mk_def X G c "divided" s_divided 23 23 rfl rfl
  obtain ⟨D__law_draw⟩ := mk_def X G c "_law_draw" s__law_draw 24 24 rfl rfl
  obtain ⟨D__law_powers⟩ := mk_def X G c "_law_powers" s__law_powers 25 25 rfl rfl
  obtain ⟨D__law_code⟩ := mk_def X G c "_law_code" s__law_code 26 26 rfl rfl
  obtain ⟨D__law_members⟩ := mk_def X G c "_law_members" s__law_members 27 27 rfl rfl
  obtain ⟨D__law_every⟩ := mk_def X G c "_law_every" s__law_every 28 28 rfl rfl
  obtain ⟨D__law_nested⟩ := mk_def X G c "_law_nested" s__law_nested 29 29 rfl rfl
  obtain ⟨D__law_size⟩ := mk_def X G c "_law_size" s__law_size 30 30 rfl rfl
  obtain ⟨D__law_sums⟩ := mk_def X G c "_law_sums" s__law_sums 31 31 rfl rfl
  obtain ⟨D__law_forest⟩ := mk_def X G c "_law_forest" s__law_forest 32 32 rfl rfl
  obtain ⟨D__law_given⟩ := mk_def X G c "_law_given" s__law_given 33 33 rfl rfl
  obtain ⟨D__law_is_free⟩ := mk_def X G c "_law_is_free" s__law_is_free 34 34 rfl rfl
  obtain ⟨D__law_ranks⟩ := mk_def X G c "_law_ranks" s__law_ranks 35 35 rfl rfl
  obtain ⟨D__law_made_free⟩ := mk_def X G c "_law_made_free" s__law_made_free 36 36 rfl rfl
  obtain ⟨D__law_free⟩ := mk_def X G c "_law_free" s__law_free 37 37 rfl rfl
  obtain ⟨D__law_tables⟩ := mk_def X G c "_law_tables" s__law_tables 38 38 rfl rfl
  obtain ⟨D__law_table⟩ := mk_def X G c "_law_table" s__law_table 39 39 rfl rfl
  obtain ⟨D__law_of_size⟩ := mk_def X G c "_law_of_size" s__law_of_size 40 40 rfl rfl
  obtain ⟨D__law_some⟩ := mk_def X G c "_law_some" s__law_some 41 41 rfl rfl
  obtain ⟨D__law_two⟩ := mk_def X G c "_law_two" s__law_two 42 42 rfl rfl
  obtain ⟨D__law_is⟩ := mk_def X G c "_law_is" s__law_is 43 43 rfl rfl
  have B_choices_rank := tab_of (K := K) (mg := mg) (base := base) "choices_rank" (by decide) Tb
  have B_bounds_rank := tab_of (K := K) (mg := mg) (base := base) "bounds_rank" (by decide) Tb
  have B_layers_of := tab_of (K := K) (mg := mg) (base := base) "layers_of" (by decide) Tb
  have B_reached_from := tab_of (K := K) (mg := mg) (base := base) "reached_from" (by decide) Tb
  obtain ⟨CK, eCK⟩ := mk_cls c "Kind" 65 rfl 69 rfl rfl rfl rfl rfl rfl rfl
  obtain ⟨CD, eCD⟩ := mk_cls c "Dual" 66 rfl 76 rfl rfl rfl rfl rfl rfl rfl
  obtain ⟨CC, eCC⟩ := mk_cls c "Copies" 67 rfl 83 rfl rfl rfl rfl rfl rfl rfl
  obtain ⟨CS, eCS⟩ := mk_cls c "Single" 68 rfl 90 rfl rfl rfl rfl rfl rfl rfl
  obtain ⟨CK_compute⟩ : Nonempty (MF K CK.C "compute" "Kind.compute" s_Kind_compute ["self", "members"]) := by rw [eCK]; exact mk_mf c "Kind" "compute" "Kind.compute" s_Kind_compute ["self", "members"] 45 97 (fun _ _ F => bd_Kind_compute F) rfl rfl
  obtain ⟨CK_rank⟩ : Nonempty (MF K CK.C "rank" "Ranked.rank" s_Ranked_rank ["self", "members"]) := by rw [eCK]; exact mk_mf c "Kind" "rank" "Ranked.rank" s_Ranked_rank ["self", "members"] 46 98 (fun _ _ F => bd_Ranked_rank F) rfl rfl
  obtain ⟨CD_compute⟩ : Nonempty (MF K CD.C "compute" "Dual.compute" s_Dual_compute ["self", "members"]) := by rw [eCD]; exact mk_mf c "Dual" "compute" "Dual.compute" s_Dual_compute ["self", "members"] 47 99 (fun _ _ F => bd_Dual_compute F) rfl rfl
  obtain ⟨CD_rank⟩ : Nonempty (MF K CD.C "rank" "Ranked.rank" s_Ranked_rank ["self", "members"]) := by rw [eCD]; exact mk_mf c "Dual" "rank" "Ranked.rank" s_Ranked_rank ["self", "members"] 48 100 (fun _ _ F => bd_Ranked_rank F) rfl rfl
  obtain ⟨CC_compute⟩ : Nonempty (MF K CC.C "compute" "Copies.compute" s_Copies_compute ["self", "members"]) := by rw [eCC]; exact mk_mf c "Copies" "compute" "Copies.compute" s_Copies_compute ["self", "members"] 49 101 (fun _ _ F => bd_Copies_compute F) rfl rfl
  obtain ⟨CC_rank⟩ : Nonempty (MF K CC.C "rank" "Ranked.rank" s_Ranked_rank ["self", "members"]) := by rw [eCC]; exact mk_mf c "Copies" "rank" "Ranked.rank" s_Ranked_rank ["self", "members"] 50 102 (fun _ _ F => bd_Ranked_rank F) rfl rfl
  obtain ⟨CS_compute⟩ : Nonempty (MF K CS.C "compute" "Single.compute" s_Single_compute ["self", "members"]) := by rw [eCS]; exact mk_mf c "Single" "compute" "Single.compute" s_Single_compute ["self", "members"] 51 103 (fun _ _ F => bd_Single_compute F) rfl rfl
  obtain ⟨CS_rank⟩ : Nonempty (MF K CS.C "rank" "Ranked.rank" s_Ranked_rank ["self", "members"]) := by rw [eCS]; exact mk_mf c "Single" "rank" "Ranked.rank" s_Ranked_rank ["self", "members"] 52 104 (fun _ _ F => bd_Ranked_rank F) rfl rfl
  obtain ⟨CK_whole⟩ : Nonempty (MF K CK.C "whole" "Ranked.whole" s_Ranked_whole ["self"]) := by rw [eCK]; exact mk_mf c "Kind" "whole" "Ranked.whole" s_Ranked_whole ["self"] 53 105 (fun _ _ F => bd_Ranked_whole F) rfl rfl
  obtain ⟨CC_is_free⟩ : Nonempty (MF K CC.C "is_free" "Ranked.is_free" s_Ranked_is_free ["self", "members"]) := by rw [eCC]; exact mk_mf c "Copies" "is_free" "Ranked.is_free" s_Ranked_is_free ["self", "members"] 54 106 (fun _ _ F => bd_Ranked_is_free F) rfl rfl
  obtain ⟨CS_is_free⟩ : Nonempty (MF K CS.C "is_free" "Ranked.is_free" s_Ranked_is_free ["self", "members"]) := by rw [eCS]; exact mk_mf c "Single" "is_free" "Ranked.is_free" s_Ranked_is_free ["self", "members"] 55 107 (fun _ _ F => bd_Ranked_is_free F) rfl rfl
  let tc := tabAt K "choices_rank"
  let tb := tabAt K "bounds_rank"
  let tl := tabAt K "layers_of"
  let tr := tabAt K "reached_from"
  -- kinds
  have G_graph_rank := ok_graph_rank (P := P) (w := w) (base := base) (k := 0) T D_graph_rank.F
  have G_inverse := ok_inverse (P := P) (w := w) (base := base) (k := 0) T D_inverse.F
  have G_reduced := ok_reduced (P := P) (w := w) (base := base) (k := 0) T D_reduced.F
  have G_vectors_rank := ok_vectors_rank T D_vectors_rank.F D_reduced D_inverse G_reduced G_inverse
  have G_find_thing := ok_find_thing (P := P) (w := w) (base := base) D_find_thing 5
  have G_choices_rank := ok_choices_rank T D_choices_rank B_choices_rank D_find_thing G_find_thing
  have G_bounds_rank := ok_bounds_rank (P := P) (w := w) T D_bounds_rank B_bounds_rank
  have G_rank_of_kind := ok_rank_of_kind T D_rank_of_kind.F D_graph_rank D_vectors_rank D_choices_rank D_bounds_rank G_graph_rank G_vectors_rank G_choices_rank G_bounds_rank
  have G_size_of_kind := ok_size_of_kind (P := P) (w := w) (base := base) (k := 0) T D_size_of_kind.F
  -- the objects
  have G_CK_compute := ok_Kind_compute (tc := tc) (tb := tb) T CK CK_compute D_rank_of_kind G_rank_of_kind
  have G_CK_rank := ok_rank T CK.toCF (BKind K CK.C tc tb) CK_rank CK_compute G_CK_compute
  have G_CK_whole := ok_whole T CK.toCF (BKind K CK.C tc tb) CK_whole CK_rank G_CK_rank
  have G_CD_compute := ok_Dual_compute T CK CD CD_compute CK_rank CK_whole G_CK_rank G_CK_whole
  have G_CD_rank := ok_rank T CD.toCF (BDual K CK.C CD.C tc tb) CD_rank CD_compute G_CD_compute
  have G_CC_compute := ok_Copies_compute T CK CD CC CC_compute CK_rank CD_rank G_CK_rank G_CD_rank
  have G_CC_rank := ok_rank T CC.toCF (BCop K CK.C CD.C CC.C tc tb) CC_rank CC_compute G_CC_compute
  have G_CC_is_free := ok_is_free T CC.toCF (BCop K CK.C CD.C CC.C tc tb) CC_is_free CC_rank G_CC_rank
  have G_CS_compute := ok_Single_compute (P := P) (w := w) (mg := mg) (base := base) (k := 14) T CS CS_compute
  have G_CS_rank := ok_rank T CS.toCF (BSin CS.C) CS_rank CS_compute G_CS_compute
  have G_CS_is_free := ok_is_free T CS.toCF (BSin CS.C) CS_is_free CS_rank G_CS_rank
  -- makers
  obtain ⟨fd0, F0⟩ := c.d.def_ 57 (d := ⟨("Ranked", some "__init__"), "__init__", "Ranked.__init__", defArgs s_Ranked___init__, defBody s_Ranked___init__, defScope s_Ranked___init__, [], []⟩) rfl
  have F0 : Fun K "__init__" "Ranked.__init__" s_Ranked___init__ (inAd K "Ranked") fd0 := toFun F0
  have b0 := bd_Ranked___init__ F0
  have G0 := ok_init (P := P) (w := w) (base := base) (k := 0) T F0
  obtain ⟨fdS, FS⟩ := c.d.def_ 56 (d := ⟨("Single", some "__init__"), "__init__", "Ranked.__init__", defArgs s_Ranked___init__, defBody s_Ranked___init__, defScope s_Ranked___init__, [], []⟩) rfl
  have FS : Fun K "__init__" "Ranked.__init__" s_Ranked___init__ (He.fAd K ("Single", some "__init__")) fdS := toFun FS
  have G_N_Single := ok_init (P := P) (w := w) (base := base) (k := 0) T FS
  obtain ⟨N_Single, eN1, eN2⟩ : ∃ N : KC K mg "Single" CS.C ["self", "size"], N.f = He.fAd K ("Single", some "__init__") ∧ N.fd = fdS := by
    rw [eCS]
    exact mk_kc (C0 := "") (He.glo_ok X G (c.d.fact 48 rfl)) (He.mkr_ok (c.d.fact 111 rfl)) (bd_Ranked___init__ FS)
  rw [← eN1, ← eN2] at G_N_Single
  obtain ⟨fdCK, cCK, ccCK, FCK, kvCK, doCK, pmCK, anCK, ctCK, efCK⟩ := in_ok (P := PP) (mg := mg) (d := ⟨"Kind", "Kind.__init__", s_Kind___init__⟩) (fnC_at c 0 rfl) (List.all_eq_true.mp m2 _ (List.mem_of_getElem? (i := 0) rfl)) any gs
  have bCK : Binds K fdCK ["self", "line"] [] := by
    subst efCK
    exact .all fun us hl => match us, hl with | [_, _], _ => rfl
  have FCK : Gx.SupF P K mg "Kind.__init__" s_Kind___init__ (inAd K "Kind") fdCK cCK ccCK CK.C (inAd K "Ranked") := by rw [eCK, hP]; exact FCK
  have G_N_Kind := ok_Kind_init T CK hP FCK D_size_of_kind b0 G_size_of_kind G0
  obtain ⟨N_Kind, eACK, eBCK⟩ : ∃ N : KC K mg "Kind" CK.C ["self", "line"], N.f = inAd K "Kind" ∧ N.fd = fdCK := by
    rw [eCK]
    exact mk_kc (C0 := "") (He.glo_ok X G (c.d.fact 45 rfl)) (He.mkr_ok (c.d.fact 108 rfl)) bCK
  rw [← eACK, ← eBCK] at G_N_Kind
  obtain ⟨fdCD, cCD, ccCD, FCD, kvCD, doCD, pmCD, anCD, ctCD, efCD⟩ := in_ok (P := PP) (mg := mg) (d := ⟨"Dual", "Dual.__init__", s_Dual___init__⟩) (fnC_at c 1 rfl) (List.all_eq_true.mp m2 _ (List.mem_of_getElem? (i := 1) rfl)) any gs
  have bCD : Binds K fdCD ["self", "inner"] [] := by
    subst efCD
    exact .all fun us hl => match us, hl with | [_, _], _ => rfl
  have FCD : Gx.SupF P K mg "Dual.__init__" s_Dual___init__ (inAd K "Dual") fdCD cCD ccCD CD.C (inAd K "Ranked") := by rw [eCD, hP]; exact FCD
  have G_N_Dual := ok_Dual_init (k := 0) T CD hP FCD b0 G0
  obtain ⟨N_Dual, eACD, eBCD⟩ : ∃ N : KC K mg "Dual" CD.C ["self", "inner"], N.f = inAd K "Dual" ∧ N.fd = fdCD := by
    rw [eCD]
    exact mk_kc (C0 := "") (He.glo_ok X G (c.d.fact 46 rfl)) (He.mkr_ok (c.d.fact 109 rfl)) bCD
  rw [← eACD, ← eBCD] at G_N_Dual
  obtain ⟨fdCC, cCC, ccCC, FCC, kvCC, doCC, pmCC, anCC, ctCC, efCC⟩ := in_ok (P := PP) (mg := mg) (d := ⟨"Copies", "Copies.__init__", s_Copies___init__⟩) (fnC_at c 2 rfl) (List.all_eq_true.mp m2 _ (List.mem_of_getElem? (i := 2) rfl)) any gs
  have bCC : Binds K fdCC ["self", "one", "two", "members"] [] := by
    subst efCC
    exact .all fun us hl => match us, hl with | [_, _, _, _], _ => rfl
  have FCC : Gx.SupF P K mg "Copies.__init__" s_Copies___init__ (inAd K "Copies") fdCC cCC ccCC CC.C (inAd K "Ranked") := by rw [eCC, hP]; exact FCC
  have G_N_Copies := ok_Copies_init (k := 0) T CC hP FCC b0 G0
  obtain ⟨N_Copies, eACC, eBCC⟩ : ∃ N : KC K mg "Copies" CC.C ["self", "one", "two", "members"], N.f = inAd K "Copies" ∧ N.fd = fdCC := by
    rw [eCC]
    exact mk_kc (C0 := "") (He.glo_ok X G (c.d.fact 47 rfl)) (He.mkr_ok (c.d.fact 110 rfl)) bCC
  rw [← eACC, ← eBCC] at G_N_Copies
  have G_made_line := ok_made_line (tc := tc) (tb := tb) T CK CD D_made_line.F N_Kind N_Dual G_N_Kind G_N_Dual
  have G_built := ok_built T CK CD D_built.F D_made_line G_made_line
  have G_ranked := ok_ranked T CK CD D_ranked.F D_built G_built
  have G_both := ok_both T CK CD D_both.F D_ranked G_ranked
  -- the search
  have G_changed := ok_changed (P := P) (w := w) (base := base) (k := 0) T D_changed.F
  have G_follows := ok_follows (CC := CC.toCF) (CS := CS.toCF) (by decide) T D_follows.F CC_is_free CS_is_free G_CC_is_free G_CS_is_free D_changed G_changed
  have G_ends_in := ok_ends_in (CS := CS.toCF) T D_ends_in.F CS_is_free G_CS_is_free
  have G_layers_of := ok_layers_of (CC := CC.toCF) (CS := CS.toCF) (by decide) T D_layers_of B_layers_of CC_is_free G_CC_is_free D_follows G_follows
  have G_after_row := ok_after_row (P := P) (w := w) (base := base) (k := 0) T D_after_row.F
  have G_row_in := ok_row_in (CC := CC.toCF) (CS := CS.toCF) (by decide) T D_row_in.F D_layers_of G_layers_of D_ends_in G_ends_in D_follows G_follows
  have G_reached_from := ok_reached_from (CC := CC.toCF) (CS := CS.toCF) T D_reached_from B_reached_from D_layers_of G_layers_of
  have G_kept_of := ok_kept_of (CC := CC.toCF) (CS := CS.toCF) T D_kept_of.F CC_is_free CS_is_free G_CC_is_free G_CS_is_free
  have G_moved_in := ok_moved_in (CC := CC.toCF) (CS := CS.toCF) T D_moved_in.F D_kept_of G_kept_of D_row_in G_row_in D_after_row G_after_row D_reached_from G_reached_from
  have G_divided_in := ok_divided_in T CK CD CC CS D_divided_in.F D_moved_in N_Copies N_Single G_moved_in G_N_Copies G_N_Single
  have G_divided := ok_divided T CK CD D_divided.F D_both D_divided_in G_both G_divided_in
  -- the law
  have G_draw := ok_draw (P := P) (w := w) (base := base) (k := 0) T D__law_draw.F
  have G_some := ok_some T D__law_some.F D__law_draw G_draw
  have G_nested := ok_nested T D__law_draw G_draw D__law_nested 6
  have G_of_size := ok_of_size T D__law_of_size.F D__law_draw D__law_nested G_draw G_nested
  have G_two := ok_two T D__law_two.F D__law_draw D__law_of_size G_draw G_of_size
  have G_powers := ok_powers (P := P) (w := w) (base := base) (k := 0) T D__law_powers.F
  have G_code := ok_code T D__law_code.F D__law_powers G_powers
  have G_members := ok_members T D__law_members.F D__law_powers G_powers
  have G_every := ok_every T D__law_every.F D__law_powers G_powers D__law_members G_members
  have G_is := ok_is T D__law_is.F D__law_code G_code
  have G_given := ok_given (P := P) (w := w) (base := base) T D__law_given 7
  have G_forest := ok_forest (P := P) (w := w) (base := base) (k := 0) T D__law_forest.F
  have G_sums := ok_sums (P := P) (w := w) (base := base) (k := 0) T D__law_sums.F
  have G_is_free := ok_law_is_free T D__law_is_free.F D__law_forest D__law_sums D__law_given G_forest G_sums G_given
  have G_ranks := ok_ranks T D__law_ranks.F D__law_powers D__law_members G_powers G_members
  have G_made_free := ok_made_free T D__law_made_free.F D__law_powers D__law_members D__law_code D__law_ranks G_powers G_members G_code G_ranks
  have G_size := ok_law_size (P := P) (w := w) (base := base) (k := 0) T D__law_size.F
  have G_free := ok_law_free T D__law_free.F D__law_every D__law_size D__law_is_free D__law_made_free G_every G_size G_is_free G_made_free
  have G_tables := ok_tables T D__law_tables.F D__law_free D__law_size G_size G_free
  have G_table := ok_table T D__law_table.F D__law_tables D__law_ranks G_tables G_ranks
  exact ok_law (kd := 25) T (by decide) D_law.F D__law_two D__law_table D__law_some D_divided D__law_is D__law_every D__law_code G_two G_table G_some G_divided G_is G_every G_code
theorem law_at (X : K.In h) (G : h.Ns mainGlobals mg) (c : SaysY h K) : ∃ D : Def K mg "law" s_law, True := by
  obtain ⟨D⟩ := mk_def X G c "law" s_law 44 44 rfl rfl
  exact ⟨D, trivial⟩
theorem mok0 {H : Hp} (ht : ∀ p ∈ csOf K, H p.2 = some (.tbl #[])) : Mok ⟨[], [tabAt K "choices_rank", tabAt K "bounds_rank", tabAt K "layers_of", tabAt K "reached_from"]⟩ H := by
  refine ⟨fun m h => (by cases h), fun t h => ?_, .nil⟩
  have key : ∀ x, (x, none) ∈ tf → GxR.TabG H (tabAt K x) := fun x hx => ⟨#[], ht (He.cT K (x, none)) (List.mem_map_of_mem hx), by first | trivial | decide | exact fun _ h => nomatch h⟩
  have h : t = tabAt K "choices_rank" ∨ t = tabAt K "bounds_rank" ∨ t = tabAt K "layers_of" ∨ t = tabAt K "reached_from" := by simpa using h
  rcases h with rfl | rfl | rfl | rfl
  · exact key _ (by decide)
  · exact key _ (by decide)
  · exact key _ (by decide)
  · exact key _ (by decide)
theorem lawAt (w : World) {fa0 : Addr} (X : K.In h) (G : h.Ns mainGlobals mg) (c : SaysY h K) (hfa : mg "law" = some (.ref fa0)) : LamX.LawAtS PySem.Challenge.rw_bestsets_k39_whole_divided_sets w K CX0 26 63 "_law_script" mg fa0 h := by
  obtain ⟨D, _⟩ := law_at X G c
  obtain ⟨oc, od, kV, doc, pm, an, cdv, ct, osl, e, _⟩ := D.F.ex
  have ef : D.f = fa0 := by
    have := D.g.symm.trans hfa
    injection this with this
    injection this
  have mm : ∀ p ∈ csOf K, ∃ p' ∈ tf, He.cT K p' = p := fun p hp => List.mem_map.mp hp
  refine ⟨D.fd, csOf K, spLaw K (tabAt K "choices_rank") (tabAt K "bounds_rank") (tabAt K "layers_of") (tabAt K "reached_from"), fun p hp => ?_, fun p hp => ?_, fun p hp => ?_, fun s u => ?_, fun H a ns hn _ ht hS => ⟨a, ns, rfl, hS, hn, mok0 ht, fun _ => rfl⟩, fun base Xb Gb Tb => ?_⟩
  · obtain ⟨p', hp', rfl⟩ := mm p hp
    exact c.empty p' hp'
  · obtain ⟨p', hp', rfl⟩ := mm p hp
    exact c.out p' hp'
  · obtain ⟨p', hp', rfl⟩ := mm p hp
    exact PySem.W.codeHd_of_K X (c.hd p' hp')
  · rw [e]
    exact .of_eq rfl
  · rw [← ef]
    exact law_facts rfl X G c Tb D
end
end BwH
open PySem PySem.W PySem.Calls PyProof.Rows
set_option maxRecDepth 100000 in
set_option maxHeartbeats 0 in
theorem PySem.Challenge.cw_bestsets_k39_whole_divided_sets_holds : PySem.Challenge.rw_bestsets_k39_whole_divided_sets.Holds := by
  w_on; o_law
  refine HandSHeadRun.head_any (r := OpenLaw.row PySem.Challenge.rw_bestsets_k39_whole_divided_sets) (q := BwH.qv) (H := BwH.hk) (ob := BwH.ob) (M := 6000) (loose := BwH.names) (d := HandSHeadRun.topDef (OpenLaw.row PySem.Challenge.rw_bestsets_k39_whole_divided_sets).prog 63) (kwd := []) BwH.ob_eq
    (by kernel_rfl) (fun s => by kernel_rfl) BwH.run (by kernel_rfl) (by kernel_rfl) (by kernel_rfl) (by rfl) (by first | assumption | decide +kernel) (by decide +kernel) ⟨rfl, rfl, rfl, rfl, rfl, by decide +kernel⟩ ?hw ?hc
  case hw => w_witness2
  case hc =>
    refine LamX.walk_ofTsE (l := PySem.Challenge.rw_bestsets_k39_whole_divided_sets) (n := 63) (k := 26) (x := "_law_script") (CX := fun _ => L2.CX0) rfl (by decide) (by kernel_rfl) ⟨rfl, by decide, by decide⟩ ?F (fun _ _ _ _ _ z => z)
    intro w mg fa h Y G hmg0
    obtain ⟨K, KX, c⟩ := Y
    have hmg : mg ("law" : PySem.Str) = some (.ref fa) := by
      have e : (HandSHeadRun.topDef (OpenLaw.row PySem.Challenge.rw_bestsets_k39_whole_divided_sets).prog 63).name = ("law" : PySem.Str) := by kernel_rfl
      rw [← e]
      exact hmg0
    exact ⟨K, KX, BwH.lawAt w KX G c hmg⟩
