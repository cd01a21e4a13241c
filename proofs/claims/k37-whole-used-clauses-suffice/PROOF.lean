import PyProof.Rows.All
import Wide.All
import OpenK.AllK
import Wide.FinOn
import HandS.ForMost
import HandS.Deep
import HandS.Zip
import HandS.Style
import HandS.TupAny
import HandS.TupMul
import HandS.SetKeys
import HandS.Strs
import HandS.Conv
import HandS.Flow
import KE.GoesNew
import KE.GoesMore
import KE.GoesEnum
import PyProof.DictMoreH
import HandS.SetFor
import PySem.Challenge.RW_diesnon_k37_whole_used_clauses_suffice
import HandS.HeadHook1
import HandS.Head0
import HandS.Head1
import HandS.Head2
import HandS.HeadEnd
set_option Elab.async false
set_option linter.all false
set_option maxRecDepth 100000
set_option maxHeartbeats 4000000
/-! D7, part 1: literals, rings, papers, what they mean. Plain Lean. -/
namespace D7

structure Lit where
  a : Nat
  b : Nat
  c : Int
  deriving DecidableEq

abbrev Val := Nat → Int
def Lit.ok (v : Val) (l : Lit) : Prop := v l.a - v l.b ≤ l.c
def Sat (v : Val) (L : List Lit) : Prop := ∀ l ∈ L, l.ok v
def SatC (v : Val) (C : List (List Lit)) : Prop := ∀ cl ∈ C, ∃ l ∈ cl, l.ok v

/-- a way of literals from x to y -/
def Way : Nat → List Lit → Nat → Prop
  | x, [], y => x = y
  | x, l :: r, y => l.a = x ∧ Way l.b r y
def sumC (r : List Lit) : Int := (r.map Lit.c).sum
def IsRing (r : List Lit) : Prop := r ≠ [] ∧ sumC r < 0 ∧ ∃ x, Way x r x

theorem Way.snoc : ∀ {r : List Lit} {x : Nat} {l : Lit}, Way x r l.a → Way x (r ++ [l]) l.b
  | [], x, l, h => ⟨(show x = l.a from h).symm, rfl⟩
  | m :: r, x, l, h => ⟨h.1, Way.snoc h.2⟩
theorem Way.append : ∀ {r s : List Lit} {x y z : Nat}, Way x r y → Way y s z → Way x (r ++ s) z
  | [], s, x, y, z, h, h' => by
    have e : x = y := h
    subst e
    exact h'
  | m :: r, s, x, y, z, h, h' => ⟨h.1, Way.append h.2 h'⟩
theorem sumC_nil : sumC [] = 0 := rfl
theorem sumC_cons (l : Lit) (r : List Lit) : sumC (l :: r) = l.c + sumC r := by
  unfold sumC
  rw [List.map_cons, List.sum_cons]
theorem sumC_snoc (l : Lit) (r : List Lit) : sumC (r ++ [l]) = sumC r + l.c := by
  induction r with
  | nil =>
    rw [List.nil_append, sumC_cons, sumC_nil]
    omega
  | cons m r ih =>
    rw [List.cons_append, sumC_cons, sumC_cons, ih]
    omega
theorem Way.sat {v : Val} : ∀ {r : List Lit} {x y : Nat}, Way x r y → Sat v r → v x - v y ≤ sumC r
  | [], x, y, h, _ => by
    have e : x = y := h
    subst e
    rw [sumC_nil]
    omega
  | m :: r, x, y, h, s => by
    have ih := Way.sat h.2 (fun l hl => s l (List.mem_cons_of_mem _ hl))
    have hm : v m.a - v m.b ≤ m.c := s m List.mem_cons_self
    rw [sumC_cons, ← h.1]
    omega
theorem IsRing.unsat {r : List Lit} {v : Val} (h : IsRing r) (s : Sat v r) : False := by
  obtain ⟨_, h2, x, hx⟩ := h
  have := hx.sat s
  omega
/-- place by place, as the program looks at it -/
theorem Way.at : ∀ {r : List Lit} {x y : Nat}, Way x r y → ∀ i l, r[i]? = some l → (i = 0 → l.a = x) ∧ (∀ j m, i = j + 1 → r[j]? = some m → l.a = m.b) ∧ (i + 1 = r.length → l.b = y)
  | [], x, y, h, i, l, e => by simp at e
  | m :: r, x, y, h, 0, l, e => by
    have e' : m = l := by simpa using e
    subst e'
    refine ⟨fun _ => h.1, fun j _ q => by omega, fun q => ?_⟩
    have : r = [] := List.length_eq_zero_iff.mp (by simpa using q.symm)
    subst this
    exact h.2
  | m :: r, x, y, h, i + 1, l, e => by
    have ih := Way.at h.2 i l (by simpa using e)
    refine ⟨fun q => by omega, fun j m' q e' => ?_, fun q => ih.2.2 (by simpa using q)⟩
    have ej : i = j := by omega
    subst ej
    cases i with
    | zero =>
      have e2 : m = m' := by simpa using e'
      subst e2
      exact ih.1 rfl
    | succ k => exact ih.2.1 k m' rfl (by simpa using e')

/-! ### papers -/
inductive Paper where
  | ring (r : List Lit)
  | cases (k : Nat) (ps : List Paper)

/-- accepted under assumed literals -/
inductive Acc (C : List (List Lit)) : List Lit → Paper → Prop
  | ring {A : List Lit} {r : List Lit} : IsRing r → (∀ l ∈ r, [l] ∈ C ∨ l ∈ A) → Acc C A (.ring r)
  | cases {A : List Lit} {k : Nat} {ps : List Paper} {cl : List Lit} : C[k]? = some cl → ps.length = cl.length → (∀ (i : Nat) (p : Paper) (l : Lit), ps[i]? = some p → cl[i]? = some l → Acc C (A ++ [l]) p) → Acc C A (.cases k ps)

theorem Acc.mono {C : List (List Lit)} {A : List Lit} {p : Paper} (h : Acc C A p) : ∀ {B : List Lit}, (∀ l ∈ A, l ∈ B) → Acc C B p := by
  induction h with
  | ring h1 h2 => exact fun hB => .ring h1 fun l hl => (h2 l hl).imp_right (hB l)
  | cases h1 h2 _ ih =>
    refine fun {B} hB => .cases h1 h2 fun i p l e1 e2 => ih i p l e1 e2 fun m hm => ?_
    rcases List.mem_append.mp hm with q | q
    · exact List.mem_append_left _ (hB m q)
    · exact List.mem_append_right _ q

/-- the clauses that a paper uses -/
inductive Used (C : List (List Lit)) : List Lit → Paper → Nat → Prop
  | ring {A : List Lit} {r : List Lit} {l : Lit} {k : Nat} : l ∈ r → l ∉ A → C[k]? = some [l] → (∀ j, j < k → C[j]? ≠ some [l]) → Used C A (.ring r) k
  | here {A : List Lit} {k : Nat} {ps : List Paper} : Used C A (.cases k ps) k
  | there {A : List Lit} {k j : Nat} {ps : List Paper} {cl : List Lit} {i : Nat} {p : Paper} {l : Lit} : C[k]? = some cl → ps[i]? = some p → cl[i]? = some l → Used C (A ++ [l]) p j → Used C A (.cases k ps) j

theorem first_of {C : List (List Lit)} {x : List Lit} : ∀ (n : Nat), n ≤ C.length → (∃ k : Nat, k < n ∧ C[k]? = some x) → ∃ k : Nat, C[k]? = some x ∧ ∀ j : Nat, j < k → C[j]? ≠ some x := by
  intro n
  induction n with
  | zero => rintro _ ⟨k, h, _⟩; omega
  | succ n ih =>
    intro hn ⟨k, hk, e⟩
    by_cases q : ∃ k : Nat, k < n ∧ C[k]? = some x
    · exact ih (by omega) q
    · have : k = n := by
        rcases Nat.lt_or_ge k n with z | z
        · exact (q ⟨k, z, e⟩).elim
        · omega
      subst this
      exact ⟨k, e, fun j hj ej => q ⟨j, hj, ej⟩⟩
theorem first_mem {C : List (List Lit)} {x : List Lit} (h : x ∈ C) : ∃ k : Nat, C[k]? = some x ∧ ∀ j : Nat, j < k → C[j]? ≠ some x := by
  obtain ⟨k, hk⟩ := List.getElem?_of_mem h
  exact first_of C.length (Nat.le_refl _) ⟨k, (List.getElem?_eq_some_iff.mp hk).1, hk⟩

/-- the used clauses have no solution -/
theorem Acc.unsat {C : List (List Lit)} {A : List Lit} {p : Paper} (h : Acc C A p) : ∀ {v : Val}, Sat v A → (∀ k, Used C A p k → ∃ cl, C[k]? = some cl ∧ ∃ l ∈ cl, l.ok v) → False := by
  induction h with
  | @ring A r h1 h2 =>
    intro v hA hU
    refine h1.unsat (v := v) fun l hl => ?_
    by_cases hm : l ∈ A
    · exact hA l hm
    · rcases h2 l hl with q | q
      · obtain ⟨k, e, hk⟩ := first_mem q
        obtain ⟨cl, e', m, hm', ok⟩ := hU k (.ring hl hm e hk)
        rw [e] at e'
        cases e'
        rw [List.mem_singleton.mp hm'] at ok
        exact ok
      · exact (hm q).elim
  | @cases A k ps cl h1 h2 _ ih =>
    intro v hA hU
    obtain ⟨cl', e', l, hl, ok⟩ := hU k .here
    rw [h1] at e'
    cases e'
    obtain ⟨i, hi⟩ := List.getElem?_of_mem hl
    have hlt : i < ps.length := by
      have := (List.getElem?_eq_some_iff.mp hi).1
      omega
    have hp : ps[i]? = some ps[i] := by simp [hlt]
    refine ih i ps[i] l hp hi (v := v) (fun m hm => ?_) fun j hj => hU j (.there h1 hp hi hj)
    rcases List.mem_append.mp hm with q | q
    · exact hA m q
    · rw [List.mem_singleton.mp q]
      exact ok
theorem Acc.unsatC {C : List (List Lit)} {p : Paper} (h : Acc C [] p) {v : Val} (hC : SatC v C) : False := by
  refine h.unsat (v := v) (fun l hl => by cases hl) fun k hk => ?_
  have key : ∀ {A q k}, Used C A q k → Acc C A q → k < C.length := by
    intro A q k hk
    induction hk with
    | ring _ _ e _ => exact fun _ => (List.getElem?_eq_some_iff.mp e).1
    | here => intro hA; cases hA with | cases e _ _ => exact (List.getElem?_eq_some_iff.mp e).1
    | there e1 e2 e3 _ ih =>
      intro hA
      cases hA with
      | cases f1 f2 f3 =>
        rw [e1] at f1
        cases f1
        exact ih (f3 _ _ _ e2 e3)
  have lt := key hk h
  refine ⟨C[k], by simp [lt], ?_⟩
  exact hC _ (List.getElem_mem lt)

/-! ### size -/
/-- rings of at most n different literals, cases at most d deep -/
inductive Fine (n : Nat) : Nat → Paper → Prop
  | ring {d : Nat} {r : List Lit} : r.length ≤ n → r.Nodup → Fine n d (.ring r)
  | cases {d k : Nat} {ps : List Paper} : (∀ p ∈ ps, Fine n d p) → Fine n (d + 1) (.cases k ps)
theorem Fine.mono {n d : Nat} {p : Paper} (h : Fine n d p) : ∀ {e : Nat}, d ≤ e → Fine n e p := by
  induction h with
  | ring h1 h2 => exact fun _ => .ring h1 h2
  | cases _ ih =>
    intro e he
    obtain ⟨e, rfl⟩ : ∃ f, e = f + 1 := ⟨e - 1, by omega⟩
    exact .cases fun p hp => ih p hp (by omega)
mutual
def wt : Paper → Nat
  | .ring _ => 1
  | .cases _ ps => 1 + wts ps
def wts : List Paper → Nat
  | [] => 0
  | p :: ps => wt p + wts ps
end
theorem wts_append : ∀ (ps qs : List Paper), wts (ps ++ qs) = wts ps + wts qs
  | [], qs => by simp [wts]
  | p :: ps, qs => by simp [wts, wts_append ps qs, Nat.add_assoc]
theorem wt_pos : ∀ p : Paper, 1 ≤ wt p
  | .ring _ => by simp [wt]
  | .cases _ _ => by simp [wt]
theorem wts_len : ∀ ps : List Paper, ps.length ≤ wts ps
  | [] => by simp [wts]
  | p :: ps => by
    have := wts_len ps
    have := wt_pos p
    simp only [wts, List.length_cons]
    omega
def W : Nat → Nat
  | 0 => 1
  | d + 1 => 3 * W d + 1
theorem wts_le {m : Nat} : ∀ {ps : List Paper}, (∀ p ∈ ps, wt p ≤ m) → wts ps ≤ ps.length * m
  | [], _ => by simp [wts]
  | p :: ps, h => by
    have h1 := h p List.mem_cons_self
    have h2 := wts_le (m := m) (ps := ps) fun q hq => h q (List.mem_cons_of_mem _ hq)
    simp only [wts, List.length_cons, Nat.add_mul, Nat.one_mul]
    omega
theorem wt_le {C : List (List Lit)} {n : Nat} (hC : ∀ cl ∈ C, cl.length ≤ 3) {A : List Lit} {p : Paper} (h : Acc C A p) : ∀ {d : Nat}, Fine n d p → wt p ≤ W d := by
  induction h with
  | ring h1 h2 =>
    intro d _
    cases d with
    | zero => simp [wt, W]
    | succ d => simp only [wt, W]; omega
  | @cases A k ps cl h1 h2 _ ih =>
    intro d hf
    cases hf with
    | @cases d _ _ hf =>
      have hl : ps.length ≤ 3 := by rw [h2]; exact hC _ (List.mem_of_getElem? h1)
      have : wts ps ≤ ps.length * W d := wts_le fun p hp => by
        obtain ⟨i, hi⟩ := List.getElem?_of_mem hp
        have hlt : i < cl.length := by
          have := (List.getElem?_eq_some_iff.mp hi).1
          omega
        exact ih i p cl[i] hi (by simp [hlt]) (hf p hp)
      have h3 : ps.length * W d ≤ 3 * W d := Nat.mul_le_mul_right _ hl
      simp only [wt, W]
      omega

/-! ### lists without repetitions -/
theorem nodup_sub {α : Type} [DecidableEq α] : ∀ {l m : List α}, l.Nodup → (∀ x ∈ l, x ∈ m) → l.length ≤ m.length
  | [], m, _, _ => Nat.zero_le _
  | x :: l, m, h, s => by
    obtain ⟨h1, h2⟩ := List.nodup_cons.mp h
    have hx : x ∈ m := s x List.mem_cons_self
    have ih := nodup_sub (l := l) (m := m.erase x) h2 fun y hy => (List.mem_erase_of_ne (fun e : y = x => h1 (by rw [← e]; exact hy))).mpr (s y (List.mem_cons_of_mem _ hy))
    have e := List.length_erase_of_mem hx
    have hp : 0 < m.length := List.length_pos_of_mem hx
    rw [List.length_cons]
    omega
end D7
/-! D7, part 2: the search for a ring (lowering values pass by pass). Plain Lean. -/
namespace D7

def set1 {α : Type} (f : Nat → α) (i : Nat) (x : α) : Nat → α := fun j => if j = i then x else f j
theorem set1_same {α : Type} {f : Nat → α} {i : Nat} {x : α} : set1 f i x i = x := by unfold set1; rw [if_pos rfl]
theorem set1_ne {α : Type} {f : Nat → α} {i j : Nat} {x : α} (h : j ≠ i) : set1 f i x j = f j := by unfold set1; rw [if_neg h]

/-- pass i, the literals ahead of place j are looked at; low: the point that this pass lowered last -/
structure BFx (Ls : List Lit) (v : Val) (last : Nat → Option Lit) (i j : Nat) (low : Option Nat) (t : Nat → Nat) (T : Nat) (p : Nat → Nat) : Prop where
  edge : ∀ x l, last x = some l → l ∈ Ls ∧ l.a = x ∧ v l.b + l.c ≤ v x ∧ (v l.b + l.c = v x → t l.b < t x) ∧ p x ≤ p l.b + 1
  tT : ∀ x, t x ≤ T
  pl : ∀ x, 1 ≤ p x → ∃ l, last x = some l
  done : ∀ (k : Nat) l, k < j → Ls[k]? = some l → v l.b + l.c < v l.a → p l.b = i
  todo : ∀ (k : Nat) l, j ≤ k → Ls[k]? = some l → v l.b + l.c < v l.a → i ≤ p l.b + 1
  pi : ∀ x, p x ≤ i
  none : low = none → ∀ (k : Nat) l, k < j → Ls[k]? = some l → v l.a ≤ v l.b + l.c
  some : ∀ a, low = some a → p a = i
def BF (Ls : List Lit) (v : Val) (last : Nat → Option Lit) (i j : Nat) (low : Option Nat) : Prop := ∃ t T p, BFx Ls v last i j low t T p

section
variable {Ls : List Lit} {v : Val} {last : Nat → Option Lit} {i j : Nat} {low : Option Nat}
theorem BF.start : BF Ls (fun _ => 0) (fun _ => none) 1 0 none :=
  ⟨fun _ => 0, 0, fun _ => 0, ⟨fun _ _ h => (by cases h), fun _ => Nat.le_refl _, fun _ h => by omega, fun _ _ h => by omega, fun _ _ _ _ _ => by omega, fun _ => by omega, fun _ _ _ h => by omega, fun _ h => by cases h⟩⟩
theorem BF.skip {l : Lit} (h : BF Ls v last i j low) (hj : Ls[j]? = some l) (hl : ¬ v l.b + l.c < v l.a) : BF Ls v last i (j + 1) low := by
  obtain ⟨t, T, p, h⟩ := h
  refine ⟨t, T, p, h.edge, h.tT, h.pl, fun k m hk e q => ?_, fun k m hk e q => h.todo k m (by omega) e q, h.pi, fun e k m hk e' => ?_, h.some⟩
  · rcases Nat.lt_or_ge k j with z | z
    · exact h.done k m z e q
    · have : k = j := by omega
      subst this
      rw [hj] at e
      cases e
      exact (hl q).elim
  · rcases Nat.lt_or_ge k j with z | z
    · exact h.none e k m z e'
    · have : k = j := by omega
      subst this
      rw [hj] at e'
      cases e'
      omega
theorem BF.move {l : Lit} (h : BF Ls v last i j low) (hj : Ls[j]? = some l) (hl : v l.b + l.c < v l.a) : BF Ls (set1 v l.a (v l.b + l.c)) (set1 last l.a (some l)) i (j + 1) (some l.a) := by
  obtain ⟨t, T, p, h⟩ := h
  have pb : i ≤ p l.b + 1 := h.todo j l (Nat.le_refl _) hj hl
  have lm : l ∈ Ls := List.mem_of_getElem? hj
  have vle : ∀ x, set1 v l.a (v l.b + l.c) x ≤ v x := fun x => by
    by_cases e : x = l.a
    · subst e; rw [set1_same]; omega
    · rw [set1_ne e]; exact Int.le_refl _
  have ple : ∀ x, p x ≤ set1 p l.a i x := fun x => by
    by_cases e : x = l.a
    · subst e; rw [set1_same]; exact h.pi _
    · rw [set1_ne e]; exact Nat.le_refl _
  have pli : ∀ x, set1 p l.a i x ≤ i := fun x => by
    by_cases e : x = l.a
    · subst e; rw [set1_same]; exact Nat.le_refl _
    · rw [set1_ne e]; exact h.pi _
  refine ⟨set1 t l.a (T + 1), T + 1, set1 p l.a i, fun x m e => ?_, fun x => ?_, fun x hx => ?_, fun k m hk e q => ?_, fun k m hk e q => ?_, pli, fun e => (by cases e), fun a e => ?_⟩
  · by_cases ex : x = l.a
    · subst ex
      rw [set1_same] at e
      cases e
      rw [set1_same, set1_same, set1_same]
      by_cases eb : l.b = l.a
      · have hc : l.c < 0 := by rw [eb] at hl; omega
        have e1 : set1 v l.a (v l.b + l.c) l.b = v l.b + l.c := by rw [eb, set1_same]
        refine ⟨lm, rfl, by rw [e1]; omega, fun q => by rw [e1] at q; omega, ?_⟩
        have e2 : set1 p l.a i l.b = i := by rw [eb, set1_same]
        rw [e2]
        omega
      · rw [set1_ne eb, set1_ne eb, set1_ne eb]
        refine ⟨lm, rfl, Int.le_refl _, fun _ => ?_, pb⟩
        have := h.tT l.b
        omega
    · rw [set1_ne ex] at e
      obtain ⟨a1, a2, a3, a4, a5⟩ := h.edge x m e
      rw [set1_ne ex, set1_ne ex, set1_ne ex]
      refine ⟨a1, a2, ?_, fun q => ?_, ?_⟩
      · have := vle m.b
        omega
      · by_cases eb : m.b = l.a
        · rw [eb, set1_same] at q
          rw [eb] at a3
          omega
        · rw [set1_ne eb] at q ⊢
          exact a4 q
      · have := ple m.b
        omega
  · by_cases ex : x = l.a
    · subst ex; rw [set1_same]; exact Nat.le_refl _
    · rw [set1_ne ex]
      have := h.tT x
      omega
  · by_cases ex : x = l.a
    · subst ex; exact ⟨l, set1_same⟩
    · rw [set1_ne ex] at hx ⊢
      exact h.pl x hx
  · -- done
    by_cases eb : m.b = l.a
    · rw [eb, set1_same]
    · rw [set1_ne eb] at q ⊢
      have q' : v m.b + m.c < v m.a := by
        have := vle m.a
        omega
      rcases Nat.lt_or_ge k j with z | z
      · exact h.done k m z e q'
      · have : k = j := by omega
        subst this
        rw [hj] at e
        cases e
        rw [set1_same] at q
        omega
  · by_cases eb : m.b = l.a
    · rw [eb, set1_same]
      omega
    · rw [set1_ne eb] at q ⊢
      have q' : v m.b + m.c < v m.a := by
        have := vle m.a
        omega
      exact h.todo k m (by omega) e q'
  · cases e
    exact set1_same
theorem BF.next (h : BF Ls v last i Ls.length low) : BF Ls v last (i + 1) 0 none := by
  obtain ⟨t, T, p, h⟩ := h
  refine ⟨t, T, p, h.edge, h.tT, h.pl, fun _ _ z => by omega, fun k m _ e q => ?_, fun x => Nat.le_succ_of_le (h.pi x), fun _ _ _ z => by omega, fun a z => by cases z⟩
  have := h.done k m (List.getElem?_eq_some_iff.mp e).1 e q
  omega
theorem BF.sat (h : BF Ls v last i Ls.length none) : Sat v Ls := fun l hl => by
  obtain ⟨t, T, p, h⟩ := h
  obtain ⟨k, hk⟩ := List.getElem?_of_mem hl
  have := h.none rfl k l (List.getElem?_eq_some_iff.mp hk).1 hk
  show v l.a - v l.b ≤ l.c
  omega
theorem BF.edge (h : BF Ls v last i j low) {x : Nat} {l : Lit} (e : last x = some l) : l ∈ Ls ∧ l.a = x := by
  obtain ⟨t, T, p, h⟩ := h
  exact ⟨(h.edge x l e).1, (h.edge x l e).2.1⟩

/-- steps along the literals that lowered points last -/
inductive Tour (last : Nat → Option Lit) (x : Nat) : List Lit → Nat → Prop
  | nil : Tour last x [] x
  | snoc {r : List Lit} {y : Nat} {l : Lit} : Tour last x r y → last y = some l → Tour last x (r ++ [l]) l.b
def nx (last : Nat → Option Lit) (x : Nat) : Nat := match last x with
  | some l => l.b
  | none => x
def it (last : Nat → Option Lit) (x : Nat) : Nat → Nat
  | 0 => x
  | m + 1 => nx last (it last x m)
theorem nx_of {x : Nat} {l : Lit} (e : last x = some l) : nx last x = l.b := by unfold nx; rw [e]
theorem it_add (x : Nat) (k : Nat) : ∀ m, it last x (k + m) = it last (it last x k) m
  | 0 => rfl
  | m + 1 => by
    show nx last (it last x (k + m)) = nx last (it last (it last x k) m)
    rw [it_add x k m]
theorem Tour.at {x y : Nat} {r : List Lit} (h : Tour last x r y) : y = it last x r.length := by
  induction h with
  | nil => rfl
  | @snoc r y l _ e ih =>
    rw [List.length_append, List.length_singleton]
    show l.b = nx last (it last x r.length)
    rw [← ih, nx_of e]
theorem Tour.ends {x y : Nat} {r : List Lit} {l : Lit} (h : Tour last x (r ++ [l]) y) : y = l.b := by
  generalize e : r ++ [l] = s at h
  cases h with
  | nil => simp at e
  | snoc _ _ =>
    have := (List.append_inj_right' e rfl)
    cases this
    rfl
theorem Tour.way (h : BF Ls v last i j low) {x y : Nat} {r : List Lit} (w : Tour last x r y) : Way x r y ∧ (∀ l ∈ r, last l.a = some l) ∧ r.map Lit.a = (List.range r.length).map (it last x) := by
  induction w with
  | nil => exact ⟨rfl, fun l hl => (by cases hl), rfl⟩
  | @snoc r y l w e ih =>
    obtain ⟨i1, i2, i3⟩ := ih
    have ea := (h.edge e).2
    subst ea
    refine ⟨i1.snoc, fun m hm => ?_, ?_⟩
    · rcases List.mem_append.mp hm with q | q
      · exact i2 m q
      · rw [List.mem_singleton.mp q]
        exact e
    · rw [List.map_append, i3, List.length_append, List.length_singleton, List.range_succ, List.map_append, List.map_singleton, List.map_singleton, ← w.at]
/-- a closed tour is a ring -/
theorem BF.neg {x y : Nat} {t : Nat → Nat} {T : Nat} {p : Nat → Nat} (h : BFx Ls v last i j low t T p) : ∀ {r : List Lit} {x y : Nat}, Way x r y → (∀ l ∈ r, last l.a = some l) → v y + sumC r ≤ v x ∧ (r ≠ [] → v y + sumC r = v x → t y < t x)
  | [], x, y, w, _ => by
    have e : x = y := w
    subst e
    rw [sumC_nil]
    exact ⟨by omega, fun z => (z rfl).elim⟩
  | l :: r, x, y, w, s => by
    obtain ⟨e, w⟩ := w
    subst e
    obtain ⟨a1, a2⟩ := BF.neg (x := x) (y := y) h w fun m hm => s m (List.mem_cons_of_mem _ hm)
    obtain ⟨_, _, b1, b2, _⟩ := h.edge l.a l (s l List.mem_cons_self)
    rw [sumC_cons]
    refine ⟨by omega, fun _ q => ?_⟩
    have q1 : v y + sumC r = v l.b := by omega
    have q2 : v l.b + l.c = v l.a := by omega
    have z := b2 q2
    by_cases er : r = []
    · subst er
      have e : l.b = y := w
      rw [← e]
      exact z
    · have := a2 er q1
      omega
theorem nodup_range {α : Type} {f : Nat → α} : ∀ {k : Nat}, (∀ i j, i < j → j < k → f i ≠ f j) → ((List.range k).map f).Nodup
  | 0, _ => by simp
  | k + 1, h => by
    rw [List.range_succ, List.map_append, List.nodup_append]
    refine ⟨nodup_range fun i j a b => h i j a (by omega), by simp, fun a ha b hb => ?_⟩
    obtain ⟨i, hi, rfl⟩ := List.mem_map.mp ha
    have : b = f k := by simpa using hb
    rw [this]
    exact h i k (List.mem_range.mp hi) (by omega)
theorem nodup_of_map {α β : Type} {f : α → β} : ∀ {l : List α}, (l.map f).Nodup → l.Nodup
  | [], _ => List.nodup_nil
  | x :: l, h => by
    rw [List.map_cons] at h
    obtain ⟨h1, h2⟩ := List.nodup_cons.mp h
    exact List.nodup_cons.mpr ⟨fun hm => h1 (List.mem_map.mpr ⟨x, hm, rfl⟩), nodup_of_map h2⟩
/-- the first return to the start -/
theorem Tour.ring {n : Nat} (h : BF Ls v last i j low) (hn : ∀ l ∈ Ls, l.a < n) {x : Nat} {r : List Lit} (w : Tour last x r x) (hr : r ≠ []) (first : ∀ m, 0 < m → m < r.length → it last x m ≠ x) :
    IsRing r ∧ (∀ l ∈ r, l ∈ Ls) ∧ r.Nodup ∧ r.length ≤ n := by
  obtain ⟨w1, w2, w3⟩ := w.way h
  have e : it last x r.length = x := w.at.symm
  have nd : (r.map Lit.a).Nodup := by
    rw [w3]
    refine nodup_range fun i j hij hj q => first (i + (r.length - j)) (by omega) (by omega) ?_
    rw [it_add, q, ← it_add]
    have : j + (r.length - j) = r.length := by omega
    rw [this, e]
  have mem : ∀ l ∈ r, l ∈ Ls := fun l hl => (h.edge (w2 l hl)).1
  refine ⟨⟨hr, ?_, x, w1⟩, mem, nodup_of_map nd, ?_⟩
  · obtain ⟨t, T, p, hx⟩ := h
    obtain ⟨a1, a2⟩ := BF.neg (x := x) (y := x) hx w1 w2
    have a2 := a2 hr
    refine Classical.byContradiction fun z => ?_
    have := a2 (by omega)
    omega
  · have := nodup_sub nd (m := List.range n) fun y hy => by
      obtain ⟨l, hl, rfl⟩ := List.mem_map.mp hy
      exact List.mem_range.mpr (hn l (mem l hl))
    rw [List.length_map, List.length_range] at this
    exact this

/-- behind n + 1 passes the literals lead on without an end, and come round -/
theorem BF.long {n a : Nat} (h : BF Ls v last (n + 1) j (some a)) (ha : a < n) (hb : ∀ l ∈ Ls, l.b < n) : (∀ m, (∃ l, last (it last a m) = some l) ∧ it last a m < n) ∧ ∃ d, 0 < d ∧ d ≤ n ∧ it last (it last a n) d = it last a n := by
  have h0 := h
  obtain ⟨t, T, p, h⟩ := h
  have s1 : ∀ m, m ≤ n → n + 1 ≤ p (it last a m) + m ∧ it last a m < n := by
    intro m
    induction m with
    | zero =>
      intro _
      have := h.some a rfl
      exact ⟨by show n + 1 ≤ p a + 0; omega, ha⟩
    | succ m ih =>
      intro hm
      obtain ⟨q, q'⟩ := ih (by omega)
      obtain ⟨l, hl⟩ := h.pl (it last a m) (by omega)
      obtain ⟨lm, _, _, _, z⟩ := h.edge _ _ hl
      show n + 1 ≤ p (nx last (it last a m)) + (m + 1) ∧ nx last (it last a m) < n
      rw [nx_of hl]
      exact ⟨by omega, hb l lm⟩
  obtain ⟨i, j, hij, hj, e⟩ : ∃ i j, i < j ∧ j ≤ n ∧ it last a i = it last a j := by
    refine Classical.byContradiction fun q => ?_
    have nd : ((List.range (n + 1)).map (it last a)).Nodup := nodup_range fun i j hij hj e => q ⟨i, j, hij, by omega, e⟩
    have := nodup_sub nd (m := List.range n) fun y hy => by
      obtain ⟨m, hm, rfl⟩ := List.mem_map.mp hy
      exact List.mem_range.mpr (s1 m (by have := List.mem_range.mp hm; omega)).2
    rw [List.length_map, List.length_range, List.length_range] at this
    omega
  have per : ∀ m, i ≤ m → it last a (m + (j - i)) = it last a m := fun m hm => by
    have e1 : m + (j - i) = j + (m - i) := by omega
    have e2 : it last a m = it last a (i + (m - i)) := by
      have : i + (m - i) = m := by omega
      rw [this]
    rw [e1, e2, it_add, it_add, e]
  refine ⟨fun m => ?_, j - i, by omega, by omega, ?_⟩
  · induction m using Nat.strongRecOn with
    | ind m ih =>
      rcases Nat.lt_or_ge n m with z | z
      · have e3 : it last a m = it last a (m - (j - i)) := by
          have := per (m - (j - i)) (by omega)
          have e4 : m - (j - i) + (j - i) = m := by omega
          rw [e4] at this
          exact this
        rw [e3]
        exact ih (m - (j - i)) (by omega)
      · obtain ⟨q1, q2⟩ := s1 m z
        exact ⟨h.pl _ (by omega), q2⟩
  · rw [← it_add]
    exact per n (by omega)
end
end D7
/-! D7, part 3: the least sums of ways (closure), and parts of papers. Plain Lean. -/
namespace D7

abbrev Mat := Nat → Nat → Option Int
def isLess (i : Int) : Option Int → Bool
  | none => true
  | some j => decide (i < j)
structure Clo (n : Nat) (L : List Lit) (D : Mat) : Prop where
  refl : ∀ a, a < n → D a a = some 0
  tri : ∀ a b c x y, a < n → b < n → c < n → D a b = some x → D b c = some y → ∃ z, D a c = some z ∧ z ≤ x + y
  lit : ∀ l ∈ L, l.a < n ∧ l.b < n ∧ ∃ z, D l.a l.b = some z ∧ z ≤ l.c
  snd : ∀ a b x, a < n → b < n → D a b = some x → ∀ v, Sat v L → v a - v b ≤ x
/-- a row behind a new literal (a, b, c): all ways over it where that is less -/
def newD (D : Mat) (a b : Nat) (c : Int) : Mat := fun x y => match D x a with
  | none => D x y
  | some p => if isLess (p + c) (D x b) = true then (match D b y with
    | none => D x y
    | some q => if isLess (p + c + q) (D x y) = true then some (p + c + q) else D x y) else D x y
theorem isLess_some {i j : Int} : isLess i (some j) = true ↔ i < j := by simp [isLess]
section
variable {n : Nat} {L : List Lit} {D : Mat} {a b : Nat} {c : Int} {x y : Nat}
theorem newD_none (h : D x a = none) : newD D a b c x y = D x y := by unfold newD; rw [h]
theorem newD_skip {p : Int} (h : D x a = some p) (h2 : isLess (p + c) (D x b) = false) : newD D a b c x y = D x y := by
  unfold newD
  rw [h]
  show (if isLess (p + c) (D x b) = true then _ else _) = _
  rw [if_neg (by rw [h2]; decide)]
theorem newD_go {p : Int} (h : D x a = some p) (h2 : isLess (p + c) (D x b) = true) : newD D a b c x y = (match D b y with
    | none => D x y
    | some q => if isLess (p + c + q) (D x y) = true then some (p + c + q) else D x y) := by
  unfold newD
  rw [h]
  show (if isLess (p + c) (D x b) = true then _ else _) = _
  rw [if_pos h2]
theorem newD1 {z : Int} (h : newD D a b c x y = some z) : D x y = some z ∨ ∃ p q, D x a = some p ∧ D b y = some q ∧ z = p + c + q := by
  cases e : D x a with
  | none =>
    rw [newD_none e] at h
    exact .inl h
  | some p =>
    cases e2 : isLess (p + c) (D x b) with
    | false =>
      rw [newD_skip e e2] at h
      exact .inl h
    | true =>
      rw [newD_go e e2] at h
      cases e3 : D b y with
      | none =>
        rw [e3] at h
        exact .inl h
      | some q =>
        rw [e3] at h
        have h : (if isLess (p + c + q) (D x y) = true then some (p + c + q) else D x y) = some z := h
        split at h
        · cases h
          exact .inr ⟨p, q, rfl, rfl, rfl⟩
        · exact .inl h
theorem newD2 {z : Int} (h : D x y = some z) : ∃ z', newD D a b c x y = some z' ∧ z' ≤ z := by
  cases e : D x a with
  | none => exact ⟨z, by rw [newD_none e, h], Int.le_refl _⟩
  | some p =>
    cases e2 : isLess (p + c) (D x b) with
    | false => exact ⟨z, by rw [newD_skip e e2, h], Int.le_refl _⟩
    | true =>
      rw [newD_go e e2]
      cases e3 : D b y with
      | none => exact ⟨z, h, Int.le_refl _⟩
      | some q =>
        show ∃ z', (if isLess (p + c + q) (D x y) = true then some (p + c + q) else D x y) = some z' ∧ z' ≤ z
        split
        · rename_i q'
          rw [h, isLess_some] at q'
          exact ⟨_, rfl, by omega⟩
        · exact ⟨z, h, Int.le_refl _⟩
theorem newD3 (h : Clo n L D) (hx : x < n) (hb : b < n) (hy : y < n) {p q : Int} (e : D x a = some p) (e3 : D b y = some q) : ∃ z', newD D a b c x y = some z' ∧ z' ≤ p + c + q := by
  cases e2 : isLess (p + c) (D x b) with
  | false =>
    rw [newD_skip e e2]
    cases e4 : D x b with
    | none => rw [e4] at e2; simp [isLess] at e2
    | some r =>
      rw [e4] at e2
      have : ¬ p + c < r := fun z => by rw [isLess_some.mpr z] at e2; cases e2
      obtain ⟨z, hz, hle⟩ := h.tri x b y r q hx hb hy e4 e3
      exact ⟨z, hz, by omega⟩
  | true =>
    rw [newD_go e e2, e3]
    show ∃ z', (if isLess (p + c + q) (D x y) = true then some (p + c + q) else D x y) = some z' ∧ z' ≤ p + c + q
    split
    · exact ⟨_, rfl, Int.le_refl _⟩
    · rename_i q'
      cases e5 : D x y with
      | none => rw [e5] at q'; simp [isLess] at q'
      | some r =>
        rw [e5, isLess_some] at q'
        exact ⟨r, rfl, by omega⟩
theorem Clo.start : Clo n [] (fun x y => if x = y then some 0 else none) := by
  refine ⟨fun a _ => if_pos rfl, fun a b c x y _ _ _ h1 h2 => ?_, fun l hl => (by cases hl), fun a b x _ _ h v _ => ?_⟩
  · have h1 : (if a = b then some (0 : Int) else none) = some x := h1
    have h2 : (if b = c then some (0 : Int) else none) = some y := h2
    split at h1
    · rename_i e1
      split at h2
      · rename_i e2
        cases h1
        cases h2
        exact ⟨0, if_pos (e1.trans e2), by omega⟩
      · cases h2
    · cases h1
  · have h : (if a = b then some (0 : Int) else none) = some x := h
    split at h
    · rename_i e
      cases h
      rw [e]
      omega
    · cases h
theorem sat_snoc {v : Val} {l : Lit} (h : Sat v (L ++ [l])) : Sat v L ∧ l.ok v :=
  ⟨fun m hm => h m (List.mem_append_left _ hm), h l (by simp)⟩
/-- a literal that is implied -/
theorem Clo.keep (h : Clo n L D) (ha : a < n) (hb : b < n) (hc : isLess c (D a b) = false) : Clo n (L ++ [⟨a, b, c⟩]) D := by
  refine ⟨h.refl, h.tri, fun l hl => ?_, fun x y z hx hy e v hv => h.snd x y z hx hy e v (sat_snoc hv).1⟩
  rcases List.mem_append.mp hl with q | q
  · exact h.lit l q
  · rw [List.mem_singleton.mp q]
    refine ⟨ha, hb, ?_⟩
    show ∃ z, D a b = some z ∧ z ≤ c
    cases e : D a b with
    | none => rw [e] at hc; simp [isLess] at hc
    | some z =>
      rw [e] at hc
      have : ¬ c < z := fun q => by rw [isLess_some.mpr q] at hc; cases hc
      exact ⟨z, rfl, by omega⟩
theorem Clo.add (h : Clo n L D) (ha : a < n) (hb : b < n) (hr : ∀ q, D b a = some q → 0 ≤ q + c) : Clo n (L ++ [⟨a, b, c⟩]) (newD D a b c) := by
  have snd : ∀ x y z, x < n → y < n → newD D a b c x y = some z → ∀ v, Sat v (L ++ [⟨a, b, c⟩]) → v x - v y ≤ z := by
    intro x y z hx hy e v hv
    obtain ⟨h1, h2⟩ := sat_snoc hv
    have h2 : v a - v b ≤ c := h2
    rcases newD1 e with q | ⟨p, q, e1, e2, rfl⟩
    · exact h.snd x y z hx hy q v h1
    · have := h.snd x a p hx ha e1 v h1
      have := h.snd b y q hb hy e2 v h1
      omega
  refine ⟨fun x hx => ?_, fun x y w z1 z2 hx hy hw e1 e2 => ?_, fun l hl => ?_, snd⟩
  · obtain ⟨z, e, hz⟩ := newD2 (a := a) (b := b) (c := c) (h.refl x hx)
    rw [e]
    rcases newD1 e with q | ⟨p, q, e1, e2, e3⟩
    · rw [h.refl x hx] at q
      exact q.symm
    · obtain ⟨r, er, hr'⟩ := h.tri b x a q p hb hx ha e2 e1
      have := hr r er
      have : z = 0 := by omega
      rw [this]
  · rcases newD1 e1 with q1 | ⟨p1, r1, a1, a2, rfl⟩
    · rcases newD1 e2 with q2 | ⟨p2, r2, b1, b2, rfl⟩
      · obtain ⟨z, ez, hz⟩ := h.tri x y w _ _ hx hy hw q1 q2
        obtain ⟨z', ez', hz'⟩ := newD2 (a := a) (b := b) (c := c) ez
        exact ⟨z', ez', by omega⟩
      · obtain ⟨z, ez, hz⟩ := h.tri x y a _ _ hx hy ha q1 b1
        obtain ⟨z', ez', hz'⟩ := newD3 (c := c) h hx hb hw ez b2
        exact ⟨z', ez', by omega⟩
    · rcases newD1 e2 with q2 | ⟨p2, r2, b1, b2, rfl⟩
      · obtain ⟨z, ez, hz⟩ := h.tri b y w _ _ hb hy hw a2 q2
        obtain ⟨z', ez', hz'⟩ := newD3 (c := c) h hx hb hw a1 ez
        exact ⟨z', ez', by omega⟩
      · obtain ⟨z, ez, hz⟩ := h.tri b y a _ _ hb hy ha a2 b1
        have := hr z ez
        obtain ⟨z', ez', hz'⟩ := newD3 (c := c) h hx hb hw a1 b2
        exact ⟨z', ez', by omega⟩
  · rcases List.mem_append.mp hl with q | q
    · obtain ⟨q1, q2, z, ez, hz⟩ := h.lit l q
      obtain ⟨z', ez', hz'⟩ := newD2 (a := a) (b := b) (c := c) ez
      exact ⟨q1, q2, z', ez', by omega⟩
    · rw [List.mem_singleton.mp q]
      obtain ⟨z', ez', hz'⟩ := newD3 (c := c) h ha hb hb (h.refl a ha) (h.refl b hb)
      exact ⟨ha, hb, z', ez', by show z' ≤ c; omega⟩
/-- values: the least entry of each row -/
theorem Clo.low (h : Clo n L D) {f : Val} (h1 : ∀ x, x < n → ∃ y, y < n ∧ D x y = some (f x)) (h2 : ∀ x y z, x < n → y < n → D x y = some z → f x ≤ z) : Sat f L := fun l hl => by
  obtain ⟨ha, hb, z, e, hz⟩ := h.lit l hl
  obtain ⟨y, hy, ey⟩ := h1 l.b hb
  obtain ⟨z', e', hz'⟩ := h.tri l.a l.b y _ _ ha hb hy e ey
  have := h2 l.a y z' ha hy e'
  show f l.a - f l.b ≤ l.c
  omega
/-- a literal is implied, refuted -/
theorem Clo.implied (h : Clo n L D) {l : Lit} (ha : l.a < n) (hb : l.b < n) {z : Int} (e : D l.a l.b = some z) (hz : z ≤ l.c) {v : Val} (hv : Sat v L) : l.ok v := by
  have := h.snd l.a l.b z ha hb e v hv
  show v l.a - v l.b ≤ l.c
  omega
theorem Clo.refuted (h : Clo n L D) {l : Lit} (ha : l.a < n) (hb : l.b < n) {z : Int} (e : D l.b l.a = some z) (hz : z + l.c < 0) {v : Val} (hv : Sat v (L ++ [l])) : False := by
  obtain ⟨h1, h2⟩ := sat_snoc hv
  have := h.snd l.b l.a z hb ha e v h1
  have h2 : v l.a - v l.b ≤ l.c := h2
  omega
end

/-! ### parts of a paper: a paper and what it needs -/
def Good (C : List (List Lit)) (n d : Nat) (q : Paper) (nd : List Lit) : Prop := Acc C nd q ∧ Fine n d q ∧ nd.Nodup
def open_ (C : List (List Lit)) (r : List Lit) : List Lit := r.filter fun l => !decide ([l] ∈ C)
theorem mem_open {C : List (List Lit)} {r : List Lit} {l : Lit} : l ∈ open_ C r ↔ l ∈ r ∧ [l] ∉ C := by
  unfold open_
  rw [List.mem_filter]
  simp
theorem Good.ring {C : List (List Lit)} {n d : Nat} {r : List Lit} (h : IsRing r) (hl : r.length ≤ n) (hn : r.Nodup) : Good C n d (.ring r) (open_ C r) := by
  refine ⟨.ring h fun l hm => ?_, .ring hl hn, hn.filter _⟩
  by_cases q : [l] ∈ C
  · exact .inl q
  · exact .inr (mem_open.mpr ⟨hm, q⟩)
/-- what a further part adds to what cases need -/
def more (nd : List Lit) (l : Lit) (pn : List Lit) : List Lit := nd ++ pn.filter fun m => !decide (m = l) && !decide (m ∈ nd)
theorem mem_more {nd pn : List Lit} {l m : Lit} : m ∈ more nd l pn ↔ m ∈ nd ∨ (m ∈ pn ∧ m ≠ l) := by
  unfold more
  rw [List.mem_append, List.mem_filter]
  simp only [Bool.and_eq_true, Bool.not_eq_true', decide_eq_false_iff_not]
  constructor
  · rintro (h | ⟨h1, h2, _⟩)
    · exact .inl h
    · exact .inr ⟨h1, h2⟩
  · rintro (h | ⟨h1, h2⟩)
    · exact .inl h
    · by_cases q : m ∈ nd
      · exact .inl q
      · exact .inr ⟨h1, h2, q⟩
theorem nodup_more {nd pn : List Lit} {l : Lit} (h : nd.Nodup) (h' : pn.Nodup) : (more nd l pn).Nodup := by
  unfold more
  rw [List.nodup_append]
  refine ⟨h, h'.filter _, fun a ha b hb e => ?_⟩
  subst e
  have := (List.mem_filter.mp hb).2
  simp [ha] at this
/-- cases whose first parts are done -/
structure Part (C : List (List Lit)) (n d : Nat) (cl : List Lit) (ps : List Paper) (nd : List Lit) : Prop where
  len : ps.length ≤ cl.length
  ok : ∀ (i : Nat) p l, ps[i]? = some p → cl[i]? = some l → Acc C (nd ++ [l]) p ∧ Fine n d p
  nod : nd.Nodup
theorem Part.nil {C : List (List Lit)} {n d : Nat} {cl : List Lit} : Part C n d cl [] [] := ⟨Nat.zero_le _, fun i p l h => by simp at h, List.nodup_nil⟩
theorem Part.snoc {C : List (List Lit)} {n d : Nat} {cl : List Lit} {ps : List Paper} {nd : List Lit} {q : Paper} {pn : List Lit} {l : Lit} (h : Part C n d cl ps nd) (hl : cl[ps.length]? = some l) (g : Good C n d q pn) :
    Part C n d cl (ps ++ [q]) (more nd l pn) := by
  obtain ⟨g1, g2, g3⟩ := g
  have lt := (List.getElem?_eq_some_iff.mp hl).1
  refine ⟨by rw [List.length_append, List.length_singleton]; omega, fun i p m e e' => ?_, nodup_more h.nod g3⟩
  rcases Nat.lt_or_ge i ps.length with z | z
  · rw [List.getElem?_append_left z] at e
    obtain ⟨a1, a2⟩ := h.ok i p m e e'
    refine ⟨a1.mono fun x hx => ?_, a2⟩
    rcases List.mem_append.mp hx with q | q
    · exact List.mem_append_left _ (mem_more.mpr (.inl q))
    · exact List.mem_append_right _ q
  · rw [List.getElem?_append_right z] at e
    have : i - ps.length = 0 := by
      rcases Nat.eq_zero_or_pos (i - ps.length) with z' | z'
      · exact z'
      · rw [List.getElem?_eq_none (by rw [List.length_singleton]; omega)] at e
        cases e
    have ei : i = ps.length := by omega
    subst ei
    rw [hl] at e'
    cases e'
    have : q = p := by simpa using e
    subst this
    refine ⟨g1.mono fun x hx => ?_, g2⟩
    by_cases q : x = l
    · exact List.mem_append_right _ (by simp [q])
    · exact List.mem_append_left _ (mem_more.mpr (.inr ⟨hx, q⟩))
theorem Part.good {C : List (List Lit)} {n d k : Nat} {cl : List Lit} {ps : List Paper} {nd : List Lit} (h : Part C n d cl ps nd) (hk : C[k]? = some cl) (hl : ps.length = cl.length) : Good C n (d + 1) (.cases k ps) nd := by
  refine ⟨.cases hk hl fun i p l e e' => (h.ok i p l e e').1, .cases fun p hp => ?_, h.nod⟩
  obtain ⟨i, hi⟩ := List.getElem?_of_mem hp
  have lt := (List.getElem?_eq_some_iff.mp hi).1
  exact (h.ok i p cl[i] hi (by simp [← hl, lt])).2
end D7
/-! D7, representation: how literals, papers, matrices stand in the heap. -/
namespace D7
open PySem L2

/-- the values of a row stand for the things of a list -/
structure Al {α : Type} (R : V → α → Prop) (vs : List V) (xs : List α) : Prop where
  len : vs.length = xs.length
  at_ : ∀ (i : Nat) v, vs[i]? = some v → ∃ x, xs[i]? = some x ∧ R v x
section
variable {α : Type} {R R' : V → α → Prop} {vs ws : List V} {xs ys : List α}
theorem Al.nil : Al R [] [] := ⟨rfl, fun i v h => by simp at h⟩
theorem Al.back (h : Al R vs xs) {i : Nat} {x : α} (e : xs[i]? = some x) : ∃ v, vs[i]? = some v ∧ R v x := by
  have hi : i < vs.length := by
    rw [h.len]
    exact (List.getElem?_eq_some_iff.mp e).1
  obtain ⟨x', e', r⟩ := h.at_ i vs[i] (by simp [hi])
  rw [e] at e'
  cases e'
  exact ⟨_, by simp [hi], r⟩
theorem Al.mono (h : Al R vs xs) (k : ∀ v x, R v x → R' v x) : Al R' vs xs := ⟨h.len, fun i v e => let ⟨x, e', r⟩ := h.at_ i v e; ⟨x, e', k _ _ r⟩⟩
theorem Al.app (h : Al R vs xs) (g : Al R ws ys) : Al R (vs ++ ws) (xs ++ ys) := by
  refine ⟨by rw [List.length_append, List.length_append, h.len, g.len], fun i v e => ?_⟩
  by_cases q : i < vs.length
  · rw [List.getElem?_append_left q] at e
    rw [List.getElem?_append_left (by rw [← h.len]; exact q)]
    exact h.at_ i v e
  · rw [List.getElem?_append_right (by omega)] at e
    rw [List.getElem?_append_right (by rw [← h.len]; omega), ← h.len]
    exact g.at_ _ v e
theorem Al.one {v : V} {x : α} (r : R v x) : Al R [v] [x] := ⟨rfl, fun i u e => by
  cases i with
  | zero =>
    have : v = u := by simpa using e
    subst this
    exact ⟨x, rfl, r⟩
  | succ i => simp at e⟩
theorem Al.snoc {v : V} {x : α} (h : Al R vs xs) (r : R v x) : Al R (vs ++ [v]) (xs ++ [x]) := h.app (.one r)
theorem Al.take (h : Al R vs xs) (n : Nat) : Al R (vs.take n) (xs.take n) := by
  refine ⟨by rw [List.length_take, List.length_take, h.len], fun i v e => ?_⟩
  rw [List.getElem?_take] at e ⊢
  split at e
  · rename_i q
    rw [if_pos q]
    exact h.at_ i v e
  · cases e
theorem Al.rev (h : Al R vs xs) : Al R vs.reverse xs.reverse := by
  refine ⟨by rw [List.length_reverse, List.length_reverse, h.len], fun i v e => ?_⟩
  have hi : i < vs.length := by
    have := (List.getElem?_eq_some_iff.mp e).1
    rwa [List.length_reverse] at this
  rw [List.getElem?_reverse hi] at e
  rw [List.getElem?_reverse (by rw [← h.len]; exact hi), ← h.len]
  exact h.at_ _ v e
theorem Al.dropLast (h : Al R vs xs) : Al R vs.dropLast xs.dropLast := by
  rw [List.dropLast_eq_take, List.dropLast_eq_take, h.len]
  exact h.take _
end

/-- tuples stay: all that is seen of literals, clauses, papers -/
def Tups (H H' : Hp) : Prop := ∀ b xs, H b = some (.tup xs) → H' b = some (.tup xs)
theorem Tups.refl (H : Hp) : Tups H H := fun _ _ h => h
theorem Tups.trans {H H1 H2 : Hp} (a : Tups H H1) (b : Tups H1 H2) : Tups H H2 := fun c xs h => b c xs (a c xs h)
theorem Same.tups {H H' : Hp} (s : Same H H') : Tups H H' := fun b xs h => s b _ h
/-- an object that is no tuple is written -/
theorem Tups.write {H H' : Hp} {a : Addr} {o u : HO} (t : Tups H H') (h : H' a = some o) (no : ∀ xs, o ≠ .tup xs) : Tups H (upd H' a u) := fun b xs e => by
  have e' := t b xs e
  by_cases q : b = a
  · subst q
    rw [h] at e'
    exact (no xs (Option.some.inj e')).elim
  · rw [upd_ne q]
    exact e'
/-- a new object -/
theorem same_new {H : Hp} {p : Addr} {o : HO} (h : H p = none) : Same H (upd H p o) := fun b u e => by
  rw [upd_ne (ne_of_none e h)]
  exact e
/-- one that H does not know is written -/
theorem Same.mut {H H' : Hp} {p : Addr} {o : HO} (e : Same H H') (h : H p = none) : Same H (upd H' p o) := fun a u ha => by
  rw [upd_ne (ne_of_none ha h)]
  exact e a u ha

def TupAt (H : Hp) (v : V) (xs : List V) : Prop := ∃ p, v = .ref p ∧ H p = some (.tup xs)
theorem TupAt.mono {H H' : Hp} {v : V} {xs : List V} (t : Tups H H') (h : TupAt H v xs) : TupAt H' v xs := let ⟨p, e, q⟩ := h; ⟨p, e, t p xs q⟩
theorem TupAt.inj {H : Hp} {v : V} {xs ys : List V} (h : TupAt H v xs) (h' : TupAt H v ys) : xs = ys := by
  obtain ⟨p, rfl, q⟩ := h
  obtain ⟨p', e, q'⟩ := h'
  cases e
  rw [q] at q'
  cases q'
  rfl
def litV (l : Lit) : List V := [.int l.a, .int l.b, .int l.c]
def LitAt (H : Hp) (v : V) (l : Lit) : Prop := TupAt H v (litV l)
/-- a tuple of literals: a ring, a clause -/
def RowAt (H : Hp) (v : V) (r : List Lit) : Prop := ∃ vs, TupAt H v vs ∧ Al (LitAt H) vs r
theorem LitAt.mono {H H' : Hp} {v : V} {l : Lit} (t : Tups H H') (h : LitAt H v l) : LitAt H' v l := TupAt.mono t h
theorem LitsAt.mono {H H' : Hp} {vs : List V} {r : List Lit} (t : Tups H H') (h : Al (LitAt H) vs r) : Al (LitAt H') vs r := h.mono fun _ _ q => q.mono t
theorem RowAt.mono {H H' : Hp} {v : V} {r : List Lit} (t : Tups H H') (h : RowAt H v r) : RowAt H' v r := let ⟨vs, a, b⟩ := h; ⟨vs, a.mono t, LitsAt.mono t b⟩
theorem RowsAt.mono {H H' : Hp} {vs : List V} {C : List (List Lit)} (t : Tups H H') (h : Al (RowAt H) vs C) : Al (RowAt H') vs C := h.mono fun _ _ q => q.mono t
/-- a paper -/
inductive PapAt (H : Hp) : V → Paper → Prop
  | ring {v w : V} {r : List Lit} : TupAt H v [.str "ring", w] → RowAt H w r → PapAt H v (.ring r)
  | cases {v w : V} {k : Nat} {vs : List V} {ps : List Paper} : TupAt H v [.str "cases", .int k, w] → TupAt H w vs → vs.length = ps.length →
      (∀ (i : Nat) x p, vs[i]? = some x → ps[i]? = some p → PapAt H x p) → PapAt H v (.cases k ps)
theorem PapAt.mono {H H' : Hp} (t : Tups H H') {v : V} {p : Paper} (h : PapAt H v p) : PapAt H' v p := by
  induction h with
  | ring h1 h2 => exact .ring (h1.mono t) (h2.mono t)
  | cases h1 h2 h3 _ ih => exact .cases (h1.mono t) (h2.mono t) h3 ih
theorem PapsAt.mono {H H' : Hp} {vs : List V} {ps : List Paper} (t : Tups H H') (h : Al (PapAt H) vs ps) : Al (PapAt H') vs ps := h.mono fun _ _ q => q.mono t
/-- the parts of cases -/
theorem PapAt.parts {H : Hp} {vs : List V} {ps : List Paper} (h : vs.length = ps.length) (k : ∀ (i : Nat) x p, vs[i]? = some x → ps[i]? = some p → PapAt H x p) : Al (PapAt H) vs ps :=
  ⟨h, fun i v e => by
    have lt : i < ps.length := by
      have := (List.getElem?_eq_some_iff.mp e).1
      omega
    exact ⟨ps[i], by simp [lt], k i v ps[i] e (by simp [lt])⟩⟩

/-! ### deep data: literals compared -/
def litD (l : Lit) : PyData := .tuple [.int l.a, .int l.b, .int l.c]
theorem litD_eqv (l m : Lit) : PyData.eqv (litD l) (litD m) = decide (l = m) := by
  obtain ⟨a, b, c⟩ := l
  obtain ⟨a', b', c'⟩ := m
  have e : PyData.eqv (litD ⟨a, b, c⟩) (litD ⟨a', b', c'⟩) = (((a : Int) == (a' : Int)) && (((b : Int) == (b' : Int)) && ((c == c') && true))) := by simp only [litD, PyData.eqv, PyData.eqvAll]
  rw [e, Bool.eq_iff_iff]
  simp only [Bool.and_eq_true, beq_iff_eq, decide_eq_true_eq, Lit.mk.injEq, and_true]
  omega
theorem litD_depth (l : Lit) : (litD l).depth = 1 := by simp [litD, PyData.depth, PyData.depthAll]
theorem litD_lay (l : Lit) : (litD l).canLay0 = true := by simp [litD, PyData.canLay0, PyData.canLayAll0]
theorem litDs_lay : ∀ r : List Lit, PyData.canLayAll0 (r.map litD) = true
  | [] => by simp [PyData.canLayAll0]
  | l :: r => by simp [PyData.canLayAll0, litD_lay l, litDs_lay r]
theorem litDs_depth : ∀ r : List Lit, PyData.depthAll (r.map litD) ≤ 1
  | [] => by simp [PyData.depthAll]
  | l :: r => by
    have h1 := litDs_depth r
    have h2 := litD_depth l
    simp only [List.map_cons, PyData.depthAll]
    omega
theorem shaped_of {d : PyData} (h1 : d.canLay0 = true) (h2 : d.depth ≤ 64) : SeqAt.shaped d = true := by
  unfold SeqAt.shaped
  rw [h1, decide_eq_true h2]
  rfl
theorem litD_shaped (l : Lit) : SeqAt.shaped (litD l) = true := shaped_of (litD_lay l) (by rw [litD_depth]; decide)
theorem litDs_shapedL (r : List Lit) : SeqAt.shaped (.list (r.map litD)) = true := by
  refine shaped_of (by simp only [PyData.canLay0]; exact litDs_lay r) ?_
  have := litDs_depth r
  simp only [PyData.depth]
  omega
theorem litDs_shapedT (r : List Lit) : SeqAt.shaped (.tuple (r.map litD)) = true := by
  refine shaped_of (by simp only [PyData.canLay0]; exact litDs_lay r) ?_
  have := litDs_depth r
  simp only [PyData.depth]
  omega
theorem LitAt.dp {K : PySem.W.Frag} {H : Hp} {v : V} {l : Lit} (h : LitAt H v l) : Dp K H v (litD l) := by
  obtain ⟨p, rfl, q⟩ := h
  exact .tup (SqT.of q) (.cons (.int _) (.cons (.int _) (.cons (.int _) .nil)))
theorem LitsAt.dp {K : PySem.W.Frag} {H : Hp} : ∀ {vs : List V} {r : List Lit}, Al (LitAt H) vs r → DpAll K H vs (r.map litD)
  | [], r, h => by
    have : r = [] := List.length_eq_zero_iff.mp h.len.symm
    subst this
    exact .nil
  | v :: vs, [], h => by
    have := h.len
    simp at this
  | v :: vs, l :: r, h => by
    obtain ⟨x, e, hx⟩ := h.at_ 0 v rfl
    have e' : l = x := by simpa using e
    subst e'
    exact .cons hx.dp (LitsAt.dp ⟨by simpa using h.len, fun i v e => by simpa using h.at_ (i + 1) v (by simpa using e)⟩)
theorem any_litD (r : List Lit) (l : Lit) : ((r.map litD).any fun z => PyData.eqv z (litD l)) = decide (l ∈ r) := by
  rw [Bool.eq_iff_iff, List.any_eq_true, decide_eq_true_eq]
  constructor
  · rintro ⟨z, hz, e⟩
    obtain ⟨m, hm, rfl⟩ := List.mem_map.mp hz
    rw [litD_eqv, decide_eq_true_eq] at e
    rw [← e]
    exact hm
  · intro h
    exact ⟨_, List.mem_map.mpr ⟨l, h, rfl⟩, by rw [litD_eqv]; exact decide_eq_true rfl⟩
end D7
/-! D7, rules: the written part told by its letter K; list and tuple alike; what the layer lacks. -/
namespace D7
open PySem L2 PySem.Spec PyProof.Rows

/-! ### K told -/
section
variable {X : Cx} {a b e o : Expr} {ta tb te tl : TE} {pos : Pos} (K : PySem.W.Frag)
theorem ixT (h : X.K = K := by rfl) : IxR X (rIxT K) := by subst h; exact ix_tup
theorem ixL (h : X.K = K := by rfl) : IxR X (rIxL K) := by subst h; exact ix_list
def rLen1 : List V → Hp → VK → Prop := fun xs H Q => ∃ p ys, xs = [.ref p] ∧ (SqL K H p ys ∨ SqT K H p ys) ∧ Q (.int ys.length) H
theorem cLen (h : X.K = K := by rfl) : CallR X (.builtin "len") (rLen1 K) := by subst h; exact call_len_seq
theorem cSum (hc : X.calm = true := by rfl) (h : X.K = K := by rfl) : CallR X (.builtin "sum") (rSum K) := by subst h; exact cr_sum hc
theorem cAll (hc : X.calm = true := by rfl) (h : X.K = K := by rfl) : CallR X (.builtin "all") (rAll K) := by subst h; exact cr_all hc
theorem cAny (hc : X.calm = true := by rfl) (h : X.K = K := by rfl) : CallR X (.builtin "any") (rAny K) := by subst h; exact cr_any hc
theorem cMin (hc : X.calm = true := by rfl) (h : X.K = K := by rfl) : CallR X (.builtin "min") (rMin K) := by subst h; exact cr_min hc
def rList1 : List V → Hp → VK → Prop := fun xs H Q => ∃ p ys, xs = [.ref p] ∧ (SqL K H p ys ∨ SqT K H p ys) ∧ ∀ l, H l = none → Q (.ref l) (upd H l (.lst ys))
theorem cList (h : X.K = K := by rfl) : CallR X (.type "list") (rList1 K) := by subst h; exact call_list_of
def rTuple1 : List V → Hp → VK → Prop := fun xs H Q => ∃ p ys, xs = [.ref p] ∧ SqL K H p ys ∧ ∀ l, H l = none → Q (.ref l) (upd H l (.tup ys))
theorem cTuple (h : X.K = K := by rfl) : CallR X (.type "tuple") (rTuple1 K) := by
  subst h
  intro pins s σ H xs us Q I r q
  obtain ⟨p, ys, e, hs, k⟩ := q
  exact call_tuple_of pins s σ H xs us Q I r ⟨p, ys, e, .inl ⟨hs, k⟩⟩
theorem catT (h : X.K = K := by rfl) : OpR X (binaryOp .Add) (rCatA K) := by subst h; exact op_catA
theorem eqD (hu : X.A.units + 64 < cLine) (h : X.K = K := by rfl) : OpR X (compareOp .Eq) (rEqD K) := by subst h; exact op_eqD hu
theorem neD (hu : X.A.units + 64 < cLine) (h : X.K = K := by rfl) : OpR X (compareOp .NotEq) (rNeD K) := by subst h; exact op_neD hu
theorem inL (hu : X.A.units + 65 < cLine) (h : X.K = K := by rfl) : OpR X (compareOp .In) (rInD K) := by subst h; exact op_inD hu
theorem notInL (hu : X.A.units + 65 < cLine) (h : X.K = K := by rfl) : OpR X (compareOp .NotIn) (rNotInD K) := by subst h; exact op_notInD hu
theorem fld {f : Str} (he : PE X e te) (h : X.K = K := by rfl) (hb : attributeBase e f X.env (eval e X.env) = eval e X.env := by rfl) : PE X (.Attribute e f pos) (tFld K te f) := by subst h; exact pe_fld he hb
theorem piL {tg l : Expr} (hl : PE X l tl) (h : X.K = K := by rfl) : PI X tg l (iList K tl) := by subst h; exact pi_list hl
theorem piT {tg l : Expr} (hl : PE X l tl) (h : X.K = K := by rfl) : PI X tg l (iTup K tl) := by subst h; exact pi_tup hl
theorem pgT {es : List Expr} {k : Nat} {t : TGs} (n : Nat) (hp : PGs X es t) (hc : X.calm = true := by rfl) (h : X.K = K := by rfl)
    (hn : (assignEach es X.env).length = n := by rfl) (hst : (assignEach es X.env).findIdx? (·.1) = none := by rfl) : PG X (.Tuple es k pos) (gTup K n t) := by subst h; exact pg_tup hc hp hn hst
theorem piE {ta : TA} {p tpos : Pos} {elts : List Expr} {kk : Nat} (hg : Gl X "enumerate") (hm : X.mg "enumerate" = none) (ha : PA X [e] ta) (h : X.K = K := by rfl) (hs : starEach [e] X.env = [(false, eval e X.env)] := by rfl) :
    PI X (.Tuple elts kk tpos) (.Call (.Name "enumerate" p) [e] [] pos) (iEnum K ta) := by subst h; exact pi_enum hg hm ha hs
/-- either of two ways to walk -/
theorem PI.or {tg it : Expr} {u w : TI} (h1 : PI X tg it u) (h2 : PI X tg it w) : PI X tg it (fun σ H R => u σ H R ∨ w σ H R) := ⟨fun pins s σ H R I h => by
  rcases h with h | h
  · exact h1.run pins s σ H R I h
  · exact h2.run pins s σ H R I h⟩
/-- a tuple of literals holds one -/
def rInT : R2 := fun x y H Q => ∃ d ds, Dp K H x d ∧ Dp K H y (.tuple ds) ∧ SeqAt.shaped d = true ∧ SeqAt.shaped (.tuple ds) = true ∧ Q (.bl (ds.any fun z => PyData.eqv z d)) H
def rNotInT : R2 := fun x y H Q => ∃ d ds, Dp K H x d ∧ Dp K H y (.tuple ds) ∧ SeqAt.shaped d = true ∧ SeqAt.shaped (.tuple ds) = true ∧ Q (.bl (!ds.any fun z => PyData.eqv z d)) H
end

/-! ### x in t, t a tuple of data -/
theorem room65 {k : Nat} {A : Around} (r : Room k A) : A.units + 65 < cLine := by
  have := r.un
  omega
section
variable {X : Cx} (K : PySem.W.Frag)
theorem inT (hu : X.A.units + 65 < cLine) (h : X.K = K := by rfl) : OpR X (compareOp .In) (rInT K) := by
  subst h
  intro pins s σ H x y v u Q I rx ry q
  obtain ⟨d, ds, hd, he, sd, se, k⟩ := q
  obtain ⟨_, r1⟩ := Dp.reads I d x v hd rx
  obtain ⟨_, r2⟩ := Dp.reads I (.tuple ds) y u he ry
  exact SeqAt.in_tuple_reads r2 r1 (SeqAt.canLay_of_shaped se) (SeqAt.canLay_of_shaped sd) (room_in_shaped sd hu) ⟨.bl _, H, I, rfl, k⟩
theorem notInT (hu : X.A.units + 65 < cLine) (h : X.K = K := by rfl) : OpR X (compareOp .NotIn) (rNotInT K) := by
  subst h
  intro pins s σ H x y v u Q I rx ry q
  obtain ⟨d, ds, hd, he, sd, se, k⟩ := q
  obtain ⟨_, r1⟩ := Dp.reads I d x v hd rx
  obtain ⟨_, r2⟩ := Dp.reads I (.tuple ds) y u he ry
  exact SeqAt.notIn_tuple_reads r2 r1 (SeqAt.canLay_of_shaped se) (SeqAt.canLay_of_shaped sd) (room_in_shaped sd hu) ⟨.bl _, H, I, rfl, k⟩
end

/-! ### xs.extend(t), t a tuple -/
theorem extendT_meets (l : Addr) (its : Array Value) (n : Nat) (b : Addr) (ys : Array Value) (m : Nat) (dd : Option Addr) (sl : Array (Option Value)) (h0 : ¬(!its.isEmpty && Builtin.List.listTooLong (its.size + ys.size)) = true) (h1 : its.size ≤ sizeLine) (h2 : its.size + ys.size ≤ sizeLine + 1) :
    Meets (Builtin.«list.extend» ⟨[.ref l, .ref b], []⟩) (fun _ R s => s.heap.get? l = some { cls := .type "list", dict := none, data := .seq its n, slots := #[] } ∧ s.heap.get? b = some { cls := .type "tuple", dict := dd, data := .seq ys m, slots := sl } ∧
      R (.ok (.ret Value.none)) { s with heap := s.heap.update l (Obj.mapSeq fun z => z ++ ys), toks := s.toks }) := by
  refine .of_wp fun pr w A R s h => ?_
  obtain ⟨hp, g, d, tk, os⟩ := s
  obtain ⟨hl, hb, k⟩ := h
  have f1 := AutoSeq1.idx_int
  have f2 := AutoSeq1.sub_tuple_tuple
  have f3 := AutoSeq1.sub_list_list
  have f4 := AutoSeq1.sub_tuple_list
  have f5 := AutoSeq1.sub_list_tuple
  have hz : (its ++ ys).size ≤ sizeLine + 1 := by
    rw [Array.size_append]
    exact h2
  wp_walk using (wpAny_updateSeq hl rfl (hz := h1) (_hz' := hz)), AutoSeq1.wpAny_loadPart' hl, AutoSeq1.wpAny_loadPart' hb
  exact ⟨_, rfl, k⟩
def rExtendT : V → List V → Hp → VK → Prop := fun x vs H Q => ∃ l b xs zs, x = .ref l ∧ vs = [.ref b] ∧ H l = some (.lst xs) ∧ H b = some (.tup zs) ∧ xs.length + zs.length ≤ sizeLine ∧ Q .non (upd H l (.lst (xs ++ zs)))
theorem mt_extendT {X : Cx} : MtR X "list.extend" rExtendT := by
  intro pins s σ H x vs v us Q I rx rv q
  obtain ⟨l, b, xs, zs, rfl, rfl, hl, hb, hz, k⟩ := q
  cases rx
  obtain ⟨u, rfl, ru⟩ := rv.one
  cases ru
  obtain ⟨_, its, n, r, el, e⟩ := I.lstM hl
  obtain ⟨its2, r2, ⟨⟨cls, dd, data, sl⟩, e2, hc, m, hd⟩, _⟩ := I.tuple (SqT.of hb)
  simp only at hc hd
  subst hc hd
  have el2 := r2.length
  have sz : its.toArray.size + its2.toArray.size ≤ sizeLine := by
    rw [List.size_toArray, List.size_toArray]
    omega
  have nl : ¬ (!its.toArray.isEmpty && Builtin.List.listTooLong (its.toArray.size + its2.toArray.size)) = true := by
    rw [notLongL sz, Bool.and_false]
    decide
  refine call_meets PySem.F.slot_list_extend ⟨_, e, rfl⟩ PySem.F.entry_list_extend (PySem.F.args_list_extend_2 _ _) (extendT_meets l its.toArray n b its2.toArray m dd sl nl (by rw [List.size_toArray]; omega) (by omega)) ⟨e, e2, ?_⟩
  exact ⟨.non, _, I.lset (its' := its ++ its2) hl e (by simp) (r.append r2) (by rw [List.length_append]; omega), rfl, k⟩

/-! ### d.setdefault(k, x), the keys tuples -/
def rSetdT : V → List V → Hp → VK → Prop := fun x vs H Q => ∃ a b z kvs ks, x = .ref a ∧ vs = [.ref b, z] ∧ H a = some (.dT kvs) ∧ H b = some (.tup (ks.map kV)) ∧ kvs.length < sizeLine ∧
  (∀ y, valV kvs ks = some y → Q y H) ∧ (valV kvs ks = none → Q z (upd H a (.dT (putK kvs ks z))))
theorem mt_setdT {X : Cx} (hu : X.A.units + 1 < cLine) : MtR X "dict.setdefault" rSetdT := by
  intro pins s σ H x vs v us Q I rx rv q
  obtain ⟨a, b, z, kvs, ks, rfl, rfl, ha, hb, hl, k1, k2⟩ := q
  cases rx
  obtain ⟨u, u2, rfl, ru, rz⟩ := rv.two
  cases ru
  obtain ⟨hz, hd, xs, rel, dd⟩ := dt_of I.hok ha
  have ex : xs.length ≤ sizeLine := by
    rw [← Paired.length rel]
    exact hz
  refine call_setdefault_heap (tupleKind_room_in1 hu) (key_of I.hok hb) hd dd (fun p hp => ?_) (fun hn h' dd' hs => ?_) ex
  · have rl := rel.val ks
    rw [hp] at rl
    cases e : valV kvs ks with
    | none =>
      rw [e] at rl
      exact (show False from rl).elim
    | some y =>
      rw [e] at rl
      exact ⟨y, H, I.tok _, rl, k1 y e⟩
  · have rl := rel.val ks
    rw [hn] at rl
    cases e : valV kvs ks with
    | some y =>
      rw [e] at rl
      exact (show False from rl).elim
    | none =>
      have len := length_putK kvs ks z
      obtain ⟨o, es, ep, ho, d1, d2, d3, _, d5⟩ := dd'
      refine ⟨z, upd H a (.dT (putK kvs ks z)), d_write (ob := .dT (putK kvs ks z)) I (by rw [ha]; exact True.intro) hs ⟨o, ho⟩ ⟨by omega, hd, _, (rel.put ks hb rz).keeps fun c ys ec => ?_, o, es, ep, ho, d1, d2, d3, d5⟩, rz, k2 e⟩
      rw [upd_ne (ne_of ec ha (fun z => nomatch z))]
      exact ec

/-! ### t[::-1], t a tuple -/
theorem fm_congr {α β : Type} {f g : α → Option β} : ∀ {l : List α}, (∀ x ∈ l, f x = g x) → l.filterMap f = l.filterMap g
  | [], _ => rfl
  | x :: l, h => by
    rw [List.filterMap_cons, List.filterMap_cons, h x List.mem_cons_self, fm_congr fun y hy => h y (List.mem_cons_of_mem _ hy)]
theorem back_pick (xs : Array Value) : ((List.range xs.size).filterMap fun (m : Nat) => xs[(((xs.size : Int) - 1) + (m : Int) * (-1)).toNat]?).toArray = xs.toList.reverse.toArray := by
  congr 1
  have e : ∀ m ∈ List.range xs.size, xs[(((xs.size : Int) - 1) + (m : Int) * (-1)).toNat]? = xs.toList.reverse[m]? := by
    intro m hm
    have lt := List.mem_range.mp hm
    rw [List.getElem?_reverse (by rw [Array.length_toList]; exact lt), Array.length_toList, Array.getElem?_toList]
    congr 1
    omega
  rw [fm_congr e]
  have g : ∀ ys : List Value, (List.range ys.length).filterMap (fun m => ys[m]?) = ys := by
    intro ys
    induction ys with
    | nil => rfl
    | cons y ys ih =>
      rw [List.length_cons, List.range_succ_eq_map, List.filterMap_cons]
      show y :: _ = _
      rw [List.filterMap_map]
      exact congrArg (y :: ·) ih
  have gl := g xs.toList.reverse
  rw [List.length_reverse, Array.length_toList] at gl
  exact gl
theorem back_applied {pr : Program} {w : World} {A : Around} {E : Value → Shared → Prop} {s : Shared} {sl : Addr} {v1 v2 v3 : Value} {n : Nat} {Q : Int × Int × Nat → Shared → Prop} (hs : s.heap.IsSliceOf sl v1 v2 v3) (p1 : IsPart v1 none) (p2 : IsPart v2 none) (p3 : IsPart v3 (some (-1)))
    (k : Q ((n : Int) - 1, -1, n) s) : wpAny (model pr w) A (Builtin.Slice.sliceApplied (.ref sl) (pure (n : Int))) Q E s := by
  obtain ⟨o, ho, _, hd⟩ := id hs
  unfold Builtin.Slice.sliceApplied Builtin.Slice.sliceFields
  refine wpAny_bind (wpAny_bind (wpAny_field ho hd (x := v1) rfl ?_))
  refine wpAny_bind (wpAny_field ho hd (x := v2) rfl (wpAny_bind (wpAny_field ho hd (x := v3) rfl (wpAny_pure ?_))))
  refine wpAny_bind (HT.slicePart_ p3 ?_)
  show wpAny (model pr w) A (if ((-1 : Int) == 0) = true then _ else _) Q E s
  rw [if_neg (by decide)]
  refine wpAny_bind (HT.slicePart_ p1 (wpAny_bind (HT.slicePart_ p2 (wpAny_bind (wpAny_pure ?_)))))
  have e : Builtin.Slice.slicePlaces ((n : Int) - 1) (-1) (-1) = n := by
    unfold Builtin.Slice.slicePlaces
    rw [if_neg (by decide)]
    by_cases h : (n : Int) - 1 > -1
    · rw [if_pos h]
      have : ((n : Int) - 1 - -1 - 1) / (- -1) + 1 = (n : Int) := by
        rw [show (- -1 : Int) = 1 by decide, Int.ediv_one]
        omega
      rw [this]
      exact Int.toNat_natCast n
    · rw [if_neg h]
      omega
  have k' : Q ((n : Int) - 1, -1, Builtin.Slice.slicePlaces ((n : Int) - 1) (-1) (-1)) s := by
    rw [e]
    exact k
  exact wpAny_pure k'
theorem getItem_back {pr : Program} {w : World} {A : Around} {E : Value → Shared → Prop} {s : Shared} {t sl : Addr} {its : Array Value} {v1 v2 v3 : Value} {Q : Value → Shared → Prop} (ht : IsTup s.heap t its) (hs : s.heap.IsSliceOf sl v1 v2 v3) (p1 : IsPart v1 none) (p2 : IsPart v2 none) (p3 : IsPart v3 (some (-1)))
    (hz : its.size ≤ sizeLine) (k : Q (.ref s.heap.objs.size) { s with heap := s.heap.push { cls := .type "tuple", data := .seq its.toList.reverse.toArray } }) : wpAny (model pr w) A (getItem (.ref t) (.ref sl)) Q E s := by
  obtain ⟨o, ho, hc, hd⟩ := id hs
  have ty : s.TypeIs (.ref sl) "slice" := ⟨o, ho, hc⟩
  have ok : sizeOk (.seq its.toList.reverse.toArray) := by
    show its.toList.reverse.toArray.size ≤ sizeLine
    rw [List.size_toArray, List.length_reverse, Array.length_toList]
    exact hz
  unfold getItem
  try with_reducible refine wpAny_holding ?_
  first
    | refine wpAny_bind (wpAny_pure ?_)
    | skip
  refine wpAny_bind (wpAny_sequenceKey ht.typeIs (by decide) ?_)
  refine wpAny_bind (wpAny_callSpecial?_slot (name := Str.ofString "__getitem__") ht.typeIs PyProof.Rows.slot_tuple_getitem (wpAny_call_entry PyProof.Rows.slot_tuple_getitem ht.typeIs entry_tuple_getitem ?_ (args_tuple_getitem _ _)))
  show wpAny (model pr w) _ (Builtin.Tuple.tupleItemsOf (.ref t) >>= _) _ _ s
  refine wpAny_bind (tupleItemsOf_ ht (wpAny_bind (wpAny_typeOf ty ?_)))
  rw [if_pos (by decide)]
  refine wpAny_bind (back_applied hs p1 p2 p3 ?_)
  show wpAny (model pr w) _ (if ((its.size : Int) - 1 == 0 && (-1 : Int) == 1 && its.size == its.size) = true then _ else _) _ _ s
  have no : ((its.size : Int) - 1 == 0 && (-1 : Int) == 1 && its.size == its.size) = false := by
    have : ((-1 : Int) == 1) = false := by decide
    rw [this, Bool.and_false, Bool.false_and]
  rw [no, if_neg Bool.false_ne_true, back_pick]
  first
    | exact wpAny_bind (m := Builtin.Tuple.tupleExact _) (wpAny_newObj_type (wpAny_pure ⟨_, rfl, wpAny_pure k⟩) ok)
    | exact wpAny_bind (wpAny_bind (m := Builtin.Tuple.tupleExact _) (wpAny_newObj_type (wpAny_pure (wpAny_pure ⟨_, rfl, wpAny_pure k⟩)) ok))
    | exact wpAny_bind (wpAny_bind (m := Builtin.Tuple.tupleExact _) (wpAny_newObj_type (wpAny_pure ⟨_, rfl, wpAny_pure k⟩) ok))
    | exact wpAny_bind (m := Builtin.Tuple.tupleExact _) (wpAny_newObj_type (wpAny_bind (wpAny_pure (wpAny_pure ⟨_, rfl, wpAny_pure k⟩))) ok)
def tRevT (te : TE) : TE := fun σ H Q => te σ H fun x H1 => ∃ a xs, x = .ref a ∧ H1 a = some (.tup xs) ∧ ∀ p, H1 p = none → Q (.ref p) (upd H1 p (.tup xs.reverse))
theorem revT {X : Cx} {e : Expr} {te : TE} {k : Nat} {p1 p2 p3 pos : Pos} (he : PE X e te) : PE X (.Subscript e (.Slice none none (some (.UnaryOp .USub (.Constant (.int 1) k p1) p2)) p3) pos) (tRevT te) := by
  refine ⟨fun pins s σ H Q I h => ?_⟩
  refine Subscript_ (thn (he.run pins s σ H _ I h) fun v s1 ⟨x, H1, I1, r1, a, xs, ex, hx, q⟩ => ?_)
  subst ex
  cases r1
  have step : PO X (some (.UnaryOp .USub (.Constant (.int 1) k p1) p2)) (tPart (tUn (rU fun i => .int (-i)) (tC (.int 1)))) := po_some (pe_un un_neg pe_int)
  refine wpAny_Slice (thn (po_none.run pins s1 σ H1 (fun o H2 => o = none ∧ H2 = H1) I1 ⟨rfl, rfl⟩) fun w1 s2 ⟨o1, H2, I2, q1, e1, e2⟩ => ?_)
  subst e1 e2
  refine thn (po_none.run pins s2 σ H2 (fun o H3 => o = none ∧ H3 = H2) I2 ⟨rfl, rfl⟩) fun w2 s3 ⟨o2, H3, I3, q2, e1, e2⟩ => ?_
  subst e1 e2
  refine thn (step.run pins s3 σ H3 (fun o H4 => o = some (-1) ∧ H4 = H3) I3 ⟨1, rfl, -1, rfl, rfl, rfl⟩) fun w3 s4 ⟨o3, H4, I4, q3, e1, e2⟩ => ?_
  subst e1 e2
  have I5 : Inv X pins σ H4 { s4 with heap := s4.heap.push { cls := .type "slice", data := .fields #[w1, w2, w3] } } := I4.kept (t' := s4.toks) fun b ob z => Heap.get?_push_of_some _ z
  obtain ⟨its, r, ht, hz⟩ := I5.tuple (SqT.of hx)
  have len := r.length
  show wpAny (model X.prog X.w) X.A (subscriptTail e (.Slice none none (some (.UnaryOp .USub (.Constant (.int 1) k p1) p2)) p3) (.ref a) (.ref s4.heap.objs.size)) (EP X pins σ Q) X.xe { s4 with heap := s4.heap.push { cls := .type "slice", data := .fields #[w1, w2, w3] } }
  refine tail_any (ops := [.ref a, .ref s4.heap.objs.size]) ht.typeIs (PyProof.Rows.slot_tuple_getitem.lookup) ?_ (by with_unfolding_all rfl)
  refine getItem_back ht (Heap.IsSliceOf.new _ w1 w2 w3) q1 q2 q3 (by rw [List.size_toArray]; omega) ?_
  refine ⟨.ref _, _, I5.laid (t' := s4.toks) (o := .tup xs.reverse) (fun b ob z => Heap.get?_push_of_some _ z) (Nat.le_refl _) ⟨by rw [List.length_reverse]; exact hz, _, r.reverse, ⟨_, Heap.get?_push_size _ rfl, rfl, 0, rfl⟩⟩, rfl, q _ (I5.hok.fresh (Nat.le_refl _))⟩
end D7
/-! D7, rules: t * 0, t * 1; zip and enumerate over lists and tuples; set of a long list. -/
namespace D7
open PySem L2 PySem.Spec PyProof.Rows

/-! ### t * k, k 0 or 1 -/
theorem mulT_one (l : Addr) (its : Array Value) (n : Nat) (dd : Option Addr) (sl : Array (Option Value)) (u : Tok) :
    Meets (Builtin.«tuple.__mul__» ⟨[.ref l, .int 1 u], []⟩) (fun _ R s => s.heap.get? l = some { cls := .type "tuple", dict := dd, data := .seq its n, slots := sl } ∧ R (.ok (.ret (Value.ref l))) s) := by
  refine .of_wp fun pr w A R s h => ?_
  obtain ⟨hp, g, d, tk, os⟩ := s
  obtain ⟨hl, k⟩ := h
  have f1 := AutoSeq1.idx_int
  have c1 : (its.isEmpty || (1 : Int) == 1) = true := by simp
  wp_walk using AutoSeq1.wpAny_loadPart' hl
  repeat (first
    | (refine wpAny_ite_true (decide_eq_true c1) ?_; wp_walk using AutoSeq1.wpAny_loadPart' hl))
  exact ⟨_, rfl, k⟩
theorem mulT_zero (l : Addr) (its : Array Value) (n : Nat) (dd : Option Addr) (sl : Array (Option Value)) (u : Tok) (ne : its.isEmpty = false) :
    Meets (Builtin.«tuple.__mul__» ⟨[.ref l, .int 0 u], []⟩) (fun _ R s => s.heap.get? l = some { cls := .type "tuple", dict := dd, data := .seq its n, slots := sl } ∧
      R (.ok (.ret (Value.ref s.heap.objs.size))) { s with heap := s.heap.push { cls := Value.type "tuple", data := Data.seq #[] }, toks := s.toks }) := by
  refine .of_wp fun pr w A R s h => ?_
  obtain ⟨hp, g, d, tk, os⟩ := s
  obtain ⟨hl, k⟩ := h
  have f1 := AutoSeq1.idx_int
  have c1 : (its.isEmpty || (0 : Int) == 1) = false := by rw [ne]; rfl
  wp_walk using AutoSeq1.wpAny_loadPart' hl
  repeat (first
    | (refine wpAny_ite_false (decide_eq_false (by rw [c1]; exact Bool.false_ne_true)) ?_; wp_walk using AutoSeq1.wpAny_loadPart' hl))
  exact ⟨_, rfl, k⟩
/-- a tuple of at least one item, times 0 or 1 -/
def rMulT : R2 := fun x y H Q => ∃ l k xs, x = .ref l ∧ y = .int k ∧ H l = some (.tup xs) ∧ xs ≠ [] ∧ (k = 0 ∨ k = 1) ∧ (k = 1 → Q (.ref l) H) ∧ (k = 0 → ∀ p, H p = none → Q (.ref p) (upd H p (.tup [])))
theorem mulT {X : Cx} : OpR X (binaryOp .Mult) rMulT := by
  intro pins s σ H x y v u Q I rx ry h
  obtain ⟨l, k, xs, rfl, rfl, hT, hne, hk, q1, q0⟩ := h
  cases rx
  obtain ⟨t, rfl⟩ := ry
  obtain ⟨its, r, ⟨⟨cls, dd, data, sl⟩, ho, hc, n, hd⟩, hs⟩ := I.tuple (SqT.of hT)
  simp only at hc hd
  subst hc hd
  have ne : its.toArray.isEmpty = false := by
    cases its with
    | nil =>
      cases r
      exact (hne rfl).elim
    | cons a b => rfl
  refine wpAny_binaryOp_repeat_ref (T := "tuple") (U := "int") (by decide) ⟨_, ho, rfl⟩ (fun s' => typeIs_int s' k t) noFill_tuple_mul F.fills_int_mul F.slot_int_rmul repeat_tuple F.slot_int_index.lookup
    (call_meets F.slot_int_rmul (typeIs_int s k t) F.entry_int_rmul (F.args_int_rmul_2 _ _) (int_rmul_tuple k t l its.toArray n dd sl) ⟨ho, rfl, ⟨_, ho, rfl⟩, ?_⟩)
  rcases hk with rfl | rfl
  · refine call_meets F.slot_tuple_mul ⟨_, ho, rfl⟩ F.entry_tuple_mul (F.args_tuple_mul_2 _ _) (mulT_zero l its.toArray n dd sl t ne) ⟨ho, ?_⟩
    refine ⟨.ref s.heap.objs.size, _, I.laid (t' := s.toks) (o := .tup []) (fun b ob q => Heap.get?_push_of_some _ q) (Nat.le_refl _) ?_, rfl, q0 rfl _ (I.hok.fresh (Nat.le_refl _))⟩
    exact ⟨Nat.zero_le _, [], .nil, ⟨_, Heap.get?_push_size _ rfl, rfl, 0, rfl⟩⟩
  · exact call_meets F.slot_tuple_mul ⟨_, ho, rfl⟩ F.entry_tuple_mul (F.args_tuple_mul_2 _ _) (mulT_one l its.toArray n dd sl t) ⟨ho, .ref l, H, I, rfl, q1 rfl⟩

/-! ### a list or a tuple, told by k: true a tuple -/
def SqK (k : Bool) (K : PySem.W.Frag) (H : Hp) (a : Addr) (xs : List V) : Prop := match k with
  | true => SqT K H a xs
  | false => SqL K H a xs
def itrK (k : Bool) (h : Heap) (it a : Addr) (i : Nat) : Prop := match k with
  | true => h.IsTupleIter it a i
  | false => h.IsListIter it a i
def seqK (k : Bool) (h : Heap) (a : Addr) (its : Array Value) : Prop := match k with
  | true => h.IsTuple a its
  | false => h.IsList a its
def begK (k : Bool) (a : Addr) : Obj := match k with
  | true => { cls := .type "tuple_iterator", data := .fields #[.ref a, .int 0 0] }
  | false => { cls := .type "list_iterator", data := .fields #[.ref a, .int 0 0] }
theorem drawsK {pr : Program} {w : World} {A : Around} (k : Bool) (hh : A.handled = none) (it a : Addr) (ne : a ≠ it) (its : Array Value) : Draws pr w A it [it, a] its.size (fun i v => its[i]? = some v) (fun i h => itrK k h it a i ∧ seqK k h a its) := by
  cases k with
  | true => exact Draws.tuple hh it a ne its
  | false => exact Draws.list hh it a ne its
theorem beginsK (k : Bool) (a : Addr) (its : Array Value) : Begins (.ref a) (begK k a) (fun h => seqK k h a its) := by
  cases k with
  | true => exact begins_tuple a its
  | false => exact begins_list a its
theorem itrK_start {k : Bool} {h : Heap} {it a : Addr} (e : h.get? it = some (begK k a)) : itrK k h it a 0 := by
  cases k with
  | true => exact ⟨_, e, rfl, rfl⟩
  | false => exact ⟨_, e, rfl, rfl⟩
theorem itrK_at {k : Bool} {h h' : Heap} {it a : Addr} {i : Nat} (x : itrK k h it a i) (e : ∀ o, h.get? it = some o → h'.get? it = some o) : itrK k h' it a i := by
  cases k with
  | true => exact Heap.IsTupleIter.at x e
  | false => exact Heap.IsListIter.at x e
theorem itrK_obj {k : Bool} {h : Heap} {it a : Addr} {i : Nat} (x : itrK k h it a i) : ∃ o, h.get? it = some o ∧ ∀ v, o.data ≠ .cell v := by
  cases k with
  | true =>
    obtain ⟨o, e, _, d⟩ := x
    exact ⟨o, e, fun v z => by rw [d] at z; cases z⟩
  | false =>
    obtain ⟨o, e, _, d⟩ := x
    exact ⟨o, e, fun v z => by rw [d] at z; cases z⟩
section
variable {X : Cx} {pins : List (Addr × Obj)} {σ : L2.St} {H : Hp} {s : Shared} {a : Addr} {xs ys : List V}
theorem seq_of (I : L2.Inv X pins σ H s) {k : Bool} (h : SqK k X.K H a xs) : ∃ its : List Value, Vals xs its ∧ seqK k s.heap a its.toArray ∧ a < s.heap.objs.size := by
  cases k with
  | true =>
    obtain ⟨its, r, p, _⟩ := I.tuple h
    obtain ⟨o, e, _⟩ := id p
    exact ⟨its, r, p, Heap.lt_size e⟩
  | false =>
    obtain ⟨its, r, p, _⟩ := I.list h
    exact ⟨its, r, p.isList, p.lt⟩
theorem seq_inj (I : L2.Inv X pins σ H s) {k : Bool} (h : SqK k X.K H a xs) (h' : SqK k X.K H a ys) : xs = ys := by
  cases k with
  | true => exact I.tuple_inj h h'
  | false => exact I.list_inj h h'
end

/-! ### zip of two of them -/
def ItZ (K : PySem.W.Frag) (k j : Bool) (a b : Addr) : It :=
  ⟨fun i H => ∃ (xs ys : List V) (x y : V), SqK k K H a xs ∧ SqK j K H b ys ∧ xs[i]? = some x ∧ ys[i]? = some y,
    fun i H v H' => ∃ T x y, v = .ref T ∧ H T = none ∧ H' = upd H T (.tup [x, y]) ∧ (∀ xs, SqK k K H a xs → xs[i]? = some x) ∧ ∀ ys, SqK j K H b ys → ys[i]? = some y,
    fun i H => ∃ xs ys : List V, SqK k K H a xs ∧ SqK j K H b ys ∧ i = min xs.length ys.length⟩
structure SepZ (z TI TO i1 i2 a b : Addr) : Prop where
  sep : ZipSep2 z TI TO i1 i2 [i1, a] [i2, b]
  ne1 : a ≠ i1
  ne2 : b ≠ i2
theorem turnZ {P : Program} {w : World} {K : PySem.W.Frag} {elts : List Expr} {kk : Nat} {tpos : Pos} (k j : Bool) {a b z TI TO i1 i2 : Addr} (S : SepZ z TI TO i1 i2 a b) :
    L2.Turn P w K (.Tuple elts kk tpos) (ItZ K k j a b) [z, TI, TO, i1, i2] z (fun i h => IsZip h z TI TO .none ∧ IsTupOf2 h TI (.ref i1) (.ref i2) ∧ (∃ x y, IsTupOf2 h TO x y) ∧ itrK k h i1 a i ∧ itrK j h i2 b i) where
  mem := List.mem_cons_self
  obj := fun i h st c hc => by
    obtain ⟨hz, hTI, ⟨x, y, hTO⟩, h1, h2⟩ := st
    simp only [List.mem_cons, List.not_mem_nil, or_false] at hc
    rcases hc with e | e | e | e | e <;> subst e
    · exact ⟨_, hz, fun v q => by cases q⟩
    · exact ⟨_, hTI, fun v q => by cases q⟩
    · exact ⟨_, hTO, fun v q => by cases q⟩
    · exact itrK_obj h1
    · exact itrK_obj h2
  keep := fun i h h' st q => by
    obtain ⟨hz, hTI, ⟨x, y, hTO⟩, h1, h2⟩ := st
    exact ⟨q _ (by simp) _ hz, q _ (by simp) _ hTI, ⟨x, y, q _ (by simp) _ hTO⟩, itrK_at h1 fun o e => q _ (by simp) o e, itrK_at h2 fun o e => q _ (by simp) o e⟩
  item := by
    intro X hP hw hK hc i pins s σ H E I hf st hg
    subst hP hw hK
    obtain ⟨hz, hTI, hTO, h1, h2⟩ := st
    obtain ⟨xs, ys, x, y, qx, qy, ex, ey⟩ := hg
    obtain ⟨its, r1, p1, _⟩ := seq_of I qx
    obtain ⟨its2, r2, p2, _⟩ := seq_of I qy
    obtain ⟨u, hu, ru⟩ := r1.get ex
    obtain ⟨u2, hu2, ru2⟩ := r2.get ey
    have hh : X.A.in1.handled = none := I.ok.hd hc
    have G := GoesN.zip2 (prog := X.prog) (w := X.w) (A := X.A) (elts := elts) (x1 := kk) (pos := tpos) S.sep (drawsK k hh i1 a S.ne1 its.toArray) (drawsK j hh i2 b S.ne2 its2.toArray)
    have lt1 : i < its.length := (List.getElem?_eq_some_iff.mp hu).1
    have lt2 : i < its2.length := (List.getElem?_eq_some_iff.mp hu2).1
    refine wpAny_mono (G.goes i s (fun v s2 => ∃ z' H', L2.Inv X pins σ H' s2 ∧ RelV z' v ∧ (ItZ X.K k j a b).yld i H z' H' ∧ (IsZip s2.heap z TI TO .none ∧ IsTupOf2 s2.heap TI (.ref i1) (.ref i2) ∧ (∃ x y, IsTupOf2 s2.heap TO x y) ∧ itrK k s2.heap i1 a (i + 1) ∧ itrK j s2.heap i2 b (i + 1)) ∧ ∀ c ∈ [z, TI, TO, i1, i2], H' c = none) E (by rw [List.size_toArray, List.size_toArray]; omega) ⟨hz, hTI, hTO, ⟨h1, p1⟩, h2, p2⟩ ?_) (fun r s1 q => q) fun _ _ q => q
    intro v h' tk hY st' keep _
    obtain ⟨T, x', y', rfl, hT, e1, e2, tup⟩ := hY
    have ex' : x' = u := by
      have : its.toArray[i]? = some u := by simpa using hu
      rw [this] at e1
      exact (Option.some.inj e1).symm
    have ey' : y' = u2 := by
      have : its2.toArray[i]? = some u2 := by simpa using hu2
      rw [this] at e2
      exact (Option.some.inj e2).symm
    subst ex' ey'
    obtain ⟨z1, z2, z3, ⟨z4, _⟩, z5, _⟩ := st'
    have new : ObjOk X.prog X.w (upd H T (.tup [x, y])) h' T (.tup [x, y]) := ⟨by show 2 ≤ sizeLine; decide, [x', y'], .cons ru (.cons ru2 .nil), tup⟩
    have I1 : L2.Inv X pins σ (upd H T (.tup [x, y])) { s with heap := h', toks := tk } :=
      I.turnedNew (ch := [z, TI, TO, i1, i2]) (fun c o hb q => keep c o (fun q' => hb (by simp only [List.mem_cons, List.not_mem_nil, or_false] at q' ⊢; rcases q' with e | e | e | e <;> simp [e])) q) hf hT new
    refine ⟨.ref T, _, I1, rfl, ⟨T, x, y, rfl, I.hok.fresh hT, rfl, fun l hl => by rw [seq_inj I hl qx]; exact ex, fun l hl => by rw [seq_inj I hl qy]; exact ey⟩, ⟨z1, z2, z3, z4, z5⟩, fun c hcm => ?_⟩
    have hne : c ≠ T := fun e => by
      obtain ⟨x0, y0, hTO'⟩ := hTO
      have lt : c < s.heap.objs.size := by
        simp only [List.mem_cons, List.not_mem_nil, or_false] at hcm
        rcases hcm with e | e | e | e | e <;> subst e
        · exact Heap.lt_size hz
        · exact Heap.lt_size hTI
        · exact Heap.lt_size hTO'
        · obtain ⟨o, e, _⟩ := itrK_obj h1
          exact Heap.lt_size e
        · obtain ⟨o, e, _⟩ := itrK_obj h2
          exact Heap.lt_size e
      rw [e] at lt
      exact absurd (Nat.lt_of_lt_of_le lt hT) (Nat.lt_irrefl _)
    rw [upd_ne hne]
    exact (hf c hcm).1
  done := by
    intro X hP hw hK hc i pins s σ H E I hf st hg
    subst hP hw hK
    obtain ⟨hz, hTI, hTO, h1, h2⟩ := st
    obtain ⟨xs, ys, qx, qy, ei⟩ := hg
    obtain ⟨its, r1, p1, _⟩ := seq_of I qx
    obtain ⟨its2, r2, p2, _⟩ := seq_of I qy
    have hh : X.A.in1.handled = none := I.ok.hd hc
    have G := GoesN.zip2 (prog := X.prog) (w := X.w) (A := X.A) (elts := elts) (x1 := kk) (pos := tpos) S.sep (drawsK k hh i1 a S.ne1 its.toArray) (drawsK j hh i2 b S.ne2 its2.toArray)
    have en : i = min its.toArray.size its2.toArray.size := by
      rw [List.size_toArray, List.size_toArray, ← r1.length, ← r2.length]
      exact ei
    subst en
    refine G.stops s (fun s1 => L2.Inv X pins σ H s1) E ⟨hz, hTI, hTO, ⟨h1, p1⟩, h2, p2⟩ fun h' tk keep _ => ?_
    exact I.turnedL (ch := [z, TI, TO, i1, i2]) (fun c o hb q => keep c o (fun q' => hb (by simp only [List.mem_cons, List.not_mem_nil, or_false] at q' ⊢; rcases q' with e | e | e | e <;> simp [e])) q) hf
  self := fun A i s Q E st h => wpAny_pyIter_zip st.1 h
def iZ (K : PySem.W.Frag) (ta : TA) : TI := fun σ H R => ta σ H fun vs H1 => ∃ (a b : Addr) (k j : Bool) (xs ys : List V), vs = [.ref a, .ref b] ∧ SqK k K H1 a xs ∧ SqK j K H1 b ys ∧ R (ItZ K k j a b) H1
theorem piZ {X : Cx} {e e2 : Expr} {ta : TA} {p pos tpos : Pos} {elts : List Expr} {kk : Nat} (K : PySem.W.Frag) (hg : Gl X "zip") (hm : X.mg "zip" = none) (ha : PA X [e, e2] ta) (hK : X.K = K := by rfl)
    (hs : starEach [e, e2] X.env = (false, eval e X.env) :: starEach [e2] X.env := by rfl) (hpl : (backTo pos (starEach [e2] X.env)).any (·.1) = false := by rfl) :
    PI X (.Tuple elts kk tpos) (.Call (.Name "zip" p) [e, e2] [] pos) (iZ K ta) := by
  subst hK
  refine ⟨fun pins s σ H R I h => ?_⟩
  refine Call_ (ld_blt I hg hm PyProof.Rows.boot_zip (PyProof.Rows.callWith_type1 (thn (ha.run pos pins s σ H _ I h) fun us s1 ⟨vs, H1, I1, r1, q1⟩ => ?_) hs hpl))
  obtain ⟨a, b, k, j, xs, ys, ex, qx, qy, q⟩ := q1
  subst ex
  obtain ⟨v1, v2, rfl, ra, rb⟩ := r1.two
  cases ra
  cases rb
  obtain ⟨its, _, p1, l1⟩ := seq_of I1 qx
  obtain ⟨its2, _, p2, l2⟩ := seq_of I1 qy
  refine zip_begins2 (beginsK k a its.toArray) (beginsK j b its2.toArray) p1 p2 fun h' hz hTI hTO g1 g2 hsz keep => wpAny_pyIter_zip hz ?_
  have I2 : L2.Inv X pins σ H1 { s1 with heap := h' } := I1.kept (t' := s1.toks) keep
  have q1 : a < s1.heap.objs.size := l1
  have q2 : b < s1.heap.objs.size := l2
  have key : ∀ n a b : Nat, a < n → b < n → SepZ (n + 4) (n + 2) (n + 3) n (n + 1) a b := fun n a b q1 q2 => by
    have h1 : ∀ i j : Nat, i ≠ j → n + i ≠ n + j := fun i j h => by omega
    have h2 : ∀ i : Nat, 0 < i → n + i ≠ n := fun i h => by omega
    have h3 : ∀ i : Nat, n + i ≠ a := fun i => by omega
    have h4 : ∀ i : Nat, n + i ≠ b := fun i => by omega
    have h5 : n ≠ b := by omega
    have h6 : a ≠ n := by omega
    have nm : ∀ x y z : Nat, x ≠ y → x ≠ z → x ∉ [y, z] := fun x y z p q r => by
      rcases List.mem_cons.mp r with e | r
      · exact p e
      · exact q (List.mem_singleton.mp r)
    exact ⟨⟨h1 2 4 (by decide), h1 3 4 (by decide), h1 2 3 (by decide), h2 2 (by decide), List.mem_cons_self, nm _ _ _ (h2 4 (by decide)) (h3 4), nm _ _ _ (h2 3 (by decide)) (h3 3), h1 2 1 (by decide), List.mem_cons_self,
      nm _ _ _ (h1 4 1 (by decide)) (h4 4), nm _ _ _ (h1 3 1 (by decide)) (h4 3), nm _ _ _ (h2 1 (by decide)).symm h5, nm _ _ _ (h2 1 (by decide)) (h3 1)⟩, h6, (h4 1).symm⟩
  refine ⟨s1.heap.objs.size + 4, [s1.heap.objs.size + 4, s1.heap.objs.size + 2, s1.heap.objs.size + 3, s1.heap.objs.size, s1.heap.objs.size + 1], _, _, H1, rfl, I2, turnZ k j (key s1.heap.objs.size a b q1 q2), ⟨hz, hTI, ⟨_, _, hTO⟩, itrK_start g1, itrK_start g2⟩, fun c hcm => ?_, q⟩
  have le : s1.heap.objs.size ≤ c := by
    simp only [List.mem_cons, List.not_mem_nil, or_false] at hcm
    rcases hcm with e | e | e | e | e <;> rw [e]
    · exact Nat.le_add_right _ _
    · exact Nat.le_add_right _ _
    · exact Nat.le_add_right _ _
    · exact Nat.le_refl _
    · exact Nat.le_add_right _ _
  exact I1.fpOk le (I1.hok.fresh le)
end D7
/-! D7, rules: enumerate over a list or a tuple; loops and comprehensions over what is walked. -/
namespace D7
open PySem L2 PySem.Spec PyProof.Rows
open PySem.Sem (wp)

theorem enum_newB {v : Value} {o : Obj} {H : Heap → Prop} (B : Begins v o H) :
    Meets (Builtin.«enumerate.__new__» ⟨[.type "enumerate", v], []⟩) (fun _ R s => H s.heap ∧
      R (.ok (.ret (.ref (s.heap.push o).objs.size))) { s with heap := (s.heap.push o).push { cls := .type "enumerate", data := .fields #[.none, .bool false, .ref s.heap.objs.size, rawInt 0, .none, .none] } }) := by
  refine .of_wp fun pr w A R s h => ?_
  obtain ⟨hp, g, d, tk, os⟩ := s
  obtain ⟨hb, k⟩ := h
  have hsub := sub_enumerate
  have go : ∀ {A' : Around} {E : Value → Shared → Prop} {Q : Value → Shared → Prop}, Q (.ref hp.objs.size) ⟨hp.push o, g, d, tk, os⟩ → wpAny (model pr w) A' (pyIter v) Q E ⟨hp, g, d, tk, os⟩ := fun q => B.iter pr w _ _ ⟨hp, g, d, tk, os⟩ _ hb q
  wp_walk using go
  refine wpAny_stack_any fun st => wpAny_pure ?_
  split
  · rename_i c _ _ _ _ _
    cases (c == Value.type "enumerate") <;> (wp_walk using go; exact ⟨_, rfl, k⟩)
  · wp_walk using go
    exact ⟨_, rfl, k⟩
section
variable {pr : Program} {w : World} {A : Around} {E : Value → Shared → Prop} {s : Shared}
theorem enum_of {v : Value} {o : Obj} {H : Heap → Prop} {Q : Value → Shared → Prop} (B : Begins v o H) (hb : H s.heap)
    (k : ∀ h', IsEnum h' (s.heap.objs.size + 1) s.heap.objs.size 0 .none → h'.get? s.heap.objs.size = some o → (∀ b o, s.heap.get? b = some o → h'.get? b = some o) → Q (.ref (s.heap.objs.size + 1)) { s with heap := h' }) :
    wpAny (model pr w) A (call (.type "enumerate") [v]) Q E s := by
  refine callType_new F.called_enumerate (by decide) (F.typeCall_enumerate_1 _) (F.newCall_enumerate_1 _) (fun obj => F.args_object_init_2 obj _) F.entry_enumerate_new (enum_newB B) ⟨hb, ?_⟩
  have sz : (s.heap.push o).objs.size = s.heap.objs.size + 1 := Heap.size_push ..
  have e : ((s.heap.push o).push { cls := .type "enumerate", data := .fields #[.none, .bool false, .ref s.heap.objs.size, rawInt 0, .none, .none] }).get? (s.heap.push o).objs.size = _ := Heap.get?_push_size _ rfl
  rw [sz] at e
  show _ ∧ _
  rw [sz]
  exact ⟨⟨_, e, rfl⟩, k _ e (Heap.get?_push_of_some _ (Heap.get?_push_size _ B.free)) fun b ob z => Heap.get?_push_of_some _ (Heap.get?_push_of_some _ z)⟩
end
def ItE (K : PySem.W.Frag) (k : Bool) (a : Addr) : It :=
  ⟨fun i H => ∃ (xs : List V) (x : V), SqK k K H a xs ∧ xs[i]? = some x,
    fun i H v H' => ∃ T x, v = .ref T ∧ H T = none ∧ H' = upd H T (.tup [.int (i : Nat), x]) ∧ ∀ xs, SqK k K H a xs → xs[i]? = some x,
    fun i H => ∃ xs : List V, SqK k K H a xs ∧ i = xs.length⟩
theorem turnE {P : Program} {w : World} {K : PySem.W.Frag} {elts : List Expr} {kk : Nat} {tpos : Pos} (k : Bool) {a e it : Addr} (n1 : e ≠ it) (n2 : a ≠ e) (n3 : a ≠ it) :
    L2.Turn P w K (.Tuple elts kk tpos) (ItE K k a) [e, it] e (fun i h => (∃ old, IsEnum h e it (0 + (i : Int)) old) ∧ itrK k h it a i) where
  mem := List.mem_cons_self
  obj := fun i h st c hc => by
    obtain ⟨⟨old, he⟩, h1⟩ := st
    simp only [List.mem_cons, List.not_mem_nil, or_false] at hc
    rcases hc with q | q <;> subst q
    · exact ⟨_, he, fun v q => by cases q⟩
    · exact itrK_obj h1
  keep := fun i h h' st q => by
    obtain ⟨⟨old, he⟩, h1⟩ := st
    exact ⟨⟨old, q _ (by simp) _ he⟩, itrK_at h1 fun o z => q _ (by simp) o z⟩
  item := by
    intro X hP hw hK hc i pins s σ H E I hf st hg
    subst hP hw hK
    obtain ⟨he, h1⟩ := st
    obtain ⟨xs, x, qx, ex⟩ := hg
    obtain ⟨its, r1, p1, _⟩ := seq_of I qx
    obtain ⟨u, hu, ru⟩ := r1.get ex
    have hh : X.A.in1.handled = none := I.ok.hd hc
    have G := GoesN.enumFrom (prog := X.prog) (w := X.w) (A := X.A) (elts := elts) (x1 := kk) (pos := tpos) 0 (drawsK k hh it a n3 its.toArray) e n1 (by
      intro q
      rcases List.mem_cons.mp q with q | q
      · exact n1 q
      · exact n2 (List.mem_singleton.mp q).symm) List.mem_cons_self
    have lt1 : i < its.length := (List.getElem?_eq_some_iff.mp hu).1
    refine wpAny_mono (G.goes i s (fun v s2 => ∃ z' H', L2.Inv X pins σ H' s2 ∧ RelV z' v ∧ (ItE X.K k a).yld i H z' H' ∧ ((∃ old, IsEnum s2.heap e it (0 + ((i + 1 : Nat) : Int)) old) ∧ itrK k s2.heap it a (i + 1)) ∧ ∀ c ∈ [e, it], H' c = none) E (by rw [List.size_toArray]; omega) ⟨he, h1, p1⟩ ?_) (fun r s1 q => q) fun _ _ q => q
    intro v h' tk hY st' keep _
    obtain ⟨T, t, x', rfl, hT, e1, tup⟩ := hY
    have ex' : x' = u := by
      have : its.toArray[i]? = some u := by simpa using hu
      rw [this] at e1
      exact (Option.some.inj e1).symm
    subst ex'
    obtain ⟨z1, z2, _⟩ := st'
    have new : ObjOk X.prog X.w (upd H T (.tup [.int (i : Nat), x])) h' T (.tup [.int (i : Nat), x]) := ⟨by show 2 ≤ sizeLine; decide, [.int (0 + (i : Int)) t, x'], .cons ⟨t, by rw [Int.zero_add]⟩ (.cons ru .nil), tup⟩
    have I1 : L2.Inv X pins σ (upd H T (.tup [.int (i : Nat), x])) { s with heap := h', toks := tk } := I.turnedNew (ch := [e, it]) (fun c o hb q => keep c o hb q) hf hT new
    refine ⟨.ref T, _, I1, rfl, ⟨T, x, rfl, I.hok.fresh hT, rfl, fun l hl => by rw [seq_inj I hl qx]; exact ex⟩, ⟨z1, z2⟩, fun c hcm => ?_⟩
    have hne : c ≠ T := fun q => by
      obtain ⟨old, he⟩ := he
      have lt : c < s.heap.objs.size := by
        simp only [List.mem_cons, List.not_mem_nil, or_false] at hcm
        rcases hcm with z | z <;> subst z
        · exact Heap.lt_size he
        · obtain ⟨o, z, _⟩ := itrK_obj h1
          exact Heap.lt_size z
      rw [q] at lt
      exact absurd (Nat.lt_of_lt_of_le lt hT) (Nat.lt_irrefl _)
    rw [upd_ne hne]
    exact (hf c hcm).1
  done := by
    intro X hP hw hK hc i pins s σ H E I hf st hg
    subst hP hw hK
    obtain ⟨he, h1⟩ := st
    obtain ⟨xs, qx, ei⟩ := hg
    obtain ⟨its, r1, p1, _⟩ := seq_of I qx
    have hh : X.A.in1.handled = none := I.ok.hd hc
    have G := GoesN.enumFrom (prog := X.prog) (w := X.w) (A := X.A) (elts := elts) (x1 := kk) (pos := tpos) 0 (drawsK k hh it a n3 its.toArray) e n1 (by
      intro q
      rcases List.mem_cons.mp q with q | q
      · exact n1 q
      · exact n2 (List.mem_singleton.mp q).symm) List.mem_cons_self
    have en : i = its.toArray.size := by
      rw [List.size_toArray, ← r1.length]
      exact ei
    subst en
    exact G.stops s (fun s1 => L2.Inv X pins σ H s1) E ⟨he, h1, p1⟩ fun h' tk keep _ => I.turnedL (ch := [e, it]) (fun c o hb q => keep c o hb q) hf
  self := fun A i s Q E st h => let ⟨⟨_, he⟩, _⟩ := st; wpAny_pyIter_enum he h
def iE (K : PySem.W.Frag) (ta : TA) : TI := fun σ H R => ta σ H fun vs H1 => ∃ (a : Addr) (k : Bool) (xs : List V), vs = [.ref a] ∧ SqK k K H1 a xs ∧ R (ItE K k a) H1
theorem piEn {X : Cx} {e : Expr} {ta : TA} {p pos tpos : Pos} {elts : List Expr} {kk : Nat} (K : PySem.W.Frag) (hg : Gl X "enumerate") (hm : X.mg "enumerate" = none) (ha : PA X [e] ta) (hK : X.K = K := by rfl)
    (hs : starEach [e] X.env = [(false, eval e X.env)] := by rfl) : PI X (.Tuple elts kk tpos) (.Call (.Name "enumerate" p) [e] [] pos) (iE K ta) := by
  subst hK
  refine ⟨fun pins s σ H R I h => ?_⟩
  refine Call_ (ld_blt I hg hm boot_enumerate (PyProof.Rows.callWith_type1 (thn (ha.run pos pins s σ H _ I h) fun us s1 ⟨vs, H1, I1, r1, q1⟩ => ?_) hs rfl))
  obtain ⟨a, k, xs, ex, qx, q⟩ := q1
  subst ex
  obtain ⟨v1, rfl, ra⟩ := r1.one
  cases ra
  obtain ⟨its, _, p1, l1⟩ := seq_of I1 qx
  refine enum_of (beginsK k a its.toArray) p1 fun h' he g1 keep => wpAny_pyIter_enum he ?_
  have I2 : L2.Inv X pins σ H1 { s1 with heap := h' } := I1.kept (t' := s1.toks) keep
  have key : ∀ n a : Nat, a < n → n + 1 ≠ n ∧ a ≠ n + 1 ∧ a ≠ n := fun n a h => by omega
  obtain ⟨k1, k2, k3⟩ := key s1.heap.objs.size a l1
  refine ⟨s1.heap.objs.size + 1, [s1.heap.objs.size + 1, s1.heap.objs.size], _, _, H1, rfl, I2, turnE k k1 k2 k3, ⟨⟨.none, ?_⟩, itrK_start g1⟩, fun c hcm => ?_, q⟩
  · have e0 : (0 : Int) + ((0 : Nat) : Int) = 0 := rfl
    rw [e0]
    exact he
  · have le : s1.heap.objs.size ≤ c := by
      simp only [List.mem_cons, List.not_mem_nil, or_false] at hcm
      rcases hcm with z | z <;> rw [z]
      · exact Nat.le_add_right _ _
      · exact Nat.le_refl _
    exact I1.fpOk le (I1.hok.fresh le)

/-! ### loops and comprehensions by the number of turns -/
theorem forIt {J : It} {g : TG} {tb : TS} {D : Ends} {σ : L2.St} {H : Hp} (n : Nat) (Pv : Nat → L2.St → Hp → Prop) (h0 : Pv 0 σ H) (go : ∀ i σ H, i < n → Pv i σ H → J.go i H) (stop : ∀ σ H, Pv n σ H → J.stop n H)
    (hs : ∀ i σ H x H', i < n → Pv i σ H → J.yld i H x H' → g x σ H' fun σ2 H2 => tb { D with nx := Pv (i + 1), ct := Pv (i + 1), bk := D.nx } σ2 H2) (hd : ∀ σ H, Pv n σ H → D.nx σ H) :
    ∃ W : Nat → Nat → L2.St → Hp → Prop, (∃ m, W 0 m σ H) ∧ ∀ i m σ H, W i m σ H →
      (J.stop i H ∧ D.nx σ H) ∨ (J.go i H ∧ ∃ N : L2.St → Hp → Prop, (∀ σ' H', N σ' H' → ∃ m', m' < m ∧ W (i + 1) m' σ' H') ∧ ∀ x H', J.yld i H x H' → g x σ H' fun σ2 H2 => tb { D with nx := N, ct := N, bk := D.nx } σ2 H2) := by
  refine ⟨fun i m σ H => i + m = n ∧ Pv i σ H, ⟨n, Nat.zero_add n, h0⟩, fun i m σ H w => ?_⟩
  obtain ⟨e, p⟩ := w
  cases m with
  | zero =>
    have : i = n := e
    subst this
    exact .inl ⟨stop σ H p, hd σ H p⟩
  | succ m =>
    have lt : i < n := by omega
    exact .inr ⟨go i σ H lt p, Pv (i + 1), fun σ' H' p' => ⟨m, Nat.lt_succ_self m, by omega, p'⟩, fun x H' y => hs i σ H x H' lt p y⟩
/-- the comprehension's list stands at Dl; Pv tells it too -/
theorem lcIt {J : It} {g : TG} {tt : TT} {te : TE} {vs : List Nat} {σ : L2.St} {H1 : Hp} {Dl : Addr} {Qd : Hp → Prop} (n : Nat) (Pv : Nat → Hp → Prop) (h0 : Pv 0 (upd H1 Dl (.lst []))) (go : ∀ i H, i < n → Pv i H → J.go i H) (stop : ∀ H, Pv n H → J.stop n H)
    (hs : ∀ i H x H', i < n → Pv i H → J.yld i H x H' → g x (wipe σ vs) H' fun σ2 H2 => wipe σ2 vs = wipe σ vs ∧ tt σ2 H2 fun b H3 =>
      if b = true then te σ2 H3 fun y H4 => ∃ acc, H4 Dl = some (.lst acc) ∧ acc.length < sizeLine ∧ Pv (i + 1) (upd H4 Dl (.lst (acc ++ [y]))) else Pv (i + 1) H3) (hd : ∀ H, Pv n H → Qd H) :
    ∃ W : Nat → Nat → Hp → Prop, (∃ m, W 0 m (upd H1 Dl (.lst []))) ∧ ∀ i m H, W i m H →
      (J.stop i H ∧ Qd H) ∨ (J.go i H ∧ ∃ Nx : Hp → Prop, (∀ H', Nx H' → ∃ m', m' < m ∧ W (i + 1) m' H') ∧ ∀ x H', J.yld i H x H' → g x (wipe σ vs) H' fun σ2 H2 => wipe σ2 vs = wipe σ vs ∧ tt σ2 H2 fun b H3 =>
        if b = true then te σ2 H3 fun y H4 => ∃ acc, H4 Dl = some (.lst acc) ∧ acc.length < sizeLine ∧ Nx (upd H4 Dl (.lst (acc ++ [y]))) else Nx H3) := by
  refine ⟨fun i m H => i + m = n ∧ Pv i H, ⟨n, Nat.zero_add n, h0⟩, fun i m H w => ?_⟩
  obtain ⟨e, p⟩ := w
  cases m with
  | zero =>
    have : i = n := e
    subst this
    exact .inl ⟨stop H p, hd H p⟩
  | succ m =>
    have lt : i < n := by omega
    exact .inr ⟨go i H lt p, Pv (i + 1), fun H' p' => ⟨m, Nat.lt_succ_self m, by omega, p'⟩, fun x H' y => hs i H x H' lt p y⟩
end D7
/-! D7, rules: set(xs) of a list of whole numbers of any length, few of them different; sorted of it. -/
namespace D7
open PySem L2 PySem.Spec PyProof.Rows

/-- few members -/
theorem setR_few {w : World} {h : Heap} {a : Addr} {S : Int → Bool} {c m : Nat} (R : SetR w h a S c) (lim : ∀ k, S k = true → 0 ≤ k ∧ k < (m : Int)) : c ≤ m := by
  obtain ⟨o, es, ep, t, _, _, _, _, nd, hm, _, _, e, _⟩ := R
  have := nodup_sub nd (m := (List.range m).map fun (i : Nat) => (i : Int)) fun x hx => by
    obtain ⟨h1, h2⟩ := lim x ((hm x).mpr hx)
    exact List.mem_map.mpr ⟨x.toNat, List.mem_range.mpr (by omega), by omega⟩
  rw [List.length_map, List.length_map, List.length_range, Array.length_toList, e] at this
  exact this
section
variable {pr : Program} {w : World} {A : Around} {E : Value → Shared → Prop}
theorem set_turns {I l S : Addr} {its : Array Value} {ns : List Int} {m : Nat} (hi : IntsAre its.toList ns) (lim : ∀ k ∈ ns, 0 ≤ k ∧ k < (m : Int)) (room : m + 1 < scanBound) (hh : A.in1.handled = none) (nSI : S ≠ I) (nSl : S ≠ l) (nlI : l ≠ I) {R : Result → Shared → Prop} :
    ∀ (k i : Nat) (s : Shared), its.size - i = k → i ≤ its.size → s.heap.IsListIter I l i → s.heap.IsList l its → (∃ c, SetR w s.heap S (fun j => decide (j ∈ ns.take i)) c) →
      (∀ h' tk c, SetR w h' S (fun j => decide (j ∈ ns)) c → (∀ b o, b ≠ S → b ≠ I → s.heap.get? b = some o → h'.get? b = some o) → R (.ok (.ret .none)) { s with heap := h', toks := tk }) →
      codeAny (model pr w) A (.builtin "set.update.loop" ⟨[.ref S, .ref I], []⟩) R s := by
  have sz : its.size = ns.length := by
    have := IntsAre.length hi
    rwa [Array.length_toList] at this
  intro k
  induction k with
  | zero =>
    intro i s hk hi' st hl ⟨c, hS⟩ out
    have e : i = its.size := by omega
    subst e
    refine codeAny_builtin PyProof.Rows.F.entry_set_update_loop ?_
    rw [Around.under_plainId PyProof.Rows.F.plain_set_update_loop _]
    show wpAny (model pr w) A.in1 (pyNext (.ref I) >>= _) _ _ s
    refine wpAny_bind (wpAny_pyNext_list_end hh st hl (by simp) fun h' eb => ?_)
    show wpAny (model pr w) A.in1 (ret Value.none) _ _ _
    have e2 : ns.take its.size = ns := List.take_of_length_le (by omega)
    rw [e2] at hS
    exact wpAny_pure (out h' s.toks c (hS.at fun o q => eb S o nSI q) fun b o _ nb q => eb b o nb q)
  | succ k ih =>
    intro i s hk hi' st hl ⟨c, hS⟩ out
    have lt : i < its.size := by omega
    have ltn : i < ns.length := by omega
    obtain ⟨t, hv⟩ : ∃ t, its[i]? = some (.int ns[i] t) := by
      have lt' : i < its.toList.length := by rw [Array.length_toList]; exact lt
      obtain ⟨t, e⟩ := IntsAre.int_at hi i its.toList[i] (List.getElem?_eq_getElem lt')
      refine ⟨t, ?_⟩
      rw [← Array.getElem?_toList, List.getElem?_eq_getElem lt', e, List.getD_eq_getElem?_getD, List.getElem?_eq_getElem ltn]
      rfl
    refine codeAny_builtin PyProof.Rows.F.entry_set_update_loop ?_
    rw [Around.under_plainId PyProof.Rows.F.plain_set_update_loop _]
    show wpAny (model pr w) A.in1 (pyNext (.ref I) >>= _) _ _ s
    refine wpAny_bind (wpAny_pyNext_list_item st hl hv fun h1 st1 sb1 => ?_)
    have hS1 : SetR w h1 S (fun j => decide (j ∈ ns.take i)) c := hS.at fun o q => (sb1.2 S nSI).trans q
    have hc : c ≤ m := setR_few hS1 fun k hk => lim k (List.mem_of_mem_take (of_decide_eq_true hk))
    show wpAny (model pr w) A.in1 (holding [Value.int ns[i] t] (setAdd S (.int ns[i] t)) >>= _) _ _ _
    refine wpAny_bind (wpAny_holding ?_)
    unfold setAdd
    refine wpAny_holding (wpAny_bind ((intKind pr w).pyHash (k := ns[i]) (intKind_is _ _ _ _) ?_))
    refine setR_add_hashed (s := { s with heap := h1, toks := s.toks + 1 }) hS1 (by omega) fun h2 sb2 hS2 => ?_
    have hS3 : SetR w h2 S (fun j => decide (j ∈ ns.take (i + 1))) (if decide (ns[i] ∈ ns.take i) = true then c else c + 1) := hS2.congr fun j => by
      have e : ns.take (i + 1) = ns.take i ++ [ns[i]] := by
        rw [List.take_add_one, List.getElem?_eq_getElem ltn]
        rfl
      rw [Bool.eq_iff_iff, e]
      simp only [Bool.or_eq_true, decide_eq_true_eq, List.mem_append, List.mem_singleton]
    refine wpAny_pure ⟨plainId_quiet PyProof.Rows.F.plain_set_update_loop _, ih (i + 1) _ (by omega) lt (st1.at fun o q => (sb2.2 I nSI.symm).trans q) ?_ ⟨_, hS3⟩ fun h' tk c' hS' keep => ?_⟩
    · have hl1 : h1.IsList l its := hl.at fun o q => (sb1.2 l nlI).trans q
      exact hl1.at fun o q => (sb2.2 l nSl.symm).trans q
    · exact out h' tk c' hS' fun b o n1 n2 q => keep b o n1 n2 ((sb2.2 b n1).trans ((sb1.2 b n2).trans q))
abbrev set0 (w : World) : Obj := { cls := .type "set", dict := none, data := .set #[] 0 (.fresh 0 0 (!w.params.followText "set-order")) }
set_option maxHeartbeats 8000000 in
theorem set_of_list {s : Shared} {l : Addr} {its : Array Value} {ns : List Int} {m : Nat} {Q : Value → Shared → Prop} (hh : A.handled = none) (hl : s.heap.IsList l its) (hi : IntsAre its.toList ns) (lim : ∀ k ∈ ns, 0 ≤ k ∧ k < (m : Int)) (room : m + 1 < scanBound)
    (out : ∀ (h' : Heap) (tk c : Nat), SetR w h' s.heap.objs.size (fun j => decide (j ∈ ns)) c → (∀ b o, s.heap.get? b = some o → h'.get? b = some o) → Q (.ref s.heap.objs.size) { s with heap := h', toks := tk }) :
    wpAny (model pr w) A (call (.type "set") [.ref l]) Q E s := by
  obtain ⟨mc, mt, hmro⟩ := F.called_set.mro
  have q1 := F.called_set.made
  have q2 := F.called_set.sub
  have q3 := F.called_set.notType
  have q4 := F.called_set.canCreate
  have q5 := F.typeCall_set_1 (.ref l)
  refine wpAny_call (codeAny_of_tree ?_)
  show wpAny (model pr w) _ (callAny (.type "set") _) _ _ _
  refine wpAny_pure ⟨Code.quiet_builtin _ (by decide +kernel), codeAny_builtin F.entry_type_call ?_⟩
  rw [Around.under_plain (weight_type_call_type "set" [.ref l] []) rfl]
  repeat (any_goals (first | assumption | wp_step))
  refine codeAny_mono (code_set_led1 (.ref l) (E := E) (Q₁ := fun obj s1 => obj = .ref s.heap.objs.size ∧ s1 = { s with heap := s.heap.push (set0 w) }) ⟨rfl, rfl⟩) fun r s1 hr => ?_
  cases r with
  | error e => exact hr
  | ok fl =>
    cases fl with
    | ret obj =>
      obtain ⟨rfl, rfl⟩ := hr
      have hS : (s.heap.push (set0 w)).get? s.heap.objs.size = some (set0 w) := Heap.get?_push_size _ rfl
      have hT : Shared.TypeIs { s with heap := s.heap.push (set0 w) } (.ref s.heap.objs.size) "set" := ⟨_, hS, rfl⟩
      have q6 := F.called_set.init.lookup
      have q7 := F.called_set.init.bind (.ref s.heap.objs.size)
      repeat (any_goals (first | assumption | wp_step))
      refine codeAny_mono (codeAny_call_builtin (R := wants (fun r s2 => r = .none ∧ ∃ h' tk c, s2 = { s with heap := h', toks := tk } ∧ SetR w h' s.heap.objs.size (fun j => decide (j ∈ ns)) c ∧ ∀ b o, s.heap.get? b = some o → h'.get? b = some o) E) F.called_set.init.plain F.entry_set_init (check_set_init_1 hT ?_)) fun r2 s2 hr2 => ?_
      · obtain ⟨⟨ocls, odict, odata, oslots⟩, hol, hcl, nl, hdl⟩ := hl
        simp only at hcl hdl
        subst hcl hdl
        have hol' : (s.heap.push (set0 w)).get? l = some { cls := .type "list", dict := odict, data := .seq its nl, slots := oslots } := Heap.get?_push_of_some _ hol
        have q8 := F.sub_list_set
        have q9 := F.sub_list_frozenset
        have ne : (Value.type "list" == Value.type "dict") = false := by decide
        have hl1 : (s.heap.push (set0 w)).IsList l its := ⟨_, hol', rfl, nl, rfl⟩
        unfold Builtin.«set.__init__» noKeywords Builtin.Frozenset.updateFrom
        generalize hPI : pyIter = PI
        wp_walk
        subst hPI
        refine wpAny_pyIter_list hl1 (wpAny_bind (wpAny_runValue ?_))
        have key : ∀ n l : Nat, l < n → n ≠ n + 1 ∧ n ≠ l ∧ l ≠ n + 1 := fun n l h => by omega
        obtain ⟨k1, k2, k3⟩ := key s.heap.objs.size l (Heap.lt_size hol)
        have hz1 : (s.heap.push (set0 w)).objs.size = s.heap.objs.size + 1 := Heap.size_push ..
        have hin : A.in1.in1.in1.handled = none := hh
        have fresh : SetR w ((s.heap.push (set0 w)).push { cls := .type "list_iterator", data := .fields #[.ref l, .int 0 0] }) s.heap.objs.size (fun j => decide (j ∈ ns.take 0)) 0 := setR_new_at (Heap.get?_push_of_some _ hS)
        refine set_turns (l := l) hi lim room hin (by rw [hz1]; exact k1) k2 (by rw [hz1]; exact k3) (its.size - 0) 0 _ rfl (Nat.zero_le _) ⟨_, Heap.get?_push_size _ rfl, rfl, rfl⟩ (hl1.push _) ⟨0, fresh⟩ fun h' tk c hS' keep => ?_
        show wpAny (model pr w) _ _ _ _ _
        refine wpAny_pure ?_
        show wpAny (model pr w) _ (ret Value.none) _ _ _
        refine wpAny_pure ⟨rfl, h', tk, c, rfl, hS', fun b o q => ?_⟩
        have lb : b < s.heap.objs.size := Heap.lt_size q
        refine keep b o (Nat.ne_of_lt lb) ?_ (Heap.get?_push_of_some _ (Heap.get?_push_of_some _ q))
        rw [hz1]
        exact Nat.ne_of_lt (Nat.lt_succ_of_lt lb)
      · cases r2 with
        | error e => exact hr2
        | ok fl2 =>
          cases fl2 with
          | ret r =>
            obtain ⟨rfl, h', tk, c, rfl, hS', keep⟩ := hr2
            repeat (any_goals (first | assumption | wp_step))
            exact out _ _ _ hS' keep
          | _ => exact hr2.elim
    | _ => exact hr.elim
end
/-- set(xs), the whole numbers below m, m at most 63 -/
def rSetL (w : World) : List V → Hp → VK → Prop := fun vs H Q => ∃ (a : Addr) (ns : List Int) (m : Nat), vs = [.ref a] ∧ H a = some (.lst (ns.map V.int)) ∧ (∀ k ∈ ns, 0 ≤ k ∧ k < (m : Int)) ∧ m < 64 ∧
  ∀ p c, H p = none → c ≤ m → Q (.ref p) (upd H p (SetO w p (fun j => decide (j ∈ ns)) c))
theorem cSet {X : Cx} (hc : X.calm = true := by rfl) : CallR X (.type "set") (rSetL X.w) := by
  intro pins s σ H vs us Q I r q
  obtain ⟨a, ns, m, rfl, ha, lim, hm, k⟩ := q
  rw [Vals.ref1 r]
  obtain ⟨its, rv, p, _⟩ := I.list (SqL.of ha)
  refine set_of_list (I.ok.hd hc) p.isList (by simpa using rv.ints) lim (by unfold scanBound; omega) fun h' tk c hS keep => ?_
  refine ⟨.ref s.heap.objs.size, _, I.laid (o := SetO X.w s.heap.objs.size (fun j => decide (j ∈ ns)) c) keep (Nat.le_refl _) (setO_new hS), rfl, k _ c (I.hok.fresh (Nat.le_refl _)) (setR_few hS fun k hk => lim k (of_decide_eq_true hk))⟩
end D7
/-! D7, the text by places; what the walk asks of names, defs, classes; calls in short. -/
namespace D7
open PySem L2

def top (i : Nat) : Stmt := PySem.Challenge.pw_diesnon_k37_whole_used_clauses_suffice.main.body.getD i (.Pass ⟨0, 0, 0, 0⟩)
/-- the built-in names are still those -/
structure Bt (mg : Str → Option Value) : Prop where
  len : mg "len" = none
  sum : mg "sum" = none
  all : mg "all" = none
  any : mg "any" = none
  range : mg "range" = none
  enumerate : mg "enumerate" = none
  zip : mg "zip" = none
  isinstance : mg "isinstance" = none
  max : mg "max" = none
  min : mg "min" = none
  sorted : mg "sorted" = none
  set : mg "set" = none
  list : mg "list" = none
  tuple : mg "tuple" = none
  abs : mg "abs" = none
  int : mg "int" = none
section
variable (P : Program) (w : World) (K : PySem.W.Frag) (mg : Str → Option Value) (base : Heap)
/-- a def of the module keeps the promise sp -/
def Def (k : Nat) (x : Str) (ps : List Str) (sp : Sp) : Prop :=
  ∃ f fd, FnOk P w K mg base CX0 k f fd ps sp ∧ mg x = some (.ref f) ∧ PySem.W.keepIn K (.ref f) = true ∧ Binds K fd ps []
/-- a class is made by its __init__ -/
def Made (k : Nat) (x : Str) (C : Addr) (ps : List Str) (sp : Sp) : Prop :=
  ∃ f fd, FnOk P w K mg base CX0 k f fd ps sp ∧ Mk K C f ∧ mg x = some (.ref C) ∧ Binds K fd ps []
/-- a method of the class at C -/
def MDef (k : Nat) (C : Addr) (m : Str) (ps : List Str) (sp : Sp) : Prop :=
  ∃ f fd, FnOk P w K mg base CX0 k f fd ps sp ∧ Cls K C ∧ Meth K C m f ∧ Binds K fd ps []
end
section
variable {X : Cx} {k : Nat} {ps : List Str} {sp : Sp} {x : Str} {p pos apos : Pos} {e o : Expr} {es : List Expr} {t : TA} {ta : TE} {C : Addr} {m : Str} {pl : Sem Bool}
theorem callD (D : Def X.prog X.w X.K X.mg X.base k x ps sp) (hr : Room k X.A) (hg : Gl X x) (ha : PA X (e :: es) t) (h1 : (x == ("__debug__" : Str)) = false := by decide) (h2 : starEach (e :: es) X.env = (false, eval e X.env) :: starEach es X.env := by rfl)
    (h3 : (backTo pos (starEach es X.env)).any (·.1) = false := by rfl) : PE X (.Call (.Name x p) (e :: es) [] pos) (tCall sp [] E0 t) := by
  obtain ⟨f, fd, F, hm, hk, hb⟩ := D
  exact pe_call F hr hg hm hk hb .nil pass0 ha h1 h2 h3
theorem makeD (D : Made X.prog X.w X.K X.mg X.base k x C ps sp) (hr : Room (k + 1) X.A) (hg : Gl X x) (ha : PA X (e :: es) t) (h1 : (x == ("__debug__" : Str)) = false := by decide) (h2 : starEach (e :: es) X.env = (false, eval e X.env) :: starEach es X.env := by rfl)
    (h3 : (backTo pos (starEach es X.env)).any (·.1) = false := by rfl) : PE X (.Call (.Name x p) (e :: es) [] pos) (tMake C sp [] E0 t) := by
  obtain ⟨f, fd, F, M, hm, hb⟩ := D
  exact pe_make M F hr hg hm hb .nil pass0 ha h1 h2 h3
theorem methD (ho : PE X o ta) (D : MDef X.prog X.w X.K X.mg X.base k C m ps sp) (hr : Room k X.A) (ha : PA X (e :: es) t)
    (h1 : starEach (e :: es) X.env = (false, eval e X.env) :: starEach es X.env := by rfl) (h2 : (backTo pos (starEach es X.env)).any (·.1) = false := by rfl)
    (ht : eval (.Call (.Attribute o m apos) (e :: es) [] pos) X.env = (do let ov ← eval o X.env; standAt apos.atName; let (f, first) ← holding [ov] (getMethod ov m pl); callWith pos f first (backTo pos (starEach (e :: es) X.env)) (backToKw pos (keywordEach [] X.env))) := by rfl) :
    PE X (.Call (.Attribute o m apos) (e :: es) [] pos) (tMeth C m sp [] E0 ta t) := by
  obtain ⟨f, fd, F, c, M, hb⟩ := D
  exact pe_meth ho c M F hr hb .nil pass0 ha h1 h2 ht
theorem methD0 (ho : PE X o ta) (D : MDef X.prog X.w X.K X.mg X.base k C m ps sp) (hr : Room k X.A)
    (ht : eval (.Call (.Attribute o m apos) [] [] pos) X.env = (do let ov ← eval o X.env; standAt apos.atName; let (f, first) ← holding [ov] (getMethod ov m pl); callWith pos f first (backTo pos (starEach [] X.env)) (backToKw pos (keywordEach [] X.env))) := by rfl) :
    PE X (.Call (.Attribute o m apos) [] [] pos) (tMeth C m sp [] E0 ta tNil) := by
  obtain ⟨f, fd, F, c, M, hb⟩ := D
  exact pe_meth0 ho c M F hr hb .nil pass0 ht
end
end D7
/-! D7, comprehensions that only make new things: what is asked, what comes. -/
namespace D7
open PySem L2

theorem atI_back {xs : List V} (h : 0 < xs.length) : atI xs (-1) = some (xs[xs.length - 1]'(by omega)) := by
  have ne : xs ≠ [] := fun e => by rw [e] at h; simp at h
  have q := atI_last xs.dropLast (xs.getLast ne)
  rw [List.dropLast_concat_getLast] at q
  rw [q, List.getLast_eq_getElem]
theorem Tups.lst {H : Hp} {a : Addr} {xs ys : List V} (h : H a = some (.lst xs)) : Tups H (upd H a (.lst ys)) := (Tups.refl H).write h fun _ e => by cases e
theorem Same.sqT {K : PySem.W.Frag} {H H' : Hp} {a : Addr} {xs : List V} (e : Same H H') (h : SqT K H a xs) : SqT K H' a xs := by
  rcases h with (h | ⟨o, h⟩) | h
  · exact .inl (.inl (e _ _ h))
  · exact .inl (.inr ⟨o, e _ _ h⟩)
  · exact .inr h
theorem Same.sqK {k : Bool} {K : PySem.W.Frag} {H H' : Hp} {a : Addr} {xs : List V} (e : Same H H') (h : SqK k K H a xs) : SqK k K H' a xs := by
  cases k with
  | true => exact Same.sqT e h
  | false => exact Same.seq e h
theorem filter_snoc {f : Nat → Bool} (n : Nat) : (List.range (n + 1)).filter f = (List.range n).filter f ++ if f n = true then [n] else [] := by
  rw [List.range_succ, List.filter_append, List.filter_cons]
  rfl
section
variable {g : TG} {tt : TT} {te : TE} {vs : List Nat} {σ : L2.St} {H1 : Hp} {Qd : Addr → Hp → Prop}
/-- n turns; keep tells which give an item; R what the item of turn i is -/
theorem lcGo {J : It} (n : Nat) (keep : Nat → Bool) (R : Nat → V → Hp → Prop) (hn : n ≤ sizeLine) (go : ∀ i H', Same H1 H' → i < n → J.go i H') (stop : ∀ H', Same H1 H' → J.stop n H')
    (mono : ∀ i y H H', Tups H H' → R i y H → R i y H')
    (turn : ∀ i H' x H'', i < n → Same H1 H' → J.yld i H' x H'' → ∀ (Kt : V → Hp → Prop) (Kf : Hp → Prop), (∀ y H4, keep i = true → Same H' H4 → R i y H4 → Kt y H4) → (∀ H3, keep i = false → Same H' H3 → Kf H3) →
      g x (wipe σ vs) H'' fun σ2 H2 => wipe σ2 vs = wipe σ vs ∧ tt σ2 H2 fun b H3 => if b = true then te σ2 H3 Kt else Kf H3)
    (out : ∀ D H' ys, H1 D = none → Same H1 H' → H' D = some (.lst ys) → Al (fun v i => R i v H') ys ((List.range n).filter keep) → Qd D H') :
    ∀ D, H1 D = none → ∃ W : Nat → Nat → Hp → Prop, (∃ m, W 0 m (upd H1 D (.lst []))) ∧ ∀ i m H, W i m H →
      (J.stop i H ∧ Qd D H) ∨ (J.go i H ∧ ∃ Nx : Hp → Prop, (∀ H', Nx H' → ∃ m', m' < m ∧ W (i + 1) m' H') ∧ ∀ x H', J.yld i H x H' → g x (wipe σ vs) H' fun σ2 H2 => wipe σ2 vs = wipe σ vs ∧ tt σ2 H2 fun b H3 =>
        if b = true then te σ2 H3 fun y H4 => ∃ acc, H4 D = some (.lst acc) ∧ acc.length < sizeLine ∧ Nx (upd H4 D (.lst (acc ++ [y]))) else Nx H3) := by
  intro D hD
  refine lcIt (Qd := Qd D) n (fun i H => Same H1 H ∧ ∃ acc, H D = some (.lst acc) ∧ acc.length ≤ i ∧ Al (fun v j => R j v H) acc ((List.range i).filter keep)) ⟨same_new hD, [], upd_same, Nat.zero_le _, Al.nil⟩
    (fun i H hi p => go i H p.1 hi) (fun H p => stop H p.1) (fun i H x H' hi p y => ?_) fun H ⟨s, acc, e, _, al⟩ => out D H acc hD s e al
  obtain ⟨s, acc, e, le, al⟩ := p
  refine turn i H x H' hi s y _ _ (fun v H4 hk s4 r => ?_) fun H3 hk s3 => ?_
  · have e4 := s4 _ _ e
    have tp : Tups H (upd H4 D (.lst (acc ++ [v]))) := (Same.tups s4).trans (Tups.lst e4)
    refine ⟨acc, e4, by omega, Same.mut (s.trans s4) hD, _, upd_same, by rw [List.length_append, List.length_singleton]; omega, ?_⟩
    rw [filter_snoc, if_pos hk]
    exact (al.mono fun v j q => mono j v _ _ tp q).snoc (mono _ _ _ _ (Tups.lst e4) r)
  · refine ⟨s.trans s3, acc, s3 _ _ e, by omega, ?_⟩
    rw [filter_snoc, if_neg (by rw [hk]; decide), List.append_nil]
    exact al.mono fun v j q => mono j v _ _ (Same.tups s3) q
theorem al_all {α : Type} {R : V → Nat → Prop} {ys : List V} {n : Nat} (h : Al R ys ((List.range n).filter fun _ => true)) : ys.length = n ∧ ∀ i v, ys[i]? = some v → R v i := by
  have e : (List.range n).filter (fun _ => true) = List.range n := List.filter_eq_self.mpr fun _ _ => rfl
  rw [e] at h
  refine ⟨by rw [h.len, List.length_range], fun i v hv => ?_⟩
  obtain ⟨j, ej, r⟩ := h.at_ i v hv
  have : i < n := by
    have := (List.getElem?_eq_some_iff.mp hv).1
    rw [h.len, List.length_range] at this
    exact this
  rw [List.getElem?_range this] at ej
  cases ej
  exact r
theorem al_list {α : Type} {r : List α} {f : α → V} {R : V → Nat → Prop} {ys : List V} {n : Nat} (hn : n = r.length) (h : Al R ys ((List.range n).filter fun _ => true)) (e : ∀ i v, R v i → ∃ l, r[i]? = some l ∧ v = f l) : ys = r.map f := by
  obtain ⟨l, k⟩ := al_all (α := Nat) h
  refine List.ext_getElem? fun i => ?_
  by_cases q : i < ys.length
  · have hv : ys[i]? = some ys[i] := List.getElem?_eq_getElem q
    obtain ⟨l, hl, eq⟩ := e i _ (k i _ hv)
    rw [hv, eq, List.getElem?_map, hl]
    rfl
  · rw [List.getElem?_eq_none (by omega), List.getElem?_eq_none (by rw [List.length_map]; omega)]
/-- all items given by their place -/
theorem al_map {R : V → Nat → Prop} {ys : List V} {n : Nat} {f : Nat → V} (h : Al R ys ((List.range n).filter fun _ => true)) (e : ∀ i v, R v i → v = f i) : ys = (List.range n).map f := by
  obtain ⟨l, k⟩ := al_all (α := Nat) h
  refine List.ext_getElem? fun i => ?_
  by_cases q : i < n
  · have hv : ys[i]? = some ys[i] := List.getElem?_eq_getElem (by omega)
    rw [List.getElem?_map, List.getElem?_range q, hv, e i _ (k i _ hv)]
    rfl
  · rw [List.getElem?_eq_none (by omega), List.getElem?_eq_none (by rw [List.length_map, List.length_range]; omega)]
end
section
variable {K : PySem.W.Frag} {g : TG} {tt : TT} {te : TE} {vs : List Nat} {σ : L2.St} {H1 : Hp} {Qd : Addr → Hp → Prop}
abbrev LcEnds (J : It) (g : TG) (tt : TT) (te : TE) (vs : List Nat) (σ : L2.St) (H1 : Hp) (Qd : Addr → Hp → Prop) : Prop :=
  ∀ D, H1 D = none → ∃ W : Nat → Nat → Hp → Prop, (∃ m, W 0 m (upd H1 D (.lst []))) ∧ ∀ i m H, W i m H →
      (J.stop i H ∧ Qd D H) ∨ (J.go i H ∧ ∃ Nx : Hp → Prop, (∀ H', Nx H' → ∃ m', m' < m ∧ W (i + 1) m' H') ∧ ∀ x H', J.yld i H x H' → g x (wipe σ vs) H' fun σ2 H2 => wipe σ2 vs = wipe σ vs ∧ tt σ2 H2 fun b H3 =>
        if b = true then te σ2 H3 fun y H4 => ∃ acc, H4 D = some (.lst acc) ∧ acc.length < sizeLine ∧ Nx (upd H4 D (.lst (acc ++ [y]))) else Nx H3)
theorem lcL {a : Addr} {xs : List V} (hx : SqL K H1 a xs) (hn : xs.length ≤ sizeLine) (keep : Nat → Bool) (R : Nat → V → Hp → Prop) (mono : ∀ i y H H', Tups H H' → R i y H → R i y H')
    (turn : ∀ i x H', xs[i]? = some x → Same H1 H' → ∀ (Kt : V → Hp → Prop) (Kf : Hp → Prop), (∀ y H4, keep i = true → Same H' H4 → R i y H4 → Kt y H4) → (∀ H3, keep i = false → Same H' H3 → Kf H3) →
      g x (wipe σ vs) H' fun σ2 H2 => wipe σ2 vs = wipe σ vs ∧ tt σ2 H2 fun b H3 => if b = true then te σ2 H3 Kt else Kf H3)
    (out : ∀ D H' ys, H1 D = none → Same H1 H' → H' D = some (.lst ys) → Al (fun v i => R i v H') ys ((List.range xs.length).filter keep) → Qd D H') : LcEnds (Itl K a) g tt te vs σ H1 Qd :=
  lcGo xs.length keep R hn (fun i H' s hi => ⟨xs, xs[i], Same.seq s hx, List.getElem?_eq_getElem hi⟩) (fun H' s => ⟨xs, Same.seq s hx, Nat.le_refl _⟩) mono
    (fun i H' x H'' hi s y => by
      obtain ⟨e, y⟩ := y
      subst e
      exact turn i x _ (y xs (Same.seq s hx)) s) out
theorem lcT {a : Addr} {xs : List V} (hx : SqT K H1 a xs) (hn : xs.length ≤ sizeLine) (keep : Nat → Bool) (R : Nat → V → Hp → Prop) (mono : ∀ i y H H', Tups H H' → R i y H → R i y H')
    (turn : ∀ i x H', xs[i]? = some x → Same H1 H' → ∀ (Kt : V → Hp → Prop) (Kf : Hp → Prop), (∀ y H4, keep i = true → Same H' H4 → R i y H4 → Kt y H4) → (∀ H3, keep i = false → Same H' H3 → Kf H3) →
      g x (wipe σ vs) H' fun σ2 H2 => wipe σ2 vs = wipe σ vs ∧ tt σ2 H2 fun b H3 => if b = true then te σ2 H3 Kt else Kf H3)
    (out : ∀ D H' ys, H1 D = none → Same H1 H' → H' D = some (.lst ys) → Al (fun v i => R i v H') ys ((List.range xs.length).filter keep) → Qd D H') : LcEnds (Itt K a) g tt te vs σ H1 Qd :=
  lcGo xs.length keep R hn (fun i H' s hi => ⟨xs, xs[i], Same.sqT s hx, List.getElem?_eq_getElem hi⟩) (fun H' s => ⟨xs, Same.sqT s hx, Nat.le_refl _⟩) mono
    (fun i H' x H'' hi s y => by
      obtain ⟨e, y⟩ := y
      subst e
      exact turn i x _ (y xs (Same.sqT s hx)) s) out
theorem lcR {n : Nat} (hn : n ≤ sizeLine) (keep : Nat → Bool) (R : Nat → V → Hp → Prop) (mono : ∀ i y H H', Tups H H' → R i y H → R i y H')
    (turn : ∀ i H', i < n → Same H1 H' → ∀ (Kt : V → Hp → Prop) (Kf : Hp → Prop), (∀ y H4, keep i = true → Same H' H4 → R i y H4 → Kt y H4) → (∀ H3, keep i = false → Same H' H3 → Kf H3) →
      g (.int (i : Int)) (wipe σ vs) H' fun σ2 H2 => wipe σ2 vs = wipe σ vs ∧ tt σ2 H2 fun b H3 => if b = true then te σ2 H3 Kt else Kf H3)
    (out : ∀ D H' ys, H1 D = none → Same H1 H' → H' D = some (.lst ys) → Al (fun v i => R i v H') ys ((List.range n).filter keep) → Qd D H') : LcEnds (Itr 0 n) g tt te vs σ H1 Qd :=
  lcGo n keep R hn (fun i H' s hi => hi) (fun H' s => Nat.le_refl _) mono
    (fun i H' x H'' hi s y => by
      obtain ⟨e, y⟩ := y
      subst e y
      rw [Int.zero_add]
      exact turn i _ hi s) out
/-- enumerate: the pair stands as a new tuple -/
theorem lcE {k : Bool} {a : Addr} {xs : List V} (hx : SqK k K H1 a xs) (hn : xs.length ≤ sizeLine) (keep : Nat → Bool) (R : Nat → V → Hp → Prop) (mono : ∀ i y H H', Tups H H' → R i y H → R i y H')
    (turn : ∀ i x T H', xs[i]? = some x → Same H1 H' → H' T = some (.tup [.int (i : Nat), x]) → ∀ (Kt : V → Hp → Prop) (Kf : Hp → Prop), (∀ y H4, keep i = true → Same H' H4 → R i y H4 → Kt y H4) → (∀ H3, keep i = false → Same H' H3 → Kf H3) →
      g (.ref T) (wipe σ vs) H' fun σ2 H2 => wipe σ2 vs = wipe σ vs ∧ tt σ2 H2 fun b H3 => if b = true then te σ2 H3 Kt else Kf H3)
    (out : ∀ D H' ys, H1 D = none → Same H1 H' → H' D = some (.lst ys) → Al (fun v i => R i v H') ys ((List.range xs.length).filter keep) → Qd D H') : LcEnds (ItE K k a) g tt te vs σ H1 Qd :=
  lcGo xs.length keep R hn (fun i H' s hi => ⟨xs, xs[i], Same.sqK s hx, List.getElem?_eq_getElem hi⟩) (fun H' s => ⟨xs, Same.sqK s hx, rfl⟩) mono
    (fun i H' x H'' hi s y Kt Kf k1 k2 => by
      obtain ⟨T, x', rfl, hT, rfl, y⟩ := y
      have s1 : Same H' (upd H' T (.tup [.int (i : Nat), x'])) := same_new hT
      exact turn i x' T _ (y xs (Same.sqK s hx)) (s.trans s1) upd_same Kt Kf (fun y H4 e s4 => k1 y H4 e (s1.trans s4)) fun H3 e s3 => k2 H3 e (s1.trans s3)) out
theorem lcZ {k j : Bool} {a b : Addr} {xs ys : List V} (hx : SqK k K H1 a xs) (hy : SqK j K H1 b ys) (hl : xs.length = ys.length) (hn : xs.length ≤ sizeLine) (keep : Nat → Bool) (R : Nat → V → Hp → Prop) (mono : ∀ i y H H', Tups H H' → R i y H → R i y H')
    (turn : ∀ i x y T H', xs[i]? = some x → ys[i]? = some y → Same H1 H' → H' T = some (.tup [x, y]) → ∀ (Kt : V → Hp → Prop) (Kf : Hp → Prop), (∀ y H4, keep i = true → Same H' H4 → R i y H4 → Kt y H4) → (∀ H3, keep i = false → Same H' H3 → Kf H3) →
      g (.ref T) (wipe σ vs) H' fun σ2 H2 => wipe σ2 vs = wipe σ vs ∧ tt σ2 H2 fun b H3 => if b = true then te σ2 H3 Kt else Kf H3)
    (out : ∀ D H' zs, H1 D = none → Same H1 H' → H' D = some (.lst zs) → Al (fun v i => R i v H') zs ((List.range xs.length).filter keep) → Qd D H') : LcEnds (ItZ K k j a b) g tt te vs σ H1 Qd :=
  lcGo xs.length keep R hn (fun i H' s hi => ⟨xs, ys, xs[i], ys[i]'(by omega), Same.sqK s hx, Same.sqK s hy, List.getElem?_eq_getElem hi, List.getElem?_eq_getElem (by omega)⟩)
    (fun H' s => ⟨xs, ys, Same.sqK s hx, Same.sqK s hy, by omega⟩) mono
    (fun i H' x H'' hi s y Kt Kf k1 k2 => by
      obtain ⟨T, x', y', rfl, hT, rfl, y1, y2⟩ := y
      have s1 : Same H' (upd H' T (.tup [x', y'])) := same_new hT
      exact turn i x' y' T _ (y1 xs (Same.sqK s hx)) (y2 ys (Same.sqK s hy)) (s.trans s1) upd_same Kt Kf (fun y H4 e s4 => k1 y H4 e (s1.trans s4)) fun H3 e s3 => k2 H3 e (s1.trans s3)) out
end
end D7
/-! D7, walk 1: rings.py -/
namespace D7
open PySem L2
section
variable {P : Program} {w : World} {K : PySem.W.Frag} {mg : Str → Option Value} {base : Heap}

/-! ### check_points, check_point, check_literals -/
abbrev s_check_points : Stmt := top 6
abbrev N_check_points : List Str := ["n"]
theorem sc_check_points : FnScope N_check_points ["n"] (defScope s_check_points) := ⟨rfl, rfl, rfl, by decide +kernel, rfl, by decide +kernel, by decide +kernel⟩
def sp_check_points : Sp := fun vs H Q _ => ∃ n : Nat, vs = [.int n] ∧ 1 ≤ n ∧ n ≤ 80 ∧ Q .non H
theorem ok_check_points {f : Addr} {fd : FuncData} {tk : Tok} (F : Fun K "check_points" "check_points" s_check_points f fd) (TMAX_POINTS : mg "MAX_POINTS" = some (.int 80 tk)) : FnOk P w K mg base CX0 1 f fd ["n"] sp_check_points := by
  refine F.ok sc_check_points (fun vs H Q E h => ?_) (fun cdv A outer s H vs Q E hr h => ?_)
  · obtain ⟨n, rfl, _⟩ := h
    rfl
  · obtain ⟨n, rfl, h1, h2, k⟩ := h
    refine ⟨_, (pss_one (ps_if (PW.pt (pw_or (pt_cmpR op_lt (pv 0) pe_int (nomark _)) (pw_or1 (pt_cmpR op_gt (pv 0) (pe_glob (v := .int 80) rfl TMAX_POINTS ⟨_, rfl⟩) (nomark _))))) pss_never pss_nil)), ?_⟩
    refine ⟨_, rfl, _, _, rfl, rfl, _, rfl, ?_⟩
    rw [decide_eq_false (by omega)]
    refine iteF ⟨_, rfl, _, _, rfl, rfl, _, rfl, ?_⟩
    rw [decide_eq_false (by omega)]
    exact iteF k

abbrev s_check_point : Stmt := top 7
abbrev N_check_point : List Str := ["n", "a"]
theorem sc_check_point : FnScope N_check_point ["n", "a"] (defScope s_check_point) := ⟨rfl, rfl, rfl, by decide +kernel, rfl, by decide +kernel, by decide +kernel⟩
def sp_check_point : Sp := fun vs H Q _ => ∃ n a : Nat, vs = [.int n, .int a] ∧ a < n ∧ Q .non H
theorem ok_check_point {f : Addr} {fd : FuncData} (F : Fun K "check_point" "check_point" s_check_point f fd) : FnOk P w K mg base CX0 1 f fd ["n", "a"] sp_check_point := by
  refine F.ok sc_check_point (fun vs H Q E h => ?_) (fun cdv A outer s H vs Q E hr h => ?_)
  · obtain ⟨n, a, rfl, _⟩ := h
    rfl
  · obtain ⟨n, a, rfl, h1, k⟩ := h
    refine ⟨_, (pss_one (ps_if (PW.pt (pw_or (pt_cmpR op_lt (pv 1) pe_int (nomark _)) (pw_or1 (pt_cmpR op_ge (pv 1) (pv 0) (nomark _))))) pss_never pss_nil)), ?_⟩
    refine ⟨_, rfl, _, _, rfl, rfl, _, rfl, ?_⟩
    rw [decide_eq_false (by omega)]
    refine iteF ⟨_, rfl, _, rfl, _, _, rfl, rfl, _, rfl, ?_⟩
    rw [decide_eq_false (by omega)]
    exact iteF k

/-- the literals speak of points below n -/
def Lok (n : Nat) (r : List Lit) : Prop := ∀ l ∈ r, l.a < n ∧ l.b < n
abbrev s_check_literals : Stmt := top 8
abbrev N_check_literals : List Str := ["n", "literals", "a", "b", "_"]
theorem sc_check_literals : FnScope N_check_literals ["n", "literals"] (defScope s_check_literals) := ⟨rfl, rfl, rfl, by decide +kernel, rfl, by decide +kernel, by decide +kernel⟩
def sp_check_literals : Sp := fun vs H Q _ => ∃ (n : Nat) (p : Addr) (xs : List V) (r : List Lit), vs = [.int n, .ref p] ∧ 1 ≤ n ∧ n ≤ 80 ∧ (H p = some (.lst xs) ∨ H p = some (.tup xs)) ∧ Al (LitAt H) xs r ∧ Lok n r ∧ Q .non H
theorem ok_check_literals {f : Addr} {fd : FuncData} (F : Fun K "check_literals" "check_literals" s_check_literals f fd) (D_check_points : Def P w K mg base 1 "check_points" ["n"] sp_check_points) (D_check_point : Def P w K mg base 1 "check_point" ["n", "a"] sp_check_point) :
    FnOk P w K mg base CX0 2 f fd ["n", "literals"] sp_check_literals := by
  refine F.ok sc_check_literals (fun vs H Q E h => ?_) (fun cdv A outer s H vs Q E hr h => ?_)
  · obtain ⟨n, p, xs, r, rfl, _⟩ := h
    rfl
  · obtain ⟨n, p, xs, r, rfl, h1, h2, hp, al, ok, k⟩ := h
    refine ⟨_, (pss_cons (ps_expr (callD D_check_points (hr.mono (by decide)) rfl (pa_cons (pv 0) pa_nil)))
      (pss_one (ps_for PassesOwn.never rfl (PI.or (piL K (pv 1)) (piT K (pv 1))) (pgT K 3 (pgs_cons (pg_name (i := 2) sc_check_literals.nd rfl (Or.inl rfl)) (pgs_cons (pg_name (i := 3) sc_check_literals.nd rfl (Or.inl rfl)) (pgs_cons (pg_name (i := 4) sc_check_literals.nd rfl (Or.inl rfl)) pgs_nil)))) (pss_cons (ps_expr (callD D_check_point (hr.mono (by decide)) rfl (pa_cons (pv 0) (pa_cons (pv 2) pa_nil))))
        (pss_one (ps_expr (callD D_check_point (hr.mono (by decide)) rfl (pa_cons (pv 0) (pa_cons (pv 3) pa_nil))))))))), ?_⟩
    refine ⟨_, rfl, n, rfl, h1, h2, ?_⟩
    have inv0 : ∃ u v z, ([some (.int n), some (.ref p), none, none, none] : L2.St) = [some (.int n), some (.ref p), u, v, z] ∧ H = H := ⟨_, _, _, rfl, rfl⟩
    rcases hp with hp | hp
    · refine .inl ⟨_, rfl, p, rfl, ⟨_, SqL.of hp⟩, for_list (K := K) (a := p) (xs := xs) (fun i σ Hh => ∃ u v z, σ = [some (.int n), some (.ref p), u, v, z] ∧ Hh = H) inv0 (fun i σ Hh _ q => by obtain ⟨_, _, _, _, rfl⟩ := q; exact SqL.of hp) (fun i x σ Hh hi q => ?_) ?_⟩
      · obtain ⟨u, v, z, rfl, rfl⟩ := q
        obtain ⟨l, hl, t, rfl, ht⟩ := al.at_ i x hi
        obtain ⟨oa, ob⟩ := ok l (List.mem_of_getElem? hl)
        refine ⟨t, _, rfl, SqT.of ht, rfl, _, _, rfl, _, _, rfl, _, _, rfl, rfl, ?_⟩
        refine ⟨_, rfl, _, rfl, n, l.a, rfl, oa, ?_⟩
        exact ⟨_, rfl, _, rfl, n, l.b, rfl, ob, _, _, _, rfl, rfl⟩
      · rintro σ Hh ⟨_, _, _, rfl, rfl⟩
        exact k
    · refine .inr ⟨_, rfl, p, rfl, ⟨_, SqT.of hp⟩, for_tup (K := K) (a := p) (xs := xs) (fun i σ Hh => ∃ u v z, σ = [some (.int n), some (.ref p), u, v, z] ∧ Hh = H) inv0 (fun i σ Hh _ q => by obtain ⟨_, _, _, _, rfl⟩ := q; exact SqT.of hp) (fun i x σ Hh hi q => ?_) ?_⟩
      · obtain ⟨u, v, z, rfl, rfl⟩ := q
        obtain ⟨l, hl, t, rfl, ht⟩ := al.at_ i x hi
        obtain ⟨oa, ob⟩ := ok l (List.mem_of_getElem? hl)
        refine ⟨t, _, rfl, SqT.of ht, rfl, _, _, rfl, _, _, rfl, _, _, rfl, rfl, ?_⟩
        refine ⟨_, rfl, _, rfl, n, l.a, rfl, oa, ?_⟩
        exact ⟨_, rfl, _, rfl, n, l.b, rfl, ob, _, _, _, rfl, rfl⟩
      · rintro σ Hh ⟨_, _, _, rfl, rfl⟩
        exact k

/-! ### satisfies, is_ring -/
def intsV (n : Nat) (v : Val) : List V := (List.range n).map fun i => V.int (v i)
theorem intsV_at {n i : Nat} {v : Val} (h : i < n) : (intsV n v)[i]? = some (.int (v i)) := by
  unfold intsV
  rw [List.getElem?_map, List.getElem?_range h]
  rfl
theorem intsV_len {n : Nat} {v : Val} : (intsV n v).length = n := by unfold intsV; rw [List.length_map, List.length_range]
abbrev s_satisfies : Stmt := top 9
abbrev N_satisfies : List Str := ["values", "literals", "a", "b", "c"]
theorem sc_satisfies : FnScope N_satisfies ["values", "literals"] (defScope s_satisfies) := ⟨rfl, rfl, rfl, by decide +kernel, rfl, by decide +kernel, by decide +kernel⟩
def satB (v : Val) (r : List Lit) : Bool := r.all fun l => decide (v l.a - v l.b ≤ l.c)
def sp_satisfies : Sp := fun vs H Q _ => ∃ (n : Nat) (x y : Addr) (v : Val) (xs : List V) (r : List Lit), vs = [.ref x, .ref y] ∧ H x = some (.tup (intsV n v)) ∧ H y = some (.lst xs) ∧ Al (LitAt H) xs r ∧ Lok n r ∧ r.length ≤ 1000 ∧
  ∀ H', Same H H' → Q (.bl (satB v r)) H'
theorem ok_satisfies {f : Addr} {fd : FuncData} (F : Fun K "satisfies" "satisfies" s_satisfies f fd) (B : Bt mg) : FnOk P w K mg base CX0 1 f fd ["values", "literals"] sp_satisfies := by
  refine F.ok sc_satisfies (fun vs H Q E h => ?_) (fun cdv A outer s H vs Q E hr h => ?_)
  · obtain ⟨n, x, y, v, xs, r, rfl, _⟩ := h
    rfl
  · obtain ⟨n, x, y, v, xs, r, rfl, hx, hy, al, ok, len, k⟩ := h
    refine ⟨_, (pss_one (ps_ret (pe_callB (cAll K) (by rfl) B.all (by decide +kernel) (pa_cons (pe_lc (own := [("a", 2), ("b", 3), ("c", 4)]) rfl sc_satisfies.nd (piL K (pv 1)) (blkOk_by (N := N_satisfies) (sc := defScope s_satisfies) (by decide +kernel)) (fun _ _ _ _ _ => (pgT K 3 (pgs_cons (pg_name (i := 2) sc_satisfies.nd rfl (Or.inl rfl)) (pgs_cons (pg_name (i := 3) sc_satisfies.nd rfl (Or.inl rfl)) (pgs_cons (pg_name (i := 4) sc_satisfies.nd rfl (Or.inl rfl)) pgs_nil))))) (fun _ _ _ _ _ => pts_nil) (fun _ _ _ _ _ => (pe_cmpR op_le (pe_op op_sub (pe_ix (ixT K) (pv 0) (pv 2) (fun _ _ => rfl)) (pe_ix (ixT K) (pv 0) (pv 3) (fun _ _ => rfl))) (pv 4) (nomark _)))) pa_nil)))), ?_⟩
    refine ⟨_, rfl, y, rfl, ⟨_, SqL.of hy⟩, ?_⟩
    refine lcL (K := K) (SqL.of hy) (by rw [al.len]; exact Nat.le_of_lt (small1000 len)) (fun _ => true) (fun i u H' => ∃ l, r[i]? = some l ∧ u = V.bl (decide (v l.a - v l.b ≤ l.c))) (fun _ _ _ _ _ q => q) (fun i u H' hi sm Kt Kf k1 _ => ?_) fun D H' ys hD sm hL q => ?_
    · obtain ⟨l, hl, t, rfl, ht⟩ := al.at_ i u hi
      obtain ⟨oa, ob⟩ := ok l (List.mem_of_getElem? hl)
      refine ⟨t, _, rfl, SqT.of (sm _ _ ht), rfl, _, _, rfl, _, _, rfl, _, _, rfl, rfl, rfl, ?_⟩
      refine ⟨_, rfl, _, rfl, x, _, _, _, rfl, rfl, SqT.of (sm _ _ hx), atI_nat (intsV_at oa), _, rfl, _, rfl, x, _, _, _, rfl, rfl, SqT.of (sm _ _ hx), atI_nat (intsV_at ob), _, _, rfl, rfl, ?_⟩
      exact ⟨_, rfl, _, _, rfl, rfl, k1 _ _ rfl (Same.refl _) ⟨l, hl, rfl⟩⟩
    · have ey : ys = (r.map fun l => decide (v l.a - v l.b ≤ l.c)).map V.bl := by
        rw [List.map_map]
        exact al_list al.len q fun _ _ z => z
      subst ey
      refine ⟨D, _, rfl, SqL.of hL, ?_⟩
      rw [List.all_map]
      exact k H' sm
abbrev s_is_ring : Stmt := top 10
abbrev N_is_ring : List Str := ["ring", "_", "c", "at"]
theorem sc_is_ring : FnScope N_is_ring ["ring"] (defScope s_is_ring) := ⟨rfl, rfl, rfl, by decide +kernel, rfl, by decide +kernel, by decide +kernel⟩
def sp_is_ring : Sp := fun vs H Q _ => ∃ (v : V) (r : List Lit), vs = [v] ∧ RowAt H v r ∧ IsRing r ∧ r.length ≤ 1000 ∧ ∀ H', Same H H' → Q (.bl true) H'
theorem ok_is_ring {f : Addr} {fd : FuncData} (F : Fun K "is_ring" "is_ring" s_is_ring f fd) (B : Bt mg) : FnOk P w K mg base CX0 1 f fd ["ring"] sp_is_ring := by
  refine F.ok sc_is_ring (fun vs H Q E h => ?_) (fun cdv A outer s H vs Q E hr h => ?_)
  · obtain ⟨v, r, rfl, _⟩ := h
    rfl
  · obtain ⟨v, r, rfl, ⟨xs, ⟨a, rfl, ha⟩, al⟩, hring, len, k⟩ := h
    obtain ⟨ne, neg, x0, way⟩ := hring
    have pos : 0 < r.length := List.length_pos_iff.mpr ne
    have sz : xs.length ≤ sizeLine := by
      rw [al.len]
      exact Nat.le_of_lt (small1000 len)
    have al1 := al.len
    refine ⟨_, (pss_cons (ps_if (PW.pt (pw_or (pt_cmpR op_eq (pe_callB (cLen K) (by rfl) B.len (by decide +kernel) (pa_cons (pv 0) pa_nil)) pe_int (nomark _)) (pw_or1 (pt_cmpR op_ge (pe_callB (cSum K) (by rfl) B.sum (by decide +kernel) (pa_cons (pe_lc (own := [("_", 1), ("c", 2)]) rfl sc_is_ring.nd (piT K (pv 0)) (blkOk_by (N := N_is_ring) (sc := defScope s_is_ring) (by decide +kernel)) (fun _ _ _ _ _ => (pgT K 3 (pgs_cons (pg_name (i := 1) sc_is_ring.nd rfl (Or.inl rfl)) (pgs_cons (pg_name (i := 1) sc_is_ring.nd rfl (Or.inl rfl)) (pgs_cons (pg_name (i := 2) sc_is_ring.nd rfl (Or.inl rfl)) pgs_nil))))) (fun _ _ _ _ _ => pts_nil) (fun _ _ _ _ _ => (pv 2))) pa_nil)) pe_int (nomark _))))) (pss_one (ps_ret pe_bl)) pss_nil)
      (pss_one (ps_ret (pe_callB (cAll K) (by rfl) B.all (by decide +kernel) (pa_cons (pe_lc (own := [("at", 3)]) rfl sc_is_ring.nd (pi_range1 rfl B.range (pa_cons (pe_callB (cLen K) (by rfl) B.len (by decide +kernel) (pa_cons (pv 0) pa_nil)) pa_nil)) (blkOk_by (N := N_is_ring) (sc := defScope s_is_ring) (by decide +kernel)) (fun _ _ _ _ _ => (pg_name (i := 3) sc_is_ring.nd rfl (Or.inl rfl))) (fun _ _ _ _ _ => pts_nil) (fun _ _ _ _ _ => (pe_cmpR op_eq (pe_ix (ixT K) (pe_ix (ixT K) (pv 0) (pv 3) (fun _ _ => rfl)) pe_int (fun _ _ => rfl)) (pe_ix (ixT K) (pe_ix (ixT K) (pv 0) (pe_op op_sub (pv 3) pe_int) (fun _ _ => rfl)) pe_int (fun _ _ => rfl)) (nomark _)))) pa_nil))))), ?_⟩
    refine ⟨_, rfl, a, xs, rfl, .inr (SqT.of ha), rfl, _, rfl, ?_⟩
    have e0 : decide (V.int (xs.length : Int) = V.int 0) = false := decide_eq_false fun q => by
      have : (xs.length : Int) = 0 := V.int.inj q
      omega
    rw [e0]
    refine iteF ⟨_, rfl, a, rfl, ⟨_, SqT.of ha⟩, ?_⟩
    refine lcT (K := K) (SqT.of ha) sz (fun _ => true) (fun i u H' => ∃ l, r[i]? = some l ∧ u = V.int l.c) (fun _ _ _ _ _ q => q) (fun i u H' hi sm Kt Kf k1 _ => ?_) fun D H' ys hD sm hL q => ?_
    · obtain ⟨l, hl, t, rfl, ht⟩ := al.at_ i u hi
      exact ⟨t, _, rfl, SqT.of (sm _ _ ht), rfl, _, _, rfl, _, _, rfl, _, _, rfl, rfl, rfl, _, rfl, k1 _ _ rfl (Same.refl _) ⟨l, hl, rfl⟩⟩
    · have ey : ys = (r.map Lit.c).map V.int := by
        rw [List.map_map]
        exact al_list al.len q fun _ _ z => z
      subst ey
      refine ⟨D, _, rfl, SqL.of hL, _, _, rfl, rfl, _, rfl, ?_⟩
      have e1 : decide ((0 : Int) ≤ (r.map Lit.c).sum) = false := decide_eq_false (by
        have : (r.map Lit.c).sum < 0 := neg
        omega)
      rw [e1]
      refine iteF ⟨_, rfl, a, xs, rfl, .inr (SqT.of (sm _ _ ha)), _, rfl, by omega, by
        have := small1000 len
        rw [sizeLine_eq] at this
        omega, ?_⟩
      refine lcR (n := xs.length) sz (fun _ => true) (fun i u H' => u = V.bl true) (fun _ _ _ _ _ q => q) (fun i H2 hi sm2 Kt Kf k1 _ => ?_) fun D2 H2 zs hD2 sm2 hL2 q2 => ?_
      · have s2 := sm.trans sm2
        obtain ⟨l, hl⟩ : ∃ l, r[i]? = some l := ⟨r[i]'(by omega), List.getElem?_eq_getElem _⟩
        obtain ⟨v1, hv1, t1, rfl, ht1⟩ := al.back hl
        have at0 := way.at i l hl
        obtain ⟨v2, m, j, hj, hm, e2⟩ : ∃ (v2 : V) (m : Lit) (j : Nat), atI xs ((i : Int) - 1) = some v2 ∧ xs[j]? = some v2 ∧ r[j]? = some m ∧ l.a = m.b := by
          cases i with
          | zero =>
            have lt : xs.length - 1 < xs.length := by omega
            refine ⟨xs[xs.length - 1], r[r.length - 1]'(by omega), r.length - 1, ?_, ?_, List.getElem?_eq_getElem _, ?_⟩
            · exact atI_back (by omega)
            · rw [← al.len]
              exact List.getElem?_eq_getElem _
            · rw [at0.1 rfl]
              exact ((way.at (r.length - 1) _ (List.getElem?_eq_getElem (by omega))).2.2 (by omega)).symm
          | succ i =>
            refine ⟨xs[i]'(by omega), r[i]'(by omega), i, ?_, List.getElem?_eq_getElem _, List.getElem?_eq_getElem _, at0.2.1 i _ rfl (List.getElem?_eq_getElem _)⟩
            have : ((i + 1 : Nat) : Int) - 1 = (i : Int) := by omega
            rw [this]
            exact atI_nat (List.getElem?_eq_getElem _)
        obtain ⟨m', hm', t2, rfl, ht2⟩ := al.at_ j v2 hm
        obtain ⟨e2, e3⟩ := e2
        rw [e2] at hm'
        cases hm'
        refine ⟨rfl, _, rfl, _, rfl, a, _, _, _, rfl, rfl, SqT.of (s2 _ _ ha), atI_nat hv1, t1, _, _, _, rfl, rfl, SqT.of (s2 _ _ ht1), rfl, ?_⟩
        refine ⟨_, rfl, _, rfl, _, _, rfl, rfl, a, _, _, _, rfl, rfl, SqT.of (s2 _ _ ha), hj, t2, _, _, _, rfl, rfl, SqT.of (s2 _ _ ht2), rfl, rfl, ?_⟩
        rw [decide_eq_true (by rw [e3])]
        exact k1 _ _ rfl (Same.refl _) rfl
      · obtain ⟨e2, e3⟩ := al_all (α := Nat) q2
        have ey : zs = (List.replicate xs.length true).map V.bl := by
          rw [List.map_replicate]
          exact List.eq_replicate_iff.mpr ⟨e2, fun b hb => by
            obtain ⟨i, hi⟩ := List.getElem?_of_mem hb
            exact e3 i b hi⟩
        subst ey
        refine ⟨D2, _, rfl, SqL.of hL2, ?_⟩
        rw [List.all_replicate]
        have e4 : (if xs.length = 0 then true else id true) = true := by split <;> rfl
        rw [e4]
        exact k H2 (sm.trans sm2)
end
end D7
/-! D7, walk 2: ring_at, ring_from, find_ring -/
namespace D7
open PySem L2

theorem intsV_set {n i : Nat} {v : Val} {z : Int} : (intsV n v).set i (.int z) = intsV n (set1 v i z) := by
  refine List.ext_getElem? fun j => ?_
  rw [List.getElem?_set, intsV_len]
  by_cases h : i = j
  · subst h
    rw [if_pos rfl]
    by_cases q : i < n
    · rw [if_pos q, intsV_at q, set1_same]
    · rw [if_neg q, List.getElem?_eq_none (by rw [intsV_len]; omega)]
  · rw [if_neg h]
    by_cases q : j < n
    · rw [intsV_at q, intsV_at q, set1_ne (fun e => h e.symm)]
    · rw [List.getElem?_eq_none (by rw [intsV_len]; omega), List.getElem?_eq_none (by rw [intsV_len]; omega)]
/-- the literals that lowered points last -/
structure LastAt (H : Hp) (xs : List V) (n : Nat) (last : Nat → Option Lit) : Prop where
  len : xs.length = n
  non : ∀ i, i < n → last i = none → xs[i]? = some .non
  lit : ∀ i l, i < n → last i = some l → ∃ v, xs[i]? = some v ∧ LitAt H v l
theorem LastAt.mono {H H' : Hp} {xs : List V} {n : Nat} {last : Nat → Option Lit} (t : Tups H H') (h : LastAt H xs n last) : LastAt H' xs n last :=
  ⟨h.len, h.non, fun i l hi e => let ⟨v, e1, e2⟩ := h.lit i l hi e; ⟨v, e1, e2.mono t⟩⟩
theorem LastAt.set {H : Hp} {xs : List V} {n : Nat} {last : Nat → Option Lit} {a : Nat} {w : V} {l : Lit} (h : LastAt H xs n last) (r : LitAt H w l) : LastAt H (xs.set a w) n (set1 last a (some l)) := by
  refine ⟨by rw [List.length_set, h.len], fun i hi e => ?_, fun i m hi e => ?_⟩
  · by_cases q : i = a
    · subst q
      rw [set1_same] at e
      cases e
    · rw [set1_ne q] at e
      rw [List.getElem?_set_ne (fun z => q z.symm)]
      exact h.non i hi e
  · by_cases q : i = a
    · subst q
      rw [set1_same] at e
      cases e
      exact ⟨w, by rw [List.getElem?_set_self (by rw [h.len]; exact hi)], r⟩
    · rw [set1_ne q] at e
      rw [List.getElem?_set_ne (fun z => q z.symm)]
      exact h.lit i m hi e
theorem intV_eq {a b : Nat} : decide (V.int (a : Int) = V.int (b : Int)) = decide (a = b) := by
  rw [Bool.eq_iff_iff, decide_eq_true_eq, decide_eq_true_eq]
  exact ⟨fun h => by have := V.int.inj h; omega, fun h => by rw [h]⟩
theorem rep_one {x : V} : ∀ n, (List.replicate n [x]).flatten = List.replicate n x
  | 0 => rfl
  | n + 1 => by
    rw [List.replicate_succ, List.flatten_cons, rep_one n]
    rfl
theorem intsV_zero {n : Nat} : List.replicate n (V.int 0) = intsV n (fun _ => 0) := by
  unfold intsV
  refine (List.eq_replicate_iff.mpr ⟨by rw [List.length_map, List.length_range], fun b hb => ?_⟩).symm
  obtain ⟨_, _, e⟩ := List.mem_map.mp hb
  exact e.symm
theorem ixN_nat {n j : Nat} (h : j < n) : ixN n (j : Int) = some j := by
  unfold ixN
  rw [if_pos (by omega), if_pos (by omega), Int.toNat_natCast]
def optV : Option Nat → V
  | none => .non
  | some a => .int a
section
variable {P : Program} {w : World} {K : PySem.W.Frag} {mg : Str → Option Value} {base : Heap}
abbrev s_ring_at : Stmt := top 12
abbrev N_ring_at : List Str := ["n", "last", "start", "ring", "at", "_"]
theorem sc_ring_at : FnScope N_ring_at ["n", "last", "start"] (defScope s_ring_at) := ⟨rfl, rfl, rfl, by decide +kernel, rfl, by decide +kernel, by decide +kernel⟩
def sp_ring_at : Sp := fun vs H Q _ => ∃ (n : Nat) (p : Addr) (start : Nat) (xs : List V) (last : Nat → Option Lit), vs = [.int n, .ref p, .int start] ∧ n ≤ 1000 ∧ H p = some (.lst xs) ∧ LastAt H xs n last ∧ start < n ∧ (∀ x l, last x = some l → l.b < n) ∧
  (∀ H', Same H H' → Q .non H') ∧ ∀ H' v r, Same H H' → RowAt H' v r → r ≠ [] → Tour last start r start → (∀ m, 0 < m → m < r.length → it last start m ≠ start) → Q v H'
theorem ok_ring_at {f : Addr} {fd : FuncData} (F : Fun K "ring_at" "ring_at" s_ring_at f fd) (B : Bt mg) : FnOk P w K mg base CX0 1 f fd ["n", "last", "start"] sp_ring_at := by
  refine F.ok sc_ring_at (fun vs H Q E h => ?_) (fun cdv A outer s H vs Q E hr h => ?_)
  · obtain ⟨n, p, start, xs, last, rfl, _⟩ := h
    rfl
  · obtain ⟨n, p, start, xs, last, rfl, hn, hp, la, hs, hb, k0, k⟩ := h
    refine ⟨_, (pss_cons (ps_set (i := 3) sc_ring_at.nd rfl (Or.inl rfl) (pe_lst pa_nil))
      (pss_cons (ps_set (i := 4) sc_ring_at.nd rfl (Or.inl rfl) (pv 2))
      (pss_cons (ps_for PassesOwn.never rfl (pi_range1 rfl B.range (pa_cons (pv 0) pa_nil)) (pg_name (i := 5) sc_ring_at.nd rfl (Or.inl rfl)) (pss_cons (ps_if (pt_cmpR op_isN (pe_ix (ixL K) (pv 1) (pv 4) (fun _ _ => rfl)) pe_non (nomark _)) (pss_one (ps_ret pe_non)) pss_nil)
        (pss_cons (ps_expr (pe_bm PySem.F.plainAttrs_list PySem.F.slot_list_append PySem.F.type_list_append mt_append (pv 3) (pa_cons (pe_ix (ixL K) (pv 1) (pv 4) (fun _ _ => rfl)) pa_nil)))
        (pss_cons (ps_set (i := 4) sc_ring_at.nd rfl (Or.inl rfl) (pe_ix (ixT K) (pe_ix (ixL K) (pv 1) (pv 4) (fun _ _ => rfl)) pe_int (fun _ _ => rfl)))
        (pss_one (ps_if (pt_cmpR op_eq (pv 4) (pv 2) (nomark _)) (pss_one (ps_ret (pe_callTy (cTuple K) (by rfl) B.tuple (by decide +kernel) (pa_cons (pv 3) pa_nil)))) pss_nil))))))
      (pss_one (ps_ret pe_non))))), ?_⟩
    refine ⟨Nat.zero_le _, fun D hD => ?_⟩
    refine ⟨_, rfl, ?_⟩
    refine ⟨_, rfl, n, rfl, by omega, by omega, ?_⟩
    have npD : p ≠ D := ne_of_none hp hD
    refine for_range (lo := 0) (n := n) (fun i σ H' => ∃ (vs : List V) (r : List Lit) (y : Nat) (u : Option V), σ = [some (.int n), some (.ref p), some (.int start), some (.ref D), some (.int y), u] ∧ Same H H' ∧ H' D = some (.lst vs) ∧ Al (LitAt H') vs r ∧ r.length = i ∧ Tour last start r y ∧ y < n ∧ ∀ m, 0 < m → m ≤ i → it last start m ≠ start)
      ⟨[], [], start, none, rfl, same_new hD, upd_same, Al.nil, rfl, .nil, hs, fun m a b => by omega⟩ (fun i σ H' hi q => ?_) fun σ H' q => ?_
    · obtain ⟨vs, r, y, u, rfl, sm, eD, al, rl, tr, hy, nr⟩ := q
      have ep := sm _ _ hp
      have len := al.len
      have sz : vs.length < sizeLine := small1000 (by omega)
      cases e : last y with
      | none =>
        have ex := la.non y hy e
        refine ⟨_, rfl, _, rfl, p, xs, _, _, rfl, rfl, SqL.of ep, atI_nat ex, rfl, _, rfl, ?_⟩
        exact k0 H' sm
      | some l =>
        obtain ⟨v, ex, t, rfl, ht⟩ := la.lit y l hy e
        have et := sm _ _ ht
        refine ⟨_, rfl, _, rfl, p, xs, _, _, rfl, rfl, SqL.of ep, atI_nat ex, rfl, _, rfl, ?_⟩
        refine ⟨_, rfl, .inl ⟨rfl, _, SqL.of eD⟩, _, rfl, _, rfl, p, xs, _, _, rfl, rfl, SqL.of ep, atI_nat ex, D, vs, _, rfl, rfl, eD, sz, ?_⟩
        have sm2 : Same H (upd H' D (.lst (vs ++ [.ref t]))) := Same.mut sm hD
        have tp : Tups H' (upd H' D (.lst (vs ++ [.ref t]))) := Tups.lst eD
        have al2 : Al (LitAt (upd H' D (.lst (vs ++ [.ref t])))) (vs ++ [.ref t]) (r ++ [l]) := (LitsAt.mono tp al).snoc ⟨t, rfl, tp _ _ et⟩
        have tr2 : Tour last start (r ++ [l]) l.b := tr.snoc e
        have at2 := tr2.at
        rw [List.length_append, List.length_singleton] at at2
        refine ⟨_, rfl, _, rfl, p, xs, _, _, rfl, rfl, SqL.of (sm2 _ _ hp), atI_nat ex, t, _, _, _, rfl, rfl, SqT.of (tp _ _ et), rfl, ?_⟩
        refine ⟨_, rfl, _, rfl, rfl, _, rfl, ?_⟩
        rw [intV_eq]
        refine ite2 (fun c => ?_) fun c => ?_
        · have c : l.b = start := of_decide_eq_true c
          refine ⟨_, rfl, D, _, rfl, SqL.of upd_same, fun q hq => ?_⟩
          rw [c] at tr2
          refine k _ _ (r ++ [l]) (sm2.trans (same_new hq)) ⟨_, ⟨q, rfl, upd_same⟩, LitsAt.mono (Same.tups (same_new hq)) al2⟩ (by simp) tr2 fun m h1 h2 => nr m h1 ?_
          rw [List.length_append, List.length_singleton] at h2
          omega
        · have c : l.b ≠ start := fun z => c (decide_eq_true z)
          refine ⟨_, _, l.b, _, rfl, sm2, upd_same, al2, by rw [List.length_append, List.length_singleton, rl], tr2, hb y l e, fun m h1 h2 => ?_⟩
          rcases Nat.lt_or_ge m (i + 1) with z | z
          · exact nr m h1 (by omega)
          · have : m = r.length + 1 := by omega
            rw [this, ← at2]
            exact c
    · obtain ⟨vs, r, y, u, rfl, sm, _⟩ := q
      exact k0 H' sm

abbrev s_ring_from : Stmt := top 13
abbrev N_ring_from : List Str := ["n", "last", "start", "at", "_", "ring"]
theorem sc_ring_from : FnScope N_ring_from ["n", "last", "start"] (defScope s_ring_from) := ⟨rfl, rfl, rfl, by decide +kernel, rfl, by decide +kernel, by decide +kernel⟩
def sp_ring_from : Sp := fun vs H Q _ => ∃ (n : Nat) (p : Addr) (start : Nat) (xs : List V) (last : Nat → Option Lit), vs = [.int n, .ref p, .int start] ∧ n ≤ 1000 ∧ H p = some (.lst xs) ∧ LastAt H xs n last ∧ (∀ m, (∃ l, last (it last start m) = some l) ∧ it last start m < n) ∧
  (∃ d, 0 < d ∧ d ≤ n ∧ it last (it last start n) d = it last start n) ∧ ∀ H' v r, Same H H' → RowAt H' v r → r ≠ [] → Tour last (it last start n) r (it last start n) → (∀ m, 0 < m → m < r.length → it last (it last start n) m ≠ it last start n) → Q v H'
theorem ok_ring_from {f : Addr} {fd : FuncData} (F : Fun K "ring_from" "ring_from" s_ring_from f fd) (B : Bt mg) : FnOk P w K mg base CX0 1 f fd ["n", "last", "start"] sp_ring_from := by
  refine F.ok sc_ring_from (fun vs H Q E h => ?_) (fun cdv A outer s H vs Q E hr h => ?_)
  · obtain ⟨n, p, start, xs, last, rfl, _⟩ := h
    rfl
  · obtain ⟨n, p, start, xs, last, rfl, hn, hp, la, go, ⟨d, d0, dn, hd⟩, k⟩ := h
    refine ⟨_, (pss_cons (ps_set (i := 3) sc_ring_from.nd rfl (Or.inl rfl) (pv 2))
      (pss_cons (ps_for PassesOwn.never rfl (pi_range1 rfl B.range (pa_cons (pv 0) pa_nil)) (pg_name (i := 4) sc_ring_from.nd rfl (Or.inl rfl)) (pss_one (ps_set (i := 3) sc_ring_from.nd rfl (Or.inl rfl) (pe_ix (ixT K) (pe_ix (ixL K) (pv 1) (pv 3) (fun _ _ => rfl)) pe_int (fun _ _ => rfl)))))
      (pss_cons (ps_set (i := 5) sc_ring_from.nd rfl (Or.inl rfl) (pe_lst (pa_cons (pe_ix (ixL K) (pv 1) (pv 3) (fun _ _ => rfl)) pa_nil)))
      (pss_cons (ps_while PassesOwn.never (pt_cmpR op_ne (pe_ix (ixT K) (pe_ix (ixL K) (pv 5) (pe_un un_neg pe_int) (fun _ _ => rfl)) pe_int (fun _ _ => rfl)) (pv 3) (nomark _)) (pss_one (ps_expr (pe_bm PySem.F.plainAttrs_list PySem.F.slot_list_append PySem.F.type_list_append mt_append (pv 5) (pa_cons (pe_ix (ixL K) (pv 1) (pe_ix (ixT K) (pe_ix (ixL K) (pv 5) (pe_un un_neg pe_int) (fun _ _ => rfl)) pe_int (fun _ _ => rfl)) (fun _ _ => rfl)) pa_nil)))))
      (pss_one (ps_ret (pe_callTy (cTuple K) (by rfl) B.tuple (by decide +kernel) (pa_cons (pv 5) pa_nil)))))))), ?_⟩
    refine ⟨_, rfl, ?_⟩
    refine ⟨_, rfl, n, rfl, by omega, by omega, ?_⟩
    refine for_range (lo := 0) (n := n) (fun i σ H' => ∃ (u : Option V), σ = [some (.int n), some (.ref p), some (.int start), some (.int (it last start i)), u, none] ∧ H' = H) ⟨none, rfl, rfl⟩ (fun i σ H' hi q => ?_) fun σ H' q => ?_
    · obtain ⟨u, rfl, rfl⟩ := q
      obtain ⟨⟨l, hl⟩, lt⟩ := go i
      obtain ⟨v, ex, t, rfl, ht⟩ := la.lit _ l lt hl
      refine ⟨_, rfl, _, rfl, p, xs, _, _, rfl, rfl, SqL.of hp, atI_nat ex, t, _, _, _, rfl, rfl, SqT.of ht, rfl, ?_⟩
      have e : it last start (i + 1) = l.b := nx_of hl
      refine ⟨some (.int (0 + (i : Int))), ?_, rfl⟩
      rw [e]
      rfl
    · obtain ⟨u, rfl, rfl⟩ := q
      generalize hz : it last start n = z at k hd ⊢
      have go' : ∀ m, (∃ l, last (it last z m) = some l) ∧ it last z m < n := fun m => by
        rw [← hz, ← it_add]
        exact go _
      obtain ⟨⟨l, hl⟩, lt⟩ := go' 0
      obtain ⟨v, ex, t, rfl, ht⟩ := la.lit _ l lt hl
      refine ⟨_, rfl, _, rfl, p, xs, _, _, rfl, rfl, SqL.of hp, atI_nat ex, by show 1 ≤ sizeLine; decide, fun D hD => ?_⟩
      have npD : p ≠ D := ne_of_none hp hD
      -- the loop
      refine ⟨fun m σ H2 => ∃ (vs : List V) (r : List Lit) (l : Lit), σ = [some (.int n), some (.ref p), some (.int start), some (.int z), u, some (.ref D)] ∧ Same H' H2 ∧ H2 D = some (.lst (vs)) ∧ Al (LitAt H2) vs (r ++ [l]) ∧ Tour last z (r ++ [l]) l.b ∧ (∀ j, 0 < j → j < r.length + 1 → it last z j ≠ z) ∧ r.length + 1 + m = d + 1 ∧ r.length + 1 ≤ d, ?_, fun m σ H2 q => ?_⟩
      · refine ⟨d, [.ref t], [], l, rfl, same_new hD, upd_same, Al.one ⟨t, rfl, (same_new hD) _ _ ht⟩, .snoc .nil hl, fun j a b => ?_, by simp only [List.length_nil]; omega, by simp only [List.length_nil]; omega⟩
        simp only [List.length_nil] at b
        omega
      · obtain ⟨vs, r, l, rfl, sm, eD, al, tr, nr, em, le⟩ := q
        have len := al.len
        rw [List.length_append, List.length_singleton] at len
        have at2 := tr.at
        rw [List.length_append, List.length_singleton] at at2
        have hlast : vs[vs.length - 1]? = some (vs[vs.length - 1]'(by omega)) := List.getElem?_eq_getElem _
        obtain ⟨l', hl', t2, et2, ht2⟩ := al.at_ _ _ hlast
        have : l' = l := by
          rw [len, Nat.add_sub_cancel, List.getElem?_append_right (Nat.le_refl _), Nat.sub_self] at hl'
          exact (Option.some.inj hl').symm
        subst this
        have back := atI_back (xs := vs) (by omega)
        rw [et2] at back
        refine ⟨_, rfl, _, rfl, D, vs, _, _, rfl, rfl, SqL.of eD, back, t2, _, _, _, rfl, rfl, SqT.of ht2, rfl, _, rfl, rfl, _, rfl, ?_⟩
        rw [intV_eq]
        by_cases c : l'.b = z
        · rw [decide_eq_true c]
          refine ⟨_, rfl, D, _, rfl, SqL.of eD, fun q hq => ?_⟩
          rw [c] at tr
          refine k _ _ (r ++ [l']) (sm.trans (same_new hq)) ⟨_, ⟨q, rfl, upd_same⟩, LitsAt.mono (Same.tups (same_new hq)) al⟩ (by simp) tr fun j h1 h2 => nr j h1 ?_
          rw [List.length_append, List.length_singleton] at h2
          omega
        · rw [decide_eq_false c]
          have lt2 : r.length + 1 < d := by
            rcases Nat.lt_or_ge (r.length + 1) d with q | q
            · exact q
            · have : r.length + 1 = d := by omega
              rw [this, hd] at at2
              exact (c at2).elim
          obtain ⟨⟨l2, hl2⟩, lt3⟩ := go' (r.length + 1)
          rw [← at2] at hl2 lt3
          obtain ⟨v2, ex2, t3, rfl, ht3⟩ := la.lit _ l2 lt3 hl2
          have ep := sm _ _ hp
          refine ⟨_, fun σ' H3 n3 => n3, ?_⟩
          refine ⟨_, rfl, .inl ⟨rfl, _, SqL.of eD⟩, _, rfl, _, rfl, _, rfl, D, vs, _, _, rfl, rfl, SqL.of eD, back, t2, _, _, _, rfl, rfl, SqT.of ht2, rfl, p, xs, _, _, rfl, rfl, SqL.of ep, atI_nat ex2, D, vs, _, rfl, rfl, eD, small1000 (by omega), ?_⟩
          have tp : Tups H2 (upd H2 D (.lst (vs ++ [.ref t3]))) := Tups.lst eD
          refine ⟨m - 1, by omega, vs ++ [.ref t3], r ++ [l'], l2, rfl, Same.mut sm hD, upd_same, (LitsAt.mono tp al).snoc ⟨t3, rfl, tp _ _ (sm _ _ ht3)⟩, tr.snoc hl2, fun j h1 h2 => ?_, by rw [List.length_append, List.length_singleton]; omega, by rw [List.length_append, List.length_singleton]; omega⟩
          rw [List.length_append, List.length_singleton] at h2
          rcases Nat.lt_or_ge j (r.length + 1) with q | q
          · exact nr j h1 q
          · have : j = r.length + 1 := by omega
            rw [this, ← at2]
            exact c

abbrev s_find_ring : Stmt := top 11
abbrev N_find_ring : List Str := ["n", "literals", "values", "last", "lowered", "_", "literal", "a", "b", "c", "ring"]
theorem sc_find_ring : FnScope N_find_ring ["n", "literals"] (defScope s_find_ring) := ⟨rfl, rfl, rfl, by decide +kernel, rfl, by decide +kernel, by decide +kernel⟩
def sp_find_ring : Sp := fun vs H Q _ => ∃ (n : Nat) (p : Addr) (xs : List V) (Ls : List Lit), vs = [.int n, .ref p] ∧ 1 ≤ n ∧ n ≤ 80 ∧ H p = some (.lst xs) ∧ Al (LitAt H) xs Ls ∧ Lok n Ls ∧
  (∀ H' v, Same H H' → Sat v Ls → Q .non H') ∧ ∀ H' u r, Same H H' → RowAt H' u r → IsRing r → (∀ l ∈ r, l ∈ Ls) → r.Nodup → r.length ≤ n → Q u H'
theorem ok_find_ring {f : Addr} {fd : FuncData} (F : Fun K "find_ring" "find_ring" s_find_ring f fd) (B : Bt mg) (D_check_literals : Def P w K mg base 2 "check_literals" ["n", "literals"] sp_check_literals)
    (D_ring_at : Def P w K mg base 1 "ring_at" ["n", "last", "start"] sp_ring_at) (D_ring_from : Def P w K mg base 1 "ring_from" ["n", "last", "start"] sp_ring_from) : FnOk P w K mg base CX0 3 f fd ["n", "literals"] sp_find_ring := by
  refine F.ok sc_find_ring (fun vs H Q E h => ?_) (fun cdv A outer s H vs Q E hr h => ?_)
  · obtain ⟨n, p, xs, Ls, rfl, _⟩ := h
    rfl
  · obtain ⟨n, p, xs, Ls, rfl, hn1, hn, hp, al, ok, k0, k⟩ := h
    refine ⟨_, (pss_cons (ps_expr (callD D_check_literals (hr.mono (by decide)) rfl (pa_cons (pv 0) (pa_cons (pv 1) pa_nil))))
      (pss_cons (ps_set (i := 2) sc_find_ring.nd rfl (Or.inl rfl) (pe_op op_rep (pe_lst (pa_cons pe_int pa_nil)) (pv 0)))
      (pss_cons (ps_set (i := 3) sc_find_ring.nd rfl (Or.inl rfl) (pe_op op_rep (pe_lst (pa_cons pe_non pa_nil)) (pv 0)))
      (pss_cons (ps_set (i := 4) sc_find_ring.nd rfl (Or.inl rfl) pe_non)
      (pss_cons (ps_for PassesOwn.never rfl (pi_range1 rfl B.range (pa_cons (pe_op op_add (pv 0) pe_int) pa_nil)) (pg_name (i := 5) sc_find_ring.nd rfl (Or.inl rfl)) (pss_cons (ps_set (i := 4) sc_find_ring.nd rfl (Or.inl rfl) pe_non)
        (pss_cons (ps_for PassesOwn.never rfl (piL K (pv 1)) (pg_name (i := 6) sc_find_ring.nd rfl (Or.inl rfl)) (pss_cons (ps_asg (pv 6) (pgT K 3 (pgs_cons (pg_name (i := 7) sc_find_ring.nd rfl (Or.inl rfl)) (pgs_cons (pg_name (i := 8) sc_find_ring.nd rfl (Or.inl rfl)) (pgs_cons (pg_name (i := 9) sc_find_ring.nd rfl (Or.inl rfl)) pgs_nil)))))
          (pss_one (ps_if (pt_cmpR op_gt (pe_ix (ixL K) (pv 2) (pv 7) (fun _ _ => rfl)) (pe_op op_add (pe_ix (ixL K) (pv 2) (pv 8) (fun _ _ => rfl)) (pv 9)) (nomark _)) (pss_cons (ps_asg (pe_op op_add (pe_ix (ixL K) (pv 2) (pv 8) (fun _ _ => rfl)) (pv 9)) (pg_sub (pv 2) (pv 7) set_list))
            (pss_cons (ps_asg (pv 6) (pg_sub (pv 3) (pv 7) set_list))
            (pss_one (ps_set (i := 4) sc_find_ring.nd rfl (Or.inl rfl) (pv 7))))) pss_nil))))
        (pss_cons (ps_if (pt_cmpR op_isN (pv 4) pe_non (nomark _)) (pss_one (ps_ret pe_non)) pss_nil)
        (pss_cons (ps_set (i := 10) sc_find_ring.nd rfl (Or.inl rfl) (callD D_ring_at (hr.mono (by decide)) rfl (pa_cons (pv 0) (pa_cons (pv 3) (pa_cons (pv 4) pa_nil)))))
        (pss_one (ps_if (pt_cmpR op_notN (pv 10) pe_non (nomark _)) (pss_one (ps_ret (pv 10))) pss_nil)))))))
      (pss_one (ps_ret (callD D_ring_from (hr.mono (by decide)) rfl (pa_cons (pv 0) (pa_cons (pv 3) (pa_cons (pv 4) pa_nil))))))))))), ?_⟩
    -- check_literals(n, literals); values = [0] * n; last = [None] * n; lowered = None
    refine ⟨_, rfl, _, rfl, n, p, xs, Ls, rfl, hn1, hn, .inl hp, al, ok, ?_⟩
    refine ⟨by show 1 ≤ sizeLine; decide, fun q0 hq0 => ⟨_, rfl, q0, n, _, rfl, rfl, upd_same, by omega, by omega, ?_, fun pv hpv => ?_⟩⟩
    · have := small1000 (n := n) (by omega)
      simp only [List.length_singleton, Int.toNat_natCast]
      omega
    have s1 : Same H (upd (upd H q0 (.lst [.int 0])) pv (.lst (List.replicate (n : Int).toNat [V.int 0]).flatten)) := (same_new hq0).trans (same_new hpv)
    have ev : (upd (upd H q0 (.lst [.int 0])) pv (.lst (List.replicate (n : Int).toNat [V.int 0]).flatten)) pv = some (.lst (intsV n (fun _ => 0))) := by
      rw [upd_same, rep_one, Int.toNat_natCast, intsV_zero]
    have hv0 : H pv = none := (same_new hq0).free hpv
    generalize upd (upd H q0 (.lst [.int 0])) pv (.lst (List.replicate (n : Int).toNat [V.int 0]).flatten) = H1 at s1 ev ⊢
    refine ⟨by show 1 ≤ sizeLine; decide, fun q1 hq1 => ⟨_, rfl, q1, n, _, rfl, rfl, upd_same, by omega, by omega, ?_, fun pl hpl => ?_⟩⟩
    · have := small1000 (n := n) (by omega)
      simp only [List.length_singleton, Int.toNat_natCast]
      omega
    have s2 : Same H1 (upd (upd H1 q1 (.lst [.non])) pl (.lst (List.replicate (n : Int).toNat [V.non]).flatten)) := (same_new hq1).trans (same_new hpl)
    have el : (upd (upd H1 q1 (.lst [.non])) pl (.lst (List.replicate (n : Int).toNat [V.non]).flatten)) pl = some (.lst (List.replicate n .non)) := by
      rw [upd_same, rep_one, Int.toNat_natCast]
    have hl0 : H1 pl = none := (same_new hq1).free hpl
    generalize upd (upd H1 q1 (.lst [.non])) pl (.lst (List.replicate (n : Int).toNat [V.non]).flatten) = H2 at s2 el ⊢
    have npv : pv ≠ pl := ne_of_none ev hl0
    have s12 : Same H H2 := s1.trans s2
    have hl1 : H pl = none := s1.free hl0
    have ev2 := s2 _ _ ev
    have la0 : LastAt H2 (List.replicate n .non) n (fun _ => none) := ⟨List.length_replicate, fun i hi _ => by rw [List.getElem?_replicate, if_pos hi], fun i l _ e => by cases e⟩
    clear hpv hpl hq0 hq1 ev
    have lena := al.len
    have okb : ∀ l ∈ Ls, l.b < n := fun l hl => (ok l hl).2
    have oka : ∀ l ∈ Ls, l.a < n := fun l hl => (ok l hl).1
    refine ⟨_, rfl, _, _, rfl, rfl, _, rfl, by omega, by omega, ?_⟩
    have en : ((n : Int) + 1).toNat = n + 1 := by omega
    refine for_range (lo := 0) (n := ((n : Int) + 1).toNat) (fun i σ H' => ∃ (v : Val) (last : Nat → Option Lit) (xl : List V) (lo u5 u6 u7 u8 u9 u10 : Option V), σ = [some (.int n), some (.ref p), some (.ref pv), some (.ref pl), lo, u5, u6, u7, u8, u9, u10] ∧ Same H H' ∧
      H' pv = some (.lst (intsV n v)) ∧ H' pl = some (.lst xl) ∧ LastAt H' xl n last ∧ (i = 0 → BF Ls v last 1 0 none) ∧ (0 < i → ∃ a : Nat, lo = some (.int a) ∧ a < n ∧ BF Ls v last i Ls.length (some a)))
      ⟨_, _, _, _, _, _, _, _, _, _, rfl, s12, ev2, el, la0, fun _ => BF.start, fun z => by omega⟩ (fun i σ H3 hi q => ?_) fun σ H3 q => ?_
    · obtain ⟨v, last, xl, lo, u5, u6, u7, u8, u9, u10, rfl, sm, hv, hl, la, b0, b1⟩ := q
      have bf : BF Ls v last (i + 1) 0 none := by
        rcases Nat.eq_zero_or_pos i with z | z
        · subst z
          exact b0 rfl
        · obtain ⟨a, _, _, h⟩ := b1 z
          exact h.next
      clear b0 b1
      refine ⟨_, rfl, p, rfl, ⟨_, SqL.of (sm _ _ hp)⟩, ?_⟩
      refine for_list (K := K) (a := p) (xs := xs) (fun j σ H4 => ∃ (v : Val) (last : Nat → Option Lit) (xl : List V) (low : Option Nat) (u6 u7 u8 u9 : Option V), σ = [some (.int n), some (.ref p), some (.ref pv), some (.ref pl), some (optV low), some (.int (0 + (i : Int))), u6, u7, u8, u9, u10] ∧ Same H H4 ∧
        H4 pv = some (.lst (intsV n v)) ∧ H4 pl = some (.lst xl) ∧ LastAt H4 xl n last ∧ BF Ls v last (i + 1) j low ∧ ∀ a, low = some a → a < n)
        ⟨v, last, xl, none, u6, u7, u8, u9, rfl, sm, hv, hl, la, bf, fun a z => by cases z⟩ (fun j σ H4 _ q => by obtain ⟨_, _, _, _, _, _, _, _, _, sm, _⟩ := q; exact SqL.of (sm _ _ hp)) (fun j x σ H4 hj q => ?_) fun σ H4 q => ?_
      · clear sm hv hl la bf
        obtain ⟨v, last, xl, low, u6, u7, u8, u9, rfl, sm, hv, hl, la, bf, hlow⟩ := q
        obtain ⟨l, hlj, t, rfl, ht⟩ := al.at_ j x hj
        obtain ⟨oa, ob⟩ := ok l (List.mem_of_getElem? hlj)
        refine ⟨_, rfl, t, _, rfl, SqT.of (sm _ _ ht), rfl, _, _, rfl, _, _, rfl, _, _, rfl, rfl, ?_⟩
        refine ⟨_, rfl, _, rfl, pv, _, _, _, rfl, rfl, SqL.of hv, atI_nat (intsV_at oa), _, rfl, _, rfl, pv, _, _, _, rfl, rfl, SqL.of hv, atI_nat (intsV_at ob), _, rfl, _, _, rfl, rfl, _, _, rfl, rfl, _, rfl, ?_⟩
        refine ite2 (fun c => ?_) fun c => ?_
        · have c : v l.b + l.c < v l.a := of_decide_eq_true c
          refine ⟨_, rfl, _, rfl, pv, _, _, _, rfl, rfl, SqL.of hv, atI_nat (intsV_at ob), _, rfl, _, _, rfl, rfl, _, rfl, _, rfl, pv, _, _, l.a, rfl, rfl, hv, by rw [intsV_len]; exact ixN_nat oa, ?_⟩
          rw [intsV_set]
          have hl2 : (upd H4 pv (.lst (intsV n (set1 v l.a (v l.b + l.c))))) pl = some (.lst xl) := by
            rw [upd_ne npv.symm]
            exact hl
          refine ⟨_, rfl, _, rfl, _, rfl, pl, _, _, l.a, rfl, rfl, hl2, by rw [la.len]; exact ixN_nat oa, _, rfl, ?_⟩
          have sm2 : Same H (upd (upd H4 pv (.lst (intsV n (set1 v l.a (v l.b + l.c))))) pl (.lst (xl.set l.a (.ref t)))) := Same.mut (Same.mut sm hv0) hl1
          have tp : Tups H4 (upd (upd H4 pv (.lst (intsV n (set1 v l.a (v l.b + l.c))))) pl (.lst (xl.set l.a (.ref t)))) := (Tups.lst hv).trans (Tups.lst hl2)
          refine ⟨set1 v l.a (v l.b + l.c), set1 last l.a (some l), xl.set l.a (.ref t), some l.a, _, _, _, _, rfl, sm2, by rw [upd_ne npv, upd_same], upd_same, (la.mono tp).set ⟨t, rfl, sm2 _ _ ht⟩, bf.move hlj c, fun a z => by cases z; exact oa⟩
        · have c : ¬ v l.b + l.c < v l.a := fun z => c (decide_eq_true z)
          exact ⟨v, last, xl, low, _, _, _, _, rfl, sm, hv, hl, la, bf.skip hlj c, hlow⟩
      · clear sm hv hl la bf
        obtain ⟨v, last, xl, low, u6, u7, u8, u9, rfl, sm, hv, hl, la, bf, hlow⟩ := q
        rw [lena] at bf
        refine ⟨_, rfl, rfl, _, rfl, ?_⟩
        cases low with
        | none => exact k0 H4 v sm bf.sat
        | some a =>
          have ha := hlow a rfl
          refine ⟨_, rfl, _, rfl, _, rfl, n, pl, a, xl, last, rfl, by omega, hl, la, ha, fun x l e => okb l (bf.edge e).1, fun H5 s5 => ?_, fun H5 z r s5 row ne tr first => ?_⟩
          · refine ⟨_, rfl, rfl, _, rfl, ?_⟩
            exact ⟨v, last, xl, _, _, _, _, _, _, _, rfl, sm.trans s5, s5 _ _ hv, s5 _ _ hl, la.mono (Same.tups s5), fun z => by omega, fun _ => ⟨a, rfl, ha, bf⟩⟩
          · obtain ⟨i1, i2, i3, i4⟩ := tr.ring bf oka ne first
            obtain ⟨vs, ⟨t, rfl, ht⟩, al2⟩ := row
            exact ⟨_, rfl, rfl, _, rfl, _, rfl, k H5 _ r (sm.trans s5) ⟨vs, ⟨t, rfl, ht⟩, al2⟩ i1 i2 i3 i4⟩
    · rw [en] at q
      obtain ⟨v, last, xl, lo, u5, u6, u7, u8, u9, u10, rfl, sm, hv, hl, la, _, b1⟩ := q
      obtain ⟨a, rfl, ha, bf⟩ := b1 (by omega)
      obtain ⟨go, per⟩ := bf.long ha okb
      refine ⟨_, rfl, _, rfl, _, rfl, n, pl, a, xl, last, rfl, by omega, hl, la, go, per, fun H5 z r s5 row ne tr first => ?_⟩
      obtain ⟨i1, i2, i3, i4⟩ := tr.ring bf oka ne first
      exact k H5 z r (sm.trans s5) row i1 i2 i3 i4
end
end D7
/-! D7, walk 3: papers.py, the check -/
namespace D7
open PySem L2

theorem pop_al {α : Type} {R : V → α → Prop} {vs : List V} {ps : List α} (h : Al R vs ps) (pos : 0 < vs.length) : ∃ y q ws qs, vs = ws ++ [y] ∧ ps = qs ++ [q] ∧ Al R ws qs ∧ R y q := by
  have ne : vs ≠ [] := fun e => by rw [e] at pos; simp at pos
  have ne' : ps ≠ [] := fun e => by
    have := h.len
    rw [e] at this
    simp at this
    exact ne this
  refine ⟨vs.getLast ne, ps.getLast ne', vs.dropLast, ps.dropLast, (List.dropLast_concat_getLast ne).symm, (List.dropLast_concat_getLast ne').symm, h.dropLast, ?_⟩
  obtain ⟨q, e, r⟩ := h.at_ (vs.length - 1) (vs.getLast ne) (by rw [List.getLast_eq_getElem]; exact List.getElem?_eq_getElem _)
  rw [h.len] at e
  have : ps[ps.length - 1]? = some (ps.getLast ne') := by
    rw [List.getLast_eq_getElem]
    exact List.getElem?_eq_getElem _
  rw [this] at e
  cases e
  exact r
theorem last_snoc {α : Type} {xs : List α} {y : α} : (xs ++ [y])[(xs ++ [y]).length - 1]? = some y := by
  rw [List.length_append, List.length_singleton, Nat.add_sub_cancel, List.getElem?_append_right (Nat.le_refl _), Nat.sub_self]
  rfl
theorem al_len_pos {α : Type} {R : V → α → Prop} {vs : List V} {ps : List α} (h : Al R vs ps) (ne : vs ≠ []) : 0 < ps.length := by
  rw [← h.len]
  exact List.length_pos_iff.mpr ne
theorem gt0 {n : Nat} : decide ((0 : Int) < (n : Int)) = decide (0 < n) := by
  rw [Bool.eq_iff_iff, decide_eq_true_eq, decide_eq_true_eq]
  omega

/-- a problem: n points, the clauses stand in the list at p -/
structure Prob (H : Hp) (n : Nat) (p : Addr) (C : List (List Lit)) : Prop where
  n1 : 1 ≤ n
  n7 : n ≤ 7
  at_ : ∃ xs, H p = some (.lst xs) ∧ Al (RowAt H) xs C
  ok : ∀ cl ∈ C, Lok n cl
  few : C.length ≤ 13
  short : ∀ cl ∈ C, cl.length ≤ 4
theorem Prob.mono {H H' : Hp} {n : Nat} {p : Addr} {C : List (List Lit)} (h : Prob H n p C) (s : Same H H') : Prob H' n p C :=
  ⟨h.n1, h.n7, let ⟨xs, a, b⟩ := h.at_; ⟨xs, s _ _ a, RowsAt.mono (Same.tups s) b⟩, h.ok, h.few, h.short⟩
/-- the keys of the single literals -/
def keyL (l : Lit) : List Key := [.inl l.a, .inl l.b, .inl l.c]
theorem keyL_inj {l m : Lit} (h : keyL l = keyL m) : l = m := by
  obtain ⟨a, b, c⟩ := l
  obtain ⟨a', b', c'⟩ := m
  unfold keyL at h
  simp only [List.cons.injEq, Sum.inl.injEq, and_true] at h
  obtain ⟨h1, h2, h3⟩ := h
  have h1 : a = a' := by omega
  have h2 : b = b' := by omega
  rw [h1, h2, h3]
/-- of the first j clauses: each only literal with its first place -/
def OnlyOf (C : List (List Lit)) (j : Nat) (kvs : List (List Key × V)) : Prop := ∀ l : Lit,
  (valV kvs (keyL l) = none ∧ ∀ i : Nat, i < j → C[i]? ≠ some [l]) ∨ ∃ k : Nat, valV kvs (keyL l) = some (.int k) ∧ k < j ∧ C[k]? = some [l] ∧ ∀ i : Nat, i < k → C[i]? ≠ some [l]
def OnlyAt (H : Hp) (d : Addr) (C : List (List Lit)) : Prop := ∃ kvs, H d = some (.dT kvs) ∧ OnlyOf C C.length kvs
theorem OnlyAt.get {H : Hp} {d : Addr} {C : List (List Lit)} (h : OnlyAt H d C) {t : Addr} {l : Lit} (ht : H t = some (.tup (litV l))) :
    ([l] ∉ C ∧ DGet H d (.ref t) none) ∨ ∃ k : Nat, DGet H d (.ref t) (some (.int k)) ∧ C[k]? = some [l] ∧ ∀ i : Nat, i < k → C[i]? ≠ some [l] := by
  obtain ⟨kvs, e, h⟩ := h
  have g : DGet H d (.ref t) (valV kvs (keyL l)) := DGet.t e (show H t = some (.tup ((keyL l).map kV)) from ht)
  rcases h l with ⟨e1, e2⟩ | ⟨k, e1, _, e2, e3⟩
  · rw [e1] at g
    refine .inl ⟨fun hm => ?_, g⟩
    obtain ⟨i, hi⟩ := List.getElem?_of_mem hm
    exact e2 i (List.getElem?_eq_some_iff.mp hi).1 hi
  · rw [e1] at g
    exact .inr ⟨k, g, e2, e3⟩
/-- is it there -/
theorem OnlyAt.has {H : Hp} {d : Addr} {C : List (List Lit)} (h : OnlyAt H d C) {t : Addr} {l : Lit} (ht : H t = some (.tup (litV l))) : ∃ o, DGet H d (.ref t) o ∧ o.isSome = decide ([l] ∈ C) := by
  rcases h.get ht with ⟨a, b⟩ | ⟨k, a, b, _⟩
  · exact ⟨_, b, by rw [decide_eq_false a]; rfl⟩
  · exact ⟨_, a, by rw [decide_eq_true (List.mem_of_getElem? b)]; rfl⟩
section
variable {P : Program} {w : World} {K : PySem.W.Frag} {mg : Str → Option Value} {base : Heap}
abbrev s_check_clauses : Stmt := top 17
abbrev N_check_clauses : List Str := ["n", "clauses", "clause"]
theorem sc_check_clauses : FnScope N_check_clauses ["n", "clauses"] (defScope s_check_clauses) := ⟨rfl, rfl, rfl, by decide +kernel, rfl, by decide +kernel, by decide +kernel⟩
def sp_check_clauses : Sp := fun vs H Q _ => ∃ (n : Nat) (p : Addr) (C : List (List Lit)), vs = [.int n, .ref p] ∧ Prob H n p C ∧ Q .non H
theorem ok_check_clauses {f : Addr} {fd : FuncData} {tk : Tok} (F : Fun K "check_clauses" "check_clauses" s_check_clauses f fd) (B : Bt mg) (TMAX_CLAUSES : mg "MAX_CLAUSES" = some (.int 8000 tk))
    (D_check_points : Def P w K mg base 1 "check_points" ["n"] sp_check_points) (D_check_literals : Def P w K mg base 2 "check_literals" ["n", "literals"] sp_check_literals) : FnOk P w K mg base CX0 3 f fd ["n", "clauses"] sp_check_clauses := by
  refine F.ok sc_check_clauses (fun vs H Q E h => ?_) (fun cdv A outer s H vs Q E hr h => ?_)
  · obtain ⟨n, p, C, rfl, _⟩ := h
    rfl
  · obtain ⟨n, p, C, rfl, pr, k⟩ := h
    obtain ⟨xs, hp, al⟩ := pr.at_
    have n1 := pr.n1
    have n7 := pr.n7
    refine ⟨_, (pss_cons (ps_expr (callD D_check_points (hr.mono (by decide)) rfl (pa_cons (pv 0) pa_nil)))
      (pss_cons (ps_if (pt_cmpR op_gt (pe_callB (cLen K) (by rfl) B.len (by decide +kernel) (pa_cons (pv 1) pa_nil)) (pe_glob (v := .int 8000) rfl TMAX_CLAUSES ⟨_, rfl⟩) (nomark _)) pss_never pss_nil)
      (pss_one (ps_for PassesOwn.never rfl (piL K (pv 1)) (pg_name (i := 2) sc_check_clauses.nd rfl (Or.inl rfl)) (pss_one (ps_expr (callD D_check_literals (hr.mono (by decide)) rfl (pa_cons (pv 0) (pa_cons (pv 2) pa_nil))))))))), ?_⟩
    refine ⟨_, rfl, n, rfl, n1, by omega, ?_⟩
    refine ⟨_, rfl, p, xs, rfl, .inl (SqL.of hp), _, _, rfl, rfl, _, rfl, ?_⟩
    have few := pr.few
    have len := al.len
    rw [decide_eq_false (by omega)]
    refine ⟨_, rfl, p, rfl, ⟨_, SqL.of hp⟩, for_list (K := K) (a := p) (xs := xs) (fun i σ Hh => ∃ u, σ = [some (.int n), some (.ref p), u] ∧ Hh = H) ⟨_, rfl, rfl⟩ (fun i σ Hh _ q => by obtain ⟨_, _, rfl⟩ := q; exact SqL.of hp) (fun i x σ Hh hi q => ?_) ?_⟩
    · obtain ⟨u, rfl, rfl⟩ := q
      obtain ⟨cl, hcl, ys, ⟨t, rfl, ht⟩, al2⟩ := al.at_ i x hi
      exact ⟨_, rfl, _, rfl, n, t, ys, cl, rfl, n1, by omega, .inr ht, al2, pr.ok cl (List.mem_of_getElem? hcl), _, rfl, rfl⟩
    · rintro σ Hh ⟨_, rfl, rfl⟩
      exact k

abbrev s_single : Stmt := top 18
abbrev N_single : List Str := ["clauses", "found", "k", "clause"]
theorem sc_single : FnScope N_single ["clauses"] (defScope s_single) := ⟨rfl, rfl, rfl, by decide +kernel, rfl, by decide +kernel, by decide +kernel⟩
def sp_single : Sp := fun vs H Q _ => ∃ (n : Nat) (p : Addr) (C : List (List Lit)), vs = [.ref p] ∧ Prob H n p C ∧ ∀ H' d, Same H H' → H d = none → OnlyAt H' d C → Q (.ref d) H'
theorem ok_single {f : Addr} {fd : FuncData} (F : Fun K "single" "single" s_single f fd) (B : Bt mg) : FnOk P w K mg base CX0 1 f fd ["clauses"] sp_single := by
  refine F.ok sc_single (fun vs H Q E h => ?_) (fun cdv A outer s H vs Q E hr h => ?_)
  · obtain ⟨n, p, C, rfl, _⟩ := h
    rfl
  · obtain ⟨n, p, C, rfl, pr, k⟩ := h
    obtain ⟨xs, hp, al⟩ := pr.at_
    have few := pr.few
    have len := al.len
    refine ⟨_, (pss_cons (ps_set (i := 1) sc_single.nd rfl (Or.inl rfl) pe_dnewT)
      (pss_cons (ps_for PassesOwn.never rfl (piEn K rfl B.enumerate (pa_cons (pv 0) pa_nil)) (pgT K 2 (pgs_cons (pg_name (i := 2) sc_single.nd rfl (Or.inl rfl)) (pgs_cons (pg_name (i := 3) sc_single.nd rfl (Or.inl rfl)) pgs_nil))) (pss_one (ps_if (pt_cmpR op_eq (pe_callB (cLen K) (by rfl) B.len (by decide +kernel) (pa_cons (pv 3) pa_nil)) pe_int (nomark _)) (pss_one (ps_expr (pe_bm PySem.F.plainAttrs_dict PySem.F.slot_dict_setdefault PySem.F.type_dict_setdefault (mt_setdT (hu_of hr)) (pv 1) (pa_cons (pe_ix (ixT K) (pv 3) pe_int (fun _ _ => rfl)) (pa_cons (pv 2) pa_nil))))) pss_nil)))
      (pss_one (ps_ret (pv 1))))), ?_⟩
    intro d hd
    have npd : p ≠ d := ne_of_none hp hd
    refine ⟨_, rfl, p, false, xs, rfl, SqL.of (show upd H d (.dT []) p = some (.lst xs) by rw [upd_ne npd]; exact hp), ?_⟩
    refine forIt xs.length (fun i σ H' => ∃ kvs u v, σ = [some (.ref p), some (.ref d), u, v] ∧ Same H H' ∧ H' d = some (.dT kvs) ∧ OnlyOf C i kvs ∧ kvs.length ≤ i) ⟨[], none, none, rfl, same_new hd, upd_same, fun l => .inl ⟨rfl, fun i h => by omega⟩, Nat.zero_le _⟩
      (fun i σ H' hi q => ?_) (fun σ H' q => ?_) (fun i σ H' x H2 hi q y => ?_) fun σ H' q => ?_
    · obtain ⟨_, _, _, _, sm, _⟩ := q
      exact ⟨xs, xs[i], SqL.of (sm _ _ hp), List.getElem?_eq_getElem hi⟩
    · obtain ⟨_, _, _, _, sm, _⟩ := q
      exact ⟨xs, SqL.of (sm _ _ hp), rfl⟩
    · obtain ⟨kvs, u, v, rfl, sm, ed, on, le⟩ := q
      obtain ⟨T, x', rfl, hT, rfl, y⟩ := y
      have hx := y xs (SqL.of (sm _ _ hp))
      obtain ⟨cl, hcl, ys, ⟨t, rfl, ht⟩, al2⟩ := al.at_ i x' hx
      have s2 : Same H' (upd H' T (.tup [.int (i : Nat), .ref t])) := same_new hT
      have ed2 := s2 _ _ ed
      have sm2 := sm.trans s2
      have eT : (upd H' T (.tup [.int (i : Nat), .ref t])) T = some (.tup [.int (i : Nat), .ref t]) := upd_same
      generalize upd H' T (.tup [.int (i : Nat), .ref t]) = H3 at s2 ed2 sm2 eT ⊢
      refine ⟨T, _, rfl, SqT.of eT, rfl, _, _, rfl, _, _, rfl, rfl, ?_⟩
      refine ⟨_, rfl, t, ys, rfl, .inr (SqT.of (sm2 _ _ ht)), rfl, _, rfl, ?_⟩
      have len2 := al2.len
      by_cases c : ys.length = 1
      · have e1 : decide (V.int (ys.length : Int) = V.int 1) = true := decide_eq_true (by rw [c]; rfl)
        rw [e1]
        obtain ⟨l, rfl⟩ : ∃ l, cl = [l] := List.length_eq_one_iff.mp (by omega)
        obtain ⟨v0, hv0, t2, rfl, ht2⟩ := al2.back (i := 0) (x := l) rfl
        have ht3 := sm2 _ _ ht2
        refine ⟨_, rfl, .inr (.inr (.inl ⟨rfl, .inr ⟨kvs, ed2⟩⟩)), _, rfl, t, ys, _, _, rfl, rfl, SqT.of (sm2 _ _ ht), atI_nat (j := 0) hv0, _, rfl, d, t2, _, kvs, keyL l, rfl, rfl, ed2, ht3, small1000 (by omega), fun z hz => ?_, fun hz => ?_⟩
        · refine ⟨kvs, _, _, rfl, sm2, ed2, fun m => ?_, by omega⟩
          rcases on m with ⟨a1, a2⟩ | ⟨k', a1, a2, a3, a4⟩
          · refine .inl ⟨a1, fun j hj => ?_⟩
            rcases Nat.lt_or_ge j i with q | q
            · exact a2 j q
            · have : j = i := by omega
              subst this
              intro e
              rw [hcl] at e
              cases e
              rw [a1] at hz
              cases hz
          · exact .inr ⟨k', a1, by omega, a3, a4⟩
        · refine ⟨putK kvs (keyL l) (.int (i : Nat)), _, _, rfl, Same.mut sm2 hd, upd_same, fun m => ?_, by have := length_putK kvs (keyL l) (.int (i : Nat)); omega⟩
          rw [valV_put]
          by_cases q : keyL m = keyL l
          · rw [if_pos q]
            have := keyL_inj q
            subst this
            refine .inr ⟨i, rfl, by omega, hcl, fun j hj => ?_⟩
            rcases on m with ⟨a1, a2⟩ | ⟨k', a1, _⟩
            · exact a2 j hj
            · rw [hz] at a1
              cases a1
          · rw [if_neg q]
            rcases on m with ⟨a1, a2⟩ | ⟨k', a1, a2, a3, a4⟩
            · refine .inl ⟨a1, fun j hj => ?_⟩
              rcases Nat.lt_or_ge j i with q2 | q2
              · exact a2 j q2
              · have : j = i := by omega
                subst this
                intro e
                rw [hcl] at e
                cases e
                exact q rfl
            · exact .inr ⟨k', a1, by omega, a3, a4⟩
      · have e1 : decide (V.int (ys.length : Int) = V.int 1) = false := decide_eq_false fun q => c (by have := V.int.inj q; omega)
        rw [e1]
        refine ⟨kvs, _, _, rfl, sm2, ed2, fun m => ?_, by omega⟩
        rcases on m with ⟨a1, a2⟩ | ⟨k', a1, a2, a3, a4⟩
        · refine .inl ⟨a1, fun j hj => ?_⟩
          rcases Nat.lt_or_ge j i with q | q
          · exact a2 j q
          · have : j = i := by omega
            subst this
            intro e
            rw [hcl] at e
            cases e
            exact c (by rw [len2]; rfl)
        · exact .inr ⟨k', a1, by omega, a3, a4⟩
    · obtain ⟨kvs, u, v, rfl, sm, ed, on, le⟩ := q
      rw [len] at on
      exact ⟨_, rfl, k H' d sm hd ⟨kvs, ed, on⟩⟩
end
end D7
/-! D7, walk 4: papers.py, papers looked at -/
namespace D7
open PySem L2

theorem trues {ys : List V} {n : Nat} (h : Al (fun v (_ : Nat) => v = V.bl true) ys ((List.range n).filter fun _ => true)) : ys = (List.replicate n true).map V.bl := by
  obtain ⟨e2, e3⟩ := al_all (α := Nat) h
  rw [List.map_replicate]
  exact List.eq_replicate_iff.mpr ⟨e2, fun b hb => by
    obtain ⟨i, hi⟩ := List.getElem?_of_mem hb
    exact e3 i b hi⟩
theorem all_trues {n : Nat} : (List.replicate n true).all id = true := by
  rw [List.all_replicate]
  split <;> rfl
theorem nT {p : Prop} [Decidable p] (h : p) : (!decide p) = false := by rw [decide_eq_true h]; rfl
theorem nF {p : Prop} [Decidable p] (h : ¬p) : (!decide p) = true := by rw [decide_eq_false h]; rfl
def isRingP : Paper → Bool
  | .ring _ => true
  | .cases _ _ => false
section
variable {P : Program} {w : World} {K : PySem.W.Frag} {mg : Str → Option Value} {base : Heap}
abbrev s_is_literal : Stmt := top 19
abbrev N_is_literal : List Str := ["value", "one"]
theorem sc_is_literal : FnScope N_is_literal ["value"] (defScope s_is_literal) := ⟨rfl, rfl, rfl, by decide +kernel, rfl, by decide +kernel, by decide +kernel⟩
def sp_is_literal : Sp := fun vs H Q _ => ∃ (v : V) (l : Lit), vs = [v] ∧ LitAt H v l ∧ ∀ H', Same H H' → Q (.bl true) H'
theorem ok_is_literal {f : Addr} {fd : FuncData} (F : Fun K "is_literal" "is_literal" s_is_literal f fd) (B : Bt mg) : FnOk P w K mg base CX0 1 f fd ["value"] sp_is_literal := by
  refine F.ok sc_is_literal (fun vs H Q E h => ?_) (fun cdv A outer s H vs Q E hr h => ?_)
  · obtain ⟨v, l, rfl, _⟩ := h
    rfl
  · obtain ⟨v, l, rfl, ⟨t, rfl, ht⟩, k⟩ := h
    refine ⟨_, (pss_one (ps_ret (pe_and (pe_callB (RZ.call_isTy) (by rfl) B.isinstance (by decide +kernel) (pa_cons (pv 0) (pa_cons (pe_bltn (v := .ty "tuple") (by rfl) B.tuple (by decide +kernel) rfl) pa_nil))) (pe_and (pe_cmpR op_eq (pe_callB (cLen K) (by rfl) B.len (by decide +kernel) (pa_cons (pv 0) pa_nil)) pe_int (nomark _)) (pe_one (pe_callB (cAll K) (by rfl) B.all (by decide +kernel) (pa_cons (pe_lc (own := [("one", 1)]) rfl sc_is_literal.nd (piT K (pv 0)) (blkOk_by (N := N_is_literal) (sc := defScope s_is_literal) (by decide +kernel)) (fun _ _ _ _ _ => (pg_name (i := 1) sc_is_literal.nd rfl (Or.inl rfl))) (fun _ _ _ _ _ => pts_nil) (fun _ _ _ _ _ => (pe_callB (RZ.call_isTy) (by rfl) B.isinstance (by decide +kernel) (pa_cons (pv 1) (pa_cons (pe_bltn (v := .ty "int") (by rfl) B.int (by decide +kernel) rfl) pa_nil))))) pa_nil))))))), ?_⟩
    refine ⟨_, rfl, _, "tuple", rfl, .tup ht, true, rfl, ?_⟩
    refine ⟨_, rfl, t, _, rfl, .inr (SqT.of ht), rfl, _, rfl, ?_⟩
    have e1 : decide (V.int ((litV l).length : Int) = V.int 3) = true := decide_eq_true rfl
    rw [e1]
    refine ⟨_, rfl, t, rfl, ⟨_, SqT.of ht⟩, ?_⟩
    refine lcT (K := K) (SqT.of ht) (Nat.le_of_lt (small1000 (by show 3 ≤ 1000; decide))) (fun _ => true) (fun i u H' => u = V.bl true) (fun _ _ _ _ _ q => q) (fun i u H' hi sm Kt Kf k1 _ => ?_) fun D H' ys hD sm hL q => ?_
    · obtain ⟨z, rfl⟩ : ∃ z : Int, u = .int z := by
        match i, hi with
        | 0, hi => exact ⟨_, (Option.some.inj hi).symm⟩
        | 1, hi => exact ⟨_, (Option.some.inj hi).symm⟩
        | 2, hi => exact ⟨_, (Option.some.inj hi).symm⟩
        | n + 3, hi => simp [litV] at hi
      exact ⟨rfl, _, rfl, _, "int", rfl, .int _, k1 _ _ rfl (Same.refl _) rfl⟩
    · have ey := trues q
      subst ey
      refine ⟨D, _, rfl, SqL.of hL, ?_⟩
      rw [all_trues]
      exact k H' sm

abbrev s_is_ring_paper : Stmt := top 20
abbrev N_is_ring_paper : List Str := ["value", "one"]
theorem sc_is_ring_paper : FnScope N_is_ring_paper ["value"] (defScope s_is_ring_paper) := ⟨rfl, rfl, rfl, by decide +kernel, rfl, by decide +kernel, by decide +kernel⟩
def sp_is_ring_paper : Sp := fun vs H Q _ => ∃ (v : V) (p : Paper) (d : Nat), vs = [v] ∧ PapAt H v p ∧ Fine 7 d p ∧ ∀ H', Same H H' → Q (.bl (isRingP p)) H'
theorem ok_is_ring_paper {f : Addr} {fd : FuncData} (F : Fun K "is_ring_paper" "is_ring_paper" s_is_ring_paper f fd) (B : Bt mg) (D_is_literal : Def P w K mg base 1 "is_literal" ["value"] sp_is_literal) : FnOk P w K mg base CX0 2 f fd ["value"] sp_is_ring_paper := by
  refine F.ok sc_is_ring_paper (fun vs H Q E h => ?_) (fun cdv A outer s H vs Q E hr h => ?_)
  · obtain ⟨v, p, d, rfl, _⟩ := h
    rfl
  · obtain ⟨v, p, d, rfl, hp, fine, k⟩ := h
    refine ⟨_, (pss_cons (ps_if (PW.pt (pw_or (pt_cmpR op_ne (pe_callB (cLen K) (by rfl) B.len (by decide +kernel) (pa_cons (pv 0) pa_nil)) pe_int (nomark _)) (pw_or (pt_cmpR op_ne (pe_ix (ixT K) (pv 0) pe_int (fun _ _ => rfl)) pe_str (nomark _)) (pw_or1 (pt_not (pt_val (pe_callB (RZ.call_isTy) (by rfl) B.isinstance (by decide +kernel) (pa_cons (pe_ix (ixT K) (pv 0) pe_int (fun _ _ => rfl)) (pa_cons (pe_bltn (v := .ty "tuple") (by rfl) B.tuple (by decide +kernel) rfl) pa_nil))))))))) (pss_one (ps_ret pe_bl)) pss_nil)
      (pss_one (ps_ret (pe_callB (cAll K) (by rfl) B.all (by decide +kernel) (pa_cons (pe_lc (own := [("one", 1)]) rfl sc_is_ring_paper.nd (piT K (pe_ix (ixT K) (pv 0) pe_int (fun _ _ => rfl))) (blkOk_by (N := N_is_ring_paper) (sc := defScope s_is_ring_paper) (by decide +kernel)) (fun _ _ _ _ _ => (pg_name (i := 1) sc_is_ring_paper.nd rfl (Or.inl rfl))) (fun _ _ _ _ _ => pts_nil) (fun _ _ _ _ _ => (callD D_is_literal (hr.mono (by decide)) rfl (pa_cons (pv 1) pa_nil)))) pa_nil))))), ?_⟩
    cases hp with
    | @ring v x r h1 h2 =>
      obtain ⟨t, rfl, ht⟩ := h1
      obtain ⟨xs, ⟨y, rfl, hy⟩, al⟩ := h2
      have sz : xs.length ≤ sizeLine := by
        rw [al.len]
        cases fine with
        | ring h _ => exact Nat.le_of_lt (small1000 (by omega))
      refine ⟨_, rfl, t, _, rfl, .inr (SqT.of ht), rfl, _, rfl, ?_⟩
      have e1 : (!decide (V.int (([V.str "ring", V.ref y] : List V).length : Int) = V.int 2)) = false := nT rfl
      rw [e1]
      refine iteF ⟨_, rfl, t, _, _, _, rfl, rfl, SqT.of ht, rfl, rfl, _, rfl, ?_⟩
      have e2 : (!decide (V.str "ring" = V.str "ring")) = false := nT rfl
      rw [e2]
      refine iteF ⟨_, rfl, t, _, _, _, rfl, rfl, SqT.of ht, rfl, _, "tuple", rfl, .tup hy, true, rfl, ?_⟩
      refine ⟨_, rfl, t, _, _, _, rfl, rfl, SqT.of ht, rfl, y, rfl, ⟨_, SqT.of hy⟩, ?_⟩
      refine lcT (K := K) (SqT.of hy) sz (fun _ => true) (fun i u H' => u = V.bl true) (fun _ _ _ _ _ q => q) (fun i u H' hi sm Kt Kf k1 _ => ?_) fun D H' ys hD sm hL q => ?_
      · obtain ⟨l, _, hl⟩ := al.at_ i u hi
        exact ⟨rfl, _, rfl, u, l, rfl, hl.mono (Same.tups sm), fun H4 s4 => k1 _ _ rfl s4 rfl⟩
      · have ey := trues q
        subst ey
        refine ⟨D, _, rfl, SqL.of hL, ?_⟩
        rw [all_trues]
        exact k H' sm
    | @cases v x c vs ps h1 h2 h3 h4 =>
      obtain ⟨t, rfl, ht⟩ := h1
      refine ⟨_, rfl, t, _, rfl, .inr (SqT.of ht), rfl, _, rfl, ?_⟩
      have e1 : (!decide (V.int (([V.str "cases", V.int c, x] : List V).length : Int) = V.int 2)) = true := nF fun q => by have := V.int.inj q; simp at this
      rw [e1]
      exact k H (Same.refl _)

/-- a paper that is looked at: its size -/
structure Pok (D : Nat) (p : Paper) : Prop where
  fine : Fine 7 D p
  w : wt p ≤ 2400000
abbrev s_is_paper : Stmt := top 21
abbrev N_is_paper : List Str := ["value", "waiting", "one"]
theorem sc_is_paper : FnScope N_is_paper ["value"] (defScope s_is_paper) := ⟨rfl, rfl, rfl, by decide +kernel, rfl, by decide +kernel, by decide +kernel⟩
def sp_is_paper : Sp := fun vs H Q _ => ∃ (v : V) (p : Paper) (d : Nat), vs = [v] ∧ PapAt H v p ∧ Pok d p ∧ ∀ H', Same H H' → Q (.bl true) H'
theorem ok_is_paper {f : Addr} {fd : FuncData} (F : Fun K "is_paper" "is_paper" s_is_paper f fd) (B : Bt mg) (D_is_ring_paper : Def P w K mg base 2 "is_ring_paper" ["value"] sp_is_ring_paper) : FnOk P w K mg base CX0 3 f fd ["value"] sp_is_paper := by
  refine F.ok sc_is_paper (fun vs H Q E h => ?_) (fun cdv A outer s H vs Q E hr h => ?_)
  · obtain ⟨v, p, d, rfl, _⟩ := h
    rfl
  · obtain ⟨v, p, d, rfl, hp, ⟨fine, hw⟩, k⟩ := h
    refine ⟨_, (pss_cons (ps_set (i := 1) sc_is_paper.nd rfl (Or.inl rfl) (pe_lst (pa_cons (pv 0) pa_nil)))
      (pss_cons (ps_while PassesOwn.never (pt_cmpR op_gt (pe_callB (cLen K) (by rfl) B.len (by decide +kernel) (pa_cons (pv 1) pa_nil)) pe_int (nomark _)) (pss_cons (ps_set (i := 2) sc_is_paper.nd rfl (Or.inl rfl) (pe_bm0 PySem.F.plainAttrs_list PySem.F.slot_list_pop PySem.F.type_list_pop mt_pop (pv 1)))
        (pss_cons (ps_if (pt_not (pt_val (pe_callB (RZ.call_isTy) (by rfl) B.isinstance (by decide +kernel) (pa_cons (pv 2) (pa_cons (pe_bltn (v := .ty "tuple") (by rfl) B.tuple (by decide +kernel) rfl) pa_nil))))) (pss_one (ps_ret pe_bl)) pss_nil)
        (pss_cons (ps_if (pt_val (callD D_is_ring_paper (hr.mono (by decide)) rfl (pa_cons (pv 2) pa_nil))) (pss_one ps_continue) pss_nil)
        (pss_cons (ps_if (PW.pt (pw_or (pt_cmpR op_ne (pe_callB (cLen K) (by rfl) B.len (by decide +kernel) (pa_cons (pv 2) pa_nil)) pe_int (nomark _)) (pw_or (pt_cmpR op_ne (pe_ix (ixT K) (pv 2) pe_int (fun _ _ => rfl)) pe_str (nomark _)) (pw_or (pt_not (pt_val (pe_callB (RZ.call_isTy) (by rfl) B.isinstance (by decide +kernel) (pa_cons (pe_ix (ixT K) (pv 2) pe_int (fun _ _ => rfl)) (pa_cons (pe_bltn (v := .ty "int") (by rfl) B.int (by decide +kernel) rfl) pa_nil))))) (pw_or1 (pt_not (pt_val (pe_callB (RZ.call_isTy) (by rfl) B.isinstance (by decide +kernel) (pa_cons (pe_ix (ixT K) (pv 2) pe_int (fun _ _ => rfl)) (pa_cons (pe_bltn (v := .ty "tuple") (by rfl) B.tuple (by decide +kernel) rfl) pa_nil)))))))))) (pss_one (ps_ret pe_bl)) pss_nil)
        (pss_one (ps_expr (pe_bm PySem.F.plainAttrs_list PySem.F.slot_list_extend PySem.F.type_list_extend mt_extendT (pv 1) (pa_cons (pe_ix (ixT K) (pv 2) pe_int (fun _ _ => rfl)) pa_nil)))))))))
      (pss_one (ps_ret pe_bl)))), ?_⟩
    refine ⟨_, rfl, by show 1 ≤ sizeLine; decide, fun D hD => ?_⟩
    refine ⟨fun m σ H' => ∃ (u : Option V) (vs : List V) (ps : List Paper), σ = [some v, some (.ref D), u] ∧ Same H H' ∧ H' D = some (.lst vs) ∧ Al (PapAt H') vs ps ∧ (∀ p ∈ ps, Fine 7 d p) ∧ wts ps = m ∧ m ≤ 2400000,
      ⟨wt p, none, [v], [p], rfl, same_new hD, upd_same, Al.one (hp.mono (Same.tups (same_new hD))), fun q hq => by rw [List.mem_singleton.mp hq]; exact fine, by simp [wts], hw⟩, fun m σ H' q => ?_⟩
    obtain ⟨u, vs, ps, rfl, sm, eD, al, fs, em, lm⟩ := q
    refine ⟨_, rfl, D, vs, rfl, .inl (SqL.of eD), _, _, rfl, rfl, _, rfl, ?_⟩
    rw [gt0]
    by_cases c : 0 < vs.length
    · rw [decide_eq_true c]
      refine ⟨_, fun σ' H3 n3 => n3, ?_⟩
      obtain ⟨y, q, ws, qs, rfl, rfl, al2, hq⟩ := pop_al al c
      refine ⟨_, rfl, .inl ⟨rfl, _, SqL.of eD⟩, D, _, y, rfl, rfl, eD, last_snoc, ?_⟩
      rw [List.dropLast_concat]
      have tp : Tups H' (upd H' D (.lst ws)) := Tups.lst eD
      have sm2 : Same H (upd H' D (.lst ws)) := Same.mut sm hD
      have eD2 : (upd H' D (.lst ws)) D = some (.lst ws) := upd_same
      have al3 := PapsAt.mono tp al2
      have hq3 := hq.mono tp
      generalize upd H' D (.lst ws) = H2 at tp sm2 eD2 al3 hq3 ⊢
      have fq := fs q (by simp)
      have fqs : ∀ p ∈ qs, Fine 7 d p := fun p h => fs p (List.mem_append_left _ h)
      rw [wts_append] at em
      have wq : wts [q] = wt q := by simp [wts]
      have pq := wt_pos q
      have hq4 := hq3
      cases hq3 with
      | @ring y x r h1 h2 =>
        obtain ⟨t, rfl, ht⟩ := h1
        refine ⟨_, rfl, _, "tuple", rfl, .tup ht, true, rfl, ?_⟩
        refine ⟨_, rfl, _, _, _, rfl, hq4, fq, fun H4 s4 => ?_⟩
        exact ⟨true, rfl, wts qs, by omega, _, ws, qs, rfl, sm2.trans s4, s4 _ _ eD2, PapsAt.mono (Same.tups s4) al3, fqs, rfl, by omega⟩
      | @cases y x j vs ps h1 h2 h3 h4 =>
        obtain ⟨t, rfl, ht⟩ := h1
        obtain ⟨z, rfl, hz⟩ := h2
        refine ⟨_, rfl, _, "tuple", rfl, .tup ht, true, rfl, ?_⟩
        refine ⟨_, rfl, _, _, _, rfl, hq4, fq, fun H4 s4 => ?_⟩
        refine ⟨false, rfl, ?_⟩
        have ht4 := s4 _ _ ht
        have hz4 := s4 _ _ hz
        refine ⟨_, rfl, t, _, rfl, .inr (SqT.of ht4), rfl, _, rfl, ?_⟩
        rw [show (!decide (V.int (([V.str "cases", V.int j, V.ref z] : List V).length : Int) = V.int 3)) = false from nT rfl]
        refine iteF ⟨_, rfl, t, _, _, _, rfl, rfl, SqT.of ht4, rfl, rfl, _, rfl, ?_⟩
        rw [show (!decide (V.str "cases" = V.str "cases")) = false from nT rfl]
        refine iteF ⟨_, rfl, t, _, _, _, rfl, rfl, SqT.of ht4, rfl, _, "int", rfl, .int _, true, rfl, ?_⟩
        refine ⟨_, rfl, t, _, _, _, rfl, rfl, SqT.of ht4, rfl, _, "tuple", rfl, .tup hz4, true, rfl, ?_⟩
        have wc : wt (.cases j ps) = 1 + wts ps := by simp [wt]
        have l1 := wts_len qs
        have l2 := wts_len ps
        have l3 := al3.len
        refine ⟨_, rfl, .inl ⟨rfl, _, SqL.of (s4 _ _ eD2)⟩, _, rfl, t, _, _, _, rfl, rfl, SqT.of ht4, rfl, D, z, ws, vs, rfl, rfl, s4 _ _ eD2, hz4, by unfold sizeLine; omega, ?_⟩
        have tp5 : Tups H4 (upd H4 D (.lst (ws ++ vs))) := Tups.lst (s4 _ _ eD2)
        have tp6 : Tups H2 (upd H4 D (.lst (ws ++ vs))) := (Same.tups s4).trans tp5
        refine ⟨wts (qs ++ ps), by rw [wts_append]; omega, _, ws ++ vs, qs ++ ps, rfl, Same.mut (sm2.trans s4) hD, upd_same, (PapsAt.mono tp6 al3).app (PapsAt.mono tp6 (PapAt.parts h3 h4)), fun p hp => ?_, rfl, by rw [wts_append]; omega⟩
        rcases List.mem_append.mp hp with a | a
        · exact fqs p a
        · cases fq with
          | cases fq => exact (fq p a).mono (by omega)
    · rw [decide_eq_false c]
      exact k H' sm

/-- a paper and its depth, on the stack -/
def PD (H : Hp) (v : V) (x : Paper × Nat) : Prop := ∃ u, TupAt H v [u, .int x.2] ∧ PapAt H u x.1
theorem PD.mono {H H' : Hp} {v : V} {x : Paper × Nat} (t : Tups H H') (h : PD H v x) : PD H' v x := let ⟨u, a, b⟩ := h; ⟨u, a.mono t, b.mono t⟩
abbrev s_depth_of : Stmt := top 22
abbrev N_depth_of : List Str := ["paper", "deepest", "open_papers", "one", "depth", "part"]
theorem sc_depth_of : FnScope N_depth_of ["paper"] (defScope s_depth_of) := ⟨rfl, rfl, rfl, by decide +kernel, rfl, by decide +kernel, by decide +kernel⟩
def sp_depth_of : Sp := fun vs H Q _ => ∃ (v : V) (p : Paper) (d : Nat), vs = [v] ∧ PapAt H v p ∧ Pok d p ∧ ∀ H' (i : Int), Same H H' → i ≤ d → Q (.int i) H'
theorem ok_depth_of {f : Addr} {fd : FuncData} (F : Fun K "depth_of" "depth_of" s_depth_of f fd) (B : Bt mg) : FnOk P w K mg base CX0 1 f fd ["paper"] sp_depth_of := by
  refine F.ok sc_depth_of (fun vs H Q E h => ?_) (fun cdv A outer s H vs Q E hr h => ?_)
  · obtain ⟨v, p, d, rfl, _⟩ := h
    rfl
  · obtain ⟨v, p, d, rfl, hp, ⟨fine, hw⟩, k⟩ := h
    refine ⟨_, (pss_cons (ps_set (i := 1) sc_depth_of.nd rfl (Or.inl rfl) pe_int)
      (pss_cons (ps_set (i := 2) sc_depth_of.nd rfl (Or.inl rfl) (pe_lst (pa_cons (pe_tup (pa_cons (pv 0) (pa_cons pe_int pa_nil))) pa_nil)))
      (pss_cons (ps_while PassesOwn.never (pt_cmpR op_gt (pe_callB (cLen K) (by rfl) B.len (by decide +kernel) (pa_cons (pv 2) pa_nil)) pe_int (nomark _)) (pss_cons (ps_asg (pe_bm0 PySem.F.plainAttrs_list PySem.F.slot_list_pop PySem.F.type_list_pop mt_pop (pv 2)) (pgT K 2 (pgs_cons (pg_name (i := 3) sc_depth_of.nd rfl (Or.inl rfl)) (pgs_cons (pg_name (i := 4) sc_depth_of.nd rfl (Or.inr rfl)) pgs_nil))))
        (pss_one (ps_if (pt_cmpR op_eq (pe_ix (ixT K) (pv 3) pe_int (fun _ _ => rfl)) pe_str (nomark _)) (pss_cons (ps_set (i := 1) sc_depth_of.nd rfl (Or.inl rfl) (pe_callB (call_max2 rfl) (by rfl) B.max (by decide +kernel) (pa_cons (pv 1) (pa_cons (pe_op op_add (pv 4) pe_int) pa_nil))))
          (pss_one (ps_expr (pe_bm PySem.F.plainAttrs_list PySem.F.slot_list_extend PySem.F.type_list_extend mt_extend (pv 2) (pa_cons (pe_lc (own := [("part", 5)]) rfl sc_depth_of.nd (piT K (pe_ix (ixT K) (pv 3) pe_int (fun _ _ => rfl))) (blkOk_by (N := N_depth_of) (sc := defScope s_depth_of) (by decide +kernel)) (fun _ _ _ _ _ => (pg_name (i := 5) sc_depth_of.nd rfl (Or.inl rfl))) (fun _ _ _ _ _ => pts_nil) (fun _ _ _ _ _ => (pe_tup (pa_cons (pv 5) (pa_cons (pe_op op_add (pv 4) pe_int) pa_nil))))) pa_nil))))) pss_nil))))
      (pss_one (ps_ret (pv 1)))))), ?_⟩
    refine ⟨_, rfl, by show 2 ≤ sizeLine; decide, fun T hT => ⟨by show 1 ≤ sizeLine; decide, fun D hD => ?_⟩⟩
    have sT : Same H (upd H T (.tup [v, .int 0])) := same_new hT
    have eT : (upd H T (.tup [v, .int 0])) T = some (.tup [v, .int 0]) := upd_same
    have hD0 : H D = none := sT.free hD
    generalize upd H T (.tup [v, .int 0]) = H1 at sT eT hD ⊢
    have s1 : Same H1 (upd H1 D (.lst [.ref T])) := same_new hD
    refine ⟨fun m σ H' => ∃ (u3 u4 u5 : Option V) (i : Int) (vs : List V) (ps : List (Paper × Nat)), σ = [some v, some (.int i), some (.ref D), u3, u4, u5] ∧ i ≤ d ∧ Same H H' ∧ H' D = some (.lst vs) ∧ Al (PD H') vs ps ∧ (∀ x ∈ ps, ∃ e, Fine 7 e x.1 ∧ x.2 + e ≤ d) ∧ wts (ps.map Prod.fst) = m ∧ m ≤ 2400000,
      ⟨wt p, none, none, none, 0, [.ref T], [(p, 0)], rfl, by omega, sT.trans s1, upd_same, Al.one ⟨v, ⟨T, rfl, s1 _ _ eT⟩, hp.mono (Same.tups (sT.trans s1))⟩, fun x hx => by rw [List.mem_singleton.mp hx]; exact ⟨d, fine, by simp⟩, by simp [wts], hw⟩, fun m σ H' q => ?_⟩
    obtain ⟨u3, u4, u5, i, vs, ps, rfl, hi, sm, eD, al, fs, em, lm⟩ := q
    refine ⟨_, rfl, D, vs, rfl, .inl (SqL.of eD), _, _, rfl, rfl, _, rfl, ?_⟩
    rw [gt0]
    by_cases c : 0 < vs.length
    · rw [decide_eq_true c]
      refine ⟨_, fun σ' H3 n3 => n3, ?_⟩
      obtain ⟨y, q, ws, qs, rfl, rfl, al2, hq⟩ := pop_al al c
      refine ⟨_, rfl, .inl ⟨rfl, _, SqL.of eD⟩, D, _, y, rfl, rfl, eD, last_snoc, ?_⟩
      rw [List.dropLast_concat]
      have tp : Tups H' (upd H' D (.lst ws)) := Tups.lst eD
      have sm2 : Same H (upd H' D (.lst ws)) := Same.mut sm hD0
      have eD2 : (upd H' D (.lst ws)) D = some (.lst ws) := upd_same
      have al3 := al2.mono fun _ _ q => q.mono tp
      have hq3 := hq.mono tp
      generalize upd H' D (.lst ws) = H2 at tp sm2 eD2 al3 hq3 ⊢
      obtain ⟨e, fq, de⟩ := fs q (by simp)
      have fqs : ∀ x ∈ qs, ∃ e, Fine 7 e x.1 ∧ x.2 + e ≤ d := fun p h => fs p (List.mem_append_left _ h)
      rw [List.map_append, wts_append] at em
      have wq : wts ([q].map Prod.fst) = wt q.1 := by simp [wts]
      have pq := wt_pos q.1
      obtain ⟨q, dq⟩ := q
      obtain ⟨u, ⟨t0, rfl, ht0⟩, hq4⟩ := hq3
      refine ⟨t0, _, rfl, SqT.of ht0, rfl, _, _, rfl, _, _, rfl, rfl, ?_⟩
      cases hq4 with
      | @ring y x r h1 h2 =>
        obtain ⟨t, rfl, ht⟩ := h1
        refine ⟨_, rfl, t, _, _, _, rfl, rfl, SqT.of ht, rfl, rfl, _, rfl, ?_⟩
        rw [show decide (V.str "ring" = V.str "cases") = false from decide_eq_false (by decide)]
        exact ⟨wts (qs.map Prod.fst), by simp only at wq pq; omega, _, _, _, i, ws, qs, rfl, hi, sm2, eD2, al3, fqs, rfl, by omega⟩
      | @cases y x j vs ps h1 h2 h3 h4 =>
        obtain ⟨t, rfl, ht⟩ := h1
        obtain ⟨z, rfl, hz⟩ := h2
        refine ⟨_, rfl, t, _, _, _, rfl, rfl, SqT.of ht, rfl, rfl, _, rfl, ?_⟩
        rw [show decide (V.str "cases" = V.str "cases") = true from decide_eq_true rfl]
        have wc : wt (.cases j ps) = 1 + wts ps := by simp [wt]
        have l1 := wts_len (qs.map Prod.fst)
        have l2 := wts_len ps
        have l3 := al3.len
        rw [List.length_map] at l1
        simp only at wq pq
        refine ⟨_, rfl, _, rfl, _, _, rfl, rfl, _, _, rfl, ?_⟩
        refine ⟨_, rfl, .inl ⟨rfl, _, SqL.of eD2⟩, _, rfl, t, _, _, _, rfl, rfl, SqT.of ht, rfl, z, rfl, ⟨_, SqT.of hz⟩, ?_⟩
        refine lcT (K := K) (SqT.of hz) (by unfold sizeLine; omega) (fun _ => true) (fun i y H' => ∃ x, vs[i]? = some x ∧ TupAt H' y [x, .int ((dq : Int) + 1)]) (fun i y H H' t q => let ⟨x, a, b⟩ := q; ⟨x, a, b.mono t⟩) (fun i u H' hi sm Kt Kf k1 _ => ?_) fun L H' ys hL sm4 eL q => ?_
        · exact ⟨rfl, _, rfl, _, rfl, _, _, rfl, rfl, by show 2 ≤ sizeLine; decide, fun T hT => k1 _ _ rfl (same_new hT) ⟨u, hi, T, rfl, upd_same⟩⟩
        · obtain ⟨ly, hy⟩ := al_all (α := Nat) q
          refine ⟨D, L, ws, ys, rfl, rfl, sm4 _ _ eD2, eL, by unfold sizeLine; omega, ?_⟩
          have tp5 : Tups H' (upd H' D (.lst (ws ++ ys))) := Tups.lst (sm4 _ _ eD2)
          have tp6 : Tups H2 (upd H' D (.lst (ws ++ ys))) := (Same.tups sm4).trans tp5
          have aly : Al (PD (upd H' D (.lst (ws ++ ys)))) ys (ps.map fun p => (p, dq + 1)) := ⟨by rw [ly, List.length_map, h3], fun i v hv => by
            obtain ⟨x, hx, tx⟩ := hy i v hv
            have lt : i < ps.length := by
              have := (List.getElem?_eq_some_iff.mp hx).1
              omega
            have hpi : ps[i]? = some ps[i] := List.getElem?_eq_getElem lt
            refine ⟨(ps[i], dq + 1), by rw [List.getElem?_map, hpi]; rfl, x, ?_, (h4 i x _ hx hpi).mono tp6⟩
            have := tx.mono tp5
            have e : ((dq : Int) + 1) = ((dq + 1 : Nat) : Int) := by omega
            rw [e] at this
            exact this⟩
          cases fq with
          | @cases e _ _ fq =>
            have mp : (ps.map fun p => (p, dq + 1)).map Prod.fst = ps := by rw [List.map_map]; exact List.map_id _
            refine ⟨wts ((qs ++ ps.map fun p => (p, dq + 1)).map Prod.fst), by rw [List.map_append, wts_append, mp]; omega, _, _, _, _, ws ++ ys, qs ++ ps.map fun p => (p, dq + 1), rfl, ?_, Same.mut (sm2.trans sm4) hD0, upd_same, (al3.mono fun _ _ q => q.mono tp6).app aly, fun x hx => ?_, rfl, by rw [List.map_append, wts_append, mp]; omega⟩
            · simp only at de
              split <;> omega
            · rcases List.mem_append.mp hx with a | a
              · exact fqs x a
              · obtain ⟨p, hp, rfl⟩ := List.mem_map.mp a
                exact ⟨e, fq p hp, by simp only at de ⊢; omega⟩
    · rw [decide_eq_false c]
      exact ⟨_, rfl, k H' i sm hi⟩
end
end D7
/-! D7, walk 5: papers.py, accepted, used -/
namespace D7
open PySem L2

/-- a paper with the assumed literals, on the stack -/
def PAs (H : Hp) (v : V) (x : Paper × List Lit) : Prop := ∃ u z, TupAt H v [u, z] ∧ PapAt H u x.1 ∧ RowAt H z x.2
theorem PAs.mono {H H' : Hp} {v : V} {x : Paper × List Lit} (t : Tups H H') (h : PAs H v x) : PAs H' v x := let ⟨u, z, a, b, c⟩ := h; ⟨u, z, a.mono t, b.mono t, c.mono t⟩
theorem OnlyAt.mono {H H' : Hp} {d : Addr} {C : List (List Lit)} (s : Same H H') (h : OnlyAt H d C) : OnlyAt H' d C := let ⟨kvs, a, b⟩ := h; ⟨kvs, s _ _ a, b⟩
/-- assumed + (literal,) -/
theorem cat_row {K : PySem.W.Frag} {H : Hp} {a b : Addr} {A : List Lit} {l : Lit} {x : V} {xs : List V} (ha : H a = some (.tup xs)) (al : Al (LitAt H) xs A) (hb : H b = some (.tup [x])) (hx : LitAt H x l) (hs : A.length ≤ 900) {Q : VK}
    (q : ∀ H' v, Same H H' → RowAt H' v (A ++ [l]) → Q v H') : rCatA K (.ref a) (.ref b) H Q := by
  have len := al.len
  refine ⟨a, b, xs, [x], rfl, rfl, SqT.of ha, SqT.of hb, Nat.le_of_lt (small1000 (by simp only [List.length_singleton]; omega)), fun e => ?_, fun _ e => (by cases e), fun _ _ p hp => ?_⟩
  · subst e
    have : A = [] := List.length_eq_zero_iff.mp len.symm
    subst this
    exact q H _ (Same.refl _) ⟨[x], ⟨b, rfl, hb⟩, Al.one hx⟩
  · have s := same_new (o := .tup (xs ++ [x])) hp
    exact q _ _ s ⟨_, ⟨p, rfl, upd_same⟩, (LitsAt.mono (Same.tups s) al).snoc (hx.mono (Same.tups s))⟩
theorem Used.lt {C : List (List Lit)} {A : List Lit} {q : Paper} {k : Nat} (h : Used C A q k) : Acc C A q → k < C.length := by
  induction h with
  | ring _ _ e _ => exact fun _ => (List.getElem?_eq_some_iff.mp e).1
  | here => intro hA; cases hA with | cases e _ _ => exact (List.getElem?_eq_some_iff.mp e).1
  | there e1 e2 e3 _ ih =>
    intro hA
    cases hA with
    | cases f1 f2 f3 =>
      rw [e1] at f1
      cases f1
      exact ih (f3 _ _ _ e2 e3)
theorem ints_of {m : Nat} : ∀ {ys : List V}, (∀ v ∈ ys, ∃ k : Nat, v = .int k ∧ k < m) → ∃ ms : List Int, ys = ms.map V.int ∧ ∀ k ∈ ms, 0 ≤ k ∧ k < (m : Int)
  | [], _ => ⟨[], rfl, fun k h => by cases h⟩
  | v :: ys, h => by
    obtain ⟨k, rfl, lt⟩ := h v List.mem_cons_self
    obtain ⟨ms, rfl, q⟩ := ints_of (m := m) (ys := ys) fun u hu => h u (List.mem_cons_of_mem _ hu)
    refine ⟨k :: ms, rfl, fun j hj => ?_⟩
    rcases List.mem_cons.mp hj with e | e
    · subst e
      omega
    · exact q j e
theorem mem_ints {ms : List Int} {k : Int} (h : V.int k ∈ ms.map V.int) : k ∈ ms := by
  obtain ⟨j, hj, e⟩ := List.mem_map.mp h
  cases e
  exact hj
section
variable {P : Program} {w : World} {K : PySem.W.Frag} {mg : Str → Option Value} {base : Heap}
abbrev s_is_accepted : Stmt := top 23
abbrev N_is_accepted : List Str := ["clauses", "only", "paper", "waiting", "one", "assumed", "literal", "_", "k", "parts", "part"]
theorem sc_is_accepted : FnScope N_is_accepted ["clauses", "only", "paper"] (defScope s_is_accepted) := ⟨rfl, rfl, rfl, by decide +kernel, rfl, by decide +kernel, by decide +kernel⟩
def sp_is_accepted : Sp := fun vs H Q _ => ∃ (n : Nat) (p d : Addr) (C : List (List Lit)) (v : V) (q : Paper) (e : Nat), vs = [.ref p, .ref d, v] ∧ Prob H n p C ∧ OnlyAt H d C ∧ PapAt H v q ∧ Pok e q ∧ e ≤ 100 ∧ Acc C [] q ∧ ∀ H', Same H H' → Q (.bl true) H'
theorem ok_is_accepted {f : Addr} {fd : FuncData} (F : Fun K "is_accepted" "is_accepted" s_is_accepted f fd) (B : Bt mg) (D_is_ring : Def P w K mg base 1 "is_ring" ["ring"] sp_is_ring) : FnOk P w K mg base CX0 2 f fd ["clauses", "only", "paper"] sp_is_accepted := by
  refine F.ok sc_is_accepted (fun vs H Q E h => ?_) (fun cdv A outer s H vs Q E hr h => ?_)
  · obtain ⟨n, p, d, C, v, q, e, rfl, _⟩ := h
    rfl
  · obtain ⟨n, p, d, C, v, q0, e0, rfl, pr, only, hp, ⟨fine, hw⟩, he, acc, k⟩ := h
    refine ⟨_, (pss_cons (ps_set (i := 3) sc_is_accepted.nd rfl (Or.inl rfl) (pe_lst (pa_cons (pe_tup (pa_cons (pv 2) (pa_cons (pe_tup pa_nil) pa_nil))) pa_nil)))
      (pss_cons (ps_while PassesOwn.never (pt_cmpR op_gt (pe_callB (cLen K) (by rfl) B.len (by decide +kernel) (pa_cons (pv 3) pa_nil)) pe_int (nomark _)) (pss_cons (ps_asg (pe_bm0 PySem.F.plainAttrs_list PySem.F.slot_list_pop PySem.F.type_list_pop mt_pop (pv 3)) (pgT K 2 (pgs_cons (pg_name (i := 4) sc_is_accepted.nd rfl (Or.inl rfl)) (pgs_cons (pg_name (i := 5) sc_is_accepted.nd rfl (Or.inr rfl)) pgs_nil))))
        (pss_cons (ps_if (pt_cmpR op_eq (pe_ix (ixT K) (pv 4) pe_int (fun _ _ => rfl)) pe_str (nomark _)) (pss_cons (ps_if (PW.pt (pw_or (pt_not (pt_val (callD D_is_ring (hr.mono (by decide)) rfl (pa_cons (pe_ix (ixT K) (pv 4) pe_int (fun _ _ => rfl)) pa_nil)))) (pw_or1 (pt_not (pt_val (pe_callB (cAll K) (by rfl) B.all (by decide +kernel) (pa_cons (pe_lc (own := [("literal", 6)]) rfl sc_is_accepted.nd (piT K (pe_ix (ixT K) (pv 4) pe_int (fun _ _ => rfl))) (blkOk_by (N := N_is_accepted) (sc := defScope s_is_accepted) (by decide +kernel)) (fun _ _ _ _ _ => (pg_name (i := 6) sc_is_accepted.nd rfl (Or.inl rfl))) (fun _ _ _ _ _ => pts_nil) (fun _ _ _ _ _ => (pe_or (pe_cmp (pc_din (hu_of hr) (pv 6) (pv 1))) (pe_one (pe_cmpR (inT K (room65 hr)) (pv 6) (pv 5) (by rfl)))))) pa_nil))))))) (pss_one (ps_ret pe_bl)) pss_nil)
          (pss_one ps_continue)) pss_nil)
        (pss_cons (ps_asg (pv 4) (pgT K 3 (pgs_cons (pg_name (i := 7) sc_is_accepted.nd rfl (Or.inl rfl)) (pgs_cons (pg_name (i := 8) sc_is_accepted.nd rfl (Or.inl rfl)) (pgs_cons (pg_name (i := 9) sc_is_accepted.nd rfl (Or.inl rfl)) pgs_nil)))))
        (pss_cons (ps_if (PW.pt (pw_or (pt_cmpR op_lt (pv 8) pe_int (nomark _)) (pw_or (pt_cmpR op_ge (pv 8) (pe_callB (cLen K) (by rfl) B.len (by decide +kernel) (pa_cons (pv 0) pa_nil)) (nomark _)) (pw_or1 (pt_cmpR op_ne (pe_callB (cLen K) (by rfl) B.len (by decide +kernel) (pa_cons (pv 9) pa_nil)) (pe_callB (cLen K) (by rfl) B.len (by decide +kernel) (pa_cons (pe_ix (ixL K) (pv 0) (pv 8) (fun _ _ => rfl)) pa_nil)) (nomark _)))))) (pss_one (ps_ret pe_bl)) pss_nil)
        (pss_one (ps_expr (pe_bm PySem.F.plainAttrs_list PySem.F.slot_list_extend PySem.F.type_list_extend mt_extend (pv 3) (pa_cons (pe_lc (own := [("literal", 6), ("part", 10)]) rfl sc_is_accepted.nd (piZ K rfl B.zip (pa_cons (pe_ix (ixL K) (pv 0) (pv 8) (fun _ _ => rfl)) (pa_cons (pv 9) pa_nil))) (blkOk_by (N := N_is_accepted) (sc := defScope s_is_accepted) (by decide +kernel)) (fun _ _ _ _ _ => (pgT K 2 (pgs_cons (pg_name (i := 6) sc_is_accepted.nd rfl (Or.inl rfl)) (pgs_cons (pg_name (i := 10) sc_is_accepted.nd rfl (Or.inl rfl)) pgs_nil)))) (fun _ _ _ _ _ => pts_nil) (fun _ _ _ _ _ => (pe_tup (pa_cons (pv 10) (pa_cons (pe_op (catT K) (pv 5) (pe_tup (pa_cons (pv 6) pa_nil))) pa_nil))))) pa_nil)))))))))
      (pss_one (ps_ret pe_bl)))), ?_⟩
    refine ⟨_, rfl, by show 0 ≤ sizeLine; decide, fun T0 hT0 => ⟨by show 2 ≤ sizeLine; decide, fun T hT => ⟨by show 1 ≤ sizeLine; decide, fun D hD => ?_⟩⟩⟩
    have s0 : Same H (upd H T0 (.tup [])) := same_new hT0
    have e0' : (upd H T0 (.tup [])) T0 = some (.tup []) := upd_same
    generalize upd H T0 (.tup []) = Ha at s0 e0' hT hD ⊢
    have sT : Same Ha (upd Ha T (.tup [v, .ref T0])) := same_new hT
    have eT : (upd Ha T (.tup [v, .ref T0])) T = some (.tup [v, .ref T0]) := upd_same
    have s01 := s0.trans sT
    have eT0 := sT _ _ e0'
    have hD0 : H D = none := s01.free hD
    generalize upd Ha T (.tup [v, .ref T0]) = H1 at sT eT hD s01 eT0 ⊢
    have s1 : Same H1 (upd H1 D (.lst [.ref T])) := same_new hD
    refine ⟨fun m σ H' => ∃ (u4 u5 u6 u7 u8 u9 u10 : Option V) (vs : List V) (ps : List (Paper × List Lit)), σ = [some (.ref p), some (.ref d), some v, some (.ref D), u4, u5, u6, u7, u8, u9, u10] ∧ Same H H' ∧ H' D = some (.lst vs) ∧ Al (PAs H') vs ps ∧ (∀ x ∈ ps, Acc C x.2 x.1 ∧ ∃ e, Fine 7 e x.1 ∧ x.2.length + e ≤ e0) ∧ wts (ps.map Prod.fst) = m ∧ m ≤ 2400000,
      ⟨wt q0, none, none, none, none, none, none, none, [.ref T], [(q0, [])], rfl, s01.trans s1, upd_same, Al.one ⟨v, _, ⟨T, rfl, s1 _ _ eT⟩, hp.mono (Same.tups (s01.trans s1)), [], ⟨T0, rfl, s1 _ _ eT0⟩, Al.nil⟩, fun x hx => by rw [List.mem_singleton.mp hx]; exact ⟨acc, e0, fine, by simp⟩, by simp [wts], hw⟩, fun m σ H' q => ?_⟩
    obtain ⟨u4, u5, u6, u7, u8, u9, u10, vs, ps, rfl, sm, eD, al, fs, em, lm⟩ := q
    refine ⟨_, rfl, D, vs, rfl, .inl (SqL.of eD), _, _, rfl, rfl, _, rfl, ?_⟩
    rw [gt0]
    by_cases c : 0 < vs.length
    · rw [decide_eq_true c]
      refine ⟨_, fun σ' H3 n3 => n3, ?_⟩
      obtain ⟨y, q, ws, qs, rfl, rfl, al2, hq⟩ := pop_al al c
      refine ⟨_, rfl, .inl ⟨rfl, _, SqL.of eD⟩, D, _, y, rfl, rfl, eD, last_snoc, ?_⟩
      rw [List.dropLast_concat]
      have tp : Tups H' (upd H' D (.lst ws)) := Tups.lst eD
      have sm2 : Same H (upd H' D (.lst ws)) := Same.mut sm hD0
      have eD2 : (upd H' D (.lst ws)) D = some (.lst ws) := upd_same
      have al3 := al2.mono fun _ _ q => q.mono tp
      have hq3 := hq.mono tp
      generalize upd H' D (.lst ws) = H2 at tp sm2 eD2 al3 hq3 ⊢
      obtain ⟨aq, e, fq, de⟩ := fs q (by simp)
      have fqs : ∀ x ∈ qs, Acc C x.2 x.1 ∧ ∃ e, Fine 7 e x.1 ∧ x.2.length + e ≤ e0 := fun p h => fs p (List.mem_append_left _ h)
      rw [List.map_append, wts_append] at em
      have wq : wts ([q].map Prod.fst) = wt q.1 := by simp [wts]
      have pq := wt_pos q.1
      obtain ⟨q, as⟩ := q
      simp only at wq pq de aq fq
      obtain ⟨u, a, ⟨t0, rfl, ht0⟩, hq4, asv, ⟨a, rfl, ha⟩, ala⟩ := hq3
      refine ⟨t0, _, rfl, SqT.of ht0, rfl, _, _, rfl, _, _, rfl, rfl, ?_⟩
      have prb := pr.mono sm2
      have on2 := only.mono sm2
      cases hq4 with
      | @ring y x r h1 h2 =>
        obtain ⟨t, rfl, ht⟩ := h1
        cases aq with
        | ring isr mem =>
        cases fq with
        | ring len7 _ =>
        refine ⟨_, rfl, t, _, _, _, rfl, rfl, SqT.of ht, rfl, rfl, _, rfl, ?_⟩
        rw [show decide (V.str "ring" = V.str "ring") = true from decide_eq_true rfl]
        refine ⟨_, rfl, t, _, _, _, rfl, rfl, SqT.of ht, rfl, _, r, rfl, h2, isr, by omega, fun H3 s3 => ⟨true, rfl, ?_⟩⟩
        obtain ⟨xs, ⟨z, rfl, hz⟩, alr⟩ := h2
        have ht3 := s3 _ _ ht
        have hz3 := s3 _ _ hz
        refine ⟨_, rfl, t, _, _, _, rfl, rfl, SqT.of ht3, rfl, z, rfl, ⟨_, SqT.of hz3⟩, ?_⟩
        have lenr := alr.len
        refine lcT (K := K) (SqT.of hz3) (Nat.le_of_lt (small1000 (by omega))) (fun _ => true) (fun i u H' => u = V.bl true) (fun _ _ _ _ _ q => q) (fun i u H5 hi sm5 Kt Kf k1 _ => ?_) fun L H5 ys hL sm5 eL q => ?_
        · have s5 := s3.trans sm5
          obtain ⟨l, hl, tl, rfl, htl⟩ := alr.at_ i u hi
          have htl5 := s5 _ _ htl
          obtain ⟨o, hd, eo⟩ := (on2.mono s5).has htl5
          refine ⟨rfl, _, rfl, _, rfl, d, o, rfl, hd, o.isSome, rfl, ?_⟩
          rw [eo]
          rcases mem l (List.mem_of_getElem? hl) with c1 | c1
          · rw [decide_eq_true c1]
            exact k1 _ _ rfl (Same.refl _) rfl
          · by_cases c2 : [l] ∈ C
            · rw [decide_eq_true c2]
              exact k1 _ _ rfl (Same.refl _) rfl
            · rw [decide_eq_false c2]
              refine ⟨_, rfl, _, rfl, litD l, as.map litD, LitAt.dp ⟨tl, rfl, htl5⟩, .tup (SqT.of (s5 _ _ ha)) (LitsAt.dp (LitsAt.mono (Same.tups s5) ala)), litD_shaped l, litDs_shapedT as, ?_⟩
              rw [any_litD, decide_eq_true c1]
              exact k1 _ _ rfl (Same.refl _) rfl
        · have ey := trues q
          subst ey
          refine ⟨L, _, rfl, SqL.of eL, true, ?_, ?_⟩
          · rw [all_trues]
          · exact ⟨wts (qs.map Prod.fst), by omega, _, _, _, _, _, _, _, ws, qs, rfl, sm2.trans (s3.trans sm5), s3.trans sm5 _ _ eD2, al3.mono fun _ _ q => q.mono (Same.tups (s3.trans sm5)), fqs, rfl, by omega⟩
      | @cases y x j vs ps h1 h2 h3 h4 =>
        obtain ⟨t, rfl, ht⟩ := h1
        obtain ⟨z, rfl, hz⟩ := h2
        cases aq with
        | @cases _ _ _ cl hcl lcl accs =>
        refine ⟨_, rfl, t, _, _, _, rfl, rfl, SqT.of ht, rfl, rfl, _, rfl, ?_⟩
        rw [show decide (V.str "cases" = V.str "ring") = false from decide_eq_false (by decide)]
        have wc : wt (.cases j ps) = 1 + wts ps := by simp [wt]
        have l1 := wts_len (qs.map Prod.fst)
        have l2 := wts_len ps
        have l3 := al3.len
        rw [List.length_map] at l1
        refine ⟨_, rfl, t, _, rfl, SqT.of ht, rfl, _, _, rfl, _, _, rfl, _, _, rfl, rfl, ?_⟩
        obtain ⟨xs, hpp, alC⟩ := prb.at_
        have lC := alC.len
        have jlt : j < C.length := (List.getElem?_eq_some_iff.mp hcl).1
        obtain ⟨vx, hvx, ys, ⟨tc, rfl, htc⟩, alcl⟩ := alC.back hcl
        have lcl2 := alcl.len
        refine ⟨_, rfl, _, _, rfl, rfl, _, rfl, ?_⟩
        rw [decide_eq_false (by omega)]
        refine iteF ⟨_, rfl, _, rfl, p, xs, rfl, .inl (SqL.of hpp), _, _, rfl, rfl, _, rfl, ?_⟩
        rw [decide_eq_false (by omega)]
        refine iteF ⟨_, rfl, z, vs, rfl, .inr (SqT.of hz), _, rfl, _, rfl, p, xs, _, _, rfl, rfl, SqL.of hpp, atI_nat hvx, tc, ys, rfl, .inr (SqT.of htc), rfl, _, rfl, ?_⟩
        rw [show (!decide (V.int (vs.length : Int) = V.int (ys.length : Int))) = false from nT (by rw [h3, lcl2, lcl])]
        refine ⟨_, rfl, .inl ⟨rfl, _, SqL.of eD2⟩, _, rfl, _, rfl, p, xs, _, _, rfl, rfl, SqL.of hpp, atI_nat hvx, _, rfl, tc, z, true, true, ys, vs, rfl, SqT.of htc, SqT.of hz, ?_⟩
        cases fq with
        | @cases e _ _ fq =>
        refine lcZ (K := K) (k := true) (j := true) (SqT.of htc) (SqT.of hz) (by omega) (by unfold sizeLine; omega) (fun _ => true) (fun i y H' => ∃ x l u, vs[i]? = some x ∧ cl[i]? = some l ∧ TupAt H' y [x, u] ∧ RowAt H' u (as ++ [l])) (fun i y H H' t q => let ⟨x, l, u, a, a', b, c⟩ := q; ⟨x, l, u, a, a', b.mono t, c.mono t⟩) (fun i lx px T' H5 hlx hpx sm5 hT' Kt Kf k1 _ => ?_) fun L H5 zs hL sm5 eL q => ?_
        · obtain ⟨l, hl, hlv⟩ := alcl.at_ i lx hlx
          refine ⟨T', _, rfl, SqT.of hT', rfl, _, _, rfl, _, _, rfl, rfl, rfl, ?_⟩
          refine ⟨_, rfl, _, rfl, _, rfl, by show 1 ≤ sizeLine; decide, fun T1 hT1 => ?_⟩
          have s6 := same_new (o := .tup [lx]) hT1
          refine cat_row (s6 _ _ (sm5 _ _ ha)) (LitsAt.mono (Same.tups (sm5.trans s6)) ala) upd_same (hlv.mono (Same.tups (sm5.trans s6))) (by show as.length ≤ 900; omega) fun H7 v7 s7 row => ?_
          refine ⟨by show 2 ≤ sizeLine; decide, fun T2 hT2 => ?_⟩
          have s8 := same_new (o := .tup [px, v7]) hT2
          exact k1 _ _ rfl (s6.trans (s7.trans s8)) ⟨px, l, v7, hpx, hl, ⟨T2, rfl, upd_same⟩, row.mono (Same.tups s8)⟩
        · obtain ⟨lz, hz2⟩ := al_all (α := Nat) q
          refine ⟨D, L, ws, zs, rfl, rfl, sm5 _ _ eD2, eL, by unfold sizeLine; omega, ?_⟩
          have tp5 : Tups H5 (upd H5 D (.lst (ws ++ zs))) := Tups.lst (sm5 _ _ eD2)
          have tp6 : Tups H2 (upd H5 D (.lst (ws ++ zs))) := (Same.tups sm5).trans tp5
          have lz2 : (ps.zip cl).length = ps.length := by rw [List.length_zip]; omega
          have alz : Al (PAs (upd H5 D (.lst (ws ++ zs)))) zs ((ps.zip cl).map fun x => (x.1, as ++ [x.2])) := ⟨by rw [lz, List.length_map, lz2]; omega, fun i v hv => by
            obtain ⟨x, l, u, hx, hl, tx, rx⟩ := hz2 i v hv
            have lt : i < ps.length := by
              have := (List.getElem?_eq_some_iff.mp hx).1
              omega
            have hpi : ps[i]? = some ps[i] := List.getElem?_eq_getElem lt
            refine ⟨(ps[i], as ++ [l]), ?_, x, u, tx.mono tp5, (h4 i x _ hx hpi).mono tp6, rx.mono tp5⟩
            rw [List.getElem?_map, List.getElem?_zip_eq_some (z := (ps[i], l)) |>.mpr ⟨hpi, hl⟩]
            rfl⟩
          have mp : ((ps.zip cl).map fun x => (x.1, as ++ [x.2])).map Prod.fst = ps := by
            rw [List.map_map]
            exact List.map_fst_zip (by omega)
          refine ⟨wts ((qs ++ (ps.zip cl).map fun x => (x.1, as ++ [x.2])).map Prod.fst), by rw [List.map_append, wts_append, mp]; omega, _, _, _, _, _, _, _, ws ++ zs, qs ++ (ps.zip cl).map fun x => (x.1, as ++ [x.2]), rfl, Same.mut (sm2.trans sm5) hD0, upd_same, (al3.mono fun _ _ q => q.mono tp6).app alz, fun x hx => ?_, rfl, by rw [List.map_append, wts_append, mp]; omega⟩
          rcases List.mem_append.mp hx with a | a
          · exact fqs x a
          · obtain ⟨⟨p', l'⟩, hp', rfl⟩ := List.mem_map.mp a
            obtain ⟨i, hi⟩ := List.getElem?_of_mem hp'
            obtain ⟨hi1, hi2⟩ := List.getElem?_zip_eq_some.mp hi
            exact ⟨accs i p' l' hi1 hi2, e, fq p' (List.mem_of_getElem? hi1), by simp only [List.length_append, List.length_singleton]; omega⟩
    · rw [decide_eq_false c]
      exact k H' sm
end
end D7
/-! D7, walk 6: papers.py, the check joined; rings, used clauses -/
namespace D7
open PySem L2

theorem wts_rev : ∀ ps : List Paper, wts ps.reverse = wts ps
  | [] => rfl
  | p :: ps => by
    rw [List.reverse_cons, wts_append, wts_rev ps]
    simp only [wts]
    omega
def keepA (r A : List Lit) (i : Nat) : Bool := match r[i]? with
  | some l => !decide (l ∈ A)
  | none => false
section
variable {P : Program} {w : World} {K : PySem.W.Frag} {mg : Str → Option Value} {base : Heap}
abbrev s_check_paper : Stmt := top 24
abbrev N_check_paper : List Str := ["n", "clauses", "paper"]
theorem sc_check_paper : FnScope N_check_paper ["n", "clauses", "paper"] (defScope s_check_paper) := ⟨rfl, rfl, rfl, by decide +kernel, rfl, by decide +kernel, by decide +kernel⟩
def sp_check_paper : Sp := fun vs H Q _ => ∃ (n : Nat) (p : Addr) (C : List (List Lit)) (v : V) (q : Paper) (e : Nat), vs = [.int n, .ref p, v] ∧ Prob H n p C ∧ PapAt H v q ∧ Pok e q ∧ e ≤ 100 ∧ Acc C [] q ∧ ∀ H', Same H H' → Q (.bl true) H'
theorem ok_check_paper {f : Addr} {fd : FuncData} {tk : Tok} (F : Fun K "check_paper" "check_paper" s_check_paper f fd) (TMAX_DEPTH : mg "MAX_DEPTH" = some (.int 8000 tk))
    (D_check_clauses : Def P w K mg base 3 "check_clauses" ["n", "clauses"] sp_check_clauses) (D_depth_of : Def P w K mg base 1 "depth_of" ["paper"] sp_depth_of) (D_is_accepted : Def P w K mg base 2 "is_accepted" ["clauses", "only", "paper"] sp_is_accepted)
    (D_is_paper : Def P w K mg base 3 "is_paper" ["value"] sp_is_paper) (D_single : Def P w K mg base 1 "single" ["clauses"] sp_single) : FnOk P w K mg base CX0 4 f fd ["n", "clauses", "paper"] sp_check_paper := by
  refine F.ok sc_check_paper (fun vs H Q E h => ?_) (fun cdv A outer s H vs Q E hr h => ?_)
  · obtain ⟨n, p, C, v, q, e, rfl, _⟩ := h
    rfl
  · obtain ⟨n, p, C, v, q, e, rfl, pr, hp, pk, he, acc, k⟩ := h
    refine ⟨_, (pss_cons (ps_expr (callD D_check_clauses (hr.mono (by decide)) rfl (pa_cons (pv 0) (pa_cons (pv 1) pa_nil))))
      (pss_cons (ps_if (PW.pt (pw_or (pt_not (pt_val (callD D_is_paper (hr.mono (by decide)) rfl (pa_cons (pv 2) pa_nil)))) (pw_or1 (pt_cmpR op_gt (callD D_depth_of (hr.mono (by decide)) rfl (pa_cons (pv 2) pa_nil)) (pe_glob (v := .int 8000) rfl TMAX_DEPTH ⟨_, rfl⟩) (nomark _))))) (pss_one (ps_ret pe_bl)) pss_nil)
      (pss_one (ps_ret (callD D_is_accepted (hr.mono (by decide)) rfl (pa_cons (pv 1) (pa_cons (callD D_single (hr.mono (by decide)) rfl (pa_cons (pv 1) pa_nil)) (pa_cons (pv 2) pa_nil)))))))), ?_⟩
    refine ⟨_, rfl, _, rfl, n, p, C, rfl, pr, ?_⟩
    refine ⟨_, rfl, v, q, e, rfl, hp, pk, fun H1 s1 => ⟨true, rfl, ?_⟩⟩
    refine ⟨_, rfl, v, q, e, rfl, hp.mono (Same.tups s1), pk, fun H2 i s2 hi => ⟨_, _, rfl, rfl, _, rfl, ?_⟩⟩
    rw [decide_eq_false (by omega)]
    have s12 := s1.trans s2
    refine ⟨_, rfl, _, rfl, n, p, C, rfl, pr.mono s12, fun H3 d s3 hd on => ?_⟩
    have s13 := s12.trans s3
    exact ⟨_, rfl, n, p, d, C, v, q, e, rfl, pr.mono s13, on, hp.mono (Same.tups s13), pk, he, acc, fun H4 s4 => k H4 (s13.trans s4)⟩

abbrev s_need_accepted : Stmt := top 25
abbrev N_need_accepted : List Str := ["n", "clauses", "paper"]
theorem sc_need_accepted : FnScope N_need_accepted ["n", "clauses", "paper"] (defScope s_need_accepted) := ⟨rfl, rfl, rfl, by decide +kernel, rfl, by decide +kernel, by decide +kernel⟩
def sp_need_accepted : Sp := fun vs H Q _ => ∃ (n : Nat) (p : Addr) (C : List (List Lit)) (v : V) (q : Paper) (e : Nat), vs = [.int n, .ref p, v] ∧ Prob H n p C ∧ PapAt H v q ∧ Pok e q ∧ e ≤ 100 ∧ Acc C [] q ∧ ∀ H', Same H H' → Q .non H'
theorem ok_need_accepted {f : Addr} {fd : FuncData} (F : Fun K "need_accepted" "need_accepted" s_need_accepted f fd)
    (D_check_paper : Def P w K mg base 4 "check_paper" ["n", "clauses", "paper"] sp_check_paper) : FnOk P w K mg base CX0 5 f fd ["n", "clauses", "paper"] sp_need_accepted := by
  refine F.ok sc_need_accepted (fun vs H Q E h => ?_) (fun cdv A outer s H vs Q E hr h => ?_)
  · obtain ⟨n, p, C, v, q, e, rfl, _⟩ := h
    rfl
  · obtain ⟨n, p, C, v, q, e, rfl, pr, hp, pk, he, acc, k⟩ := h
    refine ⟨_, (pss_one (ps_if (pt_not (pt_val (callD D_check_paper (hr.mono (by decide)) rfl (pa_cons (pv 0) (pa_cons (pv 1) (pa_cons (pv 2) pa_nil)))))) pss_never pss_nil)), ?_⟩
    exact ⟨_, rfl, _, rfl, _, rfl, n, p, C, v, q, e, rfl, pr, hp, pk, he, acc, fun H1 s1 => ⟨true, rfl, k H1 s1⟩⟩

abbrev s_rings_of : Stmt := top 26
abbrev N_rings_of : List Str := ["paper", "found", "waiting", "one"]
theorem sc_rings_of : FnScope N_rings_of ["paper"] (defScope s_rings_of) := ⟨rfl, rfl, rfl, by decide +kernel, rfl, by decide +kernel, by decide +kernel⟩
def RingV (H : Hp) (v : V) : Prop := ∃ r, RowAt H v r ∧ IsRing r ∧ r.length ≤ 7
def sp_rings_of : Sp := fun vs H Q _ => ∃ (v : V) (q : Paper) (C : List (List Lit)) (e : Nat), vs = [v] ∧ PapAt H v q ∧ Pok e q ∧ Acc C [] q ∧ ∀ H' L fs, Same H H' → H L = none → H' L = some (.lst fs) → fs.length ≤ wt q → (∀ v ∈ fs, RingV H' v) → Q (.ref L) H'
theorem ok_rings_of {f : Addr} {fd : FuncData} (F : Fun K "rings_of" "rings_of" s_rings_of f fd) (B : Bt mg) : FnOk P w K mg base CX0 1 f fd ["paper"] sp_rings_of := by
  refine F.ok sc_rings_of (fun vs H Q E h => ?_) (fun cdv A outer s H vs Q E hr h => ?_)
  · obtain ⟨v, q, C, e, rfl, _⟩ := h
    rfl
  · obtain ⟨v, q0, C, e0, rfl, hp, ⟨fine, hw⟩, acc, k⟩ := h
    refine ⟨_, (pss_cons (ps_set (i := 1) sc_rings_of.nd rfl (Or.inl rfl) (pe_lst pa_nil))
      (pss_cons (ps_set (i := 2) sc_rings_of.nd rfl (Or.inl rfl) (pe_lst (pa_cons (pv 0) pa_nil)))
      (pss_cons (ps_while PassesOwn.never (pt_cmpR op_gt (pe_callB (cLen K) (by rfl) B.len (by decide +kernel) (pa_cons (pv 2) pa_nil)) pe_int (nomark _)) (pss_cons (ps_set (i := 3) sc_rings_of.nd rfl (Or.inl rfl) (pe_bm0 PySem.F.plainAttrs_list PySem.F.slot_list_pop PySem.F.type_list_pop mt_pop (pv 2)))
        (pss_one (ps_if (pt_cmpR op_eq (pe_ix (ixT K) (pv 3) pe_int (fun _ _ => rfl)) pe_str (nomark _)) (pss_one (ps_expr (pe_bm PySem.F.plainAttrs_list PySem.F.slot_list_append PySem.F.type_list_append mt_append (pv 1) (pa_cons (pe_ix (ixT K) (pv 3) pe_int (fun _ _ => rfl)) pa_nil)))) (pss_one (ps_expr (pe_bm PySem.F.plainAttrs_list PySem.F.slot_list_extend PySem.F.type_list_extend mt_extendT (pv 2) (pa_cons (revT (pe_ix (ixT K) (pv 3) pe_int (fun _ _ => rfl))) pa_nil))))))))
      (pss_one (ps_ret (pv 1)))))), ?_⟩
    refine ⟨by show 0 ≤ sizeLine; decide, fun R hR => ?_⟩
    have s1 : Same H (upd H R (.lst [])) := same_new hR
    have eR1 : (upd H R (.lst [])) R = some (.lst []) := upd_same
    generalize upd H R (.lst []) = H1 at s1 eR1 ⊢
    refine ⟨_, rfl, by show 1 ≤ sizeLine; decide, fun D hD => ?_⟩
    have hD0 := s1.free hD
    have s2 : Same H1 (upd H1 D (.lst [v])) := same_new hD
    have nRD : R ≠ D := ne_of_none eR1 hD
    refine ⟨fun m σ H' => ∃ (u : Option V) (fs vs : List V) (ps : List Paper), σ = [some v, some (.ref R), some (.ref D), u] ∧ Same H H' ∧ H' R = some (.lst fs) ∧ H' D = some (.lst vs) ∧ Al (PapAt H') vs ps ∧ (∀ p ∈ ps, Fine 7 e0 p ∧ ∃ A, Acc C A p) ∧ (∀ v ∈ fs, RingV H' v) ∧ fs.length + m ≤ wt q0 ∧ wts ps = m,
      ⟨wt q0, none, [], [v], [q0], rfl, s1.trans s2, s2 _ _ eR1, upd_same, Al.one (hp.mono (Same.tups (s1.trans s2))), fun q hq => by rw [List.mem_singleton.mp hq]; exact ⟨fine, [], acc⟩, fun v hv => (by cases hv), by simp, by simp [wts]⟩, fun m σ H' q => ?_⟩
    obtain ⟨u, rs, vs, ps, rfl, sm, eR, eD, al, fs, rings, le, em⟩ := q
    refine ⟨_, rfl, D, vs, rfl, .inl (SqL.of eD), _, _, rfl, rfl, _, rfl, ?_⟩
    rw [gt0]
    by_cases c : 0 < vs.length
    · rw [decide_eq_true c]
      refine ⟨_, fun σ' H3 n3 => n3, ?_⟩
      obtain ⟨y, q, ws, qs, rfl, rfl, al2, hq⟩ := pop_al al c
      refine ⟨_, rfl, .inl ⟨rfl, _, SqL.of eD⟩, D, _, y, rfl, rfl, eD, last_snoc, ?_⟩
      rw [List.dropLast_concat]
      have tp : Tups H' (upd H' D (.lst ws)) := Tups.lst eD
      have sm2 : Same H (upd H' D (.lst ws)) := Same.mut sm hD0
      have eD2 : (upd H' D (.lst ws)) D = some (.lst ws) := upd_same
      have eR2 : (upd H' D (.lst ws)) R = some (.lst rs) := by rw [upd_ne nRD]; exact eR
      have al3 := PapsAt.mono tp al2
      have hq3 := hq.mono tp
      have rings2 : ∀ v ∈ rs, RingV (upd H' D (.lst ws)) v := fun v hv => let ⟨r, a, b⟩ := rings v hv; ⟨r, a.mono tp, b⟩
      generalize upd H' D (.lst ws) = H2 at tp sm2 eD2 eR2 al3 hq3 rings2 ⊢
      obtain ⟨fq, As, aq⟩ := fs q (by simp)
      have fqs : ∀ p ∈ qs, Fine 7 e0 p ∧ ∃ A, Acc C A p := fun p h => fs p (List.mem_append_left _ h)
      rw [wts_append] at em
      have wq : wts [q] = wt q := by simp [wts]
      have pq := wt_pos q
      cases hq3 with
      | @ring y x r h1 h2 =>
        obtain ⟨t, rfl, ht⟩ := h1
        cases aq with
        | ring isr mem =>
        cases fq with
        | ring len7 _ =>
        refine ⟨_, rfl, t, _, _, _, rfl, rfl, SqT.of ht, rfl, rfl, _, rfl, ?_⟩
        rw [show decide (V.str "ring" = V.str "ring") = true from decide_eq_true rfl]
        refine ⟨_, rfl, .inl ⟨rfl, _, SqL.of eR2⟩, _, rfl, t, _, _, _, rfl, rfl, SqT.of ht, rfl, R, rs, _, rfl, rfl, eR2, by unfold sizeLine; omega, ?_⟩
        have tp3 : Tups H2 (upd H2 R (.lst (rs ++ [x]))) := Tups.lst eR2
        refine ⟨wts qs, by omega, _, rs ++ [x], ws, qs, rfl, Same.mut sm2 hR, upd_same, by rw [upd_ne nRD.symm]; exact eD2, PapsAt.mono tp3 al3, fqs, fun v hv => ?_, by rw [List.length_append, List.length_singleton]; omega, rfl⟩
        rcases List.mem_append.mp hv with a | a
        · obtain ⟨r, a, b⟩ := rings2 v a
          exact ⟨r, a.mono tp3, b⟩
        · rw [List.mem_singleton.mp a]
          exact ⟨r, h2.mono tp3, isr, len7⟩
      | @cases y x j vs ps h1 h2 h3 h4 =>
        obtain ⟨t, rfl, ht⟩ := h1
        obtain ⟨z, rfl, hz⟩ := h2
        cases aq with
        | @cases _ _ _ cl hcl lcl accs =>
        cases fq with
        | @cases e _ _ fq =>
        refine ⟨_, rfl, t, _, _, _, rfl, rfl, SqT.of ht, rfl, rfl, _, rfl, ?_⟩
        rw [show decide (V.str "cases" = V.str "ring") = false from decide_eq_false (by decide)]
        have wc : wt (.cases j ps) = 1 + wts ps := by simp [wt]
        have l1 := wts_len qs
        have l2 := wts_len ps
        have l3 := al3.len
        refine ⟨_, rfl, .inl ⟨rfl, _, SqL.of eD2⟩, _, rfl, t, _, _, _, rfl, rfl, SqT.of ht, rfl, z, vs, rfl, hz, fun T hT => ?_⟩
        have sT := same_new (o := .tup vs.reverse) hT
        have eT : (upd H2 T (.tup vs.reverse)) T = some (.tup vs.reverse) := upd_same
        generalize upd H2 T (.tup vs.reverse) = H3 at sT eT ⊢
        refine ⟨D, T, ws, vs.reverse, rfl, rfl, sT _ _ eD2, eT, by rw [List.length_reverse]; unfold sizeLine; omega, ?_⟩
        have tp5 : Tups H3 (upd H3 D (.lst (ws ++ vs.reverse))) := Tups.lst (sT _ _ eD2)
        have tp6 : Tups H2 (upd H3 D (.lst (ws ++ vs.reverse))) := (Same.tups sT).trans tp5
        have wr := wts_rev ps
        refine ⟨wts (qs ++ ps.reverse), by rw [wts_append, wr]; omega, _, rs, ws ++ vs.reverse, qs ++ ps.reverse, rfl, Same.mut (sm2.trans sT) hD0, by rw [upd_ne nRD]; exact sT _ _ eR2, upd_same, (PapsAt.mono tp6 al3).app (PapsAt.mono tp6 (PapAt.parts h3 h4)).rev, fun p hp => ?_, fun v hv => let ⟨r, a, b⟩ := rings2 v hv; ⟨r, a.mono tp6, b⟩, by rw [wts_append, wr]; omega, rfl⟩
        rcases List.mem_append.mp hp with a | a
        · exact fqs p a
        · have a := List.mem_reverse.mp a
          refine ⟨(fq p a).mono (by omega), ?_⟩
          obtain ⟨i, hi⟩ := List.getElem?_of_mem a
          have lt : i < cl.length := by
            have := (List.getElem?_eq_some_iff.mp hi).1
            omega
          exact ⟨_, accs i p cl[i] hi (List.getElem?_eq_getElem lt)⟩
    · rw [decide_eq_false c]
      exact ⟨_, rfl, k H' R rs sm hR eR (by omega) rings⟩

abbrev s_used_by : Stmt := top 27
abbrev N_used_by : List Str := ["clauses", "only", "paper", "found", "waiting", "one", "assumed", "literal", "part"]
theorem sc_used_by : FnScope N_used_by ["clauses", "only", "paper"] (defScope s_used_by) := ⟨rfl, rfl, rfl, by decide +kernel, rfl, by decide +kernel, by decide +kernel⟩
def sp_used_by : Sp := fun vs H Q _ => ∃ (n : Nat) (p d : Addr) (C : List (List Lit)) (v : V) (q : Paper) (e : Nat), vs = [.ref p, .ref d, v] ∧ Prob H n p C ∧ OnlyAt H d C ∧ PapAt H v q ∧ Pok e q ∧ e ≤ 100 ∧ wt q ≤ 2000000 ∧ Acc C [] q ∧
  ∀ (H' : Hp) (L : Addr) (ns : List Int), Same H H' → H L = none → H' L = some (.lst (ns.map V.int)) → (∀ k ∈ ns, 0 ≤ k ∧ k < (C.length : Int)) → (∀ k : Nat, Used C [] q k → (k : Int) ∈ ns) → Q (.ref L) H'
theorem ok_used_by {f : Addr} {fd : FuncData} (F : Fun K "used_by" "used_by" s_used_by f fd) (B : Bt mg) : FnOk P w K mg base CX0 1 f fd ["clauses", "only", "paper"] sp_used_by := by
  refine F.ok sc_used_by (fun vs H Q E h => ?_) (fun cdv A outer s H vs Q E hr h => ?_)
  · obtain ⟨n, p, d, C, v, q, e, rfl, _⟩ := h
    rfl
  · obtain ⟨n, p, d, C, v, q0, e0, rfl, pr, only, hp, ⟨fine, hw⟩, he, hw2, acc, k⟩ := h
    refine ⟨_, (pss_cons (ps_set (i := 3) sc_used_by.nd rfl (Or.inl rfl) (pe_lst pa_nil))
      (pss_cons (ps_set (i := 4) sc_used_by.nd rfl (Or.inl rfl) (pe_lst (pa_cons (pe_tup (pa_cons (pv 2) (pa_cons (pe_tup pa_nil) pa_nil))) pa_nil)))
      (pss_cons (ps_while PassesOwn.never (pt_cmpR op_gt (pe_callB (cLen K) (by rfl) B.len (by decide +kernel) (pa_cons (pv 4) pa_nil)) pe_int (nomark _)) (pss_cons (ps_asg (pe_bm0 PySem.F.plainAttrs_list PySem.F.slot_list_pop PySem.F.type_list_pop mt_pop (pv 4)) (pgT K 2 (pgs_cons (pg_name (i := 5) sc_used_by.nd rfl (Or.inl rfl)) (pgs_cons (pg_name (i := 6) sc_used_by.nd rfl (Or.inr rfl)) pgs_nil))))
        (pss_one (ps_if (pt_cmpR op_eq (pe_ix (ixT K) (pv 5) pe_int (fun _ _ => rfl)) pe_str (nomark _)) (pss_one (ps_expr (pe_bm PySem.F.plainAttrs_list PySem.F.slot_list_extend PySem.F.type_list_extend mt_extend (pv 3) (pa_cons (pe_lc (own := [("literal", 7)]) rfl sc_used_by.nd (piT K (pe_ix (ixT K) (pv 5) pe_int (fun _ _ => rfl))) (blkOk_by (N := N_used_by) (sc := defScope s_used_by) (by decide +kernel)) (fun _ _ _ _ _ => (pg_name (i := 7) sc_used_by.nd rfl (Or.inl rfl))) (fun _ _ _ _ _ => pts_one (pt_cmpR (notInT K (room65 hr)) (pv 7) (pv 6) (by rfl))) (fun _ _ _ _ _ => (pe_dget (hu_of hr) (pv 1) (pv 7) (fun _ _ => rfl)))) pa_nil)))) (pss_cons (ps_expr (pe_bm PySem.F.plainAttrs_list PySem.F.slot_list_append PySem.F.type_list_append mt_append (pv 3) (pa_cons (pe_ix (ixT K) (pv 5) pe_int (fun _ _ => rfl)) pa_nil)))
          (pss_one (ps_expr (pe_bm PySem.F.plainAttrs_list PySem.F.slot_list_extend PySem.F.type_list_extend mt_extend (pv 4) (pa_cons (pe_lc (own := [("literal", 7), ("part", 8)]) rfl sc_used_by.nd (piZ K rfl B.zip (pa_cons (pe_ix (ixL K) (pv 0) (pe_ix (ixT K) (pv 5) pe_int (fun _ _ => rfl)) (fun _ _ => rfl)) (pa_cons (pe_ix (ixT K) (pv 5) pe_int (fun _ _ => rfl)) pa_nil))) (blkOk_by (N := N_used_by) (sc := defScope s_used_by) (by decide +kernel)) (fun _ _ _ _ _ => (pgT K 2 (pgs_cons (pg_name (i := 7) sc_used_by.nd rfl (Or.inl rfl)) (pgs_cons (pg_name (i := 8) sc_used_by.nd rfl (Or.inl rfl)) pgs_nil)))) (fun _ _ _ _ _ => pts_nil) (fun _ _ _ _ _ => (pe_tup (pa_cons (pv 8) (pa_cons (pe_op (catT K) (pv 6) (pe_tup (pa_cons (pv 7) pa_nil))) pa_nil))))) pa_nil)))))))))
      (pss_one (ps_ret (pv 3)))))), ?_⟩
    refine ⟨by show 0 ≤ sizeLine; decide, fun R hR => ?_⟩
    have s1 : Same H (upd H R (.lst [])) := same_new hR
    have eR1 : (upd H R (.lst [])) R = some (.lst []) := upd_same
    generalize upd H R (.lst []) = H1 at s1 eR1 ⊢
    refine ⟨_, rfl, by show 0 ≤ sizeLine; decide, fun T0 hT0 => ⟨by show 2 ≤ sizeLine; decide, fun T hT => ⟨by show 1 ≤ sizeLine; decide, fun D hD => ?_⟩⟩⟩
    have s0 : Same H1 (upd H1 T0 (.tup [])) := same_new hT0
    have e0' : (upd H1 T0 (.tup [])) T0 = some (.tup []) := upd_same
    generalize upd H1 T0 (.tup []) = Ha at s0 e0' hT hD ⊢
    have sT : Same Ha (upd Ha T (.tup [v, .ref T0])) := same_new hT
    have eT : (upd Ha T (.tup [v, .ref T0])) T = some (.tup [v, .ref T0]) := upd_same
    have s01 := s0.trans sT
    have eT0 := sT _ _ e0'
    generalize upd Ha T (.tup [v, .ref T0]) = Hb at sT eT hD s01 eT0 ⊢
    have eRb := s01 _ _ eR1
    have nRD : R ≠ D := ne_of_none eRb hD
    have s02 := s1.trans s01
    have hD0 : H D = none := s02.free hD
    have s3 : Same Hb (upd Hb D (.lst [.ref T])) := same_new hD
    refine ⟨fun m σ H' => ∃ (u4 u5 u6 u7 : Option V) (ns : List Int) (vs : List V) (ps : List (Paper × List Lit)), σ = [some (.ref p), some (.ref d), some v, some (.ref R), some (.ref D), u4, u5, u6, u7] ∧ Same H H' ∧ H' R = some (.lst (ns.map V.int)) ∧ H' D = some (.lst vs) ∧ Al (PAs H') vs ps ∧ (∀ x ∈ ps, Acc C x.2 x.1 ∧ ∃ e, Fine 7 e x.1 ∧ x.2.length + e ≤ e0) ∧
        (∀ k ∈ ns, 0 ≤ k ∧ k < (C.length : Int)) ∧ (∀ k : Nat, Used C [] q0 k → (k : Int) ∈ ns ∨ ∃ x ∈ ps, Used C x.2 x.1 k) ∧ ns.length + 8 * m ≤ 16000000 ∧ wts (ps.map Prod.fst) = m,
      ⟨wt q0, none, none, none, none, [], [.ref T], [(q0, [])], rfl, s02.trans s3, s3 _ _ eRb, upd_same, Al.one ⟨v, _, ⟨T, rfl, s3 _ _ eT⟩, hp.mono (Same.tups (s02.trans s3)), [], ⟨T0, rfl, s3 _ _ eT0⟩, Al.nil⟩, fun x hx => (by rw [List.mem_singleton.mp hx]; exact ⟨acc, e0, fine, by simp⟩), fun k hk => (by cases hk), fun k hk => .inr ⟨(q0, []), List.mem_singleton.mpr rfl, hk⟩, by simp only [List.length_nil]; omega, by simp [wts]⟩, fun m σ H' q => ?_⟩
    obtain ⟨u4, u5, u6, u7, ns, vs, ps, rfl, sm, eR, eD, al, fs, nsb, cov, le, em⟩ := q
    refine ⟨_, rfl, D, vs, rfl, .inl (SqL.of eD), _, _, rfl, rfl, _, rfl, ?_⟩
    rw [gt0]
    by_cases c : 0 < vs.length
    · rw [decide_eq_true c]
      refine ⟨_, fun σ' H3 n3 => n3, ?_⟩
      obtain ⟨y, q, ws, qs, rfl, rfl, al2, hq⟩ := pop_al al c
      refine ⟨_, rfl, .inl ⟨rfl, _, SqL.of eD⟩, D, _, y, rfl, rfl, eD, last_snoc, ?_⟩
      rw [List.dropLast_concat]
      have tp : Tups H' (upd H' D (.lst ws)) := Tups.lst eD
      have sm2 : Same H (upd H' D (.lst ws)) := Same.mut sm hD0
      have eD2 : (upd H' D (.lst ws)) D = some (.lst ws) := upd_same
      have eR2 : (upd H' D (.lst ws)) R = some (.lst (ns.map V.int)) := by rw [upd_ne nRD]; exact eR
      have al3 := al2.mono fun _ _ q => q.mono tp
      have hq3 := hq.mono tp
      generalize upd H' D (.lst ws) = H2 at tp sm2 eD2 eR2 al3 hq3 ⊢
      obtain ⟨aq, e, fq, de⟩ := fs q (by simp)
      have fqs : ∀ x ∈ qs, Acc C x.2 x.1 ∧ ∃ e, Fine 7 e x.1 ∧ x.2.length + e ≤ e0 := fun p h => fs p (List.mem_append_left _ h)
      rw [List.map_append, wts_append] at em
      have wq : wts ([q].map Prod.fst) = wt q.1 := by simp [wts]
      have pq := wt_pos q.1
      obtain ⟨q, as⟩ := q
      simp only at wq pq de aq fq
      obtain ⟨u, a, ⟨t0, rfl, ht0⟩, hq4, asv, ⟨a, rfl, ha⟩, ala⟩ := hq3
      refine ⟨t0, _, rfl, SqT.of ht0, rfl, _, _, rfl, _, _, rfl, rfl, ?_⟩
      have prb := pr.mono sm2
      have on2 := only.mono sm2
      have nl : (ns.map V.int).length = ns.length := List.length_map _
      cases hq4 with
      | @ring y x r h1 h2 =>
        obtain ⟨t, rfl, ht⟩ := h1
        cases aq with
        | ring isr mem =>
        cases fq with
        | ring len7 _ =>
        refine ⟨_, rfl, t, _, _, _, rfl, rfl, SqT.of ht, rfl, rfl, _, rfl, ?_⟩
        rw [show decide (V.str "ring" = V.str "ring") = true from decide_eq_true rfl]
        obtain ⟨xs, ⟨z, rfl, hz⟩, alr⟩ := h2
        refine ⟨_, rfl, .inl ⟨rfl, _, SqL.of eR2⟩, _, rfl, t, _, _, _, rfl, rfl, SqT.of ht, rfl, z, rfl, ⟨_, SqT.of hz⟩, ?_⟩
        have lenr := alr.len
        refine lcT (K := K) (SqT.of hz) (Nat.le_of_lt (small1000 (by omega))) (keepA r as) (fun i u H' => ∃ (l : Lit) (k : Nat), r[i]? = some l ∧ u = .int k ∧ C[k]? = some [l] ∧ ∀ j : Nat, j < k → C[j]? ≠ some [l]) (fun _ _ _ _ _ q => q) (fun i u H5 hi s5 Kt Kf k1 k2 => ?_) fun L H5 ys hL s5 eL q => ?_
        · obtain ⟨l, hl, tl, rfl, htl⟩ := alr.at_ i u hi
          have htl5 := s5 _ _ htl
          have ke : keepA r as i = !decide (l ∈ as) := by unfold keepA; rw [hl]
          refine ⟨rfl, _, rfl, _, rfl, litD l, as.map litD, LitAt.dp ⟨tl, rfl, htl5⟩, .tup (SqT.of (s5 _ _ ha)) (LitsAt.dp (LitsAt.mono (Same.tups s5) ala)), litD_shaped l, litDs_shapedT as, _, rfl, ?_⟩
          rw [any_litD]
          by_cases c2 : l ∈ as
          · rw [decide_eq_true c2] at ke ⊢
            exact k2 _ ke (Same.refl _)
          · rw [decide_eq_false c2] at ke ⊢
            rcases (on2.mono s5).get htl5 with ⟨c3, _⟩ | ⟨k, g, c4, c5⟩
            · rcases mem l (List.mem_of_getElem? hl) with c1 | c1
              · exact (c3 c1).elim
              · exact (c2 c1).elim
            · exact ⟨_, rfl, _, rfl, d, _, rfl, g, k1 _ _ ke (Same.refl _) ⟨l, k, hl, rfl, c4, c5⟩⟩
        · have fl : ((List.range xs.length).filter (keepA r as)).length ≤ 7 := by
            have := List.length_filter_le (keepA r as) (List.range xs.length)
            rw [List.length_range] at this
            omega
          obtain ⟨ms, rfl, msb⟩ := ints_of (m := C.length) (ys := ys) fun v hv => by
            obtain ⟨i, hi⟩ := List.getElem?_of_mem hv
            obtain ⟨j, _, l, k, _, rfl, hk, _⟩ := q.at_ i v hi
            exact ⟨k, rfl, (List.getElem?_eq_some_iff.mp hk).1⟩
          have ml := q.len
          rw [List.length_map] at ml
          refine ⟨R, L, _, _, rfl, rfl, s5 _ _ eR2, eL, by rw [nl, List.length_map]; unfold sizeLine; omega, ?_⟩
          rw [← List.map_append]
          have tp3 : Tups H2 (upd H5 R (.lst ((ns ++ ms).map V.int))) := (Same.tups s5).trans (Tups.lst (s5 _ _ eR2))
          refine ⟨wts (qs.map Prod.fst), by omega, _, _, _, _, ns ++ ms, ws, qs, rfl, Same.mut (sm2.trans s5) hR, upd_same, by rw [upd_ne nRD.symm]; exact s5 _ _ eD2, al3.mono fun _ _ q => q.mono tp3, fqs, fun k hk => ?_, fun k hk => ?_, by rw [List.length_append]; omega, rfl⟩
          · rcases List.mem_append.mp hk with b | b
            · exact nsb k b
            · exact msb k b
          · rcases cov k hk with b | ⟨x, hx, ux⟩
            · exact .inl (List.mem_append_left _ b)
            · rcases List.mem_append.mp hx with b | b
              · exact .inr ⟨x, b, ux⟩
              · rw [List.mem_singleton.mp b] at ux
                cases ux with
                | @ring _ _ l _ hl hna hc hf =>
                  refine .inl (List.mem_append_right _ ?_)
                  obtain ⟨i, hi⟩ := List.getElem?_of_mem hl
                  have ilt : i < xs.length := by
                    have := (List.getElem?_eq_some_iff.mp hi).1
                    omega
                  have ke : keepA r as i = true := by unfold keepA; rw [hi]; simp only [decide_eq_false hna]; rfl
                  have hm : i ∈ (List.range xs.length).filter (keepA r as) := List.mem_filter.mpr ⟨List.mem_range.mpr ilt, ke⟩
                  obtain ⟨j, hj⟩ := List.getElem?_of_mem hm
                  obtain ⟨v, hv, l', k', hl', rfl, hk', hf'⟩ := q.back hj
                  rw [hi] at hl'
                  cases hl'
                  have : k' = k := by
                    rcases Nat.lt_trichotomy k' k with z | z | z
                    · exact (hf k' z hk').elim
                    · exact z
                    · exact (hf' k z hc).elim
                  subst this
                  exact mem_ints (List.mem_of_getElem? hv)
      | @cases y x j vs ps h1 h2 h3 h4 =>
        obtain ⟨t, rfl, ht⟩ := h1
        obtain ⟨z, rfl, hz⟩ := h2
        cases aq with
        | @cases _ _ _ cl hcl lcl accs =>
        refine ⟨_, rfl, t, _, _, _, rfl, rfl, SqT.of ht, rfl, rfl, _, rfl, ?_⟩
        rw [show decide (V.str "cases" = V.str "ring") = false from decide_eq_false (by decide)]
        have wc : wt (.cases j ps) = 1 + wts ps := by simp [wt]
        have l1 := wts_len (qs.map Prod.fst)
        have l2 := wts_len ps
        have l3 := al3.len
        rw [List.length_map] at l1
        have jlt : j < C.length := (List.getElem?_eq_some_iff.mp hcl).1
        refine ⟨_, rfl, .inl ⟨rfl, _, SqL.of eR2⟩, _, rfl, t, _, _, _, rfl, rfl, SqT.of ht, rfl, R, _, _, rfl, rfl, eR2, by rw [nl]; unfold sizeLine; omega, ?_⟩
        have en : ns.map V.int ++ [V.int (j : Nat)] = (ns ++ [(j : Int)]).map V.int := by rw [List.map_append]; rfl
        rw [en]
        have tp3 : Tups H2 (upd H2 R (.lst ((ns ++ [(j : Int)]).map V.int))) := Tups.lst eR2
        have sm3 : Same H (upd H2 R (.lst ((ns ++ [(j : Int)]).map V.int))) := Same.mut sm2 hR
        have eR3 : (upd H2 R (.lst ((ns ++ [(j : Int)]).map V.int))) R = some (.lst ((ns ++ [(j : Int)]).map V.int)) := upd_same
        have eD3 : (upd H2 R (.lst ((ns ++ [(j : Int)]).map V.int))) D = some (.lst ws) := by rw [upd_ne nRD.symm]; exact eD2
        have prb := pr.mono sm3
        have ht := tp3 _ _ ht
        have hz := tp3 _ _ hz
        have ha := tp3 _ _ ha
        have ala := LitsAt.mono tp3 ala
        generalize upd H2 R (.lst ((ns ++ [(j : Int)]).map V.int)) = H3 at tp3 sm3 eR3 eD3 prb ht hz ha ala ⊢
        obtain ⟨xs, hpp, alC⟩ := prb.at_
        obtain ⟨vx, hvx, ys, ⟨tc, rfl, htc⟩, alcl⟩ := alC.back hcl
        have lcl2 := alcl.len
        refine ⟨_, rfl, .inl ⟨rfl, _, SqL.of eD3⟩, _, rfl, _, rfl, t, _, _, _, rfl, rfl, SqT.of ht, rfl, p, xs, _, _, rfl, rfl, SqL.of hpp, atI_nat hvx, _, rfl, t, _, _, _, rfl, rfl, SqT.of ht, rfl, tc, z, true, true, ys, vs, rfl, SqT.of htc, SqT.of hz, ?_⟩
        cases fq with
        | @cases e _ _ fq =>
        refine lcZ (K := K) (k := true) (j := true) (SqT.of htc) (SqT.of hz) (by omega) (by unfold sizeLine; omega) (fun _ => true) (fun i y H' => ∃ x l u, vs[i]? = some x ∧ cl[i]? = some l ∧ TupAt H' y [x, u] ∧ RowAt H' u (as ++ [l])) (fun i y H H' t q => let ⟨x, l, u, a, a', b, c⟩ := q; ⟨x, l, u, a, a', b.mono t, c.mono t⟩) (fun i lx px T' H5 hlx hpx sm5 hT' Kt Kf k1 _ => ?_) fun L H5 zs hL sm5 eL q => ?_
        · obtain ⟨l, hl, hlv⟩ := alcl.at_ i lx hlx
          refine ⟨T', _, rfl, SqT.of hT', rfl, _, _, rfl, _, _, rfl, rfl, rfl, ?_⟩
          refine ⟨_, rfl, _, rfl, _, rfl, by show 1 ≤ sizeLine; decide, fun T1 hT1 => ?_⟩
          have s6 := same_new (o := .tup [lx]) hT1
          refine cat_row (s6 _ _ (sm5 _ _ ha)) (LitsAt.mono (Same.tups (sm5.trans s6)) ala) upd_same (hlv.mono (Same.tups (sm5.trans s6))) (by show as.length ≤ 900; omega) fun H7 v7 s7 row => ?_
          refine ⟨by show 2 ≤ sizeLine; decide, fun T2 hT2 => ?_⟩
          have s8 := same_new (o := .tup [px, v7]) hT2
          exact k1 _ _ rfl (s6.trans (s7.trans s8)) ⟨px, l, v7, hpx, hl, ⟨T2, rfl, upd_same⟩, row.mono (Same.tups s8)⟩
        · obtain ⟨lz, hz2⟩ := al_all (α := Nat) q
          refine ⟨D, L, ws, zs, rfl, rfl, sm5 _ _ eD3, eL, by unfold sizeLine; omega, ?_⟩
          have tp5 : Tups H5 (upd H5 D (.lst (ws ++ zs))) := Tups.lst (sm5 _ _ eD3)
          have tp6 : Tups H2 (upd H5 D (.lst (ws ++ zs))) := tp3.trans ((Same.tups sm5).trans tp5)
          have lz2 : (ps.zip cl).length = ps.length := by rw [List.length_zip]; omega
          have alz : Al (PAs (upd H5 D (.lst (ws ++ zs)))) zs ((ps.zip cl).map fun x => (x.1, as ++ [x.2])) := ⟨by rw [lz, List.length_map, lz2]; omega, fun i v hv => by
            obtain ⟨x, l, u, hx, hl, tx, rx⟩ := hz2 i v hv
            have lt : i < ps.length := by
              have := (List.getElem?_eq_some_iff.mp hx).1
              omega
            have hpi : ps[i]? = some ps[i] := List.getElem?_eq_getElem lt
            refine ⟨(ps[i], as ++ [l]), ?_, x, u, tx.mono tp5, (h4 i x _ hx hpi).mono tp6, rx.mono tp5⟩
            rw [List.getElem?_map, List.getElem?_zip_eq_some (z := (ps[i], l)) |>.mpr ⟨hpi, hl⟩]
            rfl⟩
          have mp : ((ps.zip cl).map fun x => (x.1, as ++ [x.2])).map Prod.fst = ps := by
            rw [List.map_map]
            exact List.map_fst_zip (by omega)
          refine ⟨wts ((qs ++ (ps.zip cl).map fun x => (x.1, as ++ [x.2])).map Prod.fst), by rw [List.map_append, wts_append, mp]; omega, _, _, _, _, ns ++ [(j : Int)], ws ++ zs, qs ++ (ps.zip cl).map fun x => (x.1, as ++ [x.2]), rfl, Same.mut (sm3.trans sm5) hD0, by rw [upd_ne nRD]; exact sm5 _ _ eR3, upd_same, (al3.mono fun _ _ q => q.mono tp6).app alz, fun x hx => ?_, fun k hk => ?_, fun k hk => ?_, by rw [List.length_append, List.length_singleton, List.map_append, wts_append, mp]; omega, rfl⟩
          · rcases List.mem_append.mp hx with a | a
            · exact fqs x a
            · obtain ⟨⟨p', l'⟩, hp', rfl⟩ := List.mem_map.mp a
              obtain ⟨i, hi⟩ := List.getElem?_of_mem hp'
              obtain ⟨hi1, hi2⟩ := List.getElem?_zip_eq_some.mp hi
              exact ⟨accs i p' l' hi1 hi2, e, fq p' (List.mem_of_getElem? hi1), by simp only [List.length_append, List.length_singleton]; omega⟩
          · rcases List.mem_append.mp hk with b | b
            · exact nsb k b
            · rw [List.mem_singleton.mp b]
              omega
          · rcases cov k hk with b | ⟨x, hx, ux⟩
            · exact .inl (List.mem_append_left _ b)
            · rcases List.mem_append.mp hx with b | b
              · exact .inr ⟨x, List.mem_append_left _ b, ux⟩
              · rw [List.mem_singleton.mp b] at ux
                cases ux with
                | here => exact .inl (List.mem_append_right _ (List.mem_singleton.mpr rfl))
                | @there _ _ _ _ cl' i p' l' f1 f2 f3 f4 =>
                  rw [hcl] at f1
                  cases f1
                  refine .inr ⟨(p', as ++ [l']), List.mem_append_right _ (List.mem_map.mpr ⟨(p', l'), ?_, rfl⟩), f4⟩
                  exact List.mem_of_getElem? (List.getElem?_zip_eq_some (z := (p', l')) |>.mpr ⟨f2, f3⟩)
    · rw [decide_eq_false c]
      have : vs = [] := List.length_eq_zero_iff.mp (by omega)
      have hps : ps = [] := List.length_eq_zero_iff.mp (by rw [← al.len]; omega)
      refine ⟨_, rfl, k H' R ns sm hR eR nsb fun j hj => ?_⟩
      rcases cov j hj with b | ⟨x, hx, _⟩
      · exact b
      · rw [hps] at hx
        cases hx

abbrev s_used_clauses : Stmt := top 28
abbrev N_used_clauses : List Str := ["n", "clauses", "paper"]
theorem sc_used_clauses : FnScope N_used_clauses ["n", "clauses", "paper"] (defScope s_used_clauses) := ⟨rfl, rfl, rfl, by decide +kernel, rfl, by decide +kernel, by decide +kernel⟩
def sp_used_clauses : Sp := fun vs H Q _ => ∃ (n : Nat) (p : Addr) (C : List (List Lit)) (v : V) (q : Paper) (e : Nat), vs = [.int n, .ref p, v] ∧ Prob H n p C ∧ PapAt H v q ∧ Pok e q ∧ e ≤ 100 ∧ wt q ≤ 2000000 ∧ Acc C [] q ∧
  ∀ (H' : Hp) (L : Addr) (ns : List Int), Same H H' → H L = none → H' L = some (.lst (ns.map V.int)) → ns.Pairwise (· < ·) → (∀ k ∈ ns, 0 ≤ k ∧ k < (C.length : Int)) → (∀ k : Nat, Used C [] q k → (k : Int) ∈ ns) → Q (.ref L) H'
theorem ok_used_clauses {f : Addr} {fd : FuncData} (F : Fun K "used_clauses" "used_clauses" s_used_clauses f fd) (B : Bt mg) (D_need_accepted : Def P w K mg base 5 "need_accepted" ["n", "clauses", "paper"] sp_need_accepted)
    (D_single : Def P w K mg base 1 "single" ["clauses"] sp_single) (D_used_by : Def P w K mg base 1 "used_by" ["clauses", "only", "paper"] sp_used_by) : FnOk P w K mg base CX0 6 f fd ["n", "clauses", "paper"] sp_used_clauses := by
  refine F.ok sc_used_clauses (fun vs H Q E h => ?_) (fun cdv A outer s H vs Q E hr h => ?_)
  · obtain ⟨n, p, C, v, q, e, rfl, _⟩ := h
    rfl
  · obtain ⟨n, p, C, v, q, e, rfl, pr, hp, pk, he, hw2, acc, k⟩ := h
    refine ⟨_, (pss_cons (ps_expr (callD D_need_accepted (hr.mono (by decide)) rfl (pa_cons (pv 0) (pa_cons (pv 1) (pa_cons (pv 2) pa_nil)))))
      (pss_one (ps_ret (pe_callB (cr_sortedSet rfl) (by rfl) B.sorted (by decide +kernel) (pa_cons (pe_callTy (cSet) (by rfl) B.set (by decide +kernel) (pa_cons (callD D_used_by (hr.mono (by decide)) rfl (pa_cons (pv 1) (pa_cons (callD D_single (hr.mono (by decide)) rfl (pa_cons (pv 1) pa_nil)) (pa_cons (pv 2) pa_nil)))) pa_nil)) pa_nil))))), ?_⟩
    refine ⟨_, rfl, _, rfl, _, rfl, n, p, C, v, q, e, rfl, pr, hp, pk, he, acc, fun H1 s1 => ?_⟩
    refine ⟨_, rfl, _, rfl, n, p, C, rfl, pr.mono s1, fun H2 d s2 hd on => ?_⟩
    have s12 := s1.trans s2
    refine ⟨_, rfl, n, p, d, C, v, q, e, rfl, pr.mono s12, on, hp.mono (Same.tups s12), pk, he, hw2, acc, fun H3 L ns s3 hL eL nb cov => ?_⟩
    have s13 := s12.trans s3
    refine ⟨L, ns, C.length, rfl, eL, nb, by have := pr.few; omega, fun S c hS hc => ?_⟩
    have sS := same_new (o := SetO w S (fun j => decide (j ∈ ns)) c) hS
    refine ⟨S, _, c, rfl, upd_same, by have := pr.few; omega, fun ms M pw mem ml hM => ?_⟩
    have sM := same_new (o := .lst (ms.map V.int)) hM
    have s14 := s13.trans (sS.trans sM)
    refine k _ M ms s14 ((s13.trans sS).free hM) upd_same pw (fun k hk => nb k (of_decide_eq_true ((mem k).mp hk))) fun k hk => (mem _).mpr (decide_eq_true (cov k hk))
end
end D7
/-! D7, walk 7: papers.py, the Trimmer -/
namespace D7
open PySem L2

/-! ### heaps alike but for one list -/
def But (S : Addr) (H H' : Hp) : Prop := (∀ c o, c ≠ S → H c = some o → H' c = some o) ∧ (∃ xs, H S = some (.lst xs)) ∧ ∃ ys, H' S = some (.lst ys)
section
variable {S a : Addr} {H H' H2 Hb : Hp} {o : HO} {xs ys : List V}
theorem But.of (s : Same H H') (h : H S = some (.lst xs)) : But S H H' := ⟨fun c o _ h => s c o h, ⟨xs, h⟩, xs, s _ _ h⟩
theorem But.trans (b : But S H H') (c : But S H' H2) : But S H H2 := ⟨fun x o n h => c.1 x o n (b.1 x o n h), b.2.1, c.2.2⟩
theorem But.tups (b : But S H H') : Tups H H' := fun c xs h => by
  obtain ⟨ys, hy⟩ := b.2.1
  exact b.1 c _ (ne_of h hy (fun e => by cases e)) h
theorem But.new (b : But S Hb H) (h : Hb a = none) : a ≠ S := by
  obtain ⟨ys, hy⟩ := b.2.1
  exact (ne_of_none hy h).symm
theorem But.mut (b : But S Hb H) (h : Hb a = none) : But S Hb (upd H a o) := by
  have n := b.new h
  obtain ⟨b1, b2, ys, b3⟩ := b
  exact ⟨fun c u nc hc => by rw [upd_ne (ne_of_none hc h)]; exact b1 c u nc hc, b2, ys, by rw [upd_ne n.symm]; exact b3⟩
theorem But.stk (b : But S Hb H) : But S Hb (upd H S (.lst ys)) := ⟨fun c u nc hc => by rw [upd_ne nc]; exact b.1 c u nc hc, b.2.1, ys, upd_same⟩
theorem But.free (b : But S H H') (h : H' a = none) : H a = none := by
  cases e : H a with
  | none => rfl
  | some o =>
    by_cases q : a = S
    · subst q
      obtain ⟨ys, hy⟩ := b.2.2
      rw [hy] at h
      cases h
    · rw [b.1 a o q e] at h
      cases h
end
theorem Prob.mono2 {H H' : Hp} {n : Nat} {p : Addr} {C : List (List Lit)} (h : Prob H n p C) (t : Tups H H') (k : ∀ xs, H p = some (.lst xs) → H' p = some (.lst xs)) : Prob H' n p C :=
  ⟨h.n1, h.n7, let ⟨xs, a, b⟩ := h.at_; ⟨xs, k _ a, RowsAt.mono t b⟩, h.ok, h.few, h.short⟩

/-! ### cases that are open -/
structure Fr where
  k : Nat
  cl : List Lit
  orig : List Paper
  ps : List Paper
  nd : List Lit
  e : Nat
def FrAt (CO : Addr) (H : Hp) (v : V) (fr : Fr) (a b : Addr) : Prop := ∃ (o dx z : Addr) (rs xs ys : List V), v = .ref o ∧ H o = some (.ins CO dx [("k", .int fr.k), ("rest", .ref z), ("parts", .ref a), ("needed", .ref b)]) ∧ H z = some (.tup rs) ∧
  Al (PapAt H) rs fr.orig ∧ H a = some (.lst xs) ∧ Al (PapAt H) xs fr.ps ∧ H b = some (.lst ys) ∧ Al (LitAt H) ys fr.nd ∧ a ≠ b
theorem FrAt.mono {CO S : Addr} {H H' : Hp} {v : V} {fr : Fr} {a b : Addr} (t : But S H H') (h : FrAt CO H v fr a b) (na : a ≠ S) (nb : b ≠ S) : FrAt CO H' v fr a b := by
  obtain ⟨o, dx, z, rs, xs, ys, e, h1, h2, h3, h4, h5, h6, h7, n⟩ := h
  obtain ⟨zs, hS⟩ := t.2.1
  exact ⟨o, dx, z, rs, xs, ys, e, t.1 _ _ (ne_of h1 hS fun e => by cases e) h1, t.tups _ _ h2, PapsAt.mono t.tups h3, t.1 _ _ na h4, PapsAt.mono t.tups h5, t.1 _ _ nb h6, LitsAt.mono t.tups h7, n⟩
inductive Opens (CO S : Addr) (H0 : Hp) : Hp → List V → List Fr → Prop
  | nil {H : Hp} : But S H0 H → Opens CO S H0 H [] []
  | push {Hb H : Hp} {a b : Addr} {v : V} {fr : Fr} {vs : List V} {frs : List Fr} : Opens CO S H0 Hb vs frs → Hb a = none → Hb b = none → But S Hb H → FrAt CO H v fr a b → Opens CO S H0 H (v :: vs) (fr :: frs)
section
variable {CO S : Addr} {H0 H H' : Hp} {vs : List V} {frs : List Fr}
theorem Opens.base (h : Opens CO S H0 H vs frs) : But S H0 H := by
  induction h with
  | nil b => exact b
  | push _ _ _ b _ ih => exact ih.trans b
theorem Opens.mono (h : Opens CO S H0 H vs frs) (b : But S H H') : Opens CO S H0 H' vs frs := by
  cases h with
  | nil c => exact .nil (c.trans b)
  | push h1 h2 h3 h4 h5 => exact .push h1 h2 h3 (h4.trans b) (h5.mono b (h4.new h2) (h4.new h3))
theorem Opens.len (h : Opens CO S H0 H vs frs) : vs.length = frs.length := by
  induction h with
  | nil _ => rfl
  | push _ _ _ _ _ ih => rw [List.length_cons, List.length_cons, ih]
end
inductive Chain (C : List (List Lit)) (D0 : Nat) : List Fr → List Lit → Nat → Prop
  | nil : Chain C D0 [] [] D0
  | cons {frs : List Fr} {A : List Lit} {d : Nat} {fr : Fr} {l : Lit} : Chain C D0 frs A d → C[fr.k]? = some fr.cl → fr.orig.length = fr.cl.length → fr.cl[fr.ps.length]? = some l → Part C 7 fr.e fr.cl fr.ps fr.nd → (∀ m ∈ fr.nd, m ∈ A ∧ [m] ∉ C) →
      (∀ (i : Nat) p m, fr.orig[i]? = some p → fr.cl[i]? = some m → Acc C (A ++ [m]) p) → (∀ p ∈ fr.orig, Fine 7 fr.e p) → fr.e + 1 ≤ d → Chain C D0 (fr :: frs) (A ++ [l]) fr.e
theorem Chain.len {C : List (List Lit)} {D0 : Nat} {frs : List Fr} {A : List Lit} {d : Nat} (h : Chain C D0 frs A d) : A.length = frs.length ∧ frs.length + d ≤ D0 := by
  induction h with
  | nil => exact ⟨rfl, by simp⟩
  | cons _ _ _ _ _ _ _ _ _ ih =>
    rw [List.length_append, List.length_singleton, List.length_cons]
    omega
/-- what is still to be trimmed, behind the parts at hand -/
def mu : List Fr → Nat
  | [] => 0
  | fr :: frs => wts (fr.orig.drop (fr.ps.length + 1)) + mu frs
def theta : List Fr → Nat
  | [] => 0
  | fr :: frs => wts (fr.orig.drop fr.ps.length) + mu frs
/-- a trimmed paper with what it needs, before it is handed up -/
def Fnd (CO S : Addr) (H0 : Hp) (C : List (List Lit)) (D0 : Nat) (H : Hp) (v : V) (vs : List V) (frs : List Fr) : Prop := ∃ (Hf : Hp) (A : List Lit) (d : Nat) (u : V) (q : Paper) (nl : Addr) (ys : List V) (nd : List Lit),
  Opens CO S H0 Hf vs frs ∧ Hf nl = none ∧ But S Hf H ∧ H S = some (.lst vs.reverse) ∧ Chain C D0 frs A d ∧ TupAt H v [u, .ref nl] ∧ PapAt H u q ∧ H nl = some (.lst ys) ∧ Al (LitAt H) ys nd ∧ Good C 7 d q nd ∧ ∀ m ∈ nd, m ∈ A ∧ [m] ∉ C
/-- the Trimmer -/
structure TrB (CT : Addr) (H0 : Hp) (x S : Addr) (n : Nat) (p d : Addr) (C : List (List Lit)) : Prop where
  me : ∃ dx, H0 x = some (.ins CT dx [("clauses", .ref p), ("only", .ref d), ("stack", .ref S)])
  pr : Prob H0 n p C
  only : OnlyAt H0 d C
  st : ∃ xs, H0 S = some (.lst xs)
  np : p ≠ S
theorem TrB.mono {CT : Addr} {H0 H : Hp} {x S : Addr} {n : Nat} {p d : Addr} {C : List (List Lit)} (h : TrB CT H0 x S n p d C) (b : But S H0 H) : TrB CT H x S n p d C := by
  obtain ⟨⟨dx, h1⟩, h2, ⟨kvs, h3, h3'⟩, ⟨xs, h4⟩, h5⟩ := h
  exact ⟨⟨dx, b.1 _ _ (ne_of h1 h4 fun e => by cases e) h1⟩, h2.mono2 b.tups fun _ e => b.1 _ _ h5 e, ⟨kvs, b.1 _ _ (ne_of h3 h4 fun e => by cases e) h3, h3'⟩, b.2.2, h5⟩
structure TrC (K : PySem.W.Frag) (CT CO : Addr) : Prop where
  ct : Cls K CT
  t1 : NoAttr K CT "clauses"
  t2 : NoAttr K CT "only"
  t3 : NoAttr K CT "stack"
  co : Cls K CO
  o1 : NoAttr K CO "k"
  o2 : NoAttr K CO "rest"
  o3 : NoAttr K CO "parts"
  o4 : NoAttr K CO "needed"
/-- a filter by places -/
theorem filter_take {α : Type} {f : α → Bool} {r : List α} : ∀ k, k ≤ r.length → (r.take k).filter f = ((List.range k).filter fun i => (r[i]?).any f).filterMap fun i => r[i]? := by
  intro k
  induction k with
  | zero => intro _; rfl
  | succ k ih =>
    intro h
    have e : r[k]? = some (r[k]'(by omega)) := List.getElem?_eq_getElem _
    rw [List.take_succ, e, List.filter_append, ih (by omega), filter_snoc, List.filterMap_append, e]
    congr 1
    show List.filter f [r[k]'(by omega)] = _
    rw [List.filter_cons]
    show _ = List.filterMap (fun i => r[i]?) (if f (r[k]'(by omega)) = true then [k] else [])
    split
    · rw [List.filterMap_cons, e]
      rfl
    · rfl
theorem al_pick {α : Type} {R : V → α → Prop} {r : List α} : ∀ {ys : List V} {is : List Nat}, Al (fun v i => ∃ x, r[i]? = some x ∧ R v x) ys is → Al R ys (is.filterMap fun i => r[i]?)
  | [], is, h => by
    have : is = [] := List.length_eq_zero_iff.mp h.len.symm
    subst this
    exact Al.nil
  | y :: ys, [], h => by
    have := h.len
    simp at this
  | y :: ys, i :: is, h => by
    obtain ⟨j, ej, x, hx, q⟩ := h.at_ 0 y rfl
    have : i = j := by simpa using ej
    subst this
    have ih := al_pick (R := R) (r := r) (ys := ys) (is := is) ⟨by simpa using h.len, fun m v e => by simpa using h.at_ (m + 1) v (by simpa using e)⟩
    rw [List.filterMap_cons, hx]
    exact (Al.one q).app ih
theorem al_filter {α : Type} {R : V → α → Prop} {r : List α} {f : α → Bool} {ys : List V} (h : Al (fun v i => ∃ x, r[i]? = some x ∧ R v x) ys ((List.range r.length).filter fun i => (r[i]?).any f)) : Al R ys (r.filter f) := by
  have e := filter_take (f := f) (r := r) r.length (Nat.le_refl _)
  rw [List.take_length] at e
  rw [e]
  exact al_pick h
/-- all but the instance at x stays -/
def Bx (x : Addr) (H H' : Hp) : Prop := ∀ c o, c ≠ x → H c = some o → H' c = some o
section
variable {x : Addr} {H0 H H' : Hp} {o u : HO}
theorem Bx.refl : Bx x H H := fun _ _ _ h => h
theorem Bx.set (b : Bx x H0 H) : Bx x H0 (upd H x o) := fun c u n h => by rw [upd_ne n]; exact b c u n h
theorem Bx.same (b : Bx x H0 H) (s : Same H H') : Bx x H0 H' := fun c u n h => s _ _ (b c u n h)
theorem Bx.free {a : Addr} (b : Bx x H0 H) (hx : H x = some o) (h : H a = none) : H0 a = none := by
  cases e : H0 a with
  | none => rfl
  | some u =>
    rw [b a u (ne_of_none hx h).symm e] at h
    cases h
theorem Bx.all (b : Bx x H0 H) (h : H0 x = none) : Same H0 H := fun c u e => b c u (ne_of_none e h) e
end
theorem Prob.bx {x : Addr} {H H' : Hp} {n : Nat} {p C' dx : Addr} {C : List (List Lit)} {fs : List (Str × V)} (h : Prob H n p C) (b : Bx x H H') (hx : H x = some (.ins C' dx fs)) : Prob H' n p C :=
  h.mono2 (fun c xs e => b c _ (ne_of e hx fun e => by cases e) e) fun xs e => b p _ (ne_of e hx fun e => by cases e) e
section
variable {P : Program} {w : World} {K : PySem.W.Frag} {mg : Str → Option Value} {base : Heap}
abbrev s_Open_init : Stmt := inClass (top 29) 0
abbrev N_Open_init : List Str := ["self", "k", "parts"]
theorem sc_Open_init : FnScope N_Open_init ["self", "k", "parts"] (defScope s_Open_init) := ⟨rfl, rfl, rfl, by decide +kernel, rfl, by decide +kernel, by decide +kernel⟩
def sp_Open_init (CO : Addr) : Sp := fun vs H Q _ => ∃ (x dx : Addr) (kv zv : V), vs = [.ref x, kv, zv] ∧ H x = some (.ins CO dx []) ∧ ∀ (H' : Hp) (a b : Addr), Bx x H H' → H' x = some (.ins CO dx [("k", kv), ("rest", zv), ("parts", .ref a), ("needed", .ref b)]) →
  H' a = some (.lst []) → H' b = some (.lst []) → a ≠ b → H a = none → H b = none → Q .non H'
theorem ok_Open_init {f : Addr} {fd : FuncData} {CT CO : Addr} (F : Fun K "__init__" "Open.__init__" s_Open_init f fd) (c : TrC K CT CO) : FnOk P w K mg base CX0 1 f fd ["self", "k", "parts"] (sp_Open_init CO) := by
  refine F.ok sc_Open_init (fun vs H Q E h => ?_) (fun cdv A outer s H vs Q E hr h => ?_)
  · obtain ⟨x, dx, kv, zv, rfl, _⟩ := h
    rfl
  · obtain ⟨x, dx, kv, zv, rfl, hx, k⟩ := h
    refine ⟨_, (pss_cons (ps_fld (pv 0) (pv 1) rfl)
      (pss_cons (ps_fld (pv 0) (pv 2) rfl)
      (pss_cons (ps_fld (pv 0) (pe_lst pa_nil) rfl)
      (pss_one (ps_fld (pv 0) (pe_lst pa_nil) rfl))))), ?_⟩
    refine ⟨_, rfl, _, rfl, x, CO, dx, [], rfl, hx, c.co, c.o1, by decide, ?_⟩
    refine ⟨_, rfl, _, rfl, x, CO, dx, _, rfl, upd_same, c.co, c.o2, by show 1 < 1000; decide, ?_⟩
    rw [upd_upd, show putF "rest" zv (putF "k" kv []) = ([("k", kv), ("rest", zv)] : List (Str × V)) from rfl]
    have b1 : Bx x H (upd H x (.ins CO dx [("k", kv), ("rest", zv)])) := Bx.refl.set
    have x1 : (upd H x (.ins CO dx [("k", kv), ("rest", zv)])) x = some (.ins CO dx [("k", kv), ("rest", zv)]) := upd_same
    generalize upd H x (.ins CO dx [("k", kv), ("rest", zv)]) = H1 at b1 x1 ⊢
    refine ⟨by show 0 ≤ sizeLine; decide, fun a ha => ?_⟩
    have sa := same_new (o := .lst []) ha
    have ea : (upd H1 a (.lst [])) a = some (.lst []) := upd_same
    have nax : a ≠ x := (ne_of_none x1 ha).symm
    have fa := b1.free x1 ha
    have b2 := b1.same sa
    have x2 := sa _ _ x1
    generalize upd H1 a (.lst []) = H2 at b2 x2 ea ⊢
    refine ⟨_, rfl, x, CO, dx, _, rfl, x2, c.co, c.o3, by show 2 < 1000; decide, ?_⟩
    rw [show putF "parts" (V.ref a) [("k", kv), ("rest", zv)] = ([("k", kv), ("rest", zv), ("parts", .ref a)] : List (Str × V)) from rfl]
    have b3 := b2.set (o := .ins CO dx [("k", kv), ("rest", zv), ("parts", .ref a)])
    have x3 : (upd H2 x (.ins CO dx [("k", kv), ("rest", zv), ("parts", .ref a)])) x = some (.ins CO dx [("k", kv), ("rest", zv), ("parts", .ref a)]) := upd_same
    have ea3 : (upd H2 x (.ins CO dx [("k", kv), ("rest", zv), ("parts", .ref a)])) a = some (.lst []) := by rw [upd_ne nax]; exact ea
    generalize upd H2 x (.ins CO dx [("k", kv), ("rest", zv), ("parts", .ref a)]) = H3 at b3 x3 ea3 ⊢
    refine ⟨by show 0 ≤ sizeLine; decide, fun b hb => ?_⟩
    have sb := same_new (o := .lst []) hb
    have nbx : b ≠ x := (ne_of_none x3 hb).symm
    refine ⟨_, rfl, x, CO, dx, _, rfl, sb _ _ x3, c.co, c.o4, by show 3 < 1000; decide, ?_⟩
    exact k _ a b (b3.same sb).set upd_same (by rw [upd_ne nax]; exact sb _ _ ea3) (by rw [upd_ne nbx]; exact upd_same) (ne_of_none ea3 hb) fa (b3.free x3 hb)

abbrev s_Trimmer_init : Stmt := inClass (top 30) 0
abbrev N_Trimmer_init : List Str := ["self", "clauses"]
theorem sc_Trimmer_init : FnScope N_Trimmer_init ["self", "clauses"] (defScope s_Trimmer_init) := ⟨rfl, rfl, rfl, by decide +kernel, rfl, by decide +kernel, by decide +kernel⟩
def sp_Trimmer_init (CT : Addr) : Sp := fun vs H Q _ => ∃ (x dx p : Addr) (n : Nat) (C : List (List Lit)), vs = [.ref x, .ref p] ∧ H x = some (.ins CT dx []) ∧ Prob H n p C ∧ ∀ (H' : Hp) (d S : Addr), Bx x H H' → TrB CT H' x S n p d C → H' S = some (.lst []) → H S = none → Q .non H'
theorem ok_Trimmer_init {f : Addr} {fd : FuncData} {CT CO : Addr} (F : Fun K "__init__" "Trimmer.__init__" s_Trimmer_init f fd) (c : TrC K CT CO) (D_single : Def P w K mg base 1 "single" ["clauses"] sp_single) : FnOk P w K mg base CX0 2 f fd ["self", "clauses"] (sp_Trimmer_init CT) := by
  refine F.ok sc_Trimmer_init (fun vs H Q E h => ?_) (fun cdv A outer s H vs Q E hr h => ?_)
  · obtain ⟨x, dx, p, n, C, rfl, _⟩ := h
    rfl
  · obtain ⟨x, dx, p, n, C, rfl, hx, pr, k⟩ := h
    refine ⟨_, (pss_cons (ps_fld (pv 0) (pv 1) rfl)
      (pss_cons (ps_fld (pv 0) (callD D_single (hr.mono (by decide)) rfl (pa_cons (pv 1) pa_nil)) rfl)
      (pss_one (ps_fld (pv 0) (pe_lst pa_nil) rfl)))), ?_⟩
    refine ⟨_, rfl, _, rfl, x, CT, dx, [], rfl, hx, c.ct, c.t1, by decide, ?_⟩
    rw [show putF "clauses" (V.ref p) [] = ([("clauses", .ref p)] : List (Str × V)) from rfl]
    have b1 : Bx x H (upd H x (.ins CT dx [("clauses", .ref p)])) := Bx.refl.set
    have x1 : (upd H x (.ins CT dx [("clauses", .ref p)])) x = some (.ins CT dx [("clauses", .ref p)]) := upd_same
    generalize upd H x (.ins CT dx [("clauses", .ref p)]) = H1 at b1 x1 ⊢
    refine ⟨_, rfl, n, p, C, rfl, pr.bx b1 hx, fun H2 d s2 hd on => ?_⟩
    have nxd : d ≠ x := (ne_of_none x1 hd).symm
    refine ⟨_, rfl, x, CT, dx, _, rfl, s2 _ _ x1, c.ct, c.t2, by show 1 < 1000; decide, ?_⟩
    rw [show putF "only" (V.ref d) [("clauses", .ref p)] = ([("clauses", .ref p), ("only", .ref d)] : List (Str × V)) from rfl]
    have b2 := (b1.same s2).set (o := .ins CT dx [("clauses", .ref p), ("only", .ref d)])
    have x2 : (upd H2 x (.ins CT dx [("clauses", .ref p), ("only", .ref d)])) x = some (.ins CT dx [("clauses", .ref p), ("only", .ref d)]) := upd_same
    have on2 : OnlyAt (upd H2 x (.ins CT dx [("clauses", .ref p), ("only", .ref d)])) d C := let ⟨kvs, a, b⟩ := on; ⟨kvs, by rw [upd_ne nxd]; exact a, b⟩
    generalize upd H2 x (.ins CT dx [("clauses", .ref p), ("only", .ref d)]) = H3 at b2 x2 on2 ⊢
    refine ⟨by show 0 ≤ sizeLine; decide, fun S hS => ?_⟩
    have sS := same_new (o := .lst []) hS
    have nSx : S ≠ x := (ne_of_none x2 hS).symm
    have fS := b2.free x2 hS
    refine ⟨_, rfl, x, CT, dx, _, rfl, sS _ _ x2, c.ct, c.t3, by show 2 < 1000; decide, ?_⟩
    have b4 := (b2.same sS).set (o := .ins CT dx [("clauses", .ref p), ("only", .ref d), ("stack", .ref S)])
    have eS : (upd (upd H3 S (.lst [])) x (.ins CT dx [("clauses", .ref p), ("only", .ref d), ("stack", .ref S)])) S = some (.lst []) := by rw [upd_ne nSx]; exact upd_same
    obtain ⟨xl, hpl, _⟩ := pr.at_
    refine k _ d S b4 ⟨⟨dx, upd_same⟩, pr.bx b4 hx, ?_, ⟨_, eS⟩, fun e => by subst e; rw [fS] at hpl; cases hpl⟩ eS fS
    obtain ⟨kvs, a, b⟩ := on2.mono sS
    exact ⟨kvs, by rw [upd_ne nxd]; exact a, b⟩

abbrev s_Trimmer_descend : Stmt := inClass (top 30) 1
abbrev N_Trimmer_descend : List Str := ["self", "paper", "literal"]
theorem sc_Trimmer_descend : FnScope N_Trimmer_descend ["self", "paper"] (defScope s_Trimmer_descend) := ⟨rfl, rfl, rfl, by decide +kernel, rfl, by decide +kernel, by decide +kernel⟩
def sp_descend (CT CO : Addr) : Sp := fun vs H Q _ => ∃ (x S p d : Addr) (n : Nat) (C : List (List Lit)) (H0 : Hp) (xs : List V) (frs : List Fr) (A : List Lit) (D0 dd : Nat) (zv : V) (q : Paper), vs = [.ref x, zv] ∧ TrB CT H0 x S n p d C ∧ H S = some (.lst xs.reverse) ∧ Opens CO S H0 H xs frs ∧
  Chain C D0 frs A dd ∧ PapAt H zv q ∧ Acc C A q ∧ Fine 7 dd q ∧ D0 ≤ 100 ∧ wt q ≤ 2400000 ∧ ∀ (H' : Hp) (v : V) (ys : List V) (frs' : List Fr), Fnd CO S H0 C D0 H' v ys frs' → mu frs' + 1 ≤ mu frs + wt q → Q v H'
theorem ok_descend {f : Addr} {fd : FuncData} {CT CO : Addr} (F : Fun K "descend" "Trimmer.descend" s_Trimmer_descend f fd) (c : TrC K CT CO) (B : Bt mg) (C_Open : Made P w K mg base 1 "Open" CO ["self", "k", "parts"] (sp_Open_init CO)) : FnOk P w K mg base CX0 3 f fd ["self", "paper"] (sp_descend CT CO) := by
  refine F.ok sc_Trimmer_descend (fun vs H Q E h => ?_) (fun cdv A outer s H vs Q E hr h => ?_)
  · obtain ⟨x, S, p, d, n, C, H0, xs, frs, A, D0, dd, zv, q, rfl, _⟩ := h
    rfl
  · obtain ⟨x, S, p, d, n, C, H0, xs, frs, A, D0, dd, zv, q, rfl, tr, eS, op, ch, hp, acc, fine, h100, hw, k⟩ := h
    refine ⟨_, (pss_cons (ps_while PassesOwn.never (PW.pt (pw_and (pt_cmpR op_eq (pe_ix (ixT K) (pv 1) pe_int (fun _ _ => rfl)) pe_str (nomark _)) (pw_and1 (pt_cmpR op_gt (pe_callB (cLen K) (by rfl) B.len (by decide +kernel) (pa_cons (pe_ix (ixT K) (pv 1) pe_int (fun _ _ => rfl)) pa_nil)) pe_int (nomark _))))) (pss_cons (ps_expr (pe_bm PySem.F.plainAttrs_list PySem.F.slot_list_append PySem.F.type_list_append mt_append (fld K (pv 0)) (pa_cons (makeD C_Open (hr.mono (by decide)) rfl (pa_cons (pe_ix (ixT K) (pv 1) pe_int (fun _ _ => rfl)) (pa_cons (pe_ix (ixT K) (pv 1) pe_int (fun _ _ => rfl)) pa_nil))) pa_nil)))
        (pss_one (ps_set (i := 1) sc_Trimmer_descend.nd rfl (Or.inl rfl) (pe_ix (ixT K) (pe_ix (ixT K) (pv 1) pe_int (fun _ _ => rfl)) pe_int (fun _ _ => rfl))))))
      (pss_cons (ps_if (pt_cmpR op_eq (pe_ix (ixT K) (pv 1) pe_int (fun _ _ => rfl)) pe_str (nomark _)) (pss_one (ps_ret (pe_tup (pa_cons (pv 1) (pa_cons (pe_lst pa_nil) pa_nil))))) pss_nil)
      (pss_one (ps_ret (pe_tup (pa_cons (pv 1) (pa_cons (pe_lc (own := [("literal", 2)]) rfl sc_Trimmer_descend.nd (piT K (pe_ix (ixT K) (pv 1) pe_int (fun _ _ => rfl))) (blkOk_by (N := N_Trimmer_descend) (sc := defScope s_Trimmer_descend) (by decide +kernel)) (fun _ _ _ _ _ => (pg_name (i := 2) sc_Trimmer_descend.nd rfl (Or.inl rfl))) (fun _ _ _ _ _ => pts_one (pt_cmp (pc_dnotin (hu_of hr) (pv 2) (fld K (pv 0))))) (fun _ _ _ _ _ => (pv 2))) pa_nil))))))), ?_⟩
    refine ⟨fun m σ H' => ∃ (u : Option V) (zv : V) (q' : Paper) (vs : List V) (frs' : List Fr) (A : List Lit) (d' : Nat), σ = [some (.ref x), some zv, u] ∧ H' S = some (.lst vs.reverse) ∧ Opens CO S H0 H' vs frs' ∧ Chain C D0 frs' A d' ∧ PapAt H' zv q' ∧ Acc C A q' ∧ Fine 7 d' q' ∧ mu frs' + wt q' ≤ mu frs + wt q ∧ wt q' ≤ 2400000 ∧ m = wt q',
      ⟨wt q, none, zv, q, xs, frs, A, dd, rfl, eS, op, ch, hp, acc, fine, Nat.le_refl _, hw, rfl⟩, fun m σ H' z => ?_⟩
    clear eS op ch hp acc fine hw
    obtain ⟨u, zv, q', vs, frs', A, d', rfl, eS, op, ch, hp, acc, fine, le, hw, rfl⟩ := z
    have trb := tr.mono op.base
    obtain ⟨dx, hx⟩ := trb.me
    have cl := ch.len
    have ol := op.len
    have hp2 := hp
    cases hp with
    | @ring y z r h1 h2 =>
      obtain ⟨t, rfl, ht⟩ := h1
      cases acc with
      | ring isr mem =>
      cases fine with
      | ring len7 nod =>
      refine ⟨_, rfl, t, _, _, _, rfl, rfl, SqT.of ht, rfl, rfl, _, rfl, ?_⟩
      rw [show decide (V.str "ring" = V.str "cases") = false from decide_eq_false (by decide)]
      refine ⟨_, rfl, t, _, _, _, rfl, rfl, SqT.of ht, rfl, rfl, _, rfl, ?_⟩
      rw [show decide (V.str "ring" = V.str "cases") = false from decide_eq_false (by decide)]
      obtain ⟨xs2, ⟨y, rfl, hy⟩, al⟩ := h2
      have lenr := al.len
      refine ⟨_, rfl, _, rfl, t, _, _, _, rfl, rfl, SqT.of ht, rfl, y, rfl, ⟨_, SqT.of hy⟩, ?_⟩
      refine lcT (K := K) (SqT.of hy) (Nat.le_of_lt (small1000 (by omega))) (fun i => (r[i]?).any fun l => !decide ([l] ∈ C)) (fun i u H' => ∃ l, r[i]? = some l ∧ LitAt H' u l) (fun _ _ _ _ t q => let ⟨l, a, b⟩ := q; ⟨l, a, b.mono t⟩) (fun i u H5 hi s5 Kt Kf k1 k2 => ?_) fun L H5 ys hL s5 eL z => ?_
      · obtain ⟨l, hl, tl, rfl, htl⟩ := al.at_ i u hi
        have htl5 := s5 _ _ htl
        obtain ⟨o, hd, eo⟩ := (trb.only.mono s5).has htl5
        have ke : (r[i]?).any (fun l => !decide ([l] ∈ C)) = !o.isSome := by rw [hl, eo]; rfl
        refine ⟨rfl, _, rfl, _, rfl, x, CT, dx, _, _, rfl, s5 _ _ hx, c.ct, c.t2, rfl, d, o, rfl, hd, _, rfl, ?_⟩
        cases o with
        | none => exact ⟨_, rfl, k1 _ _ ke (Same.refl _) ⟨l, hl, tl, rfl, htl5⟩⟩
        | some o => exact k2 _ ke (Same.refl _)
      · refine ⟨by show 2 ≤ sizeLine; decide, fun T hT => ?_⟩
        have sT := same_new (o := .tup [.ref t, .ref L]) hT
        have s6 := s5.trans sT
        refine k _ _ vs frs' ⟨H', A, d', .ref t, .ring r, L, ys, open_ C r, op, hL, But.of s6 eS, s6 _ _ eS, ch, ⟨T, rfl, upd_same⟩, hp2.mono (Same.tups s6), sT _ _ eL, ?_, Good.ring isr len7 nod, fun m hm => ?_⟩ (by have := wt_pos (.ring r); omega)
        · rw [lenr] at z
          exact LitsAt.mono (Same.tups sT) (al_filter z)
        · obtain ⟨a, b⟩ := mem_open.mp hm
          exact ⟨(mem m a).resolve_left b, b⟩
    | @cases y z j rs ps h1 h2 h3 h4 =>
      obtain ⟨t, rfl, ht⟩ := h1
      obtain ⟨z, rfl, hz⟩ := h2
      cases acc with
      | @cases _ _ _ cl2 hcl lcl accs =>
      cases fine with
      | @cases e _ _ fq =>
      have wc : wt (.cases j ps) = 1 + wts ps := by simp [wt]
      refine ⟨_, rfl, t, _, _, _, rfl, rfl, SqT.of ht, rfl, rfl, _, rfl, ?_⟩
      rw [show decide (V.str "cases" = V.str "cases") = true from decide_eq_true rfl]
      refine ⟨_, rfl, t, _, _, _, rfl, rfl, SqT.of ht, rfl, z, rs, rfl, .inr (SqT.of hz), _, _, rfl, rfl, _, rfl, ?_⟩
      rw [gt0]
      cases ps with
      | nil =>
        have rs0 : rs = [] := List.length_eq_zero_iff.mp h3
        subst rs0
        have cl0 : cl2 = [] := List.length_eq_zero_iff.mp lcl.symm
        subst cl0
        rw [show decide (0 < ([] : List V).length) = false from decide_eq_false (by simp)]
        refine ⟨_, rfl, t, _, _, _, rfl, rfl, SqT.of ht, rfl, rfl, _, rfl, ?_⟩
        rw [show decide (V.str "cases" = V.str "cases") = true from decide_eq_true rfl]
        refine ⟨_, rfl, by show 0 ≤ sizeLine; decide, fun L hL => ⟨by show 2 ≤ sizeLine; decide, fun T hT => ?_⟩⟩
        have sL := same_new (o := .lst []) hL
        have sT := same_new (o := .tup [.ref t, .ref L]) hT
        have s6 := sL.trans sT
        exact k _ _ vs frs' ⟨H', A, e + 1, .ref t, .cases j [], L, [], [], op, hL, But.of s6 eS, s6 _ _ eS, ch, ⟨T, rfl, upd_same⟩, hp2.mono (Same.tups s6), sT _ _ upd_same, Al.nil, Part.nil.good hcl rfl, fun m hm => by cases hm⟩ (by omega)
      | cons p0 ps =>
        have pos : 0 < rs.length := by rw [h3]; exact Nat.zero_lt_succ _
        rw [decide_eq_true pos]
        refine ⟨_, fun σ' H3 n3 => n3, ?_⟩
        refine ⟨_, rfl, x, CT, dx, _, _, rfl, hx, c.ct, c.t3, rfl, .inl ⟨rfl, _, SqL.of eS⟩, _, rfl, t, _, _, _, rfl, rfl, SqT.of ht, rfl, _, rfl, t, _, _, _, rfl, rfl, SqT.of ht, rfl, ?_⟩
        intro o ox ho hox nox
        have so : Same H' (upd (upd H' ox (.own o)) o (.ins CO ox [])) := fun b u e => by
          rw [upd_ne (ne_of_none e ho), upd_ne (ne_of_none e hox)]
          exact e
        refine ⟨o, ox, _, _, rfl, upd_same, fun H3 a b b3 e3 ea eb nab fa fb => ⟨rfl, ?_⟩⟩
        have s3 : Same H' H3 := fun b u e => b3 b u (ne_of_none e ho) (so b u e)
        have rl : vs.reverse.length = frs'.length := by rw [List.length_reverse]; exact ol
        refine ⟨S, _, _, rfl, rfl, s3 _ _ eS, by rw [rl]; exact small1000 (by omega), ?_⟩
        have er : vs.reverse ++ [V.ref o] = (V.ref o :: vs).reverse := by rw [List.reverse_cons]
        rw [er]
        have bS : But S H' (upd H3 S (.lst (V.ref o :: vs).reverse)) := (But.of s3 eS).stk
        have nSo : o ≠ S := (ne_of_none eS ho).symm
        have fa' := so.free fa
        have fb' := so.free fb
        obtain ⟨v0, hv0⟩ : ∃ v0, rs[0]? = some v0 := ⟨rs[0], List.getElem?_eq_getElem pos⟩
        obtain ⟨l0, hl0⟩ : ∃ l0, cl2[0]? = some l0 := ⟨cl2[0]'(by rw [← lcl]; exact Nat.zero_lt_succ _), List.getElem?_eq_getElem _⟩
        refine ⟨_, rfl, t, _, _, _, rfl, rfl, SqT.of (bS.tups _ _ ht), rfl, z, rs, 0, _, rfl, rfl, SqT.of (bS.tups _ _ hz), atI_nat (j := 0) hv0, ?_⟩
        have oS : a ≠ S := (ne_of_none eS fa').symm
        have obS : b ≠ S := (ne_of_none eS fb').symm
        have fr1 : FrAt CO (upd H3 S (.lst (V.ref o :: vs).reverse)) (.ref o) ⟨j, cl2, p0 :: ps, [], [], e⟩ a b :=
          ⟨o, ox, z, rs, [], [], rfl, by rw [upd_ne nSo]; exact e3, bS.tups _ _ hz, PapsAt.mono bS.tups (PapAt.parts h3 h4), by rw [upd_ne oS]; exact ea, Al.nil, by rw [upd_ne obS]; exact eb, Al.nil, nab⟩
        have ws : wts (p0 :: ps) = wt p0 + wts ps := by simp [wts]
        have wm : mu (⟨j, cl2, p0 :: ps, [], [], e⟩ :: frs') = wts ps + mu frs' := rfl
        refine ⟨wt p0, by omega, _, v0, p0, .ref o :: vs, ⟨j, cl2, p0 :: ps, [], [], e⟩ :: frs', A ++ [l0], e, rfl, upd_same, .push op fa' fb' bS fr1, .cons ch hcl lcl hl0 Part.nil (fun m hm => by cases hm) accs fq (Nat.le_refl _), (h4 0 v0 p0 hv0 rfl).mono bS.tups, accs 0 p0 l0 rfl hl0, fq p0 List.mem_cons_self, by omega, by omega, rfl⟩

/-- what ascend leaves -/
def Risen (CO S : Addr) (H0 : Hp) (C : List (List Lit)) (D0 : Nat) (H : Hp) (v : V) (vs : List V) (frs : List Fr) : Prop := ∃ (A : List Lit) (d : Nat) (u w : V), Opens CO S H0 H vs frs ∧ H S = some (.lst vs.reverse) ∧ Chain C D0 frs A d ∧ TupAt H v [u, w] ∧
  (frs = [] → ∃ q, PapAt H u q ∧ Acc C [] q ∧ Fine 7 D0 q)
abbrev s_Trimmer_ascend : Stmt := inClass (top 30) 2
abbrev N_Trimmer_ascend : List Str := ["self", "found", "one", "literal", "other"]
theorem sc_Trimmer_ascend : FnScope N_Trimmer_ascend ["self", "found"] (defScope s_Trimmer_ascend) := ⟨rfl, rfl, rfl, by decide +kernel, rfl, by decide +kernel, by decide +kernel⟩
def sp_ascend (CT CO : Addr) : Sp := fun vs H Q _ => ∃ (x S p d : Addr) (n : Nat) (C : List (List Lit)) (H0 : Hp) (xs : List V) (frs : List Fr) (D0 : Nat) (v : V), vs = [.ref x, v] ∧ TrB CT H0 x S n p d C ∧ D0 ≤ 100 ∧ Fnd CO S H0 C D0 H v xs frs ∧
  ∀ (H' : Hp) (v : V) (ys : List V) (frs' : List Fr), Risen CO S H0 C D0 H' v ys frs' → theta frs' ≤ mu frs → Q v H'
theorem ok_ascend {f : Addr} {fd : FuncData} {CT CO : Addr} (F : Fun K "ascend" "Trimmer.ascend" s_Trimmer_ascend f fd) (c : TrC K CT CO) (B : Bt mg) : FnOk P w K mg base CX0 1 f fd ["self", "found"] (sp_ascend CT CO) := by
  refine F.ok sc_Trimmer_ascend (fun vs H Q E h => ?_) (fun cdv A outer s H vs Q E hr h => ?_)
  · obtain ⟨x, S, p, d, n, C, H0, xs, frs, D0, v, rfl, _⟩ := h
    rfl
  · obtain ⟨x, S, p, d, n, C, H0, xs, frs, D0, v, rfl, tr, h100, fnd, k⟩ := h
    refine ⟨_, (pss_cons (ps_while PassesOwn.never (pt_cmpR op_gt (pe_callB (cLen K) (by rfl) B.len (by decide +kernel) (pa_cons (fld K (pv 0)) pa_nil)) pe_int (nomark _)) (pss_cons (ps_set (i := 2) sc_Trimmer_ascend.nd rfl (Or.inr rfl) (pe_ix (ixL K) (fld K (pv 0)) (pe_un un_neg pe_int) (fun _ _ => rfl)))
        (pss_cons (ps_set (i := 3) sc_Trimmer_ascend.nd rfl (Or.inr rfl) (pe_ix (ixT K) (pe_ix (ixL K) (fld K (pv 0)) (fld K (pv 2)) (fun _ _ => rfl)) (pe_callB (cLen K) (by rfl) B.len (by decide +kernel) (pa_cons (fld K (pv 2)) pa_nil)) (fun _ _ => rfl)))
        (pss_cons (ps_if (pt_cmpR (inL K (room65 hr)) (pv 3) (pe_ix (ixT K) (pv 1) pe_int (fun _ _ => rfl)) (by rfl)) (pss_cons (ps_expr (pe_bm PySem.F.plainAttrs_list PySem.F.slot_list_append PySem.F.type_list_append mt_append (fld K (pv 2)) (pa_cons (pe_ix (ixT K) (pv 1) pe_int (fun _ _ => rfl)) pa_nil)))
          (pss_cons (ps_expr (pe_bm PySem.F.plainAttrs_list PySem.F.slot_list_extend PySem.F.type_list_extend mt_extend (fld K (pv 2)) (pa_cons (pe_lc (own := [("other", 4)]) rfl sc_Trimmer_ascend.nd (piL K (pe_ix (ixT K) (pv 1) pe_int (fun _ _ => rfl))) (blkOk_by (N := N_Trimmer_ascend) (sc := defScope s_Trimmer_ascend) (by decide +kernel)) (fun _ _ _ _ _ => (pg_name (i := 4) sc_Trimmer_ascend.nd rfl (Or.inl rfl))) (fun _ _ _ _ _ => pts_one (PW.pt (pw_and (pt_cmpR (neD K hr.units) (pv 4) (pv 3) (nomark _)) (pw_and1 (pt_cmpR (notInL K (room65 hr)) (pv 4) (fld K (pv 2)) (by rfl)))))) (fun _ _ _ _ _ => (pv 4))) pa_nil)))
          (pss_cons (ps_if (pt_cmpR op_lt (pe_callB (cLen K) (by rfl) B.len (by decide +kernel) (pa_cons (fld K (pv 2)) pa_nil)) (pe_callB (cLen K) (by rfl) B.len (by decide +kernel) (pa_cons (fld K (pv 2)) pa_nil)) (nomark _)) (pss_one (ps_ret (pv 1))) pss_nil)
          (pss_one (ps_set (i := 1) sc_Trimmer_ascend.nd rfl (Or.inl rfl) (pe_tup (pa_cons (pe_tup (pa_cons pe_str (pa_cons (fld K (pv 2)) (pa_cons (pe_callTy (cTuple K) (by rfl) B.tuple (by decide +kernel) (pa_cons (fld K (pv 2)) pa_nil)) pa_nil)))) (pa_cons (fld K (pv 2)) pa_nil)))))))) pss_nil)
        (pss_one (ps_expr (pe_bm0 PySem.F.plainAttrs_list PySem.F.slot_list_pop PySem.F.type_list_pop mt_pop (fld K (pv 0)))))))))
      (pss_one (ps_ret (pv 1)))), ?_⟩
    refine ⟨fun m σ H' => ∃ (u2 u3 u4 : Option V) (v : V) (vs : List V) (frs' : List Fr), σ = [some (.ref x), some v, u2, u3, u4] ∧ Fnd CO S H0 C D0 H' v vs frs' ∧ mu frs' ≤ mu frs ∧ m = vs.length, ⟨_, none, none, none, v, xs, frs, rfl, fnd, Nat.le_refl _, rfl⟩, fun m σ H1 z => ?_⟩
    clear fnd
    obtain ⟨u2, u3, u4, v, vs, frs', rfl, ⟨Hf, A, dd, u, q, nl, ys, nd, op, fnl, bf, eS, ch, ⟨t, rfl, ht⟩, hq, enl, alnd, good, sub⟩, lemu, rfl⟩ := z
    have trb := tr.mono (op.base.trans bf)
    obtain ⟨dx, hx⟩ := trb.me
    have clen := ch.len
    have olen := op.len
    have rl : vs.reverse.length = vs.length := List.length_reverse
    refine ⟨_, rfl, x, CT, dx, _, _, rfl, hx, c.ct, c.t3, rfl, S, _, rfl, .inl (SqL.of eS), _, _, rfl, rfl, _, rfl, ?_⟩
    rw [gt0, rl]
    cases op with
    | nil b0 =>
      rw [show decide (0 < ([] : List V).length) = false from decide_eq_false (by simp)]
      cases ch with
      | nil =>
      have nd0 : nd = [] := List.eq_nil_iff_forall_not_mem.mpr fun m hm => by have := (sub m hm).1; cases this
      subst nd0
      exact ⟨_, rfl, k H1 _ [] [] ⟨[], D0, u, .ref nl, .nil (b0.trans bf), eS, .nil, ⟨t, rfl, ht⟩, fun _ => ⟨q, hq, good.1, good.2.1⟩⟩ (Nat.zero_le _)⟩
    | @push Hb _ a b v0 fr vs frs2 op0 fa fb bb frat =>
      cases ch with
      | @cons _ A d' _ l ch0 hk lor hl part subf accs fins he =>
      rw [show decide (0 < (v0 :: vs).length) = true from decide_eq_true (by simp)]
      refine ⟨_, fun σ' H3 n3 => n3, ?_⟩
      have na := bb.new fa
      have nb := bb.new fb
      have bb1 := bb.trans bf
      have nla : nl ≠ a := by
        obtain ⟨_, _, _, _, _, _, _, _, _, _, e, _⟩ := frat
        exact (ne_of_none e fnl).symm
      have nlb : nl ≠ b := by
        obtain ⟨_, _, _, _, _, _, _, _, _, _, _, _, e, _⟩ := frat
        exact (ne_of_none e fnl).symm
      have nlS := bf.new fnl
      obtain ⟨o, ox, z, rs, xs, zs, rfl, ho, hz, alr, ha, alx, hb, alz, nab⟩ := frat.mono bf na nb
      have llor := alr.len
      have llx := alx.len
      have llz := alz.len
      have llnd := alnd.len
      have llt := (List.getElem?_eq_some_iff.mp hl).1
      have ndl : nd.length ≤ 101 := by
        have := nodup_sub good.2.2 (fun m hm => (sub m hm).1)
        rw [List.length_append, List.length_singleton] at this clen
        simp only [List.length_cons] at clen
        omega
      have frl : fr.nd.length ≤ 100 := by
        have := nodup_sub part.nod (fun m hm => (subf m hm).1)
        rw [List.length_append, List.length_singleton] at clen
        simp only [List.length_cons] at clen
        omega
      obtain ⟨xl, hp, alC⟩ := trb.pr.at_
      obtain ⟨vc, hvc, cs, ⟨tc, rfl, htc⟩, alcl⟩ := alC.back hk
      obtain ⟨vl, hvl, hlit⟩ := alcl.back hl
      have shortc := trb.pr.short fr.cl (List.mem_of_getElem? hk)
      have er : (V.ref o :: vs).reverse = vs.reverse ++ [V.ref o] := List.reverse_cons
      rw [er] at eS
      have popS : ∀ {H2 : Hp}, H2 S = some (.lst (vs.reverse ++ [V.ref o])) → (vs.reverse ++ [V.ref o])[(vs.reverse ++ [V.ref o]).length - 1]? = some (V.ref o) := fun _ => last_snoc
      refine ⟨_, rfl, x, CT, dx, _, _, rfl, hx, c.ct, c.t3, rfl, _, rfl, S, _, _, _, rfl, rfl, SqL.of eS, atI_last _ _, ?_⟩
      refine ⟨_, rfl, x, CT, dx, _, _, rfl, hx, c.ct, c.t1, rfl, _, rfl, o, CO, ox, _, _, rfl, ho, c.co, c.o1, rfl, p, xl, _, _, rfl, rfl, SqL.of hp, atI_nat hvc, _, rfl, o, CO, ox, _, _, rfl, ho, c.co, c.o3, rfl, a, xs, rfl, .inl (SqL.of ha), tc, cs, _, _, rfl, rfl, SqT.of htc, atI_nat (by rw [llx]; exact hvl), ?_⟩
      refine ⟨_, rfl, _, rfl, t, _, _, _, rfl, rfl, SqT.of ht, rfl, litD l, nd.map litD, LitAt.dp hlit, .lst (SqL.of enl) (LitsAt.dp alnd), litD_shaped l, litDs_shapedL nd, _, rfl, ?_⟩
      rw [any_litD]
      by_cases cn : l ∈ nd
      · rw [decide_eq_true cn]
        refine ⟨_, rfl, o, CO, ox, _, _, rfl, ho, c.co, c.o3, rfl, .inl ⟨rfl, _, SqL.of ha⟩, _, rfl, t, _, _, _, rfl, rfl, SqT.of ht, rfl, a, xs, u, rfl, rfl, ha, small1000 (by omega), ?_⟩
        -- the part is kept
        have tp2 : Tups H1 (upd H1 a (.lst (xs ++ [u]))) := Tups.lst ha
        have noa : o ≠ a := ne_of ho ha fun e => by cases e
        have nxa : x ≠ a := ne_of hx ha fun e => by cases e
        have hx2 : (upd H1 a (.lst (xs ++ [u]))) x = _ := (upd_ne nxa).trans hx
        have ho2 : (upd H1 a (.lst (xs ++ [u]))) o = _ := (upd_ne noa).trans ho
        have hb2 : (upd H1 a (.lst (xs ++ [u]))) b = _ := (upd_ne nab.symm).trans hb
        have ha2 : (upd H1 a (.lst (xs ++ [u]))) a = some (.lst (xs ++ [u])) := upd_same
        have hn2 : (upd H1 a (.lst (xs ++ [u]))) nl = _ := (upd_ne nla).trans enl
        have hS2 : (upd H1 a (.lst (xs ++ [u]))) S = _ := (upd_ne na.symm).trans eS
        have bb2 : But S Hb (upd H1 a (.lst (xs ++ [u]))) := bb1.mut fa
        generalize upd H1 a (.lst (xs ++ [u])) = H2 at tp2 hx2 ho2 hb2 ha2 hn2 hS2 bb2 ⊢
        refine ⟨_, rfl, o, CO, ox, _, _, rfl, ho2, c.co, c.o4, rfl, .inl ⟨rfl, _, SqL.of hb2⟩, _, rfl, t, _, _, _, rfl, rfl, SqT.of (tp2 _ _ ht), rfl, nl, rfl, ⟨_, SqL.of hn2⟩, ?_⟩
        refine lcL (K := K) (SqL.of hn2) (by rw [llnd]; exact Nat.le_of_lt (small1000 (by omega))) (fun i => (nd[i]?).any fun m => !decide (m = l) && !decide (m ∈ fr.nd)) (fun i v H' => ∃ m, nd[i]? = some m ∧ LitAt H' v m) (fun _ _ _ _ t q => let ⟨l, a, b⟩ := q; ⟨l, a, b.mono t⟩) (fun i v H5 hi s5 Kt Kf k1 k2 => ?_) fun L H5 ws hL s5 eL y => ?_
        · obtain ⟨m, hm, hml⟩ := alnd.at_ i v hi
          have hml5 := hml.mono (tp2.trans (Same.tups s5))
          have tp5 := tp2.trans (Same.tups s5)
          have ke : (nd[i]?).any (fun m => !decide (m = l) && !decide (m ∈ fr.nd)) = (!decide (m = l) && !decide (m ∈ fr.nd)) := by rw [hm]; rfl
          refine ⟨rfl, _, rfl, _, rfl, litD m, litD l, hml5.dp, (hlit.mono tp5).dp, litD_shaped m, litD_shaped l, _, rfl, ?_⟩
          rw [litD_eqv]
          by_cases c1 : m = l
          · rw [decide_eq_true c1] at ke ⊢
            exact k2 _ ke (Same.refl _)
          · rw [decide_eq_false c1] at ke ⊢
            refine ⟨_, rfl, _, rfl, o, CO, ox, _, _, rfl, s5 _ _ ho2, c.co, c.o4, rfl, litD m, fr.nd.map litD, hml5.dp, .lst (SqL.of (s5 _ _ hb2)) (LitsAt.dp (LitsAt.mono tp5 alz)), litD_shaped m, litDs_shapedL fr.nd, _, rfl, ?_⟩
            rw [any_litD]
            by_cases c2 : m ∈ fr.nd
            · rw [decide_eq_true c2] at ke ⊢
              exact k2 _ ke (Same.refl _)
            · rw [decide_eq_false c2] at ke ⊢
              exact ⟨_, rfl, k1 _ _ ke (Same.refl _) ⟨m, hm, hml5⟩⟩
        · rw [llnd] at y
          have alw := al_filter y
          have lw := alw.len
          have lf := List.length_filter_le (fun m => !decide (m = l) && !decide (m ∈ fr.nd)) nd
          refine ⟨b, L, _, _, rfl, rfl, s5 _ _ hb2, eL, by unfold sizeLine; omega, ?_⟩
          have tp3 : Tups H5 (upd H5 b (.lst (zs ++ ws))) := Tups.lst (s5 _ _ hb2)
          have tp13 : Tups H1 (upd H5 b (.lst (zs ++ ws))) := (tp2.trans (Same.tups s5)).trans tp3
          have nob : o ≠ b := ne_of ho2 hb2 fun e => by cases e
          have nxb : x ≠ b := ne_of hx2 hb2 fun e => by cases e
          have bb3 : But S Hb (upd H5 b (.lst (zs ++ ws))) := (bb2.trans (But.of s5 hS2)).mut fb
          have hx3 : (upd H5 b (.lst (zs ++ ws))) x = _ := (upd_ne nxb).trans (s5 _ _ hx2)
          have ho3 : (upd H5 b (.lst (zs ++ ws))) o = _ := (upd_ne nob).trans (s5 _ _ ho2)
          have ha3 : (upd H5 b (.lst (zs ++ ws))) a = _ := (upd_ne nab).trans (s5 _ _ ha2)
          have hb3 : (upd H5 b (.lst (zs ++ ws))) b = some (.lst (zs ++ ws)) := upd_same
          have hS3 : (upd H5 b (.lst (zs ++ ws))) S = _ := (upd_ne nb.symm).trans (s5 _ _ hS2)
          have alz3 : Al (LitAt (upd H5 b (.lst (zs ++ ws)))) (zs ++ ws) (more fr.nd l nd) := (LitsAt.mono tp13 alz).app (LitsAt.mono tp3 alw)
          have alx3 : Al (PapAt (upd H5 b (.lst (zs ++ ws)))) (xs ++ [u]) (fr.ps ++ [q]) := (PapsAt.mono tp13 alx).snoc (hq.mono tp13)
          have hz3 := tp13 _ _ hz
          have ht3 := tp13 _ _ ht
          have alr3 := PapsAt.mono tp13 alr
          have hq3 := hq.mono tp13
          generalize upd H5 b (.lst (zs ++ ws)) = H3 at tp13 bb3 hx3 ho3 ha3 hb3 hS3 alz3 alx3 hz3 ht3 alr3 hq3 ⊢
          have part2 := part.snoc hl good
          have sub2 : ∀ m ∈ more fr.nd l nd, m ∈ A ∧ [m] ∉ C := fun m hm => by
            rcases mem_more.mp hm with e | ⟨e, e2⟩
            · exact subf m e
            · obtain ⟨s1, s2⟩ := sub m e
              refine ⟨?_, s2⟩
              rcases List.mem_append.mp s1 with e3 | e3
              · exact e3
              · exact (e2 (List.mem_singleton.mp e3)).elim
          refine ⟨_, rfl, o, CO, ox, _, _, rfl, ho3, c.co, c.o3, rfl, a, _, rfl, .inl (SqL.of ha3), _, rfl, o, CO, ox, _, _, rfl, ho3, c.co, c.o2, rfl, z, rs, rfl, .inr (SqT.of hz3), _, _, rfl, rfl, _, rfl, ?_⟩
          have lx2 : (xs ++ [u]).length = fr.ps.length + 1 := by rw [List.length_append, List.length_singleton, llx]
          have ed : decide (((xs ++ [u]).length : Int) < (rs.length : Int)) = decide (fr.ps.length + 1 < fr.orig.length) := by
            rw [lx2, llor, Bool.eq_iff_iff, decide_eq_true_eq, decide_eq_true_eq]
            omega
          rw [ed]
          by_cases cl : fr.ps.length + 1 < fr.orig.length
          · rw [decide_eq_true cl]
            refine ⟨_, rfl, ?_⟩
            obtain ⟨l2, hl2⟩ : ∃ l2, fr.cl[(fr.ps ++ [q]).length]? = some l2 := by
              rw [List.length_append, List.length_singleton]
              exact ⟨fr.cl[fr.ps.length + 1]'(by omega), List.getElem?_eq_getElem _⟩
            refine k H3 _ (.ref o :: vs) ({ fr with ps := fr.ps ++ [q], nd := more fr.nd l nd } :: frs2) ⟨A ++ [l2], fr.e, u, .ref nl, .push op0 fa fb bb3 ⟨o, ox, z, rs, xs ++ [u], zs ++ ws, rfl, ho3, hz3, alr3, ha3, alx3, hb3, alz3, nab⟩, by rw [er]; exact hS3, .cons ch0 hk lor hl2 part2 sub2 accs fins he, ⟨t, rfl, ht3⟩, fun e => by cases e⟩ ?_
            have : theta ({ fr with ps := fr.ps ++ [q], nd := more fr.nd l nd } :: frs2) = mu (fr :: frs2) := by
              show wts (fr.orig.drop (fr.ps ++ [q]).length) + mu frs2 = wts (fr.orig.drop (fr.ps.length + 1)) + mu frs2
              rw [List.length_append, List.length_singleton]
            omega
          · rw [decide_eq_false cl]
            -- the cases are done
            refine ⟨_, rfl, o, CO, ox, _, _, rfl, ho3, c.co, c.o1, rfl, _, rfl, o, CO, ox, _, _, rfl, ho3, c.co, c.o3, rfl, a, _, rfl, SqL.of ha3, fun T1 hT1 => ?_⟩
            refine ⟨by show 3 ≤ sizeLine; decide, fun T2 hT2 => ⟨_, rfl, o, CO, ox, _, _, rfl, same_new hT2 _ _ (same_new hT1 _ _ ho3), c.co, c.o4, rfl, by show 2 ≤ sizeLine; decide, fun T3 hT3 => ?_⟩⟩
            have s1 := same_new (o := .tup (xs ++ [u])) hT1
            have s2 := same_new (o := .tup [.str "cases", .int fr.k, .ref T1]) hT2
            have s3 := same_new (o := .tup [.ref T2, .ref b]) hT3
            have e1 := s3 _ _ (s2 _ _ (upd_same (H := H3) (a := T1) (o := .tup (xs ++ [u]))))
            have e2 := s3 _ _ (upd_same (H := upd H3 T1 (.tup (xs ++ [u]))) (a := T2) (o := .tup [.str "cases", .int fr.k, .ref T1]))
            have e3 := upd_same (H := upd (upd H3 T1 (.tup (xs ++ [u]))) T2 (.tup [.str "cases", .int fr.k, .ref T1])) (a := T3) (o := .tup [.ref T2, .ref b])
            have sA := (s1.trans s2).trans s3
            change Same H3 (upd (upd (upd H3 T1 (.tup (xs ++ [u]))) T2 (.tup [.str "cases", .int fr.k, .ref T1])) T3 (.tup [.ref T2, .ref b])) at sA
            clear s1 s2 s3
            generalize upd (upd (upd H3 T1 (.tup (xs ++ [u]))) T2 (.tup [.str "cases", .int fr.k, .ref T1])) T3 (.tup [.ref T2, .ref b]) = H4 at e1 e2 e3 sA ⊢
            have hx4 := sA _ _ hx3
            have hS4 := sA _ _ hS3
            refine ⟨_, rfl, x, CT, dx, _, _, rfl, hx4, c.ct, c.t3, rfl, .inl ⟨rfl, _, SqL.of hS4⟩, S, _, _, rfl, rfl, hS4, last_snoc, ?_⟩
            rw [List.dropLast_concat]
            have bb4 := bb3.trans (But.of sA hS3)
            have bS : But S H4 (upd H4 S (.lst vs.reverse)) := (But.of (Same.refl _) hS4).stk
            have psl : (fr.ps ++ [q]).length = fr.cl.length := by
              rw [List.length_append, List.length_singleton]
              omega
            have g2 := part2.good hk psl
            refine ⟨vs.length, by simp, some (.ref o), some vl, _, .ref T3, vs, frs2, rfl, ⟨Hb, A, d', .ref T2, .cases fr.k (fr.ps ++ [q]), b, zs ++ ws, more fr.nd l nd, op0, fb, bb4.trans bS, upd_same, ch0, ⟨T3, rfl, bS.tups _ _ e3⟩, ?_, (upd_ne nb).trans (sA _ _ hb3), LitsAt.mono bS.tups (LitsAt.mono (Same.tups sA) alz3), ⟨g2.1, g2.2.1.mono he, g2.2.2⟩, sub2⟩, ?_, rfl⟩
            · refine .cases ⟨T2, rfl, bS.tups _ _ e2⟩ ⟨T1, rfl, bS.tups _ _ e1⟩ (PapsAt.mono bS.tups (PapsAt.mono (Same.tups sA) alx3)).len fun i v p' h1 h2 => ?_
              obtain ⟨p2, h3, h4⟩ := alx3.at_ i v h1
              rw [h2] at h3
              cases h3
              exact (h4.mono (Same.tups sA)).mono bS.tups
            · have : mu (fr :: frs2) = wts (fr.orig.drop (fr.ps.length + 1)) + mu frs2 := rfl
              omega
      · rw [decide_eq_false cn]
        refine ⟨_, rfl, x, CT, dx, _, _, rfl, hx, c.ct, c.t3, rfl, .inl ⟨rfl, _, SqL.of eS⟩, S, _, _, rfl, rfl, eS, last_snoc, ?_⟩
        rw [List.dropLast_concat]
        have bS : But S H1 (upd H1 S (.lst vs.reverse)) := (But.of (Same.refl _) eS).stk
        refine ⟨vs.length, by simp, some (.ref o), some vl, _, .ref t, vs, frs2, rfl, ⟨Hf, A, d', u, q, nl, ys, nd, op0.mono bb, fnl, bf.trans bS, upd_same, ch0, ⟨t, rfl, bS.tups _ _ ht⟩, hq.mono bS.tups, (upd_ne nlS).trans enl, LitsAt.mono bS.tups alnd, ⟨good.1, good.2.1.mono (by omega), good.2.2⟩, fun m hm => ?_⟩, ?_, rfl⟩
        · obtain ⟨s1, s2⟩ := sub m hm
          refine ⟨?_, s2⟩
          rcases List.mem_append.mp s1 with e3 | e3
          · exact e3
          · rw [List.mem_singleton.mp e3] at hm
            exact (cn hm).elim
        · have : mu (fr :: frs2) = wts (fr.orig.drop (fr.ps.length + 1)) + mu frs2 := rfl
          omega

abbrev s_Trimmer_trim : Stmt := inClass (top 30) 3
abbrev N_Trimmer_trim : List Str := ["self", "paper", "found", "one"]
theorem sc_Trimmer_trim : FnScope N_Trimmer_trim ["self", "paper"] (defScope s_Trimmer_trim) := ⟨rfl, rfl, rfl, by decide +kernel, rfl, by decide +kernel, by decide +kernel⟩
def sp_trim (CT CO : Addr) : Sp := fun vs H Q _ => ∃ (x S p d : Addr) (n : Nat) (C : List (List Lit)) (D0 : Nat) (zv : V) (q : Paper), vs = [.ref x, zv] ∧ TrB CT H x S n p d C ∧ H S = some (.lst []) ∧ PapAt H zv q ∧ Acc C [] q ∧ Fine 7 D0 q ∧ D0 ≤ 100 ∧ wt q ≤ 2400000 ∧
  ∀ (H' : Hp) (u : V) (q' : Paper), But S H H' → PapAt H' u q' → Acc C [] q' → Fine 7 D0 q' → Q u H'
theorem ok_trim {f : Addr} {fd : FuncData} {CT CO : Addr} (F : Fun K "trim" "Trimmer.trim" s_Trimmer_trim f fd) (c : TrC K CT CO) (B : Bt mg) (M_Trimmer_ascend : MDef P w K mg base 1 CT "ascend" ["self", "found"] (sp_ascend CT CO))
    (M_Trimmer_descend : MDef P w K mg base 3 CT "descend" ["self", "paper"] (sp_descend CT CO)) : FnOk P w K mg base CX0 4 f fd ["self", "paper"] (sp_trim CT CO) := by
  refine F.ok sc_Trimmer_trim (fun vs H Q E h => ?_) (fun cdv A outer s H vs Q E hr h => ?_)
  · obtain ⟨x, S, p, d, n, C, D0, zv, q, rfl, _⟩ := h
    rfl
  · obtain ⟨x, S, p, d, n, C, D0, zv, q, rfl, tr, eS, hp, acc, fine, h100, hw, k⟩ := h
    refine ⟨_, (pss_cons (ps_set (i := 2) sc_Trimmer_trim.nd rfl (Or.inl rfl) (methD (pv 0) M_Trimmer_ascend (hr.mono (by decide)) (pa_cons (methD (pv 0) M_Trimmer_descend (hr.mono (by decide)) (pa_cons (pv 1) pa_nil)) pa_nil)))
      (pss_cons (ps_while PassesOwn.never (pt_cmpR op_gt (pe_callB (cLen K) (by rfl) B.len (by decide +kernel) (pa_cons (fld K (pv 0)) pa_nil)) pe_int (nomark _)) (pss_cons (ps_set (i := 3) sc_Trimmer_trim.nd rfl (Or.inl rfl) (pe_ix (ixL K) (fld K (pv 0)) (pe_un un_neg pe_int) (fun _ _ => rfl)))
        (pss_one (ps_set (i := 2) sc_Trimmer_trim.nd rfl (Or.inl rfl) (methD (pv 0) M_Trimmer_ascend (hr.mono (by decide)) (pa_cons (methD (pv 0) M_Trimmer_descend (hr.mono (by decide)) (pa_cons (pe_ix (ixT K) (fld K (pv 3)) (pe_callB (cLen K) (by rfl) B.len (by decide +kernel) (pa_cons (fld K (pv 3)) pa_nil)) (fun _ _ => rfl)) pa_nil)) pa_nil))))))
      (pss_one (ps_ret (pe_ix (ixT K) (pv 2) pe_int (fun _ _ => rfl)))))), ?_⟩
    obtain ⟨dx, hx⟩ := tr.me
    have b0 : But S H H := But.of (Same.refl _) eS
    refine ⟨_, rfl, x, dx, _, rfl, hx, rfl, _, rfl, x, dx, _, rfl, hx, rfl, _, rfl, x, S, p, d, n, C, H, [], [], [], D0, D0, zv, q, rfl, tr, eS, .nil b0, .nil, hp, acc, fine, h100, hw, fun H1 v1 vs1 frs1 fnd1 le1 => ?_⟩
    refine ⟨x, S, p, d, n, C, H, vs1, frs1, D0, v1, rfl, tr, h100, fnd1, fun H2 v2 vs2 frs2 ris2 le2 => ?_⟩
    clear fnd1
    refine ⟨fun m σ H' => ∃ (u : Option V) (v : V) (vs : List V) (frs : List Fr), σ = [some (.ref x), some zv, some v, u] ∧ Risen CO S H C D0 H' v vs frs ∧ theta frs ≤ 2400000 ∧ m = theta frs, ⟨_, none, v2, vs2, frs2, rfl, ris2, by have m0 : mu [] = 0 := rfl; omega, rfl⟩, fun m σ H3 z => ?_⟩
    clear ris2
    obtain ⟨u, v, vs, frs, rfl, ⟨A, dd, y, yw, op, eS3, ch, ⟨t, rfl, ht⟩, last⟩, lim, rfl⟩ := z
    have trb := tr.mono op.base
    obtain ⟨dx3, hx3⟩ := trb.me
    have olen := op.len
    have rl : vs.reverse.length = vs.length := List.length_reverse
    have op2 := op
    have ch2 := ch
    refine ⟨_, rfl, x, CT, dx3, _, _, rfl, hx3, c.ct, c.t3, rfl, S, _, rfl, .inl (SqL.of eS3), _, _, rfl, rfl, _, rfl, ?_⟩
    rw [gt0, rl]
    cases op with
    | nil b1 =>
      rw [show decide (0 < ([] : List V).length) = false from decide_eq_false (by simp)]
      obtain ⟨q', h1, h2, h3⟩ := last rfl
      exact ⟨_, rfl, t, _, _, _, rfl, rfl, SqT.of ht, rfl, k H3 _ q' b1 h1 h2 h3⟩
    | @push Hb _ a b v0 fr vs frs0 op0 fa fb bb frat =>
      cases ch with
      | @cons _ A d' _ l ch0 hk lor hl part subf accs fins he =>
      rw [show decide (0 < (v0 :: vs).length) = true from decide_eq_true (by simp)]
      refine ⟨_, fun σ' H3 n3 => n3, ?_⟩
      obtain ⟨o, ox, z, rs, xs, zs, rfl, ho, hz, alr, ha, alx, hb, alz, nab⟩ := frat
      have llt := (List.getElem?_eq_some_iff.mp hl).1
      have lt2 : fr.ps.length < fr.orig.length := by omega
      have hq1 : fr.orig[fr.ps.length]? = some fr.orig[fr.ps.length] := List.getElem?_eq_getElem lt2
      obtain ⟨vq, hvq, hqp⟩ := alr.back hq1
      have llx := alx.len
      have er : (V.ref o :: vs).reverse = vs.reverse ++ [V.ref o] := List.reverse_cons
      have eS4 := eS3
      rw [er] at eS4
      refine ⟨_, rfl, x, CT, dx3, _, _, rfl, hx3, c.ct, c.t3, rfl, _, rfl, S, _, _, _, rfl, rfl, SqL.of eS4, atI_last _ _, ?_⟩
      have wth : theta (fr :: frs0) = wts (fr.orig.drop fr.ps.length) + mu frs0 := rfl
      have wmu : mu (fr :: frs0) = wts (fr.orig.drop (fr.ps.length + 1)) + mu frs0 := rfl
      rw [List.drop_eq_getElem_cons lt2] at wth
      simp only [wts] at wth
      have ww : wt fr.orig[fr.ps.length] ≤ 2400000 := by omega
      refine ⟨_, rfl, x, dx3, _, rfl, hx3, rfl, _, rfl, x, dx3, _, rfl, hx3, rfl, _, rfl, o, CO, ox, _, _, rfl, ho, c.co, c.o2, rfl, _, rfl, o, CO, ox, _, _, rfl, ho, c.co, c.o3, rfl, a, xs, rfl, .inl (SqL.of ha), z, rs, _, _, rfl, rfl, SqT.of hz, atI_nat (by rw [llx]; exact hvq), ?_⟩
      refine ⟨x, S, p, d, n, C, H, .ref o :: vs, fr :: frs0, A ++ [l], D0, fr.e, vq, fr.orig[fr.ps.length], rfl, tr, eS3, op2, ch2, hqp, accs _ _ _ hq1 hl, fins _ (List.getElem_mem lt2), h100, ww, fun H4 v4 vs4 frs4 fnd4 le4 => ?_⟩
      refine ⟨x, S, p, d, n, C, H, vs4, frs4, D0, v4, rfl, tr, h100, fnd4, fun H5 v5 vs5 frs5 ris5 le5 => ?_⟩
      exact ⟨theta frs5, by omega, _, v5, vs5, frs5, rfl, ris5, by omega, rfl⟩

abbrev s_trimmed : Stmt := top 31
abbrev N_trimmed : List Str := ["n", "clauses", "paper"]
theorem sc_trimmed : FnScope N_trimmed ["n", "clauses", "paper"] (defScope s_trimmed) := ⟨rfl, rfl, rfl, by decide +kernel, rfl, by decide +kernel, by decide +kernel⟩
def sp_trimmed : Sp := fun vs H Q _ => ∃ (n : Nat) (p : Addr) (C : List (List Lit)) (v : V) (q : Paper) (e : Nat), vs = [.int n, .ref p, v] ∧ Prob H n p C ∧ PapAt H v q ∧ Pok e q ∧ e ≤ 100 ∧ Acc C [] q ∧ ∀ (H' : Hp) (u : V) (q' : Paper), Same H H' → PapAt H' u q' → Acc C [] q' → Fine 7 e q' → Q u H'
theorem ok_trimmed {f : Addr} {fd : FuncData} {CT CO : Addr} (F : Fun K "trimmed" "trimmed" s_trimmed f fd) (D_need_accepted : Def P w K mg base 5 "need_accepted" ["n", "clauses", "paper"] sp_need_accepted) (C_Trimmer : Made P w K mg base 2 "Trimmer" CT ["self", "clauses"] (sp_Trimmer_init CT))
    (M_Trimmer_trim : MDef P w K mg base 4 CT "trim" ["self", "paper"] (sp_trim CT CO)) : FnOk P w K mg base CX0 6 f fd ["n", "clauses", "paper"] sp_trimmed := by
  refine F.ok sc_trimmed (fun vs H Q E h => ?_) (fun cdv A outer s H vs Q E hr h => ?_)
  · obtain ⟨n, p, C, v, q, e, rfl, _⟩ := h
    rfl
  · obtain ⟨n, p, C, v, q, e, rfl, pr, hp, pk, he, acc, k⟩ := h
    refine ⟨_, (pss_cons (ps_expr (callD D_need_accepted (hr.mono (by decide)) rfl (pa_cons (pv 0) (pa_cons (pv 1) (pa_cons (pv 2) pa_nil)))))
      (pss_one (ps_ret (methD (makeD C_Trimmer (hr.mono (by decide)) rfl (pa_cons (pv 1) pa_nil)) M_Trimmer_trim (hr.mono (by decide)) (pa_cons (pv 2) pa_nil))))), ?_⟩
    refine ⟨_, rfl, _, rfl, _, rfl, n, p, C, v, q, e, rfl, pr, hp, pk, he, acc, fun H1 s1 => ?_⟩
    refine ⟨_, rfl, ?_⟩
    intro x dx hx hdx ndx
    have s2 : Same H1 (upd (upd H1 dx (.own x)) x (.ins CT dx [])) := fun b u e => by
      rw [upd_ne (ne_of_none e hx), upd_ne (ne_of_none e hdx)]
      exact e
    refine ⟨x, dx, p, n, C, rfl, upd_same, pr.mono (s1.trans s2), fun H3 d S b3 tr eS fS => ⟨rfl, ?_⟩⟩
    have s3 : Same H1 H3 := fun b u e => b3 b u (ne_of_none e hx) (s2 b u e)
    have s13 := s1.trans s3
    obtain ⟨dx3, hx3⟩ := tr.me
    refine ⟨x, dx3, _, rfl, hx3, rfl, _, rfl, x, S, p, d, n, C, e, v, q, rfl, tr, eS, hp.mono (Same.tups s13), acc, pk.fine, he, pk.w, fun H4 u q' b4 h1 h2 h3 => ?_⟩
    have fS1 : H S = none := s1.free (s2.free fS)
    exact k H4 u q' (fun b u e => b4.1 b u (ne_of_none e fS1) (s13 b u e)) h1 h2 h3
end
end D7
/-! D7, walk 8: bounds.py -/
namespace D7
open PySem L2

def oi : Option Int → V
  | none => .non
  | some i => .int i
def rowV (n : Nat) (f : Nat → Option Int) : List V := (List.range n).map fun y => oi (f y)
def refsV (n : Nat) (row : Nat → Addr) : List V := (List.range n).map fun x => .ref (row x)
def setf (f : Nat → Option Int) (y : Nat) (v : Option Int) : Nat → Option Int := fun z => if z = y then v else f z
theorem rowV_len {n : Nat} {f : Nat → Option Int} : (rowV n f).length = n := by unfold rowV; rw [List.length_map, List.length_range]
theorem refsV_len {n : Nat} {row : Nat → Addr} : (refsV n row).length = n := by unfold refsV; rw [List.length_map, List.length_range]
theorem rowV_at {n y : Nat} {f : Nat → Option Int} (h : y < n) : (rowV n f)[y]? = some (oi (f y)) := by
  unfold rowV
  rw [List.getElem?_map, List.getElem?_range h]
  rfl
theorem refsV_at {n y : Nat} {row : Nat → Addr} (h : y < n) : (refsV n row)[y]? = some (.ref (row y)) := by
  unfold refsV
  rw [List.getElem?_map, List.getElem?_range h]
  rfl
theorem refsV_back {n i : Nat} {row : Nat → Addr} {x : V} (h : (refsV n row)[i]? = some x) : i < n ∧ x = .ref (row i) := by
  have lt := (List.getElem?_eq_some_iff.mp h).1
  rw [refsV_len] at lt
  rw [refsV_at lt] at h
  exact ⟨lt, (Option.some.inj h).symm⟩
theorem rowV_ext {n : Nat} {f g : Nat → Option Int} (h : ∀ y, y < n → f y = g y) : rowV n f = rowV n g := by
  unfold rowV
  exact List.map_congr_left fun y hy => by rw [h y (List.mem_range.mp hy)]
theorem rowV_set {n y : Nat} {f : Nat → Option Int} {v : Option Int} : (rowV n f).set y (oi v) = rowV n (setf f y v) := by
  refine List.ext_getElem? fun i => ?_
  by_cases hi : i < n
  · rw [rowV_at hi, List.getElem?_set]
    unfold setf
    by_cases e : y = i
    · subst e
      rw [if_pos rfl, if_pos (by rw [rowV_len]; exact hi), if_pos rfl]
    · rw [if_neg e, if_neg (fun q => e q.symm), rowV_at hi]
  · rw [List.getElem?_eq_none (by rw [List.length_set, rowV_len]; omega), List.getElem?_eq_none (by rw [rowV_len]; omega)]

/-- a Bounds -/
structure BAt (CB : Addr) (H : Hp) (o la : Addr) (row : Nat → Addr) (n : Nat) (L : List Lit) (D : Mat) : Prop where
  me : ∃ dx ma, H o = some (.ins CB dx [("_literals", .ref la), ("_least", .ref ma)]) ∧ H ma = some (.lst (refsV n row)) ∧ ma ≠ la ∧ ∀ x, x < n → ma ≠ row x
  ls : ∃ xs, H la = some (.lst xs) ∧ Al (LitAt H) xs L
  rw_ : ∀ x, x < n → H (row x) = some (.lst (rowV n (D x)))
  lr : ∀ x, x < n → la ≠ row x
  inj : ∀ x y, x < n → y < n → row x = row y → x = y
  n1 : 1 ≤ n
  n7 : n ≤ 7
theorem BAt.mono {CB : Addr} {H H' : Hp} {o la : Addr} {row : Nat → Addr} {n : Nat} {L : List Lit} {D : Mat} (h : BAt CB H o la row n L D) (s : Same H H') : BAt CB H' o la row n L D :=
  ⟨let ⟨dx, ma, a, b, c⟩ := h.me; ⟨dx, ma, s _ _ a, s _ _ b, c⟩, let ⟨xs, a, b⟩ := h.ls; ⟨xs, s _ _ a, LitsAt.mono (Same.tups s) b⟩, fun x hx => s _ _ (h.rw_ x hx), h.lr, h.inj, h.n1, h.n7⟩
/-- all that is not written by a Bounds stays -/
def Out (la : Addr) (row : Nat → Addr) (n : Nat) (H H' : Hp) : Prop := ∀ c u, c ≠ la → (∀ x, x < n → c ≠ row x) → H c = some u → H' c = some u
section
variable {la : Addr} {row : Nat → Addr} {n : Nat} {H H' H2 : Hp}
theorem Out.of (s : Same H H') : Out la row n H H' := fun c u _ _ h => s c u h
theorem Out.trans (a : Out la row n H H') (b : Out la row n H' H2) : Out la row n H H2 := fun c u h1 h2 h => b c u h1 h2 (a c u h1 h2 h)
theorem Out.rowSet {x : Nat} {o : HO} (a : Out la row n H H') (h : x < n) : Out la row n H (upd H' (row x) o) := fun c u h1 h2 e => by
  rw [upd_ne (h2 x h)]
  exact a c u h1 h2 e
theorem Out.laSet {o : HO} (a : Out la row n H H') : Out la row n H (upd H' la o) := fun c u h1 h2 e => by
  rw [upd_ne h1]
  exact a c u h1 h2 e
end
theorem BAt.tups {CB : Addr} {H H' : Hp} {o la : Addr} {row : Nat → Addr} {n : Nat} {L : List Lit} {D : Mat} (h : BAt CB H o la row n L D) (b : Out la row n H H') : Tups H H' := fun c xs e => by
  obtain ⟨ys, hl, _⟩ := h.ls
  exact b c _ (ne_of e hl fun e => by cases e) (fun x hx => ne_of e (h.rw_ x hx) fun e => by cases e) e
structure BC (K : PySem.W.Frag) (CB : Addr) : Prop where
  c : Cls K CB
  l : NoAttr K CB "_literals"
  m : NoAttr K CB "_least"
def isL (f s : Option Int) : Bool := match f with
  | none => false
  | some i => isLess i s
theorem oi_non {f : Option Int} : decide (oi f = V.non) = f.isNone := by
  cases f with
  | none => exact decide_eq_true rfl
  | some i => exact decide_eq_false fun e => by cases e
theorem oi_some {f : Option Int} : (!decide (oi f = V.non)) = f.isSome := by
  rw [oi_non]
  cases f <;> rfl
section
variable {P : Program} {w : World} {K : PySem.W.Frag} {mg : Str → Option Value} {base : Heap}
abbrev s_joined : Stmt := top 33
abbrev N_joined : List Str := ["first", "second"]
theorem sc_joined : FnScope N_joined ["first", "second"] (defScope s_joined) := ⟨rfl, rfl, rfl, by decide +kernel, rfl, by decide +kernel, by decide +kernel⟩
def sp_joined : Sp := fun vs H Q _ => ∃ (f : Option Int) (c : Int), vs = [oi f, .int c] ∧ Q (oi (f.map fun i => i + c)) H
theorem ok_joined {f : Addr} {fd : FuncData} (F : Fun K "joined" "joined" s_joined f fd) : FnOk P w K mg base CX0 1 f fd ["first", "second"] sp_joined := by
  refine F.ok sc_joined (fun vs H Q E h => ?_) (fun cdv A outer s H vs Q E hr h => ?_)
  · obtain ⟨f, c, rfl, _⟩ := h
    rfl
  · obtain ⟨f, c, rfl, k⟩ := h
    refine ⟨_, (pss_cons (ps_if (PW.pt (pw_or (pt_cmpR op_isN (pv 0) pe_non (nomark _)) (pw_or1 (pt_cmpR op_isN (pv 1) pe_non (nomark _))))) (pss_one (ps_ret pe_non)) pss_nil)
      (pss_one (ps_ret (pe_op op_add (pv 0) (pv 1))))), ?_⟩
    refine ⟨_, rfl, rfl, _, rfl, ?_⟩
    rw [oi_non]
    cases f with
    | none => exact k
    | some i =>
      refine iteF ⟨_, rfl, rfl, _, rfl, ?_⟩
      rw [show decide (V.int c = V.non) = false from decide_eq_false fun e => by cases e]
      exact ⟨_, rfl, _, rfl, _, _, rfl, rfl, k⟩
abbrev s_is_less : Stmt := top 34
abbrev N_is_less : List Str := ["first", "second"]
theorem sc_is_less : FnScope N_is_less ["first", "second"] (defScope s_is_less) := ⟨rfl, rfl, rfl, by decide +kernel, rfl, by decide +kernel, by decide +kernel⟩
def sp_is_less : Sp := fun vs H Q _ => ∃ (f s : Option Int), vs = [oi f, oi s] ∧ Q (.bl (isL f s)) H
theorem ok_is_less {f : Addr} {fd : FuncData} (F : Fun K "is_less" "is_less" s_is_less f fd) : FnOk P w K mg base CX0 1 f fd ["first", "second"] sp_is_less := by
  refine F.ok sc_is_less (fun vs H Q E h => ?_) (fun cdv A outer s H vs Q E hr h => ?_)
  · obtain ⟨f, c, rfl, _⟩ := h
    rfl
  · obtain ⟨f, c, rfl, k⟩ := h
    refine ⟨_, (pss_one (ps_ret (pe_and (pe_cmpR op_notN (pv 0) pe_non (nomark _)) (pe_one (pe_or (pe_cmpR op_isN (pv 1) pe_non (nomark _)) (pe_one (pe_cmpR op_lt (pv 0) (pv 1) (nomark _)))))))), ?_⟩
    refine ⟨_, rfl, rfl, f.isSome, by rw [oi_some], ?_⟩
    cases f with
    | none => exact k
    | some i =>
      refine ⟨_, rfl, rfl, c.isNone, by rw [oi_non], ?_⟩
      cases c with
      | none => exact k
      | some j => exact ⟨_, rfl, _, rfl, _, _, rfl, rfl, k⟩
abbrev s_moved : Stmt := top 35
abbrev N_moved : List Str := ["values", "value"]
theorem sc_moved : FnScope N_moved ["values"] (defScope s_moved) := ⟨rfl, rfl, rfl, by decide +kernel, rfl, by decide +kernel, by decide +kernel⟩
def sp_moved : Sp := fun vs H Q _ => ∃ (p : Addr) (n : Nat) (v : Val), vs = [.ref p] ∧ H p = some (.lst (intsV n v)) ∧ 1 ≤ n ∧ n ≤ 7 ∧ ∀ H' t, Same H H' → H' t = some (.tup (intsV n fun i => v i - v 0)) → Q (.ref t) H'
theorem ok_moved {f : Addr} {fd : FuncData} (F : Fun K "moved" "moved" s_moved f fd) (B : Bt mg) : FnOk P w K mg base CX0 1 f fd ["values"] sp_moved := by
  refine F.ok sc_moved (fun vs H Q E h => ?_) (fun cdv A outer s H vs Q E hr h => ?_)
  · obtain ⟨p, n, v, rfl, _⟩ := h
    rfl
  · obtain ⟨p, n, v, rfl, hp, n1, n7, k⟩ := h
    refine ⟨_, (pss_one (ps_ret (pe_callTy (cTuple K) (by rfl) B.tuple (by decide +kernel) (pa_cons (pe_lc (own := [("value", 1)]) rfl sc_moved.nd (piL K (pv 0)) (blkOk_by (N := N_moved) (sc := defScope s_moved) (by decide +kernel)) (fun _ _ _ _ _ => (pg_name (i := 1) sc_moved.nd rfl (Or.inl rfl))) (fun _ _ _ _ _ => pts_nil) (fun _ _ _ _ _ => (pe_op op_sub (pv 1) (pe_ix (ixL K) (pv 0) pe_int (fun _ _ => rfl))))) pa_nil)))), ?_⟩
    refine ⟨_, rfl, p, rfl, ⟨_, SqL.of hp⟩, ?_⟩
    refine lcL (K := K) (SqL.of hp) (by rw [intsV_len]; exact Nat.le_of_lt (small1000 (by omega))) (fun _ => true) (fun i u H' => u = V.int (v i - v 0)) (fun _ _ _ _ _ q => q) (fun i u H' hi sm Kt Kf k1 _ => ?_) fun D H' ys hD sm hL q => ?_
    · have lt := (List.getElem?_eq_some_iff.mp hi).1
      rw [intsV_len] at lt
      rw [intsV_at lt] at hi
      cases hi
      exact ⟨rfl, _, rfl, _, rfl, p, _, _, _, rfl, rfl, SqL.of (sm _ _ hp), atI_nat (j := 0) (intsV_at (by omega)), _, _, rfl, rfl, k1 _ _ rfl (Same.refl _) rfl⟩
    · rw [intsV_len] at q
      have ey : ys = intsV n fun i => v i - v 0 := al_map q fun _ _ e => e
      subst ey
      refine ⟨D, _, rfl, SqL.of hL, fun t ht => ?_⟩
      exact k _ t (sm.trans (same_new ht)) upd_same

abbrev s_Bounds_size : Stmt := inClass (top 36) 1
abbrev N_Bounds_size : List Str := ["self"]
theorem sc_Bounds_size : FnScope N_Bounds_size ["self"] (defScope s_Bounds_size) := ⟨rfl, rfl, rfl, by decide +kernel, rfl, by decide +kernel, by decide +kernel⟩
def sp_size (CB : Addr) : Sp := fun vs H Q _ => ∃ (o la : Addr) (row : Nat → Addr) (n : Nat) (L : List Lit) (D : Mat), vs = [.ref o] ∧ BAt CB H o la row n L D ∧ Q (.int n) H
theorem ok_size {f : Addr} {fd : FuncData} {CB : Addr} (F : Fun K "size" "Bounds.size" s_Bounds_size f fd) (c : BC K CB) (B : Bt mg) : FnOk P w K mg base CX0 1 f fd ["self"] (sp_size CB) := by
  refine F.ok sc_Bounds_size (fun vs H Q E h => ?_) (fun cdv A outer s H vs Q E hr h => ?_)
  · obtain ⟨o, la, row, n, L, D, rfl, _⟩ := h
    rfl
  · obtain ⟨o, la, row, n, L, D, rfl, b, k⟩ := h
    refine ⟨_, (pss_one (ps_ret (pe_callB (cLen K) (by rfl) B.len (by decide +kernel) (pa_cons (fld K (pv 0)) pa_nil)))), ?_⟩
    obtain ⟨dx, ma, ho, hm, _⟩ := b.me
    refine ⟨_, rfl, o, CB, dx, _, _, rfl, ho, c.c, c.m, rfl, ma, _, rfl, .inl (SqL.of hm), ?_⟩
    rw [refsV_len]
    exact k
abbrev s_Bounds_literals : Stmt := inClass (top 36) 2
abbrev N_Bounds_literals : List Str := ["self"]
theorem sc_Bounds_literals : FnScope N_Bounds_literals ["self"] (defScope s_Bounds_literals) := ⟨rfl, rfl, rfl, by decide +kernel, rfl, by decide +kernel, by decide +kernel⟩
def sp_literals (CB : Addr) : Sp := fun vs H Q _ => ∃ (o la : Addr) (row : Nat → Addr) (n : Nat) (L : List Lit) (D : Mat), vs = [.ref o] ∧ BAt CB H o la row n L D ∧ ∀ H' l xs, Same H H' → H l = none → H' l = some (.lst xs) → Al (LitAt H') xs L → Q (.ref l) H'
theorem ok_literals {f : Addr} {fd : FuncData} {CB : Addr} (F : Fun K "literals" "Bounds.literals" s_Bounds_literals f fd) (c : BC K CB) (B : Bt mg) : FnOk P w K mg base CX0 1 f fd ["self"] (sp_literals CB) := by
  refine F.ok sc_Bounds_literals (fun vs H Q E h => ?_) (fun cdv A outer s H vs Q E hr h => ?_)
  · obtain ⟨o, la, row, n, L, D, rfl, _⟩ := h
    rfl
  · obtain ⟨o, la, row, n, L, D, rfl, b, k⟩ := h
    refine ⟨_, (pss_one (ps_ret (pe_callTy (cList K) (by rfl) B.list (by decide +kernel) (pa_cons (fld K (pv 0)) pa_nil)))), ?_⟩
    obtain ⟨dx, ma, ho, hm, _⟩ := b.me
    obtain ⟨xs, hl, al⟩ := b.ls
    exact ⟨_, rfl, o, CB, dx, _, _, rfl, ho, c.c, c.l, rfl, la, xs, rfl, .inl (SqL.of hl), fun l hn => k _ l xs (same_new hn) hn upd_same (LitsAt.mono (Same.tups (same_new hn)) al)⟩
abbrev s_Bounds_bound : Stmt := inClass (top 36) 3
abbrev N_Bounds_bound : List Str := ["self", "a", "b", "n"]
theorem sc_Bounds_bound : FnScope N_Bounds_bound ["self", "a", "b"] (defScope s_Bounds_bound) := ⟨rfl, rfl, rfl, by decide +kernel, rfl, by decide +kernel, by decide +kernel⟩
def sp_bound (CB : Addr) : Sp := fun vs H Q _ => ∃ (o la : Addr) (row : Nat → Addr) (n : Nat) (L : List Lit) (D : Mat) (a b : Nat), vs = [.ref o, .int a, .int b] ∧ BAt CB H o la row n L D ∧ a < n ∧ b < n ∧ Q (oi (D a b)) H
theorem ok_bound {f : Addr} {fd : FuncData} {CB : Addr} (F : Fun K "bound" "Bounds.bound" s_Bounds_bound f fd) (c : BC K CB) (B : Bt mg) : FnOk P w K mg base CX0 1 f fd ["self", "a", "b"] (sp_bound CB) := by
  refine F.ok sc_Bounds_bound (fun vs H Q E h => ?_) (fun cdv A outer s H vs Q E hr h => ?_)
  · obtain ⟨o, la, row, n, L, D, a, b, rfl, _⟩ := h
    rfl
  · obtain ⟨o, la, row, n, L, D, a, b, rfl, ba, ha, hb, k⟩ := h
    refine ⟨_, (pss_cons (ps_set (i := 3) sc_Bounds_bound.nd rfl (Or.inl rfl) (pe_callB (cLen K) (by rfl) B.len (by decide +kernel) (pa_cons (fld K (pv 0)) pa_nil)))
      (pss_cons (ps_if (PW.pt (pw_or (pt_cmpR op_lt (pv 1) pe_int (nomark _)) (pw_or (pt_cmpR op_lt (pv 2) pe_int (nomark _)) (pw_or (pt_cmpR op_ge (pv 1) (pv 3) (nomark _)) (pw_or1 (pt_cmpR op_ge (pv 2) (pv 3) (nomark _))))))) pss_never pss_nil)
      (pss_one (ps_ret (pe_ix (ixL K) (pe_ix (ixL K) (fld K (pv 0)) (pv 1) (fun _ _ => rfl)) (pv 2) (fun _ _ => rfl)))))), ?_⟩
    obtain ⟨dx, ma, ho, hm, _⟩ := ba.me
    refine ⟨_, rfl, o, CB, dx, _, _, rfl, ho, c.c, c.m, rfl, ma, _, rfl, .inl (SqL.of hm), ?_⟩
    rw [refsV_len]
    refine ⟨_, rfl, _, _, rfl, rfl, _, rfl, ?_⟩
    rw [decide_eq_false (by omega)]
    refine iteF ⟨_, rfl, _, _, rfl, rfl, _, rfl, ?_⟩
    rw [decide_eq_false (by omega)]
    refine iteF ⟨_, rfl, _, rfl, _, _, rfl, rfl, _, rfl, ?_⟩
    rw [decide_eq_false (by omega)]
    refine iteF ⟨_, rfl, _, rfl, _, _, rfl, rfl, _, rfl, ?_⟩
    rw [decide_eq_false (by omega)]
    exact ⟨_, rfl, o, CB, dx, _, _, rfl, ho, c.c, c.m, rfl, _, rfl, ma, _, _, _, rfl, rfl, SqL.of hm, atI_nat (refsV_at ha), _, rfl, row a, _, _, _, rfl, rfl, SqL.of (ba.rw_ a ha), atI_nat (rowV_at hb), k⟩
end
end D7
/-! D7, walk 9: bounds.py, literals are added -/
namespace D7
open PySem L2

section
variable {CB : Addr} {H H' : Hp} {o la : Addr} {row : Nat → Addr} {n : Nat} {L : List Lit} {D D' : Mat}
theorem BAt.congr (h : BAt CB H o la row n L D) (e : ∀ x y, x < n → y < n → D x y = D' x y) : BAt CB H o la row n L D' :=
  ⟨h.me, h.ls, fun x hx => by rw [h.rw_ x hx, rowV_ext fun y hy => e x y hx hy], h.lr, h.inj, h.n1, h.n7⟩
theorem BAt.setRow (h : BAt CB H o la row n L D) {i : Nat} {f : Nat → Option Int} (hi : i < n) : BAt CB (upd H (row i) (.lst (rowV n f))) o la row n L (fun x y => if x = i then f y else D x y) := by
  have ei := h.rw_ i hi
  have tp : Tups H (upd H (row i) (.lst (rowV n f))) := Tups.lst ei
  obtain ⟨dx, ma, a, b, c, d⟩ := h.me
  obtain ⟨xs, l1, l2⟩ := h.ls
  refine ⟨⟨dx, ma, by rw [upd_ne (ne_of a ei fun e => by cases e)]; exact a, by rw [upd_ne (d i hi)]; exact b, c, d⟩, ⟨xs, by rw [upd_ne (h.lr i hi)]; exact l1, LitsAt.mono tp l2⟩, fun x hx => ?_, h.lr, h.inj, h.n1, h.n7⟩
  by_cases e : x = i
  · subst e
    rw [upd_same]
    simp
  · rw [upd_ne (fun q => e (h.inj x i hx hi q)), h.rw_ x hx]
    simp [e]
theorem BAt.addLit (h : BAt CB H o la row n L D) {t : Addr} {l : Lit} {xs : List V} (hl : H la = some (.lst xs)) (al : Al (LitAt H) xs L) (ht : H t = some (.tup (litV l))) : BAt CB (upd H la (.lst (xs ++ [.ref t]))) o la row n (L ++ [l]) D := by
  have tp : Tups H (upd H la (.lst (xs ++ [.ref t]))) := Tups.lst hl
  obtain ⟨dx, ma, a, b, c, d⟩ := h.me
  exact ⟨⟨dx, ma, by rw [upd_ne (ne_of a hl fun e => by cases e)]; exact a, by rw [upd_ne c]; exact b, c, d⟩, ⟨_, upd_same, (LitsAt.mono tp al).snoc ⟨t, rfl, tp _ _ ht⟩⟩, fun x hx => by rw [upd_ne (h.lr x hx).symm]; exact h.rw_ x hx, h.lr, h.inj, h.n1, h.n7⟩
end
theorem take_mem_succ {is : List Nat} {j y : Nat} (h : is[j]? = some y) (z : Nat) : z ∈ is.take (j + 1) ↔ z ∈ is.take j ∨ z = y := by
  rw [List.take_succ, h, List.mem_append]
  simp
theorem take_fresh {is : List Nat} {j y : Nat} (nd : is.Nodup) (h : is[j]? = some y) : y ∉ is.take j := fun hm => by
  obtain ⟨m, e⟩ := List.getElem?_of_mem hm
  rw [List.getElem?_take] at e
  split at e
  · rename_i lt
    have hj := (List.getElem?_eq_some_iff.mp h).1
    have := (List.getElem?_inj (i := m) (j := j) (by omega) nd).mp (by rw [e, h])
    omega
  · cases e
section
variable {P : Program} {w : World} {K : PySem.W.Frag} {mg : Str → Option Value} {base : Heap}
abbrev s_Bounds_shorten : Stmt := inClass (top 36) 5
abbrev N_Bounds_shorten : List Str := ["self", "a", "b", "c", "after", "point", "rest", "row", "ahead"]
theorem sc_Bounds_shorten : FnScope N_Bounds_shorten ["self", "a", "b", "c"] (defScope s_Bounds_shorten) := ⟨rfl, rfl, rfl, by decide +kernel, rfl, by decide +kernel, by decide +kernel⟩
def sp_shorten (CB : Addr) : Sp := fun vs H Q _ => ∃ (o la : Addr) (row : Nat → Addr) (n : Nat) (L : List Lit) (D : Mat) (a b : Nat) (c : Int), vs = [.ref o, .int a, .int b, .int c] ∧ BAt CB H o la row n L D ∧ a < n ∧ b < n ∧ ∀ H', Out la row n H H' → BAt CB H' o la row n L (newD D a b c) → Q .non H'
theorem ok_shorten {f : Addr} {fd : FuncData} {CB : Addr} (F : Fun K "_shorten" "Bounds._shorten" s_Bounds_shorten f fd) (cc : BC K CB) (B : Bt mg) (D_is_less : Def P w K mg base 1 "is_less" ["first", "second"] sp_is_less)
    (D_joined : Def P w K mg base 1 "joined" ["first", "second"] sp_joined) : FnOk P w K mg base CX0 2 f fd ["self", "a", "b", "c"] (sp_shorten CB) := by
  refine F.ok sc_Bounds_shorten (fun vs H Q E h => ?_) (fun cdv A outer s H vs Q E hr h => ?_)
  · obtain ⟨o, la, row, n, L, D, a, b, c, rfl, _⟩ := h
    rfl
  · obtain ⟨o, la, row, n, L, D, a, b, c, rfl, ba, ha, hb, k⟩ := h
    refine ⟨_, (pss_cons (ps_setLc (i := 4) (own := [("point", 5), ("rest", 6)]) rfl sc_Bounds_shorten.nd rfl rfl (sw_true rfl rfl rfl (by decide +kernel)) (piEn K rfl B.enumerate (pa_cons (pe_ix (ixL K) (fld K (pv 0)) (pv 2) (fun _ _ => rfl)) pa_nil)) (blkOk_by (N := N_Bounds_shorten) (sc := defScope s_Bounds_shorten) (by decide +kernel)) (fun _ _ _ _ _ => (pgT K 2 (pgs_cons (pg_name (i := 5) sc_Bounds_shorten.nd rfl (Or.inl rfl)) (pgs_cons (pg_name (i := 6) sc_Bounds_shorten.nd rfl (Or.inl rfl)) pgs_nil)))) (fun _ _ _ _ _ => pts_one (pt_cmpR op_notN (pv 6) pe_non (nomark _))) (fun _ _ _ _ _ => (pe_tup (pa_cons (pv 5) (pa_cons (pv 6) pa_nil)))))
      (pss_one (ps_for PassesOwn.never rfl (piL K (fld K (pv 0))) (pg_name (i := 7) sc_Bounds_shorten.nd rfl (Or.inl rfl)) (pss_cons (ps_set (i := 8) sc_Bounds_shorten.nd rfl (Or.inl rfl) (callD D_joined (hr.mono (by decide)) rfl (pa_cons (pe_ix (ixL K) (pv 7) (pv 1) (fun _ _ => rfl)) (pa_cons (pv 3) pa_nil))))
        (pss_cons (ps_if (pt_not (pt_val (callD D_is_less (hr.mono (by decide)) rfl (pa_cons (pv 8) (pa_cons (pe_ix (ixL K) (pv 7) (pv 2) (fun _ _ => rfl)) pa_nil))))) (pss_one ps_continue) pss_nil)
        (pss_one (ps_for PassesOwn.never rfl (piL K (pv 4)) (pgT K 2 (pgs_cons (pg_name (i := 5) sc_Bounds_shorten.nd rfl (Or.inl rfl)) (pgs_cons (pg_name (i := 6) sc_Bounds_shorten.nd rfl (Or.inl rfl)) pgs_nil))) (pss_one (ps_if (pt_val (callD D_is_less (hr.mono (by decide)) rfl (pa_cons (pe_op op_add (pv 8) (pv 6)) (pa_cons (pe_ix (ixL K) (pv 7) (pv 5) (fun _ _ => rfl)) pa_nil)))) (pss_one (ps_asg (pe_op op_add (pv 8) (pv 6)) (pg_sub (pv 7) (pv 5) set_list))) pss_nil))))))))), ?_⟩
    obtain ⟨dx, ma, ho, hm, hml, hmr⟩ := ba.me
    have n7 := ba.n7
    have rb := ba.rw_ b hb
    refine ⟨_, rfl, o, CB, dx, _, _, rfl, ho, cc.c, cc.m, rfl, _, rfl, ma, _, _, _, rfl, rfl, SqL.of hm, atI_nat (refsV_at hb), row b, false, _, rfl, SqL.of rb, ?_⟩
    refine lcE (K := K) (k := false) (SqL.of rb) (by rw [rowV_len]; exact Nat.le_of_lt (small1000 (by omega))) (fun i => (D b i).isSome) (fun i y H' => TupAt H' y [.int i, oi (D b i)]) (fun _ _ _ _ t q => q.mono t) (fun i x T H' hi sm hT Kt Kf k1 k2 => ?_) fun af H1 ys hf sm eaf q => ?_
    · have lt := (List.getElem?_eq_some_iff.mp hi).1
      rw [rowV_len] at lt
      rw [rowV_at lt] at hi
      cases hi
      refine ⟨T, _, rfl, SqT.of hT, rfl, _, _, rfl, _, _, rfl, rfl, rfl, ?_⟩
      refine ⟨_, rfl, rfl, (D b i).isSome, by rw [oi_some], ?_⟩
      cases e : (D b i).isSome with
      | false => exact k2 _ e (Same.refl _)
      | true => exact ⟨_, rfl, _, rfl, by show 2 ≤ sizeLine; decide, fun T2 hT2 => k1 _ _ e (same_new hT2) ⟨T2, rfl, upd_same⟩⟩
    · rw [rowV_len] at q
      have ba1 := ba.mono sm
      have nfr : ∀ x, x < n → af ≠ row x := fun x hx => (ne_of_none (ba.rw_ x hx) hf).symm
      have nfl : af ≠ la := by
        obtain ⟨xs, hl, _⟩ := ba.ls
        exact (ne_of_none hl hf).symm
      have nd : ((List.range n).filter fun i => (D b i).isSome).Nodup := List.nodup_range.filter _
      have mis : ∀ y, y ∈ (List.range n).filter (fun i => (D b i).isSome) ↔ y < n ∧ (D b y).isSome = true := fun y => by rw [List.mem_filter, List.mem_range]
      generalize (List.range n).filter (fun i => (D b i).isSome) = is at q nd mis
      refine ⟨_, rfl, o, CB, dx, _, _, rfl, sm _ _ ho, cc.c, cc.m, rfl, ma, rfl, ⟨_, SqL.of (sm _ _ hm)⟩, ?_⟩
      refine for_list (K := K) (a := ma) (xs := refsV n row) (fun i σ H' => ∃ (u5 u6 u7 u8 : Option V) (D' : Mat), σ = [some (.ref o), some (.int a), some (.int b), some (.int c), some (.ref af), u5, u6, u7, u8] ∧ Out la row n H1 H' ∧ BAt CB H' o la row n L D' ∧ ∀ x y, x < n → y < n → D' x y = if x < i then newD D a b c x y else D x y)
        ⟨none, none, none, none, D, rfl, Out.of (Same.refl _), ba1, fun x y _ _ => by rw [if_neg (by omega)]⟩ (fun i σ H' _ z => ?_) (fun i x σ H' hi z => ?_) fun σ H' z => ?_
      · obtain ⟨_, _, _, _, _, _, out, _, _⟩ := z
        exact SqL.of (out ma _ hml hmr (sm _ _ hm))
      · obtain ⟨u5, u6, u7, u8, D', rfl, out, ba', eD⟩ := z
        obtain ⟨lt, rfl⟩ := refsV_back hi
        have e1 : D' i a = D i a := by rw [eD i a lt ha, if_neg (by omega)]
        have e2 : D' i b = D i b := by rw [eD i b lt hb, if_neg (by omega)]
        have ri := ba'.rw_ i lt
        refine ⟨_, rfl, _, rfl, row i, _, _, _, rfl, rfl, SqL.of ri, atI_nat (rowV_at ha), _, rfl, D' i a, c, rfl, ?_⟩
        rw [e1]
        refine ⟨_, rfl, _, rfl, _, rfl, row i, _, _, _, rfl, rfl, SqL.of ri, atI_nat (rowV_at hb), (D i a).map (fun i => i + c), D' i b, rfl, _, rfl, ?_⟩
        rw [e2]
        have next : (∀ y, y < n → newD D a b c i y = D i y) → ∀ x y, x < n → y < n → D' x y = if x < i + 1 then newD D a b c x y else D x y := fun q x y hx hy => by
          rw [eD x y hx hy]
          by_cases c1 : x < i
          · rw [if_pos c1, if_pos (by omega)]
          · by_cases c2 : x = i
            · subst c2
              rw [if_neg c1, if_pos (by omega), q y hy]
            · rw [if_neg c1, if_neg (by omega)]
        cases hp : D i a with
        | none => exact ⟨u5, u6, _, _, D', rfl, out, ba', next fun y _ => newD_none hp⟩
        | some p =>
          show if (!isLess (p + c) (D i b)) = true then _ else _
          cases hl : isLess (p + c) (D i b) with
          | false => exact ⟨u5, u6, _, _, D', rfl, out, ba', next fun y _ => newD_skip hp hl⟩
          | true =>
            refine ⟨_, rfl, af, rfl, ⟨_, SqL.of (out af _ nfl nfr eaf)⟩, ?_⟩
            refine for_list (K := K) (a := af) (xs := ys) (fun j σ H' => ∃ (u5 u6 : Option V) (D'' : Mat), σ = [some (.ref o), some (.int a), some (.int b), some (.int c), some (.ref af), u5, u6, some (.ref (row i)), some (.int (p + c))] ∧ Out la row n H1 H' ∧ BAt CB H' o la row n L D'' ∧
                (∀ x y, x < n → y < n → x ≠ i → D'' x y = D' x y) ∧ ∀ y, y < n → D'' i y = if y ∈ is.take j then newD D a b c i y else D i y)
              ⟨u5, u6, D', rfl, out, ba', fun x y _ _ _ => rfl, fun y hy => by rw [eD i y lt hy, if_neg (by omega)]; simp⟩ (fun j σ H3 _ z => ?_) (fun j x σ H3 hj z => ?_) fun σ H3 z => ?_
            · obtain ⟨_, _, _, _, out3, _⟩ := z
              exact SqL.of (out3 af _ nfl nfr eaf)
            · obtain ⟨u5, u6, D'', rfl, out3, ba3, f1, f2⟩ := z
              obtain ⟨y, hy, tx⟩ := q.at_ j x hj
              obtain ⟨t, rfl, ht⟩ := tx
              obtain ⟨ylt, ys1⟩ := (mis y).mp (List.mem_of_getElem? hy)
              obtain ⟨r, hr2⟩ := Option.isSome_iff_exists.mp ys1
              rw [hr2] at ht
              have ht3 := ba1.tups out3 _ _ ht
              have r3 := ba3.rw_ i lt
              have ev : D'' i y = D i y := by rw [f2 y ylt, if_neg (take_fresh nd hy)]
              have eN : newD D a b c i y = if isLess (p + c + r) (D i y) = true then some (p + c + r) else D i y := by rw [newD_go hp hl, hr2]
              refine ⟨t, _, rfl, SqT.of ht3, rfl, _, _, rfl, _, _, rfl, rfl, ?_⟩
              refine ⟨_, rfl, _, rfl, _, _, rfl, rfl, _, rfl, _, rfl, row i, _, _, _, rfl, rfl, SqL.of r3, atI_nat (rowV_at ylt), some (p + c + r), D'' i y, rfl, _, rfl, ?_⟩
              show if isLess (p + c + r) (D'' i y) = true then _ else _
              rw [ev]
              cases c3 : isLess (p + c + r) (D i y) with
              | false =>
                rw [c3] at eN
                refine ⟨_, _, D'', rfl, out3, ba3, f1, fun z hz => ?_⟩
                rw [f2 z hz]
                have := take_mem_succ hy z
                by_cases q1 : z ∈ is.take j
                · rw [if_pos q1, if_pos (this.mpr (.inl q1))]
                · rw [if_neg q1]
                  by_cases q2 : z = y
                  · subst q2
                    rw [if_pos (this.mpr (.inr rfl)), eN]
                    rfl
                  · rw [if_neg fun q => (this.mp q).elim q1 q2]
              | true =>
                rw [c3] at eN
                refine ⟨_, rfl, _, rfl, _, _, rfl, rfl, _, rfl, _, rfl, row i, _, _, y, rfl, rfl, r3, by rw [rowV_len]; exact ixN_nat ylt, ?_⟩
                have es : (rowV n (D'' i)).set y (V.int (p + c + r)) = rowV n (setf (D'' i) y (some (p + c + r))) := rowV_set (v := some (p + c + r))
                rw [es]
                refine ⟨_, _, _, rfl, out3.rowSet lt, ba3.setRow lt, fun x z hx hz ne => by rw [if_neg ne]; exact f1 x z hx hz ne, fun z hz => ?_⟩
                rw [if_pos rfl]
                have := take_mem_succ hy z
                unfold setf
                by_cases q2 : z = y
                · subst q2
                  rw [if_pos rfl, if_pos (this.mpr (.inr rfl)), eN]
                  rfl
                · rw [if_neg q2, f2 z hz]
                  by_cases q1 : z ∈ is.take j
                  · rw [if_pos q1, if_pos (this.mpr (.inl q1))]
                  · rw [if_neg q1, if_neg fun q => (this.mp q).elim q1 q2]
            · obtain ⟨u5, u6, D'', rfl, out3, ba3, f1, f2⟩ := z
              have lq := q.len
              refine ⟨_, _, _, _, D'', rfl, out3, ba3, fun x y hx hy => ?_⟩
              by_cases c1 : x = i
              · subst c1
                rw [f2 y hy, lq, List.take_length, if_pos (by omega : x < x + 1)]
                by_cases c2 : y ∈ is
                · rw [if_pos c2]
                · rw [if_neg c2]
                  have : D b y = none := by
                    cases e : D b y with
                    | none => rfl
                    | some z => exact (c2 ((mis y).mpr ⟨hy, by rw [e]; rfl⟩)).elim
                  rw [newD_go hp hl, this]
              · rw [f1 x y hx hy c1, eD x y hx hy]
                by_cases c2 : x < i
                · rw [if_pos c2, if_pos (by omega)]
                · rw [if_neg c2, if_neg (by omega)]
      · obtain ⟨u5, u6, u7, u8, D', rfl, out, ba', eD⟩ := z
        rw [refsV_len] at eD
        exact k H' (fun c u h1 h2 h => out c u h1 h2 (sm _ _ h)) (ba'.congr fun x y hx hy => by rw [eD x y hx hy, if_pos hx])

abbrev s_Bounds_add : Stmt := inClass (top 36) 4
abbrev N_Bounds_add : List Str := ["self", "a", "b", "c", "back"]
theorem sc_Bounds_add : FnScope N_Bounds_add ["self", "a", "b", "c"] (defScope s_Bounds_add) := ⟨rfl, rfl, rfl, by decide +kernel, rfl, by decide +kernel, by decide +kernel⟩
def sp_add (CB : Addr) : Sp := fun vs H Q _ => ∃ (o la : Addr) (row : Nat → Addr) (n : Nat) (L : List Lit) (D : Mat) (a b : Nat) (c : Int), vs = [.ref o, .int a, .int b, .int c] ∧ BAt CB H o la row n L D ∧ Clo n L D ∧ a < n ∧ b < n ∧ L.length ≤ 900 ∧ (∀ z, D b a = some z → z + c < 0 → Q (.bl false) H) ∧
  ((∀ z, D b a = some z → 0 ≤ z + c) → ∀ (H' : Hp) (D' : Mat), Out la row n H H' → BAt CB H' o la row n (L ++ [⟨a, b, c⟩]) D' → Clo n (L ++ [⟨a, b, c⟩]) D' → Q (.bl true) H')
theorem ok_add {f : Addr} {fd : FuncData} {CB : Addr} (F : Fun K "add" "Bounds.add" s_Bounds_add f fd) (cc : BC K CB) (B : Bt mg) (D_is_less : Def P w K mg base 1 "is_less" ["first", "second"] sp_is_less)
    (M_Bounds__shorten : MDef P w K mg base 2 CB "_shorten" ["self", "a", "b", "c"] (sp_shorten CB)) (M_Bounds_bound : MDef P w K mg base 1 CB "bound" ["self", "a", "b"] (sp_bound CB)) : FnOk P w K mg base CX0 3 f fd ["self", "a", "b", "c"] (sp_add CB) := by
  refine F.ok sc_Bounds_add (fun vs H Q E h => ?_) (fun cdv A outer s H vs Q E hr h => ?_)
  · obtain ⟨o, la, row, n, L, D, a, b, c, rfl, _⟩ := h
    rfl
  · obtain ⟨o, la, row, n, L, D, a, b, c, rfl, ba, clo, ha, hb, ll, k0, k⟩ := h
    refine ⟨_, (pss_cons (ps_set (i := 4) sc_Bounds_add.nd rfl (Or.inl rfl) (methD (pv 0) M_Bounds_bound (hr.mono (by decide)) (pa_cons (pv 2) (pa_cons (pv 1) pa_nil))))
      (pss_cons (ps_if (PW.pt (pw_and (pt_cmpR op_notN (pv 4) pe_non (nomark _)) (pw_and1 (pt_cmpR op_lt (pe_op op_add (pv 4) (pv 3)) pe_int (nomark _))))) (pss_one (ps_ret pe_bl)) pss_nil)
      (pss_cons (ps_expr (pe_bm PySem.F.plainAttrs_list PySem.F.slot_list_append PySem.F.type_list_append mt_append (fld K (pv 0)) (pa_cons (pe_tup (pa_cons (pv 1) (pa_cons (pv 2) (pa_cons (pv 3) pa_nil)))) pa_nil)))
      (pss_cons (ps_if (pt_val (callD D_is_less (hr.mono (by decide)) rfl (pa_cons (pv 3) (pa_cons (pe_ix (ixL K) (pe_ix (ixL K) (fld K (pv 0)) (pv 1) (fun _ _ => rfl)) (pv 2) (fun _ _ => rfl)) pa_nil)))) (pss_one (ps_expr (methD (pv 0) M_Bounds__shorten (hr.mono (by decide)) (pa_cons (pv 1) (pa_cons (pv 2) (pa_cons (pv 3) pa_nil)))))) pss_nil)
      (pss_one (ps_ret pe_bl)))))), ?_⟩
    obtain ⟨dx, ma, ho, hm, hml, hmr⟩ := ba.me
    refine ⟨_, rfl, o, dx, _, rfl, ho, rfl, _, rfl, _, rfl, o, la, row, n, L, D, b, a, rfl, ba, hb, ha, ?_⟩
    refine ⟨_, rfl, rfl, (D b a).isSome, by rw [oi_some], ?_⟩
    have rest : (∀ z, D b a = some z → 0 ≤ z + c) → tSeq (tDrop (tBM K "list" rAppend (tFld K (tVar 0) "_literals") (tCons (tTup (tCons (tVar 1) (tCons (tVar 2) (tCons (tVar 3) tNil)))) tNil)))
        (tSeq (tIfS (tTest (tCall sp_is_less [] E0 (tCons (tVar 3) (tCons (tOp (rIxL K) (tOp (rIxL K) (tFld K (tVar 0) "_least") (tVar 1)) (tVar 2)) tNil)))) (tDrop (tMeth CB "_shorten" (sp_shorten CB) [] E0 (tVar 0) (tCons (tVar 1) (tCons (tVar 2) (tCons (tVar 3) tNil))))) tNext) (tRet (tC (.bl true))))
        { nx := fun _ H' => Q V.non H', rt := Q } [some (.ref o), some (.int a), some (.int b), some (.int c), some (oi (D b a))] H := fun hq => by
      obtain ⟨xs, hl, al⟩ := ba.ls
      have lal := al.len
      refine ⟨_, rfl, o, CB, dx, _, _, rfl, ho, cc.c, cc.l, rfl, .inl ⟨rfl, _, SqL.of hl⟩, _, rfl, _, rfl, _, rfl, by show 3 ≤ sizeLine; decide, fun t ht => ?_⟩
      have s1 := same_new (o := .tup [.int a, .int b, .int c]) ht
      have et : (upd H t (.tup [.int a, .int b, .int c])) t = some (.tup (litV ⟨a, b, c⟩)) := upd_same
      have ba1 := ba.mono s1
      refine ⟨la, xs, _, rfl, rfl, s1 _ _ hl, small1000 (by omega), ?_⟩
      have ba2 := ba1.addLit (s1 _ _ hl) (LitsAt.mono (Same.tups s1) al) et
      have out2 : Out la row n H (upd (upd H t (.tup [.int a, .int b, .int c])) la (.lst (xs ++ [.ref t]))) := (Out.of s1).laSet
      generalize upd (upd H t (.tup [.int a, .int b, .int c])) la (.lst (xs ++ [.ref t])) = H2 at ba2 out2 ⊢
      obtain ⟨dx2, ma2, ho2, hm2, _⟩ := ba2.me
      refine ⟨_, rfl, _, rfl, o, CB, dx2, _, _, rfl, ho2, cc.c, cc.m, rfl, _, rfl, ma2, _, _, _, rfl, rfl, SqL.of hm2, atI_nat (refsV_at ha), _, rfl, row a, _, _, _, rfl, rfl, SqL.of (ba2.rw_ a ha), atI_nat (rowV_at hb), some c, D a b, rfl, _, rfl, ?_⟩
      show if isLess c (D a b) = true then _ else _
      cases c3 : isLess c (D a b) with
      | false => exact k hq H2 D out2 ba2 (clo.keep ha hb c3)
      | true => exact ⟨_, rfl, o, dx2, _, rfl, ho2, rfl, _, rfl, _, rfl, _, rfl, o, la, row, n, _, D, a, b, c, rfl, ba2, ha, hb, fun H3 out3 ba3 => k hq H3 _ (out2.trans out3) ba3 (clo.add ha hb hq)⟩
    cases e : D b a with
    | none =>
      rw [e] at rest
      exact rest fun z hz => by cases hz
    | some z =>
      rw [e] at rest
      refine ⟨_, rfl, _, rfl, _, _, rfl, rfl, _, _, rfl, rfl, _, rfl, ?_⟩
      by_cases c1 : z + c < 0
      · rw [decide_eq_true c1]
        exact k0 z e c1
      · rw [decide_eq_false c1]
        exact rest fun y hy => by cases hy; omega
end
end D7
/-! D7, walk 10: bounds.py, the rest; search.py, literals looked at -/
namespace D7
open PySem L2

/-- a comprehension whose items are new lists -/
theorem lcNew {J : It} {g : TG} {tt : TT} {te : TE} {vs : List Nat} {σ : L2.St} {H1 : Hp} {Qd : Addr → Hp → Prop} (n : Nat) (cont : Nat → List V) (hn : n < sizeLine) (go : ∀ i H', Same H1 H' → i < n → J.go i H') (stop : ∀ H', Same H1 H' → J.stop n H')
    (turn : ∀ i H' x H'', i < n → Same H1 H' → J.yld i H' x H'' → ∀ (Kt : V → Hp → Prop) (Kf : Hp → Prop), (∀ r H4, Same H' H4 → H' r = none → H4 r = some (.lst (cont i)) → Kt (.ref r) H4) →
      g x (wipe σ vs) H'' fun σ2 H2 => wipe σ2 vs = wipe σ vs ∧ tt σ2 H2 fun b H3 => if b = true then te σ2 H3 Kt else Kf H3)
    (out : ∀ D H' (row : Nat → Addr), H1 D = none → Same H1 H' → H' D = some (.lst (refsV n row)) → (∀ i, i < n → H' (row i) = some (.lst (cont i))) → (∀ i, i < n → D ≠ row i ∧ H1 (row i) = none) → (∀ i j, i < n → j < n → row i = row j → i = j) → Qd D H') :
    LcEnds J g tt te vs σ H1 Qd := by
  intro D hD
  refine lcIt (Qd := Qd D) n (fun i H => Same H1 H ∧ ∃ row : Nat → Addr, H D = some (.lst (refsV i row)) ∧ (∀ j, j < i → H (row j) = some (.lst (cont j))) ∧ (∀ j, j < i → D ≠ row j ∧ H1 (row j) = none) ∧ ∀ j m, j < i → m < i → row j = row m → j = m)
    ⟨same_new hD, fun _ => 0, upd_same, fun j h => absurd h (Nat.not_lt_zero j), fun j h => absurd h (Nat.not_lt_zero j), fun j m h => absurd h (Nat.not_lt_zero j)⟩
    (fun i H hi p => go i H p.1 hi) (fun H p => stop H p.1) (fun i H x H' hi p y => ?_) fun H ⟨s, row, e, c, f, inj⟩ => out D H row hD s e c f inj
  obtain ⟨s, row, e, c, f, inj⟩ := p
  refine turn i H x H' hi s y _ _ fun r H4 s4 nr er => ?_
  have e4 := s4 _ _ e
  have nDr : D ≠ r := ne_of_none e nr
  refine ⟨_, e4, by rw [refsV_len]; omega, Same.mut (s.trans s4) hD, fun j => if j = i then r else row j, ?_, fun j hj => ?_, fun j hj => ?_, fun j m hj hm q => ?_⟩
  · rw [upd_same]
    unfold refsV
    rw [List.range_succ, List.map_append]
    have e1 : (List.range i).map (fun x => V.ref (row x)) = (List.range i).map fun x => V.ref (if x = i then r else row x) := List.map_congr_left fun z hz => by
      have := List.mem_range.mp hz
      rw [if_neg (by omega)]
    rw [e1]
    simp
  · by_cases q : j = i
    · subst q
      dsimp only
      rw [if_pos rfl, upd_ne nDr.symm]
      exact er
    · dsimp only
      rw [if_neg q]
      have := f j (by omega)
      rw [upd_ne this.1.symm]
      exact s4 _ _ (c j (by omega))
  · by_cases q : j = i
    · subst q
      dsimp only
      rw [if_pos rfl]
      exact ⟨nDr, s.free nr⟩
    · dsimp only
      rw [if_neg q]
      exact f j (by omega)
  · dsimp only at q
    have old : ∀ z, z < i → row z ≠ r := fun z hz => ne_of_none (c z hz) nr
    by_cases q1 : j = i
    · by_cases q2 : m = i
      · omega
      · rw [if_pos q1, if_neg q2] at q
        exact (old m (by omega) q.symm).elim
    · by_cases q2 : m = i
      · rw [if_neg q1, if_pos q2] at q
        exact (old j (by omega) q).elim
      · rw [if_neg q1, if_neg q2] at q
        exact inj j m (by omega) (by omega) q

theorem al_pickF {α : Type} {R : V → α → Prop} {g : Nat → Option α} : ∀ {ys : List V} {is : List Nat}, Al (fun v i => ∃ x, g i = some x ∧ R v x) ys is → Al R ys (is.filterMap g)
  | [], is, h => by
    have : is = [] := List.length_eq_zero_iff.mp h.len.symm
    subst this
    exact Al.nil
  | y :: ys, [], h => by
    have := h.len
    simp at this
  | y :: ys, i :: is, h => by
    obtain ⟨j, ej, x, hx, q⟩ := h.at_ 0 y rfl
    have : i = j := by simpa using ej
    subst this
    have ih := al_pickF (R := R) (g := g) (ys := ys) (is := is) ⟨by simpa using h.len, fun m v e => by simpa using h.at_ (m + 1) v (by simpa using e)⟩
    rw [List.filterMap_cons, hx]
    exact (Al.one q).app ih
theorem al_ints {ys : List V} {ns : List Int} (h : Al (fun v (x : Int) => v = .int x) ys ns) : ys = ns.map V.int := by
  refine List.ext_getElem? fun i => ?_
  rw [List.getElem?_map]
  cases e : ys[i]? with
  | none =>
    rw [List.getElem?_eq_none (by rw [← h.len]; exact List.getElem?_eq_none_iff.mp e)]
    rfl
  | some v =>
    obtain ⟨x, hx, rfl⟩ := h.at_ i v e
    rw [hx]
    rfl
/-- the heap without one object -/
def er (S : Addr) (H : Hp) : Hp := fun c => if c = S then none else H c
section
variable {S a : Addr} {H H' : Hp} {o : HO}
theorem er_ne (n : a ≠ S) : er S H a = H a := by unfold er; rw [if_neg n]
theorem er_le : Same (er S H) H := fun c u e => by
  unfold er at e
  split at e
  · cases e
  · exact e
theorem er_of (h : er S H a = some o) : a ≠ S ∧ H a = some o := by
  unfold er at h
  split at h
  · cases h
  · exact ⟨by assumption, h⟩
theorem er_mk (n : a ≠ S) (h : H a = some o) : er S H a = some o := by rw [er_ne n]; exact h
theorem er_same (s : Same H H') : Same (er S H) (er S H') := fun c u e => let ⟨n, h⟩ := er_of e; er_mk n (s c u h)
end
theorem BAt.er {CB : Addr} {H : Hp} {o la : Addr} {row : Nat → Addr} {n : Nat} {L : List Lit} {D : Mat} (h : BAt CB H o la row n L D) {S : Addr} {zs : List V} (hS : H S = some (.lst zs)) (h1 : la ≠ S) (h2 : ∀ x, x < n → row x ≠ S) (h3 : ∀ dx ma l, H o = some (.ins CB dx [("_literals", l), ("_least", .ref ma)]) → ma ≠ S) :
    BAt CB (D7.er S H) o la row n L D := by
  obtain ⟨dx, ma, a, b, c⟩ := h.me
  obtain ⟨xs, l1, l2⟩ := h.ls
  exact ⟨⟨dx, ma, er_mk (ne_of a hS fun e => by cases e) a, er_mk (h3 _ _ _ a) b, c⟩, ⟨xs, er_mk h1 l1, l2.mono fun v l ⟨t, e, ht⟩ => ⟨t, e, er_mk (ne_of ht hS fun e => by cases e) ht⟩⟩, fun x hx => er_mk (h2 x hx) (h.rw_ x hx), h.lr, h.inj, h.n1, h.n7⟩
def diag : Mat := fun x y => if x = y then some 0 else none
section
variable {P : Program} {w : World} {K : PySem.W.Frag} {mg : Str → Option Value} {base : Heap}
abbrev s_Bounds_init : Stmt := inClass (top 36) 0
abbrev N_Bounds_init : List Str := ["self", "n", "_", "a"]
theorem sc_Bounds_init : FnScope N_Bounds_init ["self", "n"] (defScope s_Bounds_init) := ⟨rfl, rfl, rfl, by decide +kernel, rfl, by decide +kernel, by decide +kernel⟩
def sp_Bounds_init (CB : Addr) : Sp := fun vs H Q _ => ∃ (x dx : Addr) (n : Nat), vs = [.ref x, .int n] ∧ H x = some (.ins CB dx []) ∧ 1 ≤ n ∧ n ≤ 7 ∧ ∀ (H' : Hp) (la : Addr) (row : Nat → Addr), Bx x H H' → BAt CB H' x la row n [] diag → H la = none → (∀ i, i < n → H (row i) = none) → Q .non H'
theorem ok_Bounds_init {f : Addr} {fd : FuncData} {CB : Addr} (F : Fun K "__init__" "Bounds.__init__" s_Bounds_init f fd) (cc : BC K CB) (B : Bt mg) (D_check_points : Def P w K mg base 1 "check_points" ["n"] sp_check_points) : FnOk P w K mg base CX0 2 f fd ["self", "n"] (sp_Bounds_init CB) := by
  refine F.ok sc_Bounds_init (fun vs H Q E h => ?_) (fun cdv A outer s H vs Q E hr h => ?_)
  · obtain ⟨x, dx, n, rfl, _⟩ := h
    rfl
  · obtain ⟨x, dx, n, rfl, hx, n1, n7, k⟩ := h
    refine ⟨_, (pss_cons (ps_expr (callD D_check_points (hr.mono (by decide)) rfl (pa_cons (pv 1) pa_nil)))
      (pss_cons (ps_fld (pv 0) (pe_lst pa_nil) rfl)
      (pss_cons (ps_fld (pv 0) (pe_lc (own := [("_", 2)]) rfl sc_Bounds_init.nd (pi_range1 rfl B.range (pa_cons (pv 1) pa_nil)) (blkOk_by (N := N_Bounds_init) (sc := defScope s_Bounds_init) (by decide +kernel)) (fun _ _ _ _ _ => (pg_name (i := 2) sc_Bounds_init.nd rfl (Or.inl rfl))) (fun _ _ _ _ _ => pts_nil) (fun _ _ _ _ _ => (pe_op op_rep (pe_lst (pa_cons pe_non pa_nil)) (pv 1)))) rfl)
      (pss_one (ps_for PassesOwn.never rfl (pi_range1 rfl B.range (pa_cons (pv 1) pa_nil)) (pg_name (i := 3) sc_Bounds_init.nd rfl (Or.inl rfl)) (pss_one (ps_asg pe_int (pg_sub (pe_ix (ixL K) (fld K (pv 0)) (pv 3) (fun _ _ => rfl)) (pv 3) set_list)))))))), ?_⟩
    refine ⟨_, rfl, n, rfl, n1, by omega, ?_⟩
    refine ⟨by show 0 ≤ sizeLine; decide, fun la hla => ?_⟩
    have s1 := same_new (o := .lst []) hla
    have nlx : la ≠ x := (ne_of_none hx hla).symm
    refine ⟨_, rfl, x, CB, dx, [], rfl, s1 _ _ hx, cc.c, cc.l, by decide, ?_⟩
    rw [show putF "_literals" (V.ref la) [] = ([("_literals", .ref la)] : List (Str × V)) from rfl]
    have b1 : Bx x H (upd (upd H la (.lst [])) x (.ins CB dx [("_literals", .ref la)])) := (Bx.refl.same s1).set
    have x1 : (upd (upd H la (.lst [])) x (.ins CB dx [("_literals", .ref la)])) x = some (.ins CB dx [("_literals", .ref la)]) := upd_same
    have l1 : (upd (upd H la (.lst [])) x (.ins CB dx [("_literals", .ref la)])) la = some (.lst []) := by rw [upd_ne nlx]; exact upd_same
    generalize upd (upd H la (.lst [])) x (.ins CB dx [("_literals", .ref la)]) = H1 at b1 x1 l1 ⊢
    refine ⟨_, rfl, n, rfl, by omega, by omega, ?_⟩
    rw [Int.toNat_natCast]
    refine lcNew (J := Itr 0 n) n (fun _ => rowV n fun _ => none) (small1000 (by omega)) (fun i H' _ hi => hi) (fun H' _ => Nat.le_refl _) (fun i H' y H'' hi sm yl Kt Kf k1 => ?_) fun ma H2 row hma sm em er fr inj => ?_
    · obtain ⟨e1, e2⟩ := yl
      subst e1
      refine ⟨rfl, by show 1 ≤ sizeLine; decide, fun q0 hq0 => ⟨_, rfl, q0, n, _, rfl, rfl, upd_same, by omega, by omega, ?_, fun r hr => ?_⟩⟩
      · have := small1000 (n := n) (by omega)
        simp only [List.length_singleton, Int.toNat_natCast]
        omega
      · have s2 := (same_new (o := .lst [.non]) hq0).trans (same_new (o := .lst (List.replicate (n : Int).toNat [V.non]).flatten) hr)
        refine k1 r _ s2 ((same_new hq0).free hr) ?_
        rw [upd_same, rep_one, Int.toNat_natCast]
        congr 2
        unfold rowV
        exact (List.eq_replicate_iff.mpr ⟨by rw [List.length_map, List.length_range], fun b hb => let ⟨_, _, e⟩ := List.mem_map.mp hb; e.symm⟩).symm
    · have nmx : ma ≠ x := (ne_of_none x1 hma).symm
      refine ⟨_, rfl, x, CB, dx, _, rfl, sm _ _ x1, cc.c, cc.m, by show 1 < 1000; decide, ?_⟩
      rw [show putF "_least" (V.ref ma) [("_literals", .ref la)] = ([("_literals", .ref la), ("_least", .ref ma)] : List (Str × V)) from rfl]
      have nrx : ∀ i, i < n → row i ≠ x := fun i hi => (ne_of_none x1 (fr i hi).2).symm
      have b3 := (b1.same sm).set (o := .ins CB dx [("_literals", .ref la), ("_least", .ref ma)])
      have ba : BAt CB (upd H2 x (.ins CB dx [("_literals", .ref la), ("_least", .ref ma)])) x la row n [] (fun _ _ => none) :=
        ⟨⟨dx, ma, upd_same, by rw [upd_ne nmx]; exact em, (ne_of_none l1 hma).symm, fun i hi => (fr i hi).1⟩, ⟨[], by rw [upd_ne nlx]; exact sm _ _ l1, Al.nil⟩, fun i hi => by rw [upd_ne (nrx i hi)]; exact er i hi, fun i hi => ne_of_none l1 (fr i hi).2, inj, n1, n7⟩
      generalize upd H2 x (.ins CB dx [("_literals", .ref la), ("_least", .ref ma)]) = H3 at b3 ba ⊢
      refine ⟨_, rfl, n, rfl, by omega, by omega, ?_⟩
      rw [Int.toNat_natCast]
      have frow : ∀ i, i < n → H (row i) = none := fun i hi => b1.free x1 (fr i hi).2
      refine for_range (lo := 0) (n := n) (fun i σ H' => ∃ u, σ = [some (.ref x), some (.int n), none, u] ∧ Bx x H H' ∧ ∃ D, BAt CB H' x la row n [] D ∧ ∀ a b, a < n → b < n → D a b = if a < i then diag a b else none) ⟨none, rfl, b3, _, ba, fun a b _ _ => by rw [if_neg (by omega)]⟩ (fun i σ H' hi q => ?_) fun σ H' q => ?_
      · obtain ⟨u, rfl, b4, D, ba4, eD⟩ := q
        obtain ⟨dx4, ma4, h1, h2, _⟩ := ba4.me
        have e0 : ((0 : Int) + (i : Int)) = (i : Int) := by omega
        rw [e0]
        have r4 := ba4.rw_ i hi
        refine ⟨_, rfl, x, CB, dx4, _, _, rfl, h1, cc.c, cc.m, rfl, _, rfl, ma4, _, _, _, rfl, rfl, SqL.of h2, atI_nat (refsV_at hi), _, rfl, row i, _, _, i, rfl, rfl, r4, by rw [rowV_len]; exact ixN_nat hi, ?_⟩
        have es : (rowV n (D i)).set i (V.int 0) = rowV n (setf (D i) i (some 0)) := rowV_set (v := some 0)
        rw [es]
        refine ⟨_, rfl, fun c u n2 hc => ?_, _, ba4.setRow hi, fun a b ha hb => ?_⟩
        · rw [upd_ne (ne_of_none hc (frow i hi))]
          exact b4 c u n2 hc
        · by_cases q1 : a = i
          · subst q1
            unfold setf diag
            rw [if_pos rfl, if_pos (by omega : a < a + 1)]
            by_cases q2 : b = a
            · rw [if_pos q2, if_pos q2.symm]
            · rw [if_neg q2, if_neg (fun q => q2 q.symm), eD a b ha hb, if_neg (by omega)]
          · rw [if_neg q1, eD a b ha hb]
            by_cases q2 : a < i
            · rw [if_pos q2, if_pos (by omega)]
            · rw [if_neg q2, if_neg (by omega)]
      · obtain ⟨u, rfl, b4, D, ba4, eD⟩ := q
        exact k H' la row b4 (ba4.congr fun a b ha hb => by rw [eD a b ha hb, if_pos ha]) hla frow

abbrev s_Bounds_take : Stmt := inClass (top 36) 11
abbrev N_Bounds_take : List Str := ["self", "literals", "least", "row"]
theorem sc_Bounds_take : FnScope N_Bounds_take ["self", "literals", "least"] (defScope s_Bounds_take) := ⟨rfl, rfl, rfl, by decide +kernel, rfl, by decide +kernel, by decide +kernel⟩
def sp_take (CB : Addr) : Sp := fun vs H Q _ => ∃ (x dx la ma : Addr) (row : Nat → Addr) (n : Nat) (L : List Lit) (D : Mat) (xs : List V) (l0 m0 : V), vs = [.ref x, .ref la, .ref ma] ∧ H x = some (.ins CB dx [("_literals", l0), ("_least", m0)]) ∧ H la = some (.lst xs) ∧ Al (LitAt H) xs L ∧ H ma = some (.lst (refsV n row)) ∧
  (∀ i, i < n → H (row i) = some (.lst (rowV n (D i)))) ∧ 1 ≤ n ∧ n ≤ 7 ∧ ∀ (H' : Hp) (la' : Addr) (row' : Nat → Addr), Bx x H H' → BAt CB H' x la' row' n L D → H la' = none → (∀ i, i < n → H (row' i) = none) → (∀ S zs, H S = some (.lst zs) → BAt CB (D7.er S H') x la' row' n L D) → Q .non H'
theorem ok_take {f : Addr} {fd : FuncData} {CB : Addr} (F : Fun K "_take" "Bounds._take" s_Bounds_take f fd) (cc : BC K CB) (B : Bt mg) : FnOk P w K mg base CX0 1 f fd ["self", "literals", "least"] (sp_take CB) := by
  refine F.ok sc_Bounds_take (fun vs H Q E h => ?_) (fun cdv A outer s H vs Q E hr h => ?_)
  · obtain ⟨x, dx, la, ma, row, n, L, D, xs, l0, m0, rfl, _⟩ := h
    rfl
  · obtain ⟨x, dx, la, ma, row, n, L, D, xs, l0, m0, rfl, hx, hl, al, hm, hrw, n1, n7, k⟩ := h
    refine ⟨_, (pss_cons (ps_fld (pv 0) (pe_callTy (cList K) (by rfl) B.list (by decide +kernel) (pa_cons (pv 1) pa_nil)) rfl)
      (pss_one (ps_fld (pv 0) (pe_lc (own := [("row", 3)]) rfl sc_Bounds_take.nd (piL K (pv 2)) (blkOk_by (N := N_Bounds_take) (sc := defScope s_Bounds_take) (by decide +kernel)) (fun _ _ _ _ _ => (pg_name (i := 3) sc_Bounds_take.nd rfl (Or.inl rfl))) (fun _ _ _ _ _ => pts_nil) (fun _ _ _ _ _ => (pe_callTy (cList K) (by rfl) B.list (by decide +kernel) (pa_cons (pv 3) pa_nil)))) rfl))), ?_⟩
    refine ⟨_, rfl, la, xs, rfl, .inl (SqL.of hl), fun la' hla => ?_⟩
    have s1 := same_new (o := .lst xs) hla
    have nlx : la' ≠ x := (ne_of_none hx hla).symm
    refine ⟨_, rfl, x, CB, dx, _, rfl, s1 _ _ hx, cc.c, cc.l, by show 2 < 1000; decide, ?_⟩
    rw [show putF "_literals" (V.ref la') [("_literals", l0), ("_least", m0)] = ([("_literals", .ref la'), ("_least", m0)] : List (Str × V)) from rfl]
    have b1 : Bx x H (upd (upd H la' (.lst xs)) x (.ins CB dx [("_literals", .ref la'), ("_least", m0)])) := (Bx.refl.same s1).set
    have x1 : (upd (upd H la' (.lst xs)) x (.ins CB dx [("_literals", .ref la'), ("_least", m0)])) x = some (.ins CB dx [("_literals", .ref la'), ("_least", m0)]) := upd_same
    have l1 : (upd (upd H la' (.lst xs)) x (.ins CB dx [("_literals", .ref la'), ("_least", m0)])) la' = some (.lst xs) := by rw [upd_ne nlx]; exact upd_same
    generalize upd (upd H la' (.lst xs)) x (.ins CB dx [("_literals", .ref la'), ("_least", m0)]) = H1 at b1 x1 l1 ⊢
    have nmx : ma ≠ x := ne_of hm hx fun e => by cases e
    have nrx : ∀ i, i < n → row i ≠ x := fun i hi => ne_of (hrw i hi) hx fun e => by cases e
    have hm1 := b1 _ _ nmx hm
    have hr1 := fun i (hi : i < n) => b1 _ _ (nrx i hi) (hrw i hi)
    have al1 : Al (LitAt H1) xs L := al.mono fun v l ⟨t, e, ht⟩ => ⟨t, e, b1 _ _ (ne_of ht hx fun e => by cases e) ht⟩
    refine ⟨_, rfl, ma, rfl, ⟨_, SqL.of hm1⟩, ?_⟩
    refine lcNew (J := Itl K ma) n (fun i => rowV n (D i)) (small1000 (by omega)) (fun i H' s hi => ⟨_, _, SqL.of (s _ _ hm1), refsV_at hi⟩) (fun H' s => ⟨_, SqL.of (s _ _ hm1), by rw [refsV_len]; exact Nat.le_refl _⟩) (fun i H' y H'' hi sm yl Kt Kf k1 => ?_) fun ma' H2 row' hma sm em er fr inj => ?_
    · obtain ⟨e1, e2⟩ := yl
      subst e1
      have e3 := e2 _ (SqL.of (sm _ _ hm1))
      rw [refsV_at hi] at e3
      cases e3
      exact ⟨rfl, _, rfl, row i, _, rfl, .inl (SqL.of (sm _ _ (hr1 i hi))), fun r hr => k1 r _ (same_new hr) hr upd_same⟩
    · have nmx2 : ma' ≠ x := (ne_of_none x1 hma).symm
      refine ⟨_, rfl, x, CB, dx, _, rfl, sm _ _ x1, cc.c, cc.m, by show 2 < 1000; decide, ?_⟩
      rw [show putF "_least" (V.ref ma') [("_literals", .ref la'), ("_least", m0)] = ([("_literals", .ref la'), ("_least", .ref ma')] : List (Str × V)) from rfl]
      have nrx2 : ∀ i, i < n → row' i ≠ x := fun i hi => (ne_of_none x1 (fr i hi).2).symm
      have b3 := (b1.same sm).set (o := .ins CB dx [("_literals", .ref la'), ("_least", .ref ma')])
      have tp : Tups H2 (upd H2 x (.ins CB dx [("_literals", .ref la'), ("_least", .ref ma')])) := (Tups.refl _).write (sm _ _ x1) fun _ e => by cases e
      have fla : ∀ i, i < n → H (row' i) = none := fun i hi => b1.free x1 (fr i hi).2
      have big : BAt CB (upd H2 x (.ins CB dx [("_literals", .ref la'), ("_least", .ref ma')])) x la' row' n L D := ⟨⟨dx, ma', upd_same, by rw [upd_ne nmx2]; exact em, (ne_of_none l1 hma).symm, fun i hi => (fr i hi).1⟩, ⟨xs, by rw [upd_ne nlx]; exact sm _ _ l1, LitsAt.mono tp (LitsAt.mono (Same.tups sm) al1)⟩,
        fun i hi => by rw [upd_ne (nrx2 i hi)]; exact er i hi, fun i hi => ne_of_none l1 (fr i hi).2, inj, n1, n7⟩
      refine k _ la' row' b3 big hla fla fun S zs hS => big.er (b3 _ _ (ne_of hS hx fun e => by cases e) hS) (ne_of_none hS hla).symm (fun i hi => (ne_of_none hS (fla i hi)).symm) fun dx4 ma4 l4 e => ?_
      rw [upd_same] at e
      have e := HO.ins.inj (Option.some.inj e)
      have e2 := e.2.2
      simp only [List.cons.injEq, Prod.mk.injEq, V.ref.injEq, true_and, and_true] at e2
      rw [← e2.2]
      exact (ne_of_none hS (b1.free x1 hma)).symm

abbrev s_Bounds_copy : Stmt := inClass (top 36) 12
abbrev N_Bounds_copy : List Str := ["self", "other"]
theorem sc_Bounds_copy : FnScope N_Bounds_copy ["self"] (defScope s_Bounds_copy) := ⟨rfl, rfl, rfl, by decide +kernel, rfl, by decide +kernel, by decide +kernel⟩
def sp_copy (CB : Addr) : Sp := fun vs H Q _ => ∃ (o la : Addr) (row : Nat → Addr) (n : Nat) (L : List Lit) (D : Mat), vs = [.ref o] ∧ BAt CB H o la row n L D ∧ ∀ (H' : Hp) (o' la' : Addr) (row' : Nat → Addr), Same H H' → BAt CB H' o' la' row' n L D → H o' = none → H la' = none → (∀ i, i < n → H (row' i) = none) → (∀ S zs, H S = some (.lst zs) → BAt CB (D7.er S H') o' la' row' n L D) → Q (.ref o') H'
theorem ok_copy {f : Addr} {fd : FuncData} {CB : Addr} (F : Fun K "copy" "Bounds.copy" s_Bounds_copy f fd) (cc : BC K CB) (C_Bounds : Made P w K mg base 2 "Bounds" CB ["self", "n"] (sp_Bounds_init CB)) (M_Bounds__take : MDef P w K mg base 1 CB "_take" ["self", "literals", "least"] (sp_take CB))
    (M_Bounds_size : MDef P w K mg base 1 CB "size" ["self"] (sp_size CB)) : FnOk P w K mg base CX0 4 f fd ["self"] (sp_copy CB) := by
  refine F.ok sc_Bounds_copy (fun vs H Q E h => ?_) (fun cdv A outer s H vs Q E hr h => ?_)
  · obtain ⟨o, la, row, n, L, D, rfl, _⟩ := h
    rfl
  · obtain ⟨o, la, row, n, L, D, rfl, ba, k⟩ := h
    refine ⟨_, (pss_cons (ps_set (i := 1) sc_Bounds_copy.nd rfl (Or.inl rfl) (makeD C_Bounds (hr.mono (by decide)) rfl (pa_cons (methD0 (pv 0) M_Bounds_size (hr.mono (by decide))) pa_nil)))
      (pss_cons (ps_expr (methD (pv 1) M_Bounds__take (hr.mono (by decide)) (pa_cons (fld K (pv 0)) (pa_cons (fld K (pv 0)) pa_nil))))
      (pss_one (ps_ret (pv 1))))), ?_⟩
    obtain ⟨dx, ma, ho, hm, _⟩ := ba.me
    obtain ⟨xs, hl, al⟩ := ba.ls
    refine ⟨_, rfl, o, dx, _, rfl, ho, rfl, o, la, row, n, L, D, rfl, ba, ?_⟩
    intro x dx2 hx hdx nxd
    have so : Same H (upd (upd H dx2 (.own x)) x (.ins CB dx2 [])) := fun b u e => by
      rw [upd_ne (ne_of_none e hx), upd_ne (ne_of_none e hdx)]
      exact e
    refine ⟨x, dx2, n, rfl, upd_same, ba.n1, ba.n7, fun H1 l1 r1 b1 bb1 _ _ => ⟨rfl, ?_⟩⟩
    have s1 : Same H H1 := fun b u e => b1 b u (ne_of_none e hx) (so b u e)
    obtain ⟨dx3, m1, h3, _⟩ := bb1.me
    refine ⟨_, rfl, x, dx3, _, rfl, h3, rfl, _, rfl, o, CB, dx, _, _, rfl, s1 _ _ ho, cc.c, cc.l, rfl, _, rfl, o, CB, dx, _, _, rfl, s1 _ _ ho, cc.c, cc.m, rfl, ?_⟩
    refine ⟨x, dx3, la, ma, row, n, L, D, xs, _, _, rfl, h3, s1 _ _ hl, LitsAt.mono (Same.tups s1) al, s1 _ _ hm, fun i hi => s1 _ _ (ba.rw_ i hi), ba.n1, ba.n7, fun H2 la' row' b2 bb2 f1 f2 f3 => ?_⟩
    have s2 : Same H H2 := fun b u e => b2 b u (ne_of_none e hx) (s1 b u e)
    exact ⟨_, rfl, k H2 x la' row' s2 bb2 hx (s1.free f1) (fun i hi => s1.free (f2 i hi)) fun S zs hS => f3 S zs (s1 _ _ hS)⟩

def valsL (n : Nat) : List V := (List.range n).map fun i => V.int ((i : Nat) : Int)
theorem valsL_len {n : Nat} : (valsL n).length = n := by unfold valsL; rw [List.length_map, List.length_range]
theorem valsL_back {n i : Nat} {x : V} (h : (valsL n)[i]? = some x) : i < n ∧ x = .int i := by
  have lt := (List.getElem?_eq_some_iff.mp h).1
  rw [valsL_len] at lt
  unfold valsL at h
  rw [List.getElem?_map, List.getElem?_range lt] at h
  exact ⟨lt, (Option.some.inj h).symm⟩
/-- the least entry of a row -/
def Least (n : Nat) (D : Mat) (f : Val) (x : Nat) : Prop := (∃ y, y < n ∧ D x y = some (f x)) ∧ ∀ y z, y < n → D x y = some z → f x ≤ z
abbrev s_Bounds_low : Stmt := inClass (top 36) 6
abbrev N_Bounds_low : List Str := ["self", "points", "found", "a", "b"]
theorem sc_Bounds_low : FnScope N_Bounds_low ["self", "points"] (defScope s_Bounds_low) := ⟨rfl, rfl, rfl, by decide +kernel, rfl, by decide +kernel, by decide +kernel⟩
def sp_low (CB : Addr) : Sp := fun vs H Q _ => ∃ (o la : Addr) (row : Nat → Addr) (n : Nat) (L : List Lit) (D : Mat) (p : Addr), vs = [.ref o, .ref p] ∧ BAt CB H o la row n L D ∧ (∀ x, x < n → D x x = some 0) ∧ H p = some (.lst (valsL n)) ∧
  ∀ (H' : Hp) (d : Addr) (kvs : List (Key × V)) (f : Val), Same H H' → H' d = some (.dK kvs) → (∀ x, x < n → valV kvs (.inl (x : Int)) = some (.int (f x)) ∧ Least n D f x) → Q (.ref d) H'
theorem ok_low {f : Addr} {fd : FuncData} {CB : Addr} (F : Fun K "_low" "Bounds._low" s_Bounds_low f fd) (cc : BC K CB) (B : Bt mg) : FnOk P w K mg base CX0 1 f fd ["self", "points"] (sp_low CB) := by
  refine F.ok sc_Bounds_low (fun vs H Q E h => ?_) (fun cdv A outer s H vs Q E hr h => ?_)
  · obtain ⟨o, la, row, n, L, D, p, rfl, _⟩ := h
    rfl
  · obtain ⟨o, la, row, n, L, D, p, rfl, ba, refl, hp, k⟩ := h
    refine ⟨_, (pss_cons (ps_set (i := 2) sc_Bounds_low.nd rfl (Or.inl rfl) pe_dnewK)
      (pss_cons (ps_for PassesOwn.never rfl (piL K (pv 1)) (pg_name (i := 3) sc_Bounds_low.nd rfl (Or.inr rfl)) (pss_one (ps_dput (hu_of hr) (pv 2) (pv 3) (pe_callB (cMin K) (by rfl) B.min (by decide +kernel) (pa_cons (pe_lc (own := [("b", 4)]) rfl sc_Bounds_low.nd (piL K (pv 1)) (blkOk_by (N := N_Bounds_low) (sc := defScope s_Bounds_low) (by decide +kernel)) (fun _ _ _ _ _ => (pg_name (i := 4) sc_Bounds_low.nd rfl (Or.inl rfl))) (fun _ _ _ _ _ => pts_one (pt_cmpR op_notN (pe_ix (ixL K) (pe_ix (ixL K) (fld K (pv 0)) (pv 3) (fun _ _ => rfl)) (pv 4) (fun _ _ => rfl)) pe_non (nomark _))) (fun _ _ _ _ _ => (pe_ix (ixL K) (pe_ix (ixL K) (fld K (pv 0)) (pv 3) (fun _ _ => rfl)) (pv 4) (fun _ _ => rfl)))) pa_nil)) rfl)))
      (pss_one (ps_ret (pv 2))))), ?_⟩
    obtain ⟨dx, ma, ho, hm, _⟩ := ba.me
    have n7 := ba.n7
    intro d hd
    have s1 := same_new (o := .dK []) hd
    refine ⟨_, rfl, p, rfl, ⟨_, SqL.of (s1 _ _ hp)⟩, ?_⟩
    refine for_list (K := K) (a := p) (xs := valsL n) (fun i σ H' => ∃ (u : Option V) (kvs : List (Key × V)) (f : Val), σ = [some (.ref o), some (.ref p), some (.ref d), u, none] ∧ Same H H' ∧ H' d = some (.dK kvs) ∧ kvs.length ≤ i ∧ ∀ x, x < i → valV kvs (.inl (x : Int)) = some (.int (f x)) ∧ Least n D f x)
      ⟨none, [], fun _ => 0, rfl, s1, upd_same, Nat.zero_le _, fun x h => absurd h (Nat.not_lt_zero x)⟩ (fun i σ H' _ q => ?_) (fun i x σ H1 hi q => ?_) fun σ H' q => ?_
    · obtain ⟨_, _, _, _, sm, _⟩ := q
      exact SqL.of (sm _ _ hp)
    · obtain ⟨u, kvs, f, rfl, sm, ed, le, good⟩ := q
      obtain ⟨lt, rfl⟩ := valsL_back hi
      refine ⟨_, rfl, p, rfl, ⟨_, SqL.of (sm _ _ hp)⟩, ?_⟩
      refine lcL (K := K) (SqL.of (sm _ _ hp)) (by rw [valsL_len]; exact Nat.le_of_lt (small1000 (by omega))) (fun j => (D i j).isSome) (fun j y _ => ∃ z, D i j = some z ∧ y = .int z) (fun _ _ _ _ _ q => q) (fun j y H2 hj s2 Kt Kf k1 k2 => ?_) fun Dl H2 ys hDl s2 eDl al => ?_
      · obtain ⟨ltj, rfl⟩ := valsL_back hj
        have s12 := sm.trans s2
        refine ⟨rfl, _, rfl, o, CB, dx, _, _, rfl, s12 _ _ ho, cc.c, cc.m, rfl, _, rfl, ma, _, _, _, rfl, rfl, SqL.of (s12 _ _ hm), atI_nat (refsV_at lt), _, rfl, row i, _, _, _, rfl, rfl, SqL.of (s12 _ _ (ba.rw_ i lt)), atI_nat (rowV_at ltj), rfl, (D i j).isSome, by rw [oi_some], ?_⟩
        cases e : D i j with
        | none => exact k2 _ (by rw [e]; rfl) (Same.refl _)
        | some z => exact ⟨_, rfl, o, CB, dx, _, _, rfl, s12 _ _ ho, cc.c, cc.m, rfl, _, rfl, ma, _, _, _, rfl, rfl, SqL.of (s12 _ _ hm), atI_nat (refsV_at lt), _, rfl, row i, _, _, _, rfl, rfl, SqL.of (s12 _ _ (ba.rw_ i lt)), atI_nat (rowV_at ltj), k1 _ _ (by rw [e]; rfl) (Same.refl _) ⟨z, e, by rw [e]; rfl⟩⟩
      · rw [valsL_len] at al
        have ei := al_ints (al_pickF al)
        have mem : ∀ z, z ∈ ((List.range n).filter fun j => (D i j).isSome).filterMap (fun j => D i j) ↔ ∃ j, j < n ∧ D i j = some z := fun z => by
          rw [List.mem_filterMap]
          constructor
          · rintro ⟨j, hj, e⟩
            exact ⟨j, List.mem_range.mp (List.mem_filter.mp hj).1, e⟩
          · rintro ⟨j, hj, e⟩
            exact ⟨j, List.mem_filter.mpr ⟨List.mem_range.mpr hj, by rw [e]; rfl⟩, e⟩
        generalize ((List.range n).filter fun j => (D i j).isSome).filterMap (fun j => D i j) = ns at ei mem
        subst ei
        refine ⟨Dl, ns, rfl, SqL.of eDl, List.length_pos_of_mem ((mem 0).mpr ⟨i, lt, refl i lt⟩), fun m hmem hmin => ?_⟩
        have ed2 := s2 _ _ ed
        refine ⟨_, rfl, _, rfl, d, _, rfl, DPut.k (k := .inl (i : Int)) ed2 (small1000 (by omega)), ?_⟩
        refine ⟨some (.int (i : Int)), putK kvs (.inl (i : Int)) (.int m), set1 f i m, rfl, Same.mut (sm.trans s2) hd, upd_same, by have := length_putK kvs (.inl (i : Int)) (V.int m); omega, fun x hx => ?_⟩
        rw [valV_put]
        by_cases c : x = i
        · subst c
          obtain ⟨y, hy, ey⟩ := (mem m).mp hmem
          unfold Least
          rw [set1_same, if_pos rfl]
          exact ⟨rfl, ⟨y, hy, ey⟩, fun y z hy ez => hmin z ((mem z).mpr ⟨y, hy, ez⟩)⟩
        · unfold Least
          rw [set1_ne c, if_neg (fun e => c (by have := Sum.inl.inj e; omega))]
          exact good x (by omega)
    · obtain ⟨u, kvs, f, rfl, sm, ed, _, good⟩ := q
      rw [valsL_len] at good
      exact ⟨_, rfl, k H' d kvs f sm ed good⟩

abbrev s_Bounds_any_values : Stmt := inClass (top 36) 7
abbrev N_Bounds_any_values : List Str := ["self", "low", "a"]
theorem sc_Bounds_any_values : FnScope N_Bounds_any_values ["self"] (defScope s_Bounds_any_values) := ⟨rfl, rfl, rfl, by decide +kernel, rfl, by decide +kernel, by decide +kernel⟩
def sp_any_values (CB : Addr) : Sp := fun vs H Q _ => ∃ (o la : Addr) (row : Nat → Addr) (n : Nat) (L : List Lit) (D : Mat), vs = [.ref o] ∧ BAt CB H o la row n L D ∧ Clo n L D ∧ ∀ (H' : Hp) (t : Addr) (v : Val), Same H H' → H' t = some (.tup (intsV n v)) → Sat v L → Q (.ref t) H'
theorem ok_any_values {f : Addr} {fd : FuncData} {CB : Addr} (F : Fun K "any_values" "Bounds.any_values" s_Bounds_any_values f fd) (cc : BC K CB) (B : Bt mg) (D_moved : Def P w K mg base 1 "moved" ["values"] sp_moved) (M_Bounds__low : MDef P w K mg base 1 CB "_low" ["self", "points"] (sp_low CB))
    (M_Bounds_size : MDef P w K mg base 1 CB "size" ["self"] (sp_size CB)) : FnOk P w K mg base CX0 2 f fd ["self"] (sp_any_values CB) := by
  refine F.ok sc_Bounds_any_values (fun vs H Q E h => ?_) (fun cdv A outer s H vs Q E hr h => ?_)
  · obtain ⟨o, la, row, n, L, D, rfl, _⟩ := h
    rfl
  · obtain ⟨o, la, row, n, L, D, rfl, ba, clo, k⟩ := h
    refine ⟨_, (pss_cons (ps_set (i := 1) sc_Bounds_any_values.nd rfl (Or.inr rfl) (methD (pv 0) M_Bounds__low (hr.mono (by decide)) (pa_cons (pe_listRg rfl rfl B.list (prg_1 rfl B.range (methD0 (pv 0) M_Bounds_size (hr.mono (by decide))))) pa_nil)))
      (pss_one (ps_ret (callD D_moved (hr.mono (by decide)) rfl (pa_cons (pe_lc (own := [("a", 2)]) rfl sc_Bounds_any_values.nd (pi_range1 rfl B.range (pa_cons (methD0 (pv 0) M_Bounds_size (hr.mono (by decide))) pa_nil)) (blkOk_by (N := N_Bounds_any_values) (sc := defScope s_Bounds_any_values) (by decide +kernel)) (fun _ _ _ _ _ => (pg_name (i := 2) sc_Bounds_any_values.nd rfl (Or.inl rfl))) (fun _ _ _ _ _ => pts_nil) (fun _ _ _ _ _ => (pe_dget (hu_of hr) (pv 1) (pv 2) (fun _ _ => rfl)))) pa_nil))))), ?_⟩
    obtain ⟨dx, ma, ho, hm, _⟩ := ba.me
    have n7 := ba.n7
    refine ⟨_, rfl, o, dx, _, rfl, ho, rfl, _, rfl, o, dx, _, rfl, ho, rfl, o, la, row, n, L, D, rfl, ba, n, rfl, RgOk.of_le (by omega) (by omega) (by omega) (by omega), fun q hq => ?_⟩
    have sq := same_new (o := .lst (rgV 0 n)) hq
    have eq : rgV 0 (n : Int) = valsL n := by
      unfold rgV valsL
      have : ((n : Int) - 0).toNat = n := by omega
      rw [this]
      exact List.map_congr_left fun i _ => by rw [Int.zero_add]
    refine ⟨o, la, row, n, L, D, q, rfl, ba.mono sq, clo.refl, by rw [← eq]; exact upd_same, fun H2 d kvs f s2 ed good => ?_⟩
    have s12 := sq.trans s2
    have ba2 := ba.mono s12
    refine ⟨_, rfl, o, dx, _, rfl, s12 _ _ ho, rfl, o, la, row, n, L, D, rfl, ba2, n, rfl, by omega, by omega, ?_⟩
    rw [Int.toNat_natCast]
    refine lcR (n := n) (Nat.le_of_lt (small1000 (by omega))) (fun _ => true) (fun i y _ => y = .int (f i)) (fun _ _ _ _ _ q => q) (fun i H3 hi s3 Kt Kf k1 _ => ?_) fun Dl H3 ys hDl s3 eDl al => ?_
    · refine ⟨rfl, _, rfl, _, rfl, d, _, rfl, ?_, k1 _ _ rfl (Same.refl _) rfl⟩
      have := DGet.k (k := .inl (i : Int)) (s3 _ _ ed)
      rw [(good i hi).1] at this
      exact this
    · have ey : ys = intsV n f := al_map al fun _ _ e => e
      subst ey
      refine ⟨Dl, n, f, rfl, eDl, ba.n1, n7, fun H4 t s4 et => ?_⟩
      refine k H4 t _ ((s12.trans s3).trans s4) et ?_
      have sf := clo.low (f := f) (fun x hx => (good x hx).2.1) fun x y z hx hy e => (good x hx).2.2 y z hy e
      intro l hl
      have : f l.a - f l.b ≤ l.c := sf l hl
      show (f l.a - f 0) - (f l.b - f 0) ≤ l.c
      omega

/-! ### search.py: literals looked at -/
abbrev s_solves : Stmt := top 38
abbrev N_solves : List Str := ["n", "clauses", "values", "clause", "literal"]
theorem sc_solves : FnScope N_solves ["n", "clauses", "values"] (defScope s_solves) := ⟨rfl, rfl, rfl, by decide +kernel, rfl, by decide +kernel, by decide +kernel⟩
def sp_solves : Sp := fun vs H Q _ => ∃ (n : Nat) (p t : Addr) (C : List (List Lit)) (v : Val), vs = [.int n, .ref p, .ref t] ∧ Prob H n p C ∧ H t = some (.tup (intsV n v)) ∧ SatC v C ∧ ∀ H', Same H H' → Q (.bl true) H'
theorem ok_solves {f : Addr} {fd : FuncData} (F : Fun K "solves" "solves" s_solves f fd) (B : Bt mg) (D_check_clauses : Def P w K mg base 3 "check_clauses" ["n", "clauses"] sp_check_clauses) (D_satisfies : Def P w K mg base 1 "satisfies" ["values", "literals"] sp_satisfies) :
    FnOk P w K mg base CX0 4 f fd ["n", "clauses", "values"] sp_solves := by
  refine F.ok sc_solves (fun vs H Q E h => ?_) (fun cdv A outer s H vs Q E hr h => ?_)
  · obtain ⟨n, p, t, C, v, rfl, _⟩ := h
    rfl
  · obtain ⟨n, p, t, C, v, rfl, pr, ht, sat, k⟩ := h
    refine ⟨_, (pss_cons (ps_expr (callD D_check_clauses (hr.mono (by decide)) rfl (pa_cons (pv 0) (pa_cons (pv 1) pa_nil))))
      (pss_one (ps_ret (pe_callB (cAll K) (by rfl) B.all (by decide +kernel) (pa_cons (pe_lc (own := [("clause", 3)]) rfl sc_solves.nd (piL K (pv 1)) (blkOk_by (N := N_solves) (sc := defScope s_solves) (by decide +kernel)) (fun _ _ _ _ _ => (pg_name (i := 3) sc_solves.nd rfl (Or.inl rfl))) (fun _ _ _ _ _ => pts_nil) (fun _ _ _ _ _ => (pe_callB (cAny K) (by rfl) B.any (by decide +kernel) (pa_cons (pe_lc (own := [("literal", 4)]) rfl sc_solves.nd (piT K (pv 3)) (blkOk_by (N := N_solves) (sc := relS { kind := .function, names := [(".0", .local), ("clause", .local), ("any", .globalImplicit), ("values", .free)], isGenerator := false, isCoroutine := false } (defScope s_solves)) (by decide +kernel)) (fun _ _ _ _ _ => (pg_name (i := 4) sc_solves.nd rfl (Or.inl rfl))) (fun _ _ _ _ _ => pts_nil) (fun _ _ _ _ _ => (callD D_satisfies (hr.mono (by decide)) rfl (pa_cons (pv 2) (pa_cons (pe_lst (pa_cons (pv 4) pa_nil)) pa_nil))))) pa_nil)))) pa_nil))))), ?_⟩
    refine ⟨_, rfl, _, rfl, n, p, C, rfl, pr, ?_⟩
    obtain ⟨xs, hp, al⟩ := pr.at_
    have few := pr.few
    have lal := al.len
    refine ⟨_, rfl, p, rfl, ⟨_, SqL.of hp⟩, ?_⟩
    refine lcL (K := K) (SqL.of hp) (by rw [lal]; exact Nat.le_of_lt (small1000 (by omega))) (fun _ => true) (fun i u H' => u = V.bl true) (fun _ _ _ _ _ q => q) (fun i u H1 hi s1 Kt Kf k1 _ => ?_) fun Dl H1 ys hD s1 eD q => ?_
    · obtain ⟨cl, hcl, cs, ⟨tc, rfl, htc⟩, alc⟩ := al.at_ i u hi
      have mem := List.mem_of_getElem? hcl
      have short := pr.short cl mem
      have lac := alc.len
      refine ⟨rfl, _, rfl, tc, rfl, ⟨_, SqT.of (s1 _ _ htc)⟩, ?_⟩
      refine lcT (K := K) (SqT.of (s1 _ _ htc)) (Nat.le_of_lt (small1000 (by omega))) (fun _ => true) (fun j u H' => ∃ l, cl[j]? = some l ∧ u = V.bl (satB v [l])) (fun _ _ _ _ _ q => q) (fun j u H2 hj s2 Kt2 Kf2 k2 _ => ?_) fun D2 H2 zs hD2 s2 eD2 q => ?_
      · obtain ⟨l, hl, hlv⟩ := alc.at_ j u hj
        have s12 := s1.trans s2
        refine ⟨rfl, _, rfl, _, rfl, by show 1 ≤ sizeLine; decide, fun q hq => ?_⟩
        have sq := same_new (o := .lst [u]) hq
        have s3 := s12.trans sq
        exact ⟨n, t, q, v, [u], [l], rfl, s3 _ _ ht, upd_same, Al.one (hlv.mono (Same.tups s3)), fun m hm => by rw [List.mem_singleton.mp hm]; exact pr.ok cl mem l (List.mem_of_getElem? hl), by show 1 ≤ 1000; decide, fun H4 s4 => k2 _ _ rfl (sq.trans s4) ⟨l, hl, rfl⟩⟩
      · have ez : zs = (cl.map fun l => satB v [l]).map V.bl := by
          rw [List.map_map]
          exact al_list lac q fun _ _ z => z
        subst ez
        refine ⟨D2, _, rfl, SqL.of eD2, ?_⟩
        obtain ⟨l, hl, ok⟩ := sat cl mem
        have ea : (cl.map fun l => satB v [l]).any id = true := by
          rw [List.any_map, List.any_eq_true]
          refine ⟨l, hl, ?_⟩
          show ([l].all fun l => decide (v l.a - v l.b ≤ l.c)) = true
          rw [List.all_cons, List.all_nil, Bool.and_true]
          exact decide_eq_true ok
        rw [ea]
        exact k1 _ _ rfl s2 rfl
    · have ey := trues q
      subst ey
      refine ⟨Dl, _, rfl, SqL.of eD, ?_⟩
      rw [all_trues]
      exact k H1 s1
/-- is a literal refuted, implied -/
def refB (D : Mat) (l : Lit) : Bool := match D l.b l.a with
  | none => false
  | some z => decide (z + l.c < 0)
def impB (D : Mat) (l : Lit) : Bool := match D l.a l.b with
  | none => false
  | some z => decide (z ≤ l.c)
abbrev s_is_refuted : Stmt := top 39
abbrev N_is_refuted : List Str := ["bounds", "literal", "a", "b", "c", "back"]
theorem sc_is_refuted : FnScope N_is_refuted ["bounds", "literal"] (defScope s_is_refuted) := ⟨rfl, rfl, rfl, by decide +kernel, rfl, by decide +kernel, by decide +kernel⟩
def sp_is_refuted (CB : Addr) : Sp := fun vs H Q _ => ∃ (o la : Addr) (row : Nat → Addr) (n : Nat) (L : List Lit) (D : Mat) (v : V) (l : Lit), vs = [.ref o, v] ∧ BAt CB H o la row n L D ∧ LitAt H v l ∧ l.a < n ∧ l.b < n ∧ Q (.bl (refB D l)) H
theorem ok_is_refuted {f : Addr} {fd : FuncData} {CB : Addr} (F : Fun K "is_refuted" "is_refuted" s_is_refuted f fd) (M_Bounds_bound : MDef P w K mg base 1 CB "bound" ["self", "a", "b"] (sp_bound CB)) : FnOk P w K mg base CX0 2 f fd ["bounds", "literal"] (sp_is_refuted CB) := by
  refine F.ok sc_is_refuted (fun vs H Q E h => ?_) (fun cdv A outer s H vs Q E hr h => ?_)
  · obtain ⟨o, la, row, n, L, D, v, l, rfl, _⟩ := h
    rfl
  · obtain ⟨o, la, row, n, L, D, v, l, rfl, ba, ⟨t, rfl, ht⟩, ha, hb, k⟩ := h
    refine ⟨_, (pss_cons (ps_asg (pv 1) (pgT K 3 (pgs_cons (pg_name (i := 2) sc_is_refuted.nd rfl (Or.inl rfl)) (pgs_cons (pg_name (i := 3) sc_is_refuted.nd rfl (Or.inl rfl)) (pgs_cons (pg_name (i := 4) sc_is_refuted.nd rfl (Or.inl rfl)) pgs_nil)))))
      (pss_cons (ps_set (i := 5) sc_is_refuted.nd rfl (Or.inl rfl) (methD (pv 0) M_Bounds_bound (hr.mono (by decide)) (pa_cons (pv 3) (pa_cons (pv 2) pa_nil))))
      (pss_one (ps_ret (pe_and (pe_cmpR op_notN (pv 5) pe_non (nomark _)) (pe_one (pe_cmpR op_lt (pe_op op_add (pv 5) (pv 4)) pe_int (nomark _)))))))), ?_⟩
    obtain ⟨dx, ma, ho, hm, _⟩ := ba.me
    refine ⟨_, rfl, t, _, rfl, SqT.of ht, rfl, _, _, rfl, _, _, rfl, _, _, rfl, rfl, ?_⟩
    refine ⟨_, rfl, o, dx, _, rfl, ho, rfl, _, rfl, _, rfl, o, la, row, n, L, D, l.b, l.a, rfl, ba, hb, ha, ?_⟩
    refine ⟨_, rfl, rfl, (D l.b l.a).isSome, by rw [oi_some], ?_⟩
    unfold refB at k
    cases e : D l.b l.a with
    | none =>
      rw [e] at k
      exact k
    | some z =>
      rw [e] at k
      exact ⟨_, rfl, _, rfl, _, _, rfl, rfl, _, _, rfl, rfl, k⟩
abbrev s_is_implied : Stmt := top 40
abbrev N_is_implied : List Str := ["bounds", "literal", "a", "b", "c", "bound"]
theorem sc_is_implied : FnScope N_is_implied ["bounds", "literal"] (defScope s_is_implied) := ⟨rfl, rfl, rfl, by decide +kernel, rfl, by decide +kernel, by decide +kernel⟩
def sp_is_implied (CB : Addr) : Sp := fun vs H Q _ => ∃ (o la : Addr) (row : Nat → Addr) (n : Nat) (L : List Lit) (D : Mat) (v : V) (l : Lit), vs = [.ref o, v] ∧ BAt CB H o la row n L D ∧ LitAt H v l ∧ l.a < n ∧ l.b < n ∧ Q (.bl (impB D l)) H
theorem ok_is_implied {f : Addr} {fd : FuncData} {CB : Addr} (F : Fun K "is_implied" "is_implied" s_is_implied f fd) (M_Bounds_bound : MDef P w K mg base 1 CB "bound" ["self", "a", "b"] (sp_bound CB)) : FnOk P w K mg base CX0 2 f fd ["bounds", "literal"] (sp_is_implied CB) := by
  refine F.ok sc_is_implied (fun vs H Q E h => ?_) (fun cdv A outer s H vs Q E hr h => ?_)
  · obtain ⟨o, la, row, n, L, D, v, l, rfl, _⟩ := h
    rfl
  · obtain ⟨o, la, row, n, L, D, v, l, rfl, ba, ⟨t, rfl, ht⟩, ha, hb, k⟩ := h
    refine ⟨_, (pss_cons (ps_asg (pv 1) (pgT K 3 (pgs_cons (pg_name (i := 2) sc_is_implied.nd rfl (Or.inl rfl)) (pgs_cons (pg_name (i := 3) sc_is_implied.nd rfl (Or.inl rfl)) (pgs_cons (pg_name (i := 4) sc_is_implied.nd rfl (Or.inl rfl)) pgs_nil)))))
      (pss_cons (ps_set (i := 5) sc_is_implied.nd rfl (Or.inl rfl) (methD (pv 0) M_Bounds_bound (hr.mono (by decide)) (pa_cons (pv 2) (pa_cons (pv 3) pa_nil))))
      (pss_one (ps_ret (pe_and (pe_cmpR op_notN (pv 5) pe_non (nomark _)) (pe_one (pe_cmpR op_le (pv 5) (pv 4) (nomark _)))))))), ?_⟩
    obtain ⟨dx, ma, ho, hm, _⟩ := ba.me
    refine ⟨_, rfl, t, _, rfl, SqT.of ht, rfl, _, _, rfl, _, _, rfl, _, _, rfl, rfl, ?_⟩
    refine ⟨_, rfl, o, dx, _, rfl, ho, rfl, _, rfl, _, rfl, o, la, row, n, L, D, l.a, l.b, rfl, ba, ha, hb, ?_⟩
    refine ⟨_, rfl, rfl, (D l.a l.b).isSome, by rw [oi_some], ?_⟩
    unfold impB at k
    cases e : D l.a l.b with
    | none =>
      rw [e] at k
      exact k
    | some z =>
      rw [e] at k
      exact ⟨_, rfl, _, rfl, _, _, rfl, rfl, k⟩
abbrev s_keep : Stmt := top 41
abbrev N_keep : List Str := ["bounds", "literal", "a", "b", "c"]
theorem sc_keep : FnScope N_keep ["bounds", "literal"] (defScope s_keep) := ⟨rfl, rfl, rfl, by decide +kernel, rfl, by decide +kernel, by decide +kernel⟩
def sp_keep (CB : Addr) : Sp := fun vs H Q _ => ∃ (o la : Addr) (row : Nat → Addr) (n : Nat) (L : List Lit) (D : Mat) (v : V) (l : Lit), vs = [.ref o, v] ∧ BAt CB H o la row n L D ∧ Clo n L D ∧ LitAt H v l ∧ l.a < n ∧ l.b < n ∧ L.length ≤ 900 ∧ (refB D l = true → Q (.bl false) H) ∧
  (refB D l = false → ∀ (H' : Hp) (D' : Mat), Out la row n H H' → BAt CB H' o la row n (L ++ [l]) D' → Clo n (L ++ [l]) D' → Q (.bl true) H')
theorem ok_keep {f : Addr} {fd : FuncData} {CB : Addr} (F : Fun K "keep" "keep" s_keep f fd) (M_Bounds_add : MDef P w K mg base 3 CB "add" ["self", "a", "b", "c"] (sp_add CB)) : FnOk P w K mg base CX0 4 f fd ["bounds", "literal"] (sp_keep CB) := by
  refine F.ok sc_keep (fun vs H Q E h => ?_) (fun cdv A outer s H vs Q E hr h => ?_)
  · obtain ⟨o, la, row, n, L, D, v, l, rfl, _⟩ := h
    rfl
  · obtain ⟨o, la, row, n, L, D, v, l, rfl, ba, clo, ⟨t, rfl, ht⟩, ha, hb, ll, k0, k⟩ := h
    refine ⟨_, (pss_cons (ps_asg (pv 1) (pgT K 3 (pgs_cons (pg_name (i := 2) sc_keep.nd rfl (Or.inl rfl)) (pgs_cons (pg_name (i := 3) sc_keep.nd rfl (Or.inl rfl)) (pgs_cons (pg_name (i := 4) sc_keep.nd rfl (Or.inl rfl)) pgs_nil)))))
      (pss_one (ps_ret (methD (pv 0) M_Bounds_add (hr.mono (by decide)) (pa_cons (pv 2) (pa_cons (pv 3) (pa_cons (pv 4) pa_nil))))))), ?_⟩
    obtain ⟨dx, ma, ho, hm, _⟩ := ba.me
    refine ⟨_, rfl, t, _, rfl, SqT.of ht, rfl, _, _, rfl, _, _, rfl, _, _, rfl, rfl, ?_⟩
    refine ⟨_, rfl, o, dx, _, rfl, ho, rfl, _, rfl, _, rfl, _, rfl, o, la, row, n, L, D, l.a, l.b, l.c, rfl, ba, clo, ha, hb, ll, fun z e h => k0 ?_, fun h H' D' out b2 c2 => k ?_ H' D' out b2 c2⟩
    · unfold refB
      rw [e]
      exact decide_eq_true h
    · unfold refB
      cases e : D l.b l.a with
      | none => rfl
      | some z =>
        have := h z e
        exact decide_eq_false (by omega)
end
end D7
/-! D7, walk 11: search.py, sift, refuted, cases -/
namespace D7
open PySem L2

def impA (D : Mat) (cl : List Lit) : Bool := cl.any (impB D)
def leftOf (D : Mat) (cl : List Lit) : List Nat := (List.range cl.length).filter fun i => (cl[i]?).any fun l => !refB D l
def natsV (ns : List Nat) : List V := ns.map fun (i : Nat) => V.int (i : Int)
theorem natsV_len {ns : List Nat} : (natsV ns).length = ns.length := by unfold natsV; rw [List.length_map]
theorem natsV_back {ns : List Nat} {i : Nat} {x : V} (h : (natsV ns)[i]? = some x) : ∃ k : Nat, ns[i]? = some k ∧ x = .int k := by
  unfold natsV at h
  rw [List.getElem?_map] at h
  cases e : ns[i]? with
  | none =>
    rw [e] at h
    cases h
  | some k =>
    rw [e] at h
    exact ⟨k, rfl, (Option.some.inj h).symm⟩
theorem natsV_at {ns : List Nat} {i k : Nat} (h : ns[i]? = some k) : (natsV ns)[i]? = some (.int k) := by
  unfold natsV
  rw [List.getElem?_map, h]
  rfl
theorem natsV_snoc {ns : List Nat} {k : Nat} : natsV ns ++ [V.int (k : Int)] = natsV (ns ++ [k]) := by
  unfold natsV
  rw [List.map_append]
  rfl
theorem takeF {α : Type} {f : α → Bool} {ws : List α} {i : Nat} {k : α} (h : ws[i]? = some k) : (ws.take (i + 1)).filter f = (ws.take i).filter f ++ if f k = true then [k] else [] := by
  rw [List.take_succ, h, List.filter_append]
  show _ ++ List.filter f [k] = _
  rw [List.filter_cons]
  rfl
theorem But.er {S : Addr} {H H' : Hp} (b : But S H H') : Same (D7.er S H) (D7.er S H') := fun c u e => let ⟨n, h⟩ := er_of e; er_mk n (b.1 c u n h)
theorem er_new {a : Addr} {H H' : Hp} (s : Same H H') (h : H a = none) : Same H (er a H') := fun c u e => er_mk (ne_of_none e h) (s c u e)
theorem er_tups {a : Addr} {H : Hp} {o : HO} (h : H a = some o) (no : ∀ xs, o ≠ .tup xs) : Tups H (er a H) := fun c xs e => er_mk (fun q => by subst q; rw [h] at e; exact no xs (Option.some.inj e)) e
theorem er_upd {a : Addr} {H : Hp} {o : HO} : Same (er a H) (er a (upd H a o)) := fun c u e => let ⟨n, h⟩ := er_of e; er_mk n (by rw [upd_ne n]; exact h)
theorem er_upd2 {a S : Addr} {H : Hp} {o : HO} : Same (er a (er S H)) (er a (er S (upd H a o))) := fun c u e => by
  obtain ⟨n, h⟩ := er_of e
  obtain ⟨m, h⟩ := er_of h
  exact er_mk n (er_mk m (by rw [upd_ne n]; exact h))
/-- the Search -/
structure SB (CS : Addr) (H : Hp) (x S : Addr) (n : Nat) (p d : Addr) (C : List (List Lit)) : Prop where
  me : ∃ dx, H x = some (.ins CS dx [("n", .int n), ("clauses", .ref p), ("only", .ref d), ("places", .ref S)])
  pr : Prob (er S H) n p C
  only : OnlyAt (er S H) d C
  st : ∃ xs, H S = some (.lst xs)
section
variable {CS : Addr} {H H' : Hp} {x S : Addr} {n : Nat} {p d : Addr} {C : List (List Lit)}
theorem SB.mono (h : SB CS H x S n p d C) (b : But S H H') : SB CS H' x S n p d C := by
  obtain ⟨⟨dx, h1⟩, h2, h3, xs, h4⟩ := h
  exact ⟨⟨dx, b.1 _ _ (ne_of h1 h4 fun e => by cases e) h1⟩, h2.mono b.er, h3.mono b.er, b.2.2⟩
theorem SB.same (h : SB CS H x S n p d C) (s : Same H H') : SB CS H' x S n p d C := let ⟨_, e⟩ := h.st; h.mono (But.of s e)
theorem SB.prob (h : SB CS H x S n p d C) : Prob H n p C := h.pr.mono er_le
theorem SB.onl (h : SB CS H x S n p d C) : OnlyAt H d C := h.only.mono er_le
theorem SB.tups (h : SB CS H x S n p d C) : Tups H (er S H) := let ⟨_, e⟩ := h.st; er_tups e fun _ e => by cases e
/-- a new thing is not the list of the places -/
theorem SB.nS (h : SB CS H x S n p d C) {a : Addr} (f : H a = none) : a ≠ S := let ⟨_, e⟩ := h.st; (ne_of_none e f).symm
end
structure SC (K : PySem.W.Frag) (CS CP : Addr) : Prop where
  cs : Cls K CS
  s1 : NoAttr K CS "n"
  s2 : NoAttr K CS "clauses"
  s3 : NoAttr K CS "only"
  s4 : NoAttr K CS "places"
  cp : Cls K CP
  p1 : NoAttr K CP "bounds"
  p2 : NoAttr K CP "steps"
  p3 : NoAttr K CP "k"
  p4 : NoAttr K CP "left"
  p5 : NoAttr K CP "parts"
  p6 : NoAttr K CP "others"
  p7 : NoAttr K CP "at"
/-- a part: a paper with what it needs -/
def PrtAt (E : Hp) (v : V) (q : Paper) (nd : List Lit) : Prop := ∃ (u : V) (nl : Addr) (ys : List V), TupAt E v [u, .ref nl] ∧ PapAt E u q ∧ E nl = some (.lst ys) ∧ Al (LitAt E) ys nd
theorem PrtAt.mono {E E' : Hp} {v : V} {q : Paper} {nd : List Lit} (h : PrtAt E v q nd) (s : Same E E') : PrtAt E' v q nd := by
  obtain ⟨u, nl, ys, a, b, c, d⟩ := h
  exact ⟨u, nl, ys, a.mono (Same.tups s), b.mono (Same.tups s), s _ _ c, LitsAt.mono (Same.tups s) d⟩
abbrev Prt := Paper × List Lit
def PrtsAt (E : Hp) (kvs : List (Key × V)) (f : Nat → Option Prt) : Prop := ∀ a : Nat, (f a = none → valV kvs (.inl (a : Int)) = none) ∧ ∀ x, f a = some x → ∃ v, valV kvs (.inl (a : Int)) = some v ∧ PrtAt E v x.1 x.2
theorem PrtsAt.mono {E E' : Hp} {kvs : List (Key × V)} {f : Nat → Option Prt} (h : PrtsAt E kvs f) (s : Same E E') : PrtsAt E' kvs f := fun a => ⟨(h a).1, fun x e => let ⟨v, q, r⟩ := (h a).2 x e; ⟨v, q, r.mono s⟩⟩
/-- what a part may need, under the literals L -/
def POk (C : List (List Lit)) (d : Nat) (L : List Lit) (x : Prt) : Prop := Good C 7 d x.1 x.2 ∧ ∀ m ∈ x.2, m ∈ L ∧ [m] ∉ C
theorem sat_ref {n : Nat} {L : List Lit} {D : Mat} (h : Clo n L D) {l : Lit} (ha : l.a < n) (hb : l.b < n) (e : refB D l = true) : ∀ v, ¬ Sat v (L ++ [l]) := fun v hv => by
  unfold refB at e
  cases q : D l.b l.a with
  | none =>
    rw [q] at e
    cases e
  | some z =>
    rw [q] at e
    exact h.refuted ha hb q (of_decide_eq_true e) hv
section
variable {P : Program} {w : World} {K : PySem.W.Frag} {mg : Str → Option Value} {base : Heap}
abbrev s_Search_sift : Stmt := inClass (top 43) 1
abbrev N_Search_sift : List Str := ["self", "bounds", "waiting", "found", "best", "k", "clause", "literal", "left", "at"]
theorem sc_Search_sift : FnScope N_Search_sift ["self", "bounds", "waiting"] (defScope s_Search_sift) := ⟨rfl, rfl, rfl, by decide +kernel, rfl, by decide +kernel, by decide +kernel⟩
def BestS (H H' : Hp) (C : List (List Lit)) (D : Mat) (fs : List Nat) (bv : V) : Prop := ∃ (tb lf : Addr) (k : Nat) (cl : List Lit), bv = .ref tb ∧ H' tb = some (.tup [.int k, .ref lf]) ∧ H lf = none ∧ k ∈ fs ∧ C[k]? = some cl ∧ H' lf = some (.lst (natsV (leftOf D cl)))
def Best (H H' : Hp) (C : List (List Lit)) (D : Mat) (fs : List Nat) (bv : V) : Prop := (bv = .non ∧ fs = []) ∨ BestS H H' C D fs bv
theorem BestS.mono {H H1 H2 : Hp} {C : List (List Lit)} {D : Mat} {fs gs : List Nat} {bv : V} (h : BestS H H1 C D fs bv) (s : Same H1 H2) (sub : ∀ k ∈ fs, k ∈ gs) : BestS H H2 C D gs bv := by
  obtain ⟨tb, lf, k, cl, e1, e2, e3, e4, e5, e6⟩ := h
  exact ⟨tb, lf, k, cl, e1, s _ _ e2, e3, sub _ e4, e5, s _ _ e6⟩
theorem Best.mono {H H1 H2 : Hp} {C : List (List Lit)} {D : Mat} {fs : List Nat} {bv : V} (h : Best H H1 C D fs bv) (s : Same H1 H2) : Best H H2 C D fs bv := h.imp id fun h => h.mono s fun _ h => h
theorem best_test {K : PySem.W.Frag} {σ : L2.St} {H : Hp} {bv : V} {Q : Bool → Hp → Prop} (e : σ[4]? = some (some bv)) (h1 : bv = .non ∨ ∃ (tb lf : Addr) (y : V) (zs : List V), bv = .ref tb ∧ H tb = some (.tup [y, .ref lf]) ∧ H lf = some (.lst zs)) (h : ∀ b, (bv = .non → b = true) → Q b H) :
    tOr (tTest (tOp (fun x y H Q => y = V.non ∧ Q (V.bl (decide (x = V.non))) H) (tVar 4) (tC .non))) (tTest (tOp (rI0 fun i j => V.bl (decide (j < i))) (tCB (rLen1 K) (tCons (tOp (rIxT K) (tVar 4) (tC (.int 1))) tNil)) (tC (.int 1)))) σ H Q := by
  refine ⟨_, e, rfl, _, rfl, ?_⟩
  rcases h1 with rfl | ⟨tb, lf, y, zs, rfl, e1, e2⟩
  · rw [show decide (V.non = V.non) = true from decide_eq_true rfl]
    exact h true fun _ => rfl
  · rw [show decide (V.ref tb = V.non) = false from decide_eq_false fun e => by cases e]
    exact ⟨_, e, tb, _, _, _, rfl, rfl, SqT.of e1, rfl, lf, zs, rfl, .inl (SqL.of e2), _, _, rfl, rfl, _, rfl, h _ fun e => by cases e⟩
def sp_sift (CS CB : Addr) : Sp := fun vs H Q _ => ∃ (x S p d o la wl : Addr) (n : Nat) (C : List (List Lit)) (row : Nat → Addr) (L : List Lit) (D : Mat) (ws : List Nat), vs = [.ref x, .ref o, .ref wl] ∧ SB CS H x S n p d C ∧ BAt CB H o la row n L D ∧ H wl = some (.lst (natsV ws)) ∧ (∀ k ∈ ws, k < C.length) ∧ ws.length ≤ 900 ∧
  ∀ (H' : Hp) (t fl : Addr) (fs : List Nat) (bv : V), Same H H' → H' t = some (.tup [.ref fl, bv]) → H fl = none → H' fl = some (.lst (natsV fs)) → fs = ws.filter (fun k => !impA D (C.getD k [])) → Best H H' C D fs bv → Q (.ref t) H'
theorem ok_sift {f : Addr} {fd : FuncData} {CS CP CB : Addr} (F : Fun K "sift" "Search.sift" s_Search_sift f fd) (c : SC K CS CP) (B : Bt mg) (D_is_implied : Def P w K mg base 2 "is_implied" ["bounds", "literal"] (sp_is_implied CB))
    (D_is_refuted : Def P w K mg base 2 "is_refuted" ["bounds", "literal"] (sp_is_refuted CB)) : FnOk P w K mg base CX0 3 f fd ["self", "bounds", "waiting"] (sp_sift CS CB) := by
  refine F.ok sc_Search_sift (fun vs H Q E h => ?_) (fun cdv A outer s H vs Q E hr h => ?_)
  · obtain ⟨x, S, p, d, o, la, wl, n, C, row, L, D, ws, rfl, _⟩ := h
    rfl
  · obtain ⟨x, S, p, d, o, la, wl, n, C, row, L, D, ws, rfl, sb, ba, ew, wok, lws, k⟩ := h
    refine ⟨_, (pss_cons (ps_set (i := 3) sc_Search_sift.nd rfl (Or.inl rfl) (pe_lst pa_nil))
      (pss_cons (ps_set (i := 4) sc_Search_sift.nd rfl (Or.inl rfl) pe_non)
      (pss_cons (ps_for PassesOwn.never rfl (piL K (pv 2)) (pg_name (i := 5) sc_Search_sift.nd rfl (Or.inl rfl)) (pss_cons (ps_set (i := 6) sc_Search_sift.nd rfl (Or.inl rfl) (pe_ix (ixL K) (fld K (pv 0)) (pv 5) (fun _ _ => rfl)))
        (pss_cons (ps_if (pt_val (pe_callB (cAny K) (by rfl) B.any (by decide +kernel) (pa_cons (pe_lc (own := [("literal", 7)]) rfl sc_Search_sift.nd (piT K (pv 6)) (blkOk_by (N := N_Search_sift) (sc := defScope s_Search_sift) (by decide +kernel)) (fun _ _ _ _ _ => (pg_name (i := 7) sc_Search_sift.nd rfl (Or.inl rfl))) (fun _ _ _ _ _ => pts_nil) (fun _ _ _ _ _ => (callD D_is_implied (hr.mono (by decide)) rfl (pa_cons (pv 1) (pa_cons (pv 7) pa_nil))))) pa_nil))) (pss_one ps_continue) pss_nil)
        (pss_cons (ps_expr (pe_bm PySem.F.plainAttrs_list PySem.F.slot_list_append PySem.F.type_list_append mt_append (pv 3) (pa_cons (pv 5) pa_nil)))
        (pss_one (ps_if (PW.pt (pw_or (pt_cmpR op_isN (pv 4) pe_non (nomark _)) (pw_or1 (pt_cmpR op_gt (pe_callB (cLen K) (by rfl) B.len (by decide +kernel) (pa_cons (pe_ix (ixT K) (pv 4) pe_int (fun _ _ => rfl)) pa_nil)) pe_int (nomark _))))) (pss_cons (ps_setLc (i := 8) (own := [("at", 9), ("literal", 7)]) rfl sc_Search_sift.nd rfl rfl (sw_true rfl rfl rfl (by decide +kernel)) (piEn K rfl B.enumerate (pa_cons (pv 6) pa_nil)) (blkOk_by (N := N_Search_sift) (sc := defScope s_Search_sift) (by decide +kernel)) (fun _ _ _ _ _ => (pgT K 2 (pgs_cons (pg_name (i := 9) sc_Search_sift.nd rfl (Or.inl rfl)) (pgs_cons (pg_name (i := 7) sc_Search_sift.nd rfl (Or.inl rfl)) pgs_nil)))) (fun _ _ _ _ _ => pts_one (pt_not (pt_val (callD D_is_refuted (hr.mono (by decide)) rfl (pa_cons (pv 1) (pa_cons (pv 7) pa_nil)))))) (fun _ _ _ _ _ => (pv 9)))
          (pss_one (ps_if (PW.pt (pw_or (pt_cmpR op_isN (pv 4) pe_non (nomark _)) (pw_or1 (pt_cmpR op_lt (pe_callB (cLen K) (by rfl) B.len (by decide +kernel) (pa_cons (pv 8) pa_nil)) (pe_callB (cLen K) (by rfl) B.len (by decide +kernel) (pa_cons (pe_ix (ixT K) (pv 4) pe_int (fun _ _ => rfl)) pa_nil)) (nomark _))))) (pss_one (ps_set (i := 4) sc_Search_sift.nd rfl (Or.inl rfl) (pe_tup (pa_cons (pv 5) (pa_cons (pv 8) pa_nil))))) pss_nil))) pss_nil))))))
      (pss_one (ps_ret (pe_tup (pa_cons (pv 3) (pa_cons (pv 4) pa_nil)))))))), ?_⟩
    obtain ⟨dx, hx⟩ := sb.me
    have pr := sb.prob
    refine ⟨by show 0 ≤ sizeLine; decide, fun fl hfl => ?_⟩
    have s1 := same_new (o := .lst []) hfl
    refine ⟨_, rfl, wl, rfl, ⟨_, SqL.of (s1 _ _ ew)⟩, ?_⟩
    refine for_list (K := K) (a := wl) (xs := natsV ws) (fun i σ H' => ∃ (u5 u6 u7 u8 u9 : Option V) (bv : V), σ = [some (.ref x), some (.ref o), some (.ref wl), some (.ref fl), some bv, u5, u6, u7, u8, u9] ∧ Same H H' ∧ H' fl = some (.lst (natsV ((ws.take i).filter fun k => !impA D (C.getD k [])))) ∧ Best H (er fl H') C D ((ws.take i).filter fun k => !impA D (C.getD k [])) bv)
      ⟨none, none, none, none, none, .non, rfl, s1, upd_same, .inl ⟨rfl, rfl⟩⟩ (fun i σ H' _ q => ?_) (fun i y σ H1 hi q => ?_) fun σ H' q => ?_
    · obtain ⟨_, _, _, _, _, _, _, sm, _⟩ := q
      exact SqL.of (sm _ _ ew)
    · obtain ⟨u5, u6, u7, u8, u9, bv, rfl, sm, efl, best⟩ := q
      obtain ⟨kk, hk, rfl⟩ := natsV_back hi
      have klt := wok kk (List.mem_of_getElem? hk)
      have hcl : C[kk]? = some C[kk] := List.getElem?_eq_getElem klt
      have ecl : C.getD kk [] = C[kk] := by rw [List.getD_eq_getElem?_getD, hcl]; rfl
      generalize C[kk] = cl at hcl ecl
      obtain ⟨xl, hp, alC⟩ := (pr.mono sm).at_
      obtain ⟨vc, hvc, cs, ⟨tc, rfl, htc⟩, alcl⟩ := alC.back hcl
      have okl := pr.ok cl (List.mem_of_getElem? hcl)
      have short := pr.short cl (List.mem_of_getElem? hcl)
      have lcs := alcl.len
      refine ⟨_, rfl, x, CS, dx, _, _, rfl, sm _ _ hx, c.cs, c.s2, rfl, _, rfl, p, xl, _, _, rfl, rfl, SqL.of hp, atI_nat hvc, ?_⟩
      refine ⟨_, rfl, tc, rfl, ⟨_, SqT.of htc⟩, ?_⟩
      refine lcT (K := K) (SqT.of htc) (Nat.le_of_lt (small1000 (by omega))) (fun _ => true) (fun i u H' => ∃ l, cl[i]? = some l ∧ u = V.bl (impB D l)) (fun _ _ _ _ _ q => q) (fun i u H2 hu s2 Kt Kf k1 _ => ?_) fun Dl H2 ys hDl s2 eDl al => ?_
      · obtain ⟨l, hl, hlv⟩ := alcl.at_ i u hu
        obtain ⟨la_, lb_⟩ := okl l (List.mem_of_getElem? hl)
        exact ⟨rfl, _, rfl, _, rfl, o, la, row, n, L, D, u, l, rfl, ba.mono (sm.trans s2), hlv.mono (Same.tups s2), la_, lb_, k1 _ _ rfl (Same.refl _) ⟨l, hl, rfl⟩⟩
      · have ey : ys = (cl.map (impB D)).map V.bl := by
          rw [List.map_map]
          exact al_list lcs al fun _ _ z => z
        subst ey
        refine ⟨Dl, _, rfl, SqL.of eDl, ?_⟩
        have sm2 := sm.trans s2
        have efl2 := s2 _ _ efl
        have tf := takeF (f := fun k => !impA D (C.getD k [])) hk
        have ea : (cl.map (impB D)).any id = impA D cl := by
          rw [List.any_map]
          rfl
        rw [ea]
        rw [ecl] at tf
        cases e : impA D cl with
        | true =>
          rw [e] at tf
          refine ⟨true, rfl, ?_⟩
          have tf : (ws.take (i + 1)).filter (fun k => !impA D (C.getD k [])) = (ws.take i).filter fun k => !impA D (C.getD k []) := by rw [tf]; exact List.append_nil _
          exact ⟨_, _, _, _, _, bv, rfl, sm2, by rw [tf]; exact efl2, by rw [tf]; exact best.mono (er_same s2)⟩
        | false =>
          rw [e] at tf
          have tf : (ws.take (i + 1)).filter (fun k => !impA D (C.getD k [])) = ((ws.take i).filter fun k => !impA D (C.getD k [])) ++ [kk] := tf
          refine ⟨false, rfl, ?_⟩
          have lf0 : ((ws.take i).filter fun k => !impA D (C.getD k [])).length ≤ 900 := by
            have h1 := List.length_filter_le (fun k => !impA D (C.getD k [])) (ws.take i)
            rw [List.length_take] at h1
            omega
          refine ⟨_, rfl, .inl ⟨rfl, _, SqL.of efl2⟩, _, rfl, fl, _, _, rfl, rfl, efl2, by rw [natsV_len]; exact small1000 (by omega), ?_⟩
          rw [natsV_snoc, ← tf]
          have sub : ∀ k, k ∈ (ws.take i).filter (fun k => !impA D (C.getD k [])) → k ∈ (ws.take (i + 1)).filter (fun k => !impA D (C.getD k [])) := fun k h => by rw [tf]; exact List.mem_append_left _ h
          have kin : kk ∈ (ws.take (i + 1)).filter (fun k => !impA D (C.getD k [])) := by rw [tf]; exact List.mem_append_right _ (List.mem_singleton.mpr rfl)
          generalize (ws.take (i + 1)).filter (fun k => !impA D (C.getD k [])) = gs at sub kin ⊢
          have sm3 : Same H (upd H2 fl (.lst (natsV gs))) := Same.mut sm2 hfl
          have efl3 : (upd H2 fl (.lst (natsV gs))) fl = some (.lst (natsV gs)) := upd_same
          have tp3 : Tups H2 (upd H2 fl (.lst (natsV gs))) := Tups.lst efl2
          have best3 : bv = .non ∨ BestS H (er fl (upd H2 fl (.lst (natsV gs)))) C D gs bv := best.imp (fun h => h.1) fun h => h.mono ((er_same s2).trans er_upd) sub
          have htc3 := tp3 _ _ (s2 _ _ htc)
          have alcl3 := LitsAt.mono tp3 (LitsAt.mono (Same.tups s2) alcl)
          generalize upd H2 fl (.lst (natsV gs)) = H3 at sm3 efl3 tp3 best3 htc3 alcl3 ⊢
          refine best_test (K := K) (bv := bv) (by rfl) ?_ fun b hb => ?_
          · refine best3.imp id fun ⟨tb, lf, k', cl', e1, e2, e3, e4, e5, e6⟩ => ⟨tb, lf, _, _, e1, er_le _ _ e2, er_le _ _ e6⟩
          cases b with
          | false => exact ⟨_, _, _, _, _, bv, rfl, sm3, efl3, .inr (best3.resolve_left fun q => by cases hb q)⟩
          | true =>
            refine ⟨_, rfl, tc, true, cs, rfl, SqT.of htc3, ?_⟩
            refine lcE (K := K) (k := true) (SqT.of htc3) (Nat.le_of_lt (small1000 (by omega))) (fun i => (cl[i]?).any fun l => !refB D l) (fun i y _ => y = .int (i : Nat)) (fun _ _ _ _ _ q => q) (fun i u T H5 hu s5 hT Kt Kf k1 k2 => ?_) fun lf H5 zs hlf s5 elf al2 => ?_
            · obtain ⟨l, hl, hlv⟩ := alcl3.at_ i u hu
              obtain ⟨la_, lb_⟩ := okl l (List.mem_of_getElem? hl)
              have ke : (cl[i]?).any (fun l => !refB D l) = !refB D l := by rw [hl]; rfl
              refine ⟨T, _, rfl, SqT.of hT, rfl, _, _, rfl, _, _, rfl, rfl, rfl, ?_⟩
              refine ⟨_, rfl, _, rfl, o, la, row, n, L, D, u, l, rfl, ba.mono (sm3.trans s5), hlv.mono (Same.tups s5), la_, lb_, _, rfl, ?_⟩
              cases r : refB D l with
              | true =>
                rw [r] at ke
                exact k2 _ ke (Same.refl _)
              | false =>
                rw [r] at ke
                exact ⟨_, rfl, k1 _ _ ke (Same.refl _) rfl⟩
            · have ez : zs = natsV (leftOf D cl) := by
                have al3 : Al (fun v (x : Nat) => v = V.int x) zs (leftOf D cl) := by
                  rw [lcs] at al2
                  exact al2
                refine List.ext_getElem? fun j => ?_
                cases q : zs[j]? with
                | none =>
                  have h1 := al3.len
                  rw [List.getElem?_eq_none]
                  rw [natsV_len, ← h1]
                  exact List.getElem?_eq_none_iff.mp q
                | some v =>
                  obtain ⟨y, hy, rfl⟩ := al3.at_ j v q
                  rw [natsV_at hy]
              subst ez
              have nlf : lf ≠ fl := (ne_of_none efl3 hlf).symm
              have efl5 := s5 _ _ efl3
              have best5 : bv = .non ∨ BestS H (er fl H5) C D gs bv := best3.imp id fun h => h.mono (er_same s5) fun _ h => h
              have new : ∀ tb, H5 tb = none → BestS H (er fl (upd H5 tb (.tup [.int kk, .ref lf]))) C D gs (.ref tb) := fun tb htb =>
                ⟨tb, lf, kk, cl, rfl, er_mk (ne_of_none efl5 htb).symm upd_same, sm3.free hlf, kin, hcl, er_mk nlf (same_new htb _ _ elf)⟩
              refine ⟨_, rfl, rfl, _, rfl, ?_⟩
              rcases best5 with rfl | ⟨tb, lf', k', cl', rfl, e2, e3, e4, e5, e6⟩
              · rw [show decide (V.non = V.non) = true from decide_eq_true rfl]
                refine ⟨_, rfl, _, rfl, by show 2 ≤ sizeLine; decide, fun tb htb => ?_⟩
                have s6 := same_new (o := .tup [.int kk, .ref lf]) htb
                exact ⟨_, _, _, _, _, _, rfl, sm3.trans (s5.trans s6), s6 _ _ efl5, .inr (new tb htb)⟩
              · rw [show decide (V.ref tb = V.non) = false from decide_eq_false fun e => by cases e]
                refine ⟨_, rfl, lf, _, rfl, .inl (SqL.of elf), _, rfl, tb, _, _, _, rfl, rfl, SqT.of (er_le _ _ e2), rfl, lf', _, rfl, .inl (SqL.of (er_le _ _ e6)), _, _, rfl, rfl, _, rfl, ?_⟩
                refine ite2 (fun _ => ?_) fun _ => ?_
                · refine ⟨_, rfl, _, rfl, by show 2 ≤ sizeLine; decide, fun tb htb => ?_⟩
                  have s6 := same_new (o := .tup [.int kk, .ref lf]) htb
                  exact ⟨_, _, _, _, _, _, rfl, sm3.trans (s5.trans s6), s6 _ _ efl5, .inr (new tb htb)⟩
                · exact ⟨_, _, _, _, _, _, rfl, sm3.trans s5, efl5, .inr ⟨tb, lf', k', cl', rfl, e2, e3, e4, e5, e6⟩⟩
    · obtain ⟨u5, u6, u7, u8, u9, bv, rfl, sm, efl, best⟩ := q
      rw [natsV_len, List.take_length] at efl best
      refine ⟨_, rfl, _, rfl, by show 2 ≤ sizeLine; decide, fun t ht => ?_⟩
      have st := same_new (o := .tup [.ref fl, bv]) ht
      exact k _ t fl _ bv (sm.trans st) upd_same hfl (st _ _ efl) rfl (best.mono (er_le.trans st))
end
end D7
/-! D7, walk 12: search.py, refuted, cases -/
namespace D7
open PySem L2

theorem POk.ring {C : List (List Lit)} {d : Nat} {L : List Lit} {r : List Lit} (h : IsRing r) (hl : r.length ≤ 7) (hn : r.Nodup) (sub : ∀ m ∈ r, m ∈ L) : POk C d L (.ring r, open_ C r) := ⟨Good.ring h hl hn, fun m hm => let ⟨a, b⟩ := mem_open.mp hm; ⟨sub m a, b⟩⟩
theorem POk.mono {C : List (List Lit)} {d e : Nat} {L : List Lit} {x : Prt} (h : POk C d L x) (le : d ≤ e) : POk C e L x := ⟨⟨h.1.1, h.1.2.1.mono le, h.1.2.2⟩, h.2⟩
theorem PrtAt.of {E : Hp} {t : Addr} {u : V} {nl : Addr} {ys : List V} {q : Paper} {nd : List Lit} (h1 : E t = some (.tup [u, .ref nl])) (h2 : PapAt E u q) (h3 : E nl = some (.lst ys)) (h4 : Al (LitAt E) ys nd) : PrtAt E (.ref t) q nd := ⟨u, nl, ys, ⟨t, rfl, h1⟩, h2, h3, h4⟩
section
variable {P : Program} {w : World} {K : PySem.W.Frag} {mg : Str → Option Value} {base : Heap}
abbrev s_Search_refuted : Stmt := inClass (top 43) 2
abbrev N_Search_refuted : List Str := ["self", "literals", "k", "parts", "found", "at", "literal", "ring", "one"]
theorem sc_Search_refuted : FnScope N_Search_refuted ["self", "literals", "k", "parts"] (defScope s_Search_refuted) := ⟨rfl, rfl, rfl, by decide +kernel, rfl, by decide +kernel, by decide +kernel⟩
def sp_refuted (CS : Addr) : Sp := fun vs H Q _ => ∃ (x S p d ll pd : Addr) (n : Nat) (C : List (List Lit)) (Ls cl : List Lit) (k dd : Nat) (xs : List V) (kvs : List (Key × V)) (f : Nat → Option Prt), vs = [.ref x, .ref ll, .int k, .ref pd] ∧ SB CS H x S n p d C ∧ H ll = some (.lst xs) ∧ Al (LitAt H) xs Ls ∧ Lok n Ls ∧ Ls.length ≤ 900 ∧ C[k]? = some cl ∧
  H pd = some (.dK kvs) ∧ PrtsAt (er S H) kvs f ∧ (∀ (i : Nat) y l, f i = some y → cl[i]? = some l → POk C dd (Ls ++ [l]) y) ∧ (∀ (i : Nat) l, f i = none → cl[i]? = some l → ∀ v, ¬ Sat v (Ls ++ [l])) ∧
  ∀ (H' : Hp) (r : Addr) (zs : List V) (ps : List Prt), Same H H' → H r = none → H' r = some (.lst zs) → Al (fun v y => PrtAt (er S H') v y.1 y.2) zs ps → ps.length = cl.length → (∀ (i : Nat) y l, ps[i]? = some y → cl[i]? = some l → POk C dd (Ls ++ [l]) y) → Q (.ref r) H'
theorem ok_refuted {f : Addr} {fd : FuncData} {CS CP : Addr} (F : Fun K "refuted" "Search.refuted" s_Search_refuted f fd) (c : SC K CS CP) (B : Bt mg) (D_find_ring : Def P w K mg base 3 "find_ring" ["n", "literals"] sp_find_ring) : FnOk P w K mg base CX0 4 f fd ["self", "literals", "k", "parts"] (sp_refuted CS) := by
  refine F.ok sc_Search_refuted (fun vs H Q E h => ?_) (fun cdv A outer s H vs Q E hr h => ?_)
  · obtain ⟨x, S, p, d, ll, pd, n, C, Ls, cl, k, dd, xs, kvs, f, rfl, _⟩ := h
    rfl
  · obtain ⟨x, S, p, d, ll, pd, n, C, Ls, cl, k, dd, xs, kvs, f, rfl, sb, ell, alL, lok, lL, hcl, epd, prts, ok1, ok2, kk⟩ := h
    refine ⟨_, (pss_cons (ps_set (i := 4) sc_Search_refuted.nd rfl (Or.inl rfl) (pe_lst pa_nil))
      (pss_cons (ps_for PassesOwn.never rfl (piEn K rfl B.enumerate (pa_cons (pe_ix (ixL K) (fld K (pv 0)) (pv 2) (fun _ _ => rfl)) pa_nil)) (pgT K 2 (pgs_cons (pg_name (i := 5) sc_Search_refuted.nd rfl (Or.inl rfl)) (pgs_cons (pg_name (i := 6) sc_Search_refuted.nd rfl (Or.inl rfl)) pgs_nil))) (pss_one (ps_if (pt_cmp (pc_din (hu_of hr) (pv 5) (pv 3))) (pss_one (ps_expr (pe_bm PySem.F.plainAttrs_list PySem.F.slot_list_append PySem.F.type_list_append mt_append (pv 4) (pa_cons (pe_dget (hu_of hr) (pv 3) (pv 5) (fun _ _ => rfl)) pa_nil)))) (pss_cons (ps_set (i := 7) sc_Search_refuted.nd rfl (Or.inl rfl) (callD D_find_ring (hr.mono (by decide)) rfl (pa_cons (fld K (pv 0)) (pa_cons (pe_op op_cat (pv 1) (pe_lst (pa_cons (pv 6) pa_nil))) pa_nil))))
          (pss_one (ps_expr (pe_bm PySem.F.plainAttrs_list PySem.F.slot_list_append PySem.F.type_list_append mt_append (pv 4) (pa_cons (pe_tup (pa_cons (pe_tup (pa_cons pe_str (pa_cons (pv 7) pa_nil))) (pa_cons (pe_lc (own := [("one", 8)]) rfl sc_Search_refuted.nd (piT K (pv 7)) (blkOk_by (N := N_Search_refuted) (sc := defScope s_Search_refuted) (by decide +kernel)) (fun _ _ _ _ _ => (pg_name (i := 8) sc_Search_refuted.nd rfl (Or.inl rfl))) (fun _ _ _ _ _ => pts_one (pt_cmp (pc_dnotin (hu_of hr) (pv 8) (fld K (pv 0))))) (fun _ _ _ _ _ => (pv 8))) pa_nil))) pa_nil))))))))
      (pss_one (ps_ret (pv 4))))), ?_⟩
    obtain ⟨dx, hx⟩ := sb.me
    have pr := sb.prob
    have n7 := pr.n7
    have n1 := pr.n1
    have okl := pr.ok cl (List.mem_of_getElem? hcl)
    have short := pr.short cl (List.mem_of_getElem? hcl)
    refine ⟨by show 0 ≤ sizeLine; decide, fun fl hfl => ?_⟩
    have s1 := same_new (o := .lst []) hfl
    obtain ⟨xl, hp, alC⟩ := pr.at_
    obtain ⟨vc, hvc, cs, ⟨tc, rfl, htc⟩, alcl⟩ := alC.back hcl
    have lcs := alcl.len
    have lxs := alL.len
    have flS := sb.nS hfl
    refine ⟨_, rfl, x, CS, dx, _, _, rfl, s1 _ _ hx, c.cs, c.s2, rfl, _, rfl, p, xl, _, _, rfl, rfl, SqL.of (s1 _ _ hp), atI_nat hvc, tc, true, cs, rfl, SqT.of (s1 _ _ htc), ?_⟩
    refine forIt cs.length (fun i σ H' => ∃ (u5 u6 u7 u8 : Option V) (zs : List V) (ps : List Prt), σ = [some (.ref x), some (.ref ll), some (.int k), some (.ref pd), some (.ref fl), u5, u6, u7, u8] ∧ Same H H' ∧ H' fl = some (.lst zs) ∧ Al (fun v y => PrtAt (er fl (er S H')) v y.1 y.2) zs ps ∧ ps.length = i ∧ ∀ (i : Nat) y l, ps[i]? = some y → cl[i]? = some l → POk C dd (Ls ++ [l]) y)
      ⟨none, none, none, none, [], [], rfl, s1, upd_same, Al.nil, rfl, fun i y l h => by simp at h⟩ (fun i σ H' hi q => ?_) (fun σ H' q => ?_) (fun i σ H1 y H2 hi q yl => ?_) fun σ H' q => ?_
    · obtain ⟨_, _, _, _, _, _, _, sm, _⟩ := q
      exact ⟨cs, cs[i], SqT.of (sm _ _ htc), List.getElem?_eq_getElem hi⟩
    · obtain ⟨_, _, _, _, _, _, _, sm, _⟩ := q
      exact ⟨cs, SqT.of (sm _ _ htc), rfl⟩
    · obtain ⟨u5, u6, u7, u8, zs, ps, rfl, sm, efl, al, lps, oks⟩ := q
      obtain ⟨T, lv, rfl, hT, rfl, y2⟩ := yl
      have hlv := y2 cs (SqT.of (sm _ _ htc))
      obtain ⟨l, hl, hlit⟩ := alcl.at_ i lv hlv
      have s2 := same_new (o := .tup [.int (i : Nat), lv]) hT
      have eT : (upd H1 T (.tup [.int (i : Nat), lv])) T = some (.tup [.int (i : Nat), lv]) := upd_same
      have sm2 := sm.trans s2
      have efl2 := s2 _ _ efl
      have al2 : Al (fun v y => PrtAt (er fl (er S (upd H1 T (.tup [.int (i : Nat), lv])))) v y.1 y.2) zs ps := al.mono fun v y h => PrtAt.mono h (er_same (er_same s2))
      generalize upd H1 T (.tup [.int (i : Nat), lv]) = H3 at sm2 efl2 eT al2 ⊢
      clear s2 sm efl al
      have lzs := al2.len
      refine ⟨T, _, rfl, SqT.of eT, rfl, _, _, rfl, _, _, rfl, rfl, ?_⟩
      have app : ∀ {y : Prt} {v : V} {H4 : Hp}, Same H3 H4 → PrtAt (er fl (er S H4)) v y.1 y.2 → POk C dd (Ls ++ [l]) y → Al (fun w y => PrtAt (er fl (er S (upd H4 fl (.lst (zs ++ [v]))))) w y.1 y.2) (zs ++ [v]) (ps ++ [y]) ∧ (ps ++ [y]).length = i + 1 ∧ ∀ (i : Nat) z m, (ps ++ [y])[i]? = some z → cl[i]? = some m → POk C dd (Ls ++ [m]) z := fun {y v H4} s34 h1 h2 => by
        refine ⟨(al2.mono fun v y h => (PrtAt.mono h (er_same (er_same s34))).mono er_upd2).snoc (h1.mono er_upd2), by rw [List.length_append, List.length_singleton, lps], fun j z m hz hm => ?_⟩
        rcases Nat.lt_or_ge j ps.length with q | q
        · rw [List.getElem?_append_left q] at hz
          exact oks j z m hz hm
        · rw [List.getElem?_append_right q] at hz
          have j0 : j - ps.length = 0 := by
            rcases Nat.eq_zero_or_pos (j - ps.length) with z' | z'
            · exact z'
            · rw [List.getElem?_eq_none (by rw [List.length_singleton]; omega)] at hz
              cases hz
          have ej : j = i := by omega
          subst ej
          rw [hl] at hm
          cases hm
          rw [j0] at hz
          cases hz
          exact h2
      have epd3 := sm2 _ _ epd
      have g : DGet H3 pd (.int (i : Nat)) (valV kvs (.inl (i : Int))) := DGet.k (k := .inl (i : Int)) epd3
      refine ⟨_, rfl, _, rfl, pd, _, rfl, g, _, rfl, ?_⟩
      cases hf : f i with
      | some y =>
        obtain ⟨v, hv, hprt⟩ := (prts i).2 y hf
        rw [hv] at g ⊢
        refine ⟨_, rfl, .inl ⟨rfl, _, SqL.of efl2⟩, _, rfl, _, rfl, pd, v, rfl, g, fl, zs, v, rfl, rfl, efl2, small1000 (by omega), ?_⟩
        obtain ⟨a1, a2, a3⟩ := app (y := y) (v := v) (Same.refl H3) (hprt.mono (er_new (er_same sm2) (by rw [er_ne flS]; exact hfl))) (ok1 i y l hf hl)
        exact ⟨_, _, _, _, zs ++ [v], ps ++ [y], rfl, Same.mut sm2 hfl, upd_same, a1, a2, a3⟩
      | none =>
        rw [(prts i).1 hf]
        have ell3 := sm2 _ _ ell
        refine ⟨_, rfl, x, CS, dx, _, _, rfl, sm2 _ _ hx, c.cs, c.s1, rfl, _, rfl, _, rfl, by show 1 ≤ sizeLine; decide, fun q0 hq0 => ⟨ll, q0, xs, [lv], rfl, rfl, same_new hq0 _ _ ell3, upd_same, ?_, fun q1 hq1 => ?_⟩⟩
        · have := small1000 (n := xs.length + 1) (by omega)
          simp only [List.length_singleton]
          omega
        · have sq := (same_new (o := .lst [lv]) hq0).trans (same_new (o := .lst (xs ++ [lv])) hq1)
          have sm4 := sm2.trans sq
          refine ⟨n, q1, xs ++ [lv], Ls ++ [l], rfl, n1, by omega, upd_same, (LitsAt.mono (Same.tups sm4) alL).snoc (hlit.mono (Same.tups sm4)), fun m hm => ?_, fun H5 v s5 sat => (ok2 i l hf hl v sat).elim, fun H5 u r s5 row isr sub nod len => ?_⟩
          · rcases List.mem_append.mp hm with a | a
            · exact lok m a
            · rw [List.mem_singleton.mp a]
              exact okl l (List.mem_of_getElem? hl)
          have s35 := sq.trans s5
          clear sm4 sq s5
          have sm5 := sm2.trans s35
          have efl5 := s35 _ _ efl2
          have sb5 := sb.same sm5
          obtain ⟨rs, ⟨tr, rfl, htr⟩, alr⟩ := row
          have lrs := alr.len
          refine ⟨_, rfl, .inl ⟨rfl, _, SqL.of efl5⟩, _, rfl, by show 2 ≤ sizeLine; decide, fun T1 hT1 => ?_⟩
          have s6 := same_new (o := .tup [.str "ring", .ref tr]) hT1
          have e1 : (upd H5 T1 (.tup [.str "ring", .ref tr])) T1 = some (.tup [.str "ring", .ref tr]) := upd_same
          generalize upd H5 T1 (.tup [.str "ring", .ref tr]) = H6 at s6 e1 ⊢
          have htr6 := s6 _ _ htr
          refine ⟨_, rfl, tr, rfl, ⟨_, SqT.of htr6⟩, ?_⟩
          have on6 := (sb5.same s6).onl
          have sm6 := sm5.trans s6
          refine lcT (K := K) (SqT.of htr6) (Nat.le_of_lt (small1000 (by omega))) (fun i => (r[i]?).any fun l => !decide ([l] ∈ C)) (fun i u H' => ∃ l, r[i]? = some l ∧ LitAt H' u l) (fun _ _ _ _ t q => let ⟨l, a, b⟩ := q; ⟨l, a, b.mono t⟩) (fun i u H7 hi s7 Kt Kf k1 k2 => ?_) fun L H7 ys hL s7 eL z => ?_
          · obtain ⟨m, hm, tl, rfl, htl⟩ := alr.at_ i u hi
            have htl7 := s7 _ _ (s6 _ _ htl)
            obtain ⟨o, hd, eo⟩ := (on6.mono s7).has htl7
            have ke : (r[i]?).any (fun l => !decide ([l] ∈ C)) = !o.isSome := by rw [hm, eo]; rfl
            refine ⟨rfl, _, rfl, _, rfl, x, CS, dx, _, _, rfl, s7 _ _ (sm6 _ _ hx), c.cs, c.s3, rfl, d, o, rfl, hd, _, rfl, ?_⟩
            cases o with
            | none => exact ⟨_, rfl, k1 _ _ ke (Same.refl _) ⟨m, hm, tl, rfl, htl7⟩⟩
            | some o => exact k2 _ ke (Same.refl _)
          · refine ⟨by show 2 ≤ sizeLine; decide, fun T2 hT2 => ?_⟩
            have s8 := same_new (o := .tup [.ref T1, .ref L]) hT2
            have s78 := s7.trans s8
            have efl6 := s6 _ _ efl5
            have efl8 := s78 _ _ efl6
            have sb8 := sb5.same (s6.trans s78)
            have nLfl : L ≠ fl := (ne_of_none efl6 hL).symm
            have nLS : L ≠ S := (sb5.same s6).nS hL
            have tpE : Tups (upd H7 T2 (.tup [.ref T1, .ref L])) (er fl (er S (upd H7 T2 (.tup [.ref T1, .ref L])))) := sb8.tups.trans (er_tups (er_mk flS efl8) fun _ e => by cases e)
            refine ⟨fl, zs, .ref T2, rfl, rfl, efl8, small1000 (by omega), ?_⟩
            have hprt : PrtAt (er fl (er S (upd H7 T2 (.tup [.ref T1, .ref L])))) (.ref T2) (.ring r) (open_ C r) := by
              rw [lrs] at z
              refine PrtAt.of (tpE _ _ upd_same) (.ring ⟨T1, rfl, tpE _ _ (s78 _ _ e1)⟩ ⟨rs, ⟨tr, rfl, tpE _ _ (s78 _ _ htr6)⟩, LitsAt.mono tpE (LitsAt.mono (Same.tups (s6.trans s78)) alr)⟩) (er_mk nLfl (er_mk nLS (s8 _ _ eL))) (LitsAt.mono tpE (LitsAt.mono (Same.tups s8) (al_filter z)))
            obtain ⟨a1, a2, a3⟩ := app (y := (.ring r, open_ C r)) (v := .ref T2) (s35.trans (s6.trans s78)) hprt (POk.ring isr (by omega) nod sub)
            exact ⟨_, _, _, _, zs ++ [.ref T2], ps ++ [(.ring r, open_ C r)], rfl, Same.mut (sm5.trans (s6.trans s78)) hfl, upd_same, a1, a2, a3⟩
    · obtain ⟨u5, u6, u7, u8, zs, ps, rfl, sm, efl, al, lps, oks⟩ := q
      exact ⟨_, rfl, kk H' fl zs ps sm hfl efl (al.mono fun v y h => PrtAt.mono h er_le) (by omega) oks⟩

abbrev s_Search_cases : Stmt := inClass (top 43) 3
abbrev N_Search_cases : List Str := ["self", "k", "parts", "needed", "literal", "part", "one"]
theorem sc_Search_cases : FnScope N_Search_cases ["self", "k", "parts"] (defScope s_Search_cases) := ⟨rfl, rfl, rfl, by decide +kernel, rfl, by decide +kernel, by decide +kernel⟩
def sp_cases (CS : Addr) : Sp := fun vs H Q _ => ∃ (x S p d r : Addr) (n : Nat) (C : List (List Lit)) (Ls cl : List Lit) (k dd : Nat) (zs : List V) (ps : List Prt), vs = [.ref x, .int k, .ref r] ∧ SB CS H x S n p d C ∧ C[k]? = some cl ∧ H r = some (.lst zs) ∧ Al (fun v y => PrtAt (er S H) v y.1 y.2) zs ps ∧ ps.length = cl.length ∧ Ls.length ≤ 900 ∧
  (∀ (i : Nat) y l, ps[i]? = some y → cl[i]? = some l → POk C dd (Ls ++ [l]) y) ∧ ∀ (H' : Hp) (v : V) (y : Prt), Same H H' → PrtAt (er S H') v y.1 y.2 → POk C (dd + 1) Ls y → Q v H'
theorem ok_cases {f : Addr} {fd : FuncData} {CS CP : Addr} (F : Fun K "cases" "Search.cases" s_Search_cases f fd) (c : SC K CS CP) (B : Bt mg) : FnOk P w K mg base CX0 1 f fd ["self", "k", "parts"] (sp_cases CS) := by
  refine F.ok sc_Search_cases (fun vs H Q E h => ?_) (fun cdv A outer s H vs Q E hr h => ?_)
  · obtain ⟨x, S, p, d, r, n, C, Ls, cl, k, dd, zs, ps, rfl, _⟩ := h
    rfl
  · obtain ⟨x, S, p, d, r, n, C, Ls, cl, k, dd, zs, ps, rfl, sb, hcl, er_, alp, lps, lL, oks, kk⟩ := h
    refine ⟨_, (pss_cons (ps_set (i := 3) sc_Search_cases.nd rfl (Or.inr rfl) (pe_lst pa_nil))
      (pss_cons (ps_for PassesOwn.never rfl (piZ K rfl B.zip (pa_cons (pe_ix (ixL K) (fld K (pv 0)) (pv 1) (fun _ _ => rfl)) (pa_cons (pv 2) pa_nil))) (pgT K 2 (pgs_cons (pg_name (i := 4) sc_Search_cases.nd rfl (Or.inr rfl)) (pgs_cons (pg_name (i := 5) sc_Search_cases.nd rfl (Or.inl rfl)) pgs_nil))) (pss_cons (ps_if (pt_cmpR (notInL K (room65 hr)) (pv 4) (pe_ix (ixT K) (pv 5) pe_int (fun _ _ => rfl)) (by rfl)) (pss_one (ps_ret (pv 5))) pss_nil)
        (pss_one (ps_expr (pe_bm PySem.F.plainAttrs_list PySem.F.slot_list_extend PySem.F.type_list_extend mt_extend (pv 3) (pa_cons (pe_lc (own := [("one", 6)]) rfl sc_Search_cases.nd (piL K (pe_ix (ixT K) (pv 5) pe_int (fun _ _ => rfl))) (blkOk_by (N := N_Search_cases) (sc := defScope s_Search_cases) (by decide +kernel)) (fun _ _ _ _ _ => (pg_name (i := 6) sc_Search_cases.nd rfl (Or.inl rfl))) (fun _ _ _ _ _ => pts_one (PW.pt (pw_and (pt_cmpR (neD K hr.units) (pv 6) (pv 4) (nomark _)) (pw_and1 (pt_cmpR (notInL K (room65 hr)) (pv 6) (pv 3) (by rfl)))))) (fun _ _ _ _ _ => (pv 6))) pa_nil))))))
      (pss_one (ps_ret (pe_tup (pa_cons (pe_tup (pa_cons pe_str (pa_cons (pv 1) (pa_cons (pe_callTy (cTuple K) (by rfl) B.tuple (by decide +kernel) (pa_cons (pe_lc (own := [("part", 5)]) rfl sc_Search_cases.nd (piL K (pv 2)) (blkOk_by (N := N_Search_cases) (sc := defScope s_Search_cases) (by decide +kernel)) (fun _ _ _ _ _ => (pg_name (i := 5) sc_Search_cases.nd rfl (Or.inl rfl))) (fun _ _ _ _ _ => pts_nil) (fun _ _ _ _ _ => (pe_ix (ixT K) (pv 5) pe_int (fun _ _ => rfl)))) pa_nil)) pa_nil)))) (pa_cons (pv 3) pa_nil))))))), ?_⟩
    obtain ⟨dx, hx⟩ := sb.me
    have pr := sb.prob
    have short := pr.short cl (List.mem_of_getElem? hcl)
    refine ⟨by show 0 ≤ sizeLine; decide, fun nl hnl => ?_⟩
    have s1 := same_new (o := .lst []) hnl
    obtain ⟨xl, hp, alC⟩ := pr.at_
    obtain ⟨vc, hvc, cs, ⟨tc, rfl, htc⟩, alcl⟩ := alC.back hcl
    have lcs := alcl.len
    have lzs := alp.len
    refine ⟨_, rfl, x, CS, dx, _, _, rfl, s1 _ _ hx, c.cs, c.s2, rfl, _, rfl, p, xl, _, _, rfl, rfl, SqL.of (s1 _ _ hp), atI_nat hvc, _, rfl, tc, r, true, false, cs, zs, rfl, SqT.of (s1 _ _ htc), SqL.of (s1 _ _ er_), ?_⟩
    refine forIt cs.length (fun i σ H' => ∃ (u4 u5 u6 : Option V) (ys : List V) (nd : List Lit), σ = [some (.ref x), some (.int k), some (.ref r), some (.ref nl), u4, u5, u6] ∧ Same H H' ∧ H' nl = some (.lst ys) ∧ Al (LitAt H') ys nd ∧ Part C 7 dd cl ((ps.take i).map Prod.fst) nd ∧ ∀ m ∈ nd, m ∈ Ls ∧ [m] ∉ C)
      ⟨none, none, none, [], [], rfl, s1, upd_same, Al.nil, Part.nil, fun m h => by cases h⟩ (fun i σ H' hi q => ?_) (fun σ H' q => ?_) (fun i σ H1 y H2 hi q yl => ?_) fun σ H' q => ?_
    · obtain ⟨_, _, _, _, _, _, sm, _⟩ := q
      exact ⟨cs, zs, cs[i], zs[i]'(by omega), SqT.of (sm _ _ htc), SqL.of (sm _ _ er_), List.getElem?_eq_getElem hi, List.getElem?_eq_getElem (by omega)⟩
    · obtain ⟨_, _, _, _, _, _, sm, _⟩ := q
      exact ⟨cs, zs, SqT.of (sm _ _ htc), SqL.of (sm _ _ er_), by omega⟩
    · obtain ⟨u4, u5, u6, ys, nd, rfl, sm, enl, alnd, part, sub⟩ := q
      obtain ⟨T, lv, v, rfl, hT, rfl, y1, y2⟩ := yl
      have hlv := y1 cs (SqT.of (sm _ _ htc))
      have hv := y2 zs (SqL.of (sm _ _ er_))
      obtain ⟨l, hl, hlit⟩ := alcl.at_ i lv hlv
      obtain ⟨y, hy, hprt⟩ := alp.at_ i v hv
      have oky := oks i y l hy hl
      have s2 := same_new (o := .tup [lv, v]) hT
      have eT : (upd H1 T (.tup [lv, v])) T = some (.tup [lv, v]) := upd_same
      have sm2 := sm.trans s2
      have enl2 := s2 _ _ enl
      have alnd2 := LitsAt.mono (Same.tups s2) alnd
      generalize upd H1 T (.tup [lv, v]) = H3 at sm2 enl2 eT alnd2 ⊢
      clear s2 sm enl alnd
      have hprt3 := hprt.mono (er_le.trans sm2)
      have hlit3 := hlit.mono (Same.tups sm2)
      obtain ⟨u, pl, zl, ⟨t, rfl, ht⟩, hu, epl, alpl⟩ := hprt3
      refine ⟨T, _, rfl, SqT.of eT, rfl, _, _, rfl, _, _, rfl, rfl, ?_⟩
      refine ⟨_, rfl, _, rfl, t, _, _, _, rfl, rfl, SqT.of ht, rfl, litD l, y.2.map litD, hlit3.dp, .lst (SqL.of epl) (LitsAt.dp alpl), litD_shaped l, litDs_shapedL y.2, _, rfl, ?_⟩
      rw [any_litD]
      by_cases cm : l ∈ y.2
      · rw [decide_eq_true cm]
        have lpl := alpl.len
        have lnd := alnd2.len
        have ndl : nd.length ≤ 900 := Nat.le_trans (nodup_sub part.nod fun m hm => (sub m hm).1) lL
        have ydl : y.2.length ≤ 901 := by
          have := nodup_sub oky.1.2.2 fun m hm => (oky.2 m hm).1
          rw [List.length_append, List.length_singleton] at this
          omega
        refine ⟨_, rfl, .inl ⟨rfl, _, SqL.of enl2⟩, _, rfl, t, _, _, _, rfl, rfl, SqT.of ht, rfl, pl, rfl, ⟨_, SqL.of epl⟩, ?_⟩
        refine lcL (K := K) (SqL.of epl) (by rw [lpl]; exact Nat.le_of_lt (small1000 (by omega))) (fun i => (y.2[i]?).any fun m => !decide (m = l) && !decide (m ∈ nd)) (fun i v H' => ∃ m, y.2[i]? = some m ∧ LitAt H' v m) (fun _ _ _ _ t q => let ⟨l, a, b⟩ := q; ⟨l, a, b.mono t⟩) (fun i v H5 hi s5 Kt Kf k1 k2 => ?_) fun L H5 ws hL s5 eL z => ?_
        · obtain ⟨m, hm, hml⟩ := alpl.at_ i v hi
          have hml5 := hml.mono (Same.tups s5)
          have ke : (y.2[i]?).any (fun m => !decide (m = l) && !decide (m ∈ nd)) = (!decide (m = l) && !decide (m ∈ nd)) := by rw [hm]; rfl
          refine ⟨rfl, _, rfl, _, rfl, litD m, litD l, hml5.dp, (hlit3.mono (Same.tups s5)).dp, litD_shaped m, litD_shaped l, _, rfl, ?_⟩
          rw [litD_eqv]
          by_cases c1 : m = l
          · rw [decide_eq_true c1] at ke ⊢
            exact k2 _ ke (Same.refl _)
          · rw [decide_eq_false c1] at ke ⊢
            refine ⟨_, rfl, _, rfl, litD m, nd.map litD, hml5.dp, .lst (SqL.of (s5 _ _ enl2)) (LitsAt.dp (LitsAt.mono (Same.tups s5) alnd2)), litD_shaped m, litDs_shapedL nd, _, rfl, ?_⟩
            rw [any_litD]
            by_cases c2 : m ∈ nd
            · rw [decide_eq_true c2] at ke ⊢
              exact k2 _ ke (Same.refl _)
            · rw [decide_eq_false c2] at ke ⊢
              exact ⟨_, rfl, k1 _ _ ke (Same.refl _) ⟨m, hm, hml5⟩⟩
        · rw [lpl] at z
          have alw := al_filter z
          have lw := alw.len
          have lf := List.length_filter_le (fun m => !decide (m = l) && !decide (m ∈ nd)) y.2
          refine ⟨nl, L, _, _, rfl, rfl, s5 _ _ enl2, eL, by unfold sizeLine; omega, ?_⟩
          have tp3 : Tups H5 (upd H5 nl (.lst (ys ++ ws))) := Tups.lst (s5 _ _ enl2)
          have lt := (List.getElem?_eq_some_iff.mp hy).1
          have lm : ((ps.take i).map Prod.fst).length = i := by rw [List.length_map, List.length_take]; omega
          have part2 := part.snoc (q := y.1) (pn := y.2) (by rw [lm]; exact hl) oky.1
          have et : (ps.take i).map Prod.fst ++ [y.1] = (ps.take (i + 1)).map Prod.fst := by
            rw [List.take_succ, hy, List.map_append]
            rfl
          rw [et] at part2
          refine ⟨_, _, _, ys ++ ws, more nd l y.2, rfl, Same.mut (sm2.trans s5) hnl, upd_same, (LitsAt.mono ((Same.tups s5).trans tp3) alnd2).app (LitsAt.mono tp3 alw), part2, fun m hm => ?_⟩
          rcases mem_more.mp hm with e | ⟨e, e2⟩
          · exact sub m e
          · obtain ⟨a1, a2⟩ := oky.2 m e
            refine ⟨?_, a2⟩
            rcases List.mem_append.mp a1 with e3 | e3
            · exact e3
            · exact (e2 (List.mem_singleton.mp e3)).elim
      · rw [decide_eq_false cm]
        refine ⟨_, rfl, kk H3 _ y sm2 (hprt.mono (er_same sm2)) ⟨⟨oky.1.1, oky.1.2.1.mono (by omega), oky.1.2.2⟩, fun m hm => ?_⟩⟩
        obtain ⟨a1, a2⟩ := oky.2 m hm
        refine ⟨?_, a2⟩
        rcases List.mem_append.mp a1 with e3 | e3
        · exact e3
        · rw [List.mem_singleton.mp e3] at hm
          exact (cm hm).elim
    · obtain ⟨u4, u5, u6, ys, nd, rfl, sm, enl, alnd, part, sub⟩ := q
      rw [lcs, ← lps, List.take_length] at part
      have er3 := sm _ _ er_
      refine ⟨_, rfl, _, rfl, r, rfl, ⟨_, SqL.of er3⟩, ?_⟩
      refine lcL (K := K) (SqL.of er3) (Nat.le_of_lt (small1000 (by omega))) (fun _ => true) (fun i v H' => ∃ y, ps[i]? = some y ∧ PapAt H' v y.1) (fun _ _ _ _ t q => let ⟨l, a, b⟩ := q; ⟨l, a, b.mono t⟩) (fun i v H5 hi s5 Kt Kf k1 k2 => ?_) fun L H5 ws hL s5 eL z => ?_
      · obtain ⟨y, hy, hprt⟩ := alp.at_ i v hi
        obtain ⟨u, pl, zl, ⟨t, rfl, ht⟩, hu, _⟩ := hprt.mono (er_le.trans (sm.trans s5))
        exact ⟨rfl, _, rfl, t, _, _, _, rfl, rfl, SqT.of ht, rfl, k1 _ _ rfl (Same.refl _) ⟨y, hy, hu⟩⟩
      · obtain ⟨lw, hw⟩ := al_all (α := Nat) z
        refine ⟨L, ws, rfl, SqL.of eL, fun T1 hT1 => ?_⟩
        have s6 := same_new (o := .tup ws) hT1
        refine ⟨by show 3 ≤ sizeLine; decide, fun T2 hT2 => ⟨_, rfl, by show 2 ≤ sizeLine; decide, fun T3 hT3 => ?_⟩⟩
        have s7 := same_new (o := .tup [.str "cases", .int k, .ref T1]) hT2
        have s8 := same_new (o := .tup [.ref T2, .ref nl]) hT3
        have e1 := s8 _ _ (s7 _ _ (upd_same (H := H5) (a := T1) (o := .tup ws)))
        have e2 := s8 _ _ (upd_same (H := upd H5 T1 (.tup ws)) (a := T2) (o := .tup [.str "cases", .int k, .ref T1]))
        have e3 := upd_same (H := upd (upd H5 T1 (.tup ws)) T2 (.tup [.str "cases", .int k, .ref T1])) (a := T3) (o := .tup [.ref T2, .ref nl])
        have sA := s5.trans ((s6.trans s7).trans s8)
        clear s6 s7 s8
        change Same H' (upd (upd (upd H5 T1 (.tup ws)) T2 (.tup [.str "cases", .int k, .ref T1])) T3 (.tup [.ref T2, .ref nl])) at sA
        have tA : Tups H5 (upd (upd (upd H5 T1 (.tup ws)) T2 (.tup [.str "cases", .int k, .ref T1])) T3 (.tup [.ref T2, .ref nl])) := Same.tups ((same_new hT1).trans ((same_new hT2).trans (same_new hT3)))
        generalize upd (upd (upd H5 T1 (.tup ws)) T2 (.tup [.str "cases", .int k, .ref T1])) T3 (.tup [.ref T2, .ref nl]) = H6 at e1 e2 e3 sA tA ⊢
        have smA := sm.trans sA
        have tE := (sb.same smA).tups
        have g := part.good hcl (by rw [List.length_map]; exact lps)
        refine kk H6 (.ref T3) (.cases k (ps.map Prod.fst), nd) smA (PrtAt.of (tE _ _ e3) (.cases ⟨T2, rfl, tE _ _ e2⟩ ⟨T1, rfl, tE _ _ e1⟩ (by rw [lw, List.length_map, lzs]) fun i v q hv hq => ?_) (er_mk (sb.nS hnl) (sA _ _ enl)) (LitsAt.mono ((Same.tups sA).trans tE) alnd)) ⟨g, sub⟩
        obtain ⟨y, hy, hpap⟩ := hw i v hv
        rw [List.getElem?_map, hy] at hq
        cases hq
        exact hpap.mono (tA.trans tE)
end
end D7
/-! D7, walk 13: search.py, places, enter -/
namespace D7
open PySem L2

/-! ### the heap without what a Bounds writes -/
open Classical in
noncomputable def erB (la : Addr) (row : Nat → Addr) (n : Nat) (H : Hp) : Hp := fun c => if c = la ∨ ∃ x, x < n ∧ c = row x then none else H c
section
variable {la : Addr} {row : Nat → Addr} {n : Nat} {H H' : Hp} {c : Addr} {u : HO}
theorem erB_of (h : erB la row n H c = some u) : c ≠ la ∧ (∀ x, x < n → c ≠ row x) ∧ H c = some u := by
  unfold erB at h
  split at h
  · cases h
  · rename_i q
    exact ⟨fun e => q (.inl e), fun x hx e => q (.inr ⟨x, hx, e⟩), h⟩
theorem erB_mk (h1 : c ≠ la) (h2 : ∀ x, x < n → c ≠ row x) (h : H c = some u) : erB la row n H c = some u := by
  unfold erB
  rw [if_neg]
  · exact h
  · rintro (e | ⟨x, hx, e⟩)
    · exact h1 e
    · exact h2 x hx e
theorem erB_le : Same (erB la row n H) H := fun c u e => (erB_of e).2.2
theorem Out.erB (o : Out la row n H H') : Same (D7.erB la row n H) (D7.erB la row n H') := fun c u e => let ⟨a, b, h⟩ := erB_of e; erB_mk a b (o c u a b h)
theorem erB_new {E : Hp} (s : Same E H) (h1 : E la = none) (h2 : ∀ x, x < n → E (row x) = none) : Same E (D7.erB la row n H) := fun c u e => erB_mk (ne_of_none e h1) (fun x hx => ne_of_none e (h2 x hx)) (s c u e)
end
theorem BAt.erOut {CB : Addr} {S : Addr} {H H' : Hp} {o la : Addr} {row : Nat → Addr} {n : Nat} {L L' : List Lit} {D D' : Mat} {zs : List V} (h : BAt CB (D7.er S H) o la row n L D) (hS : H S = some (.lst zs)) (out : Out la row n H H') (h' : BAt CB H' o la row n L' D') : BAt CB (D7.er S H') o la row n L' D' := by
  obtain ⟨dx, ma, a, b, c⟩ := h.me
  obtain ⟨xs, l1, l2⟩ := h.ls
  have nl := (er_of l1).1
  have nr : ∀ x, x < n → row x ≠ S := fun x hx => (er_of (h.rw_ x hx)).1
  have hS' := out S _ nl.symm (fun x hx => (nr x hx).symm) hS
  refine h'.er hS' nl nr fun dx2 ma2 l3 e => ?_
  obtain ⟨no, a⟩ := er_of a
  have a2 := out o _ (ne_of a (er_of l1).2 fun e => by cases e) (fun x hx => ne_of a (er_of (h.rw_ x hx)).2 fun e => by cases e) a
  rw [a2] at e
  have e := HO.ins.inj (Option.some.inj e)
  have e2 := e.2.2
  simp only [List.cons.injEq, Prod.mk.injEq, V.ref.injEq, true_and, and_true] at e2
  rw [← e2.2]
  exact (er_of b).1

/-! ### places -/
structure Pl where
  L : List Lit
  D : Mat
  steps : List (Nat × Nat × Nat)
  k : Nat
  cl : List Lit
  parts : Nat → Option Prt
  others : List Nat
  at_ : Nat
def StepAt (E : Hp) (v : V) (s : Nat × Nat × Nat) : Prop := TupAt E v [.int s.1, .int s.2.1, .int s.2.2]
theorem StepsAt.mono {E E' : Hp} {vs : List V} {ss : List (Nat × Nat × Nat)} (h : Al (StepAt E) vs ss) (t : Tups E E') : Al (StepAt E') vs ss := h.mono fun _ _ h => TupAt.mono t h
structure PlF (CB : Addr) (E : Hp) (n : Nat) (pl : Pl) (o st lf ot : Addr) : Prop where
  bo : ∃ la row, BAt CB E o la row n pl.L pl.D
  st : ∃ sv, E st = some (.lst sv) ∧ Al (StepAt E) sv pl.steps
  lf : E lf = some (.lst (natsV (leftOf pl.D pl.cl)))
  ot : E ot = some (.lst (natsV pl.others))
theorem PlF.mono {CB : Addr} {E E' : Hp} {n : Nat} {pl : Pl} {o st lf ot : Addr} (h : PlF CB E n pl o st lf ot) (s : Same E E') : PlF CB E' n pl o st lf ot :=
  ⟨let ⟨la, row, b⟩ := h.bo; ⟨la, row, b.mono s⟩, let ⟨sv, a, b⟩ := h.st; ⟨sv, s _ _ a, StepsAt.mono b (Same.tups s)⟩, s _ _ h.lf, s _ _ h.ot⟩
def plFs (o st : Addr) (k : Nat) (lf pd ot : Addr) (a : Nat) : List (Str × V) := [("bounds", .ref o), ("steps", .ref st), ("k", .int k), ("left", .ref lf), ("parts", .ref pd), ("others", .ref ot), ("at", .int a)]
def Ent (L cl : List Lit) : Prop := ∃ l ∈ cl, ∀ v, Sat v L → l.ok v
def StepOk (C : List (List Lit)) (L : List Lit) (s : Nat × Nat × Nat) : Prop := ∃ cl l, C[s.1]? = some cl ∧ cl[s.2.1]? = some l ∧ L[s.2.2]? = some l ∧ ∀ (i : Nat) m, cl[i]? = some m → i ≠ s.2.1 → ∀ v, ¬ Sat v (L.take s.2.2 ++ [m])
structure PlOk (C : List (List Lit)) (n : Nat) (Lin : List Lit) (win : Nat) (pl : Pl) : Prop where
  cl : C[pl.k]? = some pl.cl
  clo : Clo n pl.L pl.D
  take : pl.L.take Lin.length = Lin
  len : pl.L.length = Lin.length + pl.steps.length
  steps : ∀ (i : Nat) s, pl.steps[i]? = some s → s.2.2 = Lin.length + i ∧ StepOk C pl.L s
  deep : pl.others.length + 1 + pl.steps.length ≤ win
  ent : ∀ (j : Nat) cl, C[j]? = some cl → j ∉ pl.others → j ≠ pl.k → Ent pl.L cl
  oth : ∀ k ∈ pl.others, k < C.length
  parts : ∀ (i : Nat) y, pl.parts i = some y → ∃ j, j < pl.at_ ∧ (leftOf pl.D pl.cl)[j]? = some i ∧ ∃ l, pl.cl[i]? = some l ∧ POk C pl.others.length (pl.L ++ [l]) y
  full : ∀ (j i : Nat), j < pl.at_ → (leftOf pl.D pl.cl)[j]? = some i → ∃ y, pl.parts i = some y
theorem mem_left {D : Mat} {cl : List Lit} {i : Nat} : i ∈ leftOf D cl ↔ ∃ l, cl[i]? = some l ∧ refB D l = false := by
  unfold leftOf
  rw [List.mem_filter, List.mem_range]
  constructor
  · rintro ⟨h, e⟩
    rw [List.getElem?_eq_getElem h] at e
    exact ⟨_, List.getElem?_eq_getElem h, by simpa using e⟩
  · rintro ⟨l, e, r⟩
    exact ⟨(List.getElem?_eq_some_iff.mp e).1, by rw [e]; simp [r]⟩
theorem Ent.snoc {L cl : List Lit} {l : Lit} (h : Ent L cl) : Ent (L ++ [l]) cl := let ⟨m, a, b⟩ := h; ⟨m, a, fun v hv => b v (sat_snoc hv).1⟩
theorem ent_imp {n : Nat} {L : List Lit} {D : Mat} {cl : List Lit} (h : Clo n L D) (ok : Lok n cl) (e : impA D cl = true) : Ent L cl := by
  obtain ⟨l, hl, q⟩ := List.any_eq_true.mp e
  obtain ⟨a, b⟩ := ok l hl
  refine ⟨l, hl, fun v hv => ?_⟩
  unfold impB at q
  cases r : D l.a l.b with
  | none =>
    rw [r] at q
    cases q
  | some z =>
    rw [r] at q
    exact h.implied a b r (of_decide_eq_true q) hv
theorem StepOk.snoc {C : List (List Lit)} {L : List Lit} {s : Nat × Nat × Nat} {l : Lit} (h : StepOk C L s) : StepOk C (L ++ [l]) s := by
  obtain ⟨cl, m, a, b, c, d⟩ := h
  have lt := (List.getElem?_eq_some_iff.mp c).1
  refine ⟨cl, m, a, b, by rw [List.getElem?_append_left lt]; exact c, ?_⟩
  rw [List.take_append_of_le_length (Nat.le_of_lt lt)]
  exact d
theorem filter_lt {α : Type} {f : α → Bool} {l : List α} {x : α} (h : x ∈ l) (e : f x = false) : (l.filter f).length < l.length := by
  have := List.length_filter_lt_length_iff_exists (l := l) (p := f)
  exact this.mpr ⟨x, h, by rw [e]; decide⟩
section
variable {P : Program} {w : World} {K : PySem.W.Frag} {mg : Str → Option Value} {base : Heap}
abbrev s_Place_init : Stmt := inClass (top 42) 0
abbrev N_Place_init : List Str := ["self", "bounds", "steps", "best", "others"]
theorem sc_Place_init : FnScope N_Place_init ["self", "bounds", "steps", "best", "others"] (defScope s_Place_init) := ⟨rfl, rfl, rfl, by decide +kernel, rfl, by decide +kernel, by decide +kernel⟩
def sp_Place_init (CP : Addr) : Sp := fun vs H Q _ => ∃ (x dx o st tb lf ot : Addr) (k : Nat), vs = [.ref x, .ref o, .ref st, .ref tb, .ref ot] ∧ H x = some (.ins CP dx []) ∧ H tb = some (.tup [.int k, .ref lf]) ∧ ∀ (H' : Hp) (pd : Addr), Bx x H H' → H' x = some (.ins CP dx (plFs o st k lf pd ot 0)) → H' pd = some (.dK []) → H pd = none → Q .non H'
theorem ok_Place_init {f : Addr} {fd : FuncData} {CS CP : Addr} (F : Fun K "__init__" "Place.__init__" s_Place_init f fd) (c : SC K CS CP) : FnOk P w K mg base CX0 1 f fd ["self", "bounds", "steps", "best", "others"] (sp_Place_init CP) := by
  refine F.ok sc_Place_init (fun vs H Q E h => ?_) (fun cdv A outer s H vs Q E hr h => ?_)
  · obtain ⟨x, dx, o, st, tb, lf, ot, k, rfl, _⟩ := h
    rfl
  · obtain ⟨x, dx, o, st, tb, lf, ot, k, rfl, hx, ht, kk⟩ := h
    refine ⟨_, (pss_cons (ps_fld (pv 0) (pv 1) rfl)
      (pss_cons (ps_fld (pv 0) (pv 2) rfl)
      (pss_cons (ps_fld (pv 0) (pe_ix (ixT K) (pv 3) pe_int (fun _ _ => rfl)) rfl)
      (pss_cons (ps_fld (pv 0) (pe_ix (ixT K) (pv 3) pe_int (fun _ _ => rfl)) rfl)
      (pss_cons (ps_fld (pv 0) pe_dnewK rfl)
      (pss_cons (ps_fld (pv 0) (pv 4) rfl)
      (pss_one (ps_fld (pv 0) pe_int rfl)))))))), ?_⟩
    have ntx : tb ≠ x := ne_of ht hx fun e => by cases e
    refine ⟨_, rfl, _, rfl, x, CP, dx, [], rfl, hx, c.cp, c.p1, by decide, ?_⟩
    refine ⟨_, rfl, _, rfl, x, CP, dx, _, rfl, upd_same, c.cp, c.p2, by show 1 < 1000; decide, ?_⟩
    rw [upd_upd]
    refine ⟨_, rfl, tb, _, _, _, rfl, rfl, SqT.of (by rw [upd_ne ntx]; exact ht), rfl, _, rfl, x, CP, dx, _, rfl, upd_same, c.cp, c.p3, by show 2 < 1000; decide, ?_⟩
    rw [upd_upd]
    refine ⟨_, rfl, tb, _, _, _, rfl, rfl, SqT.of (by rw [upd_ne ntx]; exact ht), rfl, _, rfl, x, CP, dx, _, rfl, upd_same, c.cp, c.p4, by show 3 < 1000; decide, ?_⟩
    rw [upd_upd]
    have b1 := Bx.refl.set (H0 := H) (x := x) (o := .ins CP dx (putF "left" (V.ref lf) (putF "k" (V.int k) (putF "steps" (V.ref st) (putF "bounds" (V.ref o) [])))))
    have x1 := upd_same (H := H) (a := x) (o := .ins CP dx (putF "left" (V.ref lf) (putF "k" (V.int k) (putF "steps" (V.ref st) (putF "bounds" (V.ref o) [])))))
    generalize upd H x (.ins CP dx (putF "left" (V.ref lf) (putF "k" (V.int k) (putF "steps" (V.ref st) (putF "bounds" (V.ref o) []))))) = H1 at b1 x1 ⊢
    intro pd hpd
    have sp := same_new (o := .dK []) hpd
    have npx : pd ≠ x := (ne_of_none x1 hpd).symm
    refine ⟨_, rfl, x, CP, dx, _, rfl, sp _ _ x1, c.cp, c.p5, by show 4 < 1000; decide, ?_⟩
    refine ⟨_, rfl, _, rfl, x, CP, dx, _, rfl, upd_same, c.cp, c.p6, by show 5 < 1000; decide, ?_⟩
    rw [upd_upd]
    refine ⟨_, rfl, x, CP, dx, _, rfl, upd_same, c.cp, c.p7, by show 6 < 1000; decide, ?_⟩
    rw [upd_upd]
    exact kk _ pd (b1.same sp).set upd_same (by rw [upd_ne npx]; exact upd_same) (b1.free x1 hpd)
abbrev s_Search_init : Stmt := inClass (top 43) 0
abbrev N_Search_init : List Str := ["self", "n", "clauses"]
theorem sc_Search_init : FnScope N_Search_init ["self", "n", "clauses"] (defScope s_Search_init) := ⟨rfl, rfl, rfl, by decide +kernel, rfl, by decide +kernel, by decide +kernel⟩
def sp_Search_init (CS : Addr) : Sp := fun vs H Q _ => ∃ (x dx p : Addr) (n : Nat) (C : List (List Lit)), vs = [.ref x, .int n, .ref p] ∧ H x = some (.ins CS dx []) ∧ Prob H n p C ∧ ∀ (H' : Hp) (d S : Addr), Bx x H H' → H' x = some (.ins CS dx [("n", .int n), ("clauses", .ref p), ("only", .ref d), ("places", .ref S)]) →
  OnlyAt (er S H') d C → H' S = some (.lst []) → H S = none → H d = none → Q .non H'
theorem ok_Search_init {f : Addr} {fd : FuncData} {CS CP : Addr} (F : Fun K "__init__" "Search.__init__" s_Search_init f fd) (c : SC K CS CP) (D_single : Def P w K mg base 1 "single" ["clauses"] sp_single) : FnOk P w K mg base CX0 2 f fd ["self", "n", "clauses"] (sp_Search_init CS) := by
  refine F.ok sc_Search_init (fun vs H Q E h => ?_) (fun cdv A outer s H vs Q E hr h => ?_)
  · obtain ⟨x, dx, p, n, C, rfl, _⟩ := h
    rfl
  · obtain ⟨x, dx, p, n, C, rfl, hx, pr, k⟩ := h
    refine ⟨_, (pss_cons (ps_fld (pv 0) (pv 1) rfl)
      (pss_cons (ps_fld (pv 0) (pv 2) rfl)
      (pss_cons (ps_fld (pv 0) (callD D_single (hr.mono (by decide)) rfl (pa_cons (pv 2) pa_nil)) rfl)
      (pss_one (ps_fld (pv 0) (pe_lst pa_nil) rfl))))), ?_⟩
    refine ⟨_, rfl, _, rfl, x, CS, dx, [], rfl, hx, c.cs, c.s1, by decide, ?_⟩
    refine ⟨_, rfl, _, rfl, x, CS, dx, _, rfl, upd_same, c.cs, c.s2, by show 1 < 1000; decide, ?_⟩
    rw [upd_upd]
    have b1 := Bx.refl.set (H0 := H) (x := x) (o := .ins CS dx (putF "clauses" (V.ref p) (putF "n" (V.int n) [])))
    have x1 := upd_same (H := H) (a := x) (o := .ins CS dx (putF "clauses" (V.ref p) (putF "n" (V.int n) [])))
    generalize upd H x (.ins CS dx (putF "clauses" (V.ref p) (putF "n" (V.int n) []))) = H1 at b1 x1 ⊢
    refine ⟨_, rfl, n, p, C, rfl, pr.bx b1 hx, fun H2 d s2 hd on => ?_⟩
    have nxd : d ≠ x := (ne_of_none x1 hd).symm
    have fd_ := b1.free x1 hd
    refine ⟨_, rfl, x, CS, dx, _, rfl, s2 _ _ x1, c.cs, c.s3, by show 2 < 1000; decide, ?_⟩
    have b2 := (b1.same s2).set (o := .ins CS dx (putF "only" (V.ref d) (putF "clauses" (V.ref p) (putF "n" (V.int n) []))))
    have x2 := upd_same (H := H2) (a := x) (o := .ins CS dx (putF "only" (V.ref d) (putF "clauses" (V.ref p) (putF "n" (V.int n) []))))
    have on2 : OnlyAt (upd H2 x (.ins CS dx (putF "only" (V.ref d) (putF "clauses" (V.ref p) (putF "n" (V.int n) []))))) d C := let ⟨kvs, a, b⟩ := on; ⟨kvs, by rw [upd_ne nxd]; exact a, b⟩
    generalize upd H2 x (.ins CS dx (putF "only" (V.ref d) (putF "clauses" (V.ref p) (putF "n" (V.int n) [])))) = H3 at b2 x2 on2 ⊢
    refine ⟨by show 0 ≤ sizeLine; decide, fun S hS => ?_⟩
    have sS := same_new (o := .lst []) hS
    have nSx : S ≠ x := (ne_of_none x2 hS).symm
    refine ⟨_, rfl, x, CS, dx, _, rfl, sS _ _ x2, c.cs, c.s4, by show 3 < 1000; decide, ?_⟩
    obtain ⟨kvs, o1, o2⟩ := on2
    refine k _ d S (b2.same sS).set upd_same ⟨kvs, er_mk (ne_of_none o1 hS) ?_, o2⟩ (by rw [upd_ne nSx]; exact upd_same) (b2.free x2 hS) fd_
    rw [upd_ne nxd]
    exact sS _ _ o1

abbrev s_Search_enter : Stmt := inClass (top 43) 4
abbrev N_Search_enter : List Str := ["self", "bounds", "waiting", "steps", "best", "k", "left", "one"]
theorem sc_Search_enter : FnScope N_Search_enter ["self", "bounds", "waiting"] (defScope s_Search_enter) := ⟨rfl, rfl, rfl, by decide +kernel, rfl, by decide +kernel, by decide +kernel⟩
/-- while literals are kept: the state of enter -/
structure EnS (CB : Addr) (H0 H : Hp) (S o la : Addr) (row : Nat → Addr) (n : Nat) (C : List (List Lit)) (L0 : List Lit) (st : Addr) (L : List Lit) (D : Mat) (steps : List (Nat × Nat × Nat)) (ws : List Nat) : Prop where
  out : Out la row n H0 H
  ba : BAt CB (er st (er S H)) o la row n L D
  clo : Clo n L D
  stp : ∃ sv, H st = some (.lst sv) ∧ Al (StepAt H) sv steps
  nS : st ≠ S
  take : L.take L0.length = L0
  len : L.length = L0.length + steps.length
  sok : ∀ (i : Nat) s, steps[i]? = some s → s.2.2 = L0.length + i ∧ StepOk C L s
  ent : ∀ (j : Nat) cl, C[j]? = some cl → j ∉ ws → Ent L cl
  wok : ∀ k ∈ ws, k < C.length
theorem EnS.b {CB : Addr} {H0 H : Hp} {S o la : Addr} {row : Nat → Addr} {n : Nat} {C : List (List Lit)} {L0 : List Lit} {st : Addr} {L : List Lit} {D : Mat} {steps : List (Nat × Nat × Nat)} {ws : List Nat} (h : EnS CB H0 H S o la row n C L0 st L D steps ws) : BAt CB H o la row n L D := (h.ba.mono er_le).mono er_le
theorem al_nats {zs : List V} {ns : List Nat} (h : Al (fun v (x : Nat) => v = V.int x) zs ns) : zs = natsV ns := by
  refine List.ext_getElem? fun j => ?_
  cases q : zs[j]? with
  | none =>
    rw [List.getElem?_eq_none]
    rw [natsV_len, ← h.len]
    exact List.getElem?_eq_none_iff.mp q
  | some v =>
    obtain ⟨y, hy, rfl⟩ := h.at_ j v q
    rw [natsV_at hy]
def sp_enter (CS CP CB : Addr) : Sp := fun vs H Q _ => ∃ (x S p d o la wl : Addr) (n : Nat) (C : List (List Lit)) (row : Nat → Addr) (L : List Lit) (D : Mat) (ws : List Nat), vs = [.ref x, .ref o, .ref wl] ∧ SB CS (erB la row n H) x S n p d C ∧ BAt CB (er S H) o la row n L D ∧ Clo n L D ∧ H wl = some (.lst (natsV ws)) ∧ (∀ k ∈ ws, k < C.length) ∧
  (∀ (j : Nat) cl, C[j]? = some cl → j ∉ ws → Ent L cl) ∧ L.length + ws.length ≤ 100 ∧
  (∀ (H' : Hp) (L' : List Lit) (D' : Mat), Out la row n H H' → BAt CB H' o la row n L' D' → Clo n L' D' → (∀ (j : Nat) cl, C[j]? = some cl → Ent L' cl) → Q .non H') ∧
  ∀ (H' Hb : Hp) (x dx st lf pd ot : Addr) (pl : Pl), Out la row n H Hb → PlF CB (er S Hb) n pl o st lf ot → Same Hb H' → Hb x = none → Hb pd = none → H' x = some (.ins CP dx (plFs o st pl.k lf pd ot 0)) → H' pd = some (.dK []) → pl.at_ = 0 → (pl.parts = fun _ => none) → PlOk C n L ws.length pl → Q (.ref x) H'
theorem ok_enter {f : Addr} {fd : FuncData} {CS CP CB : Addr} (F : Fun K "enter" "Search.enter" s_Search_enter f fd) (c : SC K CS CP) (B : Bt mg) (C_Place : Made P w K mg base 1 "Place" CP ["self", "bounds", "steps", "best", "others"] (sp_Place_init CP)) (D_keep : Def P w K mg base 4 "keep" ["bounds", "literal"] (sp_keep CB))
    (M_Bounds_literals : MDef P w K mg base 1 CB "literals" ["self"] (sp_literals CB)) (M_Search_sift : MDef P w K mg base 3 CS "sift" ["self", "bounds", "waiting"] (sp_sift CS CB)) : FnOk P w K mg base CX0 5 f fd ["self", "bounds", "waiting"] (sp_enter CS CP CB) := by
  refine F.ok sc_Search_enter (fun vs H Q E h => ?_) (fun cdv A outer s H vs Q E hr h => ?_)
  · obtain ⟨x, S, p, d, o, la, wl, n, C, row, L, D, ws, rfl, _⟩ := h
    rfl
  · obtain ⟨x, S, p, d, o, la, wl, n, C, row, L, D, ws, rfl, sb, ba, clo, ew, wok, ent, small, kn, kp⟩ := h
    refine ⟨_, (pss_cons (ps_set (i := 3) sc_Search_enter.nd rfl (Or.inl rfl) (pe_lst pa_nil))
      (pss_cons (ps_asg (methD (pv 0) M_Search_sift (hr.mono (by decide)) (pa_cons (pv 1) (pa_cons (pv 2) pa_nil))) (pgT K 2 (pgs_cons (pg_name (i := 2) sc_Search_enter.nd rfl (Or.inl rfl)) (pgs_cons (pg_name (i := 4) sc_Search_enter.nd rfl (Or.inr rfl)) pgs_nil))))
      (pss_cons (ps_while PassesOwn.never (PW.pt (pw_and (pt_cmpR op_notN (pv 4) pe_non (nomark _)) (pw_and1 (pt_cmpR op_eq (pe_callB (cLen K) (by rfl) B.len (by decide +kernel) (pa_cons (pe_ix (ixT K) (pv 4) pe_int (fun _ _ => rfl)) pa_nil)) pe_int (nomark _))))) (pss_cons (ps_asg (pv 4) (pgT K 2 (pgs_cons (pg_name (i := 5) sc_Search_enter.nd rfl (Or.inl rfl)) (pgs_cons (pg_name (i := 6) sc_Search_enter.nd rfl (Or.inl rfl)) pgs_nil))))
        (pss_cons (ps_expr (pe_bm PySem.F.plainAttrs_list PySem.F.slot_list_append PySem.F.type_list_append mt_append (pv 3) (pa_cons (pe_tup (pa_cons (pv 5) (pa_cons (pe_ix (ixL K) (pv 6) pe_int (fun _ _ => rfl)) (pa_cons (pe_callB (cLen K) (by rfl) B.len (by decide +kernel) (pa_cons (methD0 (pv 1) M_Bounds_literals (hr.mono (by decide))) pa_nil)) pa_nil)))) pa_nil)))
        (pss_cons (ps_expr (callD D_keep (hr.mono (by decide)) rfl (pa_cons (pv 1) (pa_cons (pe_ix (ixT K) (pe_ix (ixL K) (fld K (pv 0)) (pv 5) (fun _ _ => rfl)) (pe_ix (ixL K) (pv 6) pe_int (fun _ _ => rfl)) (fun _ _ => rfl)) pa_nil))))
        (pss_one (ps_asg (methD (pv 0) M_Search_sift (hr.mono (by decide)) (pa_cons (pv 1) (pa_cons (pv 2) pa_nil))) (pgT K 2 (pgs_cons (pg_name (i := 2) sc_Search_enter.nd rfl (Or.inl rfl)) (pgs_cons (pg_name (i := 4) sc_Search_enter.nd rfl (Or.inr rfl)) pgs_nil)))))))))
      (pss_cons (ps_if (pt_cmpR op_isN (pv 4) pe_non (nomark _)) (pss_one (ps_ret pe_non)) pss_nil)
      (pss_one (ps_ret (makeD C_Place (hr.mono (by decide)) rfl (pa_cons (pv 1) (pa_cons (pv 3) (pa_cons (pv 4) (pa_cons (pe_lc (own := [("one", 7)]) rfl sc_Search_enter.nd (piL K (pv 2)) (blkOk_by (N := N_Search_enter) (sc := defScope s_Search_enter) (by decide +kernel)) (fun _ _ _ _ _ => (pg_name (i := 7) sc_Search_enter.nd rfl (Or.inl rfl))) (fun _ _ _ _ _ => pts_one (pt_cmpR op_ne (pv 7) (pe_ix (ixT K) (pv 4) pe_int (fun _ _ => rfl)) (nomark _))) (fun _ _ _ _ _ => (pv 7))) pa_nil))))))))))), ?_⟩
    refine ⟨by show 0 ≤ sizeLine; decide, fun st hst => ?_⟩
    have s1 := same_new (o := .lst []) hst
    have sbH := sb.same erB_le
    obtain ⟨dx, hx⟩ := sbH.me
    obtain ⟨zsS, hS⟩ := sbH.st
    have baH := ba.mono er_le
    obtain ⟨xsl, hla, _⟩ := baH.ls
    have new_la := (ne_of_none hla hst).symm
    have en : EnS CB H (upd H st (.lst [])) S o la row n C L st L D [] ws := ⟨Out.of s1, ba.mono (er_new (er_same s1) (by rw [er_ne (ne_of_none hS hst).symm]; exact hst)), clo, ⟨[], upd_same, Al.nil⟩, (ne_of_none hS hst).symm, List.take_length, rfl, fun i s h => by simp at h, ent, wok⟩
    have ew1 := s1 _ _ ew
    have sbo : ∀ {H2 : Hp}, Out la row n H H2 → SB CS H2 x S n p d C := fun o2 => (sb.same o2.erB).same erB_le
    have post : ∀ {H2 H3 : Hp} {L' : List Lit} {D' : Mat} {steps : List (Nat × Nat × Nat)} {ws' fs : List Nat}, EnS CB H H2 S o la row n C L st L' D' steps ws' → Same H2 H3 → fs = ws'.filter (fun k => !impA D' (C.getD k [])) → EnS CB H H3 S o la row n C L st L' D' steps fs ∧ fs.length ≤ ws'.length ∧ ∀ k, k ∈ ws' → impA D' (C.getD k []) = true → fs.length < ws'.length := by
      intro H2 H3 L' D' steps ws' fs en s3 efs
      subst efs
      obtain ⟨sv, e1, e2⟩ := en.stp
      have pr := (sbo en.out).prob
      refine ⟨⟨en.out.trans (Out.of s3), en.ba.mono (er_same (er_same s3)), en.clo, ⟨sv, s3 _ _ e1, StepsAt.mono e2 (Same.tups s3)⟩, en.nS, en.take, en.len, en.sok, fun j cl hj hn => ?_, fun k hk => en.wok k (List.mem_filter.mp hk).1⟩, List.length_filter_le _ _, fun k hk hi => ?_⟩
      · by_cases q : j ∈ ws'
        · have : ¬ (!impA D' (C.getD j [])) = true := fun z => hn (List.mem_filter.mpr ⟨q, z⟩)
          have ec : C.getD j [] = cl := by rw [List.getD_eq_getElem?_getD, hj]; rfl
          rw [ec] at this
          have : impA D' cl = true := by simpa using this
          exact ent_imp en.clo (pr.ok cl (List.mem_of_getElem? hj)) this
        · exact en.ent j cl hj q
      · exact filter_lt hk (by rw [hi]; rfl)
    refine ⟨_, rfl, x, dx, _, rfl, s1 _ _ hx, rfl, _, rfl, _, rfl, x, S, p, d, o, la, wl, n, C, row, L, D, ws, rfl, sbo en.out, en.b, ew1, en.wok, by omega, fun H3 t fl fs bv s3 ht hfl efl efs best => ?_⟩
    obtain ⟨en3, lfs, _⟩ := post en s3 efs
    refine ⟨t, _, rfl, SqT.of ht, rfl, _, _, rfl, _, _, rfl, rfl, ?_⟩
    have inv : ∀ {H2 H3 : Hp} {fl : Addr} {bv : V} {fs ws' : List Nat} {L' : List Lit} {D' : Mat} {steps : List (Nat × Nat × Nat)} {u5 u6 u7 : Option V}, EnS CB H H2 S o la row n C L st L' D' steps ws' → EnS CB H H3 S o la row n C L st L' D' steps fs → fs.length + steps.length ≤ ws.length → H2 fl = none → H3 fl = some (.lst (natsV fs)) → Best H2 H3 C D' fs bv →
        ∃ (u5' u6' u7' : Option V) (bv' : V) (fl' : Addr) (L' : List Lit) (D' : Mat) (steps : List (Nat × Nat × Nat)) (fs' : List Nat), ([some (.ref x), some (.ref o), some (.ref fl), some (.ref st), some bv, u5, u6, u7] : L2.St) = [some (.ref x), some (.ref o), some (.ref fl'), some (.ref st), some bv', u5', u6', u7'] ∧ EnS CB H H3 S o la row n C L st L' D' steps fs' ∧ fs'.length + steps.length ≤ ws.length ∧ H3 fl' = some (.lst (natsV fs')) ∧ fl' ≠ la ∧ (∀ x, x < n → fl' ≠ row x) ∧ fl' ≠ st ∧
          ((bv' = .non ∧ fs' = []) ∨ ∃ (tb lf : Addr) (k : Nat) (cl : List Lit), bv' = .ref tb ∧ H3 tb = some (.tup [.int k, .ref lf]) ∧ lf ≠ st ∧ lf ≠ S ∧ k ∈ fs' ∧ C[k]? = some cl ∧ H3 lf = some (.lst (natsV (leftOf D' cl)))) ∧ fs.length = fs'.length := by
      intro H2 H3 fl bv fs ws' L' D' steps u5 u6 u7 en2 en3 dp hfl efl best
      have ba2 := en2.b
      obtain ⟨xs2, l2, _⟩ := ba2.ls
      obtain ⟨sv, e1, _⟩ := en2.stp
      obtain ⟨zz, hS2⟩ := (sbo en2.out).st
      refine ⟨u5, u6, u7, bv, fl, L', D', steps, fs, rfl, en3, dp, efl, (ne_of_none l2 hfl).symm, fun i hi => (ne_of_none (ba2.rw_ i hi) hfl).symm, (ne_of_none e1 hfl).symm, best.imp id fun ⟨tb, lf, k, cl, b1, b2, b3, b4, b5, b6⟩ => ⟨tb, lf, k, cl, b1, b2, (ne_of_none e1 b3).symm, (ne_of_none hS2 b3).symm, b4, b5, b6⟩, rfl⟩
    refine ⟨fun m σ H' => ∃ (u5 u6 u7 : Option V) (bv : V) (fl : Addr) (L' : List Lit) (D' : Mat) (steps : List (Nat × Nat × Nat)) (fs : List Nat), σ = [some (.ref x), some (.ref o), some (.ref fl), some (.ref st), some bv, u5, u6, u7] ∧ EnS CB H H' S o la row n C L st L' D' steps fs ∧ fs.length + steps.length ≤ ws.length ∧ H' fl = some (.lst (natsV fs)) ∧ fl ≠ la ∧ (∀ x, x < n → fl ≠ row x) ∧ fl ≠ st ∧
        ((bv = .non ∧ fs = []) ∨ ∃ (tb lf : Addr) (k : Nat) (cl : List Lit), bv = .ref tb ∧ H' tb = some (.tup [.int k, .ref lf]) ∧ lf ≠ st ∧ lf ≠ S ∧ k ∈ fs ∧ C[k]? = some cl ∧ H' lf = some (.lst (natsV (leftOf D' cl)))) ∧ m = fs.length, ⟨fs.length, inv en en3 (by simpa using lfs) hfl efl best⟩, fun m σ H4 q => ?_⟩
    clear en3 ht hfl efl best s3 en ew1 lfs efs
    obtain ⟨u5, u6, u7, bv, fl, L', D', steps, fs, rfl, en, dp, efl, nf1, nf2, nf3, best, rfl⟩ := q
    refine ⟨_, rfl, rfl, _, rfl, ?_⟩
    rcases best with ⟨rfl, rfl⟩ | ⟨tb, lf, k, cl, rfl, htb, nlst, nlS, kin, hcl, elf⟩
    · rw [show (!decide (V.non = V.non)) = false from nT rfl]
      refine ⟨_, rfl, rfl, _, rfl, ?_⟩
      rw [show decide (V.non = V.non) = true from decide_eq_true rfl]
      exact kn H4 L' D' en.out en.b en.clo fun j cl hj => en.ent j cl hj (fun h => by cases h)
    rw [show (!decide (V.ref tb = V.non)) = true from nF fun e => by cases e]
    refine ⟨_, rfl, tb, _, _, _, rfl, rfl, SqT.of htb, rfl, lf, _, rfl, .inl (SqL.of elf), rfl, _, rfl, ?_⟩
    rw [natsV_len]
    have sb4 := sbo en.out
    obtain ⟨dx4, hx4⟩ := sb4.me
    have pr4 := sb4.prob
    have okl := pr4.ok cl (List.mem_of_getElem? hcl)
    have elen := en.len
    by_cases c1 : (leftOf D' cl).length = 1
    · rw [show decide (V.int ((leftOf D' cl).length : Int) = V.int 1) = true from decide_eq_true (by rw [c1]; rfl)]
      refine ⟨_, fun σ' H3 n3 => n3, ?_⟩
      obtain ⟨i, hi⟩ := List.length_eq_one_iff.mp c1
      obtain ⟨l, hil, hrl⟩ := mem_left.mp (show i ∈ leftOf D' cl by rw [hi]; exact List.mem_singleton.mpr rfl)
      rw [hi] at elf
      obtain ⟨dxo, mao, ho, _⟩ := en.b.me
      obtain ⟨sv, e1, e2⟩ := en.stp
      refine ⟨_, rfl, tb, _, rfl, SqT.of htb, rfl, _, _, rfl, _, _, rfl, rfl, ?_⟩
      refine ⟨_, rfl, .inl ⟨rfl, _, SqL.of e1⟩, _, rfl, _, rfl, lf, _, 0, _, rfl, rfl, SqL.of elf, atI_nat (j := 0) (natsV_at (k := i) rfl), _, rfl, o, dxo, _, rfl, ho, rfl, o, la, row, n, L', D', rfl, en.b, fun H5 l5 xs5 s5 hl5 el5 al5 => ⟨l5, xs5, rfl, .inl (SqL.of el5), by show 3 ≤ sizeLine; decide, fun T hT => ?_⟩⟩
      have lx5 := al5.len
      rw [lx5]
      have s6 := same_new (o := .tup [.int k, .int i, .int L'.length]) hT
      have eT : (upd H5 T (.tup [.int k, .int i, .int L'.length])) T = some (.tup [.int k, .int i, .int L'.length]) := upd_same
      have s46 := s5.trans s6
      have lsv := e2.len
      generalize upd H5 T (.tup [.int k, .int i, .int L'.length]) = H6 at s6 eT s46 ⊢
      refine ⟨st, sv, .ref T, rfl, rfl, s46 _ _ e1, small1000 (by omega), ?_⟩
      have tp7 : Tups H6 (upd H6 st (.lst (sv ++ [.ref T]))) := Tups.lst (s46 _ _ e1)
      have out7 : Out la row n H (upd H6 st (.lst (sv ++ [.ref T]))) := fun c u h1 h2 h => by
        rw [upd_ne (ne_of_none h hst)]
        exact s46 _ _ (en.out c u h1 h2 h)
      have ba7 : BAt CB (er st (er S (upd H6 st (.lst (sv ++ [.ref T]))))) o la row n L' D' := (en.ba.mono (er_same (er_same s46))).mono er_upd2
      have st7 : (upd H6 st (.lst (sv ++ [.ref T]))) st = some (.lst (sv ++ [.ref T])) := upd_same
      have al7 : Al (StepAt (upd H6 st (.lst (sv ++ [.ref T])))) (sv ++ [.ref T]) (steps ++ [(k, i, L'.length)]) := (StepsAt.mono e2 ((Same.tups s46).trans tp7)).snoc ⟨T, rfl, tp7 _ _ eT⟩
      have elf7 : (upd H6 st (.lst (sv ++ [.ref T]))) lf = some (.lst (natsV [i])) := by rw [upd_ne nlst]; exact s46 _ _ elf
      have efl7 : (upd H6 st (.lst (sv ++ [.ref T]))) fl = some (.lst (natsV fs)) := by rw [upd_ne nf3]; exact s46 _ _ efl
      have fl4 : ∀ c u, c ≠ st → H4 c = some u → (upd H6 st (.lst (sv ++ [.ref T]))) c = some u := fun c u n1 h => by rw [upd_ne n1]; exact s46 _ _ h
      generalize upd H6 st (.lst (sv ++ [.ref T])) = H7 at out7 ba7 st7 al7 elf7 efl7 tp7 ⊢
      have sb7 := sbo out7
      obtain ⟨dx7, hx7⟩ := sb7.me
      obtain ⟨xl, hp, alC⟩ := sb7.prob.at_
      obtain ⟨vc, hvc, cs, ⟨tc, rfl, htc⟩, alcl⟩ := alC.back hcl
      obtain ⟨lv, hlv, hlit⟩ := alcl.back hil
      obtain ⟨la_, lb_⟩ := okl l (List.mem_of_getElem? hil)
      have ba7' := (ba7.mono er_le).mono er_le
      refine ⟨_, rfl, _, rfl, x, CS, dx7, _, _, rfl, hx7, c.cs, c.s2, rfl, _, rfl, p, xl, _, _, rfl, rfl, SqL.of hp, atI_nat hvc, _, rfl, lf, _, 0, _, rfl, rfl, SqL.of elf7, atI_nat (j := 0) (natsV_at (k := i) rfl), tc, cs, _, _, rfl, rfl, SqT.of htc, atI_nat hlv, ?_⟩
      refine ⟨o, la, row, n, L', D', lv, l, rfl, ba7', en.clo, hlit, la_, lb_, by omega, fun h => (by rw [hrl] at h; cases h), fun _ H8 D8 out8 ba8 clo8 => ?_⟩
      have out78 := out7.trans out8
      have sb8 := sbo out78
      obtain ⟨dx8, hx8⟩ := sb8.me
      obtain ⟨zS7, hS7⟩ := sb7.st
      have baS : BAt CB (er S H8) o la row n (L' ++ [l]) D8 := (ba7.mono er_le).erOut hS7 out8 ba8
      have baT : BAt CB (er st (er S H8)) o la row n (L' ++ [l]) D8 := BAt.erOut (S := st) (H := er S H7) ba7 (er_mk en.nS st7) (fun c u h1 h2 h => let ⟨q1, q2⟩ := er_of h; er_mk q1 (out8 c u h1 h2 q2)) baS
      have nst : st ≠ la ∧ ∀ x, x < n → st ≠ row x := by
        obtain ⟨xs9, l9, _⟩ := ba7.ls
        exact ⟨(er_of l9).1.symm, fun x hx => (er_of (ba7.rw_ x hx)).1.symm⟩
      have tp8 := ba7'.tups out8
      have lt2 : L'.length < (L' ++ [l]).length := by rw [List.length_append, List.length_singleton]; omega
      have en8 : EnS CB H H8 S o la row n C L st (L' ++ [l]) D8 (steps ++ [(k, i, L'.length)]) fs := by
        refine ⟨out78, baT, clo8, ⟨_, out8 st _ nst.1 nst.2 st7, StepsAt.mono al7 tp8⟩, en.nS, ?_, ?_, fun j s hj => ?_, fun j cl hj hn => (en.ent j cl hj hn).snoc, en.wok⟩
        · rw [List.take_append_of_le_length (by omega)]
          exact en.take
        · rw [List.length_append, List.length_append, List.length_singleton, List.length_singleton]
          omega
        · rcases Nat.lt_or_ge j steps.length with q | q
          · rw [List.getElem?_append_left q] at hj
            obtain ⟨a1, a2⟩ := en.sok j s hj
            exact ⟨a1, a2.snoc⟩
          · rw [List.getElem?_append_right q] at hj
            have j0 : j - steps.length = 0 := by
              rcases Nat.eq_zero_or_pos (j - steps.length) with z | z
              · exact z
              · rw [List.getElem?_eq_none (by rw [List.length_singleton]; omega)] at hj
                cases hj
            rw [j0] at hj
            cases hj
            refine ⟨by show L'.length = L.length + j; omega, cl, l, hcl, hil, ?_, fun m z hm hne => ?_⟩
            · show (L' ++ [l])[L'.length]? = some l
              rw [List.getElem?_append_right (Nat.le_refl _), Nat.sub_self]
              rfl
            · show ∀ v, ¬ Sat v ((L' ++ [l]).take L'.length ++ [z])
              rw [List.take_append_of_le_length (Nat.le_refl _), List.take_length]
              obtain ⟨z1, z2⟩ := okl z (List.mem_of_getElem? hm)
              refine sat_ref en.clo z1 z2 ?_
              cases e : refB D' z with
              | true => rfl
              | false =>
                have : m ∈ leftOf D' cl := mem_left.mpr ⟨z, hm, e⟩
                rw [hi] at this
                exact (hne (List.mem_singleton.mp this)).elim
      have imp8 : impA D8 (C.getD k []) = true := by
        have ec : C.getD k [] = cl := by rw [List.getD_eq_getElem?_getD, hcl]; rfl
        rw [ec]
        refine List.any_eq_true.mpr ⟨l, List.mem_of_getElem? hil, ?_⟩
        obtain ⟨_, _, z, ez, hz⟩ := clo8.lit l (by simp)
        unfold impB
        rw [ez]
        exact decide_eq_true hz
      refine ⟨_, rfl, x, dx8, _, rfl, hx8, rfl, _, rfl, _, rfl, x, S, p, d, o, la, fl, n, C, row, L' ++ [l], D8, fs, rfl, sb8, en8.b, out8 fl _ nf1 nf2 efl7, en8.wok, by omega, fun H9 t fl9 fs9 bv9 s9 ht9 hfl9 efl9 efs9 best9 => ?_⟩
      obtain ⟨en9, _, l9⟩ := post en8 s9 efs9
      have less := l9 k kin imp8
      exact ⟨t, _, rfl, SqT.of ht9, rfl, _, _, rfl, _, _, rfl, rfl, fs9.length, less, inv en8 en9 (by rw [List.length_append, List.length_singleton]; omega) hfl9 efl9 best9⟩
    · rw [show decide (V.int ((leftOf D' cl).length : Int) = V.int 1) = false from decide_eq_false fun q => c1 (by have := V.int.inj q; omega)]
      refine ⟨_, rfl, rfl, _, rfl, ?_⟩
      rw [show decide (V.ref tb = V.non) = false from decide_eq_false fun e => by cases e]
      refine ⟨_, rfl, _, rfl, _, rfl, _, rfl, fl, rfl, ⟨_, SqL.of efl⟩, ?_⟩
      refine lcL (K := K) (SqL.of efl) (by rw [natsV_len]; exact Nat.le_of_lt (small1000 (by omega))) (fun i => (fs[i]?).any fun j => !decide (j = k)) (fun i y _ => ∃ j, fs[i]? = some j ∧ y = V.int (j : Nat)) (fun _ _ _ _ _ q => q) (fun i u H5 hu s5 Kt Kf k1 k2 => ?_) fun ot H5 zs hot s5 eot al => ?_
      · obtain ⟨j, hj, rfl⟩ := natsV_back hu
        have ke : (fs[i]?).any (fun j => !decide (j = k)) = !decide (j = k) := by rw [hj]; rfl
        refine ⟨rfl, _, rfl, _, rfl, tb, _, _, _, rfl, rfl, SqT.of (s5 _ _ htb), rfl, rfl, _, rfl, ?_⟩
        rw [intV_eq]
        by_cases q : j = k
        · rw [decide_eq_true q] at ke ⊢
          exact k2 _ ke (Same.refl _)
        · rw [decide_eq_false q] at ke ⊢
          exact ⟨_, rfl, k1 _ _ ke (Same.refl _) ⟨j, hj, rfl⟩⟩
      · rw [natsV_len] at al
        have ez := al_nats (al_filter (R := fun v (j : Nat) => v = V.int (j : Nat)) al)
        have mo : ∀ j, j ∈ fs.filter (fun j => !decide (j = k)) ↔ j ∈ fs ∧ j ≠ k := fun j => by rw [List.mem_filter]; simp
        have lo : (fs.filter fun j => !decide (j = k)).length < fs.length := filter_lt kin (by simp)
        generalize fs.filter (fun j => !decide (j = k)) = os at ez mo lo
        subst ez
        intro xx dxx hxx hdxx nxx
        have so : Same H5 (upd (upd H5 dxx (.own xx)) xx (.ins CP dxx [])) := fun b u e => by
          rw [upd_ne (ne_of_none e hxx), upd_ne (ne_of_none e hdxx)]
          exact e
        refine ⟨xx, dxx, o, st, tb, lf, ot, k, rfl, upd_same, so _ _ (s5 _ _ htb), fun H6 pd b6 e6 epd fpd => ⟨rfl, ?_⟩⟩
        have s56 : Same H5 H6 := fun b u e => b6 b u (ne_of_none e hxx) (so b u e)
        have out5 := en.out.trans (Out.of s5)
        have sb5 := sbo out5
        obtain ⟨sv, e1, e2⟩ := en.stp
        refine kp H6 H5 xx dxx st lf pd ot ⟨L', D', steps, k, cl, fun _ => none, os, 0⟩ out5 ⟨⟨la, row, (en.ba.mono er_le).mono (er_same s5)⟩, ⟨sv, er_mk en.nS (s5 _ _ e1), StepsAt.mono e2 ((Same.tups s5).trans sb5.tups)⟩, er_mk nlS (s5 _ _ elf), er_mk ((sbo en.out).nS hot) eot⟩ s56 hxx (so.free fpd) e6 epd rfl rfl ?_
        exact ⟨hcl, en.clo, en.take, en.len, en.sok, by show os.length + 1 + steps.length ≤ ws.length; omega, fun j cl' hj h1 h2 => en.ent j cl' hj fun h => h1 ((mo j).mpr ⟨h, h2⟩), fun j hj => en.wok j ((mo j).mp hj).1, fun i y h => (by cases h), fun j i h => absurd h (Nat.not_lt_zero j)⟩
end
end D7
/-! D7, walk 14: search.py, behind, finish -/
namespace D7
open PySem L2

theorem cut_take {xs : List V} {m : Nat} (h : m ≤ xs.length) : cutV xs none (some (m : Int)) = xs.take m := by
  unfold cutV
  rw [HT.sIx_none, HT.sIx_nat, List.drop_zero, Nat.sub_zero, Nat.min_eq_left h]
def PlAt (CP CB : Addr) (E : Hp) (n : Nat) (v : V) (pl : Pl) : Prop := ∃ (x dx o st lf pd ot : Addr) (kvs : List (Key × V)), v = .ref x ∧ E x = some (.ins CP dx (plFs o st pl.k lf pd ot pl.at_)) ∧ PlF CB E n pl o st lf ot ∧ E pd = some (.dK kvs) ∧ PrtsAt E kvs pl.parts
theorem PlAt.mono {CP CB : Addr} {E E' : Hp} {n : Nat} {v : V} {pl : Pl} (h : PlAt CP CB E n v pl) (s : Same E E') : PlAt CP CB E' n v pl := by
  obtain ⟨x, dx, o, st, lf, pd, ot, kvs, e, a, b, c, d⟩ := h
  exact ⟨x, dx, o, st, lf, pd, ot, kvs, e, s _ _ a, b.mono s, s _ _ c, d.mono s⟩
theorem lok_of {n : Nat} {L : List Lit} {D : Mat} (h : Clo n L D) (m : Nat) : Lok n (L.take m) := fun l hl => let ⟨a, b, _⟩ := h.lit l (List.mem_of_mem_take hl); ⟨a, b⟩
theorem POk.drop {C : List (List Lit)} {d : Nat} {L : List Lit} {l : Lit} {y : Prt} (h : POk C d (L ++ [l]) y) (n : l ∉ y.2) : POk C d L y := ⟨h.1, fun m hm => by
  obtain ⟨a, b⟩ := h.2 m hm
  refine ⟨?_, b⟩
  rcases List.mem_append.mp a with q | q
  · exact q
  · rw [List.mem_singleton.mp q] at hm
    exact (n hm).elim⟩
section
variable {P : Program} {w : World} {K : PySem.W.Frag} {mg : Str → Option Value} {base : Heap}
abbrev s_Search_behind : Stmt := inClass (top 43) 5
abbrev N_Search_behind : List Str := ["self", "place", "part", "literals", "k", "at", "many"]
theorem sc_Search_behind : FnScope N_Search_behind ["self", "place", "part"] (defScope s_Search_behind) := ⟨rfl, rfl, rfl, by decide +kernel, rfl, by decide +kernel, by decide +kernel⟩
def sp_behind (CS CP CB : Addr) : Sp := fun vs H Q _ => ∃ (x S p d : Addr) (n : Nat) (C : List (List Lit)) (v w : V) (pl : Pl) (y : Prt) (Lin : List Lit) (win dd : Nat), vs = [.ref x, v, w] ∧ SB CS H x S n p d C ∧ PlAt CP CB (er S H) n v pl ∧ PlOk C n Lin win pl ∧ pl.L.length ≤ 900 ∧ PrtAt (er S H) w y.1 y.2 ∧ POk C dd pl.L y ∧
  ∀ (H' : Hp) (w' : V) (y' : Prt), Same H H' → PrtAt (er S H') w' y'.1 y'.2 → POk C (dd + pl.steps.length) Lin y' → Q w' H'
theorem ok_behind {f : Addr} {fd : FuncData} {CS CP CB : Addr} (F : Fun K "behind" "Search.behind" s_Search_behind f fd) (c : SC K CS CP) (M_Bounds_literals : MDef P w K mg base 1 CB "literals" ["self"] (sp_literals CB)) (M_Search_cases : MDef P w K mg base 1 CS "cases" ["self", "k", "parts"] (sp_cases CS))
    (M_Search_refuted : MDef P w K mg base 4 CS "refuted" ["self", "literals", "k", "parts"] (sp_refuted CS)) : FnOk P w K mg base CX0 5 f fd ["self", "place", "part"] (sp_behind CS CP CB) := by
  refine F.ok sc_Search_behind (fun vs H Q E h => ?_) (fun cdv A outer s H vs Q E hr h => ?_)
  · obtain ⟨x, S, p, d, n, C, v, w, pl, y, Lin, win, dd, rfl, _⟩ := h
    rfl
  · obtain ⟨x, S, p, d, n, C, v, w, pl, y, Lin, win, dd, rfl, sb, pat, ok, small, prt, pok, k⟩ := h
    refine ⟨_, (pss_cons (ps_set (i := 3) sc_Search_behind.nd rfl (Or.inl rfl) (methD0 (fld K (pv 1)) M_Bounds_literals (hr.mono (by decide))))
      (pss_cons (ps_for PassesOwn.never rfl (piL K (pe_revL (fld K (pv 1)))) (pgT K 3 (pgs_cons (pg_name (i := 4) sc_Search_behind.nd rfl (Or.inl rfl)) (pgs_cons (pg_name (i := 5) sc_Search_behind.nd rfl (Or.inl rfl)) (pgs_cons (pg_name (i := 6) sc_Search_behind.nd rfl (Or.inl rfl)) pgs_nil)))) (pss_one (ps_if (pt_cmpR (inL K (room65 hr)) (pe_ix (ixT K) (pe_ix (ixL K) (fld K (pv 0)) (pv 4) (fun _ _ => rfl)) (pv 5) (fun _ _ => rfl)) (pe_ix (ixT K) (pv 2) pe_int (fun _ _ => rfl)) (by rfl)) (pss_one (ps_set (i := 2) sc_Search_behind.nd rfl (Or.inl rfl) (methD (pv 0) M_Search_cases (hr.mono (by decide)) (pa_cons (pv 4) (pa_cons (methD (pv 0) M_Search_refuted (hr.mono (by decide)) (pa_cons (pe_slice sl_list (pv 3) po_none (po_some (pv 6))) (pa_cons (pv 4) (pa_cons (pe_disp (pps_cons (pv 5) (pv 2) pps_nil) (by rfl) (by rfl) (fun z => by cases z) (by decide)) pa_nil)))) pa_nil))))) pss_nil)))
      (pss_one (ps_ret (pv 2))))), ?_⟩
    obtain ⟨dx, hx⟩ := sb.me
    obtain ⟨xp, dxp, o, st, lf, pd, ot, kvs, rfl, hxp, pf, hpd, prts⟩ := pat.mono er_le
    obtain ⟨la, row, ba⟩ := pf.bo
    obtain ⟨sv, est, alst⟩ := pf.st
    obtain ⟨dxo, mao, ho, _⟩ := ba.me
    have plen := ok.len
    have lst := alst.len
    refine ⟨_, rfl, xp, CP, dxp, _, _, rfl, hxp, c.cp, c.p1, rfl, o, dxo, _, rfl, ho, rfl, o, la, row, n, pl.L, pl.D, rfl, ba, fun H1 l1 xs s1 hl1 el1 al1 => ?_⟩
    have lxs := al1.len
    refine ⟨_, rfl, xp, CP, dxp, _, _, rfl, s1 _ _ hxp, c.cp, c.p2, rfl, st, sv, rfl, SqL.of (s1 _ _ est), fun rp hrp => ?_⟩
    have s2 := s1.trans (same_new (o := .lst sv.reverse) hrp)
    have erp : (upd H1 rp (.lst sv.reverse)) rp = some (.lst sv.reverse) := upd_same
    have el2 := same_new (o := .lst sv.reverse) hrp _ _ el1
    have al2 := LitsAt.mono (Same.tups (same_new (o := .lst sv.reverse) hrp)) al1
    generalize upd H1 rp (.lst sv.reverse) = H2 at s2 erp el2 al2 ⊢
    have alr : Al (StepAt H2) sv.reverse pl.steps.reverse := (StepsAt.mono alst (Same.tups s2)).rev
    refine ⟨rp, rfl, ⟨_, SqL.of erp⟩, ?_⟩
    refine for_list (K := K) (a := rp) (xs := sv.reverse) (fun j σ H' => ∃ (u4 u5 u6 : Option V) (w : V) (y : Prt), σ = [some (.ref x), some (.ref xp), some w, some (.ref l1), u4, u5, u6] ∧ Same H2 H' ∧ PrtAt (er S H') w y.1 y.2 ∧ POk C (dd + j) (pl.L.take (Lin.length + (pl.steps.length - j))) y)
      ⟨none, none, none, w, y, rfl, Same.refl _, prt.mono (er_same s2), by rw [Nat.add_zero, Nat.sub_zero, ← plen, List.take_length]; exact pok⟩ (fun j σ H' _ q => by obtain ⟨_, _, _, _, _, _, sm, _⟩ := q; exact SqL.of (sm _ _ erp)) (fun j sx σ H3 hj q => ?_) fun σ H' q => ?_
    · obtain ⟨u4, u5, u6, w, y, rfl, sm, prt, pok⟩ := q
      obtain ⟨s, hs, t, rfl, ht⟩ := alr.at_ j sx hj
      have jlt := (List.getElem?_eq_some_iff.mp hs).1
      rw [List.length_reverse] at jlt
      rw [List.getElem?_reverse jlt] at hs
      obtain ⟨em, cl, l, hcl, hl, hLl, hother⟩ := ok.steps _ s hs
      obtain ⟨k1, a1, m1⟩ := s
      simp only at em hcl hl hLl hother
      have e1 : Lin.length + (pl.steps.length - j) = m1 + 1 := by omega
      have e2 : Lin.length + (pl.steps.length - (j + 1)) = m1 := by omega
      rw [e1, List.take_succ, hLl] at pok
      rw [show (some l).toList = [l] from rfl] at pok
      have s3 := s2.trans sm
      have sb3 := sb.same s3
      obtain ⟨xl, hp, alC⟩ := sb3.prob.at_
      obtain ⟨vc, hvc, cs, ⟨tc, rfl, htc⟩, alcl⟩ := alC.back hcl
      obtain ⟨lv, hlv, hlit⟩ := alcl.back hl
      obtain ⟨u, nl, ys, ⟨tw, rfl, htw⟩, hpap, enl, alnl⟩ := prt.mono er_le
      have mlt := (List.getElem?_eq_some_iff.mp hLl).1
      refine ⟨t, _, rfl, SqT.of (sm _ _ ht), rfl, _, _, rfl, _, _, rfl, _, _, rfl, rfl, ?_⟩
      refine ⟨_, rfl, x, CS, dx, _, _, rfl, s3 _ _ hx, c.cs, c.s2, rfl, _, rfl, p, xl, _, _, rfl, rfl, SqL.of hp, atI_nat hvc, _, rfl, tc, cs, _, _, rfl, rfl, SqT.of htc, atI_nat hlv, _, rfl, tw, _, _, _, rfl, rfl, SqT.of htw, rfl, litD l, y.2.map litD, hlit.dp, .lst (SqL.of enl) (LitsAt.dp alnl), litD_shaped l, litDs_shapedL y.2, _, rfl, ?_⟩
      rw [any_litD]
      by_cases c1 : l ∈ y.2
      · rw [decide_eq_true c1]
        have hx3 := s3 _ _ hx
        refine ⟨_, rfl, x, dx, _, rfl, hx3, rfl, _, rfl, _, rfl, x, dx, _, rfl, hx3, rfl, _, rfl, _, rfl, m1, rfl, l1, xs, rfl, SqL.of (sm _ _ el2), fun q hq => ?_⟩
        rw [cut_take (by omega)]
        have s4 := same_new (o := .lst (xs.take m1)) hq
        have eq4 : (upd H3 q (.lst (xs.take m1))) q = some (.lst (xs.take m1)) := upd_same
        generalize upd H3 q (.lst (xs.take m1)) = H4 at s4 eq4 ⊢
        refine ⟨_, rfl, fun pd4 hpd4 => ⟨_, rfl, _, rfl, upd_same, [(.inl (a1 : Int), .ref tw)], rfl, by show 1 ≤ 15; decide, ?_⟩⟩
        rw [upd_upd]
        have s5 := s4.trans (same_new (o := .dK (mergeK [] [(.inl (a1 : Int), V.ref tw)])) hpd4)
        have epd5 : (upd H4 pd4 (.dK (mergeK [] [(.inl (a1 : Int), V.ref tw)]))) pd4 = some (.dK (putK [] (.inl (a1 : Int)) (.ref tw))) := upd_same
        have eq5 := same_new (o := .dK (mergeK [] [(.inl (a1 : Int), V.ref tw)])) hpd4 _ _ eq4
        generalize upd H4 pd4 (.dK (mergeK [] [(.inl (a1 : Int), V.ref tw)])) = H5 at s5 epd5 eq5 ⊢
        have s35 := s3.trans s5
        refine ⟨x, S, p, d, q, pd4, n, C, pl.L.take m1, cl, k1, dd + j, xs.take m1, _, fun i => if i = a1 then some y else none, rfl, sb.same s35, eq5, (LitsAt.mono (Same.tups (sm.trans s5)) al2).take m1, lok_of ok.clo m1, by rw [List.length_take]; omega, hcl, epd5, fun i => ⟨fun e => ?_, fun z e => ?_⟩, fun i z m e hm => ?_, fun i m e hm v => ?_, fun H6 r zs ps s6 hr6 er6 alps lps oks => ?_⟩
        · rw [valV_put]
          by_cases q1 : i = a1
          · simp [q1] at e
          · rw [if_neg (fun e2 => q1 (by have := Sum.inl.inj e2; omega))]
            rfl
        · by_cases q1 : i = a1
          · subst q1
            simp at e
            subst e
            exact ⟨.ref tw, by rw [valV_put, if_pos rfl], prt.mono (er_same s5)⟩
          · simp [q1] at e
        · by_cases q1 : i = a1
          · subst q1
            simp at e
            subst e
            rw [hl] at hm
            cases hm
            exact pok
          · simp [q1] at e
        · by_cases q1 : i = a1
          · simp [q1] at e
          · exact hother i m hm q1 v
        have s36 := s35.trans s6
        refine ⟨x, S, p, d, r, n, C, pl.L.take m1, cl, k1, dd + j, zs, ps, rfl, sb.same s36, hcl, er6, alps, lps, by rw [List.length_take]; omega, oks, fun H7 w7 y7 s7 prt7 pok7 => ?_⟩
        exact ⟨_, _, _, w7, y7, rfl, sm.trans (s5.trans (s6.trans s7)), prt7, by rw [e2]; exact pok7⟩
      · rw [decide_eq_false c1]
        exact ⟨_, _, _, _, y, rfl, sm, prt, by rw [e2]; exact (pok.drop c1).mono (by omega)⟩
    · obtain ⟨u4, u5, u6, w, y, rfl, sm, prt, pok⟩ := q
      rw [List.length_reverse, lst, Nat.sub_self, Nat.add_zero, ok.take] at pok
      exact ⟨_, rfl, k H' w y (s2.trans sm) prt pok⟩

abbrev s_Search_finish : Stmt := inClass (top 43) 6
abbrev N_Search_finish : List Str := ["self", "place"]
theorem sc_Search_finish : FnScope N_Search_finish ["self", "place"] (defScope s_Search_finish) := ⟨rfl, rfl, rfl, by decide +kernel, rfl, by decide +kernel, by decide +kernel⟩
def sp_finish (CS CP CB : Addr) : Sp := fun vs H Q _ => ∃ (x S p d : Addr) (n : Nat) (C : List (List Lit)) (v : V) (pl : Pl) (Lin : List Lit) (win : Nat), vs = [.ref x, v] ∧ SB CS H x S n p d C ∧ PlAt CP CB (er S H) n v pl ∧ PlOk C n Lin win pl ∧ pl.L.length ≤ 900 ∧ (leftOf pl.D pl.cl).length ≤ pl.at_ ∧
  ∀ (H' : Hp) (w' : V) (y' : Prt), Same H H' → PrtAt (er S H') w' y'.1 y'.2 → POk C (pl.others.length + 1) pl.L y' → Q w' H'
theorem ok_finish {f : Addr} {fd : FuncData} {CS CP CB : Addr} (F : Fun K "finish" "Search.finish" s_Search_finish f fd) (c : SC K CS CP) (M_Bounds_literals : MDef P w K mg base 1 CB "literals" ["self"] (sp_literals CB)) (M_Search_cases : MDef P w K mg base 1 CS "cases" ["self", "k", "parts"] (sp_cases CS))
    (M_Search_refuted : MDef P w K mg base 4 CS "refuted" ["self", "literals", "k", "parts"] (sp_refuted CS)) : FnOk P w K mg base CX0 5 f fd ["self", "place"] (sp_finish CS CP CB) := by
  refine F.ok sc_Search_finish (fun vs H Q E h => ?_) (fun cdv A outer s H vs Q E hr h => ?_)
  · obtain ⟨x, S, p, d, n, C, v, pl, Lin, win, rfl, _⟩ := h
    rfl
  · obtain ⟨x, S, p, d, n, C, v, pl, Lin, win, rfl, sb, pat, ok, small, done, k⟩ := h
    refine ⟨_, (pss_one (ps_ret (methD (pv 0) M_Search_cases (hr.mono (by decide)) (pa_cons (fld K (pv 1)) (pa_cons (methD (pv 0) M_Search_refuted (hr.mono (by decide)) (pa_cons (methD0 (fld K (pv 1)) M_Bounds_literals (hr.mono (by decide))) (pa_cons (fld K (pv 1)) (pa_cons (fld K (pv 1)) pa_nil)))) pa_nil))))), ?_⟩
    obtain ⟨dx, hx⟩ := sb.me
    have pat0 := pat
    obtain ⟨xp, dxp, o, st, lf, pd, ot, kvs, rfl, hxp, pf, hpd, prts⟩ := pat
    have hxp := er_le _ _ hxp
    have hpd := er_le _ _ hpd
    obtain ⟨la, row, ba⟩ := (pf.mono er_le).bo
    obtain ⟨dxo, mao, ho, _⟩ := ba.me
    have okl := sb.prob.ok pl.cl (List.mem_of_getElem? ok.cl)
    refine ⟨_, rfl, x, dx, _, rfl, hx, rfl, _, rfl, xp, CP, dxp, _, _, rfl, hxp, c.cp, c.p3, rfl, _, rfl, x, dx, _, rfl, hx, rfl, _, rfl, xp, CP, dxp, _, _, rfl, hxp, c.cp, c.p1, rfl, o, dxo, _, rfl, ho, rfl, o, la, row, n, pl.L, pl.D, rfl, ba, fun H1 l1 xs s1 hl1 el1 al1 => ?_⟩
    refine ⟨_, rfl, xp, CP, dxp, _, _, rfl, s1 _ _ hxp, c.cp, c.p3, rfl, _, rfl, xp, CP, dxp, _, _, rfl, s1 _ _ hxp, c.cp, c.p5, rfl, ?_⟩
    refine ⟨x, S, p, d, l1, pd, n, C, pl.L, pl.cl, pl.k, pl.others.length, xs, kvs, pl.parts, rfl, sb.same s1, el1, al1, by have := lok_of ok.clo pl.L.length; rw [List.take_length] at this; exact this, small, ok.cl, s1 _ _ hpd, prts.mono (er_same s1), fun i y l e hl => ?_, fun i l e hl => ?_, fun H2 r zs ps s2 hr2 er2 alps lps oks => ?_⟩
    · obtain ⟨j, _, _, m, hm, pok⟩ := ok.parts i y e
      rw [hl] at hm
      cases hm
      exact pok
    · obtain ⟨ha, hb⟩ := okl l (List.mem_of_getElem? hl)
      refine sat_ref ok.clo ha hb ?_
      cases r : refB pl.D l with
      | true => rfl
      | false =>
        obtain ⟨j, hj⟩ := List.getElem?_of_mem (mem_left.mpr ⟨l, hl, r⟩)
        have jlt := (List.getElem?_eq_some_iff.mp hj).1
        obtain ⟨y, hy⟩ := ok.full j i (by omega) hj
        rw [e] at hy
        cases hy
    · have s12 := s1.trans s2
      exact ⟨x, S, p, d, r, n, C, pl.L, pl.cl, pl.k, pl.others.length, zs, ps, rfl, sb.same s12, ok.cl, er2, alps, lps, small, oks, fun H3 w3 y3 s3 prt3 pok3 => k H3 w3 y3 (s12.trans s3) prt3 pok3⟩
end
end D7
/-! D7, walk 15: search.py, close -/
namespace D7
open PySem L2

inductive Stk (CP CB S : Addr) (n : Nat) (H0 : Hp) : Hp → List V → List Pl → Prop
  | nil {H : Hp} : But S H0 H → Stk CP CB S n H0 H [] []
  | push {Hb H : Hp} {x dx o st lf pd ot : Addr} {kvs : List (Key × V)} {pl : Pl} {vs : List V} {pls : List Pl} : Stk CP CB S n H0 Hb vs pls → Hb x = none → Hb pd = none → But S Hb H → PlF CB (er S Hb) n pl o st lf ot → H x = some (.ins CP dx (plFs o st pl.k lf pd ot pl.at_)) → H pd = some (.dK kvs) → kvs.length ≤ pl.at_ →
      PrtsAt (er S H) kvs pl.parts → Stk CP CB S n H0 H (.ref x :: vs) (pl :: pls)
section
variable {CP CB S : Addr} {n : Nat} {H0 H H' : Hp} {vs : List V} {pls : List Pl}
theorem Stk.base (h : Stk CP CB S n H0 H vs pls) : But S H0 H := by
  induction h with
  | nil b => exact b
  | push _ _ _ b _ _ _ _ _ ih => exact ih.trans b
theorem Stk.mono (h : Stk CP CB S n H0 H vs pls) (b : But S H H') : Stk CP CB S n H0 H' vs pls := by
  cases h with
  | nil c => exact .nil (c.trans b)
  | push h1 h2 h3 h4 h5 h6 h7 h8 h9 =>
    obtain ⟨ys, hS⟩ := b.2.1
    exact .push h1 h2 h3 (h4.trans b) h5 (b.1 _ _ (ne_of h6 hS fun e => by cases e) h6) (b.1 _ _ (ne_of h7 hS fun e => by cases e) h7) h8 (h9.mono b.er)
theorem Stk.len (h : Stk CP CB S n H0 H vs pls) : vs.length = pls.length := by
  induction h with
  | nil _ => rfl
  | push _ _ _ _ _ _ _ _ _ ih => rw [List.length_cons, List.length_cons, ih]
end
inductive SChain (C : List (List Lit)) (n : Nat) (L0 : List Lit) (W0 : Nat) : List Pl → List Lit → Nat → Prop
  | nil : SChain C n L0 W0 [] L0 W0
  | cons {pls : List Pl} {Lin : List Lit} {win : Nat} {pl : Pl} {i : Nat} {l : Lit} : SChain C n L0 W0 pls Lin win → PlOk C n Lin win pl → (leftOf pl.D pl.cl)[pl.at_]? = some i → pl.cl[i]? = some l → SChain C n L0 W0 (pl :: pls) (pl.L ++ [l]) pl.others.length
/-- how much is still to be tried -/
def pot : List Pl → Nat
  | [] => 0
  | pl :: pls => ((leftOf pl.D pl.cl).length - pl.at_ - 1) * 5 ^ pl.others.length + pot pls
theorem left_len {D : Mat} {cl : List Lit} : (leftOf D cl).length ≤ cl.length := by
  unfold leftOf
  have := List.length_filter_le (fun i => (cl[i]?).any fun l => !refB D l) (List.range cl.length)
  rw [List.length_range] at this
  exact this
/-- the next literal of a place, once the part of this one is known -/
def Pl.put (pl : Pl) (i : Nat) (y : Prt) : Pl := { pl with parts := fun j => if j = i then some y else pl.parts j, at_ := pl.at_ + 1 }
theorem PlOk.put {C : List (List Lit)} {n : Nat} {Lin : List Lit} {win : Nat} {pl : Pl} (h : PlOk C n Lin win pl) {i : Nat} {l : Lit} {y : Prt} (hi : (leftOf pl.D pl.cl)[pl.at_]? = some i) (hl : pl.cl[i]? = some l) (ok : POk C pl.others.length (pl.L ++ [l]) y) : PlOk C n Lin win (pl.put i y) := by
  refine ⟨h.cl, h.clo, h.take, h.len, h.steps, h.deep, h.ent, h.oth, fun j z e => ?_, fun j m hj hm => ?_⟩
  · by_cases q : j = i
    · subst q
      have e : (if j = j then some y else pl.parts j) = some z := e
      rw [if_pos rfl] at e
      cases e
      exact ⟨pl.at_, Nat.lt_succ_self _, hi, l, hl, ok⟩
    · have e : (if j = i then some y else pl.parts j) = some z := e
      rw [if_neg q] at e
      obtain ⟨m, a, b⟩ := h.parts j z e
      exact ⟨m, Nat.lt_succ_of_lt a, b⟩
  · by_cases q : m = i
    · exact ⟨y, by show (if m = i then some y else pl.parts m) = some y; rw [if_pos q]⟩
    · have hj : j < pl.at_ + 1 := hj
      rcases Nat.lt_or_ge j pl.at_ with z | z
      · obtain ⟨y', e⟩ := h.full j m z hm
        exact ⟨y', by show (if m = i then some y else pl.parts m) = some y'; rw [if_neg q]; exact e⟩
      · have : j = pl.at_ := by omega
        subst this
        have hm : (leftOf pl.D pl.cl)[pl.at_]? = some m := hm
        rw [hi] at hm
        exact (q (Option.some.inj hm).symm).elim
theorem PrtsAt.put {E : Hp} {kvs : List (Key × V)} {f : Nat → Option Prt} (h : PrtsAt E kvs f) {i : Nat} {y : Prt} {w : V} (p : PrtAt E w y.1 y.2) : PrtsAt E (putK kvs (.inl (i : Int)) w) (fun j => if j = i then some y else f j) := fun a => by
  rw [valV_put]
  by_cases q : a = i
  · subst q
    simp only [if_true]
    exact ⟨fun e => (by cases e), fun x e => by cases e; exact ⟨w, rfl, p⟩⟩
  · rw [if_neg (fun e => q (by have := Sum.inl.inj e; omega))]
    simp only [q, if_false]
    exact h a
section
variable {P : Program} {w : World} {K : PySem.W.Frag} {mg : Str → Option Value} {base : Heap}
abbrev s_Search_close : Stmt := inClass (top 43) 7
abbrev N_Search_close : List Str := ["self", "part", "place", "at"]
theorem sc_Search_close : FnScope N_Search_close ["self", "part"] (defScope s_Search_close) := ⟨rfl, rfl, rfl, by decide +kernel, rfl, by decide +kernel, by decide +kernel⟩
def sp_close (CS CP CB : Addr) : Sp := fun vs H Q _ => ∃ (x S p d : Addr) (n : Nat) (C : List (List Lit)) (H0 : Hp) (xs : List V) (pls : List Pl) (L0 Lc : List Lit) (W0 wc : Nat) (w : V) (y : Prt), vs = [.ref x, w] ∧ SB CS H0 x S n p d C ∧ Stk CP CB S n H0 H xs pls ∧ H S = some (.lst xs.reverse) ∧ SChain C n L0 W0 pls Lc wc ∧ Lc.length ≤ 100 ∧
  PrtAt (er S H) w y.1 y.2 ∧ POk C wc Lc y ∧
  (∀ (H' : Hp) (xs' : List V) (pl' : Pl) (pls' : List Pl) (L' : List Lit), Stk CP CB S n H0 H' xs' (pl' :: pls') → H' S = some (.lst xs'.reverse) → SChain C n L0 W0 (pl' :: pls') L' pl'.others.length → 5 ^ pl'.others.length + pot (pl' :: pls') ≤ pot pls → Q .non H') ∧
  ∀ (H' : Hp) (w' : V) (y' : Prt), But S H0 H' → PrtAt (er S H') w' y'.1 y'.2 → POk C W0 L0 y' → Q w' H'
theorem ok_close {f : Addr} {fd : FuncData} {CS CP CB : Addr} (F : Fun K "close" "Search.close" s_Search_close f fd) (c : SC K CS CP) (B : Bt mg) (M_Search_behind : MDef P w K mg base 5 CS "behind" ["self", "place", "part"] (sp_behind CS CP CB)) (M_Search_finish : MDef P w K mg base 5 CS "finish" ["self", "place"] (sp_finish CS CP CB)) :
    FnOk P w K mg base CX0 6 f fd ["self", "part"] (sp_close CS CP CB) := by
  refine F.ok sc_Search_close (fun vs H Q E h => ?_) (fun cdv A outer s H vs Q E hr h => ?_)
  · obtain ⟨x, S, p, d, n, C, H0, xs, pls, L0, Lc, W0, wc, w, y, rfl, _⟩ := h
    rfl
  · obtain ⟨x, S, p, d, n, C, H0, xs, pls, L0, Lc, W0, wc, w, y, rfl, sb0, stk, eS, ch, small, prt, pok, kn, kp⟩ := h
    refine ⟨_, (pss_cons (ps_while PassesOwn.never (pt_cmpR op_gt (pe_callB (cLen K) (by rfl) B.len (by decide +kernel) (pa_cons (fld K (pv 0)) pa_nil)) pe_int (nomark _)) (pss_cons (ps_set (i := 2) sc_Search_close.nd rfl (Or.inl rfl) (pe_ix (ixL K) (fld K (pv 0)) (pe_un un_neg pe_int) (fun _ _ => rfl)))
        (pss_cons (ps_set (i := 3) sc_Search_close.nd rfl (Or.inl rfl) (pe_ix (ixL K) (fld K (pv 2)) (fld K (pv 2)) (fun _ _ => rfl)))
        (pss_cons (ps_if (pt_cmpR (inL K (room65 hr)) (pe_ix (ixT K) (pe_ix (ixL K) (fld K (pv 0)) (fld K (pv 2)) (fun _ _ => rfl)) (pv 3) (fun _ _ => rfl)) (pe_ix (ixT K) (pv 1) pe_int (fun _ _ => rfl)) (by rfl)) (pss_cons (ps_dput (hu_of hr) (fld K (pv 2)) (pv 3) (pv 1) rfl)
          (pss_cons (ps_fldaug (pv 2) pe_int in_add)
          (pss_cons (ps_if (pt_cmpR op_lt (fld K (pv 2)) (pe_callB (cLen K) (by rfl) B.len (by decide +kernel) (pa_cons (fld K (pv 2)) pa_nil)) (nomark _)) (pss_one (ps_ret pe_non)) pss_nil)
          (pss_one (ps_set (i := 1) sc_Search_close.nd rfl (Or.inl rfl) (methD (pv 0) M_Search_finish (hr.mono (by decide)) (pa_cons (pv 2) pa_nil))))))) pss_nil)
        (pss_cons (ps_set (i := 1) sc_Search_close.nd rfl (Or.inl rfl) (methD (pv 0) M_Search_behind (hr.mono (by decide)) (pa_cons (pv 2) (pa_cons (pv 1) pa_nil))))
        (pss_one (ps_expr (pe_bm0 PySem.F.plainAttrs_list PySem.F.slot_list_pop PySem.F.type_list_pop mt_pop (fld K (pv 0))))))))))
      (pss_one (ps_ret (pv 1)))), ?_⟩
    refine ⟨fun m σ H' => ∃ (u2 u3 : Option V) (w : V) (y : Prt) (vs : List V) (pls' : List Pl) (Lc : List Lit) (wc : Nat), σ = [some (.ref x), some w, u2, u3] ∧ Stk CP CB S n H0 H' vs pls' ∧ H' S = some (.lst vs.reverse) ∧ SChain C n L0 W0 pls' Lc wc ∧ Lc.length ≤ 100 ∧ PrtAt (er S H') w y.1 y.2 ∧ POk C wc Lc y ∧ pot pls' ≤ pot pls ∧ m = vs.length,
      ⟨_, none, none, w, y, xs, pls, Lc, wc, rfl, stk, eS, ch, small, prt, pok, Nat.le_refl _, rfl⟩, fun m σ H1 q => ?_⟩
    clear stk eS ch small prt pok
    obtain ⟨u2, u3, w, y, vs, pls', Lc, wc, rfl, stk, eS, ch, small, prt, pok, lepot, rfl⟩ := q
    have sb := sb0.mono stk.base
    obtain ⟨dx, hx⟩ := sb.me
    have slen := stk.len
    have rl : vs.reverse.length = vs.length := List.length_reverse
    refine ⟨_, rfl, x, CS, dx, _, _, rfl, hx, c.cs, c.s4, rfl, S, _, rfl, .inl (SqL.of eS), _, _, rfl, rfl, _, rfl, ?_⟩
    rw [gt0, rl]
    cases stk with
    | nil b =>
      rw [show decide (0 < ([] : List V).length) = false from decide_eq_false (by simp)]
      cases ch with
      | nil => exact ⟨_, rfl, kp H1 w y b prt pok⟩
    | @push Hb _ xp dxp o st lf pd ot kvs pl vs pls2 stk0 fx fpd bb pf hxp hpd lkv prts =>
      cases ch with
      | @cons _ Lin win _ i l ch0 ok hi hl =>
      rw [show decide (0 < (V.ref xp :: vs).length) = true from decide_eq_true (by simp)]
      refine ⟨_, fun σ' H3 n3 => n3, ?_⟩
      have er : (V.ref xp :: vs).reverse = vs.reverse ++ [V.ref xp] := List.reverse_cons
      rw [er] at eS
      have pf1 := pf.mono bb.er
      have pfH := pf1.mono er_le
      have ilt := (List.getElem?_eq_some_iff.mp hi).1
      have lleft := left_len (D := pl.D) (cl := pl.cl)
      have short := sb.prob.short pl.cl (List.mem_of_getElem? ok.cl)
      obtain ⟨xl, hp, alC⟩ := sb.prob.at_
      obtain ⟨vc, hvc, cs, ⟨tc, rfl, htc⟩, alcl⟩ := alC.back ok.cl
      obtain ⟨lv, hlv, hlit⟩ := alcl.back hl
      obtain ⟨u, nl, ys, ⟨tw, rfl, htw⟩, hpap, enl, alnl⟩ := prt.mono er_le
      have llen : pl.L.length ≤ 100 := by
        rw [List.length_append, List.length_singleton] at small
        omega
      -- what comes behind
      have tail : ∀ (D : Ends) (H2 : Hp) (w : V) (plx : Pl) (y : Prt) (u3 : Option V), But S Hb H2 → H2 S = some (.lst (vs.reverse ++ [V.ref xp])) → PlAt CP CB (D7.er S H2) n (.ref xp) plx → plx.L = pl.L → plx.steps = pl.steps → PlOk C n Lin win plx → PrtAt (D7.er S H2) w y.1 y.2 → POk C (pl.others.length + 1) pl.L y →
          (∀ H3 w3 y3 u3, Stk CP CB S n H0 H3 vs pls2 → H3 S = some (.lst vs.reverse) → PrtAt (D7.er S H3) w3 y3.1 y3.2 → POk C win Lin y3 → D.nx [some (.ref x), some w3, some (.ref xp), u3] H3) →
          tSeq (tAsg (tMeth CS "behind" (sp_behind CS CP CB) [] E0 (tVar 0) (tCons (tVar 2) (tCons (tVar 1) tNil))) (gName 1)) (tDrop (tBM0 K "list" rPop (tFld K (tVar 0) "places"))) D [some (.ref x), some w, some (.ref xp), u3] H2 := by
        intro D H2 w plx y u3 b2 eS2 pat2 eL eSt ok2 prt2 pok2 kk
        have sb2 := (sb0.mono stk0.base).mono b2
        obtain ⟨dx2, hx2⟩ := sb2.me
        refine ⟨_, rfl, x, dx2, _, rfl, hx2, rfl, _, rfl, _, rfl, x, S, p, d, n, C, .ref xp, w, plx, y, Lin, win, pl.others.length + 1, rfl, sb2, pat2, ok2, by rw [eL]; omega, prt2, by rw [eL]; exact pok2, fun H3 w3 y3 s3 prt3 pok3 => ?_⟩
        have sb3 := sb2.same s3
        obtain ⟨dx3, hx3⟩ := sb3.me
        have eS3 := s3 _ _ eS2
        refine ⟨_, rfl, x, CS, dx3, _, _, rfl, hx3, c.cs, c.s4, rfl, .inl ⟨rfl, _, SqL.of eS3⟩, S, _, _, rfl, rfl, eS3, last_snoc, ?_⟩
        rw [List.dropLast_concat]
        have b3 : But S H3 (upd H3 S (.lst vs.reverse)) := (But.of (Same.refl _) eS3).stk
        have dp := ok.deep
        rw [eSt] at pok3
        exact kk _ w3 y3 _ (stk0.mono ((b2.trans (But.of s3 eS2)).trans b3)) upd_same (prt3.mono b3.er) (pok3.mono (by omega))
      refine ⟨_, rfl, x, CS, dx, _, _, rfl, hx, c.cs, c.s4, rfl, _, rfl, S, _, _, _, rfl, rfl, SqL.of eS, atI_last _ _, ?_⟩
      refine ⟨_, rfl, xp, CP, dxp, _, _, rfl, hxp, c.cp, c.p4, rfl, _, rfl, xp, CP, dxp, _, _, rfl, hxp, c.cp, c.p7, rfl, lf, _, _, _, rfl, rfl, SqL.of pfH.lf, atI_nat (natsV_at hi), ?_⟩
      refine ⟨_, rfl, x, CS, dx, _, _, rfl, hx, c.cs, c.s2, rfl, _, rfl, xp, CP, dxp, _, _, rfl, hxp, c.cp, c.p3, rfl, p, xl, _, _, rfl, rfl, SqL.of hp, atI_nat hvc, _, rfl, tc, cs, _, _, rfl, rfl, SqT.of htc, atI_nat hlv, _, rfl, tw, _, _, _, rfl, rfl, SqT.of htw, rfl, litD l, y.2.map litD, hlit.dp, .lst (SqL.of enl) (LitsAt.dp alnl), litD_shaped l, litDs_shapedL y.2, _, rfl, ?_⟩
      rw [any_litD]
      have mpot : pot (pl :: pls2) = ((leftOf pl.D pl.cl).length - pl.at_ - 1) * 5 ^ pl.others.length + pot pls2 := rfl
      by_cases cm : l ∈ y.2
      · rw [decide_eq_true cm]
        refine ⟨_, rfl, _, rfl, xp, CP, dxp, _, _, rfl, hxp, c.cp, c.p5, rfl, _, rfl, pd, _, rfl, DPut.k (k := .inl (i : Int)) hpd (small1000 (by omega)), ?_⟩
        have nSx : xp ≠ S := ne_of hxp eS fun e => by cases e
        have nSp : pd ≠ S := ne_of hpd eS fun e => by cases e
        have nxp : xp ≠ pd := ne_of hxp hpd fun e => by cases e
        refine ⟨_, rfl, xp, CP, dxp, _, _, rfl, (upd_ne nxp).trans hxp, c.cp, c.p7, rfl, _, _, rfl, rfl, dxp, _, (upd_ne nxp).trans hxp, by show 7 < 1000; decide, ?_⟩
        rw [show putF "at" (V.int ((pl.at_ : Int) + 1)) (plFs o st pl.k lf pd ot pl.at_) = plFs o st pl.k lf pd ot (pl.at_ + 1) from rfl]
        have b2 : But S Hb (upd (upd H1 pd (.dK (putK kvs (.inl (i : Int)) (.ref tw)))) xp (.ins CP dxp (plFs o st pl.k lf pd ot (pl.at_ + 1)))) := (bb.mut fpd).mut fx
        have x2 : (upd (upd H1 pd (.dK (putK kvs (.inl (i : Int)) (.ref tw)))) xp (.ins CP dxp (plFs o st pl.k lf pd ot (pl.at_ + 1)))) xp = some (.ins CP dxp (plFs o st (pl.put i y).k lf pd ot (pl.put i y).at_)) := upd_same
        have p2 : (upd (upd H1 pd (.dK (putK kvs (.inl (i : Int)) (.ref tw)))) xp (.ins CP dxp (plFs o st pl.k lf pd ot (pl.at_ + 1)))) pd = some (.dK (putK kvs (.inl (i : Int)) (.ref tw))) := by rw [upd_ne nxp.symm, upd_same]
        have eS2 : (upd (upd H1 pd (.dK (putK kvs (.inl (i : Int)) (.ref tw)))) xp (.ins CP dxp (plFs o st pl.k lf pd ot (pl.at_ + 1)))) S = some (.lst (vs.reverse ++ [V.ref xp])) := by rw [upd_ne nSx.symm, upd_ne nSp.symm]; exact eS
        have keepL : ∀ {v : V} {q : Paper} {nd : List Lit}, PrtAt (D7.er S H1) v q nd → PrtAt (D7.er S (upd (upd H1 pd (.dK (putK kvs (.inl (i : Int)) (.ref tw)))) xp (.ins CP dxp (plFs o st pl.k lf pd ot (pl.at_ + 1))))) v q nd := fun {v q nd} h => by
          obtain ⟨u, nl, ys, a, b, c', d'⟩ := h
          have tp : Tups (D7.er S H1) (D7.er S (upd (upd H1 pd (.dK (putK kvs (.inl (i : Int)) (.ref tw)))) xp (.ins CP dxp (plFs o st pl.k lf pd ot (pl.at_ + 1))))) := fun z zs e => by
            obtain ⟨n1, e⟩ := er_of e
            exact er_mk n1 (by rw [upd_ne (ne_of e hxp fun e => by cases e), upd_ne (ne_of e hpd fun e => by cases e)]; exact e)
          obtain ⟨n1, e⟩ := er_of c'
          exact ⟨u, nl, ys, a.mono tp, b.mono tp, er_mk n1 (by rw [upd_ne (ne_of e hxp fun e => by cases e), upd_ne (ne_of e hpd fun e => by cases e)]; exact e), LitsAt.mono tp d'⟩
        have prts2 : PrtsAt (D7.er S (upd (upd H1 pd (.dK (putK kvs (.inl (i : Int)) (.ref tw)))) xp (.ins CP dxp (plFs o st pl.k lf pd ot (pl.at_ + 1))))) (putK kvs (.inl (i : Int)) (.ref tw)) (pl.put i y).parts :=
          PrtsAt.put (fun a => ⟨(prts a).1, fun z e => let ⟨v, q1, q2⟩ := (prts a).2 z e; ⟨v, q1, keepL q2⟩⟩) (keepL prt)
        have prt2 := keepL prt
        generalize upd (upd H1 pd (.dK (putK kvs (.inl (i : Int)) (.ref tw)))) xp (.ins CP dxp (plFs o st pl.k lf pd ot (pl.at_ + 1))) = H2 at b2 x2 p2 eS2 prts2 prt2 ⊢
        have pf2 : PlF CB (D7.er S H2) n (pl.put i y) o st lf ot := by
          have := pf.mono b2.er
          exact ⟨this.bo, this.st, this.lf, this.ot⟩
        have ok2 : PlOk C n Lin win (pl.put i y) := ok.put hi hl pok
        refine ⟨_, rfl, xp, CP, dxp, _, _, rfl, x2, c.cp, c.p7, rfl, _, rfl, xp, CP, dxp, _, _, rfl, x2, c.cp, c.p4, rfl, lf, _, rfl, .inl (SqL.of (er_le _ _ pf2.lf)), _, _, rfl, rfl, _, rfl, ?_⟩
        rw [natsV_len]
        have ed : decide ((((pl.put i y).at_ : Nat) : Int) < ((leftOf (pl.put i y).D (pl.put i y).cl).length : Int)) = decide (pl.at_ + 1 < (leftOf pl.D pl.cl).length) := by
          rw [Bool.eq_iff_iff, decide_eq_true_eq, decide_eq_true_eq]
          show ((pl.at_ + 1 : Nat) : Int) < ((leftOf pl.D pl.cl).length : Int) ↔ _
          omega
        rw [ed]
        by_cases c1 : pl.at_ + 1 < (leftOf pl.D pl.cl).length
        · rw [decide_eq_true c1]
          obtain ⟨i2, hi2⟩ : ∃ i2, (leftOf pl.D pl.cl)[pl.at_ + 1]? = some i2 := ⟨_, List.getElem?_eq_getElem c1⟩
          obtain ⟨l2, hl2, _⟩ := mem_left.mp (List.mem_of_getElem? hi2)
          refine kn H2 (.ref xp :: vs) (pl.put i y) pls2 _ (.push stk0 fx fpd b2 ?_ x2 p2 ?_ prts2) (by rw [er]; exact eS2) (.cons ch0 ok2 hi2 hl2) ?_
          · exact ⟨pf.bo, pf.st, pf.lf, pf.ot⟩
          · have := length_putK kvs (.inl (i : Int)) (V.ref tw)
            show _ ≤ pl.at_ + 1
            omega
          · have m2 : pot (pl.put i y :: pls2) = ((leftOf pl.D pl.cl).length - (pl.at_ + 1) - 1) * 5 ^ pl.others.length + pot pls2 := rfl
            have e1 : (leftOf pl.D pl.cl).length - pl.at_ - 1 = ((leftOf pl.D pl.cl).length - (pl.at_ + 1) - 1) + 1 := by omega
            rw [e1, Nat.add_mul, Nat.one_mul] at mpot
            have e2 : (pl.put i y).others = pl.others := rfl
            rw [e2]
            omega
        · rw [decide_eq_false c1]
          have sb2 := (sb0.mono stk0.base).mono b2
          obtain ⟨dx2, hx2⟩ := sb2.me
          refine ⟨_, rfl, x, dx2, _, rfl, hx2, rfl, _, rfl, x, S, p, d, n, C, .ref xp, pl.put i y, Lin, win, rfl, sb2, ⟨xp, dxp, o, st, lf, pd, ot, _, rfl, er_mk nSx x2, pf2, er_mk nSp p2, prts2⟩, ok2, by show pl.L.length ≤ 900; omega, by show (leftOf pl.D pl.cl).length ≤ pl.at_ + 1; omega, fun H3 w3 y3 s3 prt3 pok3 => ?_⟩
          refine tail _ H3 w3 (pl.put i y) y3 _ (b2.trans (But.of s3 eS2)) (s3 _ _ eS2) ⟨xp, dxp, o, st, lf, pd, ot, _, rfl, er_mk nSx (s3 _ _ x2), pf2.mono (er_same s3), er_mk nSp (s3 _ _ p2), prts2.mono (er_same s3)⟩ rfl rfl ok2 prt3 pok3 fun H4 w4 y4 u4 stk4 eS4 prt4 pok4 => ?_
          refine ⟨vs.length, by simp, _, u4, w4, y4, vs, pls2, Lin, win, rfl, stk4, eS4, ch0, ?_, prt4, pok4, by omega, rfl⟩
          have := ok.len
          omega
      · rw [decide_eq_false cm]
        have nSx : xp ≠ S := ne_of hxp eS fun e => by cases e
        have nSp : pd ≠ S := ne_of hpd eS fun e => by cases e
        refine tail _ H1 (.ref tw) pl y _ bb eS ⟨xp, dxp, o, st, lf, pd, ot, kvs, rfl, er_mk nSx hxp, pf1, er_mk nSp hpd, prts⟩ rfl rfl ok prt ((pok.drop cm).mono (by omega)) fun H4 w4 y4 u4 stk4 eS4 prt4 pok4 => ?_
        refine ⟨vs.length, by simp, _, u4, w4, y4, vs, pls2, Lin, win, rfl, stk4, eS4, ch0, ?_, prt4, pok4, by omega, rfl⟩
        have := ok.len
        omega
end
end D7
/-! D7, walk 16: search.py, run -/
namespace D7
open PySem L2

theorem SChain.small {C : List (List Lit)} {n : Nat} {L0 : List Lit} {W0 : Nat} {pls : List Pl} {L : List Lit} {w : Nat} (h : SChain C n L0 W0 pls L w) : L.length + w ≤ L0.length + W0 := by
  induction h with
  | nil => exact Nat.le_refl _
  | cons _ ok _ _ ih =>
    have := ok.len
    have := ok.deep
    rw [List.length_append, List.length_singleton]
    omega
theorem SChain.many {C : List (List Lit)} {n : Nat} {L0 : List Lit} {W0 : Nat} {pls : List Pl} {L : List Lit} {w : Nat} (h : SChain C n L0 W0 pls L w) : pls.length ≤ L.length := by
  induction h with
  | nil => exact Nat.zero_le _
  | cons _ ok _ _ ih =>
    have := ok.len
    rw [List.length_append, List.length_singleton, List.length_cons]
    omega
section
variable {P : Program} {w : World} {K : PySem.W.Frag} {mg : Str → Option Value} {base : Heap}
abbrev s_Search_run : Stmt := inClass (top 43) 8
abbrev N_Search_run : List Str := ["self", "bounds", "waiting", "place", "paper"]
theorem sc_Search_run : FnScope N_Search_run ["self", "bounds", "waiting"] (defScope s_Search_run) := ⟨rfl, rfl, rfl, by decide +kernel, rfl, by decide +kernel, by decide +kernel⟩
def RunInv (CP CB x S : Addr) (n : Nat) (C : List (List Lit)) (L0 : List Lit) (W0 : Nat) (H0 : Hp) (m : Nat) (σ : L2.St) (H' : Hp) : Prop := ∃ (u3 u4 : Option V) (o la wl : Addr) (row : Nat → Addr) (L : List Lit) (D : Mat) (ws : List Nat) (vs : List V) (pls : List Pl), σ = [some (.ref x), some (.ref o), some (.ref wl), u3, u4] ∧ Stk CP CB S n H0 (erB la row n H') vs pls ∧ erB la row n H' S = some (.lst vs.reverse) ∧ SChain C n L0 W0 pls L ws.length ∧
  BAt CB (er S H') o la row n L D ∧ Clo n L D ∧ erB la row n H' wl = some (.lst (natsV ws)) ∧ (∀ k ∈ ws, k < C.length) ∧ (∀ (j : Nat) cl, C[j]? = some cl → j ∉ ws → Ent L cl) ∧ m = 5 ^ ws.length + pot pls
def tailT (K : PySem.W.Frag) (CB : Addr) : TS := tSeq (tAsg (tOp (rIxL K) (tFld K (tVar 0) "places") (tUn (rU fun i => V.int (-i)) (tC (V.int 1)))) (gName 3)) (tSeq (tAsg (tMeth CB "copy" (sp_copy CB) [] E0 (tFld K (tVar 3) "bounds") tNil) (gName 1)) (tSeq (tAsg (tFld K (tVar 3) "others") (gName 2))
  (tDrop (tCall (sp_keep CB) [] E0 (tCons (tVar 1) (tCons (tOp (rIxT K) (tOp (rIxL K) (tFld K (tVar 0) "clauses") (tFld K (tVar 3) "k")) (tOp (rIxL K) (tFld K (tVar 3) "left") (tFld K (tVar 3) "at"))) tNil))))))
def sp_run (CS CP CB : Addr) : Sp := fun vs H Q _ => ∃ (x S p d o la wl : Addr) (n : Nat) (C : List (List Lit)) (row : Nat → Addr) (L : List Lit) (D : Mat) (ws : List Nat), vs = [.ref x, .ref o, .ref wl] ∧ SB CS (erB la row n H) x S n p d C ∧ erB la row n H S = some (.lst []) ∧ BAt CB (er S H) o la row n L D ∧ Clo n L D ∧
  erB la row n H wl = some (.lst (natsV ws)) ∧ (∀ k ∈ ws, k < C.length) ∧ (∀ (j : Nat) cl, C[j]? = some cl → j ∉ ws → Ent L cl) ∧ L.length + ws.length ≤ 100 ∧ (∀ m ∈ L, [m] ∈ C) ∧
  (∀ (H' : Hp) (T t : Addr) (v : Val), But S (erB la row n H) H' → H' T = some (.tup [.str "values", .ref t]) → H' t = some (.tup (intsV n v)) → SatC v C → Q (.ref T) H') ∧
  ∀ (H' : Hp) (T : Addr) (u : V) (q : Paper), But S (erB la row n H) H' → H' T = some (.tup [.str "paper", u]) → PapAt H' u q → Acc C [] q → Fine 7 ws.length q → Q (.ref T) H'
theorem ok_run {f : Addr} {fd : FuncData} {CS CP CB : Addr} (F : Fun K "run" "Search.run" s_Search_run f fd) (c : SC K CS CP) (B : Bt mg) (D_keep : Def P w K mg base 4 "keep" ["bounds", "literal"] (sp_keep CB)) (M_Bounds_any_values : MDef P w K mg base 2 CB "any_values" ["self"] (sp_any_values CB))
    (M_Bounds_copy : MDef P w K mg base 4 CB "copy" ["self"] (sp_copy CB)) (M_Search_behind : MDef P w K mg base 5 CS "behind" ["self", "place", "part"] (sp_behind CS CP CB)) (M_Search_close : MDef P w K mg base 6 CS "close" ["self", "part"] (sp_close CS CP CB))
    (M_Search_enter : MDef P w K mg base 5 CS "enter" ["self", "bounds", "waiting"] (sp_enter CS CP CB)) (M_Search_finish : MDef P w K mg base 5 CS "finish" ["self", "place"] (sp_finish CS CP CB)) : FnOk P w K mg base CX0 7 f fd ["self", "bounds", "waiting"] (sp_run CS CP CB) := by
  refine F.ok sc_Search_run (fun vs H Q E h => ?_) (fun cdv A outer s H vs Q E hr h => ?_)
  · obtain ⟨x, S, p, d, o, la, wl, n, C, row, L, D, ws, rfl, _⟩ := h
    rfl
  · obtain ⟨x, S, p, d, o, la, wl, n, C, row, L0, D, ws0, rfl, sb0, eS0, ba, clo, ew, wok, ent, small, single, kv, kp⟩ := h
    refine ⟨_, (pss_one (ps_while PassesOwn.never (pt_val pe_bl) (pss_cons (ps_set (i := 3) sc_Search_run.nd rfl (Or.inl rfl) (methD (pv 0) M_Search_enter (hr.mono (by decide)) (pa_cons (pv 1) (pa_cons (pv 2) pa_nil))))
        (pss_cons (ps_if (pt_cmpR op_isN (pv 3) pe_non (nomark _)) (pss_one (ps_ret (pe_tup (pa_cons pe_str (pa_cons (methD0 (pv 1) M_Bounds_any_values (hr.mono (by decide))) pa_nil))))) pss_nil)
        (pss_cons (ps_if (pt_cmpR op_gt (pe_callB (cLen K) (by rfl) B.len (by decide +kernel) (pa_cons (fld K (pv 3)) pa_nil)) pe_int (nomark _)) (pss_one (ps_expr (pe_bm PySem.F.plainAttrs_list PySem.F.slot_list_append PySem.F.type_list_append mt_append (fld K (pv 0)) (pa_cons (pv 3) pa_nil)))) (pss_cons (ps_set (i := 4) sc_Search_run.nd rfl (Or.inl rfl) (methD (pv 0) M_Search_close (hr.mono (by decide)) (pa_cons (methD (pv 0) M_Search_behind (hr.mono (by decide)) (pa_cons (pv 3) (pa_cons (methD (pv 0) M_Search_finish (hr.mono (by decide)) (pa_cons (pv 3) pa_nil)) pa_nil))) pa_nil)))
          (pss_one (ps_if (pt_cmpR op_notN (pv 4) pe_non (nomark _)) (pss_one (ps_ret (pe_tup (pa_cons pe_str (pa_cons (pe_ix (ixT K) (pv 4) pe_int (fun _ _ => rfl)) pa_nil))))) pss_nil))))
        (pss_cons (ps_set (i := 3) sc_Search_run.nd rfl (Or.inl rfl) (pe_ix (ixL K) (fld K (pv 0)) (pe_un un_neg pe_int) (fun _ _ => rfl)))
        (pss_cons (ps_set (i := 1) sc_Search_run.nd rfl (Or.inl rfl) (methD0 (fld K (pv 3)) M_Bounds_copy (hr.mono (by decide))))
        (pss_cons (ps_set (i := 2) sc_Search_run.nd rfl (Or.inl rfl) (fld K (pv 3)))
        (pss_one (ps_expr (callD D_keep (hr.mono (by decide)) rfl (pa_cons (pv 1) (pa_cons (pe_ix (ixT K) (pe_ix (ixL K) (fld K (pv 0)) (fld K (pv 3)) (fun _ _ => rfl)) (pe_ix (ixL K) (fld K (pv 3)) (fld K (pv 3)) (fun _ _ => rfl)) (fun _ _ => rfl)) pa_nil))))))))))))), ?_⟩
    generalize eH0 : erB la row n H = H0 at sb0 kv kp
    refine ⟨RunInv CP CB x S n C L0 ws0.length H0,
      ⟨_, none, none, o, la, wl, row, L0, D, ws0, [], [], rfl, .nil (by rw [← eH0]; exact But.of (Same.refl _) eS0), eS0, .nil, ba, clo, ew, wok, ent, rfl⟩, fun m σ H1 q => ?_⟩
    clear eS0 ba clo ew wok ent eH0
    have tail : ∀ (D : Ends) (H5 : Hp) (u3 u4 : Option V) (xp : Addr) (vs : List V) (pl : Pl) (pls' : List Pl) (L' : List Lit) (o wl : Addr), Stk CP CB S n H0 H5 (.ref xp :: vs) (pl :: pls') → H5 S = some (.lst (V.ref xp :: vs).reverse) → SChain C n L0 ws0.length (pl :: pls') L' pl.others.length → 5 ^ pl.others.length + pot (pl :: pls') < m →
        (∀ σ' H', (∃ m', m' < m ∧ RunInv CP CB x S n C L0 ws0.length H0 m' σ' H') → D.nx σ' H') → tailT K CB D [some (.ref x), some (.ref o), some (.ref wl), u3, u4] H5 := by
      intro D H5 u3 u4 xp vs pl pls2 L' o wl stk5 eS5 ch5 less hD
      have sb5 := sb0.mono stk5.base
      have stk6 := stk5
      cases stk5 with
      | @push Hb _ xp dxp o5 st5 lf5 pd5 ot5 kvs pl vs pls2 stk0 fx fpd bb pf hxp hpd lkv prts =>
      cases ch5 with
      | @cons _ Lin win _ i l ch0 ok hi hl =>
      obtain ⟨dx5, hx5⟩ := sb5.me
      have pfH := (pf.mono bb.er).mono er_le
      obtain ⟨la5, row5, ba5⟩ := pfH.bo
      obtain ⟨dxo, mao, ho, _⟩ := ba5.me
      have er_ : (V.ref xp :: vs).reverse = vs.reverse ++ [V.ref xp] := List.reverse_cons
      have eS6 := eS5
      rw [er_] at eS6
      have ch6 : SChain C n L0 ws0.length (pl :: pls2) (pl.L ++ [l]) pl.others.length := .cons ch0 ok hi hl
      have sml6 := ch6.small
      rw [List.length_append, List.length_singleton] at sml6
      have okl := sb5.prob.ok pl.cl (List.mem_of_getElem? ok.cl)
      obtain ⟨ha, hb⟩ := okl l (List.mem_of_getElem? hl)
      refine ⟨_, rfl, x, CS, dx5, _, _, rfl, hx5, c.cs, c.s4, rfl, _, rfl, S, _, _, _, rfl, rfl, SqL.of eS6, atI_last _ _, ?_⟩
      refine ⟨_, rfl, xp, CP, dxp, _, _, rfl, hxp, c.cp, c.p1, rfl, o5, dxo, _, rfl, ho, rfl, o5, la5, row5, n, pl.L, pl.D, rfl, ba5, fun H6 o6 la6 row6 s6 ba6 f1 f2 f3 f4 => ?_⟩
      have hx6 := s6 _ _ hx5
      have hxp6 := s6 _ _ hxp
      have sb6 := sb5.same s6
      obtain ⟨xl, hp, alC⟩ := sb6.prob.at_
      obtain ⟨vc, hvc, cs, ⟨tc, rfl, htc⟩, alcl⟩ := alC.back ok.cl
      obtain ⟨lv, hlv, hlit⟩ := alcl.back hl
      refine ⟨_, rfl, xp, CP, dxp, _, _, rfl, hxp6, c.cp, c.p6, rfl, ?_⟩
      refine ⟨_, rfl, _, rfl, x, CS, dx5, _, _, rfl, hx6, c.cs, c.s2, rfl, _, rfl, xp, CP, dxp, _, _, rfl, hxp6, c.cp, c.p3, rfl, p, xl, _, _, rfl, rfl, SqL.of hp, atI_nat hvc, _, rfl, xp, CP, dxp, _, _, rfl, hxp6, c.cp, c.p4, rfl, _, rfl, xp, CP, dxp, _, _, rfl, hxp6, c.cp, c.p7, rfl, lf5, _, _, _, rfl, rfl, SqL.of (s6 _ _ pfH.lf), atI_nat (natsV_at hi), tc, cs, _, _, rfl, rfl, SqT.of htc, atI_nat hlv, ?_⟩
      obtain ⟨l', hl', hr'⟩ := mem_left.mp (List.mem_of_getElem? hi)
      rw [hl] at hl'
      cases hl'
      refine ⟨o6, la6, row6, n, pl.L, pl.D, lv, l, rfl, ba6, ok.clo, hlit, ha, hb, by omega, fun h => (by rw [hr'] at h; cases h), fun _ H7 D7 out7 ba7 clo7 => ?_⟩
      have s57 : Same H5 (erB la6 row6 n H7) := (erB_new s6 f2 f3).trans out7.erB
      have eS7 := s57 _ _ eS5
      have b57 : But S H5 (erB la6 row6 n H7) := But.of s57 eS5
      refine hD _ _ ⟨5 ^ pl.others.length + pot (pl :: pls2), less, some (.ref xp), u4, o6, la6, ot5, row6, pl.L ++ [l], D7, pl.others, .ref xp :: vs, pl :: pls2, rfl, stk6.mono b57, eS7, ch6, BAt.erOut (f4 S _ eS5) (s6 _ _ eS5) out7 ba7, clo7, s57 _ _ pfH.ot, ok.oth, fun j cl hj hn => ?_, rfl⟩
      by_cases q : j = pl.k
      · subst q
        rw [ok.cl] at hj
        cases hj
        exact ⟨l, List.mem_of_getElem? hl, fun v hv => (sat_snoc hv).2⟩
      · exact (ok.ent j cl hj hn q).snoc
    obtain ⟨u3, u4, o, la, wl, row, L, D, ws, vs, pls, rfl, stk, eS, ch, ba, clo, ew, wok, ent, rfl⟩ := q
    have sml := ch.small
    have sbE := sb0.mono stk.base
    have sb1 := sbE.same erB_le
    obtain ⟨dx, hx⟩ := sb1.me
    refine ⟨true, rfl, _, fun σ' H3 n3 => n3, ?_⟩
    refine ⟨_, rfl, x, dx, _, rfl, hx, rfl, _, rfl, _, rfl, x, S, p, d, o, la, wl, n, C, row, L, D, ws, rfl, sbE, ba, clo, erB_le _ _ ew, wok, ent, by omega, fun H2 L' D' out2 ba2 clo2 ent2 => ?_, fun H2 Hb xp dxp st lf pd ot pl outb pf s2 fx fpd e2 epd at0 parts0 plok => ?_⟩
    · refine ⟨_, rfl, rfl, _, rfl, ?_⟩
      rw [show decide (V.non = V.non) = true from decide_eq_true rfl]
      obtain ⟨dxo, mao, ho, _⟩ := ba2.me
      refine ⟨_, rfl, o, dxo, _, rfl, ho, rfl, o, la, row, n, L', D', rfl, ba2, clo2, fun H3 t v s3 et sat => ⟨by show 2 ≤ sizeLine; decide, fun T hT => ?_⟩⟩
      have s4 := same_new (o := .tup [.str "values", .ref t]) hT
      have b2 : But S H0 H2 := stk.base.trans (But.of (out2.erB.trans erB_le) eS)
      obtain ⟨zs, eS2⟩ := b2.2.2
      exact kv _ T t v (b2.trans (But.of (s3.trans s4) eS2)) upd_same (s4 _ _ et) fun cl hcl => by
        obtain ⟨j, hj⟩ := List.getElem?_of_mem hcl
        obtain ⟨l, h1, h2⟩ := ent2 j cl hj
        exact ⟨l, h1, h2 v sat⟩
    refine ⟨_, rfl, rfl, _, rfl, ?_⟩
    rw [show decide (V.ref xp = V.non) = false from decide_eq_false fun e => by cases e]
    have eb : But S (erB la row n H1) Hb := But.of (outb.erB.trans erB_le) eS
    have stkb := stk.mono eb
    have eSb : Hb S = some (.lst vs.reverse) := erB_le _ _ (outb.erB _ _ eS)
    have eS2 := s2 _ _ eSb
    have sbb := sbE.mono eb
    have sb2 := sbb.same s2
    obtain ⟨dx2, hx2⟩ := sb2.me
    have pf2 := pf.mono (er_same s2)
    have short := sb2.prob.short pl.cl (List.mem_of_getElem? plok.cl)
    have plen := plok.len
    have pdeep := plok.deep
    have lleft := left_len (D := pl.D) (cl := pl.cl)
    have slen := stk.len
    have nSx : xp ≠ S := (ne_of_none eSb fx).symm
    have nSp : pd ≠ S := (ne_of_none eSb fpd).symm
    have prts0 : ∀ {E : Hp}, PrtsAt E [] pl.parts := fun {E} a => by
      rw [parts0]
      exact ⟨fun _ => rfl, fun x e => by cases e⟩
    refine iteF ⟨_, rfl, xp, CP, dxp, _, _, rfl, e2, c.cp, c.p4, rfl, lf, _, rfl, .inl (SqL.of (er_le _ _ pf2.lf)), _, _, rfl, rfl, _, rfl, ?_⟩
    rw [natsV_len, gt0]
    by_cases c1 : 0 < (leftOf pl.D pl.cl).length
    · rw [decide_eq_true c1]
      refine ⟨_, rfl, x, CS, dx2, _, _, rfl, hx2, c.cs, c.s4, rfl, .inl ⟨rfl, _, SqL.of eS2⟩, _, rfl, S, _, _, rfl, rfl, eS2, ?_, ?_⟩
      · have := ch.many
        rw [List.length_reverse, slen]
        exact small1000 (by omega)
      · have b3 : But S Hb (upd H2 S (.lst (vs.reverse ++ [V.ref xp]))) := (But.of s2 eSb).stk
        obtain ⟨i, hi⟩ : ∃ i, (leftOf pl.D pl.cl)[0]? = some i := ⟨_, List.getElem?_eq_getElem c1⟩
        obtain ⟨l, hl, _⟩ := mem_left.mp (List.mem_of_getElem? hi)
        refine tail _ _ _ _ xp vs pl pls (pl.L ++ [l]) o wl (.push (dx := dxp) stkb fx fpd b3 pf ?_ ?_ (Nat.zero_le _) prts0) ?_ (.cons ch plok (by rw [at0]; exact hi) hl) ?_ fun _ _ h => h
        · rw [upd_ne nSx, at0]
          exact e2
        · rw [upd_ne nSp]
          exact epd
        · rw [upd_same, List.reverse_cons]
        · have m2 : pot (pl :: pls) = ((leftOf pl.D pl.cl).length - pl.at_ - 1) * 5 ^ pl.others.length + pot pls := rfl
          rw [m2, at0]
          have h4 : (leftOf pl.D pl.cl).length - 0 - 1 ≤ 3 := by omega
          have h5 := Nat.mul_le_mul_right (5 ^ pl.others.length) h4
          have h6 : 5 ^ (pl.others.length + 1) ≤ 5 ^ ws.length := Nat.pow_le_pow_right (by decide) (by omega)
          have h7 : 5 ^ (pl.others.length + 1) = 5 ^ pl.others.length * 5 := Nat.pow_succ ..
          have h8 : 0 < 5 ^ pl.others.length := Nat.pow_pos (by decide)
          omega
    · rw [decide_eq_false c1]
      have pat : PlAt CP CB (er S H2) n (.ref xp) pl := ⟨xp, dxp, o, st, lf, pd, ot, [], rfl, er_mk nSx (by rw [at0]; exact e2), pf2, er_mk nSp epd, prts0⟩
      refine ⟨_, rfl, x, dx2, _, rfl, hx2, rfl, _, rfl, x, dx2, _, rfl, hx2, rfl, _, rfl, _, rfl, x, dx2, _, rfl, hx2, rfl, _, rfl, x, S, p, d, n, C, .ref xp, pl, L, ws.length, rfl, sb2, pat, plok, by omega, by omega, fun H3 w3 y3 s3 prt3 pok3 => ?_⟩
      refine ⟨x, S, p, d, n, C, .ref xp, w3, pl, y3, L, ws.length, pl.others.length + 1, rfl, sb2.same s3, pat.mono (er_same s3), plok, by omega, prt3, pok3, fun H4 w4 y4 s4 prt4 pok4 => ?_⟩
      have b4 : But S Hb H4 := But.of (s2.trans (s3.trans s4)) eSb
      refine ⟨x, S, p, d, n, C, H0, vs, pls, L0, L, ws0.length, ws.length, w4, y4, rfl, sb0, stkb.mono b4, (s3.trans s4) _ _ eS2, ch, by omega, prt4, pok4.mono (by omega), fun H5 vs5 pl5 pls5 L5 stk5 eS5 ch5 le5 => ?_, fun H5 w5 y5 b5 prt5 pok5 => ?_⟩
      · refine ⟨_, rfl, rfl, _, rfl, ?_⟩
        rw [show (!decide (V.non = V.non)) = false from nT rfl]
        cases stk5 with
        | @push Hb5 _ xp5 dxp5 o5 st5 lf5 pd5 ot5 kvs5 _ vs5 _ h1 h2 h3 h4 h5 h6 h7 h8 h9 =>
        have : 0 < 5 ^ ws.length := Nat.pow_pos (by decide)
        exact tail _ _ _ _ xp5 vs5 pl5 pls5 L5 o wl (.push h1 h2 h3 h4 h5 h6 h7 h8 h9) eS5 ch5 (by omega) fun _ _ h => h
      · obtain ⟨u, nl, ys, ⟨tw, rfl, htw⟩, hpap, enl, alnl⟩ := prt5.mono er_le
        refine ⟨_, rfl, rfl, _, rfl, ?_⟩
        rw [show (!decide (V.ref tw = V.non)) = true from nF fun e => by cases e]
        refine ⟨_, rfl, tw, _, _, _, rfl, rfl, SqT.of htw, rfl, by show 2 ≤ sizeLine; decide, fun T hT => ?_⟩
        have s6 := same_new (o := .tup [.str "paper", u]) hT
        obtain ⟨zs, eS5⟩ := b5.2.2
        have nd0 : y5.2 = [] := List.eq_nil_iff_forall_not_mem.mpr fun m hm => by
          obtain ⟨a, b⟩ := pok5.2 m hm
          exact b (single m a)
        have acc := pok5.1.1
        rw [nd0] at acc
        exact kp _ T u y5.1 (b5.trans (But.of s6 eS5)) upd_same (hpap.mono (Same.tups s6)) acc pok5.1.2.1
end
end D7
/-! D7, walk 17: search.py, solve -/
namespace D7
open PySem L2
section
variable {P : Program} {w : World} {K : PySem.W.Frag} {mg : Str → Option Value} {base : Heap}
abbrev s_solve : Stmt := top 44
abbrev N_solve : List Str := ["n", "clauses", "waiting", "k", "clause", "bounds"]
theorem sc_solve : FnScope N_solve ["n", "clauses"] (defScope s_solve) := ⟨rfl, rfl, rfl, by decide +kernel, rfl, by decide +kernel, by decide +kernel⟩
def sp_solve : Sp := fun vs H Q _ => ∃ (n : Nat) (p : Addr) (C : List (List Lit)), vs = [.int n, .ref p] ∧ Prob H n p C ∧
  (∀ (H' : Hp) (T t : Addr) (v : Val), Same H H' → H' T = some (.tup [.str "values", .ref t]) → H' t = some (.tup (intsV n v)) → SatC v C → Q (.ref T) H') ∧
  ∀ (H' : Hp) (T : Addr) (u : V) (q : Paper), Same H H' → H' T = some (.tup [.str "paper", u]) → PapAt H' u q → Acc C [] q → Fine 7 C.length q → Q (.ref T) H'
theorem ok_solve {f : Addr} {fd : FuncData} {CS CP CB : Addr} (F : Fun K "solve" "solve" s_solve f fd) (c : SC K CS CP) (B : Bt mg) (C_Bounds : Made P w K mg base 2 "Bounds" CB ["self", "n"] (sp_Bounds_init CB)) (C_Search : Made P w K mg base 2 "Search" CS ["self", "n", "clauses"] (sp_Search_init CS))
    (D_check_clauses : Def P w K mg base 3 "check_clauses" ["n", "clauses"] sp_check_clauses) (D_find_ring : Def P w K mg base 3 "find_ring" ["n", "literals"] sp_find_ring) (D_keep : Def P w K mg base 4 "keep" ["bounds", "literal"] (sp_keep CB)) (M_Bounds_literals : MDef P w K mg base 1 CB "literals" ["self"] (sp_literals CB))
    (M_Search_run : MDef P w K mg base 7 CS "run" ["self", "bounds", "waiting"] (sp_run CS CP CB)) : FnOk P w K mg base CX0 8 f fd ["n", "clauses"] sp_solve := by
  refine F.ok sc_solve (fun vs H Q E h => ?_) (fun cdv A outer s H vs Q E hr h => ?_)
  · obtain ⟨n, p, C, rfl, _⟩ := h
    rfl
  · obtain ⟨n, p, C, rfl, pr, kv, kp⟩ := h
    refine ⟨_, (pss_cons (ps_expr (callD D_check_clauses (hr.mono (by decide)) rfl (pa_cons (pv 0) (pa_cons (pv 1) pa_nil))))
      (pss_cons (ps_setLc (i := 2) (own := [("k", 3), ("clause", 4)]) rfl sc_solve.nd rfl rfl (sw_true rfl rfl rfl (by decide +kernel)) (piEn K rfl B.enumerate (pa_cons (pv 1) pa_nil)) (blkOk_by (N := N_solve) (sc := defScope s_solve) (by decide +kernel)) (fun _ _ _ _ _ => (pgT K 2 (pgs_cons (pg_name (i := 3) sc_solve.nd rfl (Or.inl rfl)) (pgs_cons (pg_name (i := 4) sc_solve.nd rfl (Or.inl rfl)) pgs_nil)))) (fun _ _ _ _ _ => pts_one (pt_cmpR op_ne (pe_callB (cLen K) (by rfl) B.len (by decide +kernel) (pa_cons (pv 4) pa_nil)) pe_int (nomark _))) (fun _ _ _ _ _ => (pv 3)))
      (pss_cons (ps_set (i := 5) sc_solve.nd rfl (Or.inl rfl) (makeD C_Bounds (hr.mono (by decide)) rfl (pa_cons (pv 0) pa_nil)))
      (pss_cons (ps_for PassesOwn.never rfl (piL K (pv 1)) (pg_name (i := 4) sc_solve.nd rfl (Or.inl rfl)) (pss_one (ps_if (PW.pt (pw_and (pt_cmpR op_eq (pe_callB (cLen K) (by rfl) B.len (by decide +kernel) (pa_cons (pv 4) pa_nil)) pe_int (nomark _)) (pw_and1 (pt_not (pt_val (callD D_keep (hr.mono (by decide)) rfl (pa_cons (pv 5) (pa_cons (pe_ix (ixT K) (pv 4) pe_int (fun _ _ => rfl)) pa_nil)))))))) (pss_one (ps_ret (pe_tup (pa_cons pe_str (pa_cons (pe_tup (pa_cons pe_str (pa_cons (callD D_find_ring (hr.mono (by decide)) rfl (pa_cons (pv 0) (pa_cons (pe_op op_cat (methD0 (pv 5) M_Bounds_literals (hr.mono (by decide))) (pe_lst (pa_cons (pe_ix (ixT K) (pv 4) pe_int (fun _ _ => rfl)) pa_nil))) pa_nil))) pa_nil))) pa_nil))))) pss_nil)))
      (pss_one (ps_ret (methD (makeD C_Search (hr.mono (by decide)) rfl (pa_cons (pv 0) (pa_cons (pv 1) pa_nil))) M_Search_run (hr.mono (by decide)) (pa_cons (pv 5) (pa_cons (pv 2) pa_nil))))))))), ?_⟩
    refine ⟨_, rfl, _, rfl, n, p, C, rfl, pr, ?_⟩
    obtain ⟨xs, hp, alC⟩ := pr.at_
    have few := pr.few
    have n1 := pr.n1
    have n7 := pr.n7
    have lxs := alC.len
    refine ⟨_, rfl, p, false, xs, rfl, SqL.of hp, ?_⟩
    refine lcE (K := K) (k := false) (SqL.of hp) (by rw [lxs]; exact Nat.le_of_lt (small1000 (by omega))) (fun i => (C[i]?).any fun cl => !decide (cl.length = 1)) (fun i y _ => y = V.int (i : Nat)) (fun _ _ _ _ _ q => q) (fun i u T H1 hu s1 hT Kt Kf k1 k2 => ?_) fun wl H1 zs hwl s1 ewl al => ?_
    · obtain ⟨cl, hcl, ys, ⟨tc, rfl, htc⟩, alcl⟩ := alC.at_ i u hu
      have lcl := alcl.len
      have ke : (C[i]?).any (fun cl => !decide (cl.length = 1)) = !decide (cl.length = 1) := by rw [hcl]; rfl
      refine ⟨T, _, rfl, SqT.of hT, rfl, _, _, rfl, _, _, rfl, rfl, rfl, ?_⟩
      refine ⟨_, rfl, tc, ys, rfl, .inr (SqT.of (s1 _ _ htc)), rfl, _, rfl, ?_⟩
      rw [show decide (V.int (ys.length : Int) = V.int 1) = decide (cl.length = 1) by rw [lcl]; exact intV_eq (b := 1)]
      by_cases q : cl.length = 1
      · rw [decide_eq_true q] at ke ⊢
        exact k2 _ ke (Same.refl _)
      · rw [decide_eq_false q] at ke ⊢
        exact ⟨_, rfl, k1 _ _ ke (Same.refl _) rfl⟩
    · rw [lxs] at al
      have ez := al_nats al
      have mw : ∀ k, k ∈ (List.range C.length).filter (fun i => (C[i]?).any fun cl => !decide (cl.length = 1)) ↔ ∃ cl, C[k]? = some cl ∧ cl.length ≠ 1 := fun k => by
        rw [List.mem_filter, List.mem_range]
        constructor
        · rintro ⟨h, e⟩
          rw [List.getElem?_eq_getElem h] at e
          exact ⟨_, List.getElem?_eq_getElem h, by simpa using e⟩
        · rintro ⟨cl, e, h⟩
          exact ⟨(List.getElem?_eq_some_iff.mp e).1, by rw [e]; simp [h]⟩
      have lw : ((List.range C.length).filter (fun i => (C[i]?).any fun cl => !decide (cl.length = 1))).length ≤ C.length := by
        have := List.length_filter_le (fun i => (C[i]?).any fun cl => !decide (cl.length = 1)) (List.range C.length)
        rw [List.length_range] at this
        exact this
      generalize (List.range C.length).filter (fun i => (C[i]?).any fun cl => !decide (cl.length = 1)) = ws at ez mw lw
      subst ez
      refine ⟨_, rfl, ?_⟩
      intro o dxo ho hdxo nox
      have so : Same H1 (upd (upd H1 dxo (.own o)) o (.ins CB dxo [])) := fun b u e => by
        rw [upd_ne (ne_of_none e ho), upd_ne (ne_of_none e hdxo)]
        exact e
      refine ⟨o, dxo, n, rfl, upd_same, n1, n7, fun H2 la row b2 ba2 f1 f2 => ⟨rfl, ?_⟩⟩
      have s12 : Same H1 H2 := fun b u e => b2 b u (ne_of_none e ho) (so b u e)
      have g1 : H1 la = none := so.free f1
      have g2 : ∀ i, i < n → H1 (row i) = none := fun i hi => so.free (f2 i hi)
      refine ⟨_, rfl, p, rfl, ⟨_, SqL.of (s12 _ _ (s1 _ _ hp))⟩, ?_⟩
      refine for_list (K := K) (a := p) (xs := xs) (fun i σ H' => ∃ (u3 u4 : Option V) (L : List Lit) (D : Mat), σ = [some (.int n), some (.ref p), some (.ref wl), u3, u4, some (.ref o)] ∧ Same H1 H' ∧ BAt CB H' o la row n L D ∧ Clo n L D ∧ L.length ≤ i ∧ (∀ m ∈ L, [m] ∈ C) ∧ ∀ (j : Nat) l, j < i → C[j]? = some [l] → l ∈ L)
        ⟨_, _, [], diag, rfl, s12, ba2, Clo.start, Nat.zero_le _, fun m h => (by cases h), fun j l h => absurd h (Nat.not_lt_zero j)⟩ (fun i σ H' _ q => ?_) (fun i u σ H3 hu q => ?_) fun σ H' q => ?_
      · obtain ⟨_, _, _, _, _, sm, _⟩ := q
        exact SqL.of (sm _ _ (s1 _ _ hp))
      · obtain ⟨u3, u4, L, D, rfl, s3, ba, clo, lL, sing, cov⟩ := q
        have s13 := s1.trans s3
        obtain ⟨cl, hcl, ys, ⟨tc, rfl, htc⟩, alcl⟩ := (RowsAt.mono (Same.tups s13) alC).at_ i u hu
        have lcl := alcl.len
        have ilt := (List.getElem?_eq_some_iff.mp hcl).1
        have okl := pr.ok cl (List.mem_of_getElem? hcl)
        refine ⟨_, rfl, tc, ys, rfl, .inr (SqT.of htc), rfl, _, rfl, ?_⟩
        rw [show decide (V.int (ys.length : Int) = V.int 1) = decide (cl.length = 1) by rw [lcl]; exact intV_eq (b := 1)]
        by_cases q : cl.length = 1
        · rw [decide_eq_true q]
          obtain ⟨l, rfl⟩ := List.length_eq_one_iff.mp q
          obtain ⟨lv, hlv, hlit⟩ := alcl.back (i := 0) (x := l) rfl
          obtain ⟨ha, hb⟩ := okl l (by simp)
          have memC := List.mem_of_getElem? hcl
          refine ⟨_, rfl, _, rfl, tc, ys, 0, _, rfl, rfl, SqT.of htc, atI_nat (j := 0) hlv, o, la, row, n, L, D, lv, l, rfl, ba, clo, hlit, ha, hb, by omega, fun href => ?_, fun _ H4 D4 out4 ba4 clo4 => ?_⟩
          · refine ⟨false, rfl, ?_⟩
            obtain ⟨dxo3, mao, ho3, _⟩ := ba.me
            refine ⟨_, rfl, _, rfl, o, dxo3, _, rfl, ho3, rfl, o, la, row, n, L, D, rfl, ba, fun H4 l4 ys4 s4 hl4 el4 al4 => ?_⟩
            have ly := al4.len
            refine ⟨_, rfl, tc, ys, 0, _, rfl, rfl, SqT.of (s4 _ _ htc), atI_nat (j := 0) hlv, by show 1 ≤ sizeLine; decide, fun q0 hq0 => ⟨l4, q0, ys4, [lv], rfl, rfl, same_new hq0 _ _ el4, upd_same, ?_, fun q1 hq1 => ?_⟩⟩
            · have := small1000 (n := ys4.length + 1) (by omega)
              simp only [List.length_singleton]
              omega
            · have sq := (same_new (o := .lst [lv]) hq0).trans (same_new (o := .lst (ys4 ++ [lv])) hq1)
              have s5 := s4.trans sq
              refine ⟨n, q1, ys4 ++ [lv], L ++ [l], rfl, n1, by omega, upd_same, (LitsAt.mono (Same.tups sq) al4).snoc (hlit.mono (Same.tups s5)), fun m hm => ?_, fun H6 v s6 sat => (sat_ref clo ha hb href v sat).elim, fun H6 u r s6 row6 isr sub nod len => ⟨by show 2 ≤ sizeLine; decide, fun T1 hT1 => ⟨by show 2 ≤ sizeLine; decide, fun T2 hT2 => ?_⟩⟩⟩
              · rcases List.mem_append.mp hm with a | a
                · obtain ⟨b1, b2, _⟩ := clo.lit m a
                  exact ⟨b1, b2⟩
                · rw [List.mem_singleton.mp a]
                  exact ⟨ha, hb⟩
              · have s7 := same_new (o := .tup [.str "ring", u]) hT1
                have s8 := same_new (o := .tup [.str "paper", .ref T1]) hT2
                have sA := s13.trans (s5.trans (s6.trans (s7.trans s8)))
                refine kp _ T2 (.ref T1) (.ring r) sA upd_same (.ring ⟨T1, rfl, s8 _ _ upd_same⟩ (row6.mono (Same.tups (s7.trans s8)))) (.ring isr fun m hm => .inl ?_) (.ring (by omega) nod)
                rcases List.mem_append.mp (sub m hm) with a | a
                · exact sing m a
                · rw [List.mem_singleton.mp a]
                  exact memC
          · refine ⟨true, rfl, ?_⟩
            refine ⟨_, _, L ++ [l], D4, rfl, fun c u e => out4 c u (ne_of_none e g1) (fun x hx => ne_of_none e (g2 x hx)) (s3 _ _ e), ba4, clo4, by rw [List.length_append, List.length_singleton]; omega, fun m hm => ?_, fun j m hj hm => ?_⟩
            · rcases List.mem_append.mp hm with a | a
              · exact sing m a
              · rw [List.mem_singleton.mp a]
                exact memC
            · rcases Nat.lt_or_ge j i with z | z
              · exact List.mem_append_left _ (cov j m z hm)
              · have : j = i := by omega
                subst this
                rw [hcl] at hm
                cases hm
                simp
        · rw [decide_eq_false q]
          refine ⟨_, _, L, D, rfl, s3, ba, clo, by omega, sing, fun j m hj hm => ?_⟩
          rcases Nat.lt_or_ge j i with z | z
          · exact cov j m z hm
          · have : j = i := by omega
            subst this
            rw [hcl] at hm
            cases hm
            exact (q rfl).elim
      · obtain ⟨u3, u4, L, D, rfl, s3, ba, clo, lL, sing, cov⟩ := q
        rw [lxs] at cov lL
        have s13 := s1.trans s3
        refine ⟨_, rfl, _, rfl, ?_⟩
        intro x dx hx hdx nxd
        have sx : Same H' (upd (upd H' dx (.own x)) x (.ins CS dx [])) := fun b u e => by
          rw [upd_ne (ne_of_none e hx), upd_ne (ne_of_none e hdx)]
          exact e
        refine ⟨x, dx, p, n, C, rfl, upd_same, pr.mono (s13.trans sx), fun H5 d S b5 e5 on5 eS5 fS fd_ => ⟨rfl, ?_⟩⟩
        have s5 : Same H' H5 := fun b u e => b5 b u (ne_of_none e hx) (sx b u e)
        have gS : H' S = none := sx.free fS
        have gd : H' d = none := sx.free fd_
        obtain ⟨xl2, hl2, _⟩ := ba.ls
        have ola : ∀ c, H' c = none → c ≠ la ∧ ∀ i, i < n → c ≠ row i := fun c e => ⟨(ne_of_none hl2 e).symm, fun i hi => (ne_of_none (ba.rw_ i hi) e).symm⟩
        have eSB : Same H1 (erB la row n H5) := erB_new (s3.trans s5) g1 g2
        have eS : erB la row n H5 S = some (.lst []) := erB_mk (ola S gS).1 (ola S gS).2 eS5
        have sH : Same H (er S (erB la row n H5)) := fun b u e => er_mk (ne_of_none (s13 _ _ e) gS) (eSB _ _ (s1 _ _ e))
        have sb : SB CS (erB la row n H5) x S n p d C := by
          refine ⟨⟨dx, erB_mk (ola x hx).1 (ola x hx).2 e5⟩, pr.mono sH, ?_, _, eS⟩
          obtain ⟨kvs, a, b⟩ := on5
          obtain ⟨a1, a2⟩ := er_of a
          exact ⟨kvs, er_mk a1 (erB_mk (ola d gd).1 (ola d gd).2 a2), b⟩
        refine ⟨x, dx, _, rfl, e5, rfl, _, rfl, _, rfl, x, S, p, d, o, la, wl, n, C, row, L, D, ws, rfl, sb, eS, ba.mono (fun b u e => er_mk (ne_of_none e gS) (s5 _ _ e)), clo, eSB _ _ ewl, fun k hk => ?_, fun j cl hj hn => ?_, by omega, sing, fun H6 T t v b6 e1 e2 sat => ?_, fun H6 T u q b6 e1 e2 acc fine => ?_⟩
        · obtain ⟨cl, e, _⟩ := (mw k).mp hk
          exact (List.getElem?_eq_some_iff.mp e).1
        · have q : cl.length = 1 := Decidable.byContradiction fun z => hn ((mw j).mpr ⟨cl, hj, z⟩)
          obtain ⟨l, rfl⟩ := List.length_eq_one_iff.mp q
          exact ⟨l, by simp, fun v hv => hv l (cov j l (List.getElem?_eq_some_iff.mp hj).1 hj)⟩
        · exact kv H6 T t v (fun b u e => let ⟨a1, a2⟩ := er_of (sH b u e); b6.1 b u a1 a2) e1 e2 sat
        · exact kp H6 T u q (fun b u e => let ⟨a1, a2⟩ := er_of (sH b u e); b6.1 b u a1 a2) e1 e2 acc (fine.mono lw)
end
end D7
/-! D7, the law, part 1: numbers and clauses -/
namespace D7
open PySem L2

def intsL (ms : List Int) : List V := ms.map V.int
theorem intsL_len {ms : List Int} : (intsL ms).length = ms.length := by unfold intsL; rw [List.length_map]
theorem intsL_at {ms : List Int} {i : Nat} (h : i < ms.length) : (intsL ms)[i]? = some (.int ms[i]) := by
  unfold intsL
  rw [List.getElem?_map, List.getElem?_eq_getElem h]
  rfl
theorem intsL_snoc {ms : List Int} {x : Int} : intsL ms ++ [V.int x] = intsL (ms ++ [x]) := by
  unfold intsL
  rw [List.map_append]
  rfl
theorem nn_snoc {ms : List Int} {x : Int} (h : ∀ y ∈ ms, (0 : Int) ≤ y) (hx : 0 ≤ x) : ∀ y ∈ ms ++ [x], (0 : Int) ≤ y := fun y hy => by
  rcases List.mem_append.mp hy with q | q
  · exact h y q
  · rw [List.mem_singleton.mp q]
    exact hx
section
variable {P : Program} {w : World} {K : PySem.W.Frag} {mg : Str → Option Value} {base : Heap}
abbrev s__law_numbers : Stmt := top 46
abbrev N__law_numbers : List Str := ["_law_script", "_law_many", "_law_numbers_here", "_law_k", "_law_cell", "_law_j", "_law_mixed", "_law_base", "_law_last"]
theorem sc__law_numbers : FnScope N__law_numbers ["_law_script", "_law_many"] (defScope s__law_numbers) := ⟨rfl, rfl, rfl, by decide +kernel, rfl, by decide +kernel, by decide +kernel⟩
def sp__law_numbers (K : PySem.W.Frag) : Sp := fun vs H Q _ => ∃ (p : Addr) (ns : List Int), vs = [.ref p, .int 100] ∧ SqL K H p (ns.map V.int) ∧ ns.length ≤ 63 ∧ ∀ (H' : Hp) (L : Addr) (ms : List Int), Same H H' → H' L = some (.lst (intsL ms)) → ms.length = 100 → (∀ y ∈ ms, (0 : Int) ≤ y) → Q (.ref L) H'
theorem ok__law_numbers {f : Addr} {fd : FuncData} (F : Fun K "_law_numbers" "_law_numbers" s__law_numbers f fd) (B : Bt mg) : FnOk P w K mg base CX0 1 f fd ["_law_script", "_law_many"] (sp__law_numbers K) := by
  refine F.ok sc__law_numbers (fun vs H Q E h => ?_) (fun cdv A outer s H vs Q E hr h => ?_)
  · obtain ⟨p, ns, rfl, _⟩ := h
    rfl
  · obtain ⟨p, ns, rfl, hS, l63, k⟩ := h
    refine ⟨_, (pss_cons (ps_set (i := 2) sc__law_numbers.nd rfl (Or.inl rfl) (pe_lst pa_nil))
      (pss_cons (ps_for PassesOwn.never rfl (pi_range1 rfl B.range (pa_cons (pe_callB (cLen K) (by rfl) B.len (by decide +kernel) (pa_cons (pv 0) pa_nil)) pa_nil)) (pg_name (i := 3) sc__law_numbers.nd rfl (Or.inl rfl)) (pss_cons (ps_set (i := 4) sc__law_numbers.nd rfl (Or.inl rfl) (pe_callB (call_abs) (by rfl) B.abs (by decide +kernel) (pa_cons (pe_callTy (call_int1) (by rfl) B.int (by decide +kernel) (pa_cons (pe_ix (ixL K) (pv 0) (pv 3) (fun _ _ => rfl)) pa_nil)) pa_nil)))
        (pss_one (ps_if (pt_cmpR op_ge (pv 4) (pe_op op_pow pe_int pe_int) (nomark _)) (pss_one (ps_for PassesOwn.never rfl (pi_range1 rfl B.range (pa_cons pe_int pa_nil)) (pg_name (i := 5) sc__law_numbers.nd rfl (Or.inl rfl)) (pss_one (ps_if (PW.pt (pw_and (pt_cmpR op_gt (pv 4) pe_int (nomark _)) (pw_and1 (pt_cmpR op_lt (pe_callB (cLen K) (by rfl) B.len (by decide +kernel) (pa_cons (pv 2) pa_nil)) (pv 1) (nomark _))))) (pss_cons (ps_expr (pe_bm PySem.F.plainAttrs_list PySem.F.slot_list_append PySem.F.type_list_append mt_append (pv 2) (pa_cons (pe_op op_mod (pv 4) pe_int) pa_nil)))
              (pss_one (ps_set (i := 4) sc__law_numbers.nd rfl (Or.inl rfl) (pe_op op_fdiv (pv 4) pe_int)))) pss_nil)))) (pss_one (ps_if (pt_cmpR op_lt (pe_callB (cLen K) (by rfl) B.len (by decide +kernel) (pa_cons (pv 2) pa_nil)) (pv 1) (nomark _)) (pss_cons (ps_set (i := 6) sc__law_numbers.nd rfl (Or.inl rfl) (pe_op op_mod (pe_callTy (call_int1) (by rfl) B.int (by decide +kernel) (pa_cons (pe_op op_add (pe_op op_add (pe_op op_mul (pv 4) pe_int) (pe_op op_mul (pv 3) pe_int)) pe_int) pa_nil)) pe_int))
            (pss_one (ps_expr (pe_bm PySem.F.plainAttrs_list PySem.F.slot_list_append PySem.F.type_list_append mt_append (pv 2) (pa_cons (pe_op op_fdiv (pe_op op_mod (pe_callTy (call_int1) (by rfl) B.int (by decide +kernel) (pa_cons (pe_op op_add (pe_op op_add (pe_op op_mul (pv 6) pe_int) (pe_op op_mul pe_int (pv 3))) pe_int) pa_nil)) pe_int) pe_int) pa_nil))))) pss_nil))))))
      (pss_cons (ps_set (i := 7) sc__law_numbers.nd rfl (Or.inl rfl) (pe_callB (cLen K) (by rfl) B.len (by decide +kernel) (pa_cons (pv 2) pa_nil)))
      (pss_cons (ps_set (i := 8) sc__law_numbers.nd rfl (Or.inl rfl) (pe_op op_add pe_int (pe_callB (cLen K) (by rfl) B.len (by decide +kernel) (pa_cons (pv 0) pa_nil))))
      (pss_cons (ps_for PassesOwn.never rfl (pi_range1 rfl B.range (pa_cons (pe_callB (call_max2 rfl) (by rfl) B.max (by decide +kernel) (pa_cons pe_int (pa_cons (pe_op op_sub (pv 1) (pv 7)) pa_nil))) pa_nil)) (pg_name (i := 3) sc__law_numbers.nd rfl (Or.inl rfl)) (pss_cons (ps_if (pt_cmpR op_gt (pv 7) pe_int (nomark _)) (pss_one (ps_set (i := 8) sc__law_numbers.nd rfl (Or.inl rfl) (pe_op op_add (pv 8) (pe_ix (ixL K) (pv 2) (pe_op op_mod (pv 3) (pv 7)) (fun _ _ => rfl))))) pss_nil)
        (pss_cons (ps_set (i := 8) sc__law_numbers.nd rfl (Or.inl rfl) (pe_op op_mod (pe_callTy (call_int1) (by rfl) B.int (by decide +kernel) (pa_cons (pe_op op_add (pe_op op_mul (pv 8) pe_int) (pv 3)) pa_nil)) pe_int))
        (pss_one (ps_expr (pe_bm PySem.F.plainAttrs_list PySem.F.slot_list_append PySem.F.type_list_append mt_append (pv 2) (pa_cons (pe_op op_fdiv (pv 8) pe_int) pa_nil)))))))
      (pss_one (ps_ret (pe_slice sl_list (pv 2) po_none (po_some (pv 1)))))))))), ?_⟩
    refine ⟨by show 0 ≤ sizeLine; decide, fun R hR => ?_⟩
    have s1 := same_new (o := .lst []) hR
    have ln : (ns.map V.int).length = ns.length := List.length_map _
    refine ⟨_, rfl, p, _, rfl, .inl (Same.seq s1 hS), _, rfl, by omega, by omega, ?_⟩
    rw [ln, Int.toNat_natCast]
    refine for_range (lo := 0) (n := ns.length) (fun i σ H' => ∃ (u3 u4 u5 u6 : Option V) (ms : List Int), σ = [some (.ref p), some (.int 100), some (.ref R), u3, u4, u5, u6, none, none] ∧ Same H H' ∧ H' R = some (.lst (intsL ms)) ∧ ms.length ≤ 100 ∧ ∀ y ∈ ms, (0 : Int) ≤ y)
      ⟨none, none, none, none, [], rfl, s1, upd_same, Nat.zero_le _, fun y h => by cases h⟩ (fun i σ H1 hi q => ?_) fun σ H1 q => ?_
    · obtain ⟨u3, u4, u5, u6, ms, rfl, sm, eR, lm, nn⟩ := q
      have e0 : ((0 : Int) + (i : Int)) = (i : Int) := by omega
      rw [e0]
      have ei : (ns.map V.int)[i]? = some (.int (ns[i]'hi)) := by rw [List.getElem?_map, List.getElem?_eq_getElem hi]; rfl
      refine ⟨_, rfl, _, rfl, p, _, _, _, rfl, rfl, Same.seq sm hS, atI_nat ei, .inl ⟨_, rfl, _, rfl, ?_⟩⟩
      have cell0 : (0 : Int) ≤ if ns[i] < 0 then -ns[i] else ns[i] := by split <;> omega
      generalize (if ns[i] < 0 then -ns[i] else ns[i]) = cell at cell0
      refine ⟨_, rfl, _, _, rfl, rfl, ⟨by decide, by decide, by decide⟩, _, _, rfl, rfl, _, rfl, ?_⟩
      refine ite2 (fun _ => ?_) fun _ => ?_
      · refine ⟨_, rfl, by decide, by decide, ?_⟩
        refine for_range (lo := 0) (n := (60 : Int).toNat) (fun j σ H' => ∃ (u5 : Option V) (cell : Int) (ms : List Int), σ = [some (.ref p), some (.int 100), some (.ref R), some (.int (i : Nat)), some (.int cell), u5, u6, none, none] ∧ Same H H' ∧ H' R = some (.lst (intsL ms)) ∧ ms.length ≤ 100 ∧ (∀ y ∈ ms, (0 : Int) ≤ y) ∧ 0 ≤ cell)
          ⟨u5, cell, ms, rfl, sm, eR, lm, nn, cell0⟩ (fun j σ H2 hj q => ?_) fun σ H2 q => ?_
        · obtain ⟨u5, cell, ms, rfl, sm, eR, lm, nn, c0⟩ := q
          refine ⟨_, rfl, _, _, rfl, rfl, _, rfl, ?_⟩
          refine ite2 (fun _ => ?_) fun _ => ?_
          · refine ⟨_, rfl, R, _, rfl, .inl (SqL.of eR), _, rfl, _, _, rfl, rfl, _, rfl, ?_⟩
            rw [intsL_len]
            refine ite2 (fun c2 => ?_) fun _ => ?_
            · have c2 : (ms.length : Int) < 100 := of_decide_eq_true c2
              refine ⟨_, rfl, .inl ⟨rfl, _, SqL.of eR⟩, _, rfl, _, _, rfl, rfl, (by show (0 : Int) < 10007; decide), R, _, _, rfl, rfl, eR, by rw [intsL_len]; exact small1000 (by omega), ?_⟩
              rw [intsL_snoc]
              exact ⟨_, rfl, _, _, rfl, rfl, ⟨by decide, by decide⟩, _, _, _, rfl, Same.mut sm hR, upd_same, by rw [List.length_append, List.length_singleton]; omega, nn_snoc nn (Int.emod_nonneg _ (by decide)), Int.ediv_nonneg c0 (by decide)⟩
            · exact ⟨_, cell, ms, rfl, sm, eR, lm, nn, c0⟩
          · exact ⟨_, cell, ms, rfl, sm, eR, lm, nn, c0⟩
        · obtain ⟨u5, cell, ms, rfl, sm, eR, lm, nn, c0⟩ := q
          exact ⟨_, _, _, _, ms, rfl, sm, eR, lm, nn⟩
      · refine ⟨_, rfl, R, _, rfl, .inl (SqL.of eR), _, rfl, _, _, rfl, rfl, _, rfl, ?_⟩
        rw [intsL_len]
        refine ite2 (fun c2 => ?_) fun _ => ?_
        · have c2 : (ms.length : Int) < 100 := of_decide_eq_true c2
          refine ⟨_, rfl, _, _, rfl, rfl, .inr ⟨by decide, by decide⟩, _, rfl, _, _, rfl, rfl, .inr ⟨by decide, by decide⟩, _, _, rfl, rfl, _, _, rfl, rfl, .inl ⟨_, rfl, _, _, rfl, rfl, (by show (0 : Int) < 2147483647; decide), ?_⟩⟩
          refine ⟨_, rfl, .inl ⟨rfl, _, SqL.of eR⟩, _, rfl, _, _, rfl, rfl, .inr ⟨by decide, by decide⟩, _, rfl, _, _, rfl, rfl, .inl ⟨by decide, by decide⟩, _, _, rfl, rfl, _, _, rfl, rfl, .inl ⟨_, rfl, _, _, rfl, rfl, (by show (0 : Int) < 2147483647; decide), _, _, rfl, rfl, ⟨by decide, by decide⟩, R, _, _, rfl, rfl, eR, by rw [intsL_len]; exact small1000 (by omega), ?_⟩⟩
          rw [intsL_snoc]
          exact ⟨_, _, _, _, _, rfl, Same.mut sm hR, upd_same, by rw [List.length_append, List.length_singleton]; omega, nn_snoc nn (Int.ediv_nonneg (Int.emod_nonneg _ (by decide)) (by decide))⟩
        · exact ⟨_, _, _, _, ms, rfl, sm, eR, lm, nn⟩
    · obtain ⟨u3, u4, u5, u6, ms, rfl, sm, eR, lm, nn⟩ := q
      refine ⟨_, rfl, R, _, rfl, .inl (SqL.of eR), ?_⟩
      rw [intsL_len]
      refine ⟨_, rfl, p, _, rfl, .inl (Same.seq sm hS), _, _, rfl, rfl, ?_⟩
      refine ⟨_, rfl, _, rfl, _, _, rfl, rfl, _, _, rfl, ?_⟩
      have em : (if (100 : Int) - (ms.length : Int) > 0 then (100 : Int) - (ms.length : Int) else 0) = ((100 - ms.length : Nat) : Int) := by
        split <;> omega
      rw [em]
      refine ⟨_, rfl, by omega, by omega, ?_⟩
      rw [Int.toNat_natCast]
      refine for_range (lo := 0) (n := 100 - ms.length) (fun i σ H' => ∃ (u3 u4 u5 u6 : Option V) (last : Int) (ms' : List Int), σ = [some (.ref p), some (.int 100), some (.ref R), u3, u4, u5, u6, some (.int ms.length), some (.int last)] ∧ Same H H' ∧ H' R = some (.lst (intsL ms')) ∧ ms'.length = ms.length + i ∧ ∀ y ∈ ms', (0 : Int) ≤ y)
        ⟨u3, u4, u5, u6, _, ms, rfl, sm, eR, rfl, nn⟩ (fun i σ H2 hi q => ?_) fun σ H2 q => ?_
      · obtain ⟨u3, u4, u5, u6, last, ms', rfl, sm, eR, lm', nn⟩ := q
        have e0 : ((0 : Int) + (i : Int)) = (i : Int) := by omega
        rw [e0]
        refine ⟨_, rfl, _, _, rfl, rfl, _, rfl, ?_⟩
        have rest : ∀ last : Int, tSeq (tAsg (tOp (rI (fun _ j => 0 < j) fun i j => .int (i % j)) (tCB (fun xs H Q => (∃ i, xs = [.int i] ∧ Q (.int i) H) ∨ ∃ k, xs = [.bl k] ∧ Q (.int (if k then 1 else 0)) H) (tCons (tOp (rI0 fun i j => .int (i + j)) (tOp (rI CMul fun i j => .int (i * j)) (tVar 8) (tC (.int 48271))) (tVar 3)) tNil)) (tC (.int 2147483647))) (gName 8)) (tDrop (tBM K "list" rAppend (tVar 2) (tCons (tOp (rI CDiv fun i j => .int (i / j)) (tVar 8) (tC (.int 7))) tNil)))
            { nx := fun σ H' => ∃ (u3 u4 u5 u6 : Option V) (last : Int) (ms' : List Int), σ = [some (.ref p), some (.int 100), some (.ref R), u3, u4, u5, u6, some (.int ms.length), some (.int last)] ∧ Same H H' ∧ H' R = some (.lst (intsL ms')) ∧ ms'.length = ms.length + (i + 1) ∧ ∀ y ∈ ms', (0 : Int) ≤ y, rt := Q } [some (.ref p), some (.int 100), some (.ref R), some (.int i), u4, u5, u6, some (.int ms.length), some (.int last)] H2 := fun last => by
          refine ⟨_, rfl, _, _, rfl, rfl, .inr ⟨by decide, by decide⟩, _, rfl, _, _, rfl, rfl, .inl ⟨_, rfl, _, _, rfl, rfl, (by show (0 : Int) < 2147483647; decide), ?_⟩⟩
          refine ⟨_, rfl, .inl ⟨rfl, _, SqL.of eR⟩, _, rfl, _, _, rfl, rfl, ⟨by decide, by decide⟩, R, _, _, rfl, rfl, eR, by rw [intsL_len]; exact small1000 (by omega), ?_⟩
          rw [intsL_snoc]
          exact ⟨_, _, _, _, _, _, rfl, Same.mut sm hR, upd_same, by rw [List.length_append, List.length_singleton]; omega, nn_snoc nn (Int.ediv_nonneg (Int.emod_nonneg _ (by decide)) (by decide))⟩
        refine ite2 (fun c2 => ?_) fun _ => ?_
        · have c2 : (0 : Int) < (ms.length : Int) := of_decide_eq_true c2
          have lt : i % ms.length < ms'.length := by
            have := Nat.mod_lt i (show 0 < ms.length by omega)
            omega
          have em2 : ((i : Int) % (ms.length : Int)) = ((i % ms.length : Nat) : Int) := by omega
          refine ⟨_, rfl, _, rfl, _, rfl, _, rfl, _, _, rfl, rfl, c2, R, _, _, _, rfl, rfl, SqL.of eR, by rw [em2]; exact atI_nat (intsL_at lt), _, _, rfl, rfl, rest _⟩
        · exact rest last
      · obtain ⟨u3, u4, u5, u6, last, ms', rfl, sm, eR, lm', nn⟩ := q
        have l100 : ms'.length = 100 := by omega
        refine ⟨_, rfl, _, rfl, _, rfl, R, _, rfl, SqL.of eR, fun L hL => ?_⟩
        have ec : cutV (intsL ms') none (some 100) = intsL ms' := by
          have := cut_take (xs := intsL ms') (m := 100) (by rw [intsL_len]; omega)
          rw [show ((100 : Nat) : Int) = 100 from rfl] at this
          rw [this, List.take_of_length_le (by rw [intsL_len]; omega)]
        rw [ec]
        exact k _ L ms' (sm.trans (same_new hL)) upd_same l100 nn
end
end D7
/-! D7, the law, part 2: clauses -/
namespace D7
open PySem L2

def manyV : List V := [.int 1, .int 1, .int 2, .int 2, .int 2, .int 3, .int 3, .int 1, .int 2, .int 3, .int 1, .int 0]
theorem manyV_at : ∀ j : Nat, j < 12 → ∃ m : Nat, manyV[j]? = some (.int (m : Int)) ∧ m ≤ 3
  | 0, _ => ⟨1, rfl, by decide⟩
  | 1, _ => ⟨1, rfl, by decide⟩
  | 2, _ => ⟨2, rfl, by decide⟩
  | 3, _ => ⟨2, rfl, by decide⟩
  | 4, _ => ⟨2, rfl, by decide⟩
  | 5, _ => ⟨3, rfl, by decide⟩
  | 6, _ => ⟨3, rfl, by decide⟩
  | 7, _ => ⟨1, rfl, by decide⟩
  | 8, _ => ⟨2, rfl, by decide⟩
  | 9, _ => ⟨3, rfl, by decide⟩
  | 10, _ => ⟨1, rfl, by decide⟩
  | 11, _ => ⟨0, rfl, by decide⟩
  | n + 12, h => absurd h (by omega)
theorem emod_at {ms : List Int} (h : ms.length = 100) (x : Int) : ∃ y, atI (intsL ms) (x % 100) = some (.int y) ∧ y ∈ ms := by
  have h0 : 0 ≤ x % 100 := Int.emod_nonneg _ (by decide)
  have h1 : x % 100 < 100 := Int.emod_lt_of_pos _ (by decide)
  obtain ⟨j, hj⟩ : ∃ j : Nat, x % 100 = (j : Int) := ⟨(x % 100).toNat, (Int.toNat_of_nonneg h0).symm⟩
  rw [hj]
  have lt : j < ms.length := by omega
  exact ⟨ms[j], atI_nat (intsL_at lt), List.getElem_mem lt⟩
/-- what the clauses of the law are -/
structure ClsOk (n : Nat) (C : List (List Lit)) : Prop where
  ok : ∀ cl ∈ C, Lok n cl
  short : ∀ cl ∈ C, cl.length ≤ 3
section
variable {P : Program} {w : World} {K : PySem.W.Frag} {mg : Str → Option Value} {base : Heap}
abbrev s__law_clauses : Stmt := top 47
abbrev N__law_clauses : List Str := ["_law_numbers_here", "_law_at", "_law_n", "_law_count", "_law_size", "_law_clauses_here", "_law_k", "_law_number", "_law_many", "_law_clause", "_law_j", "_law_other"]
theorem sc__law_clauses : FnScope N__law_clauses ["_law_numbers_here", "_law_at", "_law_n", "_law_count", "_law_size"] (defScope s__law_clauses) := ⟨rfl, rfl, rfl, by decide +kernel, rfl, by decide +kernel, by decide +kernel⟩
def sp__law_clauses : Sp := fun vs H Q _ => ∃ (L : Addr) (ms : List Int) (n count size : Nat), vs = [.ref L, .int 10, .int n, .int count, .int size] ∧ H L = some (.lst (intsL ms)) ∧ ms.length = 100 ∧ (∀ y ∈ ms, (0 : Int) ≤ y) ∧ 1 ≤ n ∧ n ≤ 7 ∧ count ≤ 12 ∧ 1 ≤ size ∧ size ≤ 4 ∧
  ∀ (H' : Hp) (p : Addr) (xs : List V) (C : List (List Lit)), Same H H' → H' p = some (.lst xs) → Al (RowAt H') xs C → C.length = count → ClsOk n C → Q (.ref p) H'
theorem ok__law_clauses {f : Addr} {fd : FuncData} (F : Fun K "_law_clauses" "_law_clauses" s__law_clauses f fd) (B : Bt mg) : FnOk P w K mg base CX0 1 f fd ["_law_numbers_here", "_law_at", "_law_n", "_law_count", "_law_size"] sp__law_clauses := by
  refine F.ok sc__law_clauses (fun vs H Q E h => ?_) (fun cdv A outer s H vs Q E hr h => ?_)
  · obtain ⟨L, ms, n, count, size, rfl, _⟩ := h
    rfl
  · obtain ⟨L, ms, n, count, size, rfl, eL, l100, nn, n1, n7, c12, s1_, s4_, k⟩ := h
    refine ⟨_, (pss_cons (ps_set (i := 5) sc__law_clauses.nd rfl (Or.inl rfl) (pe_lst pa_nil))
      (pss_cons (ps_for PassesOwn.never rfl (pi_range1 rfl B.range (pa_cons (pv 3) pa_nil)) (pg_name (i := 6) sc__law_clauses.nd rfl (Or.inl rfl)) (pss_cons (ps_set (i := 7) sc__law_clauses.nd rfl (Or.inl rfl) (pe_ix (ixL K) (pv 0) (pe_op op_mod (pe_callTy (call_int1) (by rfl) B.int (by decide +kernel) (pa_cons (pe_op op_add (pv 1) (pv 6)) pa_nil)) (pe_callB (cLen K) (by rfl) B.len (by decide +kernel) (pa_cons (pv 0) pa_nil))) (fun _ _ => rfl)))
        (pss_cons (ps_set (i := 8) sc__law_clauses.nd rfl (Or.inl rfl) (pe_ix (ixL K) (pe_lst (pa_cons pe_int (pa_cons pe_int (pa_cons pe_int (pa_cons pe_int (pa_cons pe_int (pa_cons pe_int (pa_cons pe_int (pa_cons pe_int (pa_cons pe_int (pa_cons pe_int (pa_cons pe_int (pa_cons pe_int pa_nil))))))))))))) (pe_op op_mod (pv 7) pe_int) (fun _ _ => rfl)))
        (pss_cons (ps_if (pt_cmpR op_gt (pe_op op_mod (pe_op op_fdiv (pv 7) pe_int) pe_int) pe_int (nomark _)) (pss_one (ps_set (i := 8) sc__law_clauses.nd rfl (Or.inl rfl) (pe_callB (call_max2 rfl) (by rfl) B.max (by decide +kernel) (pa_cons pe_int (pa_cons (pv 8) pa_nil))))) pss_nil)
        (pss_cons (ps_set (i := 9) sc__law_clauses.nd rfl (Or.inl rfl) (pe_lst pa_nil))
        (pss_cons (ps_for PassesOwn.never rfl (pi_range1 rfl B.range (pa_cons (pv 8) pa_nil)) (pg_name (i := 10) sc__law_clauses.nd rfl (Or.inl rfl)) (pss_cons (ps_set (i := 11) sc__law_clauses.nd rfl (Or.inl rfl) (pe_op op_add (pe_ix (ixL K) (pv 0) (pe_op op_mod (pe_callTy (call_int1) (by rfl) B.int (by decide +kernel) (pa_cons (pe_op op_add (pe_op op_add (pe_op op_add (pv 1) (pe_op op_mul pe_int (pv 6))) (pe_op op_mul pe_int (pv 10))) pe_int) pa_nil)) (pe_callB (cLen K) (by rfl) B.len (by decide +kernel) (pa_cons (pv 0) pa_nil))) (fun _ _ => rfl)) (pe_op op_fdiv (pv 7) pe_int)))
          (pss_one (ps_expr (pe_bm PySem.F.plainAttrs_list PySem.F.slot_list_append PySem.F.type_list_append mt_append (pv 9) (pa_cons (pe_tup (pa_cons (pe_op op_mod (pv 11) (pv 2)) (pa_cons (pe_op op_mod (pe_op op_fdiv (pv 11) pe_int) (pv 2)) (pa_cons (pe_op op_sub (pe_op op_sub (pe_op op_mod (pe_op op_fdiv (pv 11) pe_int) (pe_op op_add (pe_op op_mul pe_int (pv 4)) pe_int)) (pv 4)) (pe_op op_fdiv (pv 4) pe_int)) pa_nil)))) pa_nil))))))
        (pss_one (ps_expr (pe_bm PySem.F.plainAttrs_list PySem.F.slot_list_append PySem.F.type_list_append mt_append (pv 5) (pa_cons (pe_callTy (cTuple K) (by rfl) B.tuple (by decide +kernel) (pa_cons (pv 9) pa_nil)) pa_nil))))))))))
      (pss_one (ps_ret (pv 5))))), ?_⟩
    refine ⟨by show 0 ≤ sizeLine; decide, fun R hR => ?_⟩
    have s1 := same_new (o := .lst []) hR
    have l100i : ((intsL ms).length : Int) = 100 := by rw [intsL_len, l100]; rfl
    refine ⟨_, rfl, count, rfl, by omega, by omega, ?_⟩
    rw [Int.toNat_natCast]
    refine for_range (lo := 0) (n := count) (fun i σ H' => ∃ (u6 u7 u8 u9 u10 u11 : Option V) (xs : List V) (C : List (List Lit)), σ = [some (.ref L), some (.int 10), some (.int n), some (.int count), some (.int size), some (.ref R), u6, u7, u8, u9, u10, u11] ∧ Same H H' ∧ H' R = some (.lst xs) ∧ Al (RowAt H') xs C ∧ C.length = i ∧ ClsOk n C)
      ⟨none, none, none, none, none, none, [], [], rfl, s1, upd_same, Al.nil, rfl, fun cl h => (by cases h), fun cl h => (by cases h)⟩ (fun i σ H1 hi q => ?_) fun σ H1 q => ?_
    · obtain ⟨u6, u7, u8, u9, u10, u11, xs, C, rfl, sm, eR, al, lC, cok⟩ := q
      have e0 : ((0 : Int) + (i : Int)) = (i : Int) := by omega
      rw [e0]
      obtain ⟨num, hnum, mnum⟩ := emod_at l100 ((10 : Int) + (i : Int))
      have num0 := nn num mnum
      refine ⟨_, rfl, _, rfl, _, rfl, _, _, rfl, rfl, .inl ⟨_, rfl, _, rfl, L, _, rfl, .inl (SqL.of (sm _ _ eL)), _, _, rfl, rfl, ?_, ?_⟩⟩
      · rw [l100i]
        show (0 : Int) < 100
        decide
      rw [l100i]
      refine ⟨L, _, _, _, rfl, rfl, SqL.of (sm _ _ eL), hnum, ?_⟩
      -- how many
      refine ⟨by show 12 ≤ sizeLine; decide, fun q hq => ?_⟩
      have sq := same_new (o := .lst manyV) hq
      have eq_ : (upd H1 q (.lst manyV)) q = some (.lst manyV) := upd_same
      have lR := al.len
      have m0 : 0 ≤ num % 12 := Int.emod_nonneg _ (by decide)
      have m1 : num % 12 < 12 := Int.emod_lt_of_pos _ (by decide)
      obtain ⟨j12, hj12⟩ : ∃ j : Nat, num % 12 = (j : Int) := ⟨(num % 12).toNat, (Int.toNat_of_nonneg m0).symm⟩
      obtain ⟨m, hm, lm⟩ := manyV_at j12 (by omega)
      refine ⟨_, rfl, _, _, rfl, rfl, (by show (0 : Int) < 12; decide), q, manyV, _, _, rfl, rfl, SqL.of eq_, by rw [hj12]; exact atI_nat hm, ?_⟩
      have sm2 := sm.trans sq
      have eR2 := sq _ _ eR
      have al2 := RowsAt.mono (Same.tups sq) al
      refine ⟨_, rfl, _, _, rfl, rfl, ⟨by decide, by decide⟩, _, _, rfl, rfl, (by show (0 : Int) < 5; decide), _, _, rfl, rfl, _, rfl, ?_⟩
      refine ite2 (fun _ => ⟨_, rfl, _, _, rfl, ?_⟩) fun _ => ?_
      all_goals
        first
        | (obtain ⟨m', em', lm'⟩ : ∃ m' : Nat, (if (m : Int) > 1 then (m : Int) else 1) = (m' : Int) ∧ m' ≤ 3 := ⟨max 1 m, by split <;> omega, by omega⟩
           rw [em'])
        | (obtain ⟨m', em', lm'⟩ : ∃ m' : Nat, (m : Int) = (m' : Int) ∧ m' ≤ 3 := ⟨m, rfl, lm⟩
           rw [em'])
        refine ⟨by show 0 ≤ sizeLine; decide, fun cl hcl => ?_⟩
        have scl := same_new (o := .lst []) hcl
        have ncR : R ≠ cl := ne_of_none eR2 hcl
        have fcl := sm2.free hcl
        refine ⟨_, rfl, m', rfl, by omega, by omega, ?_⟩
        rw [Int.toNat_natCast]
        refine for_range (lo := 0) (n := m') (fun j σ H' => ∃ (v8 : V) (u10 u11 : Option V) (ys : List V) (r : List Lit), σ = [some (.ref L), some (.int 10), some (.int n), some (.int count), some (.int size), some (.ref R), some (.int i), some (.int num), some v8, some (.ref cl), u10, u11] ∧ Same H H' ∧ H' R = some (.lst xs) ∧ Al (RowAt H') xs C ∧ H' cl = some (.lst ys) ∧ Al (LitAt H') ys r ∧ r.length = j ∧ Lok n r)
          ⟨_, u10, u11, [], [], rfl, sm2.trans scl, scl _ _ eR2, RowsAt.mono (Same.tups scl) al2, upd_same, Al.nil, rfl, fun l h => (by cases h)⟩ (fun j σ H2 hj q => ?_) fun σ H2 q => ?_
        · obtain ⟨v8, u10, u11, ys, r, rfl, sm3, eR3, al3, ecl, alr, lr, rok⟩ := q
          have e1 : ((0 : Int) + (j : Int)) = (j : Int) := by omega
          rw [e1]
          obtain ⟨o1, ho1, mo1⟩ := emod_at l100 ((10 : Int) + 3 * (i : Int) + 7 * (j : Int) + 1)
          have o1n := nn o1 mo1
          refine ⟨_, rfl, _, rfl, _, rfl, _, _, rfl, rfl, .inl ⟨by decide, by decide⟩, _, _, rfl, rfl, _, rfl, _, _, rfl, rfl, .inl ⟨by decide, by decide⟩, _, _, rfl, rfl, _, _, rfl, rfl, .inl ⟨_, rfl, _, rfl, L, _, rfl, .inl (SqL.of (sm3 _ _ eL)), _, _, rfl, rfl, ?_, ?_⟩⟩
          · rw [l100i]
            show (0 : Int) < 100
            decide
          rw [l100i]
          refine ⟨L, _, _, _, rfl, rfl, SqL.of (sm3 _ _ eL), ho1, _, rfl, _, _, rfl, rfl, ⟨by decide, by decide⟩, _, _, rfl, rfl, ?_⟩
          have oth : 0 ≤ o1 + num / 60 := by
            have := Int.ediv_nonneg num0 (show (0 : Int) ≤ 60 by decide)
            omega
          have np : (0 : Int) < (n : Int) := by omega
          have a0 := Int.emod_nonneg (o1 + num / 60) (show (n : Int) ≠ 0 by omega)
          have a1 := Int.emod_lt_of_pos (o1 + num / 60) np
          have b0 := Int.emod_nonneg ((o1 + num / 60) / 9) (show (n : Int) ≠ 0 by omega)
          have b1 := Int.emod_lt_of_pos ((o1 + num / 60) / 9) np
          refine ⟨_, rfl, .inl ⟨rfl, _, SqL.of ecl⟩, _, rfl, _, rfl, _, _, rfl, rfl, np, _, rfl, _, _, rfl, rfl, ⟨by decide, by decide⟩, _, rfl, _, _, rfl, rfl, np, _, rfl, _, _, rfl, rfl, ⟨by decide, by decide⟩, _, rfl, _, _, rfl, rfl, .inl ⟨by decide, by decide⟩, _, _, rfl, rfl, _, _, rfl, rfl, (by show (0 : Int) < 2 * (size : Int) + 1; omega), _, rfl, _, _, rfl, rfl, _, rfl, _, _, rfl, rfl, ⟨by decide, by decide⟩, _, _, rfl, rfl, by show 3 ≤ sizeLine; decide, fun T hT => ?_⟩
          have sT := same_new (o := .tup [.int ((o1 + num / 60) % n), .int ((o1 + num / 60) / 9 % n), .int ((o1 + num / 60) / 81 % (2 * (size : Int) + 1) - size - (size : Int) / 2)]) hT
          have eT : (upd H2 T (.tup [.int ((o1 + num / 60) % n), .int ((o1 + num / 60) / 9 % n), .int ((o1 + num / 60) / 81 % (2 * (size : Int) + 1) - size - (size : Int) / 2)])) T = some (.tup (litV ⟨((o1 + num / 60) % n).toNat, ((o1 + num / 60) / 9 % n).toNat, (o1 + num / 60) / 81 % (2 * (size : Int) + 1) - size - (size : Int) / 2⟩)) := by
            rw [upd_same]
            show _ = some (HO.tup [V.int (((o1 + num / 60) % n).toNat : Int), V.int (((o1 + num / 60) / 9 % n).toNat : Int), _])
            rw [Int.toNat_of_nonneg a0, Int.toNat_of_nonneg b0]
          have lys := alr.len
          refine ⟨cl, ys, .ref T, rfl, rfl, sT _ _ ecl, small1000 (by omega), ?_⟩
          have tp := Tups.lst (ys := ys ++ [.ref T]) (sT _ _ ecl)
          have tp2 := (Same.tups sT).trans tp
          refine ⟨v8, _, _, ys ++ [.ref T], r ++ [_], rfl, Same.mut (sm3.trans sT) fcl, (upd_ne ncR).trans (sT _ _ eR3), RowsAt.mono tp2 al3, upd_same, (LitsAt.mono tp2 alr).snoc ⟨T, rfl, tp _ _ eT⟩, by rw [List.length_append, List.length_singleton, lr], fun l hl => ?_⟩
          rcases List.mem_append.mp hl with z | z
          · exact rok l z
          · rw [List.mem_singleton.mp z]
            exact ⟨by show ((o1 + num / 60) % n).toNat < n; omega, by show ((o1 + num / 60) / 9 % n).toNat < n; omega⟩
        · obtain ⟨v8, u10, u11, ys, r, rfl, sm3, eR3, al3, ecl, alr, lr, rok⟩ := q
          refine ⟨_, rfl, .inl ⟨rfl, _, SqL.of eR3⟩, _, rfl, cl, ys, rfl, SqL.of ecl, fun T hT => ?_⟩
          have sT := same_new (o := .tup ys) hT
          have lxs := al3.len
          refine ⟨R, xs, .ref T, rfl, rfl, sT _ _ eR3, small1000 (by omega), ?_⟩
          have tp : Tups (upd H2 T (.tup ys)) (upd (upd H2 T (.tup ys)) R (.lst (xs ++ [.ref T]))) := Tups.lst (sT _ _ eR3)
          have tp2 := (Same.tups sT).trans tp
          refine ⟨_, _, _, _, _, _, xs ++ [.ref T], C ++ [r], rfl, Same.mut (sm3.trans sT) hR, upd_same, (RowsAt.mono tp2 al3).snoc ⟨ys, ⟨T, rfl, tp _ _ upd_same⟩, LitsAt.mono tp2 alr⟩, by rw [List.length_append, List.length_singleton, lC], fun c hc => ?_, fun c hc => ?_⟩
          · rcases List.mem_append.mp hc with z | z
            · exact cok.ok c z
            · rw [List.mem_singleton.mp z]
              exact rok
          · rcases List.mem_append.mp hc with z | z
            · exact cok.short c z
            · rw [List.mem_singleton.mp z]
              omega
    · obtain ⟨u6, u7, u8, u9, u10, u11, xs, C, rfl, sm, eR, al, lC, cok⟩ := q
      exact ⟨_, rfl, k H1 R xs C sm eR al lC cok⟩
end
end D7
/-! D7, the law, part 3: a paper and its used clauses -/
namespace D7
open PySem L2

theorem W12 : W 12 = 797161 := rfl
theorem W13 : W 13 = 2391484 := rfl
def pickC (C : List (List Lit)) (ns : List Int) : List (List Lit) := ns.map fun k => C.getD k.toNat []
theorem pick_mem {C : List (List Lit)} {ns : List Int} (hb : ∀ k ∈ ns, 0 ≤ k ∧ k < (C.length : Int)) {cl : List Lit} (h : cl ∈ pickC C ns) : cl ∈ C := by
  obtain ⟨k, hk, rfl⟩ := List.mem_map.mp h
  obtain ⟨a, b⟩ := hb k hk
  have lt : k.toNat < C.length := by omega
  rw [List.getD_eq_getElem?_getD, List.getElem?_eq_getElem lt]
  exact List.getElem_mem lt
theorem pick_len {C : List (List Lit)} {ns : List Int} (hs : ns.Pairwise (· < ·)) (hb : ∀ k ∈ ns, 0 ≤ k ∧ k < (C.length : Int)) : (pickC C ns).length ≤ C.length := by
  have nd : ns.Nodup := hs.imp fun h => Int.ne_of_lt h
  have := nodup_sub (m := (List.range C.length).map fun i : Nat => (i : Int)) nd fun k hk => by
    obtain ⟨a, b⟩ := hb k hk
    exact List.mem_map.mpr ⟨k.toNat, List.mem_range.mpr (by omega), by omega⟩
  rw [List.length_map, List.length_range] at this
  unfold pickC
  rw [List.length_map]
  exact this
/-- no values for the used clauses -/
theorem pick_unsat {C : List (List Lit)} {ns : List Int} {q : Paper} {v : Val} (acc : Acc C [] q) (cov : ∀ k : Nat, Used C [] q k → (k : Int) ∈ ns) (sat : SatC v (pickC C ns)) : False :=
  acc.unsat (v := v) (fun l h => by cases h) fun k hk => by
    have lt := hk.lt acc
    have hm : C.getD k [] ∈ pickC C ns := List.mem_map.mpr ⟨(k : Int), cov k hk, by simp⟩
    rw [List.getD_eq_getElem?_getD, List.getElem?_eq_getElem lt] at hm
    exact ⟨C[k], List.getElem?_eq_getElem lt, sat _ hm⟩
theorem Prob.pick {H : Hp} {n : Nat} {p p2 : Addr} {C : List (List Lit)} {ns : List Int} {ys : List V} (h : Prob H n p C) (hs : ns.Pairwise (· < ·)) (hb : ∀ k ∈ ns, 0 ≤ k ∧ k < (C.length : Int)) (e : H p2 = some (.lst ys)) (al : Al (RowAt H) ys (pickC C ns)) : Prob H n p2 (pickC C ns) :=
  ⟨h.n1, h.n7, ⟨ys, e, al⟩, fun cl hc => h.ok cl (pick_mem hb hc), Nat.le_trans (pick_len hs hb) h.few, fun cl hc => h.short cl (pick_mem hb hc)⟩
section
variable {P : Program} {w : World} {K : PySem.W.Frag} {mg : Str → Option Value} {base : Heap}
abbrev s__law_paper : Stmt := top 48
abbrev N__law_paper : List Str := ["_law_n", "_law_clauses_here", "_law_paper_here", "_law_found", "_law_small", "_law_ring", "_law_less", "_law_k", "_law_kind", "_law_told"]
theorem sc__law_paper : FnScope N__law_paper ["_law_n", "_law_clauses_here", "_law_paper_here"] (defScope s__law_paper) := ⟨rfl, rfl, rfl, by decide +kernel, rfl, by decide +kernel, by decide +kernel⟩
def sp__law_paper : Sp := fun vs H Q _ => ∃ (n : Nat) (p : Addr) (C : List (List Lit)) (v : V) (q : Paper), vs = [.int n, .ref p, v] ∧ Prob H n p C ∧ (∀ cl ∈ C, cl.length ≤ 3) ∧ C.length ≤ 12 ∧ PapAt H v q ∧ Acc C [] q ∧ Fine 7 C.length q ∧ ∀ H', Same H H' → Q (.bl true) H'
theorem ok__law_paper {f : Addr} {fd : FuncData} (F : Fun K "_law_paper" "_law_paper" s__law_paper f fd) (D_check_paper : Def P w K mg base 4 "check_paper" ["n", "clauses", "paper"] sp_check_paper) (D_is_ring : Def P w K mg base 1 "is_ring" ["ring"] sp_is_ring)
    (D_rings_of : Def P w K mg base 1 "rings_of" ["paper"] sp_rings_of) (D_solve : Def P w K mg base 8 "solve" ["n", "clauses"] sp_solve) (D_trimmed : Def P w K mg base 6 "trimmed" ["n", "clauses", "paper"] sp_trimmed) (D_used_clauses : Def P w K mg base 6 "used_clauses" ["n", "clauses", "paper"] sp_used_clauses) :
    FnOk P w K mg base CX0 9 f fd ["_law_n", "_law_clauses_here", "_law_paper_here"] sp__law_paper := by
  refine F.ok sc__law_paper (fun vs H Q E h => ?_) (fun cdv A outer s H vs Q E hr h => ?_)
  · obtain ⟨n, p, C, v, q, rfl, _⟩ := h
    rfl
  · obtain ⟨n, p, C, v, q, rfl, pr, short, c12, hp, acc, fine, k⟩ := h
    refine ⟨_, (pss_cons (ps_set (i := 3) sc__law_paper.nd rfl (Or.inl rfl) (callD D_used_clauses (hr.mono (by decide)) rfl (pa_cons (pv 0) (pa_cons (pv 1) (pa_cons (pv 2) pa_nil)))))
      (pss_cons (ps_set (i := 4) sc__law_paper.nd rfl (Or.inl rfl) (callD D_trimmed (hr.mono (by decide)) rfl (pa_cons (pv 0) (pa_cons (pv 1) (pa_cons (pv 2) pa_nil)))))
      (pss_cons (ps_for PassesOwn.never rfl (piL K (pe_op op_cat (callD D_rings_of (hr.mono (by decide)) rfl (pa_cons (pv 2) pa_nil)) (callD D_rings_of (hr.mono (by decide)) rfl (pa_cons (pv 4) pa_nil)))) (pg_name (i := 5) sc__law_paper.nd rfl (Or.inl rfl)) (pss_one (ps_if (pt_not (pt_val (callD D_is_ring (hr.mono (by decide)) rfl (pa_cons (pv 5) pa_nil)))) (pss_one (ps_ret pe_bl)) pss_nil)))
      (pss_cons (ps_setLc (i := 6) (own := [("_law_k", 7)]) rfl sc__law_paper.nd rfl rfl (sw_true rfl rfl rfl (by decide +kernel)) (piL K (pv 3)) (blkOk_by (N := N__law_paper) (sc := defScope s__law_paper) (by decide +kernel)) (fun _ _ _ _ _ => (pg_name (i := 7) sc__law_paper.nd rfl (Or.inl rfl))) (fun _ _ _ _ _ => pts_nil) (fun _ _ _ _ _ => (pe_ix (ixL K) (pv 1) (pv 7) (fun _ _ => rfl))))
      (pss_cons (ps_asg (callD D_solve (hr.mono (by decide)) rfl (pa_cons (pv 0) (pa_cons (pv 6) pa_nil))) (pgT K 2 (pgs_cons (pg_name (i := 8) sc__law_paper.nd rfl (Or.inl rfl)) (pgs_cons (pg_name (i := 9) sc__law_paper.nd rfl (Or.inl rfl)) pgs_nil))))
      (pss_cons (ps_if (PW.pt (pw_or (pt_cmpR op_ne (pv 8) pe_str (nomark _)) (pw_or1 (pt_cmpR op_notBl (callD D_check_paper (hr.mono (by decide)) rfl (pa_cons (pv 0) (pa_cons (pv 6) (pa_cons (pv 9) pa_nil)))) pe_bl (nomark _))))) (pss_one (ps_ret pe_bl)) pss_nil)
      (pss_cons (ps_asg (callD D_solve (hr.mono (by decide)) rfl (pa_cons (pv 0) (pa_cons (pe_lc (own := [("_law_k", 7)]) rfl sc__law_paper.nd (piL K (callD D_used_clauses (hr.mono (by decide)) rfl (pa_cons (pv 0) (pa_cons (pv 1) (pa_cons (pv 4) pa_nil))))) (blkOk_by (N := N__law_paper) (sc := defScope s__law_paper) (by decide +kernel)) (fun _ _ _ _ _ => (pg_name (i := 7) sc__law_paper.nd rfl (Or.inl rfl))) (fun _ _ _ _ _ => pts_nil) (fun _ _ _ _ _ => (pe_ix (ixL K) (pv 1) (pv 7) (fun _ _ => rfl)))) pa_nil))) (pgT K 2 (pgs_cons (pg_name (i := 8) sc__law_paper.nd rfl (Or.inl rfl)) (pgs_cons (pg_name (i := 9) sc__law_paper.nd rfl (Or.inl rfl)) pgs_nil))))
      (pss_one (ps_ret (pe_cmpR op_eq (pv 8) pe_str (nomark _))))))))))), ?_⟩
    have w12 := wt_le short acc (fine.mono c12)
    rw [W12] at w12
    have pk : Pok C.length q := ⟨fine, by omega⟩
    -- the used clauses, the trimmed paper
    refine ⟨_, rfl, _, rfl, _, rfl, n, p, C, v, q, C.length, rfl, pr, hp, pk, by omega, by omega, acc, fun H1 R ns s1 hR eR pw nb cov => ?_⟩
    have pr1 := pr.mono s1
    refine ⟨_, rfl, _, rfl, _, rfl, n, p, C, v, q, C.length, rfl, pr1, hp.mono (Same.tups s1), pk, by omega, acc, fun H2 u q' s2 hu acc' fine' => ?_⟩
    have w12' := wt_le short acc' (fine'.mono c12)
    rw [W12] at w12'
    have pk' : Pok C.length q' := ⟨fine', by omega⟩
    have s12 := s1.trans s2
    -- the rings
    refine ⟨_, rfl, v, q, C, C.length, rfl, hp.mono (Same.tups s12), pk, acc, fun H3 R1 fs s3 hR1 eR1 lfs rfs => ?_⟩
    refine ⟨_, rfl, u, q', C, C.length, rfl, hu.mono (Same.tups s3), pk', acc', fun H4 R2 gs s4 hR2 eR2 lgs rgs => ?_⟩
    refine ⟨R1, R2, fs, gs, rfl, rfl, s4 _ _ eR1, eR2, by unfold sizeLine; omega, fun R3 hR3 => ?_⟩
    have s5 := same_new (o := .lst (fs ++ gs)) hR3
    have eR3 : (upd H4 R3 (.lst (fs ++ gs))) R3 = some (.lst (fs ++ gs)) := upd_same
    have rings : ∀ z ∈ fs ++ gs, RingV (upd H4 R3 (.lst (fs ++ gs))) z := fun z hz => by
      rcases List.mem_append.mp hz with a | a
      · obtain ⟨r, b1, b2⟩ := rfs z a
        exact ⟨r, b1.mono (Same.tups (s4.trans s5)), b2⟩
      · obtain ⟨r, b1, b2⟩ := rgs z a
        exact ⟨r, b1.mono (Same.tups s5), b2⟩
    have s25 := s3.trans (s4.trans s5)
    generalize upd H4 R3 (.lst (fs ++ gs)) = H5 at eR3 rings s25 ⊢
    refine ⟨R3, rfl, ⟨_, SqL.of eR3⟩, ?_⟩
    refine for_list (K := K) (a := R3) (xs := fs ++ gs) (fun i σ H' => ∃ u5 : Option V, σ = [some (.int n), some (.ref p), some v, some (.ref R), some u, u5, none, none, none, none] ∧ Same H5 H') ⟨none, rfl, Same.refl _⟩ (fun i σ H' _ q => by obtain ⟨_, _, sm⟩ := q; exact SqL.of (sm _ _ eR3)) (fun i z σ H' hi q => ?_) fun σ H6 q => ?_
    · obtain ⟨u5, rfl, sm⟩ := q
      obtain ⟨r, row, isr, l7⟩ := rings z (List.mem_of_getElem? hi)
      exact ⟨_, rfl, z, r, rfl, row.mono (Same.tups sm), isr, by omega, fun H7 s7 => ⟨true, rfl, _, rfl, sm.trans s7⟩⟩
    · obtain ⟨u5, rfl, sm⟩ := q
      have s06 : Same H H6 := s12.trans (s25.trans sm)
      have pr6 := pr.mono s06
      obtain ⟨xl, hpl, alC⟩ := pr6.at_
      have eR6 := s2.trans (s25.trans sm) _ _ eR
      have ln : (ns.map V.int).length = ns.length := List.length_map _
      have lpk := pick_len pw nb
      have lnn : ns.length ≤ 13 := by
        unfold pickC at lpk
        rw [List.length_map] at lpk
        omega
      have row_at : ∀ {ns : List Int} {H7 : Hp} (i : Nat) (z : V), (∀ k ∈ ns, 0 ≤ k ∧ k < (C.length : Int)) → Same H6 H7 → (ns.map V.int)[i]? = some z → ∃ (k : Nat) (y : V) (cl : List Lit), z = .int (k : Int) ∧ xl[k]? = some y ∧ (pickC C ns)[i]? = some cl ∧ RowAt H7 y cl := by
        intro ns H7 i z nb s7 hi
        rw [List.getElem?_map] at hi
        cases e : ns[i]? with
        | none =>
          rw [e] at hi
          cases hi
        | some kk =>
          rw [e] at hi
          obtain rfl : V.int kk = z := Option.some.inj hi
          obtain ⟨a, b⟩ := nb kk (List.mem_of_getElem? e)
          have lt : kk.toNat < C.length := by omega
          obtain ⟨y, hy, row⟩ := alC.back (List.getElem?_eq_getElem lt)
          refine ⟨kk.toNat, y, C[kk.toNat], by rw [Int.toNat_of_nonneg a], hy, ?_, row.mono (Same.tups s7)⟩
          unfold pickC
          rw [List.getElem?_map, e]
          show some (C.getD kk.toNat []) = _
          rw [List.getD_eq_getElem?_getD, List.getElem?_eq_getElem lt]
          rfl
      have al_of : ∀ {ns : List Int} {H7 : Hp} {ys : List V}, Al (fun y i => ∃ cl, (pickC C ns)[i]? = some cl ∧ RowAt H7 y cl) ys ((List.range ns.length).filter fun _ => true) → Al (RowAt H7) ys (pickC C ns) := fun {ns H7 ys} h => by
        obtain ⟨a, b⟩ := al_all (α := Nat) h
        exact ⟨by rw [a]; unfold pickC; rw [List.length_map], fun i y hy => b i y hy⟩
      refine ⟨_, rfl, R, rfl, ⟨_, SqL.of eR6⟩, ?_⟩
      refine lcL (K := K) (SqL.of eR6) (by rw [ln]; exact Nat.le_of_lt (small1000 (by omega))) (fun _ => true) (fun i y H' => ∃ cl, (pickC C ns)[i]? = some cl ∧ RowAt H' y cl) (fun _ _ _ _ t q => let ⟨cl, a, b⟩ := q; ⟨cl, a, b.mono t⟩) (fun i z H7 hi s7 Kt Kf k1 _ => ?_) fun p2 H7 ys hp2 s7 ep2 al => ?_
      · obtain ⟨kk, y, cl, rfl, hy, hcl, row⟩ := row_at i z nb s7 hi
        exact ⟨rfl, _, rfl, _, rfl, p, xl, _, _, rfl, rfl, SqL.of (s7 _ _ hpl), atI_nat hy, k1 _ _ rfl (Same.refl _) ⟨cl, hcl, row⟩⟩
      · rw [ln] at al
        have pr2 : Prob H7 n p2 (pickC C ns) := (pr6.mono s7).pick pw nb ep2 (al_of al)
        have short2 : ∀ cl ∈ pickC C ns, cl.length ≤ 3 := fun cl hc => short cl (pick_mem nb hc)
        have s07 := s06.trans s7
        refine ⟨_, rfl, _, rfl, n, p2, pickC C ns, rfl, pr2, fun H8 T t val s8 eT et sat => (pick_unsat acc cov sat).elim, fun H8 T told q2 s8 eT hq2 acc2 fine2 => ?_⟩
        refine ⟨T, _, rfl, SqT.of eT, rfl, _, _, rfl, _, _, rfl, rfl, ?_⟩
        refine ⟨_, rfl, rfl, _, rfl, ?_⟩
        rw [show (!decide (V.str "paper" = V.str "paper")) = false from nT rfl]
        have w13 := wt_le short2 acc2 (fine2.mono (Nat.le_trans lpk c12))
        rw [W12] at w13
        refine iteF ⟨_, rfl, _, rfl, _, rfl, n, p2, pickC C ns, told, q2, _, rfl, pr2.mono s8, hq2, ⟨fine2, by omega⟩, by omega, acc2, fun H9 s9 => ⟨true, true, rfl, rfl, _, rfl, ?_⟩⟩
        rw [show (!decide (true = true)) = false from rfl]
        have s09 := s07.trans (s8.trans s9)
        -- the used clauses of the trimmed paper
        refine ⟨_, rfl, _, rfl, _, rfl, _, rfl, n, p, C, u, q', C.length, rfl, pr.mono s09, hu.mono (Same.tups (s25.trans (sm.trans (s7.trans (s8.trans s9))))), pk', by omega, by omega, acc', fun Ha Ra ms sa hRa eRa pwa nba cova => ?_⟩
        have lna : (ms.map V.int).length = ms.length := List.length_map _
        have lpka := pick_len pwa nba
        have lnna : ms.length ≤ 13 := by
          unfold pickC at lpka
          rw [List.length_map] at lpka
          omega
        have s6a : Same H6 Ha := s7.trans (s8.trans (s9.trans sa))
        refine ⟨Ra, rfl, ⟨_, SqL.of eRa⟩, ?_⟩
        refine lcL (K := K) (SqL.of eRa) (by rw [lna]; exact Nat.le_of_lt (small1000 (by omega))) (fun _ => true) (fun i y H' => ∃ cl, (pickC C ms)[i]? = some cl ∧ RowAt H' y cl) (fun _ _ _ _ t q => let ⟨cl, a, b⟩ := q; ⟨cl, a, b.mono t⟩) (fun i z Hb hi sb Kt Kf k1 _ => ?_) fun p3 Hb zs hp3 sb ep3 al => ?_
        · obtain ⟨kk, y, cl, rfl, hy, hcl, row⟩ := row_at i z nba (s6a.trans sb) hi
          exact ⟨rfl, _, rfl, _, rfl, p, xl, _, _, rfl, rfl, SqL.of ((s6a.trans sb) _ _ hpl), atI_nat hy, k1 _ _ rfl (Same.refl _) ⟨cl, hcl, row⟩⟩
        · rw [lna] at al
          have pr3 : Prob Hb n p3 (pickC C ms) := (pr6.mono (s6a.trans sb)).pick pwa nba ep3 (al_of al)
          refine ⟨n, p3, pickC C ms, rfl, pr3, fun Hc T t val sc eT et sat => (pick_unsat acc' cova sat).elim, fun Hc T2 told2 q3 sc eT2 hq3 acc3 fine3 => ?_⟩
          refine ⟨T2, _, rfl, SqT.of eT2, rfl, _, _, rfl, _, _, rfl, rfl, ?_⟩
          refine ⟨_, rfl, rfl, ?_⟩
          have := k Hc (s06.trans (s6a.trans (sb.trans sc)))
          rw [show decide (V.str "paper" = V.str "paper") = true from decide_eq_true rfl]
          exact this
end
end D7
/-! D7, the law, part 4: the law -/
namespace D7
open PySem L2

/-! ### clauses as deep data -/
def rowD (r : List Lit) : PyData := .tuple (r.map litD)
theorem litDs_eqv : ∀ r : List Lit, PyData.eqvAll (r.map litD) (r.map litD) = true
  | [] => by simp [PyData.eqvAll]
  | l :: r => by
    have h1 : PyData.eqv (litD l) (litD l) = true := by rw [litD_eqv]; exact decide_eq_true rfl
    simp only [List.map_cons, PyData.eqvAll, h1, litDs_eqv r, Bool.and_self]
theorem rowDs_eqv : ∀ C : List (List Lit), PyData.eqvAll (C.map rowD) (C.map rowD) = true
  | [] => by simp [PyData.eqvAll]
  | r :: C => by
    have h1 : PyData.eqv (rowD r) (rowD r) = true := by
      simp only [rowD, PyData.eqv]
      exact litDs_eqv r
    simp only [List.map_cons, PyData.eqvAll, h1, rowDs_eqv C, Bool.and_self]
theorem rowDs_lay : ∀ C : List (List Lit), PyData.canLayAll0 (C.map rowD) = true
  | [] => by simp [PyData.canLayAll0]
  | r :: C => by
    have h1 : (rowD r).canLay0 = true := by
      simp only [rowD, PyData.canLay0]
      exact litDs_lay r
    simp only [List.map_cons, PyData.canLayAll0, h1, rowDs_lay C, Bool.and_self]
theorem rowDs_depth : ∀ C : List (List Lit), PyData.depthAll (C.map rowD) ≤ 2
  | [] => by simp [PyData.depthAll]
  | r :: C => by
    have h1 := rowDs_depth C
    have h2 := litDs_depth r
    simp only [List.map_cons, PyData.depthAll, rowD, PyData.depth]
    omega
theorem rowDs_shaped (C : List (List Lit)) : SeqAt.shaped (.list (C.map rowD)) = true := by
  refine shaped_of (by simp only [PyData.canLay0]; exact rowDs_lay C) ?_
  have := rowDs_depth C
  simp only [PyData.depth]
  omega
theorem RowAt.dp {K : PySem.W.Frag} {H : Hp} {v : V} {r : List Lit} (h : RowAt H v r) : Dp K H v (rowD r) := by
  obtain ⟨vs, ⟨p, rfl, q⟩, al⟩ := h
  exact .tup (SqT.of q) (LitsAt.dp al)
theorem RowsAt.dp {K : PySem.W.Frag} {H : Hp} : ∀ {vs : List V} {C : List (List Lit)}, Al (RowAt H) vs C → DpAll K H vs (C.map rowD)
  | [], C, h => by
    have : C = [] := List.length_eq_zero_iff.mp h.len.symm
    subst this
    exact .nil
  | v :: vs, [], h => by
    have := h.len
    simp at this
  | v :: vs, r :: C, h => by
    obtain ⟨x, e, hx⟩ := h.at_ 0 v rfl
    have e' : r = x := by simpa using e
    subst e'
    exact .cons hx.dp (RowsAt.dp ⟨by simpa using h.len, fun i v e => by simpa using h.at_ (i + 1) v (by simpa using e)⟩)
theorem Al.drop {α : Type} {R : V → α → Prop} {vs : List V} {xs : List α} (h : Al R vs xs) (n : Nat) : Al R (vs.drop n) (xs.drop n) := by
  refine ⟨by rw [List.length_drop, List.length_drop, h.len], fun i v e => ?_⟩
  rw [List.getElem?_drop] at e ⊢
  exact h.at_ _ v e
theorem cut_drop {xs : List V} {m : Nat} (h : m ≤ xs.length) : cutV xs (some (m : Int)) none = xs.drop m := by
  unfold cutV
  rw [HT.sIx_none, HT.sIx_nat, Nat.min_eq_left h, List.take_of_length_le (by rw [List.length_drop]; omega)]
/-- each clause the same or longer -/
def Wider (C C' : List (List Lit)) : Prop := C'.length = C.length ∧ ∀ (i : Nat) cl, C'[i]? = some cl → ∃ c, C[i]? = some c ∧ ∀ l ∈ c, l ∈ cl
theorem Wider.sat {C C' : List (List Lit)} (h : Wider C C') {v : Val} (s : SatC v C) : SatC v C' := fun cl hc => by
  obtain ⟨i, hi⟩ := List.getElem?_of_mem hc
  obtain ⟨c, e, sub⟩ := h.2 i cl hi
  obtain ⟨l, a, b⟩ := s c (List.mem_of_getElem? e)
  exact ⟨l, sub l a, b⟩
def sizeV : List V := [.int 1, .int 2, .int 4]
theorem sizeV_at : ∀ j : Nat, j < 3 → ∃ m : Nat, sizeV[j]? = some (.int (m : Int)) ∧ 1 ≤ m ∧ m ≤ 4
  | 0, _ => ⟨1, rfl, by decide, by decide⟩
  | 1, _ => ⟨2, rfl, by decide, by decide⟩
  | 2, _ => ⟨4, rfl, by decide, by decide⟩
  | n + 3, h => absurd h (by omega)
section
variable {P : Program} {w : World} {K : PySem.W.Frag} {mg : Str → Option Value} {base : Heap}
abbrev s_law : Stmt := top 49
abbrev N_law : List Str := ["_law_script", "_law_numbers_here", "_law_n", "_law_clauses_here", "_law_kept", "_law_kind", "_law_told", "_law_wider", "_law_k", "_law_number", "_law_again", "_law_at", "_law_empty"]
theorem sc_law : FnScope N_law ["_law_script"] (defScope s_law) := ⟨rfl, rfl, rfl, by decide +kernel, rfl, by decide +kernel, by decide +kernel⟩
/-- the end of the law: an empty clause more -/
def lawTail (K : PySem.W.Frag) : TS := tSeq (tAsg (tOp (rI (fun _ j => 0 < j) fun i j => .int (i % j)) (tOp (rIxL K) (tVar 1) (tC (.int 3))) (tOp (rI0 fun i j => .int (i + j)) (tCB (rLen1 K) (tCons (tVar 3) tNil)) (tC (.int 1)))) (gName 11))
  (tSeq (tAsg (tOp rCat (tOp rCat (tSl (rSlL K) (tVar 3) tNoPart (tPart (tVar 11))) (tLst (tCons (tTup tNil) tNil))) (tSl (rSlL K) (tVar 3) (tPart (tVar 11)) tNoPart)) (gName 12))
  (tSeq (tAsg (tCall sp_solve [] E0 (tCons (tVar 2) (tCons (tVar 12) tNil))) (gTup K 2 (gCons (gName 5) (gCons (gName 6) gNil))))
  (tRet (tAndV (tOp rEq (tVar 5) (tC (.str "paper"))) (tAndV (tOp rIsB (tCall sp_check_paper [] E0 (tCons (tVar 2) (tCons (tVar 12) (tCons (tVar 6) tNil)))) (tC (.bl true)))
    (tOp rIsB (tCall sp_check_paper [] E0 (tCons (tVar 2) (tCons (tVar 12) (tCons (tTup (tCons (tC (.str "cases")) (tCons (tVar 11) (tCons (tTup tNil) tNil)))) tNil)))) (tC (.bl true))))))))
theorem law_tail {K : PySem.W.Frag} {L p : Addr} {n : Nat} {ms : List Int} {xs : List V} {C : List (List Lit)} {y3 : Int} {D : Ends} {H : Hp} {v0 v4 v5 v6 : V} {u7 u8 u9 u10 u11 u12 : Option V} (eL : H L = some (.lst (intsL ms))) (hy3 : atI (intsL ms) ((3 : Nat) : Int) = some (.int y3)) (ep : H p = some (.lst xs)) (al : Al (RowAt H) xs C)
    (n1 : 1 ≤ n) (n7 : n ≤ 7) (c12 : C.length ≤ 12) (cok : ClsOk n C) (k : ∀ H', D.rt (.bl true) H') : lawTail K D [some v0, some (.ref L), some (.int n), some (.ref p), some v4, some v5, some v6, u7, u8, u9, u10, u11, u12] H := by
  have lxs := al.len
  have pos : (0 : Int) < (xs.length : Int) + 1 := by omega
  have a0 := Int.emod_nonneg y3 (show ((xs.length : Int) + 1) ≠ 0 by omega)
  have a1 := Int.emod_lt_of_pos y3 pos
  obtain ⟨a, ea⟩ : ∃ a : Nat, y3 % ((xs.length : Int) + 1) = (a : Int) := ⟨(y3 % ((xs.length : Int) + 1)).toNat, (Int.toNat_of_nonneg a0).symm⟩
  have ale : a ≤ xs.length := by omega
  refine ⟨_, rfl, L, _, _, _, rfl, rfl, SqL.of eL, hy3, _, rfl, p, xs, rfl, .inl (SqL.of ep), _, _, rfl, rfl, _, _, rfl, rfl, pos, ?_⟩
  refine ⟨_, rfl, _, rfl, (a : Int), congrArg V.int ea, p, xs, rfl, SqL.of ep, fun q1 hq1 => ?_⟩
  rw [cut_take ale]
  have s1 := same_new (o := .lst (xs.take a)) hq1
  have e1 : (upd H q1 (.lst (xs.take a))) q1 = some (.lst (xs.take a)) := upd_same
  generalize upd H q1 (.lst (xs.take a)) = H1 at s1 e1 ⊢
  refine ⟨by show 0 ≤ sizeLine; decide, fun t0 ht0 => ⟨by show 1 ≤ sizeLine; decide, fun q2 hq2 => ?_⟩⟩
  have s2 := same_new (o := .tup []) ht0
  have s3 := same_new (o := .lst [.ref t0]) hq2
  have e2 := s3 _ _ (upd_same (H := H1) (a := t0) (o := .tup []))
  have e3 := upd_same (H := upd H1 t0 (.tup [])) (a := q2) (o := .lst [.ref t0])
  have s13 := s2.trans s3
  generalize upd (upd H1 t0 (.tup [])) q2 (.lst [.ref t0]) = H2 at s13 e2 e3 ⊢
  clear s2 s3
  refine ⟨q1, q2, _, _, rfl, rfl, s13 _ _ e1, e3, by rw [List.length_take]; unfold sizeLine; simp only [List.length_singleton]; omega, fun q3 hq3 => ?_⟩
  have s4 := same_new (o := .lst (xs.take a ++ [.ref t0])) hq3
  have e4 : (upd H2 q3 (.lst (xs.take a ++ [.ref t0]))) q3 = some (.lst (xs.take a ++ [.ref t0])) := upd_same
  have s04 := s1.trans (s13.trans s4)
  have e2' := s4 _ _ e2
  generalize upd H2 q3 (.lst (xs.take a ++ [.ref t0])) = H3 at e4 e2' s04 ⊢
  refine ⟨_, rfl, _, rfl, (a : Int), congrArg V.int ea, p, xs, rfl, SqL.of (s04 _ _ ep), fun q4 hq4 => ?_⟩
  rw [cut_drop ale]
  have s5 := same_new (o := .lst (xs.drop a)) hq4
  refine ⟨q3, q4, _, _, rfl, rfl, s5 _ _ e4, upd_same, by rw [List.length_append, List.length_take, List.length_drop]; unfold sizeLine; simp only [List.length_singleton]; omega, fun pe hpe => ?_⟩
  have s6 := same_new (o := .lst ((xs.take a ++ [.ref t0]) ++ xs.drop a)) hpe
  have e6 := upd_same (H := upd H3 q4 (.lst (xs.drop a))) (a := pe) (o := .lst ((xs.take a ++ [.ref t0]) ++ xs.drop a))
  have s06 := s04.trans (s5.trans s6)
  have e2'' := s6 _ _ (s5 _ _ e2')
  generalize upd (upd H3 q4 (.lst (xs.drop a))) pe (.lst ((xs.take a ++ [.ref t0]) ++ xs.drop a)) = H4 at e6 s06 e2'' ⊢
  have al4 := RowsAt.mono (Same.tups s06) al
  have al5 : Al (RowAt H4) ((xs.take a ++ [.ref t0]) ++ xs.drop a) ((C.take a ++ [[]]) ++ C.drop a) := ((al4.take a).snoc ⟨[], ⟨t0, rfl, e2''⟩, Al.nil⟩).app (al4.drop a)
  have len4 : ((C.take a ++ [[]]) ++ C.drop a).length = C.length + 1 := by
    rw [List.length_append, List.length_append, List.length_take, List.length_drop, List.length_singleton]
    omega
  have mem4 : ∀ cl ∈ (C.take a ++ [[]]) ++ C.drop a, cl ∈ C ∨ cl = [] := fun cl hc => by
    rcases List.mem_append.mp hc with q | q
    · rcases List.mem_append.mp q with q | q
      · exact .inl (List.mem_of_mem_take q)
      · exact .inr (List.mem_singleton.mp q)
    · exact .inl (List.mem_of_mem_drop q)
  have at4 : ((C.take a ++ [[]]) ++ C.drop a)[a]? = some [] := by
    rw [List.append_assoc, List.getElem?_append_right (by rw [List.length_take]; omega), List.length_take, Nat.min_eq_left (by omega), Nat.sub_self]
    rfl
  generalize (C.take a ++ [[]]) ++ C.drop a = C4 at al5 len4 mem4 at4
  have ok4 : ∀ cl ∈ C4, Lok n cl := fun cl hc => by
    rcases mem4 cl hc with q | q
    · exact cok.ok cl q
    · rw [q]
      exact fun l h => (by cases h)
  have short4 : ∀ cl ∈ C4, cl.length ≤ 3 := fun cl hc => by
    rcases mem4 cl hc with q | q
    · exact cok.short cl q
    · rw [q]
      exact Nat.zero_le _
  have pr4 : Prob H4 n pe C4 := ⟨n1, n7, ⟨_, e6, al5⟩, ok4, by omega, fun cl hc => Nat.le_succ_of_le (short4 cl hc)⟩
  refine ⟨_, rfl, _, rfl, n, pe, C4, rfl, pr4, fun H5 T t v s7 eT et sat => ?_, fun H5 T u q s7 eT hq acc fine => ?_⟩
  · obtain ⟨l, hl, _⟩ := sat [] (List.mem_of_getElem? at4)
    cases hl
  · refine ⟨T, _, rfl, SqT.of eT, rfl, _, _, rfl, _, _, rfl, rfl, ?_⟩
    refine ⟨_, rfl, rfl, _, rfl, ?_⟩
    rw [show decide (V.str "paper" = V.str "paper") = true from decide_eq_true rfl]
    have w13 := wt_le short4 acc (fine.mono (show C4.length ≤ 13 by omega))
    rw [W13] at w13
    have pr5 := pr4.mono s7
    refine ⟨_, rfl, _, rfl, _, rfl, n, pe, C4, u, q, C4.length, rfl, pr5, hq, ⟨fine, by omega⟩, by omega, acc, fun H6 s8 => ⟨true, true, rfl, rfl, true, by rw [decide_eq_true rfl], ?_⟩⟩
    refine ⟨_, rfl, _, rfl, _, rfl, by show 0 ≤ sizeLine; decide, fun t1 ht1 => ⟨by show 3 ≤ sizeLine; decide, fun t2 ht2 => ?_⟩⟩
    have s9 := same_new (o := .tup []) ht1
    have s10 := same_new (o := .tup [.str "cases", .int (y3 % ((xs.length : Int) + 1)), .ref t1]) ht2
    have e10 : (upd (upd H6 t1 (.tup [])) t2 (.tup [.str "cases", .int (y3 % ((xs.length : Int) + 1)), .ref t1])) t2 = some (.tup [.str "cases", .int (a : Int), .ref t1]) := by rw [upd_same, ea]
    have e9 := s10 _ _ (upd_same (H := H6) (a := t1) (o := .tup []))
    have s90 := s9.trans s10
    refine ⟨n, pe, C4, .ref t2, .cases a [], 1, rfl, pr5.mono (s8.trans s90), .cases (vs := []) ⟨t2, rfl, e10⟩ ⟨t1, rfl, e9⟩ rfl (fun i x p h => by simp at h), ⟨.cases (fun p h => by cases h), by simp [wt, wts]⟩, by decide, .cases at4 rfl (fun i p l h => by simp at h), fun H7 s11 => ⟨true, true, rfl, rfl, ?_⟩⟩
    rw [show decide (true = true) = true from decide_eq_true rfl]
    exact k H7
def sp_law (K : PySem.W.Frag) : Sp := fun vs H Q _ => ∃ (p : Addr) (ns : List Int), vs = [.ref p] ∧ SqL K H p (ns.map V.int) ∧ ns.length ≤ 63 ∧ ∀ H', Q (.bl true) H'
theorem ok_law {f : Addr} {fd : FuncData} (F : Fun K "law" "law" s_law f fd) (B : Bt mg) (D__law_clauses : Def P w K mg base 1 "_law_clauses" ["_law_numbers_here", "_law_at", "_law_n", "_law_count", "_law_size"] sp__law_clauses) (D__law_numbers : Def P w K mg base 1 "_law_numbers" ["_law_script", "_law_many"] (sp__law_numbers K))
    (D__law_paper : Def P w K mg base 9 "_law_paper" ["_law_n", "_law_clauses_here", "_law_paper_here"] sp__law_paper) (D_check_paper : Def P w K mg base 4 "check_paper" ["n", "clauses", "paper"] sp_check_paper) (D_solve : Def P w K mg base 8 "solve" ["n", "clauses"] sp_solve) (D_solves : Def P w K mg base 4 "solves" ["n", "clauses", "values"] sp_solves) :
    FnOk P w K mg base CX0 10 f fd ["_law_script"] (sp_law K) := by
  refine F.ok sc_law (fun vs H Q E h => ?_) (fun cdv A outer s H vs Q E hr h => ?_)
  · obtain ⟨p, ns, rfl, _⟩ := h
    rfl
  · obtain ⟨p0, ns, rfl, hS, l63, k⟩ := h
    refine ⟨_, (pss_cons (ps_set (i := 1) sc_law.nd rfl (Or.inl rfl) (callD D__law_numbers (hr.mono (by decide)) rfl (pa_cons (pv 0) (pa_cons pe_int pa_nil))))
      (pss_cons (ps_set (i := 2) sc_law.nd rfl (Or.inl rfl) (pe_op op_add pe_int (pe_op op_mod (pe_ix (ixL K) (pv 1) pe_int (fun _ _ => rfl)) pe_int)))
      (pss_cons (ps_set (i := 3) sc_law.nd rfl (Or.inl rfl) (callD D__law_clauses (hr.mono (by decide)) rfl (pa_cons (pv 1) (pa_cons pe_int (pa_cons (pv 2) (pa_cons (pe_op op_mod (pe_ix (ixL K) (pv 1) pe_int (fun _ _ => rfl)) pe_int) (pa_cons (pe_ix (ixL K) (pe_lst (pa_cons pe_int (pa_cons pe_int (pa_cons pe_int pa_nil)))) (pe_op op_mod (pe_ix (ixL K) (pv 1) pe_int (fun _ _ => rfl)) pe_int) (fun _ _ => rfl)) pa_nil)))))))
      (pss_cons (ps_set (i := 4) sc_law.nd rfl (Or.inl rfl) (pe_callTy (cList K) (by rfl) B.list (by decide +kernel) (pa_cons (pv 3) pa_nil)))
      (pss_cons (ps_asg (callD D_solve (hr.mono (by decide)) rfl (pa_cons (pv 2) (pa_cons (pv 3) pa_nil))) (pgT K 2 (pgs_cons (pg_name (i := 5) sc_law.nd rfl (Or.inl rfl)) (pgs_cons (pg_name (i := 6) sc_law.nd rfl (Or.inl rfl)) pgs_nil))))
      (pss_cons (ps_if (pt_cmpR (neD K hr.units) (pv 3) (pv 4) (nomark _)) (pss_one (ps_ret pe_bl)) pss_nil)
      (pss_cons (ps_if (pt_cmpR op_eq (pv 5) pe_str (nomark _)) (pss_one (ps_if (PW.pt (pw_or (pt_cmpR op_notBl (callD D_check_paper (hr.mono (by decide)) rfl (pa_cons (pv 2) (pa_cons (pv 3) (pa_cons (pv 6) pa_nil)))) pe_bl (nomark _)) (pw_or1 (pt_not (pt_val (callD D__law_paper (hr.mono (by decide)) rfl (pa_cons (pv 2) (pa_cons (pv 3) (pa_cons (pv 6) pa_nil))))))))) (pss_one (ps_ret pe_bl)) pss_nil)) (pss_cons (ps_set (i := 7) sc_law.nd rfl (Or.inl rfl) (pe_lst pa_nil))
        (pss_cons (ps_for PassesOwn.never rfl (pi_range1 rfl B.range (pa_cons (pe_callB (cLen K) (by rfl) B.len (by decide +kernel) (pa_cons (pv 3) pa_nil)) pa_nil)) (pg_name (i := 8) sc_law.nd rfl (Or.inl rfl)) (pss_cons (ps_set (i := 9) sc_law.nd rfl (Or.inl rfl) (pe_ix (ixL K) (pv 1) (pe_callTy (call_int1) (by rfl) B.int (by decide +kernel) (pa_cons (pe_op op_add pe_int (pv 8)) pa_nil)) (fun _ _ => rfl)))
          (pss_one (ps_expr (pe_bm PySem.F.plainAttrs_list PySem.F.slot_list_append PySem.F.type_list_append mt_append (pv 7) (pa_cons (pe_op (catT K) (pe_ix (ixL K) (pv 3) (pv 8) (fun _ _ => rfl)) (pe_op mulT (pe_tup (pa_cons (pe_tup (pa_cons (pe_op op_mod (pv 9) (pv 2)) (pa_cons (pe_op op_mod (pe_op op_fdiv (pv 9) pe_int) (pv 2)) (pa_cons (pe_op op_sub (pe_op op_mod (pe_op op_fdiv (pv 9) pe_int) pe_int) pe_int) pa_nil)))) pa_nil)) (pe_op op_mod (pe_op op_fdiv (pv 9) pe_int) pe_int))) pa_nil))))))
        (pss_cons (ps_set (i := 10) sc_law.nd rfl (Or.inl rfl) (callD D_solve (hr.mono (by decide)) rfl (pa_cons (pv 2) (pa_cons (pv 7) pa_nil))))
        (pss_one (ps_if (PW.pt (pw_or (pt_cmpR op_notBl (callD D_solves (hr.mono (by decide)) rfl (pa_cons (pv 2) (pa_cons (pv 7) (pa_cons (pv 6) pa_nil)))) pe_bl (nomark _)) (pw_or (pt_cmpR op_ne (pe_ix (ixT K) (pv 10) pe_int (fun _ _ => rfl)) pe_str (nomark _)) (pw_or1 (pt_cmpR op_notBl (callD D_solves (hr.mono (by decide)) rfl (pa_cons (pv 2) (pa_cons (pv 7) (pa_cons (pe_ix (ixT K) (pv 10) pe_int (fun _ _ => rfl)) pa_nil)))) pe_bl (nomark _)))))) (pss_one (ps_ret pe_bl)) pss_nil))))))
      (pss_cons (ps_set (i := 11) sc_law.nd rfl (Or.inl rfl) (pe_op op_mod (pe_ix (ixL K) (pv 1) pe_int (fun _ _ => rfl)) (pe_op op_add (pe_callB (cLen K) (by rfl) B.len (by decide +kernel) (pa_cons (pv 3) pa_nil)) pe_int)))
      (pss_cons (ps_set (i := 12) sc_law.nd rfl (Or.inl rfl) (pe_op op_cat (pe_op op_cat (pe_slice sl_list (pv 3) po_none (po_some (pv 11))) (pe_lst (pa_cons (pe_tup pa_nil) pa_nil))) (pe_slice sl_list (pv 3) (po_some (pv 11)) po_none)))
      (pss_cons (ps_asg (callD D_solve (hr.mono (by decide)) rfl (pa_cons (pv 2) (pa_cons (pv 12) pa_nil))) (pgT K 2 (pgs_cons (pg_name (i := 5) sc_law.nd rfl (Or.inl rfl)) (pgs_cons (pg_name (i := 6) sc_law.nd rfl (Or.inl rfl)) pgs_nil))))
      (pss_one (ps_ret (pe_and (pe_cmpR op_eq (pv 5) pe_str (nomark _)) (pe_and (pe_cmpR op_isBl (callD D_check_paper (hr.mono (by decide)) rfl (pa_cons (pv 2) (pa_cons (pv 12) (pa_cons (pv 6) pa_nil)))) pe_bl (nomark _)) (pe_one (pe_cmpR op_isBl (callD D_check_paper (hr.mono (by decide)) rfl (pa_cons (pv 2) (pa_cons (pv 12) (pa_cons (pe_tup (pa_cons pe_str (pa_cons (pv 11) (pa_cons (pe_tup pa_nil) pa_nil)))) pa_nil)))) pe_bl (nomark _))))))))))))))))), ?_⟩
    refine ⟨_, rfl, p0, ns, rfl, hS, l63, fun H1 L ms s1 eL l100 nn => ?_⟩
    have at_ : ∀ j : Nat, j < 100 → ∃ y, atI (intsL ms) (j : Int) = some (.int y) ∧ 0 ≤ y := fun j hj => ⟨ms[j]'(by omega), atI_nat (intsL_at (by omega)), nn _ (List.getElem_mem _)⟩
    obtain ⟨y0, hy0, ny0⟩ := at_ 0 (by decide)
    obtain ⟨y1, hy1, ny1⟩ := at_ 1 (by decide)
    obtain ⟨y2, hy2, ny2⟩ := at_ 2 (by decide)
    obtain ⟨y3, hy3, ny3⟩ := at_ 3 (by decide)
    have a0 := Int.emod_nonneg y0 (show (7 : Int) ≠ 0 by decide)
    have a1 := Int.emod_lt_of_pos y0 (show (0 : Int) < 7 by decide)
    have b0 := Int.emod_nonneg y1 (show (13 : Int) ≠ 0 by decide)
    have b1 := Int.emod_lt_of_pos y1 (show (0 : Int) < 13 by decide)
    have c0 := Int.emod_nonneg y2 (show (3 : Int) ≠ 0 by decide)
    have c1 := Int.emod_lt_of_pos y2 (show (0 : Int) < 3 by decide)
    refine ⟨_, rfl, L, _, _, _, rfl, rfl, SqL.of eL, hy0, _, _, rfl, rfl, (by show (0 : Int) < 7; decide), 1, ((y0 % 7).toNat : Int), rfl, by rw [Int.toNat_of_nonneg a0], ?_⟩
    obtain ⟨n, en⟩ : ∃ n : Nat, n = 1 + (y0 % 7).toNat := ⟨_, rfl⟩
    have n1 : 1 ≤ n := by omega
    have n7 : n ≤ 7 := by omega
    obtain ⟨sz, hsz, sz1, sz4⟩ := sizeV_at (y2 % 3).toNat (by omega)
    refine ⟨_, rfl, _, rfl, _, rfl, L, _, _, _, rfl, rfl, SqL.of eL, hy1, _, _, rfl, rfl, (by show (0 : Int) < 13; decide), by show 3 ≤ sizeLine; decide, fun q hq => ?_⟩
    have sq := same_new (o := .lst sizeV) hq
    refine ⟨_, rfl, L, _, _, _, rfl, rfl, SqL.of (sq _ _ eL), hy2, _, _, rfl, rfl, (by show (0 : Int) < 3; decide), q, sizeV, _, _, rfl, rfl, SqL.of upd_same, by rw [← Int.toNat_of_nonneg c0]; exact atI_nat hsz, ?_⟩
    refine ⟨L, ms, n, (y1 % 13).toNat, sz, ?_, sq _ _ eL, l100, nn, n1, n7, by omega, sz1, sz4, fun H2 p xs C s2 ep al lC cok => ?_⟩
    · rw [Int.toNat_of_nonneg b0, en]
      rfl
    have eσ : ∀ D : Ends, D.nx [some (.ref p0), some (.ref L), some (.int n), some (.ref p), none, none, none, none, none, none, none, none, none] H2 → D.nx [some (.ref p0), some (.ref L), some (.int (1 + ((y0 % 7).toNat : Int))), some (.ref p), none, none, none, none, none, none, none, none, none] H2 := fun D h => by
      have : ((n : Nat) : Int) = 1 + ((y0 % 7).toNat : Int) := by omega
      rw [this] at h
      exact h
    refine eσ _ ?_
    have s02 : Same H H2 := s1.trans (sq.trans s2)
    have eL2 := (sq.trans s2) _ _ eL
    have lxs := al.len
    have pr : Prob H2 n p C := ⟨n1, n7, ⟨xs, ep, al⟩, cok.ok, by omega, fun cl hc => Nat.le_succ_of_le (cok.short cl hc)⟩
    refine ⟨_, rfl, p, xs, rfl, .inl (SqL.of ep), fun kp hkp => ?_⟩
    have s3 := same_new (o := .lst xs) hkp
    have ekp : (upd H2 kp (.lst xs)) kp = some (.lst xs) := upd_same
    have ep3 := s3 _ _ ep
    have eL3 := s3 _ _ eL2
    have pr3 := pr.mono s3
    have al3 := RowsAt.mono (Same.tups s3) al
    generalize upd H2 kp (.lst xs) = H3 at s3 ekp ep3 eL3 pr3 al3 ⊢
    clear s2 al ep eL2 eL
    refine ⟨_, rfl, _, rfl, n, p, C, rfl, pr3, fun H4 T t v s4 eT et sat => ?_, fun H4 T u q s4 eT hq acc fine => ?_⟩
    · refine ⟨T, _, rfl, SqT.of eT, rfl, _, _, rfl, _, _, rfl, rfl, ?_⟩
      have al4 := RowsAt.mono (Same.tups s4) al3
      refine ⟨_, rfl, _, rfl, _, _, .lst (SqL.of (s4 _ _ ep3)) (RowsAt.dp al4), .lst (SqL.of (s4 _ _ ekp)) (RowsAt.dp al4), rowDs_shaped C, rowDs_shaped C, _, rfl, ?_⟩
      rw [show PyData.eqv (.list (C.map rowD)) (.list (C.map rowD)) = true by simp only [PyData.eqv]; exact rowDs_eqv C]
      refine ⟨_, rfl, rfl, _, rfl, ?_⟩
      rw [show decide (V.str "values" = V.str "paper") = false from decide_eq_false (by decide)]
      refine ⟨by show 0 ≤ sizeLine; decide, fun W hW => ?_⟩
      have s5 := same_new (o := .lst []) hW
      have s45 := s4.trans s5
      have ep5 := s45 _ _ ep3
      have eL5 := s45 _ _ eL3
      refine ⟨_, rfl, p, xs, rfl, .inl (SqL.of ep5), _, rfl, by omega, by omega, ?_⟩
      rw [Int.toNat_natCast]
      refine for_range (lo := 0) (n := xs.length) (fun i σ H' => ∃ (u8 u9 : Option V) (zs : List V) (C3 : List (List Lit)), σ = [some (.ref p0), some (.ref L), some (.int n), some (.ref p), some (.ref kp), some (.str "values"), some (.ref t), some (.ref W), u8, u9, none, none, none] ∧ Same H4 H' ∧ H' W = some (.lst zs) ∧ Al (RowAt H') zs C3 ∧ C3.length = i ∧
          (∀ (j : Nat) cl, C3[j]? = some cl → ∃ c, C[j]? = some c ∧ ∀ l ∈ c, l ∈ cl) ∧ (∀ cl ∈ C3, Lok n cl) ∧ ∀ cl ∈ C3, cl.length ≤ 4)
        ⟨none, none, [], [], rfl, s5, upd_same, Al.nil, rfl, fun j cl h => (by simp at h), fun cl h => (by cases h), fun cl h => (by cases h)⟩ (fun i σ H6 hi q => ?_) fun σ H6 q => ?_
      · obtain ⟨u8, u9, zs, C3, rfl, sm, eW, alz, lC3, sub3, ok3, sh3⟩ := q
        have e0 : ((0 : Int) + (i : Int)) = (i : Int) := by omega
        rw [e0]
        have s36 := s4.trans sm
        obtain ⟨num, hnum, num0⟩ := at_ (60 + i) (by omega)
        have ei : ((60 + i : Nat) : Int) = 60 + (i : Int) := by omega
        rw [ei] at hnum
        refine ⟨_, rfl, _, rfl, _, _, rfl, rfl, .inl ⟨_, rfl, L, _, _, _, rfl, rfl, SqL.of (s36 _ _ eL3), hnum, ?_⟩⟩
        have al6 := RowsAt.mono (Same.tups s36) al3
        have ilt : i < C.length := by omega
        have hcl : C[i]? = some C[i] := List.getElem?_eq_getElem ilt
        have okc := cok.ok _ (List.mem_of_getElem? hcl)
        have shc := cok.short _ (List.mem_of_getElem? hcl)
        obtain ⟨vc, hvc, cs, ⟨tc, rfl, htc⟩, alc⟩ := al6.back hcl
        generalize C[i] = cl at hcl okc shc alc
        have lcs := alc.len
        have lzs := alz.len
        have np : (0 : Int) < (n : Int) := by omega
        have x0 := Int.emod_nonneg num (show (n : Int) ≠ 0 by omega)
        have x1 := Int.emod_lt_of_pos num np
        have z0 := Int.emod_nonneg (num / 7) (show (n : Int) ≠ 0 by omega)
        have z1 := Int.emod_lt_of_pos (num / 7) np
        have m0 := Int.emod_nonneg (num / 441) (show (2 : Int) ≠ 0 by decide)
        have m1 := Int.emod_lt_of_pos (num / 441) (show (0 : Int) < 2 by decide)
        have ap : ∀ {H7 : Hp} {v : V} {cl' : List Lit}, Same H6 H7 → RowAt H7 v cl' → (∀ l ∈ cl, l ∈ cl') → Lok n cl' → cl'.length ≤ 4 → ∃ (u8 u9 : Option V) (zs' : List V) (C3 : List (List Lit)), ([some (.ref p0), some (.ref L), some (.int n), some (.ref p), some (.ref kp), some (.str "values"), some (.ref t), some (.ref W), some (.int i), some (.int num), none, none, none] : L2.St) = [some (.ref p0), some (.ref L), some (.int n), some (.ref p), some (.ref kp), some (.str "values"), some (.ref t), some (.ref W), u8, u9, none, none, none] ∧ Same H4 (upd H7 W (.lst (zs ++ [v]))) ∧ (upd H7 W (.lst (zs ++ [v]))) W = some (.lst zs') ∧ Al (RowAt (upd H7 W (.lst (zs ++ [v])))) zs' C3 ∧ C3.length = i + 1 ∧
            (∀ (j : Nat) cl, C3[j]? = some cl → ∃ c, C[j]? = some c ∧ ∀ l ∈ c, l ∈ cl) ∧ (∀ cl ∈ C3, Lok n cl) ∧ ∀ cl ∈ C3, cl.length ≤ 4 := fun {H7 v cl'} s7 row sub lok l4 => by
          have tp : Tups H7 (upd H7 W (.lst (zs ++ [v]))) := Tups.lst (s7 _ _ eW)
          refine ⟨_, _, zs ++ [v], C3 ++ [cl'], rfl, Same.mut (sm.trans s7) hW, upd_same, (RowsAt.mono ((Same.tups s7).trans tp) alz).snoc (row.mono tp), by rw [List.length_append, List.length_singleton, lC3], fun j c hj => ?_, fun c hc => ?_, fun c hc => ?_⟩
          · rcases Nat.lt_or_ge j C3.length with q | q
            · rw [List.getElem?_append_left q] at hj
              exact sub3 j c hj
            · rw [List.getElem?_append_right q] at hj
              have j0 : j - C3.length = 0 := by
                rcases Nat.eq_zero_or_pos (j - C3.length) with z | z
                · exact z
                · rw [List.getElem?_eq_none (by rw [List.length_singleton]; omega)] at hj
                  cases hj
              rw [j0] at hj
              cases hj
              have : j = i := by omega
              subst this
              exact ⟨cl, hcl, sub⟩
          · rcases List.mem_append.mp hc with z | z
            · exact ok3 c z
            · rw [List.mem_singleton.mp z]
              exact lok
          · rcases List.mem_append.mp hc with z | z
            · exact sh3 c z
            · rw [List.mem_singleton.mp z]
              exact l4
        refine ⟨_, rfl, .inl ⟨rfl, _, SqL.of eW⟩, _, rfl, _, rfl, p, xs, _, _, rfl, rfl, SqL.of (s36 _ _ ep3), atI_nat hvc, _, rfl, _, rfl, _, _, rfl, rfl, np, _, rfl, _, _, rfl, rfl, ⟨by decide, by decide⟩, _, rfl, _, _, rfl, rfl, np, _, rfl, _, _, rfl, rfl, ⟨by decide, by decide⟩, _, _, rfl, rfl, (by show (0 : Int) < 9; decide), _, _, rfl, rfl, by show 3 ≤ sizeLine; decide, fun t1 ht1 => ⟨by show 1 ≤ sizeLine; decide, fun t2 ht2 => ?_⟩⟩
        have s7 := same_new (o := .tup [.int (num % n), .int (num / 7 % n), .int (num / 49 % 9 - 6)]) ht1
        have s8 := same_new (o := .tup [.ref t1]) ht2
        have e1 : (upd H6 t1 (.tup [.int (num % n), .int (num / 7 % n), .int (num / 49 % 9 - 6)])) t1 = some (.tup (litV ⟨(num % n).toNat, (num / 7 % n).toNat, num / 49 % 9 - 6⟩)) := by
          rw [upd_same]
          show _ = some (HO.tup [V.int ((num % n).toNat : Int), V.int ((num / 7 % n).toNat : Int), _])
          rw [Int.toNat_of_nonneg x0, Int.toNat_of_nonneg z0]
        have e1' := s8 _ _ e1
        have e2 := upd_same (H := upd H6 t1 (.tup [.int (num % n), .int (num / 7 % n), .int (num / 49 % 9 - 6)])) (a := t2) (o := .tup [.ref t1])
        have s78 := s7.trans s8
        refine ⟨_, rfl, _, _, rfl, rfl, ⟨by decide, by decide⟩, _, _, rfl, rfl, (by show (0 : Int) < 2; decide), t2, num / 441 % 2, [.ref t1], rfl, rfl, e2, by simp, by omega, fun e => ?_, fun e t3 ht3 => ?_⟩
        · refine cat_row (l := ⟨(num % n).toNat, (num / 7 % n).toNat, num / 49 % 9 - 6⟩) (s78 _ _ htc) (LitsAt.mono (Same.tups s78) alc) e2 ⟨t1, rfl, e1'⟩ (by omega) fun H8 v s9 row => ?_
          refine ⟨W, zs, v, rfl, rfl, (s78.trans s9) _ _ eW, small1000 (by omega), ap (s78.trans s9) row (fun l hl => List.mem_append_left _ hl) (fun l hl => ?_) (by rw [List.length_append, List.length_singleton]; omega)⟩
          rcases List.mem_append.mp hl with z | z
          · exact okc l z
          · rw [List.mem_singleton.mp z]
            exact ⟨by show (num % n).toNat < n; omega, by show (num / 7 % n).toNat < n; omega⟩
        · have s9 := same_new (o := .tup []) ht3
          have s789 := s78.trans s9
          have row : ∀ v : V, RowAt H6 v cl → RowAt (upd (upd (upd H6 t1 (.tup [.int (num % n), .int (num / 7 % n), .int (num / 49 % 9 - 6)])) t2 (.tup [.ref t1])) t3 (.tup [])) v cl := fun v h => h.mono (Same.tups s789)
          refine ⟨tc, t3, cs, [], rfl, rfl, SqT.of (s789 _ _ htc), SqT.of upd_same, by simp only [List.length_nil]; unfold sizeLine; omega, fun e3 => ?_, fun _ _ => ?_, fun _ e3 => (e3 rfl).elim⟩
          · have cl0 : cl = [] := List.length_eq_zero_iff.mp (by rw [← lcs, e3]; rfl)
            refine ⟨W, zs, .ref t3, rfl, rfl, s789 _ _ eW, small1000 (by omega), ap s789 ⟨[], ⟨t3, rfl, upd_same⟩, by rw [cl0]; exact Al.nil⟩ (fun l hl => hl) okc (by omega)⟩
          · exact ⟨W, zs, .ref tc, rfl, rfl, s789 _ _ eW, small1000 (by omega), ap s789 (row _ ⟨cs, ⟨tc, rfl, htc⟩, alc⟩) (fun l hl => hl) okc (by omega)⟩
      · obtain ⟨u8, u9, zs, C3, rfl, sm, eW, alz, lC3, sub3, ok3, sh3⟩ := q
        have wid : Wider C C3 := ⟨by omega, sub3⟩
        have pr6 : Prob H6 n W C3 := ⟨n1, n7, ⟨zs, eW, alz⟩, ok3, by omega, sh3⟩
        refine ⟨_, rfl, _, rfl, n, W, C3, rfl, pr6, fun H7 T2 t2 v2 s7 eT2 et2 sat2 => ?_, fun H7 T2 u q s7 _ _ acc _ => (acc.unsatC (wid.sat sat)).elim⟩
        have pr7 := pr6.mono s7
        have et7 := (sm.trans s7) _ _ et
        refine ⟨_, rfl, _, rfl, _, rfl, n, W, t, C3, v, rfl, pr7, et7, wid.sat sat, fun H8 s8 => ⟨true, true, rfl, rfl, _, rfl, ?_⟩⟩
        rw [show (!decide (true = true)) = false from rfl]
        refine iteF ⟨_, rfl, T2, _, _, _, rfl, rfl, SqT.of (s8 _ _ eT2), rfl, rfl, _, rfl, ?_⟩
        rw [show (!decide (V.str "values" = V.str "values")) = false from nT rfl]
        refine iteF ⟨_, rfl, _, rfl, _, rfl, T2, _, _, _, rfl, rfl, SqT.of (s8 _ _ eT2), rfl, n, W, t2, C3, v2, rfl, pr7.mono s8, s8 _ _ et2, sat2, fun H9 s9 => ⟨true, true, rfl, rfl, _, rfl, ?_⟩⟩
        rw [show (!decide (true = true)) = false from rfl]
        have s39 : Same H3 H9 := s4.trans (sm.trans (s7.trans (s8.trans s9)))
        exact law_tail (K := K) (s39 _ _ eL3) hy3 (s39 _ _ ep3) (RowsAt.mono (Same.tups s39) al3) n1 n7 (by omega) cok fun H' => k H'
    · refine ⟨T, _, rfl, SqT.of eT, rfl, _, _, rfl, _, _, rfl, rfl, ?_⟩
      have al4 := RowsAt.mono (Same.tups s4) al3
      refine ⟨_, rfl, _, rfl, _, _, .lst (SqL.of (s4 _ _ ep3)) (RowsAt.dp al4), .lst (SqL.of (s4 _ _ ekp)) (RowsAt.dp al4), rowDs_shaped C, rowDs_shaped C, _, rfl, ?_⟩
      rw [show PyData.eqv (.list (C.map rowD)) (.list (C.map rowD)) = true by simp only [PyData.eqv]; exact rowDs_eqv C]
      refine ⟨_, rfl, rfl, _, rfl, ?_⟩
      rw [show decide (V.str "paper" = V.str "paper") = true from decide_eq_true rfl]
      have w12 := wt_le cok.short acc (fine.mono (show C.length ≤ 12 by omega))
      rw [W12] at w12
      have pr4 := pr3.mono s4
      refine ⟨_, rfl, _, rfl, _, rfl, n, p, C, u, q, C.length, rfl, pr4, hq, ⟨fine, by omega⟩, by omega, acc, fun H5 s5 => ⟨true, true, rfl, rfl, _, rfl, ?_⟩⟩
      rw [show (!decide (true = true)) = false from rfl]
      refine ⟨_, rfl, _, rfl, _, rfl, n, p, C, u, q, rfl, pr4.mono s5, cok.short, by omega, hq.mono (Same.tups s5), acc, fine, fun H6 s6 => ⟨true, rfl, ?_⟩⟩
      have s36 : Same H3 H6 := s4.trans (s5.trans s6)
      exact law_tail (K := K) (s36 _ _ eL3) hy3 (s36 _ _ ep3) (RowsAt.mono (Same.tups s36) al3) n1 n7 (by omega) cok fun H' => k H'
end
end D7
/-! D7, the end, part 1: what is asked of the top; all joined. -/
namespace D7
open PySem PySem.Spec PyProof.Rows L2

def d0 : He.FnD := ⟨("check_points", none), "check_points", "check_points", defArgs s_check_points, defBody s_check_points, defScope s_check_points⟩
def d1 : He.FnD := ⟨("check_point", none), "check_point", "check_point", defArgs s_check_point, defBody s_check_point, defScope s_check_point⟩
def d2 : He.FnD := ⟨("check_literals", none), "check_literals", "check_literals", defArgs s_check_literals, defBody s_check_literals, defScope s_check_literals⟩
def d3 : He.FnD := ⟨("satisfies", none), "satisfies", "satisfies", defArgs s_satisfies, defBody s_satisfies, defScope s_satisfies⟩
def d4 : He.FnD := ⟨("is_ring", none), "is_ring", "is_ring", defArgs s_is_ring, defBody s_is_ring, defScope s_is_ring⟩
def d5 : He.FnD := ⟨("ring_at", none), "ring_at", "ring_at", defArgs s_ring_at, defBody s_ring_at, defScope s_ring_at⟩
def d6 : He.FnD := ⟨("ring_from", none), "ring_from", "ring_from", defArgs s_ring_from, defBody s_ring_from, defScope s_ring_from⟩
def d7 : He.FnD := ⟨("find_ring", none), "find_ring", "find_ring", defArgs s_find_ring, defBody s_find_ring, defScope s_find_ring⟩
def d8 : He.FnD := ⟨("check_clauses", none), "check_clauses", "check_clauses", defArgs s_check_clauses, defBody s_check_clauses, defScope s_check_clauses⟩
def d9 : He.FnD := ⟨("single", none), "single", "single", defArgs s_single, defBody s_single, defScope s_single⟩
def d10 : He.FnD := ⟨("is_literal", none), "is_literal", "is_literal", defArgs s_is_literal, defBody s_is_literal, defScope s_is_literal⟩
def d11 : He.FnD := ⟨("is_ring_paper", none), "is_ring_paper", "is_ring_paper", defArgs s_is_ring_paper, defBody s_is_ring_paper, defScope s_is_ring_paper⟩
def d12 : He.FnD := ⟨("is_paper", none), "is_paper", "is_paper", defArgs s_is_paper, defBody s_is_paper, defScope s_is_paper⟩
def d13 : He.FnD := ⟨("depth_of", none), "depth_of", "depth_of", defArgs s_depth_of, defBody s_depth_of, defScope s_depth_of⟩
def d14 : He.FnD := ⟨("is_accepted", none), "is_accepted", "is_accepted", defArgs s_is_accepted, defBody s_is_accepted, defScope s_is_accepted⟩
def d15 : He.FnD := ⟨("check_paper", none), "check_paper", "check_paper", defArgs s_check_paper, defBody s_check_paper, defScope s_check_paper⟩
def d16 : He.FnD := ⟨("need_accepted", none), "need_accepted", "need_accepted", defArgs s_need_accepted, defBody s_need_accepted, defScope s_need_accepted⟩
def d17 : He.FnD := ⟨("rings_of", none), "rings_of", "rings_of", defArgs s_rings_of, defBody s_rings_of, defScope s_rings_of⟩
def d18 : He.FnD := ⟨("used_by", none), "used_by", "used_by", defArgs s_used_by, defBody s_used_by, defScope s_used_by⟩
def d19 : He.FnD := ⟨("used_clauses", none), "used_clauses", "used_clauses", defArgs s_used_clauses, defBody s_used_clauses, defScope s_used_clauses⟩
def d20 : He.FnD := ⟨("Open", some "__init__"), "__init__", "Open.__init__", defArgs s_Open_init, defBody s_Open_init, defScope s_Open_init⟩
def d21 : He.FnD := ⟨("Trimmer", some "__init__"), "__init__", "Trimmer.__init__", defArgs s_Trimmer_init, defBody s_Trimmer_init, defScope s_Trimmer_init⟩
def d22 : He.FnD := ⟨("Trimmer", some "descend"), "descend", "Trimmer.descend", defArgs s_Trimmer_descend, defBody s_Trimmer_descend, defScope s_Trimmer_descend⟩
def d23 : He.FnD := ⟨("Trimmer", some "ascend"), "ascend", "Trimmer.ascend", defArgs s_Trimmer_ascend, defBody s_Trimmer_ascend, defScope s_Trimmer_ascend⟩
def d24 : He.FnD := ⟨("Trimmer", some "trim"), "trim", "Trimmer.trim", defArgs s_Trimmer_trim, defBody s_Trimmer_trim, defScope s_Trimmer_trim⟩
def d25 : He.FnD := ⟨("trimmed", none), "trimmed", "trimmed", defArgs s_trimmed, defBody s_trimmed, defScope s_trimmed⟩
def d26 : He.FnD := ⟨("joined", none), "joined", "joined", defArgs s_joined, defBody s_joined, defScope s_joined⟩
def d27 : He.FnD := ⟨("is_less", none), "is_less", "is_less", defArgs s_is_less, defBody s_is_less, defScope s_is_less⟩
def d28 : He.FnD := ⟨("moved", none), "moved", "moved", defArgs s_moved, defBody s_moved, defScope s_moved⟩
def d29 : He.FnD := ⟨("Bounds", some "size"), "size", "Bounds.size", defArgs s_Bounds_size, defBody s_Bounds_size, defScope s_Bounds_size⟩
def d30 : He.FnD := ⟨("Bounds", some "literals"), "literals", "Bounds.literals", defArgs s_Bounds_literals, defBody s_Bounds_literals, defScope s_Bounds_literals⟩
def d31 : He.FnD := ⟨("Bounds", some "bound"), "bound", "Bounds.bound", defArgs s_Bounds_bound, defBody s_Bounds_bound, defScope s_Bounds_bound⟩
def d32 : He.FnD := ⟨("Bounds", some "_shorten"), "_shorten", "Bounds._shorten", defArgs s_Bounds_shorten, defBody s_Bounds_shorten, defScope s_Bounds_shorten⟩
def d33 : He.FnD := ⟨("Bounds", some "add"), "add", "Bounds.add", defArgs s_Bounds_add, defBody s_Bounds_add, defScope s_Bounds_add⟩
def d34 : He.FnD := ⟨("Bounds", some "__init__"), "__init__", "Bounds.__init__", defArgs s_Bounds_init, defBody s_Bounds_init, defScope s_Bounds_init⟩
def d35 : He.FnD := ⟨("Bounds", some "_take"), "_take", "Bounds._take", defArgs s_Bounds_take, defBody s_Bounds_take, defScope s_Bounds_take⟩
def d36 : He.FnD := ⟨("Bounds", some "copy"), "copy", "Bounds.copy", defArgs s_Bounds_copy, defBody s_Bounds_copy, defScope s_Bounds_copy⟩
def d37 : He.FnD := ⟨("Bounds", some "_low"), "_low", "Bounds._low", defArgs s_Bounds_low, defBody s_Bounds_low, defScope s_Bounds_low⟩
def d38 : He.FnD := ⟨("Bounds", some "any_values"), "any_values", "Bounds.any_values", defArgs s_Bounds_any_values, defBody s_Bounds_any_values, defScope s_Bounds_any_values⟩
def d39 : He.FnD := ⟨("solves", none), "solves", "solves", defArgs s_solves, defBody s_solves, defScope s_solves⟩
def d40 : He.FnD := ⟨("is_refuted", none), "is_refuted", "is_refuted", defArgs s_is_refuted, defBody s_is_refuted, defScope s_is_refuted⟩
def d41 : He.FnD := ⟨("is_implied", none), "is_implied", "is_implied", defArgs s_is_implied, defBody s_is_implied, defScope s_is_implied⟩
def d42 : He.FnD := ⟨("keep", none), "keep", "keep", defArgs s_keep, defBody s_keep, defScope s_keep⟩
def d43 : He.FnD := ⟨("Search", some "sift"), "sift", "Search.sift", defArgs s_Search_sift, defBody s_Search_sift, defScope s_Search_sift⟩
def d44 : He.FnD := ⟨("Search", some "refuted"), "refuted", "Search.refuted", defArgs s_Search_refuted, defBody s_Search_refuted, defScope s_Search_refuted⟩
def d45 : He.FnD := ⟨("Search", some "cases"), "cases", "Search.cases", defArgs s_Search_cases, defBody s_Search_cases, defScope s_Search_cases⟩
def d46 : He.FnD := ⟨("Place", some "__init__"), "__init__", "Place.__init__", defArgs s_Place_init, defBody s_Place_init, defScope s_Place_init⟩
def d47 : He.FnD := ⟨("Search", some "__init__"), "__init__", "Search.__init__", defArgs s_Search_init, defBody s_Search_init, defScope s_Search_init⟩
def d48 : He.FnD := ⟨("Search", some "enter"), "enter", "Search.enter", defArgs s_Search_enter, defBody s_Search_enter, defScope s_Search_enter⟩
def d49 : He.FnD := ⟨("Search", some "behind"), "behind", "Search.behind", defArgs s_Search_behind, defBody s_Search_behind, defScope s_Search_behind⟩
def d50 : He.FnD := ⟨("Search", some "finish"), "finish", "Search.finish", defArgs s_Search_finish, defBody s_Search_finish, defScope s_Search_finish⟩
def d51 : He.FnD := ⟨("Search", some "close"), "close", "Search.close", defArgs s_Search_close, defBody s_Search_close, defScope s_Search_close⟩
def d52 : He.FnD := ⟨("Search", some "run"), "run", "Search.run", defArgs s_Search_run, defBody s_Search_run, defScope s_Search_run⟩
def d53 : He.FnD := ⟨("solve", none), "solve", "solve", defArgs s_solve, defBody s_solve, defScope s_solve⟩
def d54 : He.FnD := ⟨("_law_numbers", none), "_law_numbers", "_law_numbers", defArgs s__law_numbers, defBody s__law_numbers, defScope s__law_numbers⟩
def d55 : He.FnD := ⟨("_law_clauses", none), "_law_clauses", "_law_clauses", defArgs s__law_clauses, defBody s__law_clauses, defScope s__law_clauses⟩
def d56 : He.FnD := ⟨("_law_paper", none), "_law_paper", "_law_paper", defArgs s__law_paper, defBody s__law_paper, defScope s__law_paper⟩
def d57 : He.FnD := ⟨("law", none), "law", "law", defArgs s_law, defBody s_law, defScope s_law⟩
def fn0 : List He.FnD := [d0, d1, d2, d3, d4, d5, d6, d7, d8, d9, d10, d11, d12, d13, d14, d15, d16, d17, d18, d19]
def fn1 : List He.FnD := [d20, d21, d22, d23, d24, d25, d26, d27, d28, d29, d30, d31, d32, d33, d34, d35, d36, d37, d38, d39]
def fn2 : List He.FnD := [d40, d41, d42, d43, d44, d45, d46, d47, d48, d49, d50, d51, d52, d53, d54, d55, d56, d57]
def fnA : List He.FnD := fn0 ++ (fn1 ++ (fn2))
def fa0 : List He.Fa := [.glo "check_points", .keep "check_points", .glo "check_point", .keep "check_point", .glo "check_literals", .keep "check_literals", .glo "satisfies", .keep "satisfies", .glo "is_ring", .keep "is_ring", .glo "ring_at", .keep "ring_at", .glo "ring_from", .keep "ring_from", .glo "find_ring", .keep "find_ring", .glo "check_clauses", .keep "check_clauses", .glo "single", .keep "single", .glo "is_literal", .keep "is_literal", .glo "is_ring_paper", .keep "is_ring_paper", .glo "is_paper", .keep "is_paper", .glo "depth_of", .keep "depth_of", .glo "is_accepted", .keep "is_accepted"]
def fa1 : List He.Fa := [.glo "check_paper", .keep "check_paper", .glo "need_accepted", .keep "need_accepted", .glo "rings_of", .keep "rings_of", .glo "used_by", .keep "used_by", .glo "used_clauses", .keep "used_clauses", .glo "trimmed", .keep "trimmed", .glo "joined", .keep "joined", .glo "is_less", .keep "is_less", .glo "moved", .keep "moved", .glo "solves", .keep "solves", .glo "is_refuted", .keep "is_refuted", .glo "is_implied", .keep "is_implied", .glo "keep", .keep "keep", .glo "solve", .keep "solve", .glo "_law_numbers", .keep "_law_numbers"]
def fa2 : List He.Fa := [.glo "_law_clauses", .keep "_law_clauses", .glo "_law_paper", .keep "_law_paper", .glo "law", .keep "law", .glo "Open", .cls "Open", .mkr "Open", .noat "Open" "k", .noat "Open" "rest", .noat "Open" "parts", .noat "Open" "needed", .glo "Trimmer", .cls "Trimmer", .mkr "Trimmer", .noat "Trimmer" "clauses", .noat "Trimmer" "only", .noat "Trimmer" "stack", .glo "Bounds", .cls "Bounds", .mkr "Bounds", .noat "Bounds" "_literals", .noat "Bounds" "_least", .glo "Place", .cls "Place", .mkr "Place", .noat "Place" "bounds", .noat "Place" "steps", .noat "Place" "k"]
def fa3 : List He.Fa := [.noat "Place" "left", .noat "Place" "parts", .noat "Place" "others", .noat "Place" "at", .glo "Search", .cls "Search", .mkr "Search", .noat "Search" "n", .noat "Search" "clauses", .noat "Search" "only", .noat "Search" "places", .meth "Open" "__init__", .meth "Trimmer" "__init__", .meth "Trimmer" "descend", .meth "Trimmer" "ascend", .meth "Trimmer" "trim", .meth "Bounds" "size", .meth "Bounds" "literals", .meth "Bounds" "bound", .meth "Bounds" "_shorten", .meth "Bounds" "add", .meth "Bounds" "__init__", .meth "Bounds" "_take", .meth "Bounds" "copy", .meth "Bounds" "_low", .meth "Bounds" "any_values", .meth "Search" "sift", .meth "Search" "refuted", .meth "Search" "cases", .meth "Place" "__init__"]
def fa4 : List He.Fa := [.meth "Search" "__init__", .meth "Search" "enter", .meth "Search" "behind", .meth "Search" "finish", .meth "Search" "close", .meth "Search" "run", .free "len", .free "sum", .free "all", .free "any", .free "range", .free "enumerate", .free "zip", .free "isinstance", .free "max", .free "min", .free "sorted", .free "set", .free "list", .free "tuple", .free "abs", .free "int", .int "MAX_POINTS" 80, .int "MAX_CLAUSES" 8000, .int "MAX_DEPTH" 8000]
def faA : List He.Fa := fa0 ++ (fa1 ++ (fa2 ++ (fa3 ++ (fa4))))
theorem facts {P : Program} {w : World} {K : PySem.W.Frag} {h : Heap} {mg : Str → Option Value} {f : Addr} (X : K.In h) (G : h.Ns mainGlobals mg) (hfa : mg ("law" : Str) = some (.ref f)) (c : He.SaysE faA fnA K) :
    ∃ fd : FuncData, (∀ (s : Shared) (v : Value), BindsTo s fd ⟨[v], []⟩ [("_law_script", v)]) ∧ ∀ base : Heap, K.In base → base.Ns mainGlobals mg → FnOk P w K mg base CX0 10 f fd ["_law_script"] (sp_law K) := by
  obtain ⟨tMAX_POINTS, TMAX_POINTS⟩ := He.int_ok X G (c.fact 142 (f := .int "MAX_POINTS" 80) rfl)
  obtain ⟨tMAX_CLAUSES, TMAX_CLAUSES⟩ := He.int_ok X G (c.fact 143 (f := .int "MAX_CLAUSES" 8000) rfl)
  obtain ⟨tMAX_DEPTH, TMAX_DEPTH⟩ := He.int_ok X G (c.fact 144 (f := .int "MAX_DEPTH" 8000) rfl)
  have B : Bt mg := ⟨He.free_ok X G (c.fact 126 (f := .free "len") rfl), He.free_ok X G (c.fact 127 (f := .free "sum") rfl), He.free_ok X G (c.fact 128 (f := .free "all") rfl), He.free_ok X G (c.fact 129 (f := .free "any") rfl), He.free_ok X G (c.fact 130 (f := .free "range") rfl), He.free_ok X G (c.fact 131 (f := .free "enumerate") rfl), He.free_ok X G (c.fact 132 (f := .free "zip") rfl), He.free_ok X G (c.fact 133 (f := .free "isinstance") rfl), He.free_ok X G (c.fact 134 (f := .free "max") rfl), He.free_ok X G (c.fact 135 (f := .free "min") rfl), He.free_ok X G (c.fact 136 (f := .free "sorted") rfl), He.free_ok X G (c.fact 137 (f := .free "set") rfl), He.free_ok X G (c.fact 138 (f := .free "list") rfl), He.free_ok X G (c.fact 139 (f := .free "tuple") rfl), He.free_ok X G (c.fact 140 (f := .free "abs") rfl), He.free_ok X G (c.fact 141 (f := .free "int") rfl)⟩
  have cls_Open := He.cls_ok (c.fact 67 (f := .cls "Open") rfl)
  have mk_Open := He.mkr_ok (c.fact 68 (f := .mkr "Open") rfl)
  have gl_Open := He.glo_ok X G (c.fact 66 (f := .glo "Open") rfl)
  have cls_Trimmer := He.cls_ok (c.fact 74 (f := .cls "Trimmer") rfl)
  have mk_Trimmer := He.mkr_ok (c.fact 75 (f := .mkr "Trimmer") rfl)
  have gl_Trimmer := He.glo_ok X G (c.fact 73 (f := .glo "Trimmer") rfl)
  have cls_Bounds := He.cls_ok (c.fact 80 (f := .cls "Bounds") rfl)
  have mk_Bounds := He.mkr_ok (c.fact 81 (f := .mkr "Bounds") rfl)
  have gl_Bounds := He.glo_ok X G (c.fact 79 (f := .glo "Bounds") rfl)
  have cls_Place := He.cls_ok (c.fact 85 (f := .cls "Place") rfl)
  have mk_Place := He.mkr_ok (c.fact 86 (f := .mkr "Place") rfl)
  have gl_Place := He.glo_ok X G (c.fact 84 (f := .glo "Place") rfl)
  have cls_Search := He.cls_ok (c.fact 95 (f := .cls "Search") rfl)
  have mk_Search := He.mkr_ok (c.fact 96 (f := .mkr "Search") rfl)
  have gl_Search := He.glo_ok X G (c.fact 94 (f := .glo "Search") rfl)
  have cTr : TrC K (He.ga K "Trimmer") (He.ga K "Open") := ⟨cls_Trimmer, He.noat_ok (c.fact 76 (f := .noat "Trimmer" "clauses") rfl), He.noat_ok (c.fact 77 (f := .noat "Trimmer" "only") rfl), He.noat_ok (c.fact 78 (f := .noat "Trimmer" "stack") rfl), cls_Open, He.noat_ok (c.fact 69 (f := .noat "Open" "k") rfl), He.noat_ok (c.fact 70 (f := .noat "Open" "rest") rfl), He.noat_ok (c.fact 71 (f := .noat "Open" "parts") rfl), He.noat_ok (c.fact 72 (f := .noat "Open" "needed") rfl)⟩
  have cBo : BC K (He.ga K "Bounds") := ⟨cls_Bounds, He.noat_ok (c.fact 82 (f := .noat "Bounds" "_literals") rfl), He.noat_ok (c.fact 83 (f := .noat "Bounds" "_least") rfl)⟩
  have cSe : SC K (He.ga K "Search") (He.ga K "Place") := ⟨cls_Search, He.noat_ok (c.fact 97 (f := .noat "Search" "n") rfl), He.noat_ok (c.fact 98 (f := .noat "Search" "clauses") rfl), He.noat_ok (c.fact 99 (f := .noat "Search" "only") rfl), He.noat_ok (c.fact 100 (f := .noat "Search" "places") rfl), cls_Place, He.noat_ok (c.fact 87 (f := .noat "Place" "bounds") rfl), He.noat_ok (c.fact 88 (f := .noat "Place" "steps") rfl), He.noat_ok (c.fact 89 (f := .noat "Place" "k") rfl), He.noat_ok (c.fact 90 (f := .noat "Place" "left") rfl), He.noat_ok (c.fact 91 (f := .noat "Place" "parts") rfl), He.noat_ok (c.fact 92 (f := .noat "Place" "others") rfl), He.noat_ok (c.fact 93 (f := .noat "Place" "at") rfl)⟩
  obtain ⟨oc0, od0, os0, kV0, dc0, pm0, an0, cd0, ct0, l0, e0⟩ := c.def_ 0 (d := d0) rfl
  have F0 := fun_mk (st := s_check_points) l0 e0 (He.keep_ok (c.fact 1 (f := .keep "check_points") rfl))
  have b0 := F0.binds (ps := ["n"]) fun _ _ _ _ _ _ us hl => match us, hl with | [_], _ => rfl
  have g0 := He.glo_ok X G (c.fact 0 (f := .glo "check_points") rfl)
  obtain ⟨oc1, od1, os1, kV1, dc1, pm1, an1, cd1, ct1, l1, e1⟩ := c.def_ 1 (d := d1) rfl
  have F1 := fun_mk (st := s_check_point) l1 e1 (He.keep_ok (c.fact 3 (f := .keep "check_point") rfl))
  have b1 := F1.binds (ps := ["n", "a"]) fun _ _ _ _ _ _ us hl => match us, hl with | [_, _], _ => rfl
  have g1 := He.glo_ok X G (c.fact 2 (f := .glo "check_point") rfl)
  obtain ⟨oc2, od2, os2, kV2, dc2, pm2, an2, cd2, ct2, l2, e2⟩ := c.def_ 2 (d := d2) rfl
  have F2 := fun_mk (st := s_check_literals) l2 e2 (He.keep_ok (c.fact 5 (f := .keep "check_literals") rfl))
  have b2 := F2.binds (ps := ["n", "literals"]) fun _ _ _ _ _ _ us hl => match us, hl with | [_, _], _ => rfl
  have g2 := He.glo_ok X G (c.fact 4 (f := .glo "check_literals") rfl)
  obtain ⟨oc3, od3, os3, kV3, dc3, pm3, an3, cd3, ct3, l3, e3⟩ := c.def_ 3 (d := d3) rfl
  have F3 := fun_mk (st := s_satisfies) l3 e3 (He.keep_ok (c.fact 7 (f := .keep "satisfies") rfl))
  have b3 := F3.binds (ps := ["values", "literals"]) fun _ _ _ _ _ _ us hl => match us, hl with | [_, _], _ => rfl
  have g3 := He.glo_ok X G (c.fact 6 (f := .glo "satisfies") rfl)
  obtain ⟨oc4, od4, os4, kV4, dc4, pm4, an4, cd4, ct4, l4, e4⟩ := c.def_ 4 (d := d4) rfl
  have F4 := fun_mk (st := s_is_ring) l4 e4 (He.keep_ok (c.fact 9 (f := .keep "is_ring") rfl))
  have b4 := F4.binds (ps := ["ring"]) fun _ _ _ _ _ _ us hl => match us, hl with | [_], _ => rfl
  have g4 := He.glo_ok X G (c.fact 8 (f := .glo "is_ring") rfl)
  obtain ⟨oc5, od5, os5, kV5, dc5, pm5, an5, cd5, ct5, l5, e5⟩ := c.def_ 5 (d := d5) rfl
  have F5 := fun_mk (st := s_ring_at) l5 e5 (He.keep_ok (c.fact 11 (f := .keep "ring_at") rfl))
  have b5 := F5.binds (ps := ["n", "last", "start"]) fun _ _ _ _ _ _ us hl => match us, hl with | [_, _, _], _ => rfl
  have g5 := He.glo_ok X G (c.fact 10 (f := .glo "ring_at") rfl)
  obtain ⟨oc6, od6, os6, kV6, dc6, pm6, an6, cd6, ct6, l6, e6⟩ := c.def_ 6 (d := d6) rfl
  have F6 := fun_mk (st := s_ring_from) l6 e6 (He.keep_ok (c.fact 13 (f := .keep "ring_from") rfl))
  have b6 := F6.binds (ps := ["n", "last", "start"]) fun _ _ _ _ _ _ us hl => match us, hl with | [_, _, _], _ => rfl
  have g6 := He.glo_ok X G (c.fact 12 (f := .glo "ring_from") rfl)
  obtain ⟨oc7, od7, os7, kV7, dc7, pm7, an7, cd7, ct7, l7, e7⟩ := c.def_ 7 (d := d7) rfl
  have F7 := fun_mk (st := s_find_ring) l7 e7 (He.keep_ok (c.fact 15 (f := .keep "find_ring") rfl))
  have b7 := F7.binds (ps := ["n", "literals"]) fun _ _ _ _ _ _ us hl => match us, hl with | [_, _], _ => rfl
  have g7 := He.glo_ok X G (c.fact 14 (f := .glo "find_ring") rfl)
  obtain ⟨oc8, od8, os8, kV8, dc8, pm8, an8, cd8, ct8, l8, e8⟩ := c.def_ 8 (d := d8) rfl
  have F8 := fun_mk (st := s_check_clauses) l8 e8 (He.keep_ok (c.fact 17 (f := .keep "check_clauses") rfl))
  have b8 := F8.binds (ps := ["n", "clauses"]) fun _ _ _ _ _ _ us hl => match us, hl with | [_, _], _ => rfl
  have g8 := He.glo_ok X G (c.fact 16 (f := .glo "check_clauses") rfl)
  obtain ⟨oc9, od9, os9, kV9, dc9, pm9, an9, cd9, ct9, l9, e9⟩ := c.def_ 9 (d := d9) rfl
  have F9 := fun_mk (st := s_single) l9 e9 (He.keep_ok (c.fact 19 (f := .keep "single") rfl))
  have b9 := F9.binds (ps := ["clauses"]) fun _ _ _ _ _ _ us hl => match us, hl with | [_], _ => rfl
  have g9 := He.glo_ok X G (c.fact 18 (f := .glo "single") rfl)
  obtain ⟨oc10, od10, os10, kV10, dc10, pm10, an10, cd10, ct10, l10, e10⟩ := c.def_ 10 (d := d10) rfl
  have F10 := fun_mk (st := s_is_literal) l10 e10 (He.keep_ok (c.fact 21 (f := .keep "is_literal") rfl))
  have b10 := F10.binds (ps := ["value"]) fun _ _ _ _ _ _ us hl => match us, hl with | [_], _ => rfl
  have g10 := He.glo_ok X G (c.fact 20 (f := .glo "is_literal") rfl)
  obtain ⟨oc11, od11, os11, kV11, dc11, pm11, an11, cd11, ct11, l11, e11⟩ := c.def_ 11 (d := d11) rfl
  have F11 := fun_mk (st := s_is_ring_paper) l11 e11 (He.keep_ok (c.fact 23 (f := .keep "is_ring_paper") rfl))
  have b11 := F11.binds (ps := ["value"]) fun _ _ _ _ _ _ us hl => match us, hl with | [_], _ => rfl
  have g11 := He.glo_ok X G (c.fact 22 (f := .glo "is_ring_paper") rfl)
  obtain ⟨oc12, od12, os12, kV12, dc12, pm12, an12, cd12, ct12, l12, e12⟩ := c.def_ 12 (d := d12) rfl
  have F12 := fun_mk (st := s_is_paper) l12 e12 (He.keep_ok (c.fact 25 (f := .keep "is_paper") rfl))
  have b12 := F12.binds (ps := ["value"]) fun _ _ _ _ _ _ us hl => match us, hl with | [_], _ => rfl
  have g12 := He.glo_ok X G (c.fact 24 (f := .glo "is_paper") rfl)
  obtain ⟨oc13, od13, os13, kV13, dc13, pm13, an13, cd13, ct13, l13, e13⟩ := c.def_ 13 (d := d13) rfl
  have F13 := fun_mk (st := s_depth_of) l13 e13 (He.keep_ok (c.fact 27 (f := .keep "depth_of") rfl))
  have b13 := F13.binds (ps := ["paper"]) fun _ _ _ _ _ _ us hl => match us, hl with | [_], _ => rfl
  have g13 := He.glo_ok X G (c.fact 26 (f := .glo "depth_of") rfl)
  obtain ⟨oc14, od14, os14, kV14, dc14, pm14, an14, cd14, ct14, l14, e14⟩ := c.def_ 14 (d := d14) rfl
  have F14 := fun_mk (st := s_is_accepted) l14 e14 (He.keep_ok (c.fact 29 (f := .keep "is_accepted") rfl))
  have b14 := F14.binds (ps := ["clauses", "only", "paper"]) fun _ _ _ _ _ _ us hl => match us, hl with | [_, _, _], _ => rfl
  have g14 := He.glo_ok X G (c.fact 28 (f := .glo "is_accepted") rfl)
  obtain ⟨oc15, od15, os15, kV15, dc15, pm15, an15, cd15, ct15, l15, e15⟩ := c.def_ 15 (d := d15) rfl
  have F15 := fun_mk (st := s_check_paper) l15 e15 (He.keep_ok (c.fact 31 (f := .keep "check_paper") rfl))
  have b15 := F15.binds (ps := ["n", "clauses", "paper"]) fun _ _ _ _ _ _ us hl => match us, hl with | [_, _, _], _ => rfl
  have g15 := He.glo_ok X G (c.fact 30 (f := .glo "check_paper") rfl)
  obtain ⟨oc16, od16, os16, kV16, dc16, pm16, an16, cd16, ct16, l16, e16⟩ := c.def_ 16 (d := d16) rfl
  have F16 := fun_mk (st := s_need_accepted) l16 e16 (He.keep_ok (c.fact 33 (f := .keep "need_accepted") rfl))
  have b16 := F16.binds (ps := ["n", "clauses", "paper"]) fun _ _ _ _ _ _ us hl => match us, hl with | [_, _, _], _ => rfl
  have g16 := He.glo_ok X G (c.fact 32 (f := .glo "need_accepted") rfl)
  obtain ⟨oc17, od17, os17, kV17, dc17, pm17, an17, cd17, ct17, l17, e17⟩ := c.def_ 17 (d := d17) rfl
  have F17 := fun_mk (st := s_rings_of) l17 e17 (He.keep_ok (c.fact 35 (f := .keep "rings_of") rfl))
  have b17 := F17.binds (ps := ["paper"]) fun _ _ _ _ _ _ us hl => match us, hl with | [_], _ => rfl
  have g17 := He.glo_ok X G (c.fact 34 (f := .glo "rings_of") rfl)
  obtain ⟨oc18, od18, os18, kV18, dc18, pm18, an18, cd18, ct18, l18, e18⟩ := c.def_ 18 (d := d18) rfl
  have F18 := fun_mk (st := s_used_by) l18 e18 (He.keep_ok (c.fact 37 (f := .keep "used_by") rfl))
  have b18 := F18.binds (ps := ["clauses", "only", "paper"]) fun _ _ _ _ _ _ us hl => match us, hl with | [_, _, _], _ => rfl
  have g18 := He.glo_ok X G (c.fact 36 (f := .glo "used_by") rfl)
  obtain ⟨oc19, od19, os19, kV19, dc19, pm19, an19, cd19, ct19, l19, e19⟩ := c.def_ 19 (d := d19) rfl
  have F19 := fun_mk (st := s_used_clauses) l19 e19 (He.keep_ok (c.fact 39 (f := .keep "used_clauses") rfl))
  have b19 := F19.binds (ps := ["n", "clauses", "paper"]) fun _ _ _ _ _ _ us hl => match us, hl with | [_, _, _], _ => rfl
  have g19 := He.glo_ok X G (c.fact 38 (f := .glo "used_clauses") rfl)
  have m20 := He.meth_ok (c.fact 101 (f := .meth "Open" "__init__") rfl)
  obtain ⟨oc20, od20, os20, kV20, dc20, pm20, an20, cd20, ct20, l20, e20⟩ := c.def_ 20 (d := d20) rfl
  have F20 := fun_mk (st := s_Open_init) l20 e20 m20.kp
  have b20 := F20.binds (ps := ["self", "k", "parts"]) fun _ _ _ _ _ _ us hl => match us, hl with | [_, _, _], _ => rfl
  have m21 := He.meth_ok (c.fact 102 (f := .meth "Trimmer" "__init__") rfl)
  obtain ⟨oc21, od21, os21, kV21, dc21, pm21, an21, cd21, ct21, l21, e21⟩ := c.def_ 21 (d := d21) rfl
  have F21 := fun_mk (st := s_Trimmer_init) l21 e21 m21.kp
  have b21 := F21.binds (ps := ["self", "clauses"]) fun _ _ _ _ _ _ us hl => match us, hl with | [_, _], _ => rfl
  have m22 := He.meth_ok (c.fact 103 (f := .meth "Trimmer" "descend") rfl)
  obtain ⟨oc22, od22, os22, kV22, dc22, pm22, an22, cd22, ct22, l22, e22⟩ := c.def_ 22 (d := d22) rfl
  have F22 := fun_mk (st := s_Trimmer_descend) l22 e22 m22.kp
  have b22 := F22.binds (ps := ["self", "paper"]) fun _ _ _ _ _ _ us hl => match us, hl with | [_, _], _ => rfl
  have m23 := He.meth_ok (c.fact 104 (f := .meth "Trimmer" "ascend") rfl)
  obtain ⟨oc23, od23, os23, kV23, dc23, pm23, an23, cd23, ct23, l23, e23⟩ := c.def_ 23 (d := d23) rfl
  have F23 := fun_mk (st := s_Trimmer_ascend) l23 e23 m23.kp
  have b23 := F23.binds (ps := ["self", "found"]) fun _ _ _ _ _ _ us hl => match us, hl with | [_, _], _ => rfl
  have m24 := He.meth_ok (c.fact 105 (f := .meth "Trimmer" "trim") rfl)
  obtain ⟨oc24, od24, os24, kV24, dc24, pm24, an24, cd24, ct24, l24, e24⟩ := c.def_ 24 (d := d24) rfl
  have F24 := fun_mk (st := s_Trimmer_trim) l24 e24 m24.kp
  have b24 := F24.binds (ps := ["self", "paper"]) fun _ _ _ _ _ _ us hl => match us, hl with | [_, _], _ => rfl
  obtain ⟨oc25, od25, os25, kV25, dc25, pm25, an25, cd25, ct25, l25, e25⟩ := c.def_ 25 (d := d25) rfl
  have F25 := fun_mk (st := s_trimmed) l25 e25 (He.keep_ok (c.fact 41 (f := .keep "trimmed") rfl))
  have b25 := F25.binds (ps := ["n", "clauses", "paper"]) fun _ _ _ _ _ _ us hl => match us, hl with | [_, _, _], _ => rfl
  have g25 := He.glo_ok X G (c.fact 40 (f := .glo "trimmed") rfl)
  obtain ⟨oc26, od26, os26, kV26, dc26, pm26, an26, cd26, ct26, l26, e26⟩ := c.def_ 26 (d := d26) rfl
  have F26 := fun_mk (st := s_joined) l26 e26 (He.keep_ok (c.fact 43 (f := .keep "joined") rfl))
  have b26 := F26.binds (ps := ["first", "second"]) fun _ _ _ _ _ _ us hl => match us, hl with | [_, _], _ => rfl
  have g26 := He.glo_ok X G (c.fact 42 (f := .glo "joined") rfl)
  obtain ⟨oc27, od27, os27, kV27, dc27, pm27, an27, cd27, ct27, l27, e27⟩ := c.def_ 27 (d := d27) rfl
  have F27 := fun_mk (st := s_is_less) l27 e27 (He.keep_ok (c.fact 45 (f := .keep "is_less") rfl))
  have b27 := F27.binds (ps := ["first", "second"]) fun _ _ _ _ _ _ us hl => match us, hl with | [_, _], _ => rfl
  have g27 := He.glo_ok X G (c.fact 44 (f := .glo "is_less") rfl)
  obtain ⟨oc28, od28, os28, kV28, dc28, pm28, an28, cd28, ct28, l28, e28⟩ := c.def_ 28 (d := d28) rfl
  have F28 := fun_mk (st := s_moved) l28 e28 (He.keep_ok (c.fact 47 (f := .keep "moved") rfl))
  have b28 := F28.binds (ps := ["values"]) fun _ _ _ _ _ _ us hl => match us, hl with | [_], _ => rfl
  have g28 := He.glo_ok X G (c.fact 46 (f := .glo "moved") rfl)
  have m29 := He.meth_ok (c.fact 106 (f := .meth "Bounds" "size") rfl)
  obtain ⟨oc29, od29, os29, kV29, dc29, pm29, an29, cd29, ct29, l29, e29⟩ := c.def_ 29 (d := d29) rfl
  have F29 := fun_mk (st := s_Bounds_size) l29 e29 m29.kp
  have b29 := F29.binds (ps := ["self"]) fun _ _ _ _ _ _ us hl => match us, hl with | [_], _ => rfl
  have m30 := He.meth_ok (c.fact 107 (f := .meth "Bounds" "literals") rfl)
  obtain ⟨oc30, od30, os30, kV30, dc30, pm30, an30, cd30, ct30, l30, e30⟩ := c.def_ 30 (d := d30) rfl
  have F30 := fun_mk (st := s_Bounds_literals) l30 e30 m30.kp
  have b30 := F30.binds (ps := ["self"]) fun _ _ _ _ _ _ us hl => match us, hl with | [_], _ => rfl
  have m31 := He.meth_ok (c.fact 108 (f := .meth "Bounds" "bound") rfl)
  obtain ⟨oc31, od31, os31, kV31, dc31, pm31, an31, cd31, ct31, l31, e31⟩ := c.def_ 31 (d := d31) rfl
  have F31 := fun_mk (st := s_Bounds_bound) l31 e31 m31.kp
  have b31 := F31.binds (ps := ["self", "a", "b"]) fun _ _ _ _ _ _ us hl => match us, hl with | [_, _, _], _ => rfl
  have m32 := He.meth_ok (c.fact 109 (f := .meth "Bounds" "_shorten") rfl)
  obtain ⟨oc32, od32, os32, kV32, dc32, pm32, an32, cd32, ct32, l32, e32⟩ := c.def_ 32 (d := d32) rfl
  have F32 := fun_mk (st := s_Bounds_shorten) l32 e32 m32.kp
  have b32 := F32.binds (ps := ["self", "a", "b", "c"]) fun _ _ _ _ _ _ us hl => match us, hl with | [_, _, _, _], _ => rfl
  have m33 := He.meth_ok (c.fact 110 (f := .meth "Bounds" "add") rfl)
  obtain ⟨oc33, od33, os33, kV33, dc33, pm33, an33, cd33, ct33, l33, e33⟩ := c.def_ 33 (d := d33) rfl
  have F33 := fun_mk (st := s_Bounds_add) l33 e33 m33.kp
  have b33 := F33.binds (ps := ["self", "a", "b", "c"]) fun _ _ _ _ _ _ us hl => match us, hl with | [_, _, _, _], _ => rfl
  have m34 := He.meth_ok (c.fact 111 (f := .meth "Bounds" "__init__") rfl)
  obtain ⟨oc34, od34, os34, kV34, dc34, pm34, an34, cd34, ct34, l34, e34⟩ := c.def_ 34 (d := d34) rfl
  have F34 := fun_mk (st := s_Bounds_init) l34 e34 m34.kp
  have b34 := F34.binds (ps := ["self", "n"]) fun _ _ _ _ _ _ us hl => match us, hl with | [_, _], _ => rfl
  have m35 := He.meth_ok (c.fact 112 (f := .meth "Bounds" "_take") rfl)
  obtain ⟨oc35, od35, os35, kV35, dc35, pm35, an35, cd35, ct35, l35, e35⟩ := c.def_ 35 (d := d35) rfl
  have F35 := fun_mk (st := s_Bounds_take) l35 e35 m35.kp
  have b35 := F35.binds (ps := ["self", "literals", "least"]) fun _ _ _ _ _ _ us hl => match us, hl with | [_, _, _], _ => rfl
  have m36 := He.meth_ok (c.fact 113 (f := .meth "Bounds" "copy") rfl)
  obtain ⟨oc36, od36, os36, kV36, dc36, pm36, an36, cd36, ct36, l36, e36⟩ := c.def_ 36 (d := d36) rfl
  have F36 := fun_mk (st := s_Bounds_copy) l36 e36 m36.kp
  have b36 := F36.binds (ps := ["self"]) fun _ _ _ _ _ _ us hl => match us, hl with | [_], _ => rfl
  have m37 := He.meth_ok (c.fact 114 (f := .meth "Bounds" "_low") rfl)
  obtain ⟨oc37, od37, os37, kV37, dc37, pm37, an37, cd37, ct37, l37, e37⟩ := c.def_ 37 (d := d37) rfl
  have F37 := fun_mk (st := s_Bounds_low) l37 e37 m37.kp
  have b37 := F37.binds (ps := ["self", "points"]) fun _ _ _ _ _ _ us hl => match us, hl with | [_, _], _ => rfl
  have m38 := He.meth_ok (c.fact 115 (f := .meth "Bounds" "any_values") rfl)
  obtain ⟨oc38, od38, os38, kV38, dc38, pm38, an38, cd38, ct38, l38, e38⟩ := c.def_ 38 (d := d38) rfl
  have F38 := fun_mk (st := s_Bounds_any_values) l38 e38 m38.kp
  have b38 := F38.binds (ps := ["self"]) fun _ _ _ _ _ _ us hl => match us, hl with | [_], _ => rfl
  obtain ⟨oc39, od39, os39, kV39, dc39, pm39, an39, cd39, ct39, l39, e39⟩ := c.def_ 39 (d := d39) rfl
  have F39 := fun_mk (st := s_solves) l39 e39 (He.keep_ok (c.fact 49 (f := .keep "solves") rfl))
  have b39 := F39.binds (ps := ["n", "clauses", "values"]) fun _ _ _ _ _ _ us hl => match us, hl with | [_, _, _], _ => rfl
  have g39 := He.glo_ok X G (c.fact 48 (f := .glo "solves") rfl)
  obtain ⟨oc40, od40, os40, kV40, dc40, pm40, an40, cd40, ct40, l40, e40⟩ := c.def_ 40 (d := d40) rfl
  have F40 := fun_mk (st := s_is_refuted) l40 e40 (He.keep_ok (c.fact 51 (f := .keep "is_refuted") rfl))
  have b40 := F40.binds (ps := ["bounds", "literal"]) fun _ _ _ _ _ _ us hl => match us, hl with | [_, _], _ => rfl
  have g40 := He.glo_ok X G (c.fact 50 (f := .glo "is_refuted") rfl)
  obtain ⟨oc41, od41, os41, kV41, dc41, pm41, an41, cd41, ct41, l41, e41⟩ := c.def_ 41 (d := d41) rfl
  have F41 := fun_mk (st := s_is_implied) l41 e41 (He.keep_ok (c.fact 53 (f := .keep "is_implied") rfl))
  have b41 := F41.binds (ps := ["bounds", "literal"]) fun _ _ _ _ _ _ us hl => match us, hl with | [_, _], _ => rfl
  have g41 := He.glo_ok X G (c.fact 52 (f := .glo "is_implied") rfl)
  obtain ⟨oc42, od42, os42, kV42, dc42, pm42, an42, cd42, ct42, l42, e42⟩ := c.def_ 42 (d := d42) rfl
  have F42 := fun_mk (st := s_keep) l42 e42 (He.keep_ok (c.fact 55 (f := .keep "keep") rfl))
  have b42 := F42.binds (ps := ["bounds", "literal"]) fun _ _ _ _ _ _ us hl => match us, hl with | [_, _], _ => rfl
  have g42 := He.glo_ok X G (c.fact 54 (f := .glo "keep") rfl)
  have m43 := He.meth_ok (c.fact 116 (f := .meth "Search" "sift") rfl)
  obtain ⟨oc43, od43, os43, kV43, dc43, pm43, an43, cd43, ct43, l43, e43⟩ := c.def_ 43 (d := d43) rfl
  have F43 := fun_mk (st := s_Search_sift) l43 e43 m43.kp
  have b43 := F43.binds (ps := ["self", "bounds", "waiting"]) fun _ _ _ _ _ _ us hl => match us, hl with | [_, _, _], _ => rfl
  have m44 := He.meth_ok (c.fact 117 (f := .meth "Search" "refuted") rfl)
  obtain ⟨oc44, od44, os44, kV44, dc44, pm44, an44, cd44, ct44, l44, e44⟩ := c.def_ 44 (d := d44) rfl
  have F44 := fun_mk (st := s_Search_refuted) l44 e44 m44.kp
  have b44 := F44.binds (ps := ["self", "literals", "k", "parts"]) fun _ _ _ _ _ _ us hl => match us, hl with | [_, _, _, _], _ => rfl
  have m45 := He.meth_ok (c.fact 118 (f := .meth "Search" "cases") rfl)
  obtain ⟨oc45, od45, os45, kV45, dc45, pm45, an45, cd45, ct45, l45, e45⟩ := c.def_ 45 (d := d45) rfl
  have F45 := fun_mk (st := s_Search_cases) l45 e45 m45.kp
  have b45 := F45.binds (ps := ["self", "k", "parts"]) fun _ _ _ _ _ _ us hl => match us, hl with | [_, _, _], _ => rfl
  have m46 := He.meth_ok (c.fact 119 (f := .meth "Place" "__init__") rfl)
  obtain ⟨oc46, od46, os46, kV46, dc46, pm46, an46, cd46, ct46, l46, e46⟩ := c.def_ 46 (d := d46) rfl
  have F46 := fun_mk (st := s_Place_init) l46 e46 m46.kp
  have b46 := F46.binds (ps := ["self", "bounds", "steps", "best", "others"]) fun _ _ _ _ _ _ us hl => match us, hl with | [_, _, _, _, _], _ => rfl
  have m47 := He.meth_ok (c.fact 120 (f := .meth "Search" "__init__") rfl)
  obtain ⟨oc47, od47, os47, kV47, dc47, pm47, an47, cd47, ct47, l47, e47⟩ := c.def_ 47 (d := d47) rfl
  have F47 := fun_mk (st := s_Search_init) l47 e47 m47.kp
  have b47 := F47.binds (ps := ["self", "n", "clauses"]) fun _ _ _ _ _ _ us hl => match us, hl with | [_, _, _], _ => rfl
  have m48 := He.meth_ok (c.fact 121 (f := .meth "Search" "enter") rfl)
  obtain ⟨oc48, od48, os48, kV48, dc48, pm48, an48, cd48, ct48, l48, e48⟩ := c.def_ 48 (d := d48) rfl
  have F48 := fun_mk (st := s_Search_enter) l48 e48 m48.kp
  have b48 := F48.binds (ps := ["self", "bounds", "waiting"]) fun _ _ _ _ _ _ us hl => match us, hl with | [_, _, _], _ => rfl
  have m49 := He.meth_ok (c.fact 122 (f := .meth "Search" "behind") rfl)
  obtain ⟨oc49, od49, os49, kV49, dc49, pm49, an49, cd49, ct49, l49, e49⟩ := c.def_ 49 (d := d49) rfl
  have F49 := fun_mk (st := s_Search_behind) l49 e49 m49.kp
  have b49 := F49.binds (ps := ["self", "place", "part"]) fun _ _ _ _ _ _ us hl => match us, hl with | [_, _, _], _ => rfl
  have m50 := He.meth_ok (c.fact 123 (f := .meth "Search" "finish") rfl)
  obtain ⟨oc50, od50, os50, kV50, dc50, pm50, an50, cd50, ct50, l50, e50⟩ := c.def_ 50 (d := d50) rfl
  have F50 := fun_mk (st := s_Search_finish) l50 e50 m50.kp
  have b50 := F50.binds (ps := ["self", "place"]) fun _ _ _ _ _ _ us hl => match us, hl with | [_, _], _ => rfl
  have m51 := He.meth_ok (c.fact 124 (f := .meth "Search" "close") rfl)
  obtain ⟨oc51, od51, os51, kV51, dc51, pm51, an51, cd51, ct51, l51, e51⟩ := c.def_ 51 (d := d51) rfl
  have F51 := fun_mk (st := s_Search_close) l51 e51 m51.kp
  have b51 := F51.binds (ps := ["self", "part"]) fun _ _ _ _ _ _ us hl => match us, hl with | [_, _], _ => rfl
  have m52 := He.meth_ok (c.fact 125 (f := .meth "Search" "run") rfl)
  obtain ⟨oc52, od52, os52, kV52, dc52, pm52, an52, cd52, ct52, l52, e52⟩ := c.def_ 52 (d := d52) rfl
  have F52 := fun_mk (st := s_Search_run) l52 e52 m52.kp
  have b52 := F52.binds (ps := ["self", "bounds", "waiting"]) fun _ _ _ _ _ _ us hl => match us, hl with | [_, _, _], _ => rfl
  obtain ⟨oc53, od53, os53, kV53, dc53, pm53, an53, cd53, ct53, l53, e53⟩ := c.def_ 53 (d := d53) rfl
  have F53 := fun_mk (st := s_solve) l53 e53 (He.keep_ok (c.fact 57 (f := .keep "solve") rfl))
  have b53 := F53.binds (ps := ["n", "clauses"]) fun _ _ _ _ _ _ us hl => match us, hl with | [_, _], _ => rfl
  have g53 := He.glo_ok X G (c.fact 56 (f := .glo "solve") rfl)
  obtain ⟨oc54, od54, os54, kV54, dc54, pm54, an54, cd54, ct54, l54, e54⟩ := c.def_ 54 (d := d54) rfl
  have F54 := fun_mk (st := s__law_numbers) l54 e54 (He.keep_ok (c.fact 59 (f := .keep "_law_numbers") rfl))
  have b54 := F54.binds (ps := ["_law_script", "_law_many"]) fun _ _ _ _ _ _ us hl => match us, hl with | [_, _], _ => rfl
  have g54 := He.glo_ok X G (c.fact 58 (f := .glo "_law_numbers") rfl)
  obtain ⟨oc55, od55, os55, kV55, dc55, pm55, an55, cd55, ct55, l55, e55⟩ := c.def_ 55 (d := d55) rfl
  have F55 := fun_mk (st := s__law_clauses) l55 e55 (He.keep_ok (c.fact 61 (f := .keep "_law_clauses") rfl))
  have b55 := F55.binds (ps := ["_law_numbers_here", "_law_at", "_law_n", "_law_count", "_law_size"]) fun _ _ _ _ _ _ us hl => match us, hl with | [_, _, _, _, _], _ => rfl
  have g55 := He.glo_ok X G (c.fact 60 (f := .glo "_law_clauses") rfl)
  obtain ⟨oc56, od56, os56, kV56, dc56, pm56, an56, cd56, ct56, l56, e56⟩ := c.def_ 56 (d := d56) rfl
  have F56 := fun_mk (st := s__law_paper) l56 e56 (He.keep_ok (c.fact 63 (f := .keep "_law_paper") rfl))
  have b56 := F56.binds (ps := ["_law_n", "_law_clauses_here", "_law_paper_here"]) fun _ _ _ _ _ _ us hl => match us, hl with | [_, _, _], _ => rfl
  have g56 := He.glo_ok X G (c.fact 62 (f := .glo "_law_paper") rfl)
  obtain ⟨oc57, od57, os57, kV57, dc57, pm57, an57, cd57, ct57, l57, e57⟩ := c.def_ 57 (d := d57) rfl
  have F57 := fun_mk (st := s_law) l57 e57 (He.keep_ok (c.fact 65 (f := .keep "law") rfl))
  have b57 := F57.binds (ps := ["_law_script"]) fun _ _ _ _ _ _ us hl => match us, hl with | [_], _ => rfl
  have g57 := He.glo_ok X G (c.fact 64 (f := .glo "law") rfl)
  have e := hfa.symm.trans g57
  cases e
  refine ⟨PySem.W.fnOf "law" "law" (defArgs s_law) (defBody s_law) (defScope s_law) .none kV57 dc57 pm57 an57 cd57 ct57, fun s v => .of_eq rfl, fun base _ _ => ?_⟩
  have G0 : FnOk P w K mg base CX0 1 _ _ ["n"] sp_check_points := ok_check_points F0 TMAX_POINTS
  have D_check_points : Def P w K mg base 1 "check_points" ["n"] sp_check_points := ⟨_, _, G0, g0, F0.kp, b0⟩
  have G1 : FnOk P w K mg base CX0 1 _ _ ["n", "a"] sp_check_point := ok_check_point F1
  have D_check_point : Def P w K mg base 1 "check_point" ["n", "a"] sp_check_point := ⟨_, _, G1, g1, F1.kp, b1⟩
  have G2 : FnOk P w K mg base CX0 2 _ _ ["n", "literals"] sp_check_literals := ok_check_literals F2 D_check_points D_check_point
  have D_check_literals : Def P w K mg base 2 "check_literals" ["n", "literals"] sp_check_literals := ⟨_, _, G2, g2, F2.kp, b2⟩
  have G3 : FnOk P w K mg base CX0 1 _ _ ["values", "literals"] sp_satisfies := ok_satisfies F3 B
  have D_satisfies : Def P w K mg base 1 "satisfies" ["values", "literals"] sp_satisfies := ⟨_, _, G3, g3, F3.kp, b3⟩
  have G4 : FnOk P w K mg base CX0 1 _ _ ["ring"] sp_is_ring := ok_is_ring F4 B
  have D_is_ring : Def P w K mg base 1 "is_ring" ["ring"] sp_is_ring := ⟨_, _, G4, g4, F4.kp, b4⟩
  have G5 : FnOk P w K mg base CX0 1 _ _ ["n", "last", "start"] sp_ring_at := ok_ring_at F5 B
  have D_ring_at : Def P w K mg base 1 "ring_at" ["n", "last", "start"] sp_ring_at := ⟨_, _, G5, g5, F5.kp, b5⟩
  have G6 : FnOk P w K mg base CX0 1 _ _ ["n", "last", "start"] sp_ring_from := ok_ring_from F6 B
  have D_ring_from : Def P w K mg base 1 "ring_from" ["n", "last", "start"] sp_ring_from := ⟨_, _, G6, g6, F6.kp, b6⟩
  have G7 : FnOk P w K mg base CX0 3 _ _ ["n", "literals"] sp_find_ring := ok_find_ring F7 B D_check_literals D_ring_at D_ring_from
  have D_find_ring : Def P w K mg base 3 "find_ring" ["n", "literals"] sp_find_ring := ⟨_, _, G7, g7, F7.kp, b7⟩
  have G8 : FnOk P w K mg base CX0 3 _ _ ["n", "clauses"] sp_check_clauses := ok_check_clauses F8 B TMAX_CLAUSES D_check_points D_check_literals
  have D_check_clauses : Def P w K mg base 3 "check_clauses" ["n", "clauses"] sp_check_clauses := ⟨_, _, G8, g8, F8.kp, b8⟩
  have G9 : FnOk P w K mg base CX0 1 _ _ ["clauses"] sp_single := ok_single F9 B
  have D_single : Def P w K mg base 1 "single" ["clauses"] sp_single := ⟨_, _, G9, g9, F9.kp, b9⟩
  have G10 : FnOk P w K mg base CX0 1 _ _ ["value"] sp_is_literal := ok_is_literal F10 B
  have D_is_literal : Def P w K mg base 1 "is_literal" ["value"] sp_is_literal := ⟨_, _, G10, g10, F10.kp, b10⟩
  have G11 : FnOk P w K mg base CX0 2 _ _ ["value"] sp_is_ring_paper := ok_is_ring_paper F11 B D_is_literal
  have D_is_ring_paper : Def P w K mg base 2 "is_ring_paper" ["value"] sp_is_ring_paper := ⟨_, _, G11, g11, F11.kp, b11⟩
  have G12 : FnOk P w K mg base CX0 3 _ _ ["value"] sp_is_paper := ok_is_paper F12 B D_is_ring_paper
  have D_is_paper : Def P w K mg base 3 "is_paper" ["value"] sp_is_paper := ⟨_, _, G12, g12, F12.kp, b12⟩
  have G13 : FnOk P w K mg base CX0 1 _ _ ["paper"] sp_depth_of := ok_depth_of F13 B
  have D_depth_of : Def P w K mg base 1 "depth_of" ["paper"] sp_depth_of := ⟨_, _, G13, g13, F13.kp, b13⟩
  have G14 : FnOk P w K mg base CX0 2 _ _ ["clauses", "only", "paper"] sp_is_accepted := ok_is_accepted F14 B D_is_ring
  have D_is_accepted : Def P w K mg base 2 "is_accepted" ["clauses", "only", "paper"] sp_is_accepted := ⟨_, _, G14, g14, F14.kp, b14⟩
  have G15 : FnOk P w K mg base CX0 4 _ _ ["n", "clauses", "paper"] sp_check_paper := ok_check_paper F15 TMAX_DEPTH D_check_clauses D_depth_of D_is_accepted D_is_paper D_single
  have D_check_paper : Def P w K mg base 4 "check_paper" ["n", "clauses", "paper"] sp_check_paper := ⟨_, _, G15, g15, F15.kp, b15⟩
  have G16 : FnOk P w K mg base CX0 5 _ _ ["n", "clauses", "paper"] sp_need_accepted := ok_need_accepted F16 D_check_paper
  have D_need_accepted : Def P w K mg base 5 "need_accepted" ["n", "clauses", "paper"] sp_need_accepted := ⟨_, _, G16, g16, F16.kp, b16⟩
  have G17 : FnOk P w K mg base CX0 1 _ _ ["paper"] sp_rings_of := ok_rings_of F17 B
  have D_rings_of : Def P w K mg base 1 "rings_of" ["paper"] sp_rings_of := ⟨_, _, G17, g17, F17.kp, b17⟩
  have G18 : FnOk P w K mg base CX0 1 _ _ ["clauses", "only", "paper"] sp_used_by := ok_used_by F18 B
  have D_used_by : Def P w K mg base 1 "used_by" ["clauses", "only", "paper"] sp_used_by := ⟨_, _, G18, g18, F18.kp, b18⟩
  have G19 : FnOk P w K mg base CX0 6 _ _ ["n", "clauses", "paper"] sp_used_clauses := ok_used_clauses F19 B D_need_accepted D_single D_used_by
  have D_used_clauses : Def P w K mg base 6 "used_clauses" ["n", "clauses", "paper"] sp_used_clauses := ⟨_, _, G19, g19, F19.kp, b19⟩
  have G20 : FnOk P w K mg base CX0 1 _ _ ["self", "k", "parts"] (sp_Open_init (He.ga K "Open")) := ok_Open_init F20 cTr
  have C_Open : Made P w K mg base 1 "Open" (He.ga K "Open") ["self", "k", "parts"] (sp_Open_init (He.ga K "Open")) := ⟨_, _, G20, mk_Open, gl_Open, b20⟩
  have G21 : FnOk P w K mg base CX0 2 _ _ ["self", "clauses"] (sp_Trimmer_init (He.ga K "Trimmer")) := ok_Trimmer_init F21 cTr D_single
  have C_Trimmer : Made P w K mg base 2 "Trimmer" (He.ga K "Trimmer") ["self", "clauses"] (sp_Trimmer_init (He.ga K "Trimmer")) := ⟨_, _, G21, mk_Trimmer, gl_Trimmer, b21⟩
  have G22 : FnOk P w K mg base CX0 3 _ _ ["self", "paper"] (sp_descend (He.ga K "Trimmer") (He.ga K "Open")) := ok_descend F22 cTr B C_Open
  have M_Trimmer_descend : MDef P w K mg base 3 (He.ga K "Trimmer") "descend" ["self", "paper"] (sp_descend (He.ga K "Trimmer") (He.ga K "Open")) := ⟨_, _, G22, cls_Trimmer, m22, b22⟩
  have G23 : FnOk P w K mg base CX0 1 _ _ ["self", "found"] (sp_ascend (He.ga K "Trimmer") (He.ga K "Open")) := ok_ascend F23 cTr B
  have M_Trimmer_ascend : MDef P w K mg base 1 (He.ga K "Trimmer") "ascend" ["self", "found"] (sp_ascend (He.ga K "Trimmer") (He.ga K "Open")) := ⟨_, _, G23, cls_Trimmer, m23, b23⟩
  have G24 : FnOk P w K mg base CX0 4 _ _ ["self", "paper"] (sp_trim (He.ga K "Trimmer") (He.ga K "Open")) := ok_trim F24 cTr B M_Trimmer_ascend M_Trimmer_descend
  have M_Trimmer_trim : MDef P w K mg base 4 (He.ga K "Trimmer") "trim" ["self", "paper"] (sp_trim (He.ga K "Trimmer") (He.ga K "Open")) := ⟨_, _, G24, cls_Trimmer, m24, b24⟩
  have G25 : FnOk P w K mg base CX0 6 _ _ ["n", "clauses", "paper"] sp_trimmed := ok_trimmed F25 D_need_accepted C_Trimmer M_Trimmer_trim
  have D_trimmed : Def P w K mg base 6 "trimmed" ["n", "clauses", "paper"] sp_trimmed := ⟨_, _, G25, g25, F25.kp, b25⟩
  have G26 : FnOk P w K mg base CX0 1 _ _ ["first", "second"] sp_joined := ok_joined F26
  have D_joined : Def P w K mg base 1 "joined" ["first", "second"] sp_joined := ⟨_, _, G26, g26, F26.kp, b26⟩
  have G27 : FnOk P w K mg base CX0 1 _ _ ["first", "second"] sp_is_less := ok_is_less F27
  have D_is_less : Def P w K mg base 1 "is_less" ["first", "second"] sp_is_less := ⟨_, _, G27, g27, F27.kp, b27⟩
  have G28 : FnOk P w K mg base CX0 1 _ _ ["values"] sp_moved := ok_moved F28 B
  have D_moved : Def P w K mg base 1 "moved" ["values"] sp_moved := ⟨_, _, G28, g28, F28.kp, b28⟩
  have G29 : FnOk P w K mg base CX0 1 _ _ ["self"] (sp_size (He.ga K "Bounds")) := ok_size F29 cBo B
  have M_Bounds_size : MDef P w K mg base 1 (He.ga K "Bounds") "size" ["self"] (sp_size (He.ga K "Bounds")) := ⟨_, _, G29, cls_Bounds, m29, b29⟩
  have G30 : FnOk P w K mg base CX0 1 _ _ ["self"] (sp_literals (He.ga K "Bounds")) := ok_literals F30 cBo B
  have M_Bounds_literals : MDef P w K mg base 1 (He.ga K "Bounds") "literals" ["self"] (sp_literals (He.ga K "Bounds")) := ⟨_, _, G30, cls_Bounds, m30, b30⟩
  have G31 : FnOk P w K mg base CX0 1 _ _ ["self", "a", "b"] (sp_bound (He.ga K "Bounds")) := ok_bound F31 cBo B
  have M_Bounds_bound : MDef P w K mg base 1 (He.ga K "Bounds") "bound" ["self", "a", "b"] (sp_bound (He.ga K "Bounds")) := ⟨_, _, G31, cls_Bounds, m31, b31⟩
  have G32 : FnOk P w K mg base CX0 2 _ _ ["self", "a", "b", "c"] (sp_shorten (He.ga K "Bounds")) := ok_shorten F32 cBo B D_is_less D_joined
  have M_Bounds__shorten : MDef P w K mg base 2 (He.ga K "Bounds") "_shorten" ["self", "a", "b", "c"] (sp_shorten (He.ga K "Bounds")) := ⟨_, _, G32, cls_Bounds, m32, b32⟩
  have G33 : FnOk P w K mg base CX0 3 _ _ ["self", "a", "b", "c"] (sp_add (He.ga K "Bounds")) := ok_add F33 cBo B D_is_less M_Bounds__shorten M_Bounds_bound
  have M_Bounds_add : MDef P w K mg base 3 (He.ga K "Bounds") "add" ["self", "a", "b", "c"] (sp_add (He.ga K "Bounds")) := ⟨_, _, G33, cls_Bounds, m33, b33⟩
  have G34 : FnOk P w K mg base CX0 2 _ _ ["self", "n"] (sp_Bounds_init (He.ga K "Bounds")) := ok_Bounds_init F34 cBo B D_check_points
  have C_Bounds : Made P w K mg base 2 "Bounds" (He.ga K "Bounds") ["self", "n"] (sp_Bounds_init (He.ga K "Bounds")) := ⟨_, _, G34, mk_Bounds, gl_Bounds, b34⟩
  have G35 : FnOk P w K mg base CX0 1 _ _ ["self", "literals", "least"] (sp_take (He.ga K "Bounds")) := ok_take F35 cBo B
  have M_Bounds__take : MDef P w K mg base 1 (He.ga K "Bounds") "_take" ["self", "literals", "least"] (sp_take (He.ga K "Bounds")) := ⟨_, _, G35, cls_Bounds, m35, b35⟩
  have G36 : FnOk P w K mg base CX0 4 _ _ ["self"] (sp_copy (He.ga K "Bounds")) := ok_copy F36 cBo C_Bounds M_Bounds__take M_Bounds_size
  have M_Bounds_copy : MDef P w K mg base 4 (He.ga K "Bounds") "copy" ["self"] (sp_copy (He.ga K "Bounds")) := ⟨_, _, G36, cls_Bounds, m36, b36⟩
  have G37 : FnOk P w K mg base CX0 1 _ _ ["self", "points"] (sp_low (He.ga K "Bounds")) := ok_low F37 cBo B
  have M_Bounds__low : MDef P w K mg base 1 (He.ga K "Bounds") "_low" ["self", "points"] (sp_low (He.ga K "Bounds")) := ⟨_, _, G37, cls_Bounds, m37, b37⟩
  have G38 : FnOk P w K mg base CX0 2 _ _ ["self"] (sp_any_values (He.ga K "Bounds")) := ok_any_values F38 cBo B D_moved M_Bounds__low M_Bounds_size
  have M_Bounds_any_values : MDef P w K mg base 2 (He.ga K "Bounds") "any_values" ["self"] (sp_any_values (He.ga K "Bounds")) := ⟨_, _, G38, cls_Bounds, m38, b38⟩
  have G39 : FnOk P w K mg base CX0 4 _ _ ["n", "clauses", "values"] sp_solves := ok_solves F39 B D_check_clauses D_satisfies
  have D_solves : Def P w K mg base 4 "solves" ["n", "clauses", "values"] sp_solves := ⟨_, _, G39, g39, F39.kp, b39⟩
  have G40 : FnOk P w K mg base CX0 2 _ _ ["bounds", "literal"] (sp_is_refuted (He.ga K "Bounds")) := ok_is_refuted F40 M_Bounds_bound
  have D_is_refuted : Def P w K mg base 2 "is_refuted" ["bounds", "literal"] (sp_is_refuted (He.ga K "Bounds")) := ⟨_, _, G40, g40, F40.kp, b40⟩
  have G41 : FnOk P w K mg base CX0 2 _ _ ["bounds", "literal"] (sp_is_implied (He.ga K "Bounds")) := ok_is_implied F41 M_Bounds_bound
  have D_is_implied : Def P w K mg base 2 "is_implied" ["bounds", "literal"] (sp_is_implied (He.ga K "Bounds")) := ⟨_, _, G41, g41, F41.kp, b41⟩
  have G42 : FnOk P w K mg base CX0 4 _ _ ["bounds", "literal"] (sp_keep (He.ga K "Bounds")) := ok_keep F42 M_Bounds_add
  have D_keep : Def P w K mg base 4 "keep" ["bounds", "literal"] (sp_keep (He.ga K "Bounds")) := ⟨_, _, G42, g42, F42.kp, b42⟩
  have G43 : FnOk P w K mg base CX0 3 _ _ ["self", "bounds", "waiting"] (sp_sift (He.ga K "Search") (He.ga K "Bounds")) := ok_sift F43 cSe B D_is_implied D_is_refuted
  have M_Search_sift : MDef P w K mg base 3 (He.ga K "Search") "sift" ["self", "bounds", "waiting"] (sp_sift (He.ga K "Search") (He.ga K "Bounds")) := ⟨_, _, G43, cls_Search, m43, b43⟩
  have G44 : FnOk P w K mg base CX0 4 _ _ ["self", "literals", "k", "parts"] (sp_refuted (He.ga K "Search")) := ok_refuted F44 cSe B D_find_ring
  have M_Search_refuted : MDef P w K mg base 4 (He.ga K "Search") "refuted" ["self", "literals", "k", "parts"] (sp_refuted (He.ga K "Search")) := ⟨_, _, G44, cls_Search, m44, b44⟩
  have G45 : FnOk P w K mg base CX0 1 _ _ ["self", "k", "parts"] (sp_cases (He.ga K "Search")) := ok_cases F45 cSe B
  have M_Search_cases : MDef P w K mg base 1 (He.ga K "Search") "cases" ["self", "k", "parts"] (sp_cases (He.ga K "Search")) := ⟨_, _, G45, cls_Search, m45, b45⟩
  have G46 : FnOk P w K mg base CX0 1 _ _ ["self", "bounds", "steps", "best", "others"] (sp_Place_init (He.ga K "Place")) := ok_Place_init F46 cSe
  have C_Place : Made P w K mg base 1 "Place" (He.ga K "Place") ["self", "bounds", "steps", "best", "others"] (sp_Place_init (He.ga K "Place")) := ⟨_, _, G46, mk_Place, gl_Place, b46⟩
  have G47 : FnOk P w K mg base CX0 2 _ _ ["self", "n", "clauses"] (sp_Search_init (He.ga K "Search")) := ok_Search_init F47 cSe D_single
  have C_Search : Made P w K mg base 2 "Search" (He.ga K "Search") ["self", "n", "clauses"] (sp_Search_init (He.ga K "Search")) := ⟨_, _, G47, mk_Search, gl_Search, b47⟩
  have G48 : FnOk P w K mg base CX0 5 _ _ ["self", "bounds", "waiting"] (sp_enter (He.ga K "Search") (He.ga K "Place") (He.ga K "Bounds")) := ok_enter F48 cSe B C_Place D_keep M_Bounds_literals M_Search_sift
  have M_Search_enter : MDef P w K mg base 5 (He.ga K "Search") "enter" ["self", "bounds", "waiting"] (sp_enter (He.ga K "Search") (He.ga K "Place") (He.ga K "Bounds")) := ⟨_, _, G48, cls_Search, m48, b48⟩
  have G49 : FnOk P w K mg base CX0 5 _ _ ["self", "place", "part"] (sp_behind (He.ga K "Search") (He.ga K "Place") (He.ga K "Bounds")) := ok_behind F49 cSe M_Bounds_literals M_Search_cases M_Search_refuted
  have M_Search_behind : MDef P w K mg base 5 (He.ga K "Search") "behind" ["self", "place", "part"] (sp_behind (He.ga K "Search") (He.ga K "Place") (He.ga K "Bounds")) := ⟨_, _, G49, cls_Search, m49, b49⟩
  have G50 : FnOk P w K mg base CX0 5 _ _ ["self", "place"] (sp_finish (He.ga K "Search") (He.ga K "Place") (He.ga K "Bounds")) := ok_finish F50 cSe M_Bounds_literals M_Search_cases M_Search_refuted
  have M_Search_finish : MDef P w K mg base 5 (He.ga K "Search") "finish" ["self", "place"] (sp_finish (He.ga K "Search") (He.ga K "Place") (He.ga K "Bounds")) := ⟨_, _, G50, cls_Search, m50, b50⟩
  have G51 : FnOk P w K mg base CX0 6 _ _ ["self", "part"] (sp_close (He.ga K "Search") (He.ga K "Place") (He.ga K "Bounds")) := ok_close F51 cSe B M_Search_behind M_Search_finish
  have M_Search_close : MDef P w K mg base 6 (He.ga K "Search") "close" ["self", "part"] (sp_close (He.ga K "Search") (He.ga K "Place") (He.ga K "Bounds")) := ⟨_, _, G51, cls_Search, m51, b51⟩
  have G52 : FnOk P w K mg base CX0 7 _ _ ["self", "bounds", "waiting"] (sp_run (He.ga K "Search") (He.ga K "Place") (He.ga K "Bounds")) := ok_run F52 cSe B D_keep M_Bounds_any_values M_Bounds_copy M_Search_behind M_Search_close M_Search_enter M_Search_finish
  have M_Search_run : MDef P w K mg base 7 (He.ga K "Search") "run" ["self", "bounds", "waiting"] (sp_run (He.ga K "Search") (He.ga K "Place") (He.ga K "Bounds")) := ⟨_, _, G52, cls_Search, m52, b52⟩
  have G53 : FnOk P w K mg base CX0 8 _ _ ["n", "clauses"] sp_solve := ok_solve F53 cSe B C_Bounds C_Search D_check_clauses D_find_ring D_keep M_Bounds_literals M_Search_run
  have D_solve : Def P w K mg base 8 "solve" ["n", "clauses"] sp_solve := ⟨_, _, G53, g53, F53.kp, b53⟩
  have G54 : FnOk P w K mg base CX0 1 _ _ ["_law_script", "_law_many"] (sp__law_numbers K) := ok__law_numbers F54 B
  have D__law_numbers : Def P w K mg base 1 "_law_numbers" ["_law_script", "_law_many"] (sp__law_numbers K) := ⟨_, _, G54, g54, F54.kp, b54⟩
  have G55 : FnOk P w K mg base CX0 1 _ _ ["_law_numbers_here", "_law_at", "_law_n", "_law_count", "_law_size"] sp__law_clauses := ok__law_clauses F55 B
  have D__law_clauses : Def P w K mg base 1 "_law_clauses" ["_law_numbers_here", "_law_at", "_law_n", "_law_count", "_law_size"] sp__law_clauses := ⟨_, _, G55, g55, F55.kp, b55⟩
  have G56 : FnOk P w K mg base CX0 9 _ _ ["_law_n", "_law_clauses_here", "_law_paper_here"] sp__law_paper := ok__law_paper F56 D_check_paper D_is_ring D_rings_of D_solve D_trimmed D_used_clauses
  have D__law_paper : Def P w K mg base 9 "_law_paper" ["_law_n", "_law_clauses_here", "_law_paper_here"] sp__law_paper := ⟨_, _, G56, g56, F56.kp, b56⟩
  have G57 : FnOk P w K mg base CX0 10 _ _ ["_law_script"] (sp_law K) := ok_law F57 B D__law_clauses D__law_numbers D__law_paper D_check_paper D_solve D_solves
  exact G57
end D7
set_option maxHeartbeats 0
/-! D7, the end, part 2: the top run, the law. -/
namespace D7
open PySem PySem.Spec PyProof.Rows L2
def looseA : List Str := ["_wall", "DiesError", "NotAllowed", "MAX_POINTS", "check_points", "check_point", "check_literals", "satisfies", "is_ring", "find_ring", "ring_at", "ring_from", "MAX_CLAUSES", "MAX_DEPTH", "check_clauses", "single", "is_literal", "is_ring_paper", "is_paper", "depth_of", "is_accepted"]
def looseB : List Str := ["check_paper", "need_accepted", "rings_of", "used_by", "used_clauses", "Open", "Trimmer", "trimmed", "joined", "is_less", "moved", "Bounds", "solves", "is_refuted", "is_implied", "keep", "Place", "Search", "solve", "_law_numbers", "_law_clauses", "_law_paper"]
def loose : List Str := looseA ++ looseB
abbrev rowO : PySem.W.OpenRow := PySem.W.OpenLaw.row PySem.Challenge.rw_diesnon_k37_whole_used_clauses_suffice
abbrev hook : PySem.W.Hook := He.hookE 5 faA fnA
def seen (s : PySem.W.SharedT) : He.Al := He.obsG 5 faA fnA (HandSHeadRun.getT s)
theorem seen_eq (s : PySem.W.SharedT) : seen s = hook.obs s.abs := He.obsG_eq (HandSHeadRun.getT_eq s)
theorem runs (w : World) : HandSHeadRun.RunEq rowO (PySem.W.view rowO.prog [49]) hook seen 4000 loose w := by
  intro os
  kernel_rfl
end D7
set_option maxHeartbeats 0
open PySem PySem.W PySem.Calls PyProof.Rows in
theorem PySem.Challenge.cw_diesnon_k37_whole_used_clauses_suffice_holds : PySem.Challenge.rw_diesnon_k37_whole_used_clauses_suffice.Holds := by
  w_on; o_law
  refine HandSHeadRun.head_any (r := D7.rowO) (q := view D7.rowO.prog [49]) (H := D7.hook) (ob := D7.seen) (M := 4000) (loose := D7.loose) (d := HandSHeadRun.topDef D7.rowO.prog 49) (kwd := []) D7.seen_eq
    (by kernel_rfl) (fun s => by kernel_rfl) D7.runs (by kernel_rfl) (by kernel_rfl) (by kernel_rfl) (by rfl) (by first | assumption | decide +kernel) (by decide +kernel) ⟨rfl, rfl, rfl, rfl, rfl, by decide +kernel⟩ ?hw ?hc
  case hw => w_witness2
  case hc =>
    refine L2.walk_ofE (l := PySem.Challenge.rw_diesnon_k37_whole_used_clauses_suffice) (n := 63) (k := 10) (x := "_law_script") (CX := L2.CX0) rfl (by decide) (by kernel_rfl) ⟨rfl, by decide, by decide⟩ ?F (fun _ _ _ _ z => z)
    intro w mg fa h Y G hmg0
    obtain ⟨K, KX, c⟩ := Y
    have hmg : mg ("law" : PySem.Str) = some (.ref fa) := by
      have e : (HandSHeadRun.topDef D7.rowO.prog 49).name = ("law" : PySem.Str) := by kernel_rfl
      rw [← e]
      exact hmg0
    obtain ⟨fd, hb, hF⟩ := D7.facts (P := (PySem.Challenge.rw_diesnon_k37_whole_used_clauses_suffice).prog) (w := w) KX G hmg c
    exact ⟨K, fd, D7.sp_law K, KX, hb, fun H a ns hl _ hS => ⟨a, ns, rfl, hS, hl, fun _ => rfl⟩, hF⟩
