import PyProof.Rows.All
import Wide.All
import OpenK.AllK
import Wide.FinOn
import HandS.ForMost
import HandS.Exc
import HandS.ExcInit
import HandS.ExcField
import KE.RegKSuper
import KE.KExcSuper
import HandS.Walk
import HandS.Zip
import HandS.Style
import HandS.Wide
import HandS.IsInst
import HandS.Strs
import KE.DataMinMax
import KE.SortData
import KE.DatumOrd
import PyProof.Draws
import PyProof.EnumMake
import PyProof.StrOps2
import HandS.TupSets
import HandS.ForExc
import HandS.Deep
import HandS.Set
import KE.KEqSeq
import PyProof.TupleIter
import KE.GoesMore
import PySem.Challenge.RW_tasksapart_k34_whole_braces_grown_from_t
import HandS.ReHeld
set_option autoImplicit true
set_option autoImplicit false
set_option linter.all false
/-! k34, plain: the groups of a text, what stands for them, and texts grown from trees -/
namespace K34
abbrev Tx := List Nat
abbrev Gp := Nat × Nat × List Nat

/-- the groups with commas of a text, as they close: k the place, S the open braces, the last one first -/
def grp : Nat → List (Nat × List Nat) → Tx → List Gp
  | _, _, [] => []
  | k, S, c :: r =>
    if c = 123 then grp (k + 1) ((k, []) :: S) r
    else match S with
      | [] => grp (k + 1) [] r
      | (b, cs) :: S' =>
        if c = 44 then grp (k + 1) ((b, cs ++ [k]) :: S') r
        else if c = 125 then (if cs = [] then [] else [(b, k, cs)]) ++ grp (k + 1) S' r
        else grp (k + 1) ((b, cs) :: S') r

def cutT (t : Tx) (a b : Nat) : Tx := (t.drop a).take (b - a)
def piece (t : Tx) (b e one other : Nat) : Tx := t.take b ++ cutT t (one + 1) other ++ t.drop (e + 1)
/-- the texts in the place of a group -/
def rep (t : Tx) (g : Gp) : List Tx := List.zipWith (piece t g.1 g.2.1) (g.1 :: g.2.2 ++ [g.2.1]) (g.2.2 ++ [g.2.1])

def least : Gp → List Gp → Gp
  | g, [] => g
  | g, x :: xs => least (if x.1 < g.1 then x else g) xs
def minG : List Gp → Option Gp
  | [] => none
  | g :: gs => some (least g gs)

def LT : Nat := 100000
/-- what braced does: the texts that wait (the next one first), those that are found; none where the steps are used up or something is too long -/
def brac : Nat → List Tx → List Tx → Option (Option (List Tx))
  | 0, _, _ => none
  | _ + 1, [], found => some (some found)
  | n + 1, t :: S, found =>
    if LT < t.length ∨ LT < S.length then none
    else match minG (grp 0 [] t) with
      | none => if found.length < 200 then brac n S (found ++ [t]) else some none
      | some g => brac n (rep t g ++ S) found

/-! ### rows -/
def prod (s r : List Tx) : List Tx := s.flatMap fun a => r.map fun b => a ++ b
def wrap (a : Tx) : Tx := 123 :: (a ++ [125])
inductive G : Bool → Tx → List Tx → Prop
  | nil : G false [] [[]]
  | ch {c : Nat} {t : Tx} {s : List Tx} : c ≠ 123 → c ≠ 44 → c ≠ 125 → G false t s → G false (c :: t) (s.map fun a => c :: a)
  | pr {q t : Tx} {sq s : List Tx} : G false q sq → G false t s → G false (123 :: (q ++ 125 :: t)) (prod (sq.map wrap) s)
  | gp {q p t : Tx} {sq sp s : List Tx} : G false q sq → G true p sp → G false t s → G false (123 :: (q ++ 44 :: (p ++ 125 :: t))) (prod (sq ++ sp) s)
  | one {q : Tx} {sq : List Tx} : G false q sq → G true q sq
  | more {q p : Tx} {sq sp : List Tx} : G false q sq → G true p sp → G true (q ++ 44 :: p) (sq ++ sp)

theorem prod_nil_left (r : List Tx) : prod [] r = [] := rfl
theorem prod_cons (a : Tx) (s r : List Tx) : prod (a :: s) r = (r.map fun b => a ++ b) ++ prod s r := by simp [prod]
theorem prod_append (s s' r : List Tx) : prod (s ++ s') r = prod s r ++ prod s' r := by simp [prod]
theorem prod_one_nil (r : List Tx) : prod [[]] r = r := by simp [prod]
theorem prod_map_left (f : Tx → Tx) (hf : ∀ a b, f (a ++ b) = f a ++ b) (s r : List Tx) : prod (s.map f) r = (prod s r).map f := by
  induction s with
  | nil => rfl
  | cons a s ih => rw [List.map_cons, prod_cons, prod_cons, ih, List.map_append, List.map_map]; simp [hf, Function.comp_def]
theorem prod_assoc (s r u : List Tx) : prod (prod s r) u = prod s (prod r u) := by
  induction s with
  | nil => rfl
  | cons a s ih =>
    rw [prod_cons, prod_append, prod_cons, ih]
    congr 1
    exact prod_map_left (fun b => a ++ b) (fun b c => by simp) r u
theorem prod_flatten (ss : List (List Tx)) (r : List Tx) : prod ss.flatten r = (ss.map fun s => prod s r).flatten := by
  induction ss with
  | nil => rfl
  | cons s ss ih => rw [List.flatten_cons, prod_append, ih]; simp
theorem prod_length (s r : List Tx) : (prod s r).length = s.length * r.length := by
  induction s with
  | nil => simp [prod]
  | cons a s ih => rw [prod_cons, List.length_append, ih, List.length_map, List.length_cons, Nat.succ_mul, Nat.add_comm]

theorem G.app {b : Bool} {t : Tx} {s : List Tx} (h : G b t s) : b = false → ∀ {t' : Tx} {s' : List Tx}, G false t' s' → G false (t ++ t') (prod s s') := by
  induction h with
  | nil => intro _ t' s' h'; rw [prod_one_nil]; exact h'
  | ch h1 h2 h3 _ ih =>
    intro e t' s' h'
    rw [prod_map_left _ (fun _ _ => rfl)]
    exact G.ch h1 h2 h3 (ih rfl h')
  | pr hq _ _ iht =>
    intro e t' s' h'
    rw [prod_assoc]
    have := G.pr hq (iht rfl h')
    simpa using this
  | gp hq hp _ _ _ iht =>
    intro e t' s' h'
    rw [prod_assoc]
    have := G.gp hq hp (iht rfl h')
    simpa using this
  | one _ _ => intro e; cases e
  | more _ _ _ _ => intro e; cases e
theorem G.apps {t t' : Tx} {s s' : List Tx} (h : G false t s) (h' : G false t' s') : G false (t ++ t') (prod s s') := h.app rfl h'
def plainT (t : Tx) : Prop := ∀ c ∈ t, c ≠ 123 ∧ c ≠ 44 ∧ c ≠ 125
theorem G.plain : ∀ {t : Tx}, plainT t → G false t [t]
  | [], _ => .nil
  | c :: t, h => by
    have h1 := h c (by simp)
    have := G.ch h1.1 h1.2.1 h1.2.2 (G.plain (t := t) fun d hd => h d (by simp [hd]))
    simpa using this
theorem G.pos {b : Bool} {t : Tx} {s : List Tx} (h : G b t s) : 0 < s.length := by
  induction h with
  | nil => simp
  | ch _ _ _ _ ih => simpa using ih
  | pr _ _ ih1 ih2 => rw [prod_length, List.length_map]; exact Nat.mul_pos ih1 ih2
  | gp _ _ _ ih1 ih2 ih3 => rw [prod_length, List.length_append]; exact Nat.mul_pos (by omega) ih3
  | one _ ih => exact ih
  | more _ _ ih1 _ => rw [List.length_append]; omega

/-! ### the machine over rows -/
theorem grp_open (k : Nat) (S : List (Nat × List Nat)) (r : Tx) : grp k S (123 :: r) = grp (k + 1) ((k, []) :: S) r := by
  cases S <;> simp [grp]
theorem grp_ch {c : Nat} (h1 : c ≠ 123) (h2 : c ≠ 44) (h3 : c ≠ 125) (k : Nat) (S : List (Nat × List Nat)) (r : Tx) : grp k S (c :: r) = grp (k + 1) S r := by
  cases S with
  | nil => simp [grp, h1]
  | cons x S => obtain ⟨b, cs⟩ := x; simp [grp, h1, h2, h3]
theorem grp_comma (k b : Nat) (cs : List Nat) (S : List (Nat × List Nat)) (r : Tx) : grp k ((b, cs) :: S) (44 :: r) = grp (k + 1) ((b, cs ++ [k]) :: S) r := by
  simp [grp]
theorem grp_close (k b : Nat) (cs : List Nat) (S : List (Nat × List Nat)) (r : Tx) :
    grp k ((b, cs) :: S) (125 :: r) = (if cs = [] then [] else [(b, k, cs)]) ++ grp (k + 1) S r := by simp [grp]

def joinC : List Tx → Tx
  | [] => []
  | [q] => q
  | q :: q' :: qs => q ++ 44 :: joinC (q' :: qs)
def commas : Nat → List Tx → List Nat
  | _, [] => []
  | _, [_] => []
  | k, q :: q' :: qs => (k + q.length) :: commas (k + q.length + 1) (q' :: qs)
theorem joinC_cons (q : Tx) {qs : List Tx} (h : qs ≠ []) : joinC (q :: qs) = q ++ 44 :: joinC qs := by
  cases qs with
  | nil => exact absurd rfl h
  | cons _ _ => rfl
theorem commas_cons (k : Nat) (q : Tx) {qs : List Tx} (h : qs ≠ []) : commas k (q :: qs) = (k + q.length) :: commas (k + q.length + 1) qs := by
  cases qs with
  | nil => exact absurd rfl h
  | cons _ _ => rfl

/-- pairs that go together -/
inductive All2 {α β : Type} (R : α → β → Prop) : List α → List β → Prop
  | nil : All2 R [] []
  | cons {a : α} {b : β} {l : List α} {m : List β} : R a b → All2 R l m → All2 R (a :: l) (b :: m)
theorem All2.length {α β : Type} {R : α → β → Prop} {l : List α} {m : List β} (h : All2 R l m) : l.length = m.length := by
  induction h with
  | nil => rfl
  | cons _ _ ih => simp [ih]
theorem All2.map {α β γ δ : Type} {R : α → β → Prop} {R' : γ → δ → Prop} {f : α → γ} {g : β → δ} (hf : ∀ a b, R a b → R' (f a) (g b)) {l : List α} {m : List β} (h : All2 R l m) : All2 R' (l.map f) (m.map g) := by
  induction h with
  | nil => exact .nil
  | cons h _ ih => exact .cons (hf _ _ h) ih
theorem All2.app {α β : Type} {R : α → β → Prop} {l l' : List α} {m m' : List β} (h : All2 R l m) (h' : All2 R l' m') : All2 R (l ++ l') (m ++ m') := by
  induction h with
  | nil => exact h'
  | cons h _ ih => exact .cons h ih

/-- parts, one by one -/
theorem G.parts {b : Bool} {p : Tx} {sp : List Tx} (h : G b p sp) : b = true → ∃ qs sqs, qs ≠ [] ∧ p = joinC qs ∧ All2 (G false) qs sqs ∧ sp = sqs.flatten := by
  induction h with
  | nil => intro e; cases e
  | ch => intro e; cases e
  | pr => intro e; cases e
  | gp => intro e; cases e
  | @one q sq hq _ => intro _; exact ⟨[q], [sq], by simp, rfl, .cons hq .nil, by simp⟩
  | @more q p sq sp hq _ _ ih =>
    intro _
    obtain ⟨qs, sqs, hne, e1, h2, e2⟩ := ih rfl
    exact ⟨q :: qs, sq :: sqs, by simp, by rw [joinC_cons _ hne, e1], .cons hq h2, by rw [e2]; rfl⟩

theorem G.inv {t : Tx} {s : List Tx} (h : G false t s) :
    (t = [] ∧ s = [[]]) ∨
    (∃ c t' s', c ≠ 123 ∧ c ≠ 44 ∧ c ≠ 125 ∧ G false t' s' ∧ t = c :: t' ∧ s = s'.map fun a => c :: a) ∨
    (∃ q sq t' s', G false q sq ∧ G false t' s' ∧ t = 123 :: (q ++ 125 :: t') ∧ s = prod (sq.map wrap) s') ∨
    (∃ qs sqs t' s', 2 ≤ qs.length ∧ All2 (G false) qs sqs ∧ G false t' s' ∧ t = 123 :: (joinC qs ++ 125 :: t') ∧ s = prod sqs.flatten s') := by
  cases h with
  | nil => exact .inl ⟨rfl, rfl⟩
  | ch h1 h2 h3 h => exact .inr (.inl ⟨_, _, _, h1, h2, h3, h, rfl, rfl⟩)
  | pr h1 h2 => exact .inr (.inr (.inl ⟨_, _, _, _, h1, h2, rfl, rfl⟩))
  | @gp q p t sq sp s h1 h2 h3 =>
    obtain ⟨qs, sqs, hne, e1, h4, e2⟩ := h2.parts rfl
    refine .inr (.inr (.inr ⟨q :: qs, sq :: sqs, t, s, ?_, .cons h1 h4, h3, ?_, ?_⟩))
    · cases qs with
      | nil => exact absurd rfl hne
      | cons _ _ => simp
    · rw [joinC_cons _ hne, e1]; simp
    · rw [e2]; rfl

/-- what is known of a row's own groups -/
def Runs (t : Tx) : Prop := (∀ k S r, grp k S (t ++ r) = grp k [] t ++ grp (k + t.length) S r) ∧ ∀ k g, g ∈ grp k [] t → k ≤ g.1 ∧ g.1 < k + t.length
def inner : Nat → List Tx → List Gp
  | _, [] => []
  | k, q :: qs => grp k [] q ++ inner (k + q.length + 1) qs
theorem joinC_len (q : Tx) (qs : List Tx) : q.length ≤ (joinC (q :: qs)).length := by
  cases qs with
  | nil => exact Nat.le_refl _
  | cons a l => rw [joinC_cons _ (by simp), List.length_append]; omega
theorem joinC_mem : ∀ (qs : List Tx) (q : Tx), q ∈ qs → q.length + qs.length ≤ (joinC qs).length + 1
  | [], q, h => by simp at h
  | [a], q, h => by
    have : q = a := by simpa using h
    subst this
    simp [joinC]
  | a :: b :: l, q, h => by
    have ih := joinC_mem (b :: l)
    rw [joinC_cons _ (by simp), List.length_append, List.length_cons]
    rcases List.mem_cons.mp h with rfl | h
    · have := ih b (by simp)
      simp only [List.length_cons] at this ⊢
      omega
    · have := ih q h
      simp only [List.length_cons] at this ⊢
      omega
theorem runs_parts : ∀ (qs : List Tx), qs ≠ [] → (∀ q ∈ qs, Runs q) → ∀ (k o : Nat) (cs : List Nat) (S : List (Nat × List Nat)) (r : Tx),
    grp k ((o, cs) :: S) (joinC qs ++ r) = inner k qs ++ grp (k + (joinC qs).length) ((o, cs ++ commas k qs) :: S) r
  | [], hne, _, _, _, _, _, _ => absurd rfl hne
  | [q], _, h, k, o, cs, S, r => by
    rw [show joinC [q] = q from rfl, (h q (by simp)).1]
    simp [inner, commas]
  | q :: q' :: qs, _, h, k, o, cs, S, r => by
    have ih := runs_parts (q' :: qs) (by simp) (fun x hx => h x (by simp [List.mem_cons.mp hx])) (k + q.length + 1) o (cs ++ [k + q.length]) S r
    rw [joinC_cons q (qs := q' :: qs) (by simp), List.append_assoc, (h q (by simp)).1, List.cons_append, grp_comma, ih, commas_cons k q (qs := q' :: qs) (by simp),
      show inner k (q :: q' :: qs) = grp k [] q ++ inner (k + q.length + 1) (q' :: qs) from rfl, List.append_assoc]
    simp only [List.append_assoc, List.length_append, List.length_cons, List.singleton_append]
    rw [show k + (q.length + ((joinC (q' :: qs)).length + 1)) = k + q.length + 1 + (joinC (q' :: qs)).length by omega]
theorem inner_ge : ∀ (qs : List Tx), (∀ q ∈ qs, Runs q) → ∀ k g, g ∈ inner k qs → k ≤ g.1 ∧ g.1 < k + (joinC qs).length
  | [], _, k, g, hg => by simp [inner] at hg
  | q :: qs, h, k, g, hg => by
    rw [inner, List.mem_append] at hg
    rcases hg with hg | hg
    · have h1 := (h q (by simp)).2 k g hg
      have := joinC_len q qs
      omega
    · have h1 := inner_ge qs (fun x hx => h x (by simp [hx])) _ g hg
      have hne : qs ≠ [] := fun e => by subst e; simp [inner] at hg
      rw [joinC_cons _ hne, List.length_append, List.length_cons]
      omega
theorem All2.left {α β : Type} {R : α → β → Prop} {l : List α} {m : List β} (h : All2 R l m) : ∀ a ∈ l, ∃ b, R a b := by
  induction h with
  | nil => intro a ha; simp at ha
  | cons h _ ih =>
    intro a ha
    rcases List.mem_cons.mp ha with rfl | ha
    · exact ⟨_, h⟩
    · exact ih a ha
theorem commas_ne : ∀ (k : Nat) (qs : List Tx), 2 ≤ qs.length → commas k qs ≠ []
  | _, [], h => by simp at h
  | _, [_], h => by simp at h
  | _, _ :: _ :: _, _ => by simp [commas]

/-- a group written out in its machine -/
theorem grp_group {qs : List Tx} {t : Tx} (h2 : 2 ≤ qs.length) (hq : ∀ q ∈ qs, Runs q) (k : Nat) (S : List (Nat × List Nat)) (r : Tx) :
    grp k S (123 :: (joinC qs ++ 125 :: t) ++ r) = inner (k + 1) qs ++ (k, k + 1 + (joinC qs).length, commas (k + 1) qs) :: grp (k + 1 + (joinC qs).length + 1) S (t ++ r) := by
  have hne : qs ≠ [] := by rintro rfl; simp at h2
  rw [show 123 :: (joinC qs ++ 125 :: t) ++ r = 123 :: (joinC qs ++ (125 :: (t ++ r))) by simp, grp_open, runs_parts qs hne hq, List.nil_append, grp_close, if_neg (commas_ne _ _ h2)]
  rfl
theorem grp_pair {q : Tx} {t : Tx} (hq : Runs q) (k : Nat) (S : List (Nat × List Nat)) (r : Tx) :
    grp k S (123 :: (q ++ 125 :: t) ++ r) = grp (k + 1) [] q ++ grp (k + 1 + q.length + 1) S (t ++ r) := by
  rw [show 123 :: (q ++ 125 :: t) ++ r = 123 :: (q ++ (125 :: (t ++ r))) by simp, grp_open, hq.1, grp_close, if_pos rfl, List.nil_append]

/-- a row leaves the open braces as they are; its groups stand in its own place -/
theorem G.runs : ∀ (n : Nat) {t : Tx} {s : List Tx}, t.length ≤ n → G false t s → Runs t := by
  intro n
  induction n with
  | zero =>
    intro t s hl h
    have : t = [] := List.eq_nil_of_length_eq_zero (by omega)
    subst this
    exact ⟨fun k S r => by simp [grp], fun k g hg => by simp [grp] at hg⟩
  | succ n ih =>
    intro t s hl h
    rcases h.inv with ⟨rfl, _⟩ | ⟨c, t', s', h1, h2, h3, h', rfl, _⟩ | ⟨q, sq, t', s', hq, h', rfl, _⟩ | ⟨qs, sqs, t', s', h2, hqs, h', rfl, _⟩
    · exact ⟨fun k S r => by simp [grp], fun k g hg => by simp [grp] at hg⟩
    · have R := ih (by simp at hl; omega) h'
      refine ⟨fun k S r => ?_, fun k g hg => ?_⟩
      · rw [List.cons_append, grp_ch h1 h2 h3, grp_ch h1 h2 h3, R.1, List.length_cons, show k + (t'.length + 1) = k + 1 + t'.length by omega]
      · rw [grp_ch h1 h2 h3] at hg
        have := R.2 (k + 1) g hg
        rw [List.length_cons]
        omega
    · simp only [List.length_cons, List.length_append] at hl
      have Rq := ih (by omega) hq
      have R := ih (by omega) h'
      have own : ∀ k, grp k [] (123 :: (q ++ 125 :: t')) = grp (k + 1) [] q ++ grp (k + 1 + q.length + 1) [] t' := by
        intro k
        have := grp_pair (t := t') Rq k [] []
        rwa [List.append_nil, List.append_nil] at this
      refine ⟨fun k S r => ?_, fun k g hg => ?_⟩
      · rw [grp_pair Rq, own, R.1, List.append_assoc]
        simp only [List.length_cons, List.length_append]
        rw [show k + (q.length + (t'.length + 1) + 1) = k + 1 + q.length + 1 + t'.length by omega]
      · rw [own, List.mem_append] at hg
        simp only [List.length_cons, List.length_append]
        rcases hg with hg | hg
        · have := Rq.2 _ g hg; omega
        · have := R.2 _ g hg; omega
    · have hlen := joinC_mem qs
      simp only [List.length_cons, List.length_append] at hl
      have Rq : ∀ q ∈ qs, Runs q := fun q hq => by
        obtain ⟨sq, hg⟩ := hqs.left q hq
        have := hlen q hq
        exact ih (by omega) hg
      have R := ih (by omega) h'
      have own : ∀ k, grp k [] (123 :: (joinC qs ++ 125 :: t')) = inner (k + 1) qs ++ (k, k + 1 + (joinC qs).length, commas (k + 1) qs) :: grp (k + 1 + (joinC qs).length + 1) [] t' := by
        intro k
        have := grp_group (t := t') h2 Rq k [] []
        rwa [List.append_nil, List.append_nil] at this
      refine ⟨fun k S r => ?_, fun k g hg => ?_⟩
      · rw [grp_group h2 Rq, own, R.1, List.append_assoc, List.cons_append]
        simp only [List.length_cons, List.length_append]
        rw [show k + ((joinC qs).length + (t'.length + 1) + 1) = k + 1 + (joinC qs).length + 1 + t'.length by omega]
      · rw [own, List.mem_append, List.mem_cons] at hg
        simp only [List.length_cons, List.length_append]
        rcases hg with hg | rfl | hg
        · have := inner_ge qs Rq _ g hg; omega
        · simp only; omega
        · have := R.2 _ g hg; omega
theorem G.rn {t : Tx} {s : List Tx} (h : G false t s) : Runs t := h.runs _ (Nat.le_refl _)

/-! ### the first group, and what stands for it -/
def sh (k : Nat) (g : Gp) : Gp := (g.1 + k, g.2.1 + k, g.2.2.map (· + k))
/-- g, told from the row's beginning, is the first group: ts are the rows in its place -/
structure First (t : Tx) (s : List Tx) (g : Gp) (ts : List Tx) (ss : List (List Tx)) : Prop where
  mem : ∀ k, sh k g ∈ grp k [] t
  min : ∀ k x, x ∈ grp k [] t → x = sh k g ∨ g.1 + k < x.1
  two : 2 ≤ ts.length
  put : rep t g = ts
  rows : All2 (G false) ts ss
  all : s = ss.flatten
  len : ∀ x ∈ ts, x.length + ts.length + 1 ≤ t.length
  end_ : g.2.1 < t.length ∧ g.1 ≤ g.2.1 ∧ ∀ c ∈ g.2.2, c < g.2.1

theorem piece_cons (c : Nat) (t : Tx) (b e one other : Nat) : piece (c :: t) (b + 1) (e + 1) (one + 1) (other + 1) = c :: piece t b e one other := by
  simp only [piece, cutT, List.take_succ_cons, List.drop_succ_cons, List.cons_append, List.cons.injEq, true_and]
  rw [show other + 1 - (one + 1 + 1) = other - (one + 1) by omega]
theorem piece_pre (P t : Tx) (b e one other : Nat) : piece (P ++ t) (b + P.length) (e + P.length) (one + P.length) (other + P.length) = P ++ piece t b e one other := by
  induction P with
  | nil => simp
  | cons c P ih =>
    simp only [List.cons_append, List.length_cons, ← Nat.add_assoc]
    rw [piece_cons, ih]
theorem zipWith_map {α β γ : Type} (f : β → β → γ) (m : α → β) : ∀ (l l' : List α), List.zipWith f (l.map m) (l'.map m) = List.zipWith (fun a b => f (m a) (m b)) l l'
  | [], _ => by simp
  | _ :: _, [] => by simp
  | a :: l, b :: l' => by simp [zipWith_map f m l l']
theorem zipWith_more {α β : Type} (f : α → α → β) : ∀ (l m l' : List α), l'.length ≤ l.length → List.zipWith f (l ++ m) l' = List.zipWith f l l'
  | [], _, l', h => by
    have : l' = [] := List.eq_nil_of_length_eq_zero (by simpa using h)
    subst this; simp
  | _ :: _, _, [], _ => by simp
  | a :: l, m, b :: l', h => by
    have := zipWith_more f l m l' (by simpa using h)
    simp [this]
theorem map_zipWith' {α β γ : Type} (f : α → α → β) (h : β → γ) : ∀ (l l' : List α), (List.zipWith f l l').map h = List.zipWith (fun a b => h (f a b)) l l'
  | [], _ => by simp
  | _ :: _, [] => by simp
  | a :: l, b :: l' => by simp [map_zipWith' f h l l']
theorem rep_pre (P t : Tx) (g : Gp) : rep (P ++ t) (sh P.length g) = (rep t g).map (P ++ ·) := by
  unfold rep sh
  simp only
  rw [show (g.1 + P.length) :: List.map (· + P.length) g.2.2 ++ [g.2.1 + P.length] = (g.1 :: g.2.2 ++ [g.2.1]).map (· + P.length) by simp,
    show List.map (· + P.length) g.2.2 ++ [g.2.1 + P.length] = (g.2.2 ++ [g.2.1]).map (· + P.length) by simp, zipWith_map, map_zipWith']
  congr 1
  funext a b
  exact piece_pre P t _ _ _ _
theorem zipWith_congr' {α β : Type} {f f' : α → α → β} : ∀ {l l' : List α}, (∀ a ∈ l, ∀ b ∈ l', f a b = f' a b) → List.zipWith f l l' = List.zipWith f' l l'
  | [], _, _ => by simp
  | _ :: _, [], _ => by simp
  | a :: l, b :: l', h => by
    simp only [List.zipWith_cons_cons]
    rw [h a (by simp) b (by simp), zipWith_congr' fun x hx y hy => h x (by simp [hx]) y (by simp [hy])]
theorem piece_suf {t U : Tx} {b e one other : Nat} (hb : b ≤ e) (he : e < t.length) (ho : other ≤ e) : piece (t ++ U) b e one other = piece t b e one other ++ U := by
  have e1 : (t ++ U).take b = t.take b := List.take_append_of_le_length (by omega)
  have e2 : (t ++ U).drop (e + 1) = t.drop (e + 1) ++ U := List.drop_append_of_le_length (by omega)
  have e3 : cutT (t ++ U) (one + 1) other = cutT t (one + 1) other := by
    unfold cutT
    by_cases h : one + 1 ≤ t.length
    · rw [List.drop_append_of_le_length h, List.take_append_of_le_length (by rw [List.length_drop]; omega)]
    · have : other - (one + 1) = 0 := by omega
      rw [this, List.take_zero, List.take_zero]
  unfold piece
  rw [e1, e2, e3, List.append_assoc, List.append_assoc, List.append_assoc]
theorem rep_suf {t U : Tx} {g : Gp} (hb : g.1 ≤ g.2.1) (he : g.2.1 < t.length) (hc : ∀ c ∈ g.2.2, c < g.2.1) : rep (t ++ U) g = (rep t g).map (· ++ U) := by
  unfold rep
  rw [map_zipWith']
  refine zipWith_congr' fun a _ c hc' => ?_
  refine piece_suf hb he ?_
  rcases List.mem_append.mp hc' with h | h
  · exact Nat.le_of_lt (hc c h)
  · rw [List.mem_singleton.mp h]; exact Nat.le_refl _
theorem sh_sh (a b : Nat) (g : Gp) : sh a (sh b g) = sh (b + a) g := by
  simp [sh, Nat.add_assoc]

/-- the cuts of a group give its parts -/
theorem cuts_parts : ∀ (qs : List Tx), qs ≠ [] → ∀ (T A B : Tx), T = A ++ joinC qs ++ B → 1 ≤ A.length →
    List.zipWith (fun one other => cutT T (one + 1) other) ((A.length - 1) :: commas A.length qs) (commas A.length qs ++ [A.length + (joinC qs).length]) = qs
  | [], h, _, _, _, _, _ => absurd rfl h
  | [q], _, T, A, B, e, h1 => by
    simp only [commas, List.nil_append, List.zipWith_cons_cons, List.zipWith_nil_left]
    rw [show A.length - 1 + 1 = A.length by omega, e]
    simp [cutT, joinC]
  | q :: q' :: qs, _, T, A, B, e, h1 => by
    have ih := cuts_parts (q' :: qs) (by simp) T (A ++ q ++ [44]) B (by rw [e, joinC_cons q (qs := q' :: qs) (by simp)]; simp) (by simp only [List.length_append, List.length_singleton]; omega)
    rw [commas_cons A.length q (qs := q' :: qs) (by simp), joinC_cons q (qs := q' :: qs) (by simp)]
    have e1 : (A ++ q ++ [44]).length = A.length + q.length + 1 := by simp only [List.length_append, List.length_singleton]
    rw [e1] at ih
    simp only [List.cons_append, List.zipWith_cons_cons, List.length_append, List.length_cons]
    rw [show A.length + q.length + 1 - 1 = A.length + q.length by omega] at ih
    rw [show A.length + (q.length + ((joinC (q' :: qs)).length + 1)) = A.length + q.length + 1 + (joinC (q' :: qs)).length by omega, ih]
    congr 1
    rw [show A.length - 1 + 1 = A.length by omega, e, joinC_cons q (qs := q' :: qs) (by simp)]
    simp [cutT]
theorem commas_bd : ∀ (qs : List Tx) (k c : Nat), c ∈ commas k qs → k ≤ c ∧ c < k + (joinC qs).length
  | [], _, _, h => by simp [commas] at h
  | [_], _, _, h => by simp [commas] at h
  | q :: q' :: qs, k, c, h => by
    rw [commas_cons _ _ (by simp), List.mem_cons] at h
    rw [joinC_cons _ (by simp), List.length_append, List.length_cons]
    rcases h with rfl | h
    · omega
    · have := commas_bd (q' :: qs) _ c h
      omega
theorem commas_sh (j : Nat) : ∀ (k : Nat) (qs : List Tx), commas (k + j) qs = (commas k qs).map (· + j)
  | _, [] => rfl
  | _, [_] => rfl
  | k, q :: q' :: qs => by
    have e1 : k + j + q.length = k + q.length + j := by omega
    have e2 : k + j + q.length + 1 = k + q.length + 1 + j := by omega
    rw [commas_cons (k + j) q (qs := q' :: qs) (by simp), commas_cons k q (qs := q' :: qs) (by simp), List.map_cons, e2, commas_sh j (k + q.length + 1) (q' :: qs), e1]

theorem First.under {t : Tx} {s : List Tx} {g : Gp} {ts : List Tx} {ss : List (List Tx)} (F : First t s g ts ss) (P : Tx)
    (hg : ∀ k, grp k [] (P ++ t) = grp (k + P.length) [] t) (hG : ∀ a b, G false a b → G false (P ++ a) (b.map (P ++ ·))) :
    First (P ++ t) (s.map (P ++ ·)) (sh P.length g) (ts.map (P ++ ·)) (ss.map fun x => x.map (P ++ ·)) where
  mem := fun k => by rw [hg, sh_sh, Nat.add_comm]; exact F.mem _
  min := fun k x hx => by
    rw [hg] at hx
    rcases F.min _ x hx with h | h
    · left; rw [h, sh_sh, Nat.add_comm]
    · right; simp only [sh]; omega
  two := by rw [List.length_map]; exact F.two
  put := by rw [rep_pre, F.put]
  rows := F.rows.map fun a b h => hG a b h
  all := by rw [F.all, List.map_flatten]
  len := fun x hx => by
    obtain ⟨y, hy, rfl⟩ := List.mem_map.mp hx
    have := F.len y hy
    rw [List.length_append, List.length_append, List.length_map]
    omega
  end_ := by
    obtain ⟨h1, h2, h3⟩ := F.end_
    refine ⟨by rw [List.length_append]; simp only [sh]; omega, by simp only [sh]; omega, fun c hc => ?_⟩
    simp only [sh] at hc ⊢
    obtain ⟨d, hd, rfl⟩ := List.mem_map.mp hc
    have := h3 d hd
    omega

theorem G.first : ∀ (n : Nat) {t : Tx} {s : List Tx}, t.length ≤ n → G false t s → ((∀ k, grp k [] t = []) ∧ s = [t]) ∨ ∃ g ts ss, First t s g ts ss := by
  intro n
  induction n with
  | zero =>
    intro t s hl h
    have : t = [] := List.eq_nil_of_length_eq_zero (by omega)
    subst this
    rcases h.inv with ⟨_, rfl⟩ | ⟨c, t', s', _, _, _, _, e, _⟩ | ⟨q, sq, t', s', _, _, e, _⟩ | ⟨qs, sqs, t', s', _, _, _, e, _⟩
    · exact .inl ⟨fun k => by simp [grp], rfl⟩
    · cases e
    · cases e
    · cases e
  | succ n ih =>
    intro t s hl h
    rcases h.inv with ⟨rfl, rfl⟩ | ⟨c, t', s', h1, h2, h3, h', rfl, rfl⟩ | ⟨q, sq, t', s', hq, h', rfl, rfl⟩ | ⟨qs, sqs, t', s', h2, hqs, h', rfl, rfl⟩
    · exact .inl ⟨fun k => by simp [grp], rfl⟩
    · rcases ih (by simp at hl; omega) h' with ⟨e1, e2⟩ | ⟨g, ts, ss, F⟩
      · exact .inl ⟨fun k => by rw [grp_ch h1 h2 h3]; exact e1 _, by rw [e2]; rfl⟩
      · exact .inr ⟨_, _, _, F.under [c] (fun k => by rw [List.singleton_append, grp_ch h1 h2 h3]; rfl) (fun a b hab => by simpa using G.ch h1 h2 h3 hab)⟩
    · simp only [List.length_cons, List.length_append] at hl
      have Rq := hq.rn
      have own : ∀ k, grp k [] (123 :: (q ++ 125 :: t')) = grp (k + 1) [] q ++ grp (k + 1 + q.length + 1) [] t' := by
        intro k
        have := grp_pair (t := t') Rq k [] []
        rwa [List.append_nil, List.append_nil] at this
      rcases ih (by omega) hq with ⟨e1, e2⟩ | ⟨g, ts, ss, F⟩
      · subst e2
        have eP : ∀ a : Tx, 123 :: (q ++ 125 :: a) = wrap q ++ a := fun a => by simp [wrap]
        have es : ∀ b : List Tx, prod ([q].map wrap) b = b.map (wrap q ++ ·) := fun b => by simp [prod]
        have hw : ∀ k a, Runs q → grp k [] (wrap q ++ a) = grp (k + (wrap q).length) [] a := fun k a _ => by
          have := grp_pair (t := a) Rq k [] []
          rw [List.append_nil, List.append_nil, e1, List.nil_append, eP] at this
          rw [this]
          congr 1
          simp [wrap]; omega
        rcases ih (by omega) h' with ⟨e3, e4⟩ | ⟨g, ts, ss, F⟩
        · refine .inl ⟨fun k => by rw [own, e1, e3]; rfl, by rw [es, e4, eP]; rfl⟩
        · rw [eP, es]
          exact .inr ⟨_, _, _, F.under (wrap q) (fun k => hw k t' Rq) (fun a b hab => by
            have := G.pr hq hab
            rwa [eP, es] at this)⟩
      · refine .inr ⟨sh 1 g, ts.map fun x => 123 :: (x ++ 125 :: t'), ss.map fun x => prod (x.map wrap) s', ?_⟩
        obtain ⟨f1, f2, f3⟩ := F.end_
        exact {
          mem := fun k => by
            rw [own, sh_sh, Nat.add_comm]
            exact List.mem_append_left _ (F.mem _)
          min := fun k x hx => by
            rw [own, List.mem_append] at hx
            rcases hx with hx | hx
            · rcases F.min _ x hx with e | e
              · left; rw [e, sh_sh, Nat.add_comm]
              · right; simp only [sh]; omega
            · right
              have := h'.rn.2 _ x hx
              simp only [sh]; omega
          two := by rw [List.length_map]; exact F.two
          put := by
            have e1 : 123 :: (q ++ 125 :: t') = [123] ++ (q ++ 125 :: t') := rfl
            rw [e1, show sh 1 g = sh ([123] : Tx).length g from rfl, rep_pre, rep_suf f2 f1 f3, F.put, List.map_map]
            rfl
          rows := F.rows.map fun a b hab => G.pr hab h'
          all := by
            rw [F.all, List.map_flatten, prod_flatten, List.map_map]
            rfl
          len := fun x hx => by
            obtain ⟨y, hy, rfl⟩ := List.mem_map.mp hx
            have := F.len y hy
            simp only [List.length_cons, List.length_append, List.length_map]
            omega
          end_ := by
            refine ⟨by simp only [List.length_cons, List.length_append, sh]; omega, by simp only [sh]; omega, fun c hc => ?_⟩
            simp only [sh] at hc ⊢
            obtain ⟨d, hd, rfl⟩ := List.mem_map.mp hc
            have := f3 d hd
            omega }
    · have hne : qs ≠ [] := by rintro rfl; simp at h2
      have Rq : ∀ q ∈ qs, Runs q := fun q hq => by
        obtain ⟨sq, hg⟩ := hqs.left q hq
        exact hg.rn
      have own : ∀ k, grp k [] (123 :: (joinC qs ++ 125 :: t')) = inner (k + 1) qs ++ (k, k + 1 + (joinC qs).length, commas (k + 1) qs) :: grp (k + 1 + (joinC qs).length + 1) [] t' := by
        intro k
        have := grp_group (t := t') h2 Rq k [] []
        rwa [List.append_nil, List.append_nil] at this
      have esh : ∀ k, sh k (0, 1 + (joinC qs).length, commas 1 qs) = (k, k + 1 + (joinC qs).length, commas (k + 1) qs) := fun k => by
        simp only [sh]
        rw [Nat.add_comm k 1, commas_sh k 1 qs]
        simp only [Prod.mk.injEq, and_true]
        exact ⟨by omega, by omega⟩
      refine .inr ⟨(0, 1 + (joinC qs).length, commas 1 qs), qs.map (· ++ t'), sqs.map fun x => prod x s', ?_⟩
      exact {
        mem := fun k => by rw [esh, own]; simp
        min := fun k x hx => by
          rw [own, List.mem_append, List.mem_cons] at hx
          rcases hx with hx | hx | hx
          · right
            have := inner_ge qs Rq _ x hx
            simp only; omega
          · left; rw [esh]; exact hx
          · right
            have := h'.rn.2 _ x hx
            simp only; omega
        two := by rw [List.length_map]; exact h2
        put := by
          have e1 := cuts_parts qs hne (123 :: (joinC qs ++ 125 :: t')) [123] (125 :: t') (by simp) (by simp)
          unfold rep
          simp only
          have e2 : ∀ one other, piece (123 :: (joinC qs ++ 125 :: t')) 0 (1 + (joinC qs).length) one other = cutT (123 :: (joinC qs ++ 125 :: t')) (one + 1) other ++ t' := fun one other => by
            unfold piece
            rw [List.take_zero, List.nil_append]
            congr 1
            rw [show 1 + (joinC qs).length + 1 = (joinC qs).length + 1 + 1 by omega, List.drop_succ_cons, List.drop_append]
            simp
          rw [show piece (123 :: (joinC qs ++ 125 :: t')) 0 (1 + (joinC qs).length) = fun one other => cutT (123 :: (joinC qs ++ 125 :: t')) (one + 1) other ++ t' from funext fun a => funext fun b => e2 a b]
          have e3 := map_zipWith' (fun one other => cutT (123 :: (joinC qs ++ 125 :: t')) (one + 1) other) (· ++ t') (0 :: commas 1 qs ++ [1 + (joinC qs).length]) (commas 1 qs ++ [1 + (joinC qs).length])
          rw [← e3]
          refine congrArg _ (Eq.trans ?_ e1)
          exact zipWith_more _ (0 :: commas 1 qs) _ _ (by simp)
        rows := hqs.map fun a b hab => hab.apps h'
        all := by rw [prod_flatten]
        len := fun x hx => by
          obtain ⟨y, hy, rfl⟩ := List.mem_map.mp hx
          have := joinC_mem qs y hy
          simp only [List.length_cons, List.length_append, List.length_map]
          omega
        end_ := by
          refine ⟨by simp only [List.length_cons, List.length_append]; omega, by simp only; omega, fun c hc => ?_⟩
          have := commas_bd qs 1 c hc
          simp only; omega }

/-! ### braced over rows, within what stands around them -/
theorem least_spec : ∀ (gs : List Gp) (g m : Gp), m ∈ g :: gs → (∀ x ∈ g :: gs, x = m ∨ m.1 < x.1) → least g gs = m
  | [], g, m, hm, _ => by
    rw [List.mem_singleton] at hm
    exact hm.symm
  | x :: xs, g, m, hm, h => by
    unfold least
    refine least_spec xs _ m ?_ ?_
    · by_cases hx : x.1 < g.1
      · rw [if_pos hx]
        rcases List.mem_cons.mp hm with rfl | hm
        · rcases h x (by simp) with e | e
          · rw [e] at hx; omega
          · omega
        · exact hm
      · rw [if_neg hx]
        rcases List.mem_cons.mp hm with rfl | hm
        · exact List.mem_cons_self
        rcases List.mem_cons.mp hm with rfl | hm
        · rcases h g (by simp) with e | e
          · rw [e]; exact List.mem_cons_self
          · omega
        · exact List.mem_cons_of_mem _ hm
    · intro y hy
      rcases List.mem_cons.mp hy with e | hy
      · by_cases hx : x.1 < g.1
        · rw [if_pos hx] at e; rw [e]; exact h x (by simp)
        · rw [if_neg hx] at e; rw [e]; exact h g (by simp)
      · exact h y (by simp [hy])
theorem minG_spec {gs : List Gp} {m : Gp} (hm : m ∈ gs) (h : ∀ x ∈ gs, x = m ∨ m.1 < x.1) : minG gs = some m := by
  cases gs with
  | nil => simp at hm
  | cons g gs => exact congrArg some (least_spec gs g m hm h)

/-- what stands ahead and behind has no group of its own -/
structure Around (P U : Tx) : Prop where
  pre : ∀ k r, grp k [] (P ++ r) = grp (k + P.length) [] r
  suf : ∀ k, grp k [] U = []
def ctx (P U t : Tx) : Tx := P ++ (t ++ U)
theorem Around.grp {P U : Tx} (A : Around P U) {t : Tx} {s : List Tx} (h : G false t s) : K34.grp 0 [] (ctx P U t) = K34.grp P.length [] t := by
  unfold ctx
  rw [A.pre, h.rn.1, A.suf, List.append_nil, Nat.zero_add]
def Bnd (L : Nat) : List Tx → Prop
  | [] => True
  | t :: S => t.length + S.length ≤ L ∧ Bnd L S
theorem Bnd.app {L : Nat} {S : List Tx} (hS : Bnd L S) : ∀ {ts : List Tx}, (∀ t ∈ ts, t.length + ts.length + S.length ≤ L) → Bnd L (ts ++ S)
  | [], _ => hS
  | t :: ts, h => by
    refine ⟨?_, Bnd.app hS fun x hx => ?_⟩
    · have := h t (by simp)
      rw [List.length_cons] at this
      show t.length + (ts ++ S).length ≤ L
      rw [List.length_append]; omega
    · have := h x (by simp [hx])
      rw [List.length_cons] at this
      omega
def wt (ss : List (List Tx)) : Nat := (ss.map fun s => 2 * s.length - 1).sum
theorem wt_flatten (ss : List (List Tx)) (h : ∀ s ∈ ss, 0 < s.length) : wt ss + ss.length = 2 * ss.flatten.length := by
  induction ss with
  | nil => rfl
  | cons s ss ih =>
    have h1 := h s (by simp)
    have h2 := ih fun x hx => h x (by simp [hx])
    simp only [wt, List.map_cons, List.sum_cons, List.length_cons, List.flatten_cons, List.length_append] at h2 ⊢
    omega
theorem All2.pos {ts : List Tx} {ss : List (List Tx)} (h : All2 (G false) ts ss) : ∀ s ∈ ss, 0 < s.length := by
  induction h with
  | nil => intro s hs; simp at hs
  | cons h _ ih =>
    intro s hs
    rcases List.mem_cons.mp hs with rfl | hs
    · exact h.pos
    · exact ih s hs
theorem brac_rows {P U : Tx} (A : Around P U) : ∀ (n : Nat) (ts : List Tx) (ss : List (List Tx)) (found : List Tx), All2 (G false) ts ss → wt ss ≤ n → Bnd LT (ts.map (ctx P U)) → found.length ≤ 200 →
    brac (n + 1) (ts.map (ctx P U)) found = some (if found.length + ss.flatten.length ≤ 200 then some (found ++ ss.flatten.map (ctx P U)) else none) := by
  intro n
  induction n with
  | zero =>
    intro ts ss found h hn _ hf
    cases h with
    | nil =>
      have : found.length + ([] : List (List Tx)).flatten.length ≤ 200 := by simpa using hf
      rw [if_pos this]; simp [brac]
    | @cons t s ts ss h1 h2 =>
      have := h1.pos
      simp only [wt, List.map_cons, List.sum_cons] at hn
      omega
  | succ n ih =>
    intro ts ss found h hn hb hf
    cases h with
    | nil =>
      have : found.length + ([] : List (List Tx)).flatten.length ≤ 200 := by simpa using hf
      rw [if_pos this]; simp [brac]
    | @cons t s ts ss h1 h2 =>
      have hp := h1.pos
      simp only [wt, List.map_cons, List.sum_cons] at hn
      obtain ⟨b1, b2⟩ := hb
      rw [List.length_map] at b1
      have hs : ¬ (LT < (ctx P U t).length ∨ LT < (ts.map (ctx P U)).length) := by rw [List.length_map]; omega
      rw [List.map_cons, brac, if_neg hs]
      rcases h1.first _ (Nat.le_refl _) with ⟨e1, e2⟩ | ⟨g, us, rs, F⟩
      · rw [A.grp h1, e1]
        simp only [minG]
        subst e2
        by_cases hl : found.length < 200
        · rw [if_pos hl, ih ts ss _ h2 (by simp only [wt]; simp at hn; omega) b2 (by rw [List.length_append, List.length_singleton]; omega)]
          simp only [List.length_append, List.length_singleton, List.flatten_cons, List.length_append, List.map_append, List.map_cons, List.map_nil, List.append_assoc, Nat.add_assoc]
        · rw [if_neg hl]
          have hk : ¬ found.length + ([t] :: ss).flatten.length ≤ 200 := by
            simp only [List.flatten_cons, List.length_append, List.length_singleton]; omega
          rw [if_neg hk]
      · have hm : minG (K34.grp 0 [] (ctx P U t)) = some (sh P.length g) := by
          rw [A.grp h1]
          refine minG_spec (F.mem _) fun x hx => ?_
          rcases F.min _ x hx with e | e
          · exact .inl e
          · exact .inr (by simpa [sh] using e)
        obtain ⟨f1, f2, f3⟩ := F.end_
        have hr : rep (ctx P U t) (sh P.length g) = us.map (ctx P U) := by
          unfold ctx
          rw [rep_pre, rep_suf f2 f1 f3, F.put, List.map_map]
          rfl
        rw [hm]
        simp only
        rw [hr, ← List.map_append]
        have hwt := wt_flatten rs F.rows.pos
        have hlr := F.rows.length
        have h2' := F.two
        have e3 : wt (rs ++ ss) = wt rs + (ss.map fun s => 2 * s.length - 1).sum := by simp [wt]
        have e4 : s.length = rs.flatten.length := by rw [F.all]
        rw [ih (us ++ ts) (rs ++ ss) found (F.rows.app h2) (by omega) ?_ hf]
        · rw [F.all]; simp only [List.flatten_append, List.flatten_cons]
        · rw [List.map_append]
          refine Bnd.app b2 fun x hx => ?_
          obtain ⟨y, hy, rfl⟩ := List.mem_map.mp hx
          have := F.len y hy
          rw [List.length_map, List.length_map]
          unfold ctx at b1 ⊢
          simp only [List.length_append] at b1 ⊢
          omega
/-- braced of a row within what has no groups -/
theorem brac_row {P U t : Tx} {s : List Tx} (A : Around P U) (h : G false t s) (hl : (ctx P U t).length ≤ LT) :
    ∃ n, brac n [ctx P U t] [] = some (if s.length ≤ 200 then some (s.map (ctx P U)) else none) := by
  have := brac_rows A (wt [s]) [t] [s] [] (.cons h .nil) (Nat.le_refl _) ⟨by simpa using hl, trivial⟩ (by simp)
  exact ⟨_, by simpa using this⟩

theorem grp_bare {k : Nat} {c : Nat} (h : c ≠ 123) (r : Tx) : grp k [] (c :: r) = grp (k + 1) [] r := by simp [grp, h]
theorem pre_of {P : Tx} (h : ∀ c ∈ P, c ≠ 123) (k : Nat) (r : Tx) : grp k [] (P ++ r) = grp (k + P.length) [] r := by
  induction P generalizing k with
  | nil => rfl
  | cons c P ih =>
    rw [List.cons_append, grp_bare (h c (by simp)), ih (fun d hd => h d (by simp [hd]))]
    rw [List.length_cons, show k + 1 + P.length = k + (P.length + 1) by omega]
theorem suf_open (n : Nat) : ∀ (k : Nat) (S : List (Nat × List Nat)), grp k S (List.replicate n 123) = [] := by
  induction n with
  | zero => intro k S; cases S <;> simp [grp]
  | succ n ih => intro k S; rw [List.replicate_succ, grp_open]; exact ih _ _
theorem suf_plain {U : Tx} (h : ∀ c ∈ U, c ≠ 123) (k : Nat) : grp k [] U = [] := by
  have := pre_of h k []
  rw [List.append_nil] at this
  rw [this]; simp [grp]
/-! ### the groups' begins are unlike; the commas are no more than the signs -/
theorem grp_begins : ∀ (t : Tx) (k : Nat) (S : List (Nat × List Nat)), (∀ x ∈ S, x.1 < k) → (S.map (·.1)).Nodup → (∀ g ∈ grp k S t, g.1 ∈ S.map (·.1) ∨ k ≤ g.1) ∧ ((grp k S t).map (·.1)).Nodup
  | [], k, S, _, _ => by cases S <;> simp [grp]
  | c :: r, k, S, hk, hn => by
    by_cases h1 : c = 123
    · subst h1
      rw [grp_open]
      have ih := grp_begins r (k + 1) ((k, []) :: S) (by
        intro x hx
        rcases List.mem_cons.mp hx with rfl | hx
        · simp
        · exact Nat.lt_succ_of_lt (hk x hx)) (by
        rw [List.map_cons, List.nodup_cons]
        refine ⟨fun h => ?_, hn⟩
        obtain ⟨x, hx, e⟩ := List.mem_map.mp h
        have := hk x hx
        omega)
      refine ⟨fun g hg => ?_, ih.2⟩
      rcases ih.1 g hg with h | h
      · rw [List.map_cons] at h
        rcases List.mem_cons.mp h with h | h
        · exact .inr (Nat.le_of_eq h.symm)
        · exact .inl h
      · exact .inr (by omega)
    · cases S with
      | nil =>
        rw [grp_bare h1]
        have ih := grp_begins r (k + 1) [] (by simp) (by simp)
        refine ⟨fun g hg => ?_, ih.2⟩
        rcases ih.1 g hg with h | h
        · simp at h
        · exact .inr (by omega)
      | cons x S =>
        obtain ⟨b, cs⟩ := x
        have hb : b < k := hk (b, cs) List.mem_cons_self
        rw [List.map_cons, List.nodup_cons] at hn
        by_cases h2 : c = 44
        · subst h2
          rw [grp_comma]
          have ih := grp_begins r (k + 1) ((b, cs ++ [k]) :: S) (by
            intro x hx
            rcases List.mem_cons.mp hx with rfl | hx
            · exact Nat.lt_succ_of_lt hb
            · exact Nat.lt_succ_of_lt (hk x (List.mem_cons_of_mem _ hx))) (by rw [List.map_cons, List.nodup_cons]; exact hn)
          refine ⟨fun g hg => ?_, ih.2⟩
          rcases ih.1 g hg with h | h
          · exact .inl h
          · exact .inr (by omega)
        · by_cases h3 : c = 125
          · subst h3
            rw [grp_close]
            have ih := grp_begins r (k + 1) S (fun x hx => Nat.lt_succ_of_lt (hk x (List.mem_cons_of_mem _ hx))) hn.2
            have hb2 : ∀ g ∈ grp (k + 1) S r, g.1 ≠ b := fun g hg e => by
              rcases ih.1 g hg with h | h
              · exact hn.1 (e ▸ h)
              · omega
            refine ⟨fun g hg => ?_, ?_⟩
            · rcases List.mem_append.mp hg with hg | hg
              · by_cases hc : cs = []
                · simp [hc] at hg
                · simp [hc] at hg
                  rw [hg]
                  exact .inl List.mem_cons_self
              · rcases ih.1 g hg with h | h
                · exact .inl (List.mem_cons_of_mem _ h)
                · exact .inr (by omega)
            · by_cases hc : cs = []
              · simpa [hc] using ih.2
              · simp only [hc, if_false, List.singleton_append, List.map_cons, List.nodup_cons]
                refine ⟨fun h => ?_, ih.2⟩
                obtain ⟨g, hg, e⟩ := List.mem_map.mp h
                exact hb2 g hg e
          · rw [grp_ch h1 h2 h3]
            have ih := grp_begins r (k + 1) ((b, cs) :: S) (fun x hx => Nat.lt_succ_of_lt (hk x hx)) (by rw [List.map_cons, List.nodup_cons]; exact hn)
            refine ⟨fun g hg => ?_, ih.2⟩
            rcases ih.1 g hg with h | h
            · exact .inl h
            · exact .inr (by omega)
theorem grp_commas : ∀ (t : Tx) (k m : Nat) (S : List (Nat × List Nat)), (∀ x ∈ S, x.2.length ≤ m) → ∀ g ∈ grp k S t, g.2.2.length ≤ m + t.length
  | [], k, m, S, _, g, hg => by cases S <;> simp [grp] at hg
  | c :: r, k, m, S, hm, g, hg => by
    rw [List.length_cons]
    by_cases h1 : c = 123
    · subst h1
      rw [grp_open] at hg
      have := grp_commas r (k + 1) m ((k, []) :: S) (by
        intro x hx
        rcases List.mem_cons.mp hx with rfl | hx
        · simp
        · exact hm x hx) g hg
      omega
    · cases S with
      | nil =>
        rw [grp_bare h1] at hg
        have := grp_commas r (k + 1) m [] (by simp) g hg
        omega
      | cons x S =>
        obtain ⟨b, cs⟩ := x
        have hb : cs.length ≤ m := hm (b, cs) List.mem_cons_self
        by_cases h2 : c = 44
        · subst h2
          rw [grp_comma] at hg
          have := grp_commas r (k + 1) (m + 1) ((b, cs ++ [k]) :: S) (by
            intro x hx
            rcases List.mem_cons.mp hx with rfl | hx
            · simp; exact hb
            · have := hm x (List.mem_cons_of_mem _ hx); omega) g hg
          omega
        · by_cases h3 : c = 125
          · subst h3
            rw [grp_close] at hg
            rcases List.mem_append.mp hg with hg | hg
            · by_cases hc : cs = []
              · simp [hc] at hg
              · simp [hc] at hg
                rw [hg]
                show cs.length ≤ _
                omega
            · have := grp_commas r (k + 1) m S (fun x hx => hm x (List.mem_cons_of_mem _ hx)) g hg
              omega
          · rw [grp_ch h1 h2 h3] at hg
            have := grp_commas r (k + 1) m ((b, cs) :: S) hm g hg
            omega
theorem least_mem : ∀ (gs : List Gp) (g : Gp), least g gs ∈ g :: gs
  | [], g => by simp [least]
  | x :: xs, g => by
    have h := least_mem xs (if x.1 < g.1 then x else g)
    rw [least]
    rcases List.mem_cons.mp h with h | h
    · rw [h]
      by_cases hx : x.1 < g.1
      · rw [if_pos hx]; simp
      · rw [if_neg hx]; simp
    · exact List.mem_cons_of_mem _ (List.mem_cons_of_mem _ h)
end K34

set_option autoImplicit true
set_option Elab.async false
set_option linter.all false
set_option maxRecDepth 100000
set_option maxHeartbeats 4000000
/-! Own exception classes whose maker calls its base's maker with a text and stores one or two fields. -/
namespace PySem
namespace SupX
open PySem.W PySem.Calls PyProof.Rows PySem.HandSPX
def supA1 (f : Str) (p0 p1 : Pos) : Arguments :=
  { posonlyargs := [], args := [⟨"self", none, p0⟩, ⟨f, none, p1⟩], vararg := none, kwonlyargs := [], kw_defaults := [], kwarg := none, defaults := [] }
def supA2 (f f2 : Str) (p0 p1 p2 : Pos) : Arguments :=
  { posonlyargs := [], args := [⟨"self", none, p0⟩, ⟨f, none, p1⟩, ⟨f2, none, p2⟩], vararg := none, kwonlyargs := [], kw_defaults := [], kwarg := none, defaults := [] }
def supE (msg : Str) (k : Nat) (p0 p1 p2 p3 p4 p5 : Pos) : Stmt :=
  .Expr (.Call (.Attribute (.Call (.Name "super" p0) [] [] p1) "__init__" p2) [.Constant (.str msg) k p3] [] p4) p5
def supF (f : Str) (q1 q2 q3 q4 : Pos) : Stmt := .Assign [.Attribute (.Name "self" q1) f q2] (.Name f q3) q4
def supS (fs : List Str) : Scope :=
  { kind := .function, names := (PySem.Str.ofString "self", .local) :: (fs.map fun f => (f, .local)) ++ [(PySem.Str.ofString "__class__", .free), (PySem.Str.ofString "super", .globalImplicit)], isGenerator := false, isCoroutine := false, more := [] }
/-- what the written part says of such a class, at C, and of its maker, at fI; B what its def's body is -/
structure SupTxt (K : Frag) (file : Str) (top : Scope) (nm : Str) (qual : Str) (fs : List Str) (P : Arguments) (B : List Stmt) (C fI : Addr) : Prop where
  cls : ∃ nm q N bs bm sn sub ab col dd k0 k1 k2 k3 k5, K.lookup C = some (excClassObj nm q C N bs bm true sn sub ab col dd k0 k1 k2 k3 k5 "ValueError.__new__") ∧ refsVE bm = true
  sa : findIn K (.ref C) "__setattr__" = some (some (.builtin "object.__setattr__"))
  noN : ∀ f ∈ fs, findIn K (.ref C) f = some none
  iC : findIn K (.ref C) "__init__" = some (some (.ref fI))
  tC : typeIn K (.ref fI) = some (.type "function")
  kC : keepIn K (.ref C) = true
  exC : subIn K (.ref C) (.type "BaseException") = some true
  tyC : typeIn K (.ref C) = some (.type "type")
  veC : subIn K (.ref C) (.type "ValueError") = some true
  selfC : mroIn K C (.ref C) = some true
  opq : nsIn K cStatics "thirdparty.any" = some none
  sup : nsIn K mainGlobals "super" = some none
  along : ks_superIn K C C "__init__" = some (some (.builtin "ValueError.__init__"))
  notop : (top.names.lookup ("super" : Str)).isSome = false
  fn : ∃ (oc : Value) (od : Option Addr) (doc pm : Value) (an : Option Addr) (cda : Addr) (ct : Value) (osl : Array (Option Value)) (cc : Addr) (ccl : Value) (cdd : Option Addr) (vs : Array Value) (ccs : Array (Option Value)) (tf : Tok) (cl : Value) (cld : Option Addr) (csl : Array (Option Value)),
    K.lookup fI = some ⟨oc, od, .func (ksFn "__init__" qual P B (supS fs) .none .none doc pm an (.ref cda) ct cc), osl⟩ ∧ codeIn K (.ref cda) qual = true ∧
    K.lookup cda = some ⟨ccl, cdd, .fields vs, ccs⟩ ∧ vs[2]? = some (.str file tf) ∧ K.lookup cc = some ⟨cl, cld, .cell (some (.ref C)), csl⟩
theorem one_size (v : Value) : [v].length ≤ sizeLine := by
  rw [sizeLine_eq]; exact (by decide : 1 ≤ 16777216)
theorem two_size (v u : Value) : [v, u].length ≤ sizeLine := by
  rw [sizeLine_eq]; exact (by decide : 2 ≤ 16777216)
section
variable {prog : Program} {w : World} {M : Model} {A : Around} {E : Value → Shared → Prop} {R : Result → Shared → Prop} {h : Heap} {g : Array GenState} {d : Drawn} {t : Nat} {os : OsState} {K : Frag}
variable {nm q : Str} {C N : Addr} {bs bm : List Value} {sn : List Str} {sub : List Value} {ab : Bool} {col : Option Bool} {dd : Option Addr} {k0 k1 k2 k3 k5 : Option Value}
/-- the bound maker of the base, called -/
theorem call_mw {u e t0 : Addr} {rest : List Value} {Q : Value → Shared → Prop}
    (hC : h.get? C = some (excClassObj nm q C N bs bm true sn sub ab col dd k0 k1 k2 k3 k5 "ValueError.__new__")) (he : h.get? e = some (HandSPX.excO C t0)) (hu : h.get? u = some (kxs_mw "ValueError.__init__" e)) (hrest : rest.length ≤ sizeLine)
    (hq : ∀ h' t1, (∀ b o, b ≠ e → h.get? b = some o → h'.get? b = some o) → h'.get? e = some (HandSPX.excO C t1) → Q .none ⟨h', g, d, t, os⟩) :
    wpAny (model prog w) A (call (.ref u) rest) Q E ⟨h, g, d, t, os⟩ := by
  refine wpAny_call (codeAny_of_tree ?_)
  show wpAny _ A.in1 (callAny (.ref u) ⟨rest, []⟩) _ _ _
  unfold callAny
  refine wpAny_bind (wpAny_load hu ?_)
  simp only [kxs_mw, show (Value.type "method-wrapper" == Value.type "method" || Value.type "method-wrapper" == Value.type "builtin_function_or_method" || Value.type "method-wrapper" == Value.type "method-wrapper") = true by decide, if_true]
  refine W.KFB.if_so (by decide) ?_
  refine wpAny_bind (check_bound_init F.excBase_ValueError.toExcCallFacts hC he rfl ?_)
  refine wpAny_bind (wpAny_pure (wpAny_pure ?_))
  refine ⟨plainId_quiet F.excBase_ValueError.init.plain _, codeAny_builtin F.excBase_ValueError.initEntry ?_⟩
  exact exc_init_tree (cls := .ref C) (t0 := t0) (dv := none) (c2 := .none) (c3 := .none) (b4 := .bool false) he hrest fun h' k e' _ => hq h' _ k e'
end
section
variable {prog : Program} {w : World} {A : Around} {E : Value → Shared → Prop} {R : Result → Shared → Prop} {s : Shared} {K : Frag} {mg mb : Str → Option Value} {C fI : Addr} {nm qual : Str} {fs : List Str} {B : List Stmt}
/-- how the call of the base's maker is gone through (the places in the text rule it) -/
def SupEv (msg : Str) (k : Nat) (p0 p1 p2 p3 p4 : Pos) (env : Env) (pl : Sem Bool) : Prop :=
  eval (.Call (.Attribute (.Call (.Name "super" p0) [] [] p1) "__init__" p2) [.Constant (.str msg) k p3] [] p4) env = (do
      let ov ← attributeBase (.Call (.Name "super" p0) [] [] p1) "__init__" env (eval (.Call (.Name "super" p0) [] [] p1) env)
      standAt p2.atName
      let (f, first) ← holding [ov] (getMethod ov "__init__" pl)
      callWith p4 f first (backTo p4 (starEach [.Constant (.str msg) k p3] env)) [])
/-- the first statement: the base's maker, with a written text -/
theorem sup_first {body : List Stmt} {env : Env} {file : Str} {f cc cda : Addr} {of : Obj} {fd : FuncData} {ar : Arg} {vs : Array Value} {tf : Tok} {occ : Obj} {msg : Str} {k : Nat} {p0 p1 p2 p3 p4 p5 : Pos} {x t0 : Addr} {mF : Str → Option Value} {Q : Flow → Shared → Prop}
    {q' : Str} {N : Addr} {bs bm : List Value} {sn : List Str} {sub : List Value} {ab : Bool} {col : Option Bool} {dd : Option Addr} {k0 k1 k2 k3 k5 : Option Value}
    (X : K.In s.heap) (hC : K.lookup C = some (excClassObj nm q' C N bs bm true sn sub ab col dd k0 k1 k2 k3 k5 "ValueError.__new__"))
    (veC : subIn K (.ref C) (.type "ValueError") = some true) (selfC : mroIn K C (.ref C) = some true) (opq : nsIn K cStatics "thirdparty.any" = some none) (sup : nsIn K mainGlobals "super" = some none)
    (along : ks_superIn K C C "__init__" = some (some (.builtin "ValueError.__init__"))) (htop : (prog.main.scope.names.lookup ("super" : Str)).isSome = false)
    (hks : env.kindOf "super" = some .globalImplicit) (hkc : env.kindOf "__class__" = some .free) (hk : env.scope.kind = .function) (hfu : env.func = some f) (hf : s.heap.get? f = some of) (hfd : of.data = .func fd)
    (hp : (fd.params.posonlyargs ++ fd.params.args).head? = some ar) (har : ar.arg = "self") (hks2 : env.kindOf "self" = some .local) (hn : s.heap.Ns env.locals mF) (hv : mF "self" = some (.ref x))
    (hco : env.code = .ref cda) (hcc : s.heap.get? cda = some occ) (hoc : occ.data = .fields vs) (hvs : vs[2]? = some (.str file tf)) (hfile : ((prog.main.file : Str) == file) = true)
    (hcells : env.cells.lookup ("__class__" : Str) = some cc) (hcell : s.heap.IsCell cc (some (.ref C))) (hgl : env.globals = mainGlobals) (hbl : env.builtins = builtinsNs) (hmg : s.heap.Ns mainGlobals mg) (hmb : s.heap.Ns builtinsNs mb) (hbb : ∀ x : Str, x ≠ "__name__" → mb x = bootBuiltins x)
    (hx : s.heap.get? x = some (excO C t0))
    (pl : Sem Bool) (hev : SupEv msg k p0 p1 p2 p3 p4 env pl)
    (hq : ∀ h' tk t1, (∀ b o, b ≠ x → s.heap.get? b = some o → h'.get? b = some o) → h'.get? x = some (excO C t1) → Q .next { s with heap := h', toks := tk }) :
    _root_.PySem.wpAt (model prog w) A (.func body env) (exec (supE msg k p0 p1 p2 p3 p4 p5) env) Q E s := by
  unfold supE
  have hint : interactive env = false := by
    unfold interactive
    rw [hk]; rfl
  obtain ⟨hp0, g, d, t, os⟩ := s
  have hD := X _ _ hC
  refine ks_wpAt_Expr_any (ks_wpAt_MethodCall (pl := pl) ?_ hev) hint (by rfl)
  refine ks_wpAt_super_base (cc := cda) (ar := ar) (tf := tf) hks hkc (by decide +kernel) hfu hf hfd hp hco hcc hoc hvs hfile htop ?_
  have hnsup : mg "super" = none := mg_none_of X hmg sup
  refine ks_loadName_global hk hks (loadGlobal_builtin (by rw [hgl]; exact hmg) hnsup (by rw [hbl]; exact hmb) ((hbb _ (by decide +kernel)).trans PyProof.Rows.Boot.«super») ⟨rfl, ?_⟩)
  refine wpAny_loadName_free hk hkc hcells hcell ?_
  rw [har]
  refine wpAny_loadName_local hk hks2 hn hv ?_
  refine ks_wpAny_isType_cls hD rfl ⟨rfl, ?_⟩
  have hcl : clsIn K C = some { name := nm, bases := bs, mro := .ref C :: bm, ns := N, qualname := q', hasDict := true, slotNames := sn, subclasses := sub, abstract := ab, collection := col, hasDel := false } := by unfold clsIn; rw [hC] <;> rfl
  refine ks_wpAny_call_super hD rfl hx rfl (fun c e => by cases e) (looks_mroIn X selfC) (fun h1 e1 k1 => ?_)
  have X1 : K.In h1 := X.keeps k1
  have hx1 := k1 _ _ hx
  have hxC : x ≠ C := fun e => by
    rw [e, hD] at hx
    cases hx
  have hm : alongIn K "__init__" (((Value.ref C :: bm).dropWhile (· != .ref C)).drop 1) = some (some (.builtin "ValueError.__init__")) := by
    have := along
    unfold ks_superIn at this
    rw [hcl] at this
    exact this
  have I1 : InstAt h1 x (excO C t0) C none := ⟨hx1, rfl, rfl, trivial⟩
  have hI : Looks (model prog w) h1 (isInstance (.ref x) (.type "ValueError")) true := I1.type.andThen (looks_subIn X1 veC)
  refine kxs_getMethod kxs_ValueError e1 (looks_opaque X1 opq) (l₀ := .ref C :: bm) (fun A Q E s k q => wpAny_bind ((looks_clsIn X1 hcl) A _ E s k (wpAny_pure q))) rfl X1 hm hI hxC (by decide +kernel) ?_
  have hu : (h1.push (kxs_mw "ValueError.__init__" x)).get? h1.objs.size = some (kxs_mw "ValueError.__init__" x) := Heap.get?_push_at rfl rfl
  have k2 : ∀ b o, h1.get? b = some o → (h1.push (kxs_mw "ValueError.__init__" x)).get? b = some o := fun b o e => Heap.get?_push_of_some _ e
  refine kxs_callWith (i := "ValueError.__init__") (x := x) (by rfl) (evalArgs_plain (Calls.spliced_cons ?_))
  show wpAny _ _ (eval (Expr.Constant (Const.str msg) k p3) env) _ _ _
  refine Calls.Constant_str ?_
  show wpAny _ _ (spliced []) _ _ _
  refine Calls.spliced_nil ⟨hu, ?_⟩
  show wpAny _ _ (call (.ref h1.objs.size) _) _ _ _
  refine call_mw (X1.keeps k2 _ _ hC) (k2 _ _ hx1) hu (one_size _) fun h' t1 k' e' => ?_
  exact hq h' _ t1 (fun b o hb e => k' b o hb (k2 _ _ (k1 _ _ e))) e'

/-- what holds of the field's name -/
structure SupName (f : Str) : Prop where
  ns : (("self" : Str) == f) = false
  sn : (f == ("self" : Str)) = false
  cn : (("__class__" : Str) == f) = false
  un : (("super" : Str) == f) = false
  db : (f == ("__debug__" : Str)) = false
/-- what the maker leaves of a fresh exception at x -/
structure InitEnd (h h' : Heap) (x C dx t1 : Addr) (mA : Str → Option Value) : Prop where
  keep : ∀ b o, b ≠ x → h.get? b = some o → h'.get? b = some o
  obj : h'.get? x = some { cls := .ref C, dict := some dx, data := .fields #[.ref t1, .none, .none, .none, .bool false, .none] }
  dbig : h.objs.size ≤ dx
  dne : dx ≠ x
  ns : h'.Ns1 dx mA
/-- what the def's own text has to be seen for -/
structure Sup1 (qual f msg : Str) (k : Nat) (pa pb p0 p1 p2 p3 p4 p5 q1 q2 q3 q4 : Pos) : Prop where
  nf : SupName f
  bind : ∀ (doc pm : Value) (an : Option Addr) (cd ct : Value) (cc : Addr) (u v : Value),
    bindArgs (ksFn "__init__" qual (supA1 f pa pb) [supE msg k p0 p1 p2 p3 p4 p5, supF f q1 q2 q3 q4] (supS [f]) .none .none doc pm an cd ct cc) ⟨[u, v], []⟩ = pure ([("self", u), (f, v)] : List (Str × Value))
  ev : ∀ (L a : Addr) (cd : Value) (cc : Addr), ∃ pl, SupEv msg k p0 p1 p2 p3 p4 (ksEnv qual (supS [f]) L a cd cc) pl
  sw : ∀ (L a : Addr) (cd : Value) (cc : Addr), swapsWith (.Name f q3) (some (.Attribute (.Name "self" q1) f q2)) q4.line (ksEnv qual (supS [f]) L a cd cc) = pure false
theorem sup_init1 {f msg file : Str} {k : Nat} {pa pb p0 p1 p2 p3 p4 p5 q1 q2 q3 q4 : Pos} (hfile : ((prog.main.file : Str) == file) = true)
    (T : SupTxt K file prog.main.scope nm qual [f] (supA1 f pa pb) [supE msg k p0 p1 p2 p3 p4 p5, supF f q1 q2 q3 q4] C fI) (Y : Sup1 qual f msg k pa pb p0 p1 p2 p3 p4 p5 q1 q2 q3 q4) {x t0 : Addr} {v : Value} (X : K.In s.heap) (hlim : s.heap.NoLimit)
    (hmg : s.heap.Ns mainGlobals mg) (hmb : s.heap.Ns builtinsNs mb) (hbb : ∀ x : Str, x ≠ "__name__" → mb x = bootBuiltins x)
    (hx : s.heap.get? x = some (excO C t0)) (hnx : K.lookup x = none) (hroom : A.depth < recursionLimit)
    (hq : ∀ h' tk t1 dx, InitEnd s.heap h' x C dx t1 (fun y => if y = f then some v else none) → R (.ok (.ret .none)) { s with heap := h', toks := tk }) :
    codeAny (model prog w) A (.call (.ref fI) ⟨[.ref x, v], []⟩) R s := by
  obtain ⟨oc, od, doc, pm, an, cda, ct, osl, cc, ccl, cdd, vs, ccs, tf, cl, cld, csl, hf, hcd, hcda, hvs, hcell⟩ := T.fn
  obtain ⟨nm', q, N, bs, bm, sn, sub, ab, col, dd, k0, k1, k2, k3, k5, hC, hbm⟩ := T.cls
  have hcl : clsIn K C = some { name := nm', bases := bs, mro := .ref C :: bm, ns := N, qualname := q, hasDict := true, slotNames := sn, subclasses := sub, abstract := ab, collection := col, hasDel := false } := by unfold clsIn; rw [hC] <;> rfl
  have nf := Y.nf
  have lkf : (supS [f]).names.lookup f = some .local := by
    show List.lookup f [(("self" : Str), NameKind.local), (f, .local), (("__class__" : Str), .free), (("super" : Str), .globalImplicit)] = _
    simp [List.lookup, nf.sn]
  have lks : (supS [f]).names.lookup ("super" : Str) = some .globalImplicit := by
    show List.lookup ("super" : Str) [(("self" : Str), NameKind.local), (f, .local), (("__class__" : Str), .free), (("super" : Str), .globalImplicit)] = _
    simp only [List.lookup, nf.un]; rfl
  have lkc : (supS [f]).names.lookup ("__class__" : Str) = some .free := by
    show List.lookup ("__class__" : Str) [(("self" : Str), NameKind.local), (f, .local), (("__class__" : Str), .free), (("super" : Str), .globalImplicit)] = _
    simp only [List.lookup, nf.cn]; rfl
  have lkself : (supS [f]).names.lookup ("self" : Str) = some .local := by
    show List.lookup ("self" : Str) [(("self" : Str), NameKind.local), (f, .local), (("__class__" : Str), .free), (("super" : Str), .globalImplicit)] = _
    rfl
  refine ks_codeAny_call_defAt (binds := [("self", .ref x), (f, v)]) (body := [supE msg k p0 p1 p2 p3 p4 p5, supF f q1 q2 q3 q4]) hroom (X _ _ hf) rfl hlim (codeRec_of X hcd) rfl (BindsTo.of_eq ?_) ?_ ?_ (fun h1 hns k1 => ?_) rfl rfl rfl
  · exact Y.bind _ _ _ _ _ _ _ _
  · intro y hy
    have : y ∈ [(("self" : Str), NameKind.local), (f, .local), (("__class__" : Str), .free), (("super" : Str), .globalImplicit)] := hy
    simp only [List.mem_cons, List.not_mem_nil, or_false] at this
    rcases this with e | e | e | e <;> rw [e] <;> intro z <;> cases z
  · intro y hy
    simp only [List.mem_cons, List.not_mem_nil, or_false] at hy
    rcases hy with e | e <;> rw [e]
    · exact lkself
    · exact lkf
  · have X1 : K.In h1 := X.keeps k1
    have hx1 := k1 _ _ hx
    have hself : (fun y => ([("self", Value.ref x), (f, v)] : List (Str × Value)).reverse.lookup y) "self" = some (.ref x) := by
      show List.lookup ("self" : Str) [(f, v), (("self" : Str), Value.ref x)] = _
      simp only [List.lookup, nf.ns]; rfl
    have hfv : (fun y => ([("self", Value.ref x), (f, v)] : List (Str × Value)).reverse.lookup y) f = some v := by
      show List.lookup f [(f, v), (("self" : Str), Value.ref x)] = _
      simp [List.lookup]
    obtain ⟨pl, hpl⟩ := Y.ev s.heap.objs.size fI (.ref cda) cc
    refine ks_wpAt_execs_cons (sup_first (s := { s with heap := h1, toks := _ }) (env := ksEnv qual (supS [f]) s.heap.objs.size fI (.ref cda) cc) (ar := ⟨"self", none, pa⟩) X1 hC T.veC T.selfC T.opq T.sup T.along T.notop lks lkc rfl rfl (X1 _ _ hf) rfl rfl rfl lkself hns hself rfl (X1 _ _ hcda) rfl hvs hfile rfl ⟨_, X1 _ _ hcell, rfl⟩ rfl rfl
      (hmg.keeps k1) (hmb.keeps k1) hbb hx1 pl hpl fun h2 tk2 t1 k2 hx2 => ?_)
    have k12 : ∀ b o, b ≠ x → s.heap.get? b = some o → h2.get? b = some o := fun b o hb e => k2 b o hb (k1 b o e)
    have X2 : K.In h2 := fun b o e => k12 b o (fun z => by rw [z, hnx] at e; cases e) (X b o e)
    have hLx : s.heap.objs.size ≠ x := Nat.ne_of_gt (Heap.lt_size hx)
    have hns2 := hns.at (h' := h2) fun o e => k2 _ o hLx e
    refine wpAt_of_wpAny (wpAny_execs_cons (plainObj_wpAny_Assign_Attribute ?_ (Y.sw _ _ _ _)))
    refine wpAny_Name (wpAny_loadName_local rfl lkf hns2 hfv (wpAny_Name (wpAny_loadName_local rfl lkself hns2 hself ?_) (by decide))) nf.db
    refine set_plain X2 (ox := excO C t1) (od := none) ⟨hx2, rfl, rfl, trivial⟩ T.sa ?_
    refine exc_osa X2 hx2 hcl (show refsVE (.ref C :: bm) = true from hbm) rfl (T.noN f (by simp)) (fun h₃ tk₃ dx k₃ dn dne hx₃ hn₃ => ?_)
    refine wpAny_execs_nil (hq h₃ tk₃ t1 dx ⟨fun b o hb e => k₃ b o hb (k12 b o hb e), hx₃, ?_, dne, hn₃⟩)
    have z : s.heap.objs.size < h2.objs.size := hns2.lt
    exact Nat.le_of_lt (Nat.lt_of_lt_of_le z dn)

/-- a made exception of the class at C, its own dict at d -/
structure OwnMade (h h' : Heap) (e C d : Addr) (mA : Str → Option Value) : Prop where
  keep : ∀ b o, h.get? b = some o → h'.get? b = some o
  new : h.objs.size ≤ e
  obj : ∃ oe vs, h'.get? e = some oe ∧ oe.cls = .ref C ∧ oe.dict = some d ∧ oe.data = .fields vs ∧ vs[1]? = some .none
  dbig : h.objs.size ≤ d
  dne : d ≠ e
  ns : h'.Ns1 d mA
theorem sup_made {file : Str} {P : Arguments} (T : SupTxt K file prog.main.scope nm qual fs P B C fI) {us : List Value} {mA : Str → Option Value} (X : K.In s.heap) (hus : us.length ≤ sizeLine)
    (init : ∀ (A' : Around) (s' : Shared) (x t0 : Addr) (R' : Result → Shared → Prop), A'.depth = A.depth + 1 → K.In s'.heap → (∀ b o, s.heap.get? b = some o → s'.heap.get? b = some o) → s'.heap.get? x = some (excO C t0) → K.lookup x = none →
      (∀ h' tk t1 dx, InitEnd s'.heap h' x C dx t1 mA → R' (.ok (.ret .none)) { s' with heap := h', toks := tk }) → codeAny (model prog w) A' (.call (.ref fI) ⟨.ref x :: us, []⟩) R' s')
    (hq : ∀ h' tk e d, OwnMade s.heap h' e C d mA → R (.ok (.ret (.ref e))) { s with heap := h', toks := tk }) :
    codeAny (model prog w) A (.call (.ref C) ⟨us, []⟩) R s := by
  obtain ⟨nm, q, N, bs, bm, sn, sub, ab, col, dd, k0, k1, k2, k3, k5, hC, hbm⟩ := T.cls
  obtain ⟨hp, g, dr, tk, os⟩ := s
  have k : ∀ b o, hp.get? b = some o → ((hp.push (kdv_tup us)).push (excO C hp.objs.size)).get? b = some o := fun b o e => Heap.get?_push_of_some _ (Heap.get?_push_of_some _ e)
  have hget : ((hp.push (kdv_tup us)).push (excO C hp.objs.size)).get? (hp.objs.size + 1) = some (excO C hp.objs.size) := by heap_get
  have hnx : K.lookup (hp.objs.size + 1) = none := by
    cases e : K.lookup (hp.objs.size + 1) with
    | none => rfl
    | some o =>
      have z : hp.get? (hp.objs.size + 1) = some o := X _ _ e
      exact absurd (Nat.lt_of_succ_lt (Heap.lt_size z)) (Nat.lt_irrefl _)
  refine call_own F.excBase_ValueError (fun X => refsVE_contains X bm hbm) (X _ _ hC) (looks_findIn X T.iC) (fun self => bind_fn X self T.tC) hus ?_
  refine init _ ⟨(hp.push (kdv_tup us)).push (excO C hp.objs.size), g, dr, tk, os⟩ _ _ _ ?_ (X.keeps k) k hget hnx fun h' tk' t1 dx ⟨k', hx, dn, dne, hns⟩ => ?_
  · rfl
  · have old : ∀ b o, hp.get? b = some o → h'.get? b = some o := fun b o e => k' b o (Nat.ne_of_lt (Nat.lt_succ_of_lt (Heap.lt_size e))) (k b o e)
    have z : hp.objs.size + 1 + 1 ≤ dx := by
      first
        | (simpa only [Heap.size_push] using dn)
        | exact dn
        | (have q := dn; rw [Heap.size_push, Heap.size_push] at q; exact q)
    exact ⟨rfl, hq h' tk' (hp.objs.size + 1) dx ⟨old, Nat.le_succ _, ⟨_, _, hx, rfl, rfl, rfl, rfl⟩, Nat.le_trans (Nat.le_trans (Nat.le_succ _) (Nat.le_succ _)) z, dne, hns⟩⟩
end
end SupX
end PySem
namespace L2
open PySem PySem.Spec PyProof.Rows
section
variable {X : Cx} {C fI : Addr} {nm qual : Str} {fs : List Str} {B : List Stmt} {P : Arguments} {file : Str}
/-- what is behind a made exception: told by the fields of its dict -/
theorem mk_sup {pins : List (Addr × Obj)} {σ : St} {H1 : Hp} {Q : XK} {hp h' : Heap} {g : Array GenState} {dr : Drawn} {tk tk' : Nat} {os : OsState} {e d : Addr} {mA : Str → Option Value} {kvs : List (Str × V)}
    (T : PySem.SupX.SupTxt X.K file X.prog.main.scope nm qual fs P B C fI) (I1 : Inv X pins σ H1 ⟨hp, g, dr, tk, os⟩) (M : PySem.SupX.OwnMade hp h' e C d mA) (r : ∀ f, RelO (kvs.lookup f) (mA f))
    (q : ∀ d, H1 d = none → Q (.ref C) (some d) (upd H1 d (.xd kvs))) : MkP X pins σ Q (.ref e) ⟨h', g, dr, tk', os⟩ := by
  obtain ⟨oe, fv, hoe, hc, hd, hdat, h1⟩ := M.obj
  have hns := M.ns
  obtain ⟨G', g1, g2⟩ := restrict h' fun b => decide (b ≠ e)
  have gk : ∀ b, b ≠ e → G'.get? b = h'.get? b := fun b hb => g1 b (decide_eq_true hb)
  have ge : G'.get? e = none := g2 e (by simp)
  have old : ∀ b o, hp.get? b = some o → G'.get? b = some o := fun b o q => (gk b (Nat.ne_of_lt (Nat.lt_of_lt_of_le (Heap.lt_size q) M.new))).trans (M.keep b o q)
  have ob : ObjOk X.prog X.w (upd H1 d (.xd kvs)) G' d (.xd kvs) := ⟨_, hns.at (fun o q => (gk d M.dne).trans q), r⟩
  have J : Inv X pins σ (upd H1 d (.xd kvs)) ⟨G', g, dr, tk', os⟩ := I1.laid (t' := tk') old M.dbig ob
  refine ⟨e, oe, fv, ⟨G', g, dr, tk', os⟩, _, .ref C, some d, rfl, J, fun b o q => ?_, ge, hoe, ⟨hc, hd⟩, hdat, h1, ?_, rfl, I1.bare, raises_own T.exC T.tyC, q d (I1.hok.fresh M.dbig)⟩
  · by_cases hb : b = e
    · have q' : G'.get? b = some o := q
      rw [hb, ge] at q'; cases q'
    · exact (gk b hb).symm.trans q
  · rw [upd_ne (Ne.symm M.dne)]
    exact I1.hok.fresh M.new
/-- C(e), the field named f -/
def tMkS (C : Addr) (f : Str) (ta : TA) : St → Hp → XK → Prop := fun σ H Q => ta σ H fun vs H1 => ∃ v, vs = [v] ∧ ∀ d, H1 d = none → Q (.ref C) (some d) (upd H1 d (.xd [(f, v)]))
theorem pmk_sup1 {f msg : Str} {k' : Nat} {pa pb p0 p1 p2 p3 p4 p5 q1 q2 q3 q4 : Pos} {a : Expr} {ta : TA} {p pos : Pos} {k : Nat} (hfile : ((X.prog.main.file : Str) == file) = true)
    (T : PySem.SupX.SupTxt X.K file X.prog.main.scope nm qual [f] (PySem.SupX.supA1 f pa pb) [PySem.SupX.supE msg k' p0 p1 p2 p3 p4 p5, PySem.SupX.supF f q1 q2 q3 q4] C fI) (Y : PySem.SupX.Sup1 qual f msg k' pa pb p0 p1 p2 p3 p4 p5 q1 q2 q3 q4)
    (gC : X.mg nm = some (.ref C)) (hr : Room k X.A) (ha : PA X [a] ta) (hg : Gl X nm := by rfl) (hdb : (nm == ("__debug__" : Str)) = false := by decide)
    (he : starEach (a :: []) X.env = (false, eval a X.env) :: starEach [] X.env := by rfl) (hpl : (backTo pos (starEach [] X.env)).any (·.1) = false := by rfl) :
    PMk X (.Call (.Name nm p) [a] [] pos) (tMkS C f ta) := by
  intro pins s σ H Q I h
  refine wpAny_Call_Name_kw (ld_glob I hg gC ?_ hdb)
  refine PySem.W.callWith_K (h₀ := X.base) I.ok.mod.kin T.kC (thn (ha.run pos pins s σ H _ I h) fun us s1 hh => ?_) he hpl
  obtain ⟨vs, H1, I1, r1, v, ev, q1⟩ := hh
  subst ev
  refine ⟨I1.kIn, ?_⟩
  cases r1 with
  | cons rv rn =>
    rename_i v' us'
    cases rn
    show wpAny _ _ (call (.ref C) [v']) _ _ _
    have hlim := I1.nolimit
    have hM := I1.mod
    obtain ⟨mb, hb1, hb2⟩ := hM.blt
    have hmg : s1.heap.Ns mainGlobals X.mg := hM.glob.keeps I1.bk
    have hmb : s1.heap.Ns builtinsNs mb := hb1.keeps I1.bk
    obtain ⟨hp, g, dr, tk, os⟩ := s1
    refine wpAny_call (PySem.SupX.sup_made T I1.kIn (PySem.SupX.one_size _) (mA := fun y => if y = f then some v' else none) (fun A' s' x t0 R' hd X' k1 hx hnx hq => ?_) fun h' tk' e d M => ?_)
    · refine PySem.SupX.sup_init1 (mg := X.mg) (mb := mb) hfile T Y X' (hlim.keeps k1) (hmg.keeps k1) (hmb.keeps k1) hb2 hx hnx ?_ hq
      rw [hd]
      have := hr.dp
      omega
    · refine mk_sup T I1 M (fun g => ?_) q1
      by_cases hw : g = f
      · subst hw
        rw [if_pos rfl]
        have z : List.lookup g [(g, v)] = some v := by simp [List.lookup]
        rw [z]
        exact rv
      · rw [if_neg hw]
        have qw : (g == f) = false := by simpa using hw
        have z : List.lookup g [(f, v)] = none := by simp [List.lookup, qw]
        rw [z]
        trivial
end
end L2

set_option autoImplicit true
set_option Elab.async false
set_option linter.all false
set_option maxRecDepth 100000
set_option maxHeartbeats 4000000
/-! Rules of our own: enumerate over a text, min of a list of data, text * int. -/
namespace L2
open PySem PySem.Spec PyProof.Rows

/-! ### enumerate(text) -/
/-- each sign in a new pair with its place -/
def Ites (z : Str) : It :=
  ⟨fun i _ => i < z.cps.size, fun i H v H' => ∃ T c, v = .ref T ∧ H T = none ∧ H' = upd H T (.tup [.int (i : Nat), .str ⟨#[c]⟩]) ∧ z.cps[i]? = some c, fun i _ => i = z.cps.size⟩
theorem turn_enumS {P : Program} {w : World} {K : PySem.W.Frag} {elts : List Expr} {kk : Nat} {tpos : Pos} (z : Str) (t : Tok) (e it : Addr) (ty : String) (hty : ty = "str_ascii_iterator" ∨ ty = "str_iterator") :
    Turn P w K (.Tuple elts kk tpos) (Ites z) [e, it] e (fun i h => (∃ old, IsEnum h e it ((i : Nat) : Int) old) ∧ h.IsStrIter it ty z t i ∧ e ≠ it) where
  mem := by simp
  obj := fun i h st b hb => by
    obtain ⟨⟨old, he⟩, ⟨o, ho, hc, hd⟩, _⟩ := st
    have e' : b = e ∨ b = it := by simpa using hb
    rcases e' with q | q
    · rw [q]; exact ⟨_, he, fun v q => nomatch q⟩
    · rw [q]; exact ⟨o, ho, fun v q => by rw [hd] at q; cases q⟩
  keep := fun i h h' st k => by
    obtain ⟨⟨old, he⟩, ⟨o, ho, r⟩, hne⟩ := st
    exact ⟨⟨old, k e (by simp) _ he⟩, ⟨o, k it (by simp) o ho, r⟩, hne⟩
  item := by
    intro X hP hw hK hc i pins s σ H E I hf st hg
    subst hP hw hK
    obtain ⟨⟨old, he⟩, hit, hne⟩ := st
    have hel : e < s.heap.objs.size := Heap.lt_size he
    have hil : it < s.heap.objs.size := by obtain ⟨_, q, _⟩ := hit; exact Heap.lt_size q
    have D : Draws X.prog X.w X.A.in1 it [it] z.cps.size (fun i v => ∃ c u, z.cps[i]? = some c ∧ v = .str ⟨#[c]⟩ u) (fun i h => h.IsStrIter it ty z t i) := by
      rcases hty with q | q
      · rw [q]; exact Draws.strAscii (A := X.A.in1) (I.ok.hd hc) it z t
      · rw [q]; exact Draws.strWide (A := X.A.in1) (I.ok.hd hc) it z t
    refine wpAny_pyNext_enum_itemD D he hit hg hne (by simpa using hne) fun x h' tk hx ho hit' hT hsz hk => ?_
    obtain ⟨c, u, hcx, rfl⟩ := hx
    refine ⟨_, rfl, wpAny_letOwnedTupleGo_enum (s := { s with heap := h', toks := tk + 1 }) ho fun h'' he' sb => ?_⟩
    have hT2 : h''.get? s.heap.objs.size = some { cls := .type "tuple", data := .seq #[.int i tk, .str ⟨#[c]⟩ u] } := (sb.2 _ (Nat.ne_of_gt hel)).trans hT
    have new : ObjOk X.prog X.w (upd H s.heap.objs.size (.tup [.int (i : Nat), .str ⟨#[c]⟩])) h'' s.heap.objs.size (.tup [.int (i : Nat), .str ⟨#[c]⟩]) :=
      ⟨by show 2 ≤ sizeLine; decide, [.int i tk, .str ⟨#[c]⟩ u], .cons ⟨_, rfl⟩ (.cons ⟨_, rfl⟩ .nil), ⟨_, hT2, rfl, _, rfl⟩⟩
    have I1 : Inv X pins σ (upd H s.heap.objs.size (.tup [.int (i : Nat), .str ⟨#[c]⟩])) { s with heap := h'', toks := tk + 1 } :=
      I.turnedNew (ch := [e, it]) (fun b ob hb q => (sb.2 b (fun y => hb (by simp [y]))).trans (hk b ob (fun y => hb (by simp [y])) (fun y => hb (by simp [y])) q)) hf (Nat.le_refl _) new
    refine ⟨.ref s.heap.objs.size, _, I1, rfl, ⟨_, c, rfl, I.hok.fresh (Nat.le_refl _), rfl, hcx⟩, ⟨⟨.str ⟨#[c]⟩ u, ?_⟩, ?_, hne⟩, fun b hb => ?_⟩
    · have e1 : ((i + 1 : Nat) : Int) = (i : Int) + 1 := by omega
      rw [e1]; exact he'
    · obtain ⟨o, q, r⟩ := hit'
      exact ⟨o, (sb.2 it (Ne.symm hne)).trans q, r⟩
    · have hb' : b < s.heap.objs.size := by
        have e' : b = e ∨ b = it := by simpa using hb
        rcases e' with y | y
        · rw [y]; exact hel
        · rw [y]; exact hil
      rw [upd_ne (Nat.ne_of_lt hb')]
      exact (hf b hb).1
  done := by
    intro X hP hw hK hc i pins s σ H E I hf st hg
    subst hP hw hK
    obtain ⟨⟨old, he⟩, hit, hne⟩ := st
    obtain ⟨f0, f1, f2, f3, f4, f5⟩ := hf it (by simp)
    have hi : i = z.cps.size := hg
    subst hi
    have D : Draws X.prog X.w X.A.in1 it [it] z.cps.size (fun i v => ∃ c u, z.cps[i]? = some c ∧ v = .str ⟨#[c]⟩ u) (fun i h => h.IsStrIter it ty z t i) := by
      rcases hty with q | q
      · rw [q]; exact Draws.strAscii (A := X.A.in1) (I.ok.hd hc) it z t
      · rw [q]; exact Draws.strWide (A := X.A.in1) (I.ok.hd hc) it z t
    exact wpAny_pyNext_enum_endD D he hit fun h' eb => ⟨rfl, I.turned (t' := s.toks) (fun b o hb q => eb b o hb q) f0 f1 f3 f4 f5⟩
  self := fun A i s Q E st h => by
    obtain ⟨⟨_, he⟩, _⟩ := st
    exact wpAny_pyIter_enum he h
def iEnumS (ta : TA) : TI := fun σ H R => ta σ H fun vs H1 => ∃ z, vs = [.str z] ∧ R (Ites z) H1
theorem pi_enumS {X : Cx} {e : Expr} {ta : TA} {p pos tpos : Pos} {elts : List Expr} {kk : Nat} (hg : Gl X "enumerate") (hm : X.mg "enumerate" = none) (ha : PA X [e] ta) (hs : starEach [e] X.env = [(false, eval e X.env)] := by rfl) :
    PI X (.Tuple elts kk tpos) (.Call (.Name "enumerate" p) [e] [] pos) (iEnumS ta) := by
  refine ⟨fun pins s σ H R I h => ?_⟩
  refine Call_ (ld_blt I hg hm boot_enumerate (PyProof.Rows.callWith_type1 (thn (ha.run pos pins s σ H _ I h) fun us s1 ⟨vs, H1, I1, r1, q1⟩ => ?_) hs rfl))
  obtain ⟨z, ex, q⟩ := q1
  subst ex
  cases r1 with
  | cons r rr =>
    cases rr
    obtain ⟨t, rfl⟩ := r
    refine call_enumerate_str fun h' he hit hsz hk => wpAny_pyIter_enum he ?_
    have I2 : Inv X pins σ H1 { s1 with heap := h' } := I1.kept (t' := s1.toks) hk
    have hty : strIterType z = "str_ascii_iterator" ∨ strIterType z = "str_iterator" := by
      unfold strIterType
      split
      · exact .inl rfl
      · exact .inr rfl
    refine ⟨s1.heap.objs.size + 1, [s1.heap.objs.size + 1, s1.heap.objs.size], _, _, H1, rfl, I2, turn_enumS z t (s1.heap.objs.size + 1) s1.heap.objs.size (strIterType z) hty, ⟨⟨.none, he⟩, hit, Nat.succ_ne_self _⟩, fun b hb => ?_, q⟩
    have e' : b = s1.heap.objs.size + 1 ∨ b = s1.heap.objs.size := by simpa using hb
    have hle : s1.heap.objs.size ≤ b := by
      rcases e' with y | y
      · rw [y]; exact Nat.le_add_right _ _
      · rw [y]; exact Nat.le_refl _
    exact I1.fpOk hle (I1.hok.fresh hle)
theorem walk_enumS {z : Str} : Walk (Ites z) z.cps.size (fun _ => True) (YPair (fun i => some (.int (i : Nat))) (fun i => z.cps[i]?.map fun c => .str ⟨#[c]⟩)) := by
  refine ⟨fun _ _ hi _ => hi, fun _ _ => rfl, fun i H v H' _ _ y => ?_⟩
  obtain ⟨T, c, h1, h2, h3, h4⟩ := y
  exact ⟨T, .int (i : Nat), .str ⟨#[c]⟩, h1, h2, h3, rfl, by simp [h4]⟩

/-! ### min of a list of data -/
section
variable {X : Cx}
/-- min(xs) of data that can be compared: the item at the first place of the least -/
def rMinD (K : PySem.W.Frag) : List V → Hp → VK → Prop := fun vs H Q => ∃ (a : Addr) (xs : List V) (d : PyData) (ds : List PyData), vs = [V.ref a] ∧ SqL K H a xs ∧ DpAll K H xs (d :: ds) ∧ PySem.W.AlikeAll (d :: ds) ∧ PyData.depthAll (d :: ds) ≤ 60 ∧
  ∀ (i : Nat) (v : V), xs[i]? = some v → (d :: ds).getD i .none = PySem.W.minD d ds → Q v H
theorem cr_minD (hc : X.calm = true) (hu : X.A.units + 64 < cLine) : CallR X (.builtin "min") (rMinD X.K) := by
  intro pins s σ H vs us Q I r h
  obtain ⟨a, xs, d, ds, rfl, hs, hD, hA, hd, q⟩ := h
  obtain ⟨its, rv, hl, _⟩ := I.list hs
  rw [Vals.ref1 r]
  obtain ⟨as, hr⟩ := Dp.readsAll I (d :: ds) xs its hD rv
  have hr' : ReadsAll s.heap its.toArray.toList (d :: ds) as := hr
  have hn : its.toArray.size = ds.length + 1 := PySem.W.readsAll_len hr'
  refine PySem.call_min_walkH (PySem.W.iter_listW (A := X.A.in1) (I.ok.hd hc) hl.isList fun s₂ e W st hfp hw hk => ?_)
  refine ⟨_, _, _, _, _, _, _, s.heap, _, rfl, W, st, hfp, by omega, hw, hk, PySem.W.cmpIn_lt (A := X.A.in1) hr' hA (by show X.A.units + 1 + _ < _; omega), fun v s' hP m => ?_⟩
  obtain ⟨h', tk, rfl, hk'⟩ := PySem.W.moved_old e rfl m
  have e1 : its.toArray.size - 1 = ds.length := by omega
  rw [e1] at hP
  have e2 := (PySem.W.argBest_fold PySem.W.dataLt PyData.none d ds ds.length (Nat.le_refl _)).2
  rw [List.take_length] at e2
  have hP' : its[argBest (fun i j => PySem.W.dataLt ((d :: ds).getD i .none) ((d :: ds).getD j .none)) ds.length]? = some v := by simpa using hP
  have hlen := rv.length
  have hi := (List.getElem?_eq_some_iff.mp hP').1
  obtain ⟨u, hu', ru⟩ := rv.get (i := argBest (fun i j => PySem.W.dataLt ((d :: ds).getD i .none) ((d :: ds).getD j .none)) ds.length) (x := xs[argBest (fun i j => PySem.W.dataLt ((d :: ds).getD i .none) ((d :: ds).getD j .none)) ds.length]'(by omega)) (by simp)
  rw [hP'] at hu'
  cases hu'
  exact ⟨_, H, I.kept (t' := tk) hk', ru, q _ _ (by simp) e2⟩
end

/-! ### text * int -/
def repS (x : Str) (n : Int) : Str := ⟨(List.replicate n.toNat x.cps.toList).flatten.toArray⟩
theorem sum_rep (m : Nat) : ∀ k : Nat, (List.replicate k m).sum = k * m
  | 0 => by simp
  | k + 1 => by rw [List.replicate_succ, List.sum_cons, sum_rep m k, Nat.succ_mul, Nat.add_comm]
theorem foldl_cat : ∀ (l : List (Array Nat)) (a : Array Nat), l.foldl (· ++ ·) a = ⟨a.toList ++ (l.map Array.toList).flatten⟩
  | [], a => by simp
  | b :: l, a => by
    rw [List.foldl_cons, foldl_cat l]
    simp
section
variable {X : Cx}
theorem op_mul_str : OpR X (binaryOp .Mult) (fun x y H Q => ∃ (z : Str) (n : Int), x = .str z ∧ y = .int n ∧ -(2 ^ 63) ≤ n ∧ n < 2 ^ 63 ∧ z.length * n.toNat ≤ sizeLine ∧ Q (.str (repS z n)) H) := by
  intro pins s σ H x y v u Q I rx ry h
  obtain ⟨z, n, rfl, rfl, h1, h2, h3, q⟩ := h
  obtain ⟨t, rfl⟩ := rx
  obtain ⟨t', rfl⟩ := ry
  refine P.mul_str ?_ ?_ ?_ ?_
  · simp; omega
  · intro hn hb
    have hz : z.length ≠ 0 := fun e => by simp [e] at hb
    have h4 : (z.length : Int) * n ≤ sizeLine := by
      have : ((z.length * n.toNat : Nat) : Int) ≤ (sizeLine : Nat) := by exact_mod_cast h3
      rw [Int.natCast_mul, Int.toNat_of_nonneg (by omega)] at this
      exact this
    have h5 : (sizeLine : Int) ≤ 2 ^ 63 - 1 := by rw [sizeLine_eq]; decide
    have : (z.length : Int) ≤ (2 ^ 63 - 1) / n := Int.le_ediv_of_mul_le (by omega) (by omega)
    omega
  · intro hn hb
    exact decide_eq_false (by omega)
  · by_cases hn : n < 1
    · rw [if_pos hn]
      have e : repS z n = Str.empty := by
        unfold repS
        rw [show n.toNat = 0 by omega]
        rfl
      rw [e] at q
      refine ⟨by decide, ?_⟩
      exact ⟨.str Str.empty, H, I.tok _, ⟨_, rfl⟩, q⟩
    · rw [if_neg hn]
      by_cases hb : (n == 1 || z.length == 0) = true
      · rw [if_pos hb]
        have e : repS z n = z := by
          rcases (Bool.or_eq_true _ _).mp hb with h | h
          · have : n = 1 := by simpa using h
            subst this
            unfold repS
            simp
          · have h0 : z.cps = #[] := by
              have : z.cps.size = 0 := by simpa [Str.length] using h
              exact Array.eq_empty_of_size_eq_zero this
            unfold repS
            rw [h0]
            have : (List.replicate n.toNat (#[] : Array Nat).toList).flatten = [] := by
              simp
            rw [this]
            cases z; simp only at h0; rw [h0]
        rw [e] at q
        exact ⟨.str z, H, I, ⟨_, rfl⟩, q⟩
      · rw [if_neg hb]
        have e : repS z n = ⟨(List.replicate n.toNat z.cps).foldl (· ++ ·) #[]⟩ := by
          unfold repS
          rw [foldl_cat]
          simp
        have hl : (repS z n).length ≤ sizeLine := by
          unfold repS Str.length
          simp only [List.size_toArray, List.length_flatten, List.map_replicate, Array.length_toList]
          rw [sum_rep, Nat.mul_comm]
          exact h3
        rw [e] at q hl
        exact ⟨hl, .str _, H, I.tok _, ⟨_, rfl⟩, q⟩
end
end L2

set_option autoImplicit true
set_option Elab.async false
set_option linter.all false
set_option maxRecDepth 100000
set_option maxHeartbeats 4000000
/-! len(set(xs)) of unlike texts. -/
namespace SX
open PySem PyProof.Rows
section
variable {prog : Program} {w : World} {A : Around} {R : Result → Shared → Prop} {I : Addr} {fp wr : List Addr} {G : Array GenState → Array GenState → Prop} {n : Nat} {P : Nat → Value → Prop} {St : Nat → Shared → Prop}
theorem take_step {xs : List Str} {i : Nat} (hi : i < xs.length) (k' : Str) : ((xs.take i).any (· == k') || decide (k' = xs.getD i Str.empty)) = (xs.take (i + 1)).any (· == k') := by
  have e2 : xs.take (i + 1) = xs.take i ++ [xs[i]] := by
    rw [List.take_add_one, List.getElem?_eq_getElem hi]; rfl
  have e1 : xs.getD i Str.empty = xs[i] := by
    rw [List.getD_eq_getElem?_getD, List.getElem?_eq_getElem hi]; rfl
  rw [e2, List.any_append, e1]
  congr 1
  simp only [List.any_cons, List.any_nil, Bool.or_false]
  by_cases h : k' = xs[i]
  · rw [h]; simp
  · rw [decide_eq_false h]
    exact (beq_eq_false_iff_ne.mpr fun e => h e.symm).symm
theorem take_new {xs : List Str} (hn : xs.Nodup) {i : Nat} (hi : i < xs.length) : (xs.take i).any (· == xs.getD i Str.empty) = false := by
  have e1 : xs.getD i Str.empty = xs[i] := by
    rw [List.getD_eq_getElem?_getD, List.getElem?_eq_getElem hi]; rfl
  rw [e1]
  cases hb : (xs.take i).any (· == xs[i]) with
  | false => rfl
  | true =>
    obtain ⟨y, hy, ey⟩ := List.any_eq_true.mp hb
    have ey2 : y = xs[i] := eq_of_beq ey
    rw [ey2] at hy
    obtain ⟨j, hj⟩ := List.mem_iff_getElem?.mp hy
    rw [List.getElem?_take] at hj
    by_cases hji : j < i
    · rw [if_pos hji] at hj
      obtain ⟨hjl, ej⟩ := List.getElem?_eq_some_iff.mp hj
      exact absurd ej (List.pairwise_iff_getElem.mp hn j i hjl hi hji)
    · rw [if_neg hji] at hj
      cases hj
theorem fill (W : WalksS prog w A.in1 I fp wr G n P St) (S : Addr) (hSf : S ∉ fp) (xs : List Str) (hsz : xs.length = n) (hnd : xs.Nodup) (hb : n + 1 < scanBound)
    (hval : ∀ i v, P i v → ∃ t, v = .str (xs.getD i Str.empty) t) :
    ∀ (k i : Nat) (s : Shared), n - i = k → i ≤ n → St i s →
      s.heap.SetOf (PySem.strKind prog w) S (fun k' => (xs.take i).any (· == k')) i →
      (∀ s', Moved (S :: wr) G s s' → s'.heap.SetOf (PySem.strKind prog w) S (fun k' => (xs.take n).any (· == k')) n → R (.ok (.ret .none)) s') →
      codeAny (model prog w) A (.builtin "set.update.loop" ⟨[.ref S, .ref I], []⟩) R s := by
  have hSw : S ∉ wr := fun h => hSf (W.sub _ h)
  have hsub : ∀ b ∈ wr, b ∈ S :: wr := fun b hb => List.mem_cons_of_mem _ hb
  intro k
  induction k with
  | zero =>
    intro i s hk hi hst hS hR
    have hin : i = n := by omega
    subst hin
    refine codeAny_builtin PyProof.Rows.F.entry_set_update_loop ?_
    rw [Around.under_plainId PyProof.Rows.F.plain_set_update_loop _]
    refine wpAny_bind (W.done s _ _ hst fun s' hm => ?_)
    refine wpAny_pure (hR s' (hm.mono hsub) ?_)
    obtain ⟨o, es, ep, t, ho, rest⟩ := hS
    exact ⟨o, es, ep, t, hm.heap S _ hSw ho, rest⟩
  | succ k ih =>
    intro i s hk hi hst hS hR
    have hlt : i < n := by omega
    refine codeAny_builtin PyProof.Rows.F.entry_set_update_loop ?_
    rw [Around.under_plainId PyProof.Rows.F.plain_set_update_loop _]
    refine wpAny_bind (W.item i s _ _ hlt hst fun v s' hP hst' hm => ?_)
    obtain ⟨t, rfl⟩ := hval i v hP
    have hS' : s'.heap.SetOf (PySem.strKind prog w) S (fun k' => (xs.take i).any (· == k')) i := by
      obtain ⟨o, es, ep, tb, ho, rest⟩ := hS
      exact ⟨o, es, ep, tb, hm.heap S _ hSw ho, rest⟩
    refine wpAny_bind (wpAny_holding ?_)
    unfold setAdd
    refine wpAny_holding ?_
    refine wpAny_bind ((PySem.strKind prog w).pyHash (k := xs.getD i Str.empty) (strKind_is _ _ _ _) ?_)
    refine wpAny_setAddHashed_of (knd := PySem.strKind prog w) (s := { s' with toks := s'.toks + 1 }) (strKind_is _ _ _ _) rfl hS' (by omega) fun h' hsb hS2 => ?_
    have hSi : h'.SetOf (PySem.strKind prog w) S (fun k' => (xs.take (i + 1)).any (· == k')) (i + 1) :=
      SetOf_congr hS2 (fun k' => take_step (by omega) k') (by rw [take_new hnd (by omega)]; rfl)
    refine wpAny_pure ⟨plainId_quiet PyProof.Rows.F.plain_set_update_loop _, ih (i + 1) _ (by omega) hlt (W.frame _ s' _ _ hst' (Nat.le_succ _) fun b hb o e => ?_) hSi fun s'' hm'' hS'' => ?_⟩
    · rw [hsb.2 b (fun h : b = S => hSf (by rw [← h]; exact hb))]; exact e
    · refine hR s'' (Moved.trans W.gtrans ((hm.mono hsub).then_heap (Nat.le_succ _) fun b o hb e => ?_) hm'') hS''
      rw [hsb.2 b (fun h : b = S => hb (by rw [h]; exact List.mem_cons_self))]; exact e
end
section
variable {prog : Program} {w : World} {A : Around} {E : Value → Shared → Prop} {s : Shared}
theorem call_set_texts {l : Addr} {items : Array Value} {xs : List Str} {Q : Value → Shared → Prop}
    (hh : A.handled = none) (hl : s.heap.IsList l items) (hi : PyProof.Rows.StrsAre items.toList xs) (hnd : xs.Nodup) (hb : xs.length + 1 < scanBound)
    (h : ∀ (h' : Heap) (tk : Nat), h'.SetOf (PySem.strKind prog w) s.heap.objs.size (fun k' => (xs.take xs.length).any (· == k')) xs.length →
      (∀ b o, b < s.heap.objs.size → s.heap.get? b = some o → h'.get? b = some o) → Q (.ref s.heap.objs.size) { s with heap := h', toks := tk }) :
    wpAny (model prog w) A (call (.type "set") [.ref l]) Q E s := by
  have hsz : xs.length = items.size := by
    have := hi.length
    simpa using this.symm
  obtain ⟨c, tl, hmro⟩ := PySem.F.called_set.mro
  have hmade := PySem.F.called_set.made
  have hsub := PySem.F.called_set.sub
  refine wpAny_call (codeAny_of_tree ?_)
  show wpAny _ _ (callAny (.type "set") _) _ _ _
  refine wpAny_pure ⟨Code.quiet_builtin _ (by decide +kernel), codeAny_builtin PySem.F.entry_type_call ?_⟩
  rw [Around.under_plain (weight_type_call_type "set" [.ref l] []) rfl]
  have h1 := PySem.F.called_set.notType
  have h2 := PySem.F.called_set.canCreate
  have hct := PySem.F.typeCall_set_1 (.ref l)
  repeat (any_goals (first | assumption | wp_step))
  refine codeAny_mono (code_set_new_1 (.ref l) (E := E) (Q₁ := fun obj s₁ => ∃ led : Bool, obj = .ref s.heap.objs.size ∧ s₁ = { s with heap := s.heap.push { cls := .type "set", dict := none, data := .set #[] 0 (.fresh 0 0 led) } }) fun led => ⟨led, rfl, rfl⟩) fun r s₁ hr => ?_
  cases r with
  | error e => exact hr
  | ok fl =>
    cases fl with
    | ret obj =>
      obtain ⟨led, rfl, rfl⟩ := hr
      have hS : (s.heap.push { cls := .type "set", dict := none, data := .set #[] 0 (.fresh 0 0 led) }).get? s.heap.objs.size = some { cls := .type "set", dict := none, data := .set #[] 0 (.fresh 0 0 led) } := Heap.get?_push_size _ rfl
      have hT : Shared.TypeIs { s with heap := s.heap.push { cls := .type "set", dict := none, data := .set #[] 0 (.fresh 0 0 led) } } (.ref s.heap.objs.size) "set" := ⟨_, hS, rfl⟩
      have hli := PySem.F.called_set.init.lookup
      have hbi := PySem.F.called_set.init.bind (.ref s.heap.objs.size)
      repeat (any_goals (first | assumption | wp_step))
      refine codeAny_mono (codeAny_call_builtin (R := wants (fun r s₂ => r = .none ∧ ∃ h' tk, s₂ = { s with heap := h', toks := tk } ∧
          h'.SetOf (PySem.strKind prog w) s.heap.objs.size (fun k' => (xs.take xs.length).any (· == k')) xs.length ∧
          (∀ b o, b < s.heap.objs.size → s.heap.get? b = some o → h'.get? b = some o)) E) PySem.F.called_set.init.plain PySem.F.entry_set_init (check_set_init_1 hT ?_)) fun r₂ s₂ hr₂ => ?_
      · obtain ⟨ol, hol, hcl, nl, hdl⟩ := hl
        obtain ⟨ocls, odict, odata, oslots⟩ := ol
        simp only at hcl hdl
        subst hcl; subst hdl
        have hol' : (s.heap.push { cls := .type "set", dict := none, data := .set #[] 0 (.fresh 0 0 led) }).get? l = some { cls := .type "list", dict := odict, data := .seq items nl, slots := oslots } := Heap.get?_push_of_some _ hol
        have hsls := PySem.F.sub_list_set
        have hslf := PySem.F.sub_list_frozenset
        have hne : (Value.type "list" == Value.type "dict") = false := by decide
        have hl1 : (s.heap.push { cls := .type "set", dict := none, data := .set #[] 0 (.fresh 0 0 led) }).IsList l items := ⟨_, hol', rfl, nl, rfl⟩
        unfold Builtin.«set.__init__» noKeywords Builtin.Frozenset.updateFrom
        generalize hPI : pyIter = PI
        wp_walk
        subst hPI
        refine wpAny_pyIter_list hl1 ?_
        refine wpAny_bind (wpAny_runValue ?_)
        have hlS : l < s.heap.objs.size := Heap.lt_size hol
        have hh3 : A.in1.in1.in1.handled = none := by simp [hh]
        have hneI : l ≠ (s.heap.push { cls := .type "set", dict := none, data := .set #[] 0 (.fresh 0 0 led) }).objs.size := by
          rw [Heap.size_push]; exact Nat.ne_of_lt (Nat.lt_succ_of_lt hlS)
        have hSf : s.heap.objs.size ∉ [(s.heap.push { cls := .type "set", dict := none, data := .set #[] 0 (.fresh 0 0 led) }).objs.size, l] := by
          rw [Heap.size_push]; simp only [List.mem_cons, List.mem_singleton, List.not_mem_nil, or_false, not_or]
          exact ⟨Nat.ne_of_lt (Nat.lt_succ_self _), Nat.ne_of_gt hlS⟩
        have hval : ∀ (i : Nat) (v : Value), items[i]? = some v → ∃ t, v = .str (xs.getD i Str.empty) t := fun i v hv => SS.strs_at hi i v (by rw [Array.getElem?_toList]; exact hv)
        refine fill ((Walks.list hh3 _ l hneI items).toS) s.heap.objs.size hSf xs hsz hnd (by omega) hval (items.size - 0) 0 _ (by omega) (Nat.zero_le _)
          ⟨⟨_, Heap.get?_push_size _ rfl, rfl, rfl⟩, (hl1.push _)⟩ ?hS0 ?hR
        case hS0 =>
          have hget : ((s.heap.push { cls := .type "set", dict := none, data := .set #[] 0 (.fresh 0 0 led) }).push { cls := .type "list_iterator", data := .fields #[.ref l, .int 0 0] }).get? s.heap.objs.size
              = some { cls := .type "set", dict := none, data := .set #[] 0 (.fresh 0 0 led) } := Heap.get?_push_of_some _ hS
          exact PyProof.Rows.SetOf_congr ((PyProof.Rows.setObjOf_fresh (knd := PySem.strKind prog w) led).setOf hget (by unfold scanBound; omega)) (fun _ => rfl) rfl
        case hR =>
          intro s' hm hS'
          obtain ⟨h', g', d', tk', os'⟩ := s'
          have eg : g' = s.gens := hm.gens
          have ed : d' = s.drawn := hm.drawn
          have eo : os' = s.os := hm.os
          subst eg; subst ed; subst eo
          show wpAny _ _ _ _ _ _
          refine wpAny_pure ?_
          show wpAny _ _ (ret Value.none) _ _ _
          rw [← hsz] at hS'
          refine wpAny_pure ⟨rfl, h', tk', rfl, hS', fun b o hb e => ?_⟩
          have hb1 : b ≠ s.heap.objs.size := Nat.ne_of_lt hb
          have hb2 : b ≠ (s.heap.push { cls := .type "set", dict := none, data := .set #[] 0 (.fresh 0 0 led) }).objs.size := by
            rw [Heap.size_push]; exact Nat.ne_of_lt (Nat.lt_succ_of_lt hb)
          exact hm.heap b o (by simp only [List.mem_cons, List.mem_singleton, List.not_mem_nil, or_false, not_or]; exact ⟨hb1, hb2⟩) (Heap.get?_push_of_some _ (Heap.get?_push_of_some _ e))
      · cases r₂ with
        | error e => exact hr₂
        | ok fl₂ =>
          cases fl₂ with
          | ret r =>
            obtain ⟨rfl, h', tk, rfl, hS', hk'⟩ := hr₂
            repeat (any_goals (first | assumption | wp_step))
            exact h _ _ hS' hk'
          | _ => exact hr₂.elim
    | _ => exact hr.elim
end
end SX
namespace L2
open PySem PySem.Spec PyProof.Rows
/-- len(set(xs)), xs unlike texts -/
def tLenSetS (K : PySem.W.Frag) (ta : TE) : TE := fun σ H Q => ta σ H fun x H1 => ∃ (l : Addr) (xs : List Str), x = .ref l ∧ SqL K H1 l (xs.map V.str) ∧ xs.Nodup ∧ xs.length ≤ 4000 ∧ Q (.int (xs.length : Nat)) H1
theorem pe_lenSetS {X : Cx} {a : Expr} {ta : TE} {p p2 q pos : Pos} (hc : X.calm = true) (hg : Gl X "len") (hm : X.mg "len" = none) (hg2 : Gl X "set") (hm2 : X.mg "set" = none) (ha : PE X a ta)
    (na : starEach [a] X.env = (false, eval a X.env) :: starEach [] X.env := by rfl) : PE X (.Call (.Name "len" p) [.Call (.Name "set" p2) [a] [] q] [] pos) (tLenSetS X.K ta) := by
  refine ⟨fun pins s σ H Q I h => ?_⟩
  refine Call_ (ld_blt I hg hm boot_len ?_)
  refine PyProof.Rows.callWith_builtin1 (PyProof.Rows.args_cons ?_ rfl) rfl rfl
  refine Call_ (ld_blt I hg2 hm2 boot_set ?_)
  refine PyProof.Rows.callWith_type1 (PyProof.Rows.args_cons (thn (ha.run pins s σ H _ I h) fun v s1 ⟨x, H1, I1, r1, q1⟩ => PyProof.Rows.args_nil ?_) na) na rfl
  obtain ⟨l, xs, rfl, hq, hnd, hl, q1⟩ := q1
  cases r1
  obtain ⟨its, r, pl, hz⟩ := I1.list hq
  refine SX.call_set_texts (I1.ok.hd hc) pl.isList (by simpa using strsAre_of r) hnd (by unfold scanBound; omega) fun h' tk hS hk => ?_
  refine PyProof.Rows.args_nil ?_
  obtain ⟨o, es, ep, t, ho, hex, hd, _, _, _, hf, hn⟩ := hS
  have I2 : Inv X pins σ H1 { s1 with heap := h', toks := tk } := I1.kept fun b o e => hk b o (Heap.lt_size e) e
  exact call_len_set ho hex hd hf (by rw [hn]; omega) ⟨.int xs.length, H1, I2.tok _, ⟨_, by rw [hn]⟩, q1⟩
end L2

set_option autoImplicit true
set_option Elab.async false
set_option linter.all false
set_option maxRecDepth 100000
/-! what the laws' own drawing stands on: heaps with a well, lists against the empty list -/
namespace L2
open PySem PySem.Spec PyProof.Rows

/-! ### == and != of a list and an empty one, whatever its items are -/
section
variable {X : Cx}
def rEqNil (K : PySem.W.Frag) : R2 := fun x y H Q => ∃ a b xs, x = .ref a ∧ y = .ref b ∧ SqL K H a xs ∧ SqL K H b [] ∧ Q (.bl xs.isEmpty) H
def rNeNil (K : PySem.W.Frag) : R2 := fun x y H Q => ∃ a b xs, x = .ref a ∧ y = .ref b ∧ SqL K H a xs ∧ SqL K H b [] ∧ Q (.bl (!xs.isEmpty)) H
theorem op_eqNil (hu : X.A.units < cLine) : OpR X (compareOp .Eq) (rEqNil X.K) := by
  intro pins s σ H x y v u Q I rx ry h
  obtain ⟨a, b, xs, rfl, rfl, ha, hb, q⟩ := h
  cases rx
  cases ry
  obtain ⟨its, r1, p1, _⟩ := I.list ha
  obtain ⟨its2, r2, p2, _⟩ := I.list hb
  have n1 : its.length = xs.length := r1.length.symm
  have n2 : its2 = [] := List.eq_nil_of_length_eq_zero r2.length.symm
  subst n2
  cases xs with
  | nil =>
    have n3 : its = [] := List.eq_nil_of_length_eq_zero n1
    subst n3
    exact SeqAt.RcAt.lists (e := fun _ => true) p1.isList p2.isList rfl hu (fun j j1 => absurd j1 (Nat.not_lt_zero j)) _ _ _ _ ⟨.bl _, H, I, rfl, q⟩
  | cons z zs => exact SeqAt.RcAt.lists_lengths p1.isList p2.isList (by simp [n1]) hu _ _ _ _ ⟨.bl _, H, I, rfl, q⟩
theorem op_neNil (hu : X.A.units < cLine) : OpR X (compareOp .NotEq) (rNeNil X.K) := by
  intro pins s σ H x y v u Q I rx ry h
  obtain ⟨a, b, xs, rfl, rfl, ha, hb, q⟩ := h
  cases rx
  cases ry
  obtain ⟨its, r1, p1, _⟩ := I.list ha
  obtain ⟨its2, r2, p2, _⟩ := I.list hb
  have n1 : its.length = xs.length := r1.length.symm
  have n2 : its2 = [] := List.eq_nil_of_length_eq_zero r2.length.symm
  subst n2
  cases xs with
  | nil =>
    have n3 : its = [] := List.eq_nil_of_length_eq_zero n1
    subst n3
    exact SeqAt.RcNeAt.lists (e := fun _ => true) p1.isList p2.isList rfl hu (fun j j1 => absurd j1 (Nat.not_lt_zero j)) _ _ _ _ ⟨.bl _, H, I, rfl, q⟩
  | cons z zs => exact SeqAt.RcNeAt.lists_lengths p1.isList p2.isList (by simp [n1]) hu _ _ _ _ ⟨.bl _, H, I, rfl, q⟩
end

/-- int(n) of an int -/
theorem call_intI {X : Cx} : CallR X (.type "int") (fun xs H Q => ∃ i, xs = [.int i] ∧ Q (.int i) H) := fun pins s σ H xs us Q I r ⟨i, e, q⟩ => call_int1 pins s σ H xs us Q I r (.inl ⟨i, e, q⟩)

theorem sq_wide {x M : Int} (h : 0 < M) (h2 : M ≤ 2 ^ 200) : CMulW (x % M) (x % M) := by
  have h3 := Int.emod_nonneg x (Int.ne_of_gt h)
  have h4 := Int.emod_lt_of_pos x h
  have h5 : (x % M).natAbs < 2 ^ 200 := by
    generalize x % M = y at h3 h4
    omega
  exact wide_mul h5 h5 (by decide) (by decide) (by decide)
theorem atI_head {α : Type} {x : α} {xs : List α} : atI (x :: xs) 0 = some x := atI_nat (j := 0) rfl
theorem sIx_head {α : Type} {x : α} {xs : List α} : seqIndex? 0 (x :: xs).length = some 0 := by
  unfold seqIndex?
  simp
theorem ixN_head {α : Type} {x : α} {xs : List α} : ixN (x :: xs).length 0 = some 0 := by
  unfold ixN
  rw [if_pos (by decide), if_pos (by simp)]
  rfl

/-! ### a test whose outcome is told apart from what follows -/
def tMonoT (t : TT) : TT := fun σ H Q => ∃ Q0 : Bool → Hp → Prop, t σ H Q0 ∧ ∀ b H1, Q0 b H1 → Q b H1
theorem pt_mono {X : Cx} {e : Expr} {t : TT} (h : PT X e t) : PT X e (tMonoT t) :=
  ⟨fun pins s σ H Q I ⟨Q0, h0, k⟩ => thn (h.run pins s σ H Q0 I h0) fun b s1 ⟨H1, I1, q1⟩ => ⟨H1, I1, k b H1 q1⟩⟩

/-! ### f(k = v, ..): all by keywords, in the parameters' order -/
def KwAll (fd : FuncData) (ps : List Str) : Prop := ∀ (s : Shared) (ws : List Value), ws.length = ps.length → BindsTo s fd ⟨[], ps.zip ws⟩ (ps.zip ws)
theorem Fun.kws {K : PySem.W.Frag} {x qual : Str} {st : Stmt} {f : Addr} {fd : FuncData} {ps : List Str} (F : Fun K x qual st f fd)
    (h : ∀ (kV doc pm : Value) (an : Option Addr) (cdv ct : Value) (us : List Value), us.length = ps.length → bindArgs (PySem.W.fnOf x qual (defArgs st) (defBody st) (defScope st) .none kV doc pm an cdv ct) ⟨[], ps.zip us⟩ = pure (ps.zip us)) : KwAll fd ps := by
  obtain ⟨oc, od, kV, doc, pm, an, cdv, ct, osl, rfl, lk, hcd⟩ := F.ex
  exact fun s ws hl => .of_eq (h kV doc pm an cdv ct ws hl)
section
variable {X : Cx} {CX : CXT} {k : Nat} {f : Addr} {fd : FuncData} {ps : List Str} {sp : Sp} {E : XK} {x : Str} {p pos : Pos} {kws : List Keyword} {tk : TA}
def tCallKw (n : Nat) (sp : Sp) (E : XK) (tk : TA) : TE := fun σ H Q => tk σ H fun zs H2 => zs.length = n ∧ sp zs H2 Q E
theorem pe_callKw (F : FnOk X.prog X.w X.K X.mg X.base CX k f fd ps sp) (hr : Room k X.A) (hg : Gl X x) (hm : X.mg x = some (.ref f)) (hk : PySem.W.keepIn X.K (.ref f) = true) (hb : KwAll fd ps) (hx : Passes CX X E)
    (hkw : PK X kws tk) (hall : (backToKw pos (keywordEach kws X.env)).all (·.1.isSome) = true := by rfl) (hks : (backToKw pos (keywordEach kws X.env)).filterMap (·.1) = ps := by rfl)
    (hdb : (x == ("__debug__" : Str)) = false := by decide) (hpl : ((backTo pos (starEach [] X.env)).any (·.1) || (backToKw pos (keywordEach kws X.env)).any (·.1.isNone)) = false := by rfl) :
    PE X (.Call (.Name x p) [] kws pos) (tCallKw ps.length sp E tk) := by
  refine ⟨fun pins s σ H Q I h => ?_⟩
  refine wpAny_Call_Name_kw (ld_glob I hg hm ?_ hdb)
  refine PySem.W.callWith_KW0 (h₀ := X.base) I.ok.mod.kin hk hall (thn (hkw.run pos pins s σ H _ I h) fun ws s2 ⟨zs, H2, I2, rz, hl, q2⟩ => ⟨I2.kIn, ?_⟩) hpl
  rw [hks]
  refine wpAny_call (codeAny_mono (F.run X.A X.stack s2 H2 ⟨[], ps.zip ws⟩ ws zs Q E hr I2.env0 (hb s2 ws (rz.length.symm.trans hl)) rz q2) fun r s' hq => ?_)
  cases r with
  | error e => exact hx pins σ H2 s2 e s' I2 hq
  | ok fl =>
    cases fl with
    | ret u => exact I2.after hq
    | next => exact False.elim hq
    | brk => exact False.elim hq
    | cont => exact False.elim hq
end

/-! ### what a datum's type is -/
def tyS : PyData → String
  | .none => "NoneType"
  | .bool _ => "bool"
  | .int _ => "int"
  | .str _ => "str"
  | .list _ => "list"
  | .tuple _ => "tuple"
  | .dict _ => "dict"
theorem Dp.ty {K : PySem.W.Frag} {H : Hp} {x : V} {d : PyData} (h : Dp K H x d) : TyX K H x (.type (tyS d)) := by
  cases h with
  | non => exact .base .non
  | bl b => exact .base (.bl b)
  | int i => exact .base (.int i)
  | str s => exact .base (.str s)
  | lst hs _ =>
    rcases hs with (h | ⟨o, h⟩) | ⟨o, its, n, hk, hc, _⟩
    · exact .base (.lst h)
    · exact .base (.frz h)
    · exact .kList hk hc
  | tup hs _ =>
    rcases hs with (h | ⟨o, h⟩) | ⟨o, its, n, hk, hc, _⟩
    · exact .base (.tup h)
    · exact .fTuple h
    · exact .kTuple hk hc
/-- isinstance of a datum and a built-in type -/
theorem call_isiD {X : Cx} : CallR X (.builtin "isinstance") (fun xs H Q => ∃ (x : V) (n : String) (d : PyData) (b : Bool), xs = [x, .ty n] ∧ Dp X.K H x d ∧ kitB (tyS d) n = some b ∧ Q (.bl b) H) :=
  fun pins s σ H xs us Q I r ⟨x, n, d, b, e, hd, hk, q⟩ => call_isi pins s σ H xs us Q I r ⟨x, .ty n, _, _, b, e, .ty n, hd.ty, kit_ty hk, q⟩
theorem SqT.same {K : PySem.W.Frag} {H H' : Hp} {a : Addr} {xs : List V} (e : Same H H') (h : SqT K H a xs) : SqT K H' a xs := by
  rcases h with (h | ⟨o, h⟩) | h
  · exact .inl (.inl (e _ _ h))
  · exact .inl (.inr ⟨o, e _ _ h⟩)
  · exact .inr h
mutual
theorem Dp.same {K : PySem.W.Frag} {H H' : Hp} (e : Same H H') : ∀ {d : PyData} {v : V}, Dp K H v d → Dp K H' v d
  | .none, _, h => by cases h; exact .non
  | .bool b, _, h => by cases h; exact .bl b
  | .int i, _, h => by cases h; exact .int i
  | .str s, _, h => by cases h; exact .str s
  | .list ds, _, h => by
    cases h with
    | lst hs ha => exact .lst (e.seq hs) (DpAll.same e ha)
  | .tuple ds, _, h => by
    cases h with
    | tup hs ha => exact .tup (SqT.same e hs) (DpAll.same e ha)
  | .dict _, _, h => by cases h
theorem DpAll.same {K : PySem.W.Frag} {H H' : Hp} (e : Same H H') : ∀ {ds : List PyData} {vs : List V}, DpAll K H vs ds → DpAll K H' vs ds
  | [], _, h => by cases h; exact .nil
  | d :: ds, _, h => by
    cases h with
    | cons h1 h2 => exact .cons (Dp.same e h1) (DpAll.same e h2)
end
theorem DpAll.length {K : PySem.W.Frag} {H : Hp} : ∀ {ds : List PyData} {vs : List V}, DpAll K H vs ds → vs.length = ds.length
  | [], _, h => by cases h; rfl
  | d :: ds, _, h => by
    cases h with
    | cons h1 h2 => simp [DpAll.length h2]
theorem DpAll.get {K : PySem.W.Frag} {H : Hp} : ∀ {ds : List PyData} {vs : List V} {i : Nat} {v : V}, DpAll K H vs ds → vs[i]? = some v → ∃ d, ds[i]? = some d ∧ Dp K H v d
  | [], _, i, v, h, e => by cases h; simp at e
  | d :: ds, _, i, v, h, e => by
    cases h with
    | cons h1 h2 =>
      cases i with
      | zero => simp at e; subst e; exact ⟨d, rfl, h1⟩
      | succ i => simp at e; simpa using DpAll.get h2 e
mutual
/-- how many data are in it -/
def nodes : PyData → Nat
  | .list xs => nodesAll xs + 1
  | .tuple xs => nodesAll xs + 1
  | _ => 1
def nodesAll : List PyData → Nat
  | [] => 0
  | x :: xs => nodes x + nodesAll xs
end
theorem nodes_pos (d : PyData) : 0 < nodes d := by cases d <;> simp [nodes]
theorem nodes_len : ∀ ds : List PyData, ds.length ≤ nodesAll ds
  | [] => Nat.le_refl _
  | d :: ds => by
    have := nodes_len ds
    have := nodes_pos d
    simp only [nodesAll, List.length_cons]
    omega
theorem nodes_get : ∀ {ds : List PyData} {i : Nat} {d : PyData}, ds[i]? = some d → nodes d ≤ nodesAll ds
  | [], i, d, e => by simp at e
  | x :: ds, 0, d, e => by
    simp at e
    subst e
    simp only [nodesAll]
    omega
  | x :: ds, i + 1, d, e => by
    have := nodes_get (show ds[i]? = some d by simpa using e)
    simp only [nodesAll]
    omega
theorem depth_get : ∀ {ds : List PyData} {i : Nat} {d : PyData}, ds[i]? = some d → d.depth ≤ PyData.depthAll ds
  | [], i, d, e => by simp at e
  | x :: ds, 0, d, e => by
    simp at e
    subst e
    exact Nat.le_max_left _ _
  | x :: ds, i + 1, d, e => Nat.le_trans (depth_get (by simpa using e)) (Nat.le_max_right _ _)

/-! ### heaps -/
theorem Same.upd_new {H H' : Hp} {p : Addr} {o : HO} (s : Same H H') (n : H' p = none) : Same H (upd H' p o) := fun b u e => by
  rw [upd_ne (ne_of_none (s b u e) n)]
  exact s b u e
theorem Same.own {H H' : Hp} {p : Addr} {o : HO} (s : Same H H') (n : H p = none) : Same H (upd H' p o) := fun b u e => by
  rw [upd_ne (ne_of_none e n)]
  exact s b u e
theorem sizeOf {n : Nat} (h : n ≤ 1000000) : n ≤ sizeLine := by unfold sizeLine; omega
theorem sizeOfL {n : Nat} (h : n ≤ 1000000) : n < sizeLine := by unfold sizeLine; omega
/-- all but what stands at w and g is as it was -/
def Off (w g : Addr) (H H' : Hp) : Prop := ∀ b o, H b = some o → b ≠ w → b ≠ g → H' b = some o
theorem Off.refl (w g : Addr) (H : Hp) : Off w g H H := fun _ _ e _ _ => e
theorem Off.trans {w g : Addr} {H H1 H2 : Hp} (a : Off w g H H1) (b : Off w g H1 H2) : Off w g H H2 := fun c o e n1 n2 => b c o (a c o e n1 n2) n1 n2
theorem Same.off {w g : Addr} {H H' : Hp} (s : Same H H') : Off w g H H' := fun b o e _ _ => s b o e
theorem Off.new {w g : Addr} {H H' : Hp} {p : Addr} {o : HO} (s : Off w g H H') (n : H' p = none) : Off w g H (upd H' p o) := fun b u e n1 n2 => by
  rw [upd_ne (ne_of_none (s b u e n1 n2) n)]
  exact s b u e n1 n2
theorem Off.w {w g : Addr} {H H' : Hp} {o : HO} (s : Off w g H H') : Off w g H (upd H' w o) := fun b u e n1 n2 => by
  rw [upd_ne n1]
  exact s b u e n1 n2
theorem Off.g {w g : Addr} {H H' : Hp} {o : HO} (s : Off w g H H') : Off w g H (upd H' g o) := fun b u e n1 n2 => by
  rw [upd_ne n2]
  exact s b u e n1 n2
/-- a change of what is new -/
theorem Off.own {w g p : Addr} {H H' : Hp} {o : HO} (s : Off w g H H') (n : H p = none) : Off w g H (upd H' p o) := fun b u e n1 n2 => by
  rw [upd_ne (ne_of_none e n)]
  exact s b u e n1 n2
theorem Off.seq {K : PySem.W.Frag} {w g a : Addr} {H H' : Hp} {xs : List V} (s : Off w g H H') (h : SqL K H a xs) (n1 : a ≠ w) (n2 : a ≠ g) : SqL K H' a xs := by
  rcases h with (h | h) | h
  · exact .inl (.inl (s _ _ h n1 n2))
  · obtain ⟨o, h⟩ := h
    exact .inl (.inr ⟨o, s _ _ h n1 n2⟩)
  · exact .inr h
theorem Off.free {w g p : Addr} {H H' : Hp} (s : Off w g H H') (n : H' p = none) (n1 : p ≠ w) (n2 : p ≠ g) : H p = none := by
  cases q : H p with
  | none => rfl
  | some o =>
    rw [s p o q n1 n2] at n
    cases n
/-- a well of draws at w, its great cells at g, at most n draws behind it -/
def WellAt (H : Hp) (w g : Addr) (n : Int) : Prop := w ≠ g ∧ ∃ (m c : Int) (gs : List Int), H w = some (.lst [.ref g, .int m, .int c]) ∧ H g = some (.lst (gs.map V.int)) ∧ 0 ≤ m ∧ m < 10 ^ 41 + 3 ∧ 0 ≤ c ∧ c ≤ n ∧ gs.length ≤ 63
theorem WellAt.mono {H : Hp} {w g : Addr} {n n' : Int} (h : WellAt H w g n) (l : n ≤ n') : WellAt H w g n' := by
  obtain ⟨ne, m, c, gs, h1, h2, h3, h4, h5, h6, h7⟩ := h
  exact ⟨ne, m, c, gs, h1, h2, h3, h4, h5, by omega, h7⟩
theorem WellAt.pos {H : Hp} {w g : Addr} {n : Int} (h : WellAt H w g n) : 0 ≤ n := by
  obtain ⟨ne, m, c, gs, h1, h2, h3, h4, h5, h6, h7⟩ := h
  omega
theorem WellAt.w {H : Hp} {w g : Addr} {n : Int} (h : WellAt H w g n) : ∃ o, H w = some o := by
  obtain ⟨_, _, _, _, h1, _⟩ := h
  exact ⟨_, h1⟩
theorem WellAt.g {H : Hp} {w g : Addr} {n : Int} (h : WellAt H w g n) : ∃ o, H g = some o := by
  obtain ⟨_, _, _, _, _, h1, _⟩ := h
  exact ⟨_, h1⟩
theorem ne_of_none' {H : Hp} {a b : Addr} {o : HO} (h : H a = none) (h' : H b = some o) : a ≠ b := fun e => by
  rw [e, h'] at h
  cases h
theorem WellAt.ne {H : Hp} {w g p : Addr} {n : Int} (h : WellAt H w g n) (np : H p = none) : p ≠ w ∧ p ≠ g := by
  obtain ⟨o, h1⟩ := h.w
  obtain ⟨u, h2⟩ := h.g
  exact ⟨ne_of_none' np h1, ne_of_none' np h2⟩
theorem WellAt.upd {H : Hp} {w g : Addr} {n : Int} {p : Addr} {o : HO} (h : WellAt H w g n) (pw : p ≠ w) (pg : p ≠ g) : WellAt (L2.upd H p o) w g n := by
  obtain ⟨ne, m, c, gs, h1, h2, h3⟩ := h
  exact ⟨ne, m, c, gs, by rw [upd_ne (Ne.symm pw)]; exact h1, by rw [upd_ne (Ne.symm pg)]; exact h2, h3⟩
theorem WellAt.new {H : Hp} {w g : Addr} {n : Int} {p : Addr} {o : HO} (h : WellAt H w g n) (np : H p = none) : WellAt (L2.upd H p o) w g n := h.upd (h.ne np).1 (h.ne np).2
theorem WellAt.same {H H' : Hp} {w g : Addr} {n : Int} (h : WellAt H w g n) (s : Same H H') : WellAt H' w g n := by
  obtain ⟨ne, m, c, gs, h1, h2, h3⟩ := h
  exact ⟨ne, m, c, gs, s _ _ h1, s _ _ h2, h3⟩

/-! ### walks over the images of a list -/
section
variable {K : PySem.W.Frag} {a b : Addr} {α β : Type} {f : α → V} {h : β → V} {xs : List α} {ys : List β}
theorem walk_map : Walk (Itl K a) xs.length (fun H => SqL K H a (xs.map f)) (fun i H x H' => H' = H ∧ ∃ n, xs[i]? = some n ∧ x = f n) := by
  have w := walk_list (K := K) (a := a) (xs := xs.map f)
  rw [List.length_map] at w
  refine w.mono (fun _ q => q) fun i H x H' _ _ y => ⟨y.1, ?_⟩
  have y2 := y.2
  rw [List.getElem?_map] at y2
  obtain ⟨n, hn, e⟩ := Option.map_eq_some_iff.mp y2
  exact ⟨n, hn, e.symm⟩
theorem walk_mapT : Walk (Itt K a) xs.length (fun H => SqT K H a (xs.map f)) (fun i H x H' => H' = H ∧ ∃ n, xs[i]? = some n ∧ x = f n) := by
  have w := walk_tup (K := K) (a := a) (xs := xs.map f)
  rw [List.length_map] at w
  refine w.mono (fun _ q => q) fun i H x H' _ _ y => ⟨y.1, ?_⟩
  have y2 := y.2
  rw [List.getElem?_map] at y2
  obtain ⟨n, hn, e⟩ := Option.map_eq_some_iff.mp y2
  exact ⟨n, hn, e.symm⟩
theorem walk_enumMap : Walk (Ite K a) xs.length (fun H => SqL K H a (xs.map f)) (fun i H v H' => ∃ T n, v = .ref T ∧ H T = none ∧ H' = upd H T (.tup [.int (i : Nat), f n]) ∧ xs[i]? = some n) := by
  have w := walk_enum (K := K) (a := a) (xs := xs.map f)
  rw [List.length_map] at w
  refine w.mono (fun _ q => q) fun i H v H' _ _ y => ?_
  obtain ⟨T, x, y, h1, h2, h3, h4, h5⟩ := y
  have h4' : some (V.int (i : Nat)) = some x := h4
  have h5' : (xs.map f)[i]? = some y := h5
  rw [List.getElem?_map] at h5'
  obtain ⟨n, hn, e⟩ := Option.map_eq_some_iff.mp h5'
  cases h4'
  cases e
  exact ⟨T, n, h1, h2, h3, hn⟩
theorem walk_zipMap {n : Nat} (hn : n = min xs.length ys.length) : Walk (Itz K a b) n (fun H => SqL K H a (xs.map f) ∧ SqL K H b (ys.map h)) (fun i H v H' => ∃ T x y, v = .ref T ∧ H T = none ∧ H' = upd H T (.tup [f x, h y]) ∧ xs[i]? = some x ∧ ys[i]? = some y) := by
  have w := walk_zip (K := K) (a := a) (b := b) (xs := xs.map f) (ys := ys.map h) (n := n) (by simpa using hn)
  refine w.mono (fun _ q => q) fun i H v H' _ _ y => ?_
  obtain ⟨T, x, y, h1, h2, h3, h4, h5⟩ := y
  have h4' : (xs.map f)[i]? = some x := h4
  have h5' : (ys.map h)[i]? = some y := h5
  rw [List.getElem?_map] at h4' h5'
  obtain ⟨x', hx, e⟩ := Option.map_eq_some_iff.mp h4'
  obtain ⟨y', hy, e'⟩ := Option.map_eq_some_iff.mp h5'
  cases e
  cases e'
  exact ⟨T, x', y', h1, h2, h3, hx, hy⟩
end

/-! ### texts as lists of codes -/
def tS (t : List Nat) : Str := ⟨t.toArray⟩
def tv (t : List Nat) : V := .str (tS t)
theorem tS_append (a b : List Nat) : tS a ++ tS b = tS (a ++ b) := by
  show (⟨a.toArray ++ b.toArray⟩ : Str) = ⟨(a ++ b).toArray⟩
  simp
theorem tS_length (t : List Nat) : (tS t).length = t.length := by simp [tS, Str.length]
theorem tl_tS (t : List Nat) : TL.tl (tS t) = t := by simp [TL.tl, tS]
theorem tS_tl (x : Str) : tS (TL.tl x) = x := TL.mk_tl x
theorem tS_inj {a b : List Nat} (h : tS a = tS b) : a = b := by rw [← tl_tS a, h, tl_tS]
theorem tv_inj {a b : List Nat} (h : tv a = tv b) : a = b := tS_inj (by injection h)
theorem join_tS (sep : List Nat) (ts : List (List Nat)) : Txt.join (tS sep) (ts.map tS) = tS (TL.joinL sep ts) := by
  rw [TL.join_eq, ← tS_tl (Str.join _ _), TL.tl_join, tl_tS, List.map_map]
  have e : TL.tl ∘ tS = id := funext tl_tS
  rw [e, List.map_id]
theorem joinL_nil : ∀ ts : List (List Nat), TL.joinL [] ts = ts.flatten
  | [] => rfl
  | [p] => by simp [TL.joinL]
  | p :: q :: r => by
    show p ++ ([] ++ TL.joinL [] (q :: r)) = _
    rw [joinL_nil (q :: r)]
    simp
theorem sum_tS (ts : List (List Nat)) : ((ts.map tS).map (·.length)).sum = ts.flatten.length := by
  induction ts with
  | nil => rfl
  | cons a l ih =>
    rw [List.map_cons, List.map_cons, List.sum_cons, ih, tS_length, List.flatten_cons, List.length_append]
theorem map_tS (ts : List (List Nat)) : ts.map tv = (ts.map tS).map V.str := by
  rw [List.map_map]; rfl

theorem dp_strs {K : PySem.W.Frag} {H : Hp} : ∀ ts : List (List Nat), DpAll K H (ts.map tv) (ts.map fun t => .str (tS t))
  | [] => .nil
  | t :: ts => .cons (.str _) (dp_strs ts)
theorem nodes_strs : ∀ ts : List (List Nat), nodesAll (ts.map fun t => .str (tS t)) = ts.length
  | [] => rfl
  | t :: ts => by
    simp only [List.map_cons, nodesAll, nodes, nodes_strs ts, List.length_cons]
    omega
theorem depth_strs : ∀ ts : List (List Nat), PyData.depthAll (ts.map fun t => .str (tS t)) = 0
  | [] => rfl
  | t :: ts => by
    simp only [List.map_cons, PyData.depthAll, PyData.depth, depth_strs ts]
    rfl
theorem singles_flat (cs : List Nat) : (cs.map fun c => [c]).flatten = cs := by
  induction cs with
  | nil => rfl
  | cons c l ih => rw [List.map_cons, List.flatten_cons, ih]; rfl
theorem takeNext {α : Type} {xs : List α} {i : Nat} {x : α} (h : xs[i]? = some x) : xs.take (i + 1) = xs.take i ++ [x] := by
  rw [List.take_succ, h]; rfl
theorem pairs_len {α β : Type} (ys : List β) : ∀ l : List α, (l.flatMap fun x => ys.map fun y => (x, y)).length = l.length * ys.length
  | [] => by simp
  | a :: l => by rw [List.flatMap_cons, List.length_append, pairs_len ys l, List.length_map, List.length_cons, Nat.succ_mul, Nat.add_comm]
theorem drop_min {α : Type} (t : List α) (a : Nat) : t.drop (min a t.length) = t.drop a := by
  by_cases h : a ≤ t.length
  · rw [Nat.min_eq_left h]
  · rw [Nat.min_eq_right (by omega), List.drop_eq_nil_of_le (Nat.le_refl _), List.drop_eq_nil_of_le (by omega)]
theorem take_min {α : Type} (t : List α) (a b : Nat) : (t.drop a).take (min b t.length - min a t.length) = (t.drop a).take (b - a) := by
  by_cases h : a ≤ t.length
  · by_cases h2 : b ≤ t.length
    · rw [Nat.min_eq_left h, Nat.min_eq_left h2]
    · rw [Nat.min_eq_left h, Nat.min_eq_right (by omega), List.take_of_length_le (by simp), List.take_of_length_le (by simp; omega)]
  · rw [List.drop_eq_nil_of_le (by omega)]; simp
theorem cutS_mid (t : List Nat) (a b : Nat) : cutS (tS t) (some (a : Int)) (some (b : Int)) = tS ((t.drop a).take (b - a)) := by
  unfold cutS
  rw [HT.sIx_nat, HT.sIx_nat, tS_length]
  show (⟨((t.toArray.toList.drop _).take _).toArray⟩ : Str) = _
  rw [List.toList_toArray, drop_min, take_min]
  rfl
theorem cutS_to (t : List Nat) (b : Nat) : cutS (tS t) none (some (b : Int)) = tS (t.take b) := by
  unfold cutS
  rw [HT.sIx_nat, HT.sIx_none, tS_length]
  show (⟨((t.toArray.toList.drop _).take _).toArray⟩ : Str) = _
  rw [List.toList_toArray, List.drop_zero, Nat.sub_zero]
  by_cases h : b ≤ t.length
  · rw [Nat.min_eq_left h]; rfl
  · rw [Nat.min_eq_right (by omega), List.take_of_length_le (Nat.le_refl _), List.take_of_length_le (by omega)]; rfl
theorem cutS_from (t : List Nat) (a : Nat) : cutS (tS t) (some (a : Int)) none = tS (t.drop a) := by
  unfold cutS
  rw [HT.sIx_nat, HT.sIx_none, tS_length]
  show (⟨((t.toArray.toList.drop _).take _).toArray⟩ : Str) = _
  rw [List.toList_toArray, drop_min, List.take_of_length_le]
  · rfl
  · rw [List.length_drop]; by_cases h : a ≤ t.length
    · rw [Nat.min_eq_left h]; exact Nat.le_refl _
    · omega
theorem cutS_len (z : Str) (lo hi : Option Int) : (cutS z lo hi).length ≤ z.length := by
  unfold cutS
  show (List.toArray _).size ≤ _
  rw [List.size_toArray, List.length_take, List.length_drop]
  unfold Str.length
  simp
  omega
theorem len_app (x y : Str) : (x ++ y).length = x.length + y.length := by
  show (x.cps ++ y.cps).size = _
  rw [Array.size_append]; rfl
theorem cutV_tail (x : V) (xs : List V) : cutV (x :: xs) (some 1) none = xs := by
  unfold cutV
  rw [show (some (1 : Int)) = some ((1 : Nat) : Int) from rfl, HT.sIx_nat, HT.sIx_none, Nat.min_eq_left (by simp)]
  simp
theorem atI_ok {α : Type} {xs : List α} {r : Int} (r0 : 0 ≤ r) (r1 : r < xs.length) : atI xs r = some (xs[r.toNat]'(by omega)) := by
  have h := atI_nat (xs := xs) (j := r.toNat) (List.getElem?_eq_getElem (by omega))
  rw [show ((r.toNat : Nat) : Int) = r by omega] at h
  exact h
theorem sIx_ok {r : Int} {n : Nat} (r0 : 0 ≤ r) (r1 : r < n) : seqIndex? r n = some r.toNat := by
  unfold seqIndex?
  simp [show ¬ r < 0 by omega, r0, r1]
theorem atI_lastR {α : Type} (xs : List α) (v : α) : atI (v :: xs).reverse (-1) = some v := by
  rw [List.reverse_cons]
  exact atI_last _ _
theorem popR {α : Type} (xs : List α) (v : α) : (v :: xs).reverse[(v :: xs).reverse.length - 1]? = some v := by simp
theorem dropR {α : Type} (xs : List α) (v : α) : (v :: xs).reverse.dropLast = xs.reverse := by simp
theorem perm_pick {α : Type} {ys rest xs : List α} {k : Nat} (h : k < rest.length) (p : (ys ++ rest).Perm xs) : ((ys ++ [rest[k]]) ++ rest.eraseIdx k).Perm xs := by
  refine List.Perm.trans ?_ p
  rw [List.append_assoc]
  exact List.Perm.append_left _ (erase_perm rest k _ (List.getElem?_eq_getElem h))

/-! ### what relates two lists, item by item -/
inductive Both {α β : Type} (R : α → β → Prop) : List α → List β → Prop
  | nil : Both R [] []
  | cons {a : α} {b : β} {l : List α} {m : List β} : R a b → Both R l m → Both R (a :: l) (b :: m)
section
variable {α β : Type} {R S : α → β → Prop} {l l' : List α} {m m' : List β}
theorem Both.length (h : Both R l m) : l.length = m.length := by
  induction h with
  | nil => rfl
  | cons _ _ ih => simp [ih]
theorem Both.mono (f : ∀ a b, R a b → S a b) (h : Both R l m) : Both S l m := by
  induction h with
  | nil => exact .nil
  | cons h _ ih => exact .cons (f _ _ h) ih
theorem Both.app (h : Both R l m) (h' : Both R l' m') : Both R (l ++ l') (m ++ m') := by
  induction h with
  | nil => exact h'
  | cons h _ ih => exact .cons h ih
theorem Both.one {a : α} {b : β} (h : R a b) : Both R [a] [b] := .cons h .nil
theorem Both.get (h : Both R l m) : ∀ {i : Nat} {a : α}, l[i]? = some a → ∃ b, m[i]? = some b ∧ R a b := by
  induction h with
  | nil => intro i a e; simp at e
  | cons h _ ih =>
    intro i a e
    cases i with
    | zero => simp at e; subst e; exact ⟨_, rfl, h⟩
    | succ i => simp at e; simpa using ih e
theorem Both.eq {f : β → α} (h : Both (fun a b => a = f b) l m) : l = m.map f := by
  induction h with
  | nil => rfl
  | cons h _ ih => rw [h, ih]; rfl
end
theorem Both.monoM {α β : Type} {R S : α → β → Prop} {l : List α} {m : List β} (h : Both R l m) (f : ∀ b ∈ m, ∀ a, R a b → S a b) : Both S l m := by
  induction h with
  | nil => exact .nil
  | cons h _ ih => exact .cons (f _ List.mem_cons_self _ h) (ih fun b hb a => f b (List.mem_cons_of_mem _ hb) a)
theorem Both.mem2 {α β : Type} {R : α → β → Prop} {l : List α} {m : List β} (h : Both R l m) : ∀ b ∈ m, ∃ a, R a b := by
  induction h with
  | nil => intro b hb; simp at hb
  | cons h _ ih =>
    intro b hb
    rcases List.mem_cons.mp hb with rfl | hb
    · exact ⟨_, h⟩
    · exact ih b hb
/-- tuples stay -/
def Tups (H H' : Hp) : Prop := ∀ b xs, H b = some (.tup xs) → H' b = some (.tup xs)
theorem Tups.refl (H : Hp) : Tups H H := fun _ _ h => h
theorem Tups.trans {H H1 H2 : Hp} (a : Tups H H1) (b : Tups H1 H2) : Tups H H2 := fun c o h => b c o (a c o h)
theorem Same.tups {H H' : Hp} (s : Same H H') : Tups H H' := fun b xs h => s _ _ h
theorem Tups.set {H H' : Hp} {p : Addr} {xs : List V} {o : HO} (s : Tups H H') (h : H' p = some (.lst xs)) : Tups H (upd H' p o) := fun b ys e => by
  rw [upd_ne (ne_of (s b ys e) h (by intro z; cases z))]
  exact s b ys e
theorem Tups.new {H H' : Hp} {p : Addr} {o : HO} (s : Tups H H') (h : H' p = none) : Tups H (upd H' p o) := fun b ys e => by
  rw [upd_ne (ne_of_none (s b ys e) h)]
  exact s b ys e
/-- a pair of texts -/
def PrAt (H : Hp) (v : V) (p : List Nat × List Nat) : Prop := ∃ r, v = .ref r ∧ H r = some (.tup [tv p.1, tv p.2])
theorem PrAt.mono {H H' : Hp} {v : V} {p : List Nat × List Nat} (s : Tups H H') (h : PrAt H v p) : PrAt H' v p := by
  obtain ⟨r, e, h⟩ := h
  exact ⟨r, e, s _ _ h⟩

/-! ### comprehensions that change nothing of what stood there -/
section
variable {J : It} {n : Nat} {G : Hp → Prop} {Y : Nat → Hp → V → Hp → Prop}
/-- Pv by the turn, the heap and the list so far -/
theorem lc_same (w : Walk J n G Y) {g : TG} {tt : TT} {te : TE} {vs : List Nat} {σ : St} {H1 : Hp} {D : Addr} {Qd : Hp → Prop} (hD : H1 D = none) (Pv : Nat → Hp → List V → Prop) (h0 : Pv 0 (upd H1 D (.lst [])) [])
    (hG : ∀ H, Same H1 H → G H)
    (hs : ∀ i x H H' acc, i < n → Same H1 H → H D = some (.lst acc) → Pv i H acc → Y i H x H' → g x (wipe σ vs) H' fun σ2 H2 => wipe σ2 vs = wipe σ vs ∧ tt σ2 H2 fun b H3 =>
      if b = true then te σ2 H3 fun y H4 => ∃ acc, H4 D = some (.lst acc) ∧ acc.length < sizeLine ∧ (fun H => Same H1 H ∧ ∃ acc, H D = some (.lst acc) ∧ Pv (i + 1) H acc) (upd H4 D (.lst (acc ++ [y]))) else (fun H => Same H1 H ∧ ∃ acc, H D = some (.lst acc) ∧ Pv (i + 1) H acc) H3)
    (hd : ∀ H acc, Same H1 H → H D = some (.lst acc) → Pv n H acc → Qd H) :
    ∃ W : Nat → Nat → Hp → Prop, (∃ m, W 0 m (upd H1 D (.lst []))) ∧ ∀ i m H, W i m H →
      (J.stop i H ∧ Qd H) ∨ (J.go i H ∧ ∃ Nx : Hp → Prop, (∀ H', Nx H' → ∃ m', m' < m ∧ W (i + 1) m' H') ∧ ∀ x H', J.yld i H x H' → g x (wipe σ vs) H' fun σ2 H2 => wipe σ2 vs = wipe σ vs ∧ tt σ2 H2 fun b H3 =>
        if b = true then te σ2 H3 fun y H4 => ∃ acc, H4 D = some (.lst acc) ∧ acc.length < sizeLine ∧ Nx (upd H4 D (.lst (acc ++ [y]))) else Nx H3) :=
  lc_it w (fun i H => Same H1 H ∧ ∃ acc, H D = some (.lst acc) ∧ Pv i H acc) ⟨(Same.refl _).upd_new hD, [], upd_same, h0⟩ (fun i H _ h => hG H h.1) (fun i x H H' hi ⟨s, acc, e, p⟩ hy => hs i x H H' acc hi s e p hy) (fun H ⟨s, acc, e, p⟩ => hd H acc s e p)
/-- a for whose turns change nothing of what stood there -/
theorem for_same (w : Walk J n G Y) {g : TG} {tb : TS} {D : Ends} {σ : St} {H1 : Hp} (Pv : Nat → St → Hp → Prop) (h0 : Pv 0 σ H1) (hG : ∀ H, Same H1 H → G H)
    (hs : ∀ i x σ H H', i < n → Same H1 H → Pv i σ H → Y i H x H' → g x σ H' fun σ2 H2 => tb { D with nx := fun σ H => Same H1 H ∧ Pv (i + 1) σ H, ct := fun σ H => Same H1 H ∧ Pv (i + 1) σ H, bk := D.nx } σ2 H2) (hd : ∀ σ H, Same H1 H → Pv n σ H → D.nx σ H) :
    ∃ W : Nat → Nat → St → Hp → Prop, (∃ m, W 0 m σ H1) ∧ ∀ i m σ H, W i m σ H →
      (J.stop i H ∧ D.nx σ H) ∨ (J.go i H ∧ ∃ N : St → Hp → Prop, (∀ σ' H', N σ' H' → ∃ m', m' < m ∧ W (i + 1) m' σ' H') ∧ ∀ x H', J.yld i H x H' → g x σ H' fun σ2 H2 => tb { D with nx := N, ct := N, bk := D.nx } σ2 H2) :=
  for_it w (fun i σ H => Same H1 H ∧ Pv i σ H) ⟨Same.refl _, h0⟩ (fun i σ H _ h => hG H h.1) (fun i x σ H H' hi ⟨s, p⟩ hy => hs i x σ H H' hi s p hy) (fun σ H ⟨s, p⟩ => hd σ H s p)
end

/-- alike of two that stand for one datum: True -/
def spAlike (K : PySem.W.Frag) (n : Nat) : Sp := fun vs H Q _ => ∃ (x y : V) (d : PyData), vs = [x, y] ∧ Dp K H x d ∧ Dp K H y d ∧ d.depth < n ∧ nodes d ≤ 1000000 ∧ ∀ H', Same H H' → Q (.bl true) H'

/-! ### promises of the drawing -/
def spWell (K : PySem.W.Frag) : Sp := fun vs H Q _ => ∃ (a : Addr) (ns : List Int), vs = [.ref a] ∧ SqL K H a (ns.map V.int) ∧ ns.length ≤ 63 ∧
  ∀ H' w g, Same H H' → H w = none → H g = none → WellAt H' w g 0 → Q (.ref w) H'
def spDip : Sp := fun vs H Q _ => ∃ (w g : Addr) (n m : Int), vs = [.ref w, .int m] ∧ WellAt H w g n ∧ n ≤ 10 ^ 9 ∧ 0 < m ∧ m ≤ 10 ^ 6 ∧
  ∀ H' r, Off w g H H' → WellAt H' w g (n + 1) → 0 ≤ r → r < m → Q (.int r) H'
def spOne (K : PySem.W.Frag) : Sp := fun vs H Q _ => ∃ (w g a : Addr) (n : Int) (xs : List V), vs = [.ref w, .ref a] ∧ WellAt H w g n ∧ n ≤ 10 ^ 9 ∧ SqL K H a xs ∧ a ≠ w ∧ a ≠ g ∧ 0 < xs.length ∧ xs.length ≤ 10 ^ 6 ∧
  ∀ H' x, Off w g H H' → WellAt H' w g (n + 1) → x ∈ xs → Q x H'
def spMixed (K : PySem.W.Frag) : Sp := fun vs H Q _ => ∃ (w g a : Addr) (n : Int) (xs : List V), vs = [.ref w, .ref a] ∧ WellAt H w g n ∧ n + xs.length ≤ 10 ^ 9 ∧ SqL K H a xs ∧ a ≠ w ∧ a ≠ g ∧ xs.length ≤ 10 ^ 6 ∧
  ∀ H' p ys, Off w g H H' → WellAt H' w g (n + xs.length) → H p = none → p ≠ w → p ≠ g → H' p = some (.lst ys) → ys.Perm xs → Q (.ref p) H'
end L2

set_option autoImplicit true
set_option Elab.async false
set_option linter.all false
set_option maxRecDepth 100000
set_option maxHeartbeats 4000000
/-! A rule of our own: enumerate over a tuple. -/
namespace PySem
open AutoSeq1 (wpAny_loadPart')
theorem meets_enumT (l : Addr) (items : Array Value) (n : Nat) (dct : Option Addr) (sl : Array (Option Value)) :
    Meets (Builtin.«enumerate.__new__» ⟨[.type "enumerate", .ref l], []⟩) (fun _ R s =>
      s.heap.get? l = some { cls := .type "tuple", dict := dct, data := .seq items n, slots := sl } ∧
      R (.ok (.ret (.ref (s.heap.push { cls := .type "tuple_iterator", data := .fields #[.ref l, .int 0 0] }).objs.size)))
        { s with heap := (s.heap.push { cls := .type "tuple_iterator", data := .fields #[.ref l, .int 0 0] }).push { cls := .type "enumerate", data := .fields #[.none, .bool false, .ref s.heap.objs.size, rawInt 0, .none, .none] } }) :=
  .of_wp fun prog w A R s ⟨hl, h⟩ => by
    obtain ⟨hp, g, d, tk, os⟩ := s
    have hsub := sub_enumerate
    have hT : Heap.IsTuple (Shared.heap ⟨hp, g, d, tk, os⟩) l items := ⟨_, hl, rfl, n, rfl⟩
    wp_walk using wpAny_loadPart' hl
    refine wpAny_stack_any fun st => wpAny_pure ?_
    split
    · rename_i c _ _ _ _ _
      cases (c == Value.type "enumerate")
      · wp_walk using wpAny_loadPart' hl, wpAny_pyIter_tuple hT
        exact ⟨_, rfl, h⟩
      · wp_walk using wpAny_loadPart' hl, wpAny_pyIter_tuple hT
        exact ⟨_, rfl, h⟩
    · wp_walk using wpAny_loadPart' hl, wpAny_pyIter_tuple hT
      exact ⟨_, rfl, h⟩
section
variable {prog : Program} {w : World} {A : Around} {E : Value → Shared → Prop} {s : Shared}
theorem call_enumT {l : Addr} {items : Array Value} {Q : Value → Shared → Prop} (hL : s.heap.IsTuple l items)
    (h : ∀ h', IsEnum h' (s.heap.objs.size + 1) s.heap.objs.size 0 .none → h'.IsTupleIter s.heap.objs.size l 0 → h'.objs.size = s.heap.objs.size + 2 →
      (∀ b o, s.heap.get? b = some o → h'.get? b = some o) → Q (.ref (s.heap.objs.size + 1)) { s with heap := h' }) :
    wpAny (model prog w) A (call (.type "enumerate") [.ref l]) Q E s := by
  obtain ⟨⟨c, dct, dt, sl⟩, hl, hc, n, hd⟩ := hL
  replace hc : c = .type "tuple" := hc
  replace hd : dt = .seq items n := hd
  subst hc hd
  refine callType_new F.called_enumerate (by decide) (F.typeCall_enumerate_1 _) (F.newCall_enumerate_1 _) (fun obj => F.args_object_init_2 obj _) F.entry_enumerate_new
    (meets_enumT l items n dct sl) ⟨hl, ?_⟩
  have hz : (s.heap.push { cls := .type "tuple_iterator", data := .fields #[.ref l, .int 0 0] }).objs.size = s.heap.objs.size + 1 := Heap.size_push ..
  show _ ∧ _
  rw [hz]
  have he : IsEnum ((s.heap.push { cls := .type "tuple_iterator", data := .fields #[.ref l, .int 0 0] }).push
      { cls := .type "enumerate", data := .fields #[.none, .bool false, .ref s.heap.objs.size, rawInt 0, .none, .none] }) (s.heap.objs.size + 1) s.heap.objs.size 0 .none := by
    have := Heap.get?_push_size (s.heap.push { cls := .type "tuple_iterator", data := .fields #[.ref l, .int 0 0] })
      (o := { cls := .type "enumerate", data := .fields #[.none, .bool false, .ref s.heap.objs.size, rawInt 0, .none, .none] }) rfl
    rw [hz] at this; exact this
  refine ⟨⟨_, he, rfl⟩, h _ he ⟨_, Heap.get?_push_of_some _ (Heap.get?_push_size _ rfl), rfl, rfl⟩ (by rw [Heap.size_push, hz]) fun b o x => Heap.get?_push_of_some _ (Heap.get?_push_of_some _ x)⟩
end
end PySem
namespace L2
open PySem PySem.Spec PyProof.Rows
def IteT (K : PySem.W.Frag) (a : Addr) : It :=
  ⟨fun i H => ∃ (xs : List V) (x : V), SqT K H a xs ∧ xs[i]? = some x, fun i H v H' => ∃ T x, v = .ref T ∧ H T = none ∧ H' = upd H T (.tup [.int (i : Nat), x]) ∧ ∀ xs, SqT K H a xs → xs[i]? = some x, fun i H => ∃ xs : List V, SqT K H a xs ∧ xs.length = i⟩
theorem turn_enumT {P : Program} {w : World} {K : PySem.W.Frag} {elts : List Expr} {kk : Nat} {tpos : Pos} (a e it : Addr) :
    Turn P w K (.Tuple elts kk tpos) (IteT K a) [e, it] e (fun i h => (∃ old, IsEnum h e it ((i : Nat) : Int) old) ∧ h.IsTupleIter it a i ∧ e ≠ it) where
  mem := by simp
  obj := fun i h st b hb => by
    obtain ⟨⟨old, he⟩, ⟨o, ho, hc, hd⟩, _⟩ := st
    have e' : b = e ∨ b = it := by simpa using hb
    rcases e' with z | z
    · rw [z]; exact ⟨_, he, fun v q => nomatch q⟩
    · rw [z]; exact ⟨o, ho, fun v q => by rw [hd] at q; cases q⟩
  keep := fun i h h' st k => let ⟨⟨old, he⟩, hi, hne⟩ := st; ⟨⟨old, k e (by simp) _ he⟩, hi.at fun o q => k it (by simp) o q, hne⟩
  item := by
    intro X hP hw hK hc i pins s σ H E I hf st hg
    subst hP hw hK
    obtain ⟨⟨old, he⟩, hit, hne⟩ := st
    obtain ⟨xs, x, hq, hx⟩ := hg
    obtain ⟨its, rv, p, hz⟩ := I.tuple hq
    obtain ⟨u, hu, ru⟩ := rv.get hx
    have hel : e < s.heap.objs.size := Heap.lt_size he
    have hil : it < s.heap.objs.size := by obtain ⟨_, q, _⟩ := hit; exact Heap.lt_size q
    have hT : s.heap.IsTuple a its.toArray := p
    have hae : e ≠ a := fun z => by
      subst z
      obtain ⟨o, ho, hc2, _⟩ := hT
      rw [he] at ho
      cases ho
      exact absurd (show Value.type "enumerate" = Value.type "tuple" from hc2) (by simp)
    have hai : a ≠ it := fun z => by
      subst z
      obtain ⟨o, ho, hc2, _⟩ := hT
      obtain ⟨o', ho', hc3, _⟩ := hit
      rw [ho] at ho'
      cases ho'
      rw [hc2] at hc3
      exact absurd (show Value.type "tuple" = Value.type "tuple_iterator" from hc3) (by simp)
    have hlt : i < its.toArray.size := by
      have := List.getElem?_eq_some_iff.mp hu
      obtain ⟨q, _⟩ := this
      simpa using q
    refine wpAny_pyNext_enum_itemD (Draws.tuple (A := X.A.in1) (I.ok.hd hc) it a hai its.toArray) he ⟨hit, hT⟩ hlt hne (by simp [hne, hae]) fun v h' tk hv ho hit' hT1 hsz hk => ?_
    have hvu : v = u := by
      have : its[i]? = some v := by simpa using hv
      rw [hu] at this
      exact (Option.some.inj this).symm
    subst hvu
    refine ⟨_, rfl, wpAny_letOwnedTupleGo_enum (s := { s with heap := h', toks := tk + 1 }) ho fun h'' he' sb => ?_⟩
    have hT2 : h''.get? s.heap.objs.size = some { cls := .type "tuple", data := .seq #[.int i tk, v] } := (sb.2 _ (Nat.ne_of_gt hel)).trans hT1
    have new : ObjOk X.prog X.w (upd H s.heap.objs.size (.tup [.int (i : Nat), x])) h'' s.heap.objs.size (.tup [.int (i : Nat), x]) :=
      ⟨by show 2 ≤ sizeLine; decide, [.int i tk, v], .cons ⟨_, rfl⟩ (.cons ru .nil), ⟨_, hT2, rfl, _, rfl⟩⟩
    have I1 : Inv X pins σ (upd H s.heap.objs.size (.tup [.int (i : Nat), x])) { s with heap := h'', toks := tk + 1 } :=
      I.turnedNew (ch := [e, it]) (fun b ob hb q => (sb.2 b (fun z => hb (by simp [z]))).trans (hk b ob (fun z => hb (by simp [z])) (fun z => hb (by simp [z])) q)) hf (Nat.le_refl _) new
    refine ⟨.ref s.heap.objs.size, _, I1, rfl, ⟨_, x, rfl, I.hok.fresh (Nat.le_refl _), rfl, fun ys hy => by rw [I.tuple_inj hy hq]; exact hx⟩, ⟨⟨v, ?_⟩, hit'.1.at fun o q => (sb.2 it (Ne.symm hne)).trans q, hne⟩, fun b hb => ?_⟩
    · have e1 : ((i + 1 : Nat) : Int) = (i : Int) + 1 := by omega
      rw [e1]; exact he'
    · have hb' : b < s.heap.objs.size := by
        have e' : b = e ∨ b = it := by simpa using hb
        rcases e' with z | z
        · rw [z]; exact hel
        · rw [z]; exact hil
      rw [upd_ne (Nat.ne_of_lt hb')]
      exact (hf b hb).1
  done := by
    intro X hP hw hK hc i pins s σ H E I hf st hg
    subst hP hw hK
    obtain ⟨⟨old, he⟩, hit, hne⟩ := st
    obtain ⟨f0, f1, f2, f3, f4, f5⟩ := hf it (by simp)
    obtain ⟨xs, hq, hle⟩ := hg
    obtain ⟨its, rv, p, hz⟩ := I.tuple hq
    have hT : s.heap.IsTuple a its.toArray := p
    have hai : a ≠ it := fun z => by
      subst z
      obtain ⟨o, ho, hc2, _⟩ := hT
      obtain ⟨o', ho', hc3, _⟩ := hit
      rw [ho] at ho'
      cases ho'
      rw [hc2] at hc3
      exact absurd (show Value.type "tuple" = Value.type "tuple_iterator" from hc3) (by simp)
    have hi : i = its.toArray.size := by
      have := rv.length
      simp
      omega
    subst hi
    exact wpAny_pyNext_enum_endD (Draws.tuple (A := X.A.in1) (I.ok.hd hc) it a hai its.toArray) he ⟨hit, hT⟩ fun h' eb => ⟨rfl, I.turned (t' := s.toks) (fun b o hb q => eb b o hb q) f0 f1 f3 f4 f5⟩
  self := fun A i s Q E st h => by
    obtain ⟨⟨_, he⟩, _⟩ := st
    exact wpAny_pyIter_enum he h
/-- enumerate of a list or a tuple -/
def iEnumA (K : PySem.W.Frag) (ta : TA) : TI := fun σ H R => ta σ H fun vs H1 => ∃ a xs, vs = [.ref a] ∧ ((SqL K H1 a xs ∧ R (Ite K a) H1) ∨ (SqT K H1 a xs ∧ R (IteT K a) H1))
theorem pi_enumA {X : Cx} {e : Expr} {ta : TA} {p pos tpos : Pos} {elts : List Expr} {kk : Nat} (hg : Gl X "enumerate") (hm : X.mg "enumerate" = none) (ha : PA X [e] ta) (hs : starEach [e] X.env = [(false, eval e X.env)] := by rfl) :
    PI X (.Tuple elts kk tpos) (.Call (.Name "enumerate" p) [e] [] pos) (iEnumA X.K ta) := by
  refine ⟨fun pins s σ H R I h => ?_⟩
  refine Call_ (ld_blt I hg hm boot_enumerate (PyProof.Rows.callWith_type1 (thn (ha.run pos pins s σ H _ I h) fun us s1 ⟨vs, H1, I1, r1, q1⟩ => ?_) hs rfl))
  obtain ⟨a, xs, ex, q⟩ := q1
  subst ex
  cases r1 with
  | cons r rr =>
    cases rr
    cases r
    have fr : ∀ b, b ∈ [s1.heap.objs.size + 1, s1.heap.objs.size] → s1.heap.objs.size ≤ b := fun b hb => by
      have e' : b = s1.heap.objs.size + 1 ∨ b = s1.heap.objs.size := by simpa using hb
      rcases e' with z | z
      · rw [z]; exact Nat.le_add_right _ _
      · rw [z]; exact Nat.le_refl _
    rcases q with ⟨hq, q⟩ | ⟨hq, q⟩
    · obtain ⟨its, rv, p', hz⟩ := I1.list hq
      refine call_enumerate_list p'.isList fun h' he hit hsz hk => wpAny_pyIter_enum he ?_
      have I2 : Inv X pins σ H1 { s1 with heap := h' } := I1.kept (t' := s1.toks) hk
      exact ⟨s1.heap.objs.size + 1, [s1.heap.objs.size + 1, s1.heap.objs.size], _, _, H1, rfl, I2, turn_enum a (s1.heap.objs.size + 1) s1.heap.objs.size, ⟨⟨.none, he⟩, hit, Nat.succ_ne_self _⟩, fun b hb => I1.fpOk (fr b hb) (I1.hok.fresh (fr b hb)), q⟩
    · obtain ⟨its, rv, p', hz⟩ := I1.tuple hq
      refine call_enumT (show s1.heap.IsTuple a its.toArray from p') fun h' he hit hsz hk => wpAny_pyIter_enum he ?_
      have I2 : Inv X pins σ H1 { s1 with heap := h' } := I1.kept (t' := s1.toks) hk
      exact ⟨s1.heap.objs.size + 1, [s1.heap.objs.size + 1, s1.heap.objs.size], _, _, H1, rfl, I2, turn_enumT a (s1.heap.objs.size + 1) s1.heap.objs.size, ⟨⟨.none, he⟩, hit, Nat.succ_ne_self _⟩, fun b hb => I1.fpOk (fr b hb) (I1.hok.fresh (fr b hb)), q⟩
theorem walk_enumT {K : PySem.W.Frag} {a : Addr} {xs : List V} : Walk (IteT K a) xs.length (fun H => SqT K H a xs) (YPair (fun i => some (.int (i : Nat))) (fun i => xs[i]?)) := by
  refine ⟨fun i _ hi q => ⟨xs, xs[i], q, by simp [hi]⟩, fun _ q => ⟨xs, q, rfl⟩, fun i H v H' _ q y => ?_⟩
  obtain ⟨T, x, h1, h2, h3, h4⟩ := y
  exact ⟨T, .int (i : Nat), x, h1, h2, h3, rfl, h4 xs q⟩
end L2

set_option autoImplicit true
set_option Elab.async false
set_option linter.all false
set_option maxRecDepth 100000
set_option maxHeartbeats 8000000
namespace B34
open PySem L2
def top (i : Nat) : Stmt := PySem.Challenge.pw_tasksapart_k34_whole_braces_grown_from_t.main.body.getD i (.Pass ⟨0, 0, 0, 0⟩)
abbrev s_groups_of : Stmt := top 5
abbrev s_replaced : Stmt := top 6
abbrev s_braced : Stmt := top 7
abbrev s__law_well : Stmt := top 9
abbrev s__law_dip : Stmt := top 10
abbrev s__law_one : Stmt := top 11
abbrev s__law_mixed : Stmt := top 12
abbrev s__law_alike : Stmt := top 13
abbrev s__law_signs : Stmt := top 14
abbrev s__law_row : Stmt := top 15
abbrev s__law_pairs : Stmt := top 16
abbrev s__law_thing : Stmt := top 17
abbrev s__law_told : Stmt := top 18
abbrev s__law_tree_right : Stmt := top 19
abbrev s__law_products_right : Stmt := top 20
abbrev s_law : Stmt := top 21
abbrev N_groups_of : List Str := ["text", "found", "waiting", "at", "sign", "begin", "commas"]
theorem sc_groups_of : FnScope N_groups_of ["text"] (defScope s_groups_of) := ⟨rfl, rfl, rfl, by decide +kernel, rfl, by decide +kernel, by decide +kernel⟩
abbrev N_replaced : List Str := ["text", "group", "begin", "end", "commas", "cuts", "one", "other"]
theorem sc_replaced : FnScope N_replaced ["text", "group"] (defScope s_replaced) := ⟨rfl, rfl, rfl, by decide +kernel, rfl, by decide +kernel, by decide +kernel⟩
abbrev N_braced : List Str := ["text", "found", "waiting", "one", "groups"]
theorem sc_braced : FnScope N_braced ["text"] (defScope s_braced) := ⟨rfl, rfl, rfl, by decide +kernel, rfl, by decide +kernel, by decide +kernel⟩
abbrev N__law_well : List Str := ["script", "cell", "greats", "mixed", "at"]
theorem sc__law_well : FnScope N__law_well ["script"] (defScope s__law_well) := ⟨rfl, rfl, rfl, by decide +kernel, rfl, by decide +kernel, by decide +kernel⟩
abbrev N__law_dip : List Str := ["well", "many", "greats", "one"]
theorem sc__law_dip : FnScope N__law_dip ["well", "many"] (defScope s__law_dip) := ⟨rfl, rfl, rfl, by decide +kernel, rfl, by decide +kernel, by decide +kernel⟩
abbrev N__law_one : List Str := ["well", "items"]
theorem sc__law_one : FnScope N__law_one ["well", "items"] (defScope s__law_one) := ⟨rfl, rfl, rfl, by decide +kernel, rfl, by decide +kernel, by decide +kernel⟩
abbrev N__law_mixed : List Str := ["well", "items", "rest", "found", "turn"]
theorem sc__law_mixed : FnScope N__law_mixed ["well", "items"] (defScope s__law_mixed) := ⟨rfl, rfl, rfl, by decide +kernel, rfl, by decide +kernel, by decide +kernel⟩
abbrev N__law_alike : List Str := ["found", "due", "at", "one"]
theorem sc__law_alike : FnScope N__law_alike ["found", "due"] (defScope s__law_alike) := ⟨rfl, rfl, rfl, by decide +kernel, rfl, by decide +kernel, by decide +kernel⟩
abbrev N__law_signs : List Str := ["well", "turn"]
theorem sc__law_signs : FnScope N__law_signs ["well"] (defScope s__law_signs) := ⟨rfl, rfl, rfl, by decide +kernel, rfl, by decide +kernel, by decide +kernel⟩
abbrev N__law_row : List Str := ["well", "deep", "most", "text", "found", "many", "turn", "more", "stands", "signs", "one", "other"]
theorem sc__law_row : FnScope N__law_row ["well", "deep", "most"] (defScope s__law_row) := ⟨rfl, rfl, rfl, by decide +kernel, rfl, by decide +kernel, by decide +kernel⟩
abbrev N__law_pairs : List Str := ["some", "others", "found", "one", "other"]
theorem sc__law_pairs : FnScope N__law_pairs ["some", "others"] (defScope s__law_pairs) := ⟨rfl, rfl, rfl, by decide +kernel, rfl, by decide +kernel, by decide +kernel⟩
abbrev N__law_thing : List Str := ["well", "deep", "text", "found", "texts", "stands", "part", "one"]
theorem sc__law_thing : FnScope N__law_thing ["well", "deep"] (defScope s__law_thing) := ⟨rfl, rfl, rfl, by decide +kernel, rfl, by decide +kernel, by decide +kernel⟩
abbrev N__law_told : List Str := ["text", "error"]
theorem sc__law_told : FnScope N__law_told ["text"] (defScope s__law_told) := ⟨rfl, rfl, rfl, by decide +kernel, rfl, by decide +kernel, by decide +kernel⟩
abbrev N__law_tree_right : List Str := ["well", "text", "found", "closing", "opening", "commas", "due", "before", "behind", "told", "one"]
theorem sc__law_tree_right : FnScope N__law_tree_right ["well"] (defScope s__law_tree_right) := ⟨rfl, rfl, rfl, by decide +kernel, rfl, by decide +kernel, by decide +kernel⟩
abbrev N__law_products_right : List Str := ["well", "sizes", "mixed", "many", "text", "size", "told", "inner", "rows", "part"]
theorem sc__law_products_right : FnScope N__law_products_right ["well"] (defScope s__law_products_right) := ⟨rfl, rfl, rfl, by decide +kernel, rfl, by decide +kernel, by decide +kernel⟩
abbrev N_law : List Str := ["script", "well", "turn", "rows", "text", "due"]
theorem sc_law : FnScope N_law ["script"] (defScope s_law) := ⟨rfl, rfl, rfl, by decide +kernel, rfl, by decide +kernel, by decide +kernel⟩
structure Txt (K : PySem.W.Frag) (mg : Str → Option Value) (a : Nat → Addr) (fd : Nat → FuncData) : Prop where
  n_len : mg "len" = none
  n_int : mg "int" = none
  n_abs : mg "abs" = none
  n_enumerate : mg "enumerate" = none
  n_range : mg "range" = none
  n_list : mg "list" = none
  n_isinstance : mg "isinstance" = none
  n_dict : mg "dict" = none
  n_tuple : mg "tuple" = none
  n_bool : mg "bool" = none
  n_str : mg "str" = none
  n_all : mg "all" = none
  n_zip : mg "zip" = none
  n_min : mg "min" = none
  n_set : mg "set" = none
  g_MOST_TEXTS : ∃ t, mg "MOST_TEXTS" = some (.int 200 t)
  m_groups_of : mg "groups_of" = some (.ref (a 0))
  F_groups_of : Fun K "groups_of" "groups_of" s_groups_of (a 0) (fd 0)
  b_groups_of : Binds K (fd 0) ["text"] []
  m_replaced : mg "replaced" = some (.ref (a 1))
  F_replaced : Fun K "replaced" "replaced" s_replaced (a 1) (fd 1)
  b_replaced : Binds K (fd 1) ["text", "group"] []
  m_braced : mg "braced" = some (.ref (a 2))
  F_braced : Fun K "braced" "braced" s_braced (a 2) (fd 2)
  b_braced : Binds K (fd 2) ["text"] []
  m__law_well : mg "_law_well" = some (.ref (a 3))
  F__law_well : Fun K "_law_well" "_law_well" s__law_well (a 3) (fd 3)
  b__law_well : Binds K (fd 3) ["script"] []
  m__law_dip : mg "_law_dip" = some (.ref (a 4))
  F__law_dip : Fun K "_law_dip" "_law_dip" s__law_dip (a 4) (fd 4)
  b__law_dip : Binds K (fd 4) ["well", "many"] []
  m__law_one : mg "_law_one" = some (.ref (a 5))
  F__law_one : Fun K "_law_one" "_law_one" s__law_one (a 5) (fd 5)
  b__law_one : Binds K (fd 5) ["well", "items"] []
  m__law_mixed : mg "_law_mixed" = some (.ref (a 6))
  F__law_mixed : Fun K "_law_mixed" "_law_mixed" s__law_mixed (a 6) (fd 6)
  b__law_mixed : Binds K (fd 6) ["well", "items"] []
  m__law_alike : mg "_law_alike" = some (.ref (a 7))
  F__law_alike : Fun K "_law_alike" "_law_alike" s__law_alike (a 7) (fd 7)
  b__law_alike : Binds K (fd 7) ["found", "due"] []
  m__law_signs : mg "_law_signs" = some (.ref (a 8))
  F__law_signs : Fun K "_law_signs" "_law_signs" s__law_signs (a 8) (fd 8)
  b__law_signs : Binds K (fd 8) ["well"] []
  m__law_row : mg "_law_row" = some (.ref (a 9))
  F__law_row : Fun K "_law_row" "_law_row" s__law_row (a 9) (fd 9)
  b__law_row : Binds K (fd 9) ["well", "deep", "most"] []
  m__law_pairs : mg "_law_pairs" = some (.ref (a 10))
  F__law_pairs : Fun K "_law_pairs" "_law_pairs" s__law_pairs (a 10) (fd 10)
  b__law_pairs : Binds K (fd 10) ["some", "others"] []
  m__law_thing : mg "_law_thing" = some (.ref (a 11))
  F__law_thing : Fun K "_law_thing" "_law_thing" s__law_thing (a 11) (fd 11)
  b__law_thing : Binds K (fd 11) ["well", "deep"] []
  m__law_told : mg "_law_told" = some (.ref (a 12))
  F__law_told : Fun K "_law_told" "_law_told" s__law_told (a 12) (fd 12)
  b__law_told : Binds K (fd 12) ["text"] []
  m__law_tree_right : mg "_law_tree_right" = some (.ref (a 13))
  F__law_tree_right : Fun K "_law_tree_right" "_law_tree_right" s__law_tree_right (a 13) (fd 13)
  b__law_tree_right : Binds K (fd 13) ["well"] []
  m__law_products_right : mg "_law_products_right" = some (.ref (a 14))
  F__law_products_right : Fun K "_law_products_right" "_law_products_right" s__law_products_right (a 14) (fd 14)
  b__law_products_right : Binds K (fd 14) ["well"] []
  m_law : mg "law" = some (.ref (a 15))
  F_law : Fun K "law" "law" s_law (a 15) (fd 15)
  b_law : Binds K (fd 15) ["script"] []
section
variable {P : Program} {w : World} {K : PySem.W.Frag} {mg : Str → Option Value} {base : Heap} {a : Nat → Addr} {fd : Nat → FuncData}
theorem ok__law_well (T : Txt K mg a fd) : FnOk P w K mg base CX0 1 (a 3) (fd 3) ["script"] (spWell K) := by
  refine T.F__law_well.ok sc__law_well (fun vs H Q E h => ?_) (fun cdv A outer s H vs Q E hr h => ?_)
  · obtain ⟨a, ns, rfl, _⟩ := h; rfl
  · obtain ⟨p, ns, rfl, hS, hlen, k⟩ := h
    refine ⟨_, pss_cons (ps_setLc (i := 2) (own := [("cell", 1)]) (g := gName 1) (by rfl) sc__law_well.nd rfl rfl (sw_true rfl rfl rfl (by decide +kernel)) (pi_list (pv 0)) (blkOk_by (own := [("cell", 1)]) (N := N__law_well) (sc := defScope s__law_well) (by decide +kernel)) (fun _ _ _ _ _ => pg_name (i := 1) sc__law_well.nd rfl (Or.inl rfl)) (fun _ _ _ _ _ => pts_one (pt_cmpR op_ge (pe_callB call_abs (by rfl) T.n_abs (by decide +kernel) (pa_cons (pe_callTy call_intI (by rfl) T.n_int (by decide +kernel) (pa_cons (pv 1) pa_nil)) pa_nil)) (pe_op op_pow pe_int pe_int) (nomark _))) (fun _ _ _ _ _ => (pe_op op_sub (pe_callB call_abs (by rfl) T.n_abs (by decide +kernel) (pa_cons (pe_callTy call_intI (by rfl) T.n_int (by decide +kernel) (pa_cons (pv 1) pa_nil)) pa_nil)) (pe_op op_pow pe_int pe_int))))
    (pss_cons (ps_set (i := 3) sc__law_well.nd rfl (Or.inl rfl) pe_int)
    (pss_cons (ps_for PassesOwn.never rfl (pi_enum (by rfl) T.n_enumerate (pa_cons (pv 0) pa_nil)) (pg_tup rfl (pgs_cons (pg_name (i := 4) sc__law_well.nd rfl (Or.inl rfl)) (pgs_cons (pg_name (i := 1) sc__law_well.nd rfl (Or.inl rfl)) pgs_nil))) (pss_one (ps_set (i := 3) sc__law_well.nd rfl (Or.inl rfl) (pe_op op_mod (pe_callTy call_intI (by rfl) T.n_int (by decide +kernel) (pa_cons (pe_op op_add (pe_op op_add (pe_op op_mul (pe_op op_add (pv 3) (pe_callTy call_intI (by rfl) T.n_int (by decide +kernel) (pa_cons (pv 1) pa_nil))) pe_int) (pe_op op_mul (pe_op op_add (pv 4) pe_int) (pe_callTy call_intI (by rfl) T.n_int (by decide +kernel) (pa_cons (pv 1) pa_nil)))) pe_int) pa_nil)) (pe_op op_add (pe_op op_pow pe_int pe_int) pe_int)))))
    (pss_one (ps_ret (pe_lst (pa_cons (pv 2) (pa_cons (pv 3) (pa_cons pe_int pa_nil)))))))), ?_⟩
    refine ⟨_, rfl, p, rfl, ⟨_, hS⟩, fun D hD => ?_⟩
    refine lc_it (walk_map (xs := ns)) (fun i H' => Same H H' ∧ ∃ gs : List Int, H' D = some (.lst (gs.map V.int)) ∧ gs.length ≤ i)
      ⟨(Same.refl H).upd_new hD, [], upd_same, Nat.le_refl _⟩ (fun i H' _ h => h.1.seq hS) (fun i x H1 H2 hi ⟨s1, gs, hg, hl⟩ hy => ?_) (fun H1 ⟨s1, gs, hg, hl⟩ => ?_)
    · obtain ⟨rfl, n, hn, rfl⟩ := hy
      refine ⟨rfl, ⟨_, rfl, _, rfl, _, rfl, _, _, rfl, rfl, ⟨by decide, by decide, by decide⟩, _, _, rfl, rfl, _, rfl, ?_⟩⟩
      refine ite2 (fun _ => ?_) (fun _ => ⟨s1, gs, hg, by omega⟩)
      refine ⟨_, rfl, _, rfl, _, rfl, _, _, rfl, rfl, ⟨by decide, by decide, by decide⟩, _, _, rfl, rfl, ?_⟩
      refine ⟨_, hg, ?_, s1.own hD, gs ++ [_], by rw [upd_same, List.map_append]; rfl, by simp; exact hl⟩
      simp; exact sizeOfL (by omega)
    · have hl : gs.length ≤ 63 := by omega
      refine ⟨_, rfl, _, _, rfl, s1.seq hS, ?_⟩
      refine for_it walk_enumMap (fun i σ H' => Same H H' ∧ H' D = some (.lst (gs.map V.int)) ∧ ∃ c1 c4 m, σ = [some (.ref p), c1, some (.ref D), some (.int m), c4] ∧ 0 ≤ m ∧ m < 10 ^ 41 + 3)
        ⟨s1, hg, _, _, _, rfl, by decide, by decide⟩ (fun i σ H' _ h => h.1.seq hS) (fun i x σ H1 H2 hi ⟨s2, hg2, c1, c4, m, e, m1, m2⟩ hy => ?_) (fun σ H1 ⟨s2, hg2, c1, c4, m, e, m1, m2⟩ => ?_)
      · subst e
        obtain ⟨t, n, rfl, ht, rfl, hn⟩ := hy
        have hi2 : i < 63 := by omega
        refine ⟨_, _, rfl, (.of upd_same), rfl, _, _, rfl, _, _, rfl, rfl, _, rfl, _, rfl, _, rfl, _, _, rfl, rfl, _, _, rfl, rfl, (by first | exact .inr ⟨by decide, by decide⟩ | exact .inl ⟨by decide, by decide⟩ | exact .inl ⟨by omega, by omega⟩ | exact .inr ⟨by omega, by omega⟩), _, rfl, _, _, rfl, rfl, _, rfl, _, rfl, _, _, rfl, rfl, (by first | exact .inr ⟨by decide, by decide⟩ | exact .inl ⟨by decide, by decide⟩ | exact .inl ⟨by omega, by omega⟩ | exact .inr ⟨by omega, by omega⟩), _, _, rfl, rfl, _, _, rfl, rfl, _, rfl, _, _, rfl, rfl, ⟨by decide, by decide, by decide⟩, _, _, rfl, rfl, _, _, rfl, rfl, (by show (0 : Int) < _; first | decide | omega | assumption), ?_⟩
        exact ⟨s2.upd_new ht, by rw [upd_ne (ne_of_none hg2 ht)]; exact hg2, _, _, _, rfl, Int.emod_nonneg _ (by decide), Int.emod_lt_of_pos _ (by decide)⟩
      · subst e
        refine ⟨_, rfl, _, rfl, (sizeOf (by simp)), fun p1 hp1 => ?_⟩
        refine k _ _ D (s2.upd_new hp1) (s2.free hp1) hD ⟨ne_of_none' hp1 hg2 , m, 0, gs, upd_same, ?_, m1, m2, by decide, by decide, hl⟩
        rw [upd_ne (ne_of_none hg2 hp1)]; exact hg2
theorem ok__law_dip (T : Txt K mg a fd) : FnOk P w K mg base CX0 1 (a 4) (fd 4) ["well", "many"] spDip := by
  refine T.F__law_dip.ok sc__law_dip (fun vs H Q E h => ?_) (fun cdv A outer s H vs Q E hr h => ?_)
  · obtain ⟨_, _, _, _, rfl, _⟩ := h; rfl
  · obtain ⟨w0, g, n, m, rfl, W, hn, hm, hm2, k⟩ := h
    refine ⟨_, pss_cons (ps_set (i := 2) sc__law_dip.nd rfl (Or.inl rfl) (pe_ix (show IxR _ (rIxL K) from ix_list) (pv 0) pe_int (fun _ _ => rfl)))
    (pss_cons (ps_if (pt_cmpR (op_neNil hr.units0) (pv 2) (pe_lst pa_nil) (nomark _)) (pss_cons (ps_set (i := 3) sc__law_dip.nd rfl (Or.inl rfl) (pe_callTy call_intI (by rfl) T.n_int (by decide +kernel) (pa_cons (pe_ix (show IxR _ (rIxL K) from ix_list) (pv 2) pe_int (fun _ _ => rfl)) pa_nil)))
    (pss_cons (ps_asg (pe_op op_fdiv (pv 3) (pv 1)) (pg_sub (pv 2) pe_int set_list))
    (pss_cons (ps_if (pt_cmpR op_lt (pe_ix (show IxR _ (rIxL K) from ix_list) (pv 2) pe_int (fun _ _ => rfl)) pe_int (nomark _)) (pss_one (ps_expr (pe_bm PySem.F.plainAttrs_list PySem.F.slot_list_pop PySem.F.type_list_pop mt_popAt (pv 2) (pa_cons pe_int pa_nil)))) pss_nil)
    (pss_one (ps_ret (pe_op op_mod (pv 3) (pv 1))))))) pss_nil)
    (pss_cons (ps_asg (pe_op op_add (pe_ix (show IxR _ (rIxL K) from ix_list) (pv 0) pe_int (fun _ _ => rfl)) pe_int) (pg_sub (pv 0) pe_int set_list))
    (pss_cons (ps_set (i := 3) sc__law_dip.nd rfl (Or.inl rfl) (pe_op op_mod (pe_callTy call_intI (by rfl) T.n_int (by decide +kernel) (pa_cons (pe_op op_mul (pe_op op_add (pe_ix (show IxR _ (rIxL K) from ix_list) (pv 0) pe_int (fun _ _ => rfl)) (pe_op op_mul pe_int (pe_ix (show IxR _ (rIxL K) from ix_list) (pv 0) pe_int (fun _ _ => rfl)))) (pe_op op_add (pe_op op_mod (pe_ix (show IxR _ (rIxL K) from ix_list) (pv 0) pe_int (fun _ _ => rfl)) pe_int) (pe_op op_mul pe_int (pe_ix (show IxR _ (rIxL K) from ix_list) (pv 0) pe_int (fun _ _ => rfl))))) pa_nil)) (pe_op op_add (pe_op op_pow pe_int pe_int) pe_int)))
    (pss_cons (ps_set (i := 3) sc__law_dip.nd rfl (Or.inl rfl) (pe_op op_mod (pe_callTy call_intI (by rfl) T.n_int (by decide +kernel) (pa_cons (pe_op op_add (pe_op op_add (pe_op op_mulW (pv 3) (pv 3)) (pe_ix (show IxR _ (rIxL K) from ix_list) (pv 0) pe_int (fun _ _ => rfl))) (pe_ix (show IxR _ (rIxL K) from ix_list) (pv 0) pe_int (fun _ _ => rfl))) pa_nil)) (pe_op op_add (pe_op op_pow pe_int pe_int) pe_int)))
    (pss_one (ps_ret (pe_op op_mod (pe_callTy call_intI (by rfl) T.n_int (by decide +kernel) (pa_cons (pe_op op_fdiv (pv 3) pe_int) pa_nil)) (pv 1)))))))), ?_⟩
    obtain ⟨ne, q, c, gs, h1, h2, q1, q2, c1, c2, hl⟩ := W
    refine ⟨_, rfl, _, _, _, _, rfl, rfl, .of h1, rfl, _, rfl, (sizeOf (by simp)), fun p1 hp1 => ⟨_, _, _, rfl, rfl, .of ((upd_ne (ne_of_none h2 hp1)).trans h2), (.of upd_same), _, rfl, ?_⟩⟩
    cases gs with
    | cons x xs =>
      refine iteT ?_
      have e1 : (upd H p1 (.lst [])) g = some (.lst ((x :: xs).map V.int)) := (upd_ne (ne_of_none h2 hp1)).trans h2
      refine ⟨_, rfl, _, _, _, _, rfl, rfl, .of e1, atI_head, _, rfl, _, rfl, _, rfl, _, _, rfl, rfl, (by first | exact ⟨by decide, by decide⟩ | exact ⟨by omega, by omega⟩), _, rfl, _, _, _, _, rfl, rfl, e1, ixN_head, _, rfl, _, _, _, _, rfl, rfl, .of upd_same, atI_head, _, _, rfl, rfl, _, rfl, ?_⟩
      have W1 : ∀ zs : List Int, zs.length ≤ 63 → WellAt (upd (upd H p1 (.lst [])) g (.lst (zs.map V.int))) w0 g (n + 1) := fun zs hz =>
        ⟨ne, q, c, zs, by rw [upd_ne ne, upd_ne (ne_of_none h1 hp1)]; exact h1, upd_same, q1, q2, c1, by omega, hz⟩
      have O1 : ∀ zs : List Int, Off w0 g H (upd (upd H p1 (.lst [])) g (.lst (zs.map V.int))) := fun zs => ((Same.refl H).upd_new hp1).off.g
      refine ite2 (fun _ => ?_) (fun _ => ?_)
      · refine ⟨_, rfl, (.inl ⟨rfl, _, .of (upd_same)⟩), _, _, _, _, _, rfl, rfl, upd_same, (by omega), (by omega), sIx_head, rfl, _, rfl, _, rfl, _, _, rfl, rfl, (by show (0 : Int) < _; first | decide | omega | assumption), ?_⟩
        rw [upd_upd]
        exact k _ _ (O1 xs) (W1 xs (by simp at hl; omega)) (Int.emod_nonneg _ (by omega)) (Int.emod_lt_of_pos _ hm)
      · refine ⟨_, rfl, _, rfl, _, _, rfl, rfl, (by show (0 : Int) < _; first | decide | omega | assumption), ?_⟩
        exact k _ _ (O1 (x / m :: xs)) (W1 (x / m :: xs) hl) (Int.emod_nonneg _ (by omega)) (Int.emod_lt_of_pos _ hm)
    | nil =>
      refine iteF ?_
      have e1 : (upd H p1 (.lst [])) w0 = some (.lst [.ref g, .int q, .int c]) := (upd_ne (ne_of_none h1 hp1)).trans h1
      refine ⟨_, rfl, _, _, _, _, rfl, rfl, .of e1, rfl, _, _, rfl, rfl, _, rfl, _, _, _, _, rfl, rfl, e1, rfl, ?_⟩
      refine ⟨_, rfl, _, _, _, _, rfl, rfl, .of upd_same, rfl, _, rfl, _, _, _, _, rfl, rfl, .of upd_same, rfl, _, _, rfl, rfl, (by first | exact .inr ⟨by decide, by decide⟩ | exact .inl ⟨by decide, by decide⟩ | exact .inl ⟨by omega, by omega⟩ | exact .inr ⟨by omega, by omega⟩), _, _, rfl, rfl, _, rfl, _, _, _, _, rfl, rfl, .of upd_same, rfl, _, _, rfl, rfl, (by show (0 : Int) < _; first | decide | omega | assumption), _, rfl, _, _, _, _, rfl, rfl, .of upd_same, rfl, _, _, rfl, rfl, (by first | exact .inr ⟨by decide, by decide⟩ | exact .inl ⟨by decide, by decide⟩ | exact .inl ⟨by omega, by omega⟩ | exact .inr ⟨by omega, by omega⟩), _, _, rfl, rfl, _, _, rfl, rfl, (by first | exact .inr ⟨by decide, by decide⟩ | exact .inl ⟨by decide, by decide⟩ | exact .inl ⟨by omega, by omega⟩ | exact .inr ⟨by omega, by omega⟩), _, rfl, _, _, rfl, rfl, ⟨by decide, by decide, by decide⟩, _, _, rfl, rfl, _, _, rfl, rfl, (by show (0 : Int) < _; first | decide | omega | assumption), _, rfl, _, rfl, _, _, rfl, rfl, sq_wide (by decide) (by decide), _, rfl, _, _, _, _, rfl, rfl, .of upd_same, rfl, _, _, rfl, rfl, _, rfl, _, _, _, _, rfl, rfl, .of upd_same, rfl, _, _, rfl, rfl, _, rfl, _, _, rfl, rfl, ⟨by decide, by decide, by decide⟩, _, _, rfl, rfl, _, _, rfl, rfl, (by show (0 : Int) < _; first | decide | omega | assumption), _, rfl, _, _, rfl, rfl, (by first | exact ⟨by decide, by decide⟩ | exact ⟨by omega, by omega⟩), _, rfl, _, rfl, _, _, rfl, rfl, (by show (0 : Int) < _; first | decide | omega | assumption), ?_⟩
      refine k _ _ ((Same.refl H).upd_new hp1).off.w ⟨ne, q, c + 1, [], upd_same, ?_, q1, q2, by omega, by omega, hl⟩ (Int.emod_nonneg _ (by omega)) (Int.emod_lt_of_pos _ hm)
      rw [upd_ne (Ne.symm ne), upd_ne (ne_of_none h2 hp1)]; exact h2
end
end B34

set_option autoImplicit true
set_option Elab.async false
set_option linter.all false
set_option maxRecDepth 100000
set_option maxHeartbeats 8000000
namespace B34
open PySem L2
section
variable {P : Program} {w : World} {K : PySem.W.Frag} {mg : Str → Option Value} {base : Heap} {a : Nat → Addr} {fd : Nat → FuncData}
theorem ok__law_one (T : Txt K mg a fd) : FnOk P w K mg base CX0 2 (a 5) (fd 5) ["well", "items"] (spOne K) := by
  refine T.F__law_one.ok sc__law_one (fun vs H Q E h => ?_) (fun cdv A outer s H vs Q E hr h => ?_)
  · obtain ⟨_, _, _, _, _, rfl, _⟩ := h; rfl
  · obtain ⟨w0, g, l, n, xs, rfl, W, hn, hS, lw, lg, x0, x1, k⟩ := h
    have G__law_dip := ok__law_dip (P := P) (w := w) (base := base) T
    refine ⟨_, pss_one (ps_ret (pe_ix (show IxR _ (rIxL K) from ix_list) (pv 1) (pe_call G__law_dip (hr.mono (by first | decide | omega)) rfl T.m__law_dip T.F__law_dip.kp T.b__law_dip .nil pass0 (pa_cons (pv 0) (pa_cons (pe_callB call_len_seq (by rfl) T.n_len PySem.boot_len (pa_cons (pv 1) pa_nil)) pa_nil))) (fun _ _ => rfl))), ?_⟩
    refine ⟨_, rfl, _, rfl, _, rfl, _, _, rfl, .inl hS, w0, g, n, _, rfl, W, hn, (by omega), (by omega), fun H1 r O1 W1 r0 r1 => ⟨_, _, _, _, rfl, rfl, O1.seq hS lw lg, atI_ok r0 r1, ?_⟩⟩
    exact k _ _ O1 W1 (List.getElem_mem _)
theorem ok__law_mixed (T : Txt K mg a fd) : FnOk P w K mg base CX0 2 (a 6) (fd 6) ["well", "items"] (spMixed K) := by
  refine T.F__law_mixed.ok sc__law_mixed (fun vs H Q E h => ?_) (fun cdv A outer s H vs Q E hr h => ?_)
  · obtain ⟨_, _, _, _, _, rfl, _⟩ := h; rfl
  · obtain ⟨w0, g, l, n, xs, rfl, W, hn, hS, lw, lg, x1, k⟩ := h
    have G__law_dip := ok__law_dip (P := P) (w := w) (base := base) T
    refine ⟨_, pss_cons (ps_par (i := 2) (j := 3) (by rfl) sc__law_mixed.nd rfl rfl (by decide) rfl rfl (pa_cons (pe_callTy call_list_of (by rfl) T.n_list (by decide +kernel) (pa_cons (pv 1) pa_nil)) (pa_cons (pe_lst pa_nil) pa_nil)) (by rfl))
    (pss_cons (ps_for PassesOwn.never rfl (pi_range1 (by rfl) T.n_range (pa_cons (pe_callB call_len_seq (by rfl) T.n_len PySem.boot_len (pa_cons (pv 1) pa_nil)) pa_nil)) (pg_name (i := 4) sc__law_mixed.nd rfl (Or.inl rfl)) (pss_one (ps_expr (pe_bm PySem.F.plainAttrs_list PySem.F.slot_list_append PySem.F.type_list_append mt_append (pv 3) (pa_cons (pe_bm PySem.F.plainAttrs_list PySem.F.slot_list_pop PySem.F.type_list_pop mt_popAt (pv 2) (pa_cons (pe_call G__law_dip (hr.mono (by first | decide | omega)) rfl T.m__law_dip T.F__law_dip.kp T.b__law_dip .nil pass0 (pa_cons (pv 0) (pa_cons (pe_callB call_len_seq (by rfl) T.n_len PySem.boot_len (pa_cons (pv 2) pa_nil)) pa_nil))) pa_nil)) pa_nil)))))
    (pss_one (ps_ret (pv 3)))), ?_⟩
    refine ⟨_, rfl, _, _, rfl, .inl hS, fun p1 hp1 => ⟨(sizeOf (by simp)), fun p2 hp2 => ⟨_, _, rfl, _, rfl, _, _, rfl, .inl ((((Same.refl H).upd_new hp1).upd_new hp2).seq hS), _, rfl, (by omega), (by omega), ?_⟩⟩⟩
    have n12 : p2 ≠ p1 := ne_of_none' hp2 upd_same
    have hp20 : H p2 = none := by rw [upd_ne n12] at hp2; exact hp2
    have W2 := (W.new hp1 (o := .lst xs)).new hp2 (o := .lst [])
    have d1 := W.ne hp1
    have d2 := W.ne hp20
    refine for_it walk_range (fun i σ H' => Off w0 g H H' ∧ WellAt H' w0 g (n + i) ∧ ∃ c4 rest ys, σ = [some (.ref w0), some (.ref l), some (.ref p1), some (.ref p2), c4] ∧ H' p1 = some (.lst rest) ∧ H' p2 = some (.lst ys) ∧ (ys ++ rest).Perm xs ∧ ys.length = i)
      ⟨(((Same.refl H).upd_new hp1).upd_new hp2).off, by simpa using W2, _, xs, [], rfl, by rw [upd_ne (Ne.symm n12)]; exact upd_same, upd_same, .refl _, rfl⟩ (fun _ _ _ _ _ => trivial)
      (fun i x σ H1 H2 hi ⟨O1, W1, c4, rest, ys, e, h1, h2, pm, hl⟩ hy => ?_) (fun σ H1 ⟨O1, W1, c4, rest, ys, e, h1, h2, pm, hl⟩ => ?_)
    · subst e
      obtain ⟨rfl, rfl⟩ := hy
      have hlen := pm.length_eq
      rw [List.length_append] at hlen
      have hi2 : i < xs.length := by simpa using hi
      refine ⟨_, rfl, (.inl ⟨rfl, _, .of (h2)⟩), _, rfl, (.inl ⟨rfl, _, .of (h1)⟩), _, rfl, _, rfl, _, _, rfl, .inl (.of h1), w0, g, n + i, _, rfl, W1, (by omega), (by omega), (by omega), fun H3 r O3 W3 r0 r1 => ⟨_, _, _, _, _, rfl, rfl, O3 _ _ h1 d1.1 d1.2, (by omega), (by omega), sIx_ok r0 r1, List.getElem?_eq_getElem (by omega), _, _, _, rfl, rfl, (by rw [upd_ne n12]; exact O3 _ _ h2 d2.1 d2.2), (sizeOfL (by first | omega | (simp; omega))), ?_⟩⟩
      refine ⟨((O1.trans O3).own hp1).own hp20, ?_, _, _, _, rfl, by rw [upd_ne (Ne.symm n12)]; exact upd_same, upd_same, perm_pick _ pm, by simp [hl]⟩
      rw [show n + ((i + 1 : Nat) : Int) = n + i + 1 by push_cast; omega]
      exact (W3.upd d1.1 d1.2).upd d2.1 d2.2
    · subst e
      have hlen := pm.length_eq
      rw [List.length_append] at hlen
      have e0 : rest = [] := List.eq_nil_of_length_eq_zero (by simp at hl; omega)
      subst e0
      refine ⟨_, rfl, ?_⟩
      rw [List.append_nil] at pm
      exact k _ p2 ys O1 (by simpa using W1) hp20 d2.1 d2.2 h2 pm
def SG : List Nat := [97, 98, 32, 42, 10, 48, 92, 39]
def spSigns : Sp := fun vs H Q _ => ∃ (w g : Addr) (n : Int), vs = [.ref w] ∧ WellAt H w g n ∧ n + 4 ≤ 10 ^ 9 ∧
  ∀ H' t, Off w g H H' → WellAt H' w g (n + 4) → (∀ c ∈ t, c ∈ SG) → t.length ≤ 3 → Q (tv t) H'
theorem signs_mem {x : V} (h : x ∈ (["a", "b", " ", "*", "\n", "0", "\\", "'"] : List Str).map V.str) : ∃ c, c ∈ SG ∧ x = tv [c] := by
  obtain ⟨z, hz, rfl⟩ := List.mem_map.mp h
  simp only [List.mem_cons, List.not_mem_nil, or_false] at hz
  rcases hz with rfl | rfl | rfl | rfl | rfl | rfl | rfl | rfl
  · exact ⟨97, by decide, rfl⟩
  · exact ⟨98, by decide, rfl⟩
  · exact ⟨32, by decide, rfl⟩
  · exact ⟨42, by decide, rfl⟩
  · exact ⟨10, by decide, rfl⟩
  · exact ⟨48, by decide, rfl⟩
  · exact ⟨92, by decide, rfl⟩
  · exact ⟨39, by decide, rfl⟩
theorem ok__law_signs (T : Txt K mg a fd) : FnOk P w K mg base CX0 3 (a 8) (fd 8) ["well"] spSigns := by
  refine T.F__law_signs.ok sc__law_signs (fun vs H Q E h => ?_) (fun cdv A outer s H vs Q E hr h => ?_)
  · obtain ⟨_, _, _, rfl, _⟩ := h; rfl
  · obtain ⟨w0, g, n, rfl, W, hn, k⟩ := h
    have G__law_dip := ok__law_dip (P := P) (w := w) (base := base) T
    have G__law_one := ok__law_one (P := P) (w := w) (base := base) T
    refine ⟨_, pss_one (ps_ret (pe_join pe_str (pe_lc (own := [("turn", 1)]) (g := gName 1) (tt := tYes) (by rfl) sc__law_signs.nd (pi_range1 (by rfl) T.n_range (pa_cons (pe_call G__law_dip (hr.mono (by first | decide | omega)) rfl T.m__law_dip T.F__law_dip.kp T.b__law_dip .nil pass0 (pa_cons (pv 0) (pa_cons pe_int pa_nil))) pa_nil)) (blkOk_by (own := [("turn", 1)]) (N := N__law_signs) (sc := defScope s__law_signs) (by decide +kernel)) (fun _ _ _ _ _ => pg_name (i := 1) sc__law_signs.nd rfl (Or.inl rfl)) (fun _ _ _ _ _ => pts_nil) (fun _ _ _ _ _ => (pe_call G__law_one (hr.mono (by first | decide | omega)) rfl T.m__law_one T.F__law_one.kp T.b__law_one .nil pass0 (pa_cons (pv 0) (pa_cons (pe_lst (pa_cons pe_str (pa_cons pe_str (pa_cons pe_str (pa_cons pe_str (pa_cons pe_str (pa_cons pe_str (pa_cons pe_str (pa_cons pe_str pa_nil))))))))) pa_nil))))))), ?_⟩
    refine ⟨⟨_, rfl⟩, ⟨_, rfl, w0, g, n, _, rfl, W, (by omega), (by decide), (by decide), fun H1 r O1 W1 r0 r1 => ⟨_, rfl, (by omega), (by omega), fun D hD => ?_⟩⟩⟩
    have hn0 := W.pos
    refine lc_it walk_range (fun i H' => Off w0 g H H' ∧ WellAt H' w0 g (n + 1 + i) ∧ ∃ cs : List Nat, H' D = some (.lst (cs.map fun c => tv [c])) ∧ cs.length = i ∧ ∀ c ∈ cs, c ∈ SG)
      ⟨O1.new hD, by simpa using W1.new hD, [], upd_same, rfl, by simp⟩ (fun _ _ _ _ => trivial) (fun i x H2 H3 hi ⟨O2, W2, cs, hd, hl, hc⟩ hy => ?_) (fun H2 ⟨O2, W2, cs, hd, hl, hc⟩ => ?_)
    · obtain ⟨rfl, rfl⟩ := hy
      have hi2 : i < 4 := by omega
      have dD := W1.ne hD
      refine ⟨rfl, ?_⟩
      refine ⟨_, rfl, (sizeOf (by simp)), fun p1 hp1 => ⟨w0, g, p1, _, _, rfl, W2.new hp1, (by omega), .of upd_same, (W2.ne hp1).1, (W2.ne hp1).2, (by decide), (by decide), fun H4 y O4 W4 hy => ?_⟩⟩
      obtain ⟨c, hc1, rfl⟩ := signs_mem hy
      have hd1 : H4 D = some (.lst (cs.map fun c => tv [c])) := O4 _ _ (by rw [upd_ne (ne_of_none hd hp1)]; exact hd) dD.1 dD.2
      refine ⟨_, hd1, sizeOfL (by simp; omega), ?_, ?_, cs ++ [c], by rw [upd_same, List.map_append]; rfl, by simp [hl], ?_⟩
      · exact Off.own ((O2.new hp1).trans O4) (O1.free hD dD.1 dD.2)
      · rw [show n + 1 + ((i + 1 : Nat) : Int) = n + 1 + i + 1 by push_cast; omega]
        exact W4.upd dD.1 dD.2
      · intro c' h
        rcases List.mem_append.mp h with h | h
        · exact hc c' h
        · simp at h; rw [h]; exact hc1
    · refine ⟨_, _, cs.map fun c => tS [c], rfl, rfl, .inl (.of (by rw [List.map_map]; exact hd)), ?_, ?_⟩
      · have e : (cs.map fun c => tS [c]) = (cs.map fun c => [c]).map tS := by rw [List.map_map]; rfl
        rw [e, sum_tS, singles_flat]
        show cs.length + _ * 0 ≤ _
        omega
      · have e : (cs.map fun c => tS [c]) = (cs.map fun c => [c]).map tS := by rw [List.map_map]; rfl
        rw [e, show (Str.ofString "") = tS [] from rfl, join_tS, joinL_nil, singles_flat]
        exact k _ _ O2 (W2.mono (by omega)) hc (by omega)
def spPairs (K : PySem.W.Frag) : Sp := fun vs H Q _ => ∃ (a b : Addr) (xs ys : List (List Nat)), vs = [.ref a, .ref b] ∧ SqL K H a (xs.map tv) ∧ SqL K H b (ys.map tv) ∧ xs.length * ys.length ≤ 10 ^ 6 ∧ ys.length ≤ 10 ^ 6 ∧
  ∀ H' p vs, Same H H' → H p = none → H' p = some (.lst vs) → Both (PrAt H') vs (xs.flatMap fun x => ys.map fun y => (x, y)) → Q (.ref p) H'
theorem ok__law_pairs (T : Txt K mg a fd) : FnOk P w K mg base CX0 1 (a 10) (fd 10) ["some", "others"] (spPairs K) := by
  refine T.F__law_pairs.ok sc__law_pairs (fun vs H Q E h => ?_) (fun cdv A outer s H vs Q E hr h => ?_)
  · obtain ⟨_, _, _, _, rfl, _⟩ := h; rfl
  · obtain ⟨l1, l2, xs, ys, rfl, hX, hY, hn, hn2, k⟩ := h
    refine ⟨_, pss_cons (ps_set (i := 2) sc__law_pairs.nd rfl (Or.inl rfl) (pe_lst pa_nil))
    (pss_cons (ps_for PassesOwn.never rfl (pi_list (pv 0)) (pg_name (i := 3) sc__law_pairs.nd rfl (Or.inr rfl)) (pss_one (ps_set (i := 2) sc__law_pairs.nd rfl (Or.inl rfl) (pe_op op_cat (pv 2) (pe_lc (own := [("other", 4)]) (g := gName 4) (tt := tYes) (by rfl) sc__law_pairs.nd (pi_list (pv 1)) (blkOk_by (own := [("other", 4)]) (N := N__law_pairs) (sc := defScope s__law_pairs) (by decide +kernel)) (fun _ _ _ _ _ => pg_name (i := 4) sc__law_pairs.nd rfl (Or.inl rfl)) (fun _ _ _ _ _ => pts_nil) (fun _ _ _ _ _ => (pe_tup (pa_cons (pv 3) (pa_cons (pv 4) pa_nil)))))))))
    (pss_one (ps_ret (pv 2)))), ?_⟩
    refine ⟨(sizeOf (by simp)), fun p1 hp1 => ⟨_, rfl, _, rfl, ⟨_, ((Same.refl H).upd_new hp1).seq hX⟩, ?_⟩⟩
    refine for_it walk_map (fun i σ H' => Same H H' ∧ ∃ c3 c4 p vs, σ = [some (.ref l1), some (.ref l2), some (.ref p), c3, c4] ∧ H p = none ∧ H' p = some (.lst vs) ∧ Both (PrAt H') vs ((xs.take i).flatMap fun x => ys.map fun y => (x, y)))
      ⟨(Same.refl H).upd_new hp1, _, _, p1, [], rfl, hp1, upd_same, .nil⟩ (fun i σ H' _ h => h.1.seq hX) (fun i x σ H1 H2 hi ⟨S1, c3, c4, p, vs, e, h1, h2, B⟩ hy => ?_) (fun σ H1 ⟨S1, c3, c4, p, vs, e, h1, h2, B⟩ => ?_)
    · subst e
      obtain ⟨rfl, x, hx, rfl⟩ := hy
      refine ⟨_, rfl, ⟨_, rfl, _, rfl, ⟨_, S1.seq hY⟩, fun D hD => ?_⟩⟩
      have hDH := S1.free hD
      refine lc_it walk_map (fun j H' => Same H H' ∧ H' p = some (.lst vs) ∧ Tups H2 H' ∧ ∃ us, H' D = some (.lst us) ∧ Both (PrAt H') us ((ys.take j).map fun y => (x, y)))
        ⟨S1.upd_new hD, by rw [upd_ne (ne_of_none h2 hD)]; exact h2, (Tups.refl _).new hD, [], upd_same, .nil⟩ (fun j H' _ h => h.1.seq hY) (fun j y H3 H4 hj ⟨S2, g2, t2, us, g3, B2⟩ hz => ?_) (fun H4 ⟨S2, g2, t2, us, g3, B2⟩ => ?_)
      · obtain ⟨rfl, y, hy, rfl⟩ := hz
        refine ⟨rfl, ?_⟩
        refine ⟨_, rfl, _, rfl, (sizeOf (by simp)), fun p1 hp1 => ?_⟩
        have g4 : upd H4 p1 (.tup [tv x, tv y]) D = some (.lst us) := by rw [upd_ne (ne_of_none g3 hp1)]; exact g3
        have hl := B2.length
        rw [List.length_map, List.length_take] at hl
        have t5 : Tups H4 (upd (upd H4 p1 (.tup [tv x, tv y])) D (.lst (us ++ [.ref p1]))) := ((Tups.refl _).new hp1).set g4
        refine ⟨us, g4, sizeOfL (by omega), (S2.upd_new hp1).own hDH, ?_, t2.trans t5, _, upd_same, ?_⟩
        · rw [upd_ne (ne_of_none h2 hD), upd_ne (ne_of_none g2 hp1)]; exact g2
        · rw [takeNext hy, List.map_append]
          refine (B2.mono fun _ _ h => h.mono t5).app (.one ⟨p1, rfl, ?_⟩)
          rw [upd_ne (ne_of_none' hp1 g3)]
          exact upd_same
      · rw [List.take_length] at B2
        have hl := B.length
        have hl2 := B2.length
        rw [List.length_map] at hl2
        have hi2 : vs.length + us.length ≤ 10 ^ 6 := by
          rw [pairs_len, List.length_take, Nat.min_eq_left (by omega)] at hl
          have : (i + 1) * ys.length ≤ xs.length * ys.length := Nat.mul_le_mul_right _ hi
          rw [Nat.succ_mul] at this
          omega
        refine ⟨_, _, _, _, rfl, rfl, g2, g3, sizeOf hi2, fun q hq => ?_⟩
        have t5 : Tups H4 (upd H4 q (.lst (vs ++ us))) := (Tups.refl _).new hq
        refine ⟨S2.upd_new hq, _, _, q, _, rfl, S2.free hq, upd_same, ?_⟩
        rw [takeNext hx, List.flatMap_append]
        refine (B.mono fun _ _ h => (h.mono t2).mono t5).app ?_
        simpa using B2.mono fun _ _ h => h.mono t5
    · subst e
      rw [List.take_length] at B
      refine ⟨_, rfl, ?_⟩
      exact k _ p vs S1 h1 h2 B
end
end B34

set_option autoImplicit true
set_option Elab.async false
set_option linter.all false
set_option maxRecDepth 100000
set_option maxHeartbeats 8000000
namespace B34
open PySem L2
def iv (n : Nat) : V := .int (n : Int)
/-- a group, its commas' list at l -/
def GpL (H : Hp) (v : V) (x : Addr × K34.Gp) : Prop := ∃ r, v = .ref r ∧ H r = some (.tup [iv x.2.1, iv x.2.2.1, .ref x.1]) ∧ H x.1 = some (.lst (x.2.2.2.map iv))
/-- an open brace, its commas' list at l -/
def WtL (H : Hp) (v : V) (x : Addr × Nat × List Nat) : Prop := ∃ r, v = .ref r ∧ H r = some (.tup [iv x.2.1, .ref x.1]) ∧ H x.1 = some (.lst (x.2.2.map iv))
theorem GpL.mono {H H' : Hp} {v : V} {x : Addr × K34.Gp} (s : Tups H H') (k : ∀ o, H x.1 = some o → H' x.1 = some o) (h : GpL H v x) : GpL H' v x := by
  obtain ⟨r, e, h1, h2⟩ := h
  exact ⟨r, e, s _ _ h1, k _ h2⟩
theorem WtL.mono {H H' : Hp} {v : V} {x : Addr × Nat × List Nat} (s : Tups H H') (k : ∀ o, H x.1 = some o → H' x.1 = some o) (h : WtL H v x) : WtL H' v x := by
  obtain ⟨r, e, h1, h2⟩ := h
  exact ⟨r, e, s _ _ h1, k _ h2⟩
/-- between two turns of groups_of -/
structure GS (H0 H : Hp) (F W : Addr) (i : Nat) (vs : List V) (xs : List (Addr × Nat × List Nat)) (us : List V) (ys : List (Addr × K34.Gp)) : Prop where
  same : Same H0 H
  f0 : H0 F = none
  w0 : H0 W = none
  hF : H F = some (.lst us)
  hW : H W = some (.lst vs.reverse)
  wt : Both (WtL H) vs xs
  gp : Both (GpL H) us ys
  nd : (F :: W :: (xs.map (·.1) ++ ys.map (·.1))).Nodup
  free : ∀ l ∈ xs.map (·.1), H0 l = none
  nx : xs.length ≤ i
  ny : ys.length ≤ i
  nc : ∀ x ∈ xs, x.2.2.length ≤ i
section
variable {H0 H : Hp} {F W : Addr} {i : Nat} {vs us : List V} {xs : List (Addr × Nat × List Nat)} {ys : List (Addr × K34.Gp)}
theorem GS.up (h : GS H0 H F W i vs xs us ys) {j : Nat} (l : i ≤ j) : GS H0 H F W j vs xs us ys :=
  ⟨h.same, h.f0, h.w0, h.hF, h.hW, h.wt, h.gp, h.nd, h.free, Nat.le_trans h.nx l, Nat.le_trans h.ny l, fun x hx => Nat.le_trans (h.nc x hx) l⟩
theorem GS.new (h : GS H0 H F W i vs xs us ys) {p : Addr} {o : HO} (n : H p = none) : GS H0 (upd H p o) F W i vs xs us ys := by
  have k : ∀ l o', H l = some o' → upd H p o l = some o' := fun l o' e => by rw [upd_ne (ne_of_none e n)]; exact e
  exact ⟨h.same.upd_new n, h.f0, h.w0, k _ _ h.hF, k _ _ h.hW, h.wt.mono fun _ _ z => z.mono ((Tups.refl _).new n) (k _), h.gp.mono fun _ _ z => z.mono ((Tups.refl _).new n) (k _), h.nd, h.free, h.nx, h.ny, h.nc⟩
theorem GS.ls (h : GS H0 H F W i vs xs us ys) : (∀ l ∈ xs.map (·.1), l ≠ F ∧ l ≠ W) ∧ (∀ l ∈ ys.map (·.1), l ≠ F ∧ l ≠ W) ∧ F ≠ W := by
  have n := h.nd
  simp only [List.nodup_cons, List.mem_cons, List.mem_append, not_or] at n
  obtain ⟨⟨a1, a2, a3⟩, ⟨b1, b2⟩, _⟩ := n
  exact ⟨fun l hl => ⟨fun e => a2 (e ▸ hl), fun e => b1 (e ▸ hl)⟩, fun l hl => ⟨fun e => a3 (e ▸ hl), fun e => b2 (e ▸ hl)⟩, a1⟩
theorem GS.setW (h : GS H0 H F W i vs xs us ys) {us' : List V} (o : HO) : Tups H (upd H W o) ∧ (∀ x ∈ xs, ∀ u, H x.1 = some u → upd H W o x.1 = some u) ∧ (∀ x ∈ ys, ∀ u, H x.1 = some u → upd H W o x.1 = some u) := by
  obtain ⟨a, b, c⟩ := h.ls
  refine ⟨(Tups.refl _).set h.hW, fun x hx u e => ?_, fun x hx u e => ?_⟩
  · rw [upd_ne (a _ (List.mem_map_of_mem hx)).2]; exact e
  · rw [upd_ne (b _ (List.mem_map_of_mem hx)).2]; exact e
theorem GS.setF (h : GS H0 H F W i vs xs us ys) (o : HO) : Tups H (upd H F o) ∧ (∀ x ∈ xs, ∀ u, H x.1 = some u → upd H F o x.1 = some u) ∧ (∀ x ∈ ys, ∀ u, H x.1 = some u → upd H F o x.1 = some u) := by
  obtain ⟨a, b, c⟩ := h.ls
  refine ⟨(Tups.refl _).set h.hF, fun x hx u e => ?_, fun x hx u e => ?_⟩
  · rw [upd_ne (a _ (List.mem_map_of_mem hx)).1]; exact e
  · rw [upd_ne (b _ (List.mem_map_of_mem hx)).1]; exact e
/-- nothing stands yet where something new comes -/
theorem GS.apart (h : GS H0 H F W i vs xs us ys) {l : Addr} (n : H l = none) : l ≠ F ∧ l ≠ W ∧ l ∉ xs.map (·.1) ∧ l ∉ ys.map (·.1) := by
  refine ⟨ne_of_none' n h.hF, ne_of_none' n h.hW, fun e => ?_, fun e => ?_⟩
  · obtain ⟨x, hx, rfl⟩ := List.mem_map.mp e
    obtain ⟨v, r, _, _, h2⟩ := h.wt.mem2 x hx
    rw [h2] at n; cases n
  · obtain ⟨x, hx, rfl⟩ := List.mem_map.mp e
    obtain ⟨v, r, _, _, h2⟩ := h.gp.mem2 x hx
    rw [h2] at n; cases n
/-- '{' -/
theorem GS.push (h : GS H0 H F W i vs xs us ys) {l r : Addr} (n1 : H l = none) (n2 : upd H l (.lst []) r = none) :
    GS H0 (upd (upd (upd H l (.lst [])) r (.tup [iv i, .ref l])) W (.lst (vs.reverse ++ [.ref r]))) F W (i + 1) (.ref r :: vs) ((l, i, []) :: xs) us ys := by
  obtain ⟨l1, l2, l3, l4⟩ := h.apart n1
  have h1 := h.new n1 (o := .lst [])
  have h2 := h1.new n2 (o := .tup [iv i, .ref l])
  obtain ⟨t, kx, ky⟩ := h2.setW (us' := []) (.lst (vs.reverse ++ [.ref r]))
  obtain ⟨a, b, c⟩ := h.ls
  have rW : r ≠ W := ne_of_none' n2 h1.hW
  refine ⟨h2.same.own h.w0, h.f0, h.w0, by rw [upd_ne c]; exact h2.hF, by rw [upd_same, List.reverse_cons], .cons ⟨r, rfl, ?_, ?_⟩ (h2.wt.monoM fun x hx a z => z.mono t (kx x hx)), h2.gp.monoM fun x hx a z => z.mono t (ky x hx), ?_, ?_, by simp; exact h.nx, Nat.le_succ_of_le h.ny, ?_⟩
  · rw [upd_ne rW]; exact upd_same
  · rw [upd_ne l2, upd_ne (ne_of_none upd_same n2)]; exact upd_same
  · have n := h.nd
    simp only [List.nodup_cons, List.mem_cons, List.mem_append, not_or, List.map_cons, List.cons_append] at n ⊢
    exact ⟨⟨n.1.1, Ne.symm l1, n.1.2⟩, ⟨Ne.symm l2, n.2.1⟩, ⟨l3, l4⟩, n.2.2⟩
  · intro l' hl
    rcases List.mem_cons.mp hl with rfl | hl
    · exact h.same.free n1
    · exact h.free l' hl
  · intro x hx
    rcases List.mem_cons.mp hx with rfl | hx
    · exact Nat.zero_le _
    · exact Nat.le_succ_of_le (h.nc x hx)
/-- ',' -/
theorem GS.comma {v : V} {l : Addr} {b : Nat} {cs : List Nat} (h : GS H0 H F W i (v :: vs) ((l, b, cs) :: xs) us ys) :
    GS H0 (upd H l (.lst (cs.map iv ++ [iv i]))) F W (i + 1) (v :: vs) ((l, b, cs ++ [i]) :: xs) us ys := by
  obtain ⟨a, bb, c⟩ := h.ls
  obtain ⟨lF, lW⟩ := a l (by simp)
  have n := h.nd
  simp only [List.nodup_cons, List.mem_cons, List.mem_append, not_or, List.map_cons, List.cons_append] at n
  obtain ⟨_, _, ⟨m1, m2⟩, _⟩ := n
  have w := h.wt
  cases w with
  | cons w1 w2 =>
    obtain ⟨r, e, w3, w4⟩ := w1
    have t : Tups H (upd H l (.lst (cs.map iv ++ [iv i]))) := (Tups.refl _).set w4
    refine ⟨h.same.own (h.free l (by simp)), h.f0, h.w0, by rw [upd_ne (Ne.symm lF)]; exact h.hF, by rw [upd_ne (Ne.symm lW)]; exact h.hW,
      .cons ⟨r, e, t _ _ w3, by rw [upd_same, List.map_append]; rfl⟩ (w2.monoM fun x hx a z => z.mono t fun u e2 => ?_), h.gp.monoM fun x hx a z => z.mono t fun u e2 => ?_, h.nd, fun l' hl => h.free l' hl, Nat.le_succ_of_le h.nx, Nat.le_succ_of_le h.ny, ?_⟩
    · rw [upd_ne (fun z => m1 (by rw [← z]; exact List.mem_map_of_mem hx))]; exact e2
    · rw [upd_ne (fun z => m2 (by rw [← z]; exact List.mem_map_of_mem hx))]; exact e2
    · intro x hx
      rcases List.mem_cons.mp hx with rfl | hx
      · have := h.nc _ (List.mem_cons_self)
        simp at this ⊢
        exact this
      · exact Nat.le_succ_of_le (h.nc x (List.mem_cons_of_mem _ hx))
/-- '}', without commas -/
theorem GS.drop {v : V} {l : Addr} {b : Nat} {cs : List Nat} (h : GS H0 H F W i (v :: vs) ((l, b, cs) :: xs) us ys) :
    GS H0 (upd H W (.lst vs.reverse)) F W (i + 1) vs xs us ys := by
  obtain ⟨t, kx, ky⟩ := h.setW (us' := []) (.lst vs.reverse)
  obtain ⟨a, bb, c⟩ := h.ls
  have n := h.nd
  simp only [List.nodup_cons, List.mem_cons, List.mem_append, not_or, List.map_cons, List.cons_append] at n
  have w := h.wt
  cases w with
  | cons w1 w2 =>
    refine ⟨h.same.own h.w0, h.f0, h.w0, by rw [upd_ne c]; exact h.hF, upd_same, w2.monoM fun x hx a z => z.mono t (kx x (List.mem_cons_of_mem _ hx)), h.gp.monoM fun x hx a z => z.mono t (ky x hx), ?_, fun l' hl => h.free l' (List.mem_cons_of_mem _ hl), ?_, Nat.le_succ_of_le h.ny, fun x hx => Nat.le_succ_of_le (h.nc x (List.mem_cons_of_mem _ hx))⟩
    · simp only [List.nodup_cons, List.mem_cons, List.mem_append, not_or]
      exact ⟨⟨n.1.1, n.1.2.2⟩, n.2.1.2, n.2.2.2⟩
    · have := h.nx
      simp at this
      omega
theorem GS.own {v : V} {l : Addr} {b : Nat} {cs : List Nat} (h : GS H0 H F W i (v :: vs) ((l, b, cs) :: xs) us ys) : l ≠ F ∧ l ≠ W ∧ l ∉ xs.map (·.1) ∧ l ∉ ys.map (·.1) := by
  have n := h.nd
  simp only [List.nodup_cons, List.mem_cons, List.mem_append, not_or, List.map_cons, List.cons_append] at n
  exact ⟨Ne.symm n.1.2.1, Ne.symm n.2.1.1, n.2.2.1.1, n.2.2.1.2⟩
/-- '}', with commas: the group at l is found -/
theorem GS.find {l r : Addr} {b e : Nat} {cs : List Nat} (h : GS H0 H F W i vs xs us ys) (hy : ys.length + 1 ≤ i) (hl : H l = some (.lst (cs.map iv))) (l0 : l ≠ F ∧ l ≠ W ∧ l ∉ xs.map (·.1) ∧ l ∉ ys.map (·.1)) (n : H r = none) :
    GS H0 (upd (upd H r (.tup [iv b, iv e, .ref l])) F (.lst (us ++ [.ref r]))) F W i vs xs (us ++ [.ref r]) (ys ++ [(l, b, e, cs)]) := by
  have h2 := h.new n (o := .tup [iv b, iv e, .ref l])
  obtain ⟨t, kx, ky⟩ := h2.setF (.lst (us ++ [.ref r]))
  obtain ⟨a, bb, c⟩ := h.ls
  have rF : r ≠ F := ne_of_none' n h.hF
  refine ⟨h2.same.own h.f0, h.f0, h.w0, upd_same, by rw [upd_ne (Ne.symm c)]; exact h2.hW, h2.wt.monoM fun x hx a z => z.mono t (kx x hx), (h2.gp.monoM fun x hx a z => z.mono t (ky x hx)).app (.one ⟨r, rfl, ?_, ?_⟩), ?_, h.free, h.nx, by simpa using hy, fun x hx => h.nc x hx⟩
  · rw [upd_ne rF]; exact upd_same
  · rw [upd_ne l0.1, upd_ne (ne_of_none hl n)]; exact hl
  · have n := h.nd
    obtain ⟨l1, l2, l3, l4⟩ := l0
    simp only [List.map_append, List.map_cons, List.map_nil]
    rw [show F :: W :: (xs.map (·.1) ++ (ys.map (·.1) ++ [l])) = (F :: W :: (xs.map (·.1) ++ ys.map (·.1))) ++ [l] by simp]
    rw [List.nodup_append]
    refine ⟨n, by simp, ?_⟩
    intro x hx y hy
    simp at hy
    subst hy
    rintro rfl
    simp only [List.mem_cons, List.mem_append] at hx
    rcases hx with h | h | h | h
    · exact l1 h
    · exact l2 h
    · exact l3 h
    · exact l4 h
end
/-- a group as it is told -/
def GpAt (H : Hp) (v : V) (g : K34.Gp) : Prop := ∃ r l, v = .ref r ∧ H r = some (.tup [iv g.1, iv g.2.1, .ref l]) ∧ H l = some (.lst (g.2.2.map iv))
def spGroups : Sp := fun vs H Q _ => ∃ t : List Nat, vs = [tv t] ∧ t.length ≤ 100000 ∧
  ∀ H' F us, Same H H' → H F = none → H' F = some (.lst us) → Both (GpAt H') us (K34.grp 0 [] t) → Q (.ref F) H'
theorem sg_eq (c d : Nat) : (decide (V.str ⟨#[c]⟩ = tv [d]) = true) ↔ c = d := by
  rw [decide_eq_true_iff]
  exact ⟨fun h => by have := tv_inj (a := [c]) (b := [d]) h; simpa using this, fun h => by rw [h]; rfl⟩
section
variable {P : Program} {w : World} {K : PySem.W.Frag} {mg : Str → Option Value} {base : Heap} {a : Nat → Addr} {fd : Nat → FuncData}
theorem ok_groups_of (T : Txt K mg a fd) : FnOk P w K mg base CX0 1 (a 0) (fd 0) ["text"] spGroups := by
  refine T.F_groups_of.ok sc_groups_of (fun vs H Q E h => ?_) (fun cdv A outer s H vs Q E hr h => ?_)
  · obtain ⟨_, rfl, _⟩ := h; rfl
  · obtain ⟨t, rfl, ht, k⟩ := h
    refine ⟨_, pss_cons (ps_par (i := 1) (j := 2) (by rfl) sc_groups_of.nd rfl rfl (by decide) rfl rfl (pa_cons (pe_lst pa_nil) (pa_cons (pe_lst pa_nil) pa_nil)) (by rfl))
    (pss_cons (ps_for PassesOwn.never rfl (pi_enumS (by rfl) T.n_enumerate (pa_cons (pv 0) pa_nil)) (pg_tup rfl (pgs_cons (pg_name (i := 3) sc_groups_of.nd rfl (Or.inl rfl)) (pgs_cons (pg_name (i := 4) sc_groups_of.nd rfl (Or.inl rfl)) pgs_nil))) (pss_one (ps_if (pt_cmpR op_eq (pv 4) pe_str (nomark _)) (pss_one (ps_expr (pe_bm PySem.F.plainAttrs_list PySem.F.slot_list_append PySem.F.type_list_append mt_append (pv 2) (pa_cons (pe_tup (pa_cons (pv 3) (pa_cons (pe_lst pa_nil) pa_nil))) pa_nil)))) (pss_one (ps_if (PW.pt (pw_and (pt_cmpR op_eq (pv 4) pe_str (nomark _)) (pw_and1 (pt_cmpR (op_neNil hr.units0) (pv 2) (pe_lst pa_nil) (nomark _))))) (pss_one (ps_expr (pe_bm PySem.F.plainAttrs_list PySem.F.slot_list_append PySem.F.type_list_append mt_append (pe_ix (show IxR _ (rIxT K) from ix_tup) (pe_ix (show IxR _ (rIxL K) from ix_list) (pv 2) (pe_un un_neg pe_int) (fun _ _ => rfl)) pe_int (fun _ _ => rfl)) (pa_cons (pv 3) pa_nil)))) (pss_one (ps_if (PW.pt (pw_and (pt_cmpR op_eq (pv 4) pe_str (nomark _)) (pw_and1 (pt_cmpR (op_neNil hr.units0) (pv 2) (pe_lst pa_nil) (nomark _))))) (pss_cons (ps_asg (pe_bm0 PySem.F.plainAttrs_list PySem.F.slot_list_pop PySem.F.type_list_pop mt_pop (pv 2)) (pg_tup rfl (pgs_cons (pg_name (i := 5) sc_groups_of.nd rfl (Or.inl rfl)) (pgs_cons (pg_name (i := 6) sc_groups_of.nd rfl (Or.inl rfl)) pgs_nil))))
    (pss_one (ps_if (pt_cmpR (op_neNil hr.units0) (pv 6) (pe_lst pa_nil) (nomark _)) (pss_one (ps_expr (pe_bm PySem.F.plainAttrs_list PySem.F.slot_list_append PySem.F.type_list_append mt_append (pv 1) (pa_cons (pe_tup (pa_cons (pv 5) (pa_cons (pv 3) (pa_cons (pv 6) pa_nil)))) pa_nil)))) pss_nil))) pss_nil)))))))
    (pss_one (ps_ret (pv 1)))), ?_⟩
    refine ⟨(sizeOf (by simp)), fun p1 hp1 => ⟨(sizeOf (by simp)), fun p2 hp2 => ⟨_, _, rfl, _, rfl, _, rfl, ?_⟩⟩⟩
    have n12 : p2 ≠ p1 := ne_of_none' hp2 upd_same
    have hp20 : H p2 = none := by rw [upd_ne n12] at hp2; exact hp2
    refine for_it walk_enumS (fun i σ H' => ∃ vs xs us ys c3 c4 c5 c6, σ = [some (tv t), some (.ref p1), some (.ref p2), c3, c4, c5, c6] ∧ GS H H' p1 p2 i vs xs us ys ∧
        K34.grp 0 [] t = ys.map (·.2) ++ K34.grp i (xs.map (·.2)) (t.drop i))
      ⟨[], [], [], [], _, _, _, _, rfl, ⟨((Same.refl H).upd_new hp1).upd_new hp2, hp1, hp20, by rw [upd_ne (Ne.symm n12)]; exact upd_same, upd_same, .nil, .nil, by simp [Ne.symm n12], by simp, Nat.le_refl _, Nat.le_refl _, by simp⟩, rfl⟩
      (fun _ _ _ _ _ => trivial) (fun i x σ H1 H2 hi ⟨vs, xs, us, ys, c3, c4, c5, c6, e, G, hg⟩ hy => ?_) (fun σ H1 ⟨vs, xs, us, ys, c3, c4, c5, c6, e, G, hg⟩ => ?_)
    · subst e
      obtain ⟨q, x, y, rfl, hq, rfl, hx, hy⟩ := hy
      cases hx
      have hi2 : i < t.length := by simpa [tS] using hi
      obtain ⟨c, hc, rfl⟩ : ∃ c, t[i]? = some c ∧ y = .str ⟨#[c]⟩ := by
        have hy' : ((tS t).cps[i]?.map fun c => V.str ⟨#[c]⟩) = some y := hy
        obtain ⟨c, h1, h2⟩ := Option.map_eq_some_iff.mp hy'
        exact ⟨c, by simpa [tS] using h1, h2.symm⟩
      have hd : t.drop i = c :: t.drop (i + 1) := by
        have h := List.getElem?_eq_some_iff.mp hc
        obtain ⟨h1, h2⟩ := h
        rw [List.drop_eq_getElem_cons h1, h2]
      rw [hd] at hg
      have G1 := G.new hq (o := .tup [iv i, .str ⟨#[c]⟩])
      refine ⟨_, _, rfl, (.of upd_same), rfl, _, _, rfl, _, _, rfl, rfl, _, rfl, rfl, _, rfl, ?_⟩
      have hv := G1.wt.length
      have hx := G1.nx
      refine ite2 (fun h => ?_) (fun h => ?_)
      · have hc := (sg_eq c 123).mp h
        subst hc
        refine ⟨_, rfl, (.inl ⟨rfl, _, .of (G1.hW)⟩), _, rfl, (sizeOf (by simp)), fun q1 hq1 => ⟨(sizeOf (by simp)), fun q2 hq2 => ⟨_, _, _, rfl, rfl, ((G1.new hq1).new hq2).hW, (sizeOfL (by first | omega | (simp; omega))), ?_⟩⟩⟩
        refine ⟨_, _, _, _, _, _, _, _, rfl, G1.push hq1 hq2, ?_⟩
        rw [K34.grp_open] at hg
        exact hg
      · have hc1 : c ≠ 123 := fun e => h ((sg_eq c 123).mpr e)
        refine ⟨_, rfl, rfl, _, rfl, ?_⟩
        refine ite2 (fun h => ?_) (fun h => ?_)
        · have hc2 := (sg_eq c 44).mp h
          subst hc2
          refine ⟨_, rfl, sizeOf (by simp), fun q1 hq1 => ⟨_, _, _, rfl, rfl, .of (G1.new hq1).hW, .of upd_same, _, rfl, ?_⟩⟩
          have G2 := G1.new hq1 (o := .lst [])
          cases G2.wt with
          | nil =>
            refine iteF ?_
            refine ⟨_, rfl, rfl, _, rfl, ?_⟩
            refine iteF ?_
            rw [List.map_nil, K34.grp_bare (by decide)] at hg
            exact ⟨_, _, _, _, _, _, _, _, rfl, G2.up (Nat.le_succ i), hg⟩
          | @cons v y vs xs w1 w2 =>
            obtain ⟨l, b, cs⟩ := y
            refine ite2 (fun _ => ?_) (fun h => absurd (by simp) h)
            obtain ⟨r, rfl, w3, w4⟩ := w1
            have hcs := G2.nc _ List.mem_cons_self
            refine ⟨_, rfl, _, rfl, _, _, _, _, rfl, rfl, .of G2.hW, atI_lastR _ _, _, _, _, _, rfl, rfl, .of w3, rfl, (.inl ⟨rfl, _, .of (w4)⟩), _, rfl, _, _, _, rfl, rfl, w4, sizeOfL (by simp at hcs ⊢; omega), ?_⟩
            refine ⟨_, _, _, _, _, _, _, _, rfl, G2.comma, ?_⟩
            rw [List.map_cons, K34.grp_comma] at hg
            exact hg
        · have hc2 : c ≠ 44 := fun e => h ((sg_eq c 44).mpr e)
          refine ⟨_, rfl, rfl, _, rfl, ?_⟩
          refine ite2 (fun h => ?_) (fun h => ?_)
          · have hc3 := (sg_eq c 125).mp h
            subst hc3
            refine ⟨_, rfl, sizeOf (by simp), fun q1 hq1 => ⟨_, _, _, rfl, rfl, .of (G1.new hq1).hW, .of upd_same, _, rfl, ?_⟩⟩
            have G2 := G1.new hq1 (o := .lst [])
            have w := G2.wt
            cases w with
            | nil =>
              refine iteF ?_
              rw [List.map_nil, K34.grp_bare (by decide)] at hg
              exact ⟨_, _, _, _, _, _, _, _, rfl, G2.up (Nat.le_succ i), hg⟩
            | @cons v y vs xs w1 w2 =>
              obtain ⟨l, b, cs⟩ := y
              refine ite2 (fun _ => ?_) (fun h => absurd (by simp) h)
              obtain ⟨r, rfl, w3, w4⟩ := w1
              have hcs := G2.nc _ List.mem_cons_self
              have G3 := G2.drop
              have e3 : upd (upd (upd H1 q (.tup [iv i, .str ⟨#[125]⟩])) q1 (.lst [])) p2 (.lst vs.reverse) r = some (.tup [iv b, .ref l]) := ((Tups.refl _).set G2.hW) _ _ w3
              obtain ⟨la, lb, lc⟩ := G2.ls
              obtain ⟨l1, l2⟩ := la l (by simp)
              have e4 : upd (upd (upd H1 q (.tup [iv i, .str ⟨#[125]⟩])) q1 (.lst [])) p2 (.lst vs.reverse) l = some (.lst (cs.map iv)) := by rw [upd_ne l2]; exact w4
              refine ⟨_, rfl, (.inl ⟨rfl, _, .of (G2.hW)⟩), _, _, _, rfl, rfl, G2.hW, popR _ _, _, _, rfl, .of (by rw [dropR]; exact e3), rfl, _, _, rfl, _, _, rfl, rfl, ?_⟩
              rw [dropR]
              refine ⟨_, rfl, (sizeOf (by simp)), fun z1 hz1 => ⟨_, _, _, rfl, rfl, .of (by rw [upd_ne (ne_of_none e4 hz1)]; exact e4), (.of upd_same), _, rfl, ?_⟩⟩
              have G4 := G3.new hz1 (o := .lst [])
              have e5 : upd (upd (upd (upd H1 q (.tup [iv i, .str ⟨#[125]⟩])) q1 (.lst [])) p2 (.lst vs.reverse)) z1 (.lst []) l = some (.lst (cs.map iv)) := by rw [upd_ne (ne_of_none e4 hz1)]; exact e4
              rw [List.map_cons, K34.grp_close] at hg
              cases cs with
              | nil =>
                refine iteF ?_
                exact ⟨_, _, _, _, _, _, _, _, rfl, G4, by simpa using hg⟩
              | cons c0 cs =>
                refine iteT ?_
                refine ⟨_, rfl, (.inl ⟨rfl, _, .of (G4.hF)⟩), _, rfl, _, rfl, _, rfl, (sizeOf (by simp)), fun y1 hy1 => ⟨_, _, _, rfl, rfl, (G4.new hy1).hF, sizeOfL (by have := G2.gp.length; have := G2.ny; omega), ?_⟩⟩
                refine ⟨_, _, _, _, _, _, _, _, rfl, G4.find (Nat.succ_le_succ G2.ny) e5 G2.own hy1, ?_⟩
                simpa using hg
          · have hc3 : c ≠ 125 := fun e => h ((sg_eq c 125).mpr e)
            rw [K34.grp_ch hc1 hc2 hc3] at hg
            exact ⟨_, _, _, _, _, _, _, _, rfl, G1.up (Nat.le_succ i), hg⟩
    · subst e
      refine ⟨_, rfl, ?_⟩
      have e0 : t.drop (tS t).cps.size = [] := by simp [tS]
      rw [e0] at hg
      have e1 : K34.grp (tS t).cps.size (xs.map (·.2)) [] = [] := by cases xs <;> rfl
      rw [e1, List.append_nil] at hg
      refine k _ _ us G.same hp1 G.hF ?_
      rw [hg]
      have B := G.gp
      clear hg G
      induction B with
      | nil => exact .nil
      | cons h _ ih =>
        obtain ⟨r, e, h1, h2⟩ := h
        exact .cons ⟨r, _, e, h1, h2⟩ ih
end
end B34

set_option autoImplicit true
set_option Elab.async false
set_option linter.all false
set_option maxRecDepth 100000
set_option maxHeartbeats 8000000
namespace B34
open PySem L2
def spRep : Sp := fun vs H Q _ => ∃ (t : List Nat) (g : K34.Gp) (r l : Addr), vs = [tv t, .ref r] ∧ t.length ≤ 100000 ∧ g.2.2.length ≤ 100000 ∧ H r = some (.tup [iv g.1, iv g.2.1, .ref l]) ∧ H l = some (.lst (g.2.2.map iv)) ∧
  ∀ H' p, Same H H' → H p = none → H' p = some (.lst ((K34.rep t g).map tv)) → Q (.ref p) H'
theorem zip_take {α β γ : Type} (f : α → β → γ) : ∀ (l : List α) (m : List β) (i : Nat) (a : α) (b : β), l[i]? = some a → m[i]? = some b → (List.zipWith f l m).take (i + 1) = (List.zipWith f l m).take i ++ [f a b]
  | l, m, i, a, b, h1, h2 => takeNext (by rw [List.getElem?_zipWith, h1, h2])
section
variable {P : Program} {w : World} {K : PySem.W.Frag} {mg : Str → Option Value} {base : Heap} {a : Nat → Addr} {fd : Nat → FuncData}
theorem ok_replaced (T : Txt K mg a fd) : FnOk P w K mg base CX0 1 (a 1) (fd 1) ["text", "group"] spRep := by
  refine T.F_replaced.ok sc_replaced (fun vs H Q E h => ?_) (fun cdv A outer s H vs Q E hr h => ?_)
  · obtain ⟨_, _, _, _, rfl, _⟩ := h; rfl
  · obtain ⟨t, ⟨b, e, cs⟩, r, l, rfl, ht, hc, h1, h2, k⟩ := h
    replace h1 : H r = some (.tup [iv b, iv e, .ref l]) := h1
    replace h2 : H l = some (.lst (cs.map iv)) := h2
    replace hc : cs.length ≤ 100000 := hc
    refine ⟨_, pss_cons (ps_asg (pv 1) (pg_tup rfl (pgs_cons (pg_name (i := 2) sc_replaced.nd rfl (Or.inr rfl)) (pgs_cons (pg_name (i := 3) sc_replaced.nd rfl (Or.inr rfl)) (pgs_cons (pg_name (i := 4) sc_replaced.nd rfl (Or.inl rfl)) pgs_nil)))))
    (pss_cons (ps_set (i := 5) sc_replaced.nd rfl (Or.inl rfl) (pe_op op_cat (pe_op op_cat (pe_lst (pa_cons (pv 2) pa_nil)) (pv 4)) (pe_lst (pa_cons (pv 3) pa_nil))))
    (pss_one (ps_ret (pe_lc (own := [("one", 6), ("other", 7)]) (g := gTup K 2 (gCons (gName 6) (gCons (gName 7) gNil))) (tt := tYes) (by rfl) sc_replaced.nd (pi_zip (by rfl) T.n_zip (pa_cons (pv 5) (pa_cons (pe_slice sl_list (pv 5) (po_some pe_int) po_none) pa_nil))) (blkOk_by (own := [("one", 6), ("other", 7)]) (N := N_replaced) (sc := defScope s_replaced) (by decide +kernel)) (fun _ _ _ _ _ => pg_tup rfl (pgs_cons (pg_name (i := 6) sc_replaced.nd rfl (Or.inl rfl)) (pgs_cons (pg_name (i := 7) sc_replaced.nd rfl (Or.inl rfl)) pgs_nil))) (fun _ _ _ _ _ => pts_nil) (fun _ _ _ _ _ => (pe_op op_add_str (pe_op op_add_str (pe_slice sl_str (pv 0) po_none (po_some (pv 2))) (pe_slice sl_str (pv 0) (po_some (pe_op op_add (pv 6) pe_int)) (po_some (pv 7)))) (pe_slice sl_str (pv 0) (po_some (pe_op op_add (pv 3) pe_int)) po_none))))))), ?_⟩
    have k2 : ∀ p o, H p = none → upd H p o l = some (.lst (cs.map iv)) := fun p o n => by rw [upd_ne (ne_of_none h2 n)]; exact h2
    refine ⟨_, rfl, _, _, rfl, .of h1, rfl, _, _, rfl, _, _, rfl, _, _, rfl, rfl, _, rfl, (sizeOf (by simp)), fun p1 hp1 => ⟨_, rfl, _, _, _, _, rfl, rfl, upd_same, k2 _ _ hp1, sizeOf (by simp at hc ⊢; omega), fun p2 hp2 => ⟨_, rfl, (sizeOf (by simp)), fun p3 hp3 => ⟨_, _, _, _, rfl, rfl, (upd_ne (ne_of_none upd_same hp3)).trans upd_same, upd_same, sizeOf (by simp at hc ⊢; omega), fun p4 hp4 => ?_⟩⟩⟩⟩
    have e4 : [iv b] ++ cs.map iv ++ [iv e] = (b :: (cs ++ [e])).map iv := by simp
    refine ⟨_, rfl, _, rfl, _, rfl, _, _, rfl, .of upd_same, fun q1 hq1 => ⟨_, _, _, _, rfl, .of ((upd_ne (ne_of_none upd_same hq1)).trans (upd_same.trans (congrArg (fun z => some (HO.lst z)) e4))), .of (upd_same.trans (congrArg (fun z => some (HO.lst z)) (show cutV _ (some 1) none = (cs ++ [e]).map iv by rw [e4]; exact cutV_tail _ _))), fun D hD => ?_⟩⟩
    have S4 : ∀ {H3 H4 : Hp}, Same H H3 → Same H3 H4 → Same H H4 := fun x y => x.trans y
    refine lc_same (walk_zipMap (xs := b :: (cs ++ [e])) (ys := cs ++ [e]) (n := cs.length + 1) (by simp)) hD (fun j H' acc => acc = ((List.zipWith (K34.piece t b e) (b :: (cs ++ [e])) (cs ++ [e])).take j).map tv) rfl
      (fun H' s => ⟨s.seq (.of ((upd_ne (ne_of_none upd_same hq1)).trans (upd_same.trans (congrArg (fun z => some (HO.lst z)) e4)))), s.seq (.of (upd_same.trans (congrArg (fun z => some (HO.lst z)) (show cutV _ (some 1) none = (cs ++ [e]).map iv by rw [e4]; exact cutV_tail _ _))))⟩)
      (fun j x H3 H4 acc hj s e5 p hy => ?_) (fun H3 acc s e5 p => ?_)
    · subst p
      obtain ⟨q, one, other, rfl, hq, rfl, ho1, ho2⟩ := hy
      refine ⟨_, _, rfl, (.of upd_same), rfl, _, _, rfl, _, _, rfl, rfl, ?_⟩
      refine ⟨rfl, ?_⟩
      have ht' : (tS t).length ≤ 100000 := by rw [tS_length]; exact ht
      have c1 := cutS_len (tS t) none (some ((b : Nat) : Int))
      have c2 := cutS_len (tS t) (some (((one : Nat) : Int) + 1)) (some ((other : Nat) : Int))
      have c3 := cutS_len (tS t) (some (((e : Nat) : Int) + 1)) none
      have hl : (((List.zipWith (K34.piece t b e) (b :: (cs ++ [e])) (cs ++ [e])).take j).map tv).length ≤ j := by rw [List.length_map, List.length_take]; omega
      refine ⟨_, rfl, _, rfl, _, rfl, _, rfl, sizeOf (by omega), _, rfl, _, rfl, _, _, rfl, rfl, _, rfl, _, rfl, _, rfl, _, rfl, sizeOf (by omega), _, _, rfl, rfl, sizeOf (by omega), _, rfl, _, rfl, _, _, rfl, rfl, _, rfl, _, rfl, sizeOf (by omega), _, _, rfl, rfl, sizeOf (by rw [len_app]; omega), ?_⟩
      refine ⟨_, by rw [upd_ne (ne_of_none e5 hq)]; exact e5, sizeOfL (by omega), (s.upd_new hq).own hD, _, upd_same, ?_⟩
      rw [zip_take _ _ _ _ _ _ ho1 ho2, List.map_append]
      refine congrArg (fun z => _ ++ [z]) ?_
      show V.str (cutS (tS t) none (some ((b : Nat) : Int)) ++ cutS (tS t) (some (((one : Nat) : Int) + 1)) (some ((other : Nat) : Int)) ++ cutS (tS t) (some (((e : Nat) : Int) + 1)) none) = V.str (tS (K34.piece t b e one other))
      rw [cutS_to, show (((one : Nat) : Int) + 1) = ((one + 1 : Nat) : Int) by push_cast; rfl, show (((e : Nat) : Int) + 1) = ((e + 1 : Nat) : Int) by push_cast; rfl, cutS_mid, cutS_from, tS_append, tS_append]
      rfl
    · subst p
      refine k _ D (S4 (S4 ?_ (Same.refl _)) s) ?_ ?_
      · exact (((((Same.refl H).upd_new hp1).upd_new hp2).upd_new hp3).upd_new hp4).upd_new hq1
      · exact Same.free (((((Same.refl H).upd_new hp1).upd_new hp2).upd_new hp3).upd_new hp4 |>.upd_new hq1) hD
      · rw [e5, List.take_of_length_le]
        · rfl
        · rw [List.length_zipWith]; simp
end
theorem GpAt.mono {H H' : Hp} {v : V} {g : K34.Gp} (s : Same H H') (h : GpAt H v g) : GpAt H' v g := by
  obtain ⟨r, l, e, h1, h2⟩ := h
  exact ⟨r, l, e, s _ _ h1, s _ _ h2⟩
/-! ### groups as data -/
def gD (g : K34.Gp) : PyData := .tuple [.int (g.1 : Nat), .int (g.2.1 : Nat), .list (g.2.2.map fun n => .int (n : Nat))]
theorem nats_inj : ∀ {xs ys : List Nat}, xs.map (fun n => PyData.int (n : Nat)) = ys.map (fun n => PyData.int (n : Nat)) → xs = ys
  | [], [], _ => rfl
  | [], _ :: _, h => by cases h
  | _ :: _, [], h => by cases h
  | x :: xs, y :: ys, h => by
    rw [List.map_cons, List.map_cons] at h
    injection h with h1 h2
    injection h1 with h1
    rw [nats_inj h2, show x = y by exact_mod_cast h1]
theorem gD_inj {g h : K34.Gp} (e : gD g = gD h) : g = h := by
  obtain ⟨b, e1, cs⟩ := g
  obtain ⟨b', e1', cs'⟩ := h
  unfold gD at e
  injection e with e
  injection e with x1 e
  injection e with x2 e
  injection e with x3 e
  injection x1 with x1
  injection x2 with x2
  injection x3 with x3
  have hcs : cs = cs' := nats_inj x3
  have hb : b = b' := by
    have x1' : (b : Int) = b' := x1
    exact_mod_cast x1'
  have he : e1 = e1' := by
    have x2' : (e1 : Int) = e1' := x2
    exact_mod_cast x2'
  rw [hcs, hb, he]
theorem dp_ints {K : PySem.W.Frag} {H : Hp} : ∀ cs : List Nat, DpAll K H (cs.map iv) (cs.map fun n => .int (n : Nat))
  | [] => .nil
  | n :: cs => .cons (.int _) (dp_ints cs)
theorem GpAt.all {K : PySem.W.Frag} {H : Hp} {us : List V} {gs : List K34.Gp} (B : Both (GpAt H) us gs) : DpAll K H us (gs.map gD) := by
  induction B with
  | nil => exact .nil
  | cons h _ ih =>
    obtain ⟨r, l, rfl, h1, h2⟩ := h
    exact .cons (.tup (.of h1) (.cons (.int _) (.cons (.int _) (.cons (.lst (.of h2) (dp_ints _)) .nil)))) ih
theorem alike_nats : ∀ xs ys : List Nat, PySem.W.alikeAll (xs.map fun n => .int (n : Nat)) (ys.map fun n => .int (n : Nat)) = true
  | [], _ => by simp [PySem.W.alikeAll]
  | _ :: _, [] => by simp [PySem.W.alikeAll]
  | x :: xs, y :: ys => by
    rw [List.map_cons, List.map_cons, PySem.W.alikeAll, alike_nats xs ys]
    simp [PySem.W.alike]
theorem gD_alike (gs : List K34.Gp) : PySem.W.AlikeAll (gs.map gD) := by
  refine ⟨fun x hx y hy => ?_, fun x hx => ?_⟩
  · obtain ⟨g, _, rfl⟩ := List.mem_map.mp hx
    obtain ⟨h, _, rfl⟩ := List.mem_map.mp hy
    simp [gD, PySem.W.alike, PySem.W.alikeAll, alike_nats]
  · obtain ⟨g, _, rfl⟩ := List.mem_map.mp hx
    intro e
    cases e
theorem depth_nats : ∀ cs : List Nat, PyData.depthAll (cs.map fun n => .int (n : Nat)) ≤ 1
  | [] => by simp [PyData.depthAll]
  | n :: cs => by
    have := depth_nats cs
    simp only [List.map_cons, PyData.depthAll, PyData.depth]
    omega
theorem gD_depth : ∀ gs : List K34.Gp, PyData.depthAll (gs.map gD) ≤ 10
  | [] => by simp [PyData.depthAll]
  | g :: gs => by
    have h1 := gD_depth gs
    have h2 := depth_nats g.2.2
    simp only [List.map_cons, PyData.depthAll, PyData.depth, gD]
    omega
theorem gD_lt {g h : K34.Gp} (n : g.1 ≠ h.1) : PySem.W.dataLt (gD g) (gD h) = decide (g.1 < h.1) := by
  unfold gD
  rw [PySem.W.dataLt_tuple, PySem.W.dataLt_cons (by simp [PySem.W.alike])]
  rw [if_neg (by simp [PyData.eqv]; exact_mod_cast n), PySem.W.dataLt_int]
  simp
theorem minD_gD : ∀ (gs : List K34.Gp) (g : K34.Gp), ((g :: gs).map (·.1)).Nodup → PySem.W.minD (gD g) (gs.map gD) = gD (K34.least g gs)
  | [], g, _ => rfl
  | x :: xs, g, h => by
    have h' := h
    simp only [List.map_cons, List.nodup_cons, List.mem_cons, not_or] at h'
    have ih := minD_gD xs (if x.1 < g.1 then x else g) (by
      by_cases hx : x.1 < g.1
      · rw [if_pos hx]; simp only [List.map_cons, List.nodup_cons]; exact h'.2
      · rw [if_neg hx]; simp only [List.map_cons, List.nodup_cons]; exact ⟨h'.1.2, h'.2.2⟩)
    rw [K34.least, ← ih]
    unfold PySem.W.minD
    rw [List.map_cons, List.foldl_cons, gD_lt (Ne.symm h'.1.1)]
    by_cases hx : x.1 < g.1
    · rw [if_pos (by simpa using hx), if_pos hx]
    · rw [if_neg (by simpa using hx), if_neg hx]
/-- what braced makes of a text, by brac -/
def spBraced : Sp := fun vs H Q _ => ∃ (t : List Nat) (n : Nat) (l : List (List Nat)), vs = [tv t] ∧ K34.brac n [t] [] = some (some l) ∧
  ∀ H' p, Same H H' → H p = none → H' p = some (.lst (l.map tv)) → Q (.ref p) H'
/-- between two turns of braced, m steps left -/
def BSt (H : Hp) (p1 p2 : Addr) (t : List Nat) (l : Option (List (List Nat))) (m : Nat) (σ : St) (H' : Hp) : Prop := ∃ S fs c3 c4, σ = [some (tv t), some (.ref p1), some (.ref p2), c3, c4] ∧ Same H H' ∧ H' p1 = some (.lst (fs.map tv)) ∧ H' p2 = some (.lst (S.map tv).reverse) ∧ K34.brac m S fs = some l
section
variable {P : Program} {w : World} {K : PySem.W.Frag} {mg : Str → Option Value} {base : Heap} {a : Nat → Addr} {fd : Nat → FuncData}
theorem ok_braced (T : Txt K mg a fd) : FnOk P w K mg base CX0 5 (a 2) (fd 2) ["text"] spBraced := by
  refine T.F_braced.ok sc_braced (fun vs H Q E h => ?_) (fun cdv A outer s H vs Q E hr h => ?_)
  · obtain ⟨_, _, _, rfl, _⟩ := h; rfl
  · obtain ⟨t, n, l, rfl, hb, k⟩ := h
    have G_groups_of := ok_groups_of (P := P) (w := w) (base := base) T
    have G_replaced := ok_replaced (P := P) (w := w) (base := base) T
    refine ⟨_, pss_cons (ps_par (i := 1) (j := 2) (by rfl) sc_braced.nd rfl rfl (by decide) rfl rfl (pa_cons (pe_lst pa_nil) (pa_cons (pe_lst (pa_cons (pv 0) pa_nil)) pa_nil)) (by rfl))
    (pss_cons (ps_while PassesOwn.never (pt_cmpR (op_neNil hr.units0) (pv 2) (pe_lst pa_nil) (nomark _)) (pss_cons (ps_set (i := 3) sc_braced.nd rfl (Or.inl rfl) (pe_bm0 PySem.F.plainAttrs_list PySem.F.slot_list_pop PySem.F.type_list_pop mt_pop (pv 2)))
    (pss_cons (ps_set (i := 4) sc_braced.nd rfl (Or.inl rfl) (pe_call G_groups_of (hr.mono (by first | decide | omega)) rfl T.m_groups_of T.F_groups_of.kp T.b_groups_of .nil pass0 (pa_cons (pv 3) pa_nil)))
    (pss_one (ps_if (pt_cmpR (op_neNil hr.units0) (pv 4) (pe_lst pa_nil) (nomark _)) (pss_one (ps_expr (pe_bm PySem.F.plainAttrs_list PySem.F.slot_list_extend PySem.F.type_list_extend mt_extend (pv 2) (pa_cons (pe_revL (pe_call G_replaced (hr.mono (by first | decide | omega)) rfl T.m_replaced T.F_replaced.kp T.b_replaced .nil pass0 (pa_cons (pv 3) (pa_cons (pe_callB (cr_minD rfl hr.units) (by rfl) T.n_min (by decide +kernel) (pa_cons (pv 4) pa_nil)) pa_nil)))) pa_nil)))) (pss_one (ps_if (pt_cmpR op_lt (pe_callB call_len_seq (by rfl) T.n_len PySem.boot_len (pa_cons (pv 1) pa_nil)) (pe_glob (v := .int 200) rfl T.g_MOST_TEXTS.choose_spec ⟨_, rfl⟩) (nomark _)) (pss_one (ps_expr (pe_bm PySem.F.plainAttrs_list PySem.F.slot_list_append PySem.F.type_list_append mt_append (pv 1) (pa_cons (pv 3) pa_nil)))) (pss_one (ps_never)))))))))
    (pss_one (ps_ret (pv 1)))), ?_⟩
    refine ⟨(sizeOf (by simp)), fun p1 hp1 => ⟨_, rfl, (sizeOf (by simp)), fun p2 hp2 => ⟨_, _, rfl, ?_⟩⟩⟩
    have n12 : p2 ≠ p1 := ne_of_none' hp2 upd_same
    have hp20 : H p2 = none := by rw [upd_ne n12] at hp2; exact hp2
    refine ⟨BSt H p1 p2 t (some l), ⟨n, [t], [], _, _, rfl, ((Same.refl H).upd_new hp1).upd_new hp2, by rw [upd_ne (Ne.symm n12)]; exact upd_same, upd_same, hb⟩, fun m σ H1 ⟨S, fs, c3, c4, e, S1, h1, h2, hb1⟩ => ?_⟩
    subst e
    refine ⟨_, rfl, sizeOf (by simp), fun q1 hq1 => ⟨_, _, _, rfl, rfl, .of ((upd_ne (ne_of_none h2 hq1)).trans h2), .of upd_same, _, rfl, ?_⟩⟩
    cases m with
    | zero => rw [K34.brac] at hb1; cases hb1
    | succ m =>
      cases S with
      | nil =>
        refine iteF ?_
        rw [K34.brac] at hb1
        injection hb1 with hb1
        injection hb1 with hb1
        subst hb1
        refine ⟨_, rfl, ?_⟩
        exact k _ p1 (S1.upd_new hq1) hp1 ((upd_ne (ne_of_none h1 hq1)).trans h1)
      | cons u S =>
        refine ite2 (fun _ => ⟨BSt H p1 p2 t (some l) m, fun σ' H' h => ⟨m, Nat.lt_succ_self m, h⟩, ?_⟩) (fun h => absurd (by simp) h)
        have S2 := S1.upd_new hq1 (o := .lst [])
        have e1 : upd H1 q1 (.lst []) p1 = some (.lst (fs.map tv)) := (upd_ne (ne_of_none h1 hq1)).trans h1
        have e2 : upd H1 q1 (.lst []) p2 = some (.lst ((tv u :: S.map tv).reverse)) := (upd_ne (ne_of_none h2 hq1)).trans h2
        have hu : u.length ≤ 100000 ∧ S.length ≤ 100000 := by
          rw [K34.brac] at hb1
          by_cases hL : K34.LT < u.length ∨ K34.LT < S.length
          · rw [if_pos hL] at hb1; cases hb1
          · unfold K34.LT at hL; omega
        have hb2 : (match K34.minG (K34.grp 0 [] u) with
            | none => if fs.length < 200 then K34.brac m S (fs ++ [u]) else some none
            | some g => K34.brac m (K34.rep u g ++ S) fs) = some (some l) := by
          rw [K34.brac] at hb1
          rw [if_neg (by unfold K34.LT; omega)] at hb1
          exact hb1
        clear hb1
        refine ⟨_, rfl, (.inl ⟨rfl, _, .of (e2)⟩), _, _, _, rfl, rfl, e2, popR _ _, ?_⟩
        rw [dropR]
        generalize hH2 : upd (upd H1 q1 (.lst [])) p2 (.lst (S.map tv).reverse) = H2
        have S3 : Same H H2 := by rw [← hH2]; exact S2.own hp20
        have f1 : H2 p1 = some (.lst (fs.map tv)) := by rw [← hH2, upd_ne (Ne.symm n12)]; exact e1
        have f2 : H2 p2 = some (.lst (S.map tv).reverse) := by rw [← hH2]; exact upd_same
        clear hH2 e1 e2
        refine ⟨_, rfl, u, rfl, hu.1, fun H3 G us S4 hG hg B => ⟨_, rfl, (sizeOf (by simp)), fun z1 hz1 => ⟨_, _, _, rfl, rfl, .of ((upd_ne (ne_of_none hg hz1)).trans hg), (.of upd_same), _, rfl, ?_⟩⟩⟩
        have S5 : Same H (upd H3 z1 (.lst [])) := (S3.trans S4).upd_new hz1
        have B5 := B.mono fun _ _ h => GpAt.mono (((Same.refl H3).upd_new hz1 (o := .lst []))) h
        have g1 : upd H3 z1 (.lst []) p1 = some (.lst (fs.map tv)) := (upd_ne (ne_of_none (S4 _ _ f1) hz1)).trans (S4 _ _ f1)
        have g2 : upd H3 z1 (.lst []) p2 = some (.lst (S.map tv).reverse) := (upd_ne (ne_of_none (S4 _ _ f2) hz1)).trans (S4 _ _ f2)
        have g3 : upd H3 z1 (.lst []) G = some (.lst us) := (upd_ne (ne_of_none hg hz1)).trans hg
        generalize upd H3 z1 (.lst []) = H5 at S5 B5 g1 g2 g3 ⊢
        have nd := (K34.grp_begins u 0 [] (by simp) (by simp)).2
        have hcm := K34.grp_commas u 0 0 [] (by simp)
        generalize K34.grp 0 [] u = gs at B5 hb2 nd hcm
        cases B5 with
        | nil =>
          refine iteF ?_
          have hb3 : (if fs.length < 200 then K34.brac m S (fs ++ [u]) else some none) = some (some l) := hb2
          by_cases hf : fs.length < 200
          · rw [if_pos hf] at hb3
            refine ⟨_, rfl, _, _, rfl, .inl (.of g1), _, _, rfl, rfl, _, rfl, ?_⟩
            refine ite2 (fun _ => ?_) (fun h => absurd (by simp; omega) h)
            refine ⟨_, rfl, (.inl ⟨rfl, _, .of (g1)⟩), _, rfl, _, _, _, rfl, rfl, g1, (sizeOfL (by first | omega | (simp; omega))), ?_⟩
            refine ⟨S, fs ++ [u], _, _, rfl, S5.own hp1, by rw [upd_same, List.map_append]; rfl, by rw [upd_ne n12]; exact g2, hb3⟩
          · rw [if_neg hf] at hb3
            cases hb3
        | @cons v g us gs v1 v2 =>
          refine iteT ?_
          refine ⟨_, rfl, .inl ⟨rfl, _, .of g2⟩, _, rfl, _, rfl, G, v :: us, gD g, gs.map gD, rfl, .of g3, GpAt.all (.cons v1 v2), gD_alike (g :: gs), Nat.le_trans (gD_depth (g :: gs)) (by decide), fun i x hx hm => ?_⟩
          rw [minD_gD gs g nd] at hm
          obtain ⟨y, hy, r, l9, rfl, k1, k2⟩ := (Both.cons v1 v2).get hx
          have ey : y = K34.least g gs := gD_inj (by rw [← hm, show gD g :: gs.map gD = (g :: gs).map gD from rfl, List.getD_eq_getElem?_getD, List.getElem?_map, hy]; rfl)
          subst ey
          have hb3 : K34.brac m (K34.rep u (K34.least g gs) ++ S) fs = some (some l) := hb2
          have hc2 := hcm _ (K34.least_mem gs g)
          refine ⟨u, _, r, l9, rfl, hu.1, by omega, k1, k2, fun H6 p S6 hp h6 => ⟨_, _, rfl, .of h6, fun y hy => ?_⟩⟩
          have j2 : upd H6 y (.lst ((K34.rep u (K34.least g gs)).map tv).reverse) p2 = some (.lst (S.map tv).reverse) := (upd_ne (ne_of_none (S6 _ _ g2) hy)).trans (S6 _ _ g2)
          refine ⟨_, _, _, _, rfl, rfl, j2, upd_same, ?_, ?_⟩
          · have : (K34.rep u (K34.least g gs)).length ≤ 100001 := by
              unfold K34.rep
              rw [List.length_zipWith]
              simp
              omega
            exact sizeOf (by simp; omega)
          · refine ⟨K34.rep u (K34.least g gs) ++ S, fs, _, _, rfl, ((S5.trans S6).upd_new hy).own hp20, ?_, ?_, hb3⟩
            · rw [upd_ne (Ne.symm n12), upd_ne (ne_of_none (S6 _ _ g1) hy)]; exact S6 _ _ g1
            · rw [upd_same, List.map_append, List.reverse_append]
end
end B34

set_option autoImplicit true
set_option Elab.async false
set_option linter.all false
set_option maxRecDepth 100000
set_option maxHeartbeats 8000000
namespace B34
open PySem L2
open PySem.SupX in
abbrev xP_TooLarge : PySem.Arguments := supA1 "limit" ⟨6, 17, 6, 21⟩ ⟨6, 23, 6, 28⟩
open PySem.SupX in
abbrev xB_TooLarge : List Stmt := [supE "too large" 0 ⟨7, 8, 7, 13⟩ ⟨7, 8, 7, 15⟩ ⟨7, 8, 7, 24⟩ ⟨7, 25, 7, 36⟩ ⟨7, 8, 7, 37⟩ ⟨7, 8, 7, 37⟩, supF "limit" ⟨8, 8, 8, 12⟩ ⟨8, 8, 8, 18⟩ ⟨8, 21, 8, 26⟩ ⟨8, 8, 8, 26⟩]
theorem xY_TooLarge : PySem.SupX.Sup1 "TooLarge.__init__" "limit" "too large" 0 ⟨6, 17, 6, 21⟩ ⟨6, 23, 6, 28⟩ ⟨7, 8, 7, 13⟩ ⟨7, 8, 7, 15⟩ ⟨7, 8, 7, 24⟩ ⟨7, 25, 7, 36⟩ ⟨7, 8, 7, 37⟩ ⟨7, 8, 7, 37⟩ ⟨8, 8, 8, 12⟩ ⟨8, 8, 8, 18⟩ ⟨8, 21, 8, 26⟩ ⟨8, 8, 8, 26⟩ := ⟨⟨rfl, rfl, rfl, rfl, rfl⟩, fun _ _ _ _ _ _ _ _ => rfl, fun _ _ _ _ => ⟨_, rfl⟩, fun _ _ _ _ => rfl⟩
/-- what is told of TooLarge -/
structure Exc_TooLarge (P : Program) (K : PySem.W.Frag) (mg : Str → Option Value) (C fI : Addr) (file : Str) : Prop where
  tl : PySem.SupX.SupTxt K file P.main.scope "TooLarge" "TooLarge.__init__" ["limit"] xP_TooLarge xB_TooLarge C fI
  hf : ((P.main.file : Str) == file) = true
  gC : mg "TooLarge" = some (.ref C)
  xf : XfC K C
  te : PySem.W.exmOne K (.ref C) (.ref C) = some true
/-- braced, the error told: TooLarge(200) at C, its own dict at d -/
def spBracedX (C : Addr) : Sp := fun vs H Q E => ∃ (t : List Nat) (n : Nat) (r : Option (List (List Nat))), vs = [tv t] ∧ K34.brac n [t] [] = some r ∧
  (∀ l, r = some l → ∀ H' p, Same H H' → H p = none → H' p = some (.lst (l.map tv)) → Q (.ref p) H') ∧ (r = none → ∀ H' d, Same H H' → H' d = none → E (.ref C) (some d) (upd H' d (.xd [("limit", .int 200)])))
section
variable {P : Program} {w : World} {K : PySem.W.Frag} {mg : Str → Option Value} {base : Heap} {a : Nat → Addr} {fd : Nat → FuncData} {C fI : Addr} {file : Str}
theorem okx_braced (T : Txt K mg a fd) (X_TooLarge : Exc_TooLarge P K mg C fI file) : FnOk P w K mg base (L2.CX P w) 5 (a 2) (fd 2) ["text"] (spBracedX C) := by
  refine T.F_braced.okX sc_braced (fun vs H Q E h => ?_) (fun cdv A outer s H vs Q E hr h => ?_)
  · obtain ⟨_, _, _, rfl, _⟩ := h; rfl
  · obtain ⟨t, n, rs, rfl, hb, k⟩ := h
    have G_groups_of := ok_groups_of (P := P) (w := w) (base := base) T
    have G_replaced := ok_replaced (P := P) (w := w) (base := base) T
    refine ⟨_, pss_cons (ps_par (i := 1) (j := 2) (by rfl) sc_braced.nd rfl rfl (by decide) rfl rfl (pa_cons (pe_lst pa_nil) (pa_cons (pe_lst (pa_cons (pv 0) pa_nil)) pa_nil)) (by rfl))
    (pss_cons (ps_while (passes_of rfl) (pt_cmpR (op_neNil hr.units0) (pv 2) (pe_lst pa_nil) (nomark _)) (pss_cons (ps_set (i := 3) sc_braced.nd rfl (Or.inl rfl) (pe_bm0 PySem.F.plainAttrs_list PySem.F.slot_list_pop PySem.F.type_list_pop mt_pop (pv 2)))
    (pss_cons (ps_set (i := 4) sc_braced.nd rfl (Or.inl rfl) (pe_call G_groups_of (hr.mono (by first | decide | omega)) rfl T.m_groups_of T.F_groups_of.kp T.b_groups_of .nil pass0 (pa_cons (pv 3) pa_nil)))
    (pss_one (ps_if (pt_cmpR (op_neNil hr.units0) (pv 4) (pe_lst pa_nil) (nomark _)) (pss_one (ps_expr (pe_bm PySem.F.plainAttrs_list PySem.F.slot_list_extend PySem.F.type_list_extend mt_extend (pv 2) (pa_cons (pe_revL (pe_call G_replaced (hr.mono (by first | decide | omega)) rfl T.m_replaced T.F_replaced.kp T.b_replaced .nil pass0 (pa_cons (pv 3) (pa_cons (pe_callB (cr_minD rfl hr.units) (by rfl) T.n_min (by decide +kernel) (pa_cons (pv 4) pa_nil)) pa_nil)))) pa_nil)))) (pss_one (ps_if (pt_cmpR op_lt (pe_callB call_len_seq (by rfl) T.n_len PySem.boot_len (pa_cons (pv 1) pa_nil)) (pe_glob (v := .int 200) rfl T.g_MOST_TEXTS.choose_spec ⟨_, rfl⟩) (nomark _)) (pss_one (ps_expr (pe_bm PySem.F.plainAttrs_list PySem.F.slot_list_append PySem.F.type_list_append mt_append (pv 1) (pa_cons (pv 3) pa_nil)))) (pss_one (ps_raise rfl (takes_of rfl rfl rfl rfl) (pmk_sup1 X_TooLarge.hf X_TooLarge.tl xY_TooLarge X_TooLarge.gC hr (pa_cons (pe_glob (v := .int 200) rfl T.g_MOST_TEXTS.choose_spec ⟨_, rfl⟩) pa_nil)))))))))))
    (pss_one (ps_ret (pv 1)))), ?_⟩
    refine ⟨(sizeOf (by simp)), fun p1 hp1 => ⟨_, rfl, (sizeOf (by simp)), fun p2 hp2 => ⟨_, _, rfl, ?_⟩⟩⟩
    have n12 : p2 ≠ p1 := ne_of_none' hp2 upd_same
    have hp20 : H p2 = none := by rw [upd_ne n12] at hp2; exact hp2
    refine ⟨BSt H p1 p2 t rs, ⟨n, [t], [], _, _, rfl, ((Same.refl H).upd_new hp1).upd_new hp2, by rw [upd_ne (Ne.symm n12)]; exact upd_same, upd_same, hb⟩, fun m σ H1 ⟨S, fs, c3, c4, e, S1, h1, h2, hb1⟩ => ?_⟩
    subst e
    refine ⟨_, rfl, sizeOf (by simp), fun q1 hq1 => ⟨_, _, _, rfl, rfl, .of ((upd_ne (ne_of_none h2 hq1)).trans h2), .of upd_same, _, rfl, ?_⟩⟩
    cases m with
    | zero => rw [K34.brac] at hb1; cases hb1
    | succ m =>
      cases S with
      | nil =>
        refine iteF ?_
        rw [K34.brac] at hb1
        injection hb1 with hb1
        subst hb1
        refine ⟨_, rfl, ?_⟩
        exact k.1 _ rfl _ p1 (S1.upd_new hq1) hp1 ((upd_ne (ne_of_none h1 hq1)).trans h1)
      | cons u S =>
        refine ite2 (fun _ => ⟨BSt H p1 p2 t rs m, fun σ' H' h => ⟨m, Nat.lt_succ_self m, h⟩, ?_⟩) (fun h => absurd (by simp) h)
        have S2 := S1.upd_new hq1 (o := .lst [])
        have e1 : upd H1 q1 (.lst []) p1 = some (.lst (fs.map tv)) := (upd_ne (ne_of_none h1 hq1)).trans h1
        have e2 : upd H1 q1 (.lst []) p2 = some (.lst ((tv u :: S.map tv).reverse)) := (upd_ne (ne_of_none h2 hq1)).trans h2
        have hu : u.length ≤ 100000 ∧ S.length ≤ 100000 := by
          rw [K34.brac] at hb1
          by_cases hL : K34.LT < u.length ∨ K34.LT < S.length
          · rw [if_pos hL] at hb1; cases hb1
          · unfold K34.LT at hL; omega
        have hb2 : (match K34.minG (K34.grp 0 [] u) with
            | none => if fs.length < 200 then K34.brac m S (fs ++ [u]) else some none
            | some g => K34.brac m (K34.rep u g ++ S) fs) = some rs := by
          rw [K34.brac] at hb1
          rw [if_neg (by unfold K34.LT; omega)] at hb1
          exact hb1
        clear hb1
        refine ⟨_, rfl, (.inl ⟨rfl, _, .of (e2)⟩), _, _, _, rfl, rfl, e2, popR _ _, ?_⟩
        rw [dropR]
        generalize hH2 : upd (upd H1 q1 (.lst [])) p2 (.lst (S.map tv).reverse) = H2
        have S3 : Same H H2 := by rw [← hH2]; exact S2.own hp20
        have f1 : H2 p1 = some (.lst (fs.map tv)) := by rw [← hH2, upd_ne (Ne.symm n12)]; exact e1
        have f2 : H2 p2 = some (.lst (S.map tv).reverse) := by rw [← hH2]; exact upd_same
        clear hH2 e1 e2
        refine ⟨_, rfl, u, rfl, hu.1, fun H3 G us S4 hG hg B => ⟨_, rfl, (sizeOf (by simp)), fun z1 hz1 => ⟨_, _, _, rfl, rfl, .of ((upd_ne (ne_of_none hg hz1)).trans hg), (.of upd_same), _, rfl, ?_⟩⟩⟩
        have S5 : Same H (upd H3 z1 (.lst [])) := (S3.trans S4).upd_new hz1
        have B5 := B.mono fun _ _ h => GpAt.mono (((Same.refl H3).upd_new hz1 (o := .lst []))) h
        have g1 : upd H3 z1 (.lst []) p1 = some (.lst (fs.map tv)) := (upd_ne (ne_of_none (S4 _ _ f1) hz1)).trans (S4 _ _ f1)
        have g2 : upd H3 z1 (.lst []) p2 = some (.lst (S.map tv).reverse) := (upd_ne (ne_of_none (S4 _ _ f2) hz1)).trans (S4 _ _ f2)
        have g3 : upd H3 z1 (.lst []) G = some (.lst us) := (upd_ne (ne_of_none hg hz1)).trans hg
        generalize upd H3 z1 (.lst []) = H5 at S5 B5 g1 g2 g3 ⊢
        have nd := (K34.grp_begins u 0 [] (by simp) (by simp)).2
        have hcm := K34.grp_commas u 0 0 [] (by simp)
        generalize K34.grp 0 [] u = gs at B5 hb2 nd hcm
        cases B5 with
        | nil =>
          refine iteF ?_
          have hb3 : (if fs.length < 200 then K34.brac m S (fs ++ [u]) else some none) = some rs := hb2
          by_cases hf : fs.length < 200
          · rw [if_pos hf] at hb3
            refine ⟨_, rfl, _, _, rfl, .inl (.of g1), _, _, rfl, rfl, _, rfl, ?_⟩
            refine ite2 (fun _ => ?_) (fun h => absurd (by simp; omega) h)
            refine ⟨_, rfl, (.inl ⟨rfl, _, .of (g1)⟩), _, rfl, _, _, _, rfl, rfl, g1, (sizeOfL (by first | omega | (simp; omega))), ?_⟩
            refine ⟨S, fs ++ [u], _, _, rfl, S5.own hp1, by rw [upd_same, List.map_append]; rfl, by rw [upd_ne n12]; exact g2, hb3⟩
          · rw [if_neg hf] at hb3
            refine ⟨_, rfl, _, _, rfl, .inl (.of g1), _, _, rfl, rfl, _, rfl, ?_⟩
            refine ite2 (fun h => absurd h (by simp; omega)) (fun _ => ?_)
            injection hb3 with hb3
            subst hb3
            exact ⟨_, rfl, fun d hd => k.2 rfl _ d S5 hd⟩
        | @cons v g us gs v1 v2 =>
          refine iteT ?_
          refine ⟨_, rfl, .inl ⟨rfl, _, .of g2⟩, _, rfl, _, rfl, G, v :: us, gD g, gs.map gD, rfl, .of g3, GpAt.all (.cons v1 v2), gD_alike (g :: gs), Nat.le_trans (gD_depth (g :: gs)) (by decide), fun i x hx hm => ?_⟩
          rw [minD_gD gs g nd] at hm
          obtain ⟨y, hy, r, l9, rfl, k1, k2⟩ := (Both.cons v1 v2).get hx
          have ey : y = K34.least g gs := gD_inj (by rw [← hm, show gD g :: gs.map gD = (g :: gs).map gD from rfl, List.getD_eq_getElem?_getD, List.getElem?_map, hy]; rfl)
          subst ey
          have hb3 : K34.brac m (K34.rep u (K34.least g gs) ++ S) fs = some rs := hb2
          have hc2 := hcm _ (K34.least_mem gs g)
          refine ⟨u, _, r, l9, rfl, hu.1, by omega, k1, k2, fun H6 p S6 hp h6 => ⟨_, _, rfl, .of h6, fun y hy => ?_⟩⟩
          have j2 : upd H6 y (.lst ((K34.rep u (K34.least g gs)).map tv).reverse) p2 = some (.lst (S.map tv).reverse) := (upd_ne (ne_of_none (S6 _ _ g2) hy)).trans (S6 _ _ g2)
          refine ⟨_, _, _, _, rfl, rfl, j2, upd_same, ?_, ?_⟩
          · have : (K34.rep u (K34.least g gs)).length ≤ 100001 := by
              unfold K34.rep
              rw [List.length_zipWith]
              simp
              omega
            exact sizeOf (by simp; omega)
          · refine ⟨K34.rep u (K34.least g gs) ++ S, fs, _, _, rfl, ((S5.trans S6).upd_new hy).own hp20, ?_, ?_, hb3⟩
            · rw [upd_ne (Ne.symm n12), upd_ne (ne_of_none (S6 _ _ g1) hy)]; exact S6 _ _ g1
            · rw [upd_same, List.map_append, List.reverse_append]
end
end B34

set_option autoImplicit true
set_option Elab.async false
set_option linter.all false
set_option maxRecDepth 100000
set_option maxHeartbeats 8000000
namespace B34
open PySem L2
section
variable {P : Program} {w : World} {K : PySem.W.Frag} {mg : Str → Option Value} {base : Heap} {a : Nat → Addr} {fd : Nat → FuncData} {C fI : Addr} {file : Str}
theorem ok__law_alike (T : Txt K mg a fd) : ∀ n, FnOk P w K mg base CX0 n (a 7) (fd 7) ["found", "due"] (spAlike K n)
  | 0 => ⟨fun vs H Q E ⟨_, _, _, _, _, _, h, _⟩ => absurd h (Nat.not_lt_zero _), fun A outer s H args us vs Q E _ _ _ _ ⟨_, _, _, _, _, _, h, _⟩ => absurd h (Nat.not_lt_zero _)⟩
  | n + 1 => by
    have G__law_alike := ok__law_alike T n
    refine T.F__law_alike.ok sc__law_alike (fun vs H Q E h => ?_) (fun cdv A outer s H vs Q E hr h => ?_)
    · obtain ⟨_, _, _, rfl, _⟩ := h; rfl
    · obtain ⟨x, y, d, rfl, hx, hy, hd, hnd, k⟩ := h
      refine ⟨_, pss_cons (ps_if (pt_val (pe_callB call_isiD (by rfl) T.n_isinstance (by decide +kernel) (pa_cons (pv 1) (pa_cons (pe_bltn rfl T.n_dict (by decide +kernel) (show RelV (.ty "dict") _ from rfl)) pa_nil)))) (pss_cons (ps_never)
    (pss_one (ps_never))) pss_nil)
    (pss_cons (ps_if (PW.pt (pw_or (pt_val (pe_callB call_isiD (by rfl) T.n_isinstance (by decide +kernel) (pa_cons (pv 1) (pa_cons (pe_bltn rfl T.n_list (by decide +kernel) (show RelV (.ty "list") _ from rfl)) pa_nil)))) (pw_or1 (pt_val (pe_callB call_isiD (by rfl) T.n_isinstance (by decide +kernel) (pa_cons (pv 1) (pa_cons (pe_bltn rfl T.n_tuple (by decide +kernel) (show RelV (.ty "tuple") _ from rfl)) pa_nil))))))) (pss_cons (ps_if (PW.pt (pw_or (pt_cmpR op_ne (pe_callB call_isiD (by rfl) T.n_isinstance (by decide +kernel) (pa_cons (pv 0) (pa_cons (pe_bltn rfl T.n_list (by decide +kernel) (show RelV (.ty "list") _ from rfl)) pa_nil))) (pe_callB call_isiD (by rfl) T.n_isinstance (by decide +kernel) (pa_cons (pv 1) (pa_cons (pe_bltn rfl T.n_list (by decide +kernel) (show RelV (.ty "list") _ from rfl)) pa_nil))) (nomark _)) (pw_or1 (pt_cmpR op_ne (pe_callB call_isiD (by rfl) T.n_isinstance (by decide +kernel) (pa_cons (pv 0) (pa_cons (pe_bltn rfl T.n_tuple (by decide +kernel) (show RelV (.ty "tuple") _ from rfl)) pa_nil))) (pe_callB call_isiD (by rfl) T.n_isinstance (by decide +kernel) (pa_cons (pv 1) (pa_cons (pe_bltn rfl T.n_tuple (by decide +kernel) (show RelV (.ty "tuple") _ from rfl)) pa_nil))) (nomark _))))) (pss_one (ps_ret pe_bl)) pss_nil)
    (pss_one (ps_ret (pe_and (pe_cmpR op_eq (pe_callB call_len_seq (by rfl) T.n_len PySem.boot_len (pa_cons (pv 0) pa_nil)) (pe_callB call_len_seq (by rfl) T.n_len PySem.boot_len (pa_cons (pv 1) pa_nil)) (nomark _)) (pe_one (pe_callB (cr_all rfl) (by rfl) T.n_all (by decide +kernel) (pa_cons (pe_lc (own := [("at", 2), ("one", 3)]) (g := gTup K 2 (gCons (gName 2) (gCons (gName 3) gNil))) (tt := tYes) (by rfl) sc__law_alike.nd (pi_enumA (by rfl) T.n_enumerate (pa_cons (pv 1) pa_nil)) (blkOk_by (own := [("at", 2), ("one", 3)]) (N := N__law_alike) (sc := defScope s__law_alike) (by decide +kernel)) (fun _ _ _ _ _ => pg_tup rfl (pgs_cons (pg_name (i := 2) sc__law_alike.nd rfl (Or.inl rfl)) (pgs_cons (pg_name (i := 3) sc__law_alike.nd rfl (Or.inl rfl)) pgs_nil))) (fun _ _ _ _ _ => pts_nil) (fun _ _ _ _ _ => (pe_call G__law_alike (hr.mono (by first | decide | omega)) rfl T.m__law_alike T.F__law_alike.kp T.b__law_alike .nil pass0 (pa_cons (pe_ix (show IxR _ (rIx K) from ix_seq) (pv 0) (pv 2) (fun _ _ => rfl)) (pa_cons (pv 3) pa_nil))))) pa_nil))))))) pss_nil)
    (pss_cons (ps_if (pt_cmpR op_isN (pv 1) pe_non (nomark _)) (pss_one (ps_ret (pe_cmpR op_isN (pv 0) pe_non (nomark _)))) pss_nil)
    (pss_cons (ps_if (PW.pt (pw_or (pt_val (pe_callB call_isiD (by rfl) T.n_isinstance (by decide +kernel) (pa_cons (pv 1) (pa_cons (pe_bltn rfl T.n_bool (by decide +kernel) (show RelV (.ty "bool") _ from rfl)) pa_nil)))) (pw_or1 (pt_val (pe_callB call_isiD (by rfl) T.n_isinstance (by decide +kernel) (pa_cons (pv 0) (pa_cons (pe_bltn rfl T.n_bool (by decide +kernel) (show RelV (.ty "bool") _ from rfl)) pa_nil))))))) (pss_one (ps_ret (pe_and (pe_callB call_isiD (by rfl) T.n_isinstance (by decide +kernel) (pa_cons (pv 1) (pa_cons (pe_bltn rfl T.n_bool (by decide +kernel) (show RelV (.ty "bool") _ from rfl)) pa_nil))) (pe_and (pe_callB call_isiD (by rfl) T.n_isinstance (by decide +kernel) (pa_cons (pv 0) (pa_cons (pe_bltn rfl T.n_bool (by decide +kernel) (show RelV (.ty "bool") _ from rfl)) pa_nil))) (pe_one (pe_cmpR op_eq (pv 0) (pv 1) (nomark _))))))) pss_nil)
    (pss_cons (ps_if (pt_val (pe_callB call_isiD (by rfl) T.n_isinstance (by decide +kernel) (pa_cons (pv 1) (pa_cons (pe_bltn rfl T.n_int (by decide +kernel) (show RelV (.ty "int") _ from rfl)) pa_nil)))) (pss_one (ps_ret (pe_and (pe_callB call_isiD (by rfl) T.n_isinstance (by decide +kernel) (pa_cons (pv 0) (pa_cons (pe_bltn rfl T.n_int (by decide +kernel) (show RelV (.ty "int") _ from rfl)) pa_nil))) (pe_one (pe_cmpR op_eq (pv 0) (pv 1) (nomark _)))))) pss_nil)
    (pss_one (ps_ret (pe_and (pe_callB call_isiD (by rfl) T.n_isinstance (by decide +kernel) (pa_cons (pv 0) (pa_cons (pe_bltn rfl T.n_str (by decide +kernel) (show RelV (.ty "str") _ from rfl)) pa_nil))) (pe_and (pe_callB call_isiD (by rfl) T.n_isinstance (by decide +kernel) (pa_cons (pv 1) (pa_cons (pe_bltn rfl T.n_str (by decide +kernel) (show RelV (.ty "str") _ from rfl)) pa_nil))) (pe_one (pe_cmpR op_eq (pv 0) (pv 1) (nomark _))))))))))), ?_⟩
      have k0 := k H (Same.refl H)
      cases d with
      | none =>
        have hx0 := hx
        have hy0 := hy
        cases hx0
        cases hy0
        refine ⟨_, rfl, _, _, _, false, rfl, hy, (show kitB "NoneType" _ = some _ from by decide +kernel), _, rfl, _, rfl, _, _, _, false, rfl, hy, (show kitB "NoneType" _ = some _ from by decide +kernel), _, rfl, _, rfl, _, _, _, false, rfl, hy, (show kitB "NoneType" _ = some _ from by decide +kernel), _, rfl, _, rfl, rfl, _, rfl, ?_⟩
        refine ite2 (fun _ => ?_) (fun h => absurd (by simp) h)
        refine ⟨_, rfl, rfl, ?_⟩
        simpa using k0
      | bool b =>
        have hx0 := hx
        have hy0 := hy
        cases hx0
        cases hy0
        refine ⟨_, rfl, _, _, _, false, rfl, hy, (show kitB "bool" _ = some _ from by decide +kernel), _, rfl, _, rfl, _, _, _, false, rfl, hy, (show kitB "bool" _ = some _ from by decide +kernel), _, rfl, _, rfl, _, _, _, false, rfl, hy, (show kitB "bool" _ = some _ from by decide +kernel), _, rfl, _, rfl, rfl, _, rfl, ?_⟩
        refine ite2 (fun h => absurd h (by simp)) (fun _ => ?_)
        refine ⟨_, rfl, _, _, _, true, rfl, hy, (show kitB "bool" _ = some _ from by decide +kernel), _, rfl, _, rfl, _, _, _, true, rfl, hy, (show kitB "bool" _ = some _ from by decide +kernel), _, rfl, _, rfl, _, _, _, true, rfl, hx, (show kitB "bool" _ = some _ from by decide +kernel), _, rfl, _, rfl, _, rfl, rfl, ?_⟩
        simpa using k0
      | int i =>
        have hx0 := hx
        have hy0 := hy
        cases hx0
        cases hy0
        refine ⟨_, rfl, _, _, _, false, rfl, hy, (show kitB "int" _ = some _ from by decide +kernel), _, rfl, _, rfl, _, _, _, false, rfl, hy, (show kitB "int" _ = some _ from by decide +kernel), _, rfl, _, rfl, _, _, _, false, rfl, hy, (show kitB "int" _ = some _ from by decide +kernel), _, rfl, _, rfl, rfl, _, rfl, ?_⟩
        refine ite2 (fun h => absurd h (by simp)) (fun _ => ?_)
        refine ⟨_, rfl, _, _, _, false, rfl, hy, (show kitB "int" _ = some _ from by decide +kernel), _, rfl, _, rfl, _, _, _, false, rfl, hx, (show kitB "int" _ = some _ from by decide +kernel), _, rfl, _, rfl, _, _, _, true, rfl, hy, (show kitB "int" _ = some _ from by decide +kernel), _, rfl, _, rfl, _, _, _, true, rfl, hx, (show kitB "int" _ = some _ from by decide +kernel), _, rfl, _, rfl, _, rfl, rfl, ?_⟩
        simpa using k0
      | str z =>
        have hx0 := hx
        have hy0 := hy
        cases hx0
        cases hy0
        refine ⟨_, rfl, _, _, _, false, rfl, hy, (show kitB "str" _ = some _ from by decide +kernel), _, rfl, _, rfl, _, _, _, false, rfl, hy, (show kitB "str" _ = some _ from by decide +kernel), _, rfl, _, rfl, _, _, _, false, rfl, hy, (show kitB "str" _ = some _ from by decide +kernel), _, rfl, _, rfl, rfl, _, rfl, ?_⟩
        refine ite2 (fun h => absurd h (by simp)) (fun _ => ?_)
        refine ⟨_, rfl, _, _, _, false, rfl, hy, (show kitB "str" _ = some _ from by decide +kernel), _, rfl, _, rfl, _, _, _, false, rfl, hx, (show kitB "str" _ = some _ from by decide +kernel), _, rfl, _, rfl, _, _, _, false, rfl, hy, (show kitB "str" _ = some _ from by decide +kernel), _, rfl, _, rfl, _, _, _, true, rfl, hx, (show kitB "str" _ = some _ from by decide +kernel), _, rfl, _, rfl, _, _, _, true, rfl, hy, (show kitB "str" _ = some _ from by decide +kernel), _, rfl, _, rfl, _, rfl, rfl, ?_⟩
        simpa using k0
      | list ds =>
        have hx0 := hx
        have hy0 := hy
        cases hx0 with
        | @lst p xs _ hs1 ha1 =>
        cases hy0 with
        | @lst q ys _ hs2 ha2 =>
        refine ⟨_, rfl, _, _, _, false, rfl, hy, (show kitB "list" _ = some _ from by decide +kernel), _, rfl, _, rfl, _, _, _, true, rfl, hy, (show kitB "list" _ = some _ from by decide +kernel), _, rfl, _, rfl, _, _, _, true, rfl, hx, (show kitB "list" _ = some _ from by decide +kernel), _, rfl, _, _, _, true, rfl, hy, (show kitB "list" _ = some _ from by decide +kernel), rfl, _, rfl, _, rfl, _, _, _, false, rfl, hx, (show kitB "list" _ = some _ from by decide +kernel), _, rfl, _, _, _, false, rfl, hy, (show kitB "list" _ = some _ from by decide +kernel), rfl, _, rfl, ?_⟩
        refine ⟨_, rfl, p, xs, rfl, .inl hs1, _, rfl, q, ys, rfl, .inl hs2, rfl, _, rfl, ?_⟩
        have e1 := ha1.length
        have e2 := ha2.length
        refine ite2 (fun _ => ?_) (fun h => absurd (by simp [e1, e2]) h)
        refine ⟨_, rfl, q, ys, rfl, .inl ⟨hs2, fun D hD => ?_⟩⟩
        refine lc_same walk_enum hD (fun i H' acc => acc = List.replicate i (.bl true)) rfl (fun H' s3 => s3.seq hs2) (fun i x H1 H2 acc hi s3 hacc e hy3 => ?_) (fun H1 acc s3 hacc e => ?_)
        · subst e
          obtain ⟨t, z0, y0, rfl, ht, rfl, h1, h2⟩ := hy3
          cases h1
          have h2' : ys[i]? = some y0 := h2
          obtain ⟨di, hdi, hdy⟩ := ha2.get h2'
          have hi1 : i < xs.length := by omega
          obtain ⟨di', hdi', hdx⟩ := ha1.get (List.getElem?_eq_getElem hi1)
          rw [hdi] at hdi'
          cases hdi'
          have s4 := s3.upd_new ht (o := .tup [.int (i : Nat), y0])
          refine ⟨_, _, rfl, (.of upd_same), rfl, _, _, rfl, _, _, rfl, rfl, ?_⟩
          refine ⟨rfl, ?_⟩
          have hdep := depth_get hdi
          have hd' : PyData.depthAll ds + 1 < n + 1 := hd
          refine ⟨_, rfl, _, rfl, .inl ⟨p, xs, _, _, rfl, rfl, s4.seq hs1, atI_nat (List.getElem?_eq_getElem hi1), ?_⟩⟩
          refine ⟨_, rfl, _, _, di, rfl, hdx.same s4, hdy.same s4, by omega, Nat.le_trans (nodes_get hdi) (Nat.le_trans (Nat.le_succ _) hnd), fun H3 s5 => ?_⟩
          refine ⟨_, s5 _ _ (by rw [upd_ne (ne_of_none hacc ht)]; exact hacc), sizeOfL ?_, (s4.trans s5).own hD, _, upd_same, by rw [List.replicate_succ']⟩
          have := nodes_len ds
          have hnd' : nodesAll ds + 1 ≤ 1000000 := hnd
          simp
          omega
        · subst e
          refine ⟨_, List.replicate ys.length true, rfl, .of (by rw [hacc, List.map_replicate]), ?_⟩
          have : (List.replicate ys.length true).all id = true := by simp
          rw [this]
          exact k _ s3
      | tuple ds =>
        have hx0 := hx
        have hy0 := hy
        cases hx0 with
        | @tup p xs _ hs1 ha1 =>
        cases hy0 with
        | @tup q ys _ hs2 ha2 =>
        refine ⟨_, rfl, _, _, _, false, rfl, hy, (show kitB "tuple" _ = some _ from by decide +kernel), _, rfl, _, rfl, _, _, _, false, rfl, hy, (show kitB "tuple" _ = some _ from by decide +kernel), _, rfl, _, rfl, _, _, _, true, rfl, hy, (show kitB "tuple" _ = some _ from by decide +kernel), _, rfl, _, rfl, _, _, _, false, rfl, hx, (show kitB "tuple" _ = some _ from by decide +kernel), _, rfl, _, _, _, false, rfl, hy, (show kitB "tuple" _ = some _ from by decide +kernel), rfl, _, rfl, _, rfl, _, _, _, true, rfl, hx, (show kitB "tuple" _ = some _ from by decide +kernel), _, rfl, _, _, _, true, rfl, hy, (show kitB "tuple" _ = some _ from by decide +kernel), rfl, _, rfl, ?_⟩
        refine ⟨_, rfl, p, xs, rfl, .inr hs1, _, rfl, q, ys, rfl, .inr hs2, rfl, _, rfl, ?_⟩
        have e1 := ha1.length
        have e2 := ha2.length
        refine ite2 (fun _ => ?_) (fun h => absurd (by simp [e1, e2]) h)
        refine ⟨_, rfl, q, ys, rfl, .inr ⟨hs2, fun D hD => ?_⟩⟩
        refine lc_same walk_enumT hD (fun i H' acc => acc = List.replicate i (.bl true)) rfl (fun H' s3 => SqT.same s3 hs2) (fun i x H1 H2 acc hi s3 hacc e hy3 => ?_) (fun H1 acc s3 hacc e => ?_)
        · subst e
          obtain ⟨t, z0, y0, rfl, ht, rfl, h1, h2⟩ := hy3
          cases h1
          have h2' : ys[i]? = some y0 := h2
          obtain ⟨di, hdi, hdy⟩ := ha2.get h2'
          have hi1 : i < xs.length := by omega
          obtain ⟨di', hdi', hdx⟩ := ha1.get (List.getElem?_eq_getElem hi1)
          rw [hdi] at hdi'
          cases hdi'
          have s4 := s3.upd_new ht (o := .tup [.int (i : Nat), y0])
          refine ⟨_, _, rfl, (.of upd_same), rfl, _, _, rfl, _, _, rfl, rfl, ?_⟩
          refine ⟨rfl, ?_⟩
          have hdep := depth_get hdi
          have hd' : PyData.depthAll ds + 1 < n + 1 := hd
          refine ⟨_, rfl, _, rfl, .inr <| .inl ⟨p, xs, _, _, rfl, rfl, SqT.same s4 hs1, atI_nat (List.getElem?_eq_getElem hi1), ?_⟩⟩
          refine ⟨_, rfl, _, _, di, rfl, hdx.same s4, hdy.same s4, by omega, Nat.le_trans (nodes_get hdi) (Nat.le_trans (Nat.le_succ _) hnd), fun H3 s5 => ?_⟩
          refine ⟨_, s5 _ _ (by rw [upd_ne (ne_of_none hacc ht)]; exact hacc), sizeOfL ?_, (s4.trans s5).own hD, _, upd_same, by rw [List.replicate_succ']⟩
          have := nodes_len ds
          have hnd' : nodesAll ds + 1 ≤ 1000000 := hnd
          simp
          omega
        · subst e
          refine ⟨_, List.replicate ys.length true, rfl, .of (by rw [hacc, List.map_replicate]), ?_⟩
          have : (List.replicate ys.length true).all id = true := by simp
          rw [this]
          exact k _ s3
      | dict _ => cases hx
/-- what is told of a text -/
def spTold : Sp := fun vs H Q _ => ∃ (t : List Nat) (n : Nat) (r : Option (List (List Nat))), vs = [tv t] ∧ K34.brac n [t] [] = some r ∧
  (∀ l, r = some l → ∀ H' q p, Same H H' → H q = none → H p = none → H' q = some (.tup [.str "told", .ref p]) → H' p = some (.lst (l.map tv)) → Q (.ref q) H') ∧
  (r = none → ∀ H' q, Same H H' → H q = none → H' q = some (.tup [.str "large", .int 200]) → Q (.ref q) H')
theorem ok__law_told (T : Txt K mg a fd) (X_TooLarge : Exc_TooLarge P K mg C fI file) : FnOk P w K mg base CX0 6 (a 12) (fd 12) ["text"] spTold := by
  refine T.F__law_told.ok sc__law_told (fun vs H Q E h => ?_) (fun cdv A outer s H vs Q E hr h => ?_)
  · obtain ⟨_, _, _, rfl, _⟩ := h; rfl
  · obtain ⟨t, n, r, rfl, hb, k1, k2⟩ := h
    have GX_braced := okx_braced (P := P) (w := w) (base := base) T X_TooLarge
    refine ⟨_, pss_one (ps_try_as (i := 1) rfl rfl sc__law_told.nd rfl rfl ⟨rfl, by decide, .inl X_TooLarge.gC⟩ takes0 (fun W pn xe tk po => (pss_one (ps_ret (pe_tup (pa_cons pe_str (pa_cons (pe_callS GX_braced (hr.mono (by first | decide | omega)) rfl T.m_braced T.F_braced.kp T.b_braced (fun σ => passAt tk σ) (pa_cons (pv 0) pa_nil)) pa_nil)))))) (fun a oe cls d pn hz hf => (pss_one (ps_ret (pe_tup (pa_cons pe_str (pa_cons (pe_xf X_TooLarge.xf (X_TooLarge.tl.noN _ (by simp)) hz hf (pv 1)) pa_nil))))))), ?_⟩
    refine ⟨_, rfl, t, n, r, rfl, hb, fun l e H1 p S1 h1 h2 => ⟨sizeOf (by simp), fun q hq => ?_⟩, fun e H1 d S1 hd => ⟨true, X_TooLarge.te, fun _ a0 ha => ?_, fun q => Bool.noConfusion q⟩⟩
    · refine k1 l e _ q p (S1.upd_new hq) (S1.free hq) h1 upd_same ?_
      rw [upd_ne (ne_of_none h2 hq)]; exact h2
    · refine ⟨_, rfl, rfl, rfl, d, _, _, rfl, upd_same, rfl, sizeOf (by simp), fun q hq => ?_⟩
      exact k2 e _ q ((S1.upd_new hd).upd_new hq) ((S1.upd_new hd).free hq) upd_same
end
end B34

set_option autoImplicit true
set_option Elab.async false
set_option linter.all false
set_option maxRecDepth 100000
set_option maxHeartbeats 8000000
namespace B34
open PySem L2
/-! ### plain: bounds and rows -/
def lT : Nat → Nat
  | 0 => 0
  | e + 1 => 5 + 4 * (3 + (lT e + 3))
def nT : Nat → Nat
  | 0 => 1
  | e + 1 => 4 * nT e
def cT : Nat → Nat
  | 0 => 0
  | e + 1 => 2 + 4 * (5 + (cT e + 4))
theorem bounds : ∀ d : Nat, d ≤ 3 → lT d ≤ 1000 ∧ nT d ≤ 64 ∧ 1 ≤ nT d ∧ cT d ≤ 1000
  | 0, _ => by decide
  | 1, _ => by decide
  | 2, _ => by decide
  | 3, _ => by decide
  | _ + 4, h => absurd h (by omega)
theorem joinL_C : ∀ qs : List (List Nat), TL.joinL [44] qs = K34.joinC qs
  | [] => rfl
  | [_] => rfl
  | p :: q :: r => by
    show p ++ ([44] ++ TL.joinL [44] (q :: r)) = p ++ 44 :: K34.joinC (q :: r)
    rw [joinL_C (q :: r)]
    rfl
theorem joinC_le : ∀ qs : List (List Nat), (K34.joinC qs).length ≤ qs.flatten.length + (qs.length - 1)
  | [] => by simp [K34.joinC]
  | [p] => by simp [K34.joinC]
  | p :: q :: r => by
    have := joinC_le (q :: r)
    rw [K34.joinC_cons _ (by simp)]
    simp at this ⊢
    omega
theorem parts_G {qs : List (List Nat)} {ss : List (List (List Nat))} (h : K34.All2 (K34.G false) qs ss) : qs ≠ [] → K34.G true (K34.joinC qs) ss.flatten := by
  induction h with
  | nil => intro e; exact absurd rfl e
  | @cons q s qs ss h t ih =>
    intro _
    cases t with
    | nil => simpa [K34.joinC] using K34.G.one h
    | cons h2 t2 =>
      rw [K34.joinC_cons _ (by simp)]
      exact .more h (ih (by simp))
theorem group_G {qs : List (List Nat)} {ss : List (List (List Nat))} (h : K34.All2 (K34.G false) qs ss) (l : 2 ≤ qs.length) : K34.G false (123 :: (K34.joinC qs ++ [125])) ss.flatten := by
  cases h with
  | nil => simp at l
  | @cons q s qs ss h t =>
    have hne : qs ≠ [] := by
      rintro rfl
      simp at l
    have := K34.G.gp h (parts_G t hne) .nil
    rw [K34.joinC_cons _ hne]
    have e : K34.prod (s ++ ss.flatten) [[]] = s ++ ss.flatten := by
      unfold K34.prod
      simp
    rw [e] at this
    simpa using this
theorem pair_G {q : List Nat} {s : List (List Nat)} (h : K34.G false q s) : K34.G false (123 :: (q ++ [125])) (s.map K34.wrap) := by
  have := K34.G.pr h .nil
  have e : K34.prod (s.map K34.wrap) [[]] = s.map K34.wrap := by
    unfold K34.prod
    simp
  rwa [e] at this
theorem prod_pairs (c : List Nat) (b : List (List Nat)) : ∀ a : List (List Nat), K34.prod (K34.prod a b) [c] = (a.flatMap fun x => b.map fun y => (x, y)).map fun p => p.1 ++ p.2 ++ c
  | [] => rfl
  | x :: a => by
    rw [K34.prod_cons, K34.prod_append, prod_pairs c b a, List.flatMap_cons, List.map_append, List.map_map]
    congr 1
    unfold K34.prod
    induction b with
    | nil => rfl
    | cons y b ih => simp at ih ⊢; exact ih
theorem sg_plain {t : List Nat} (h : ∀ c ∈ t, c ∈ SG) : K34.plainT t := fun c hc => by
  have := h c hc
  revert c
  intro c hc h2
  have : ∀ c ∈ SG, c ≠ 123 ∧ c ≠ 44 ∧ c ≠ 125 := by decide
  exact this c h2
theorem prod_mem {x : List Nat} {a b : List (List Nat)} (h : x ∈ K34.prod a b) : ∃ y ∈ a, ∃ z ∈ b, x = y ++ z := by
  unfold K34.prod at h
  obtain ⟨y, hy, h⟩ := List.mem_flatMap.mp h
  obtain ⟨z, hz, h⟩ := List.mem_map.mp h
  exact ⟨y, hy, z, hz, h.symm⟩
/-- what stands for a text is no longer than it -/
theorem G_len {b : Bool} {t : List Nat} {s : List (List Nat)} (h : K34.G b t s) : ∀ x ∈ s, x.length ≤ t.length := by
  induction h with
  | nil => simp
  | ch _ _ _ _ ih =>
    intro x hx
    obtain ⟨y, hy, rfl⟩ := List.mem_map.mp hx
    simpa using ih y hy
  | pr _ _ ih1 ih2 =>
    intro x hx
    obtain ⟨y, hy, z, hz, rfl⟩ := prod_mem hx
    obtain ⟨y1, hy1, rfl⟩ := List.mem_map.mp hy
    have := ih1 y1 hy1
    have := ih2 z hz
    simp [K34.wrap]
    omega
  | gp _ _ _ ih1 ih2 ih3 =>
    intro x hx
    obtain ⟨y, hy, z, hz, rfl⟩ := prod_mem hx
    have := ih3 z hz
    rcases List.mem_append.mp hy with hy | hy
    · have := ih1 y hy
      simp
      omega
    · have := ih2 y hy
      simp
      omega
  | one _ ih => exact ih
  | more _ _ ih1 ih2 =>
    intro x hx
    rcases List.mem_append.mp hx with hx | hx
    · have := ih1 x hx
      simp
      omega
    · have := ih2 x hx
      simp
      omega
/-! ### promises -/
def rowL (d m : Nat) : Nat := 3 + m * (lT d + 3)
def rowC (d m : Nat) : Nat := 5 + m * (cT d + 4)
def spRow (d : Nat) : Sp := fun vs H Q _ => ∃ (w g : Addr) (n : Int) (m : Nat), vs = [.ref w, .int d, .int m] ∧ WellAt H w g n ∧ m ≤ 2 ∧ d ≤ 3 ∧ n + rowC d m ≤ 10 ^ 9 ∧
  ∀ H' q p t s, Off w g H H' → WellAt H' w g (n + rowC d m) → H' q = some (.tup [tv t, .ref p]) → H' p = some (.lst (s.map tv)) → H p = none → p ≠ w → p ≠ g → K34.G false t s → t.length ≤ rowL d m → s.length ≤ nT d ^ m → Q (.ref q) H'
def spThing (d : Nat) : Sp := fun vs H Q _ => ∃ (w g : Addr) (n : Int) (e : Nat), d = e + 1 ∧ vs = [.ref w, .int e] ∧ WellAt H w g n ∧ d ≤ 3 ∧ n + cT d ≤ 10 ^ 9 ∧
  ∀ H' q p t s, Off w g H H' → WellAt H' w g (n + cT d) → H' q = some (.tup [tv t, .ref p]) → H' p = some (.lst (s.map tv)) → H p = none → p ≠ w → p ≠ g → K34.G false t s → t.length ≤ lT d → s.length ≤ nT d → Q (.ref q) H'
section
variable {P : Program} {w : World} {K : PySem.W.Frag} {mg : Str → Option Value} {base : Heap} {a : Nat → Addr} {fd : Nat → FuncData} {C fI : Addr} {file : Str}
theorem ok__law_row (T : Txt K mg a fd) (d : Nat) (G__law_thing : FnOk P w K mg base CX0 (3 + 2 * d) (a 11) (fd 11) ["well", "deep"] (spThing d)) :
    FnOk P w K mg base CX0 (3 + 2 * d + 1) (a 9) (fd 9) ["well", "deep", "most"] (spRow d) := by
  have G__law_dip := ok__law_dip (P := P) (w := w) (base := base) T
  have G__law_signs := ok__law_signs (P := P) (w := w) (base := base) T
  have G__law_pairs := ok__law_pairs (P := P) (w := w) (base := base) T
  refine T.F__law_row.ok sc__law_row (fun vs H Q E h => ?_) (fun cdv A outer s H vs Q E hr h => ?_)
  · obtain ⟨_, _, _, _, rfl, _⟩ := h; rfl
  · obtain ⟨w0, g, n, m, rfl, W, hm, hd, hn, k⟩ := h
    refine ⟨_, pss_cons (ps_set (i := 3) sc__law_row.nd rfl (Or.inl rfl) (pe_call G__law_signs (hr.mono (by first | decide | omega)) rfl T.m__law_signs T.F__law_signs.kp T.b__law_signs .nil pass0 (pa_cons (pv 0) pa_nil)))
    (pss_cons (ps_par (i := 4) (j := 5) (by rfl) sc__law_row.nd rfl rfl (by decide) rfl rfl (pa_cons (pe_lst (pa_cons (pv 3) pa_nil)) (pa_cons (pe_mono (pe_ifExp (pt_cmpR op_gt (pv 1) pe_int (nomark _)) (pe_call G__law_dip (hr.mono (by first | decide | omega)) rfl T.m__law_dip T.F__law_dip.kp T.b__law_dip .nil pass0 (pa_cons (pv 0) (pa_cons (pe_op op_add (pv 2) pe_int) pa_nil))) pe_int)) pa_nil)) (by rfl))
    (pss_cons (ps_for PassesOwn.never rfl (pi_range1 (by rfl) T.n_range (pa_cons (pv 5) pa_nil)) (pg_name (i := 6) sc__law_row.nd rfl (Or.inl rfl)) (pss_cons (ps_asg (pe_call G__law_thing (hr.mono (by first | decide | omega)) rfl T.m__law_thing T.F__law_thing.kp T.b__law_thing .nil pass0 (pa_cons (pv 0) (pa_cons (pe_op op_sub (pv 1) pe_int) pa_nil))) (pg_tup rfl (pgs_cons (pg_name (i := 7) sc__law_row.nd rfl (Or.inl rfl)) (pgs_cons (pg_name (i := 8) sc__law_row.nd rfl (Or.inl rfl)) pgs_nil))))
    (pss_cons (ps_set (i := 9) sc__law_row.nd rfl (Or.inr rfl) (pe_call G__law_signs (hr.mono (by first | decide | omega)) rfl T.m__law_signs T.F__law_signs.kp T.b__law_signs .nil pass0 (pa_cons (pv 0) pa_nil)))
    (pss_cons (ps_set (i := 3) sc__law_row.nd rfl (Or.inl rfl) (pe_op op_add_str (pe_op op_add_str (pv 3) (pv 7)) (pv 9)))
    (pss_one (ps_setLc (i := 4) (own := [("one", 10), ("other", 11)]) (g := gTup K 2 (gCons (gName 10) (gCons (gName 11) gNil))) (tt := tYes) (by rfl) sc__law_row.nd rfl rfl (sw_true rfl rfl rfl (by decide +kernel)) (pi_list (pe_call G__law_pairs (hr.mono (by first | decide | omega)) rfl T.m__law_pairs T.F__law_pairs.kp T.b__law_pairs .nil pass0 (pa_cons (pv 4) (pa_cons (pv 8) pa_nil)))) (blkOk_by (own := [("one", 10), ("other", 11)]) (N := N__law_row) (sc := defScope s__law_row) (by decide +kernel)) (fun _ _ _ _ _ => pg_tup rfl (pgs_cons (pg_name (i := 10) sc__law_row.nd rfl (Or.inl rfl)) (pgs_cons (pg_name (i := 11) sc__law_row.nd rfl (Or.inl rfl)) pgs_nil))) (fun _ _ _ _ _ => pts_nil) (fun _ _ _ _ _ => (pe_op op_add_str (pe_op op_add_str (pv 10) (pv 11)) (pv 9)))))))))
    (pss_one (ps_ret (pe_tup (pa_cons (pv 3) (pa_cons (pv 4) pa_nil))))))), ?_⟩
    have n0 := W.pos
    obtain ⟨b1, b2, b3, b4⟩ := bounds d hd
    have hn' : n + ((5 + m * (cT d + 4) : Nat) : Int) ≤ 10 ^ 9 := hn
    have step : ∀ i, i < m → i * (cT d + 4) + (cT d + 4) ≤ m * (cT d + 4) := fun i hi => by
      rw [← Nat.succ_mul]; exact Nat.mul_le_mul_right _ hi
    generalize hM : m * (cT d + 4) = M at hn' step
    refine ⟨_, rfl, w0, g, n, rfl, W, (by omega), fun H1 t0 O1 W1 g0 l0 => ?_⟩
    refine ⟨_, rfl, sizeOf (by simp), fun p1 hp1 => ?_⟩
    have d1 := W1.ne hp1
    have h1 : H p1 = none := O1.free hp1 d1.1 d1.2
    have O2 := O1.new hp1 (o := .lst [tv t0])
    have W2 := W1.new hp1 (o := .lst [tv t0])
    have e2 : upd H1 p1 (.lst [tv t0]) p1 = some (.lst ([t0].map tv)) := upd_same
    refine ⟨fun x H' => ∃ r : Nat, x = .int r ∧ (d = 0 → r = 0) ∧ r ≤ m ∧ Off w0 g H H' ∧ WellAt H' w0 g (n + 5) ∧ H' p1 = some (.lst ([t0].map tv)), ?_, fun x H2 ⟨r, e, r1, r2, O2, W2, e2⟩ => ?_⟩
    · refine ⟨_, rfl, _, _, rfl, rfl, _, rfl, ?_⟩
      refine ite2 (fun h0 => ?_) (fun h0 => ?_)
      · refine ⟨_, rfl, _, rfl, _, _, rfl, rfl, w0, g, n + 4, _, rfl, W2, (by omega), (by omega), (by omega), fun H3 r O3 W3 r0 r1 => ?_⟩
        have h0' : (0 : Int) < d := by simpa using h0
        refine ⟨r.toNat, by rw [Int.toNat_of_nonneg r0], fun z => by omega, by omega, O2.trans O3, by rw [show n + 5 = n + 4 + 1 by omega]; exact W3, O3 _ _ e2 d1.1 d1.2⟩
      · have h0' : ¬ (0 : Int) < d := by simpa using h0
        exact ⟨0, rfl, fun _ => rfl, Nat.zero_le _, O2, W2.mono (by omega), e2⟩
    subst e
    refine ⟨_, _, rfl, ?_⟩
    refine ⟨_, rfl, _, rfl, (by omega), (by omega), ?_⟩
    refine for_it walk_range (fun i σ H' => ∃ t s p c6 c7 c8 c9 c10 c11, σ = [some (.ref w0), some (.int d), some (.int m), some (tv t), some (.ref p), some (.int r), c6, c7, c8, c9, c10, c11] ∧ Off w0 g H H' ∧ WellAt H' w0 g (n + 5 + (i * (cT d + 4) : Nat)) ∧
        H' p = some (.lst (s.map tv)) ∧ H p = none ∧ p ≠ w0 ∧ p ≠ g ∧ K34.G false t s ∧ t.length ≤ 3 + i * (lT d + 3) ∧ s.length ≤ nT d ^ i)
      ⟨t0, [t0], p1, _, _, _, _, _, _, rfl, O2, by simpa using W2, e2, h1, d1.1, d1.2, .plain (sg_plain g0), by omega, by simp⟩ (fun _ _ _ _ _ => trivial)
      (fun i x σ H3 H4 hi ⟨t, s, p, c6, c7, c8, c9, c10, c11, e, O3, W3, e3, e4, e5, e6, hG, l1, l2⟩ hy => ?_) (fun σ H3 ⟨t, s, p, c6, c7, c8, c9, c10, c11, e, O3, W3, e3, e4, e5, e6, hG, l1, l2⟩ => ?_)
    · subst e
      obtain ⟨rfl, rfl⟩ := hy
      have hi2 : i < r := by simpa using hi
      obtain ⟨e, rfl⟩ : ∃ e, d = e + 1 := by
        cases d with
        | zero => exact absurd (r1 rfl) (by omega)
        | succ e => exact ⟨e, rfl⟩
      have st := step i (by omega)
      have hi3 : i ≤ 1 := by omega
      generalize hIc : i * (cT (e + 1) + 4) = Ic at W3 st
      refine ⟨_, rfl, _, rfl, _, _, rfl, rfl, w0, g, n + 5 + (Ic : Nat), e, rfl, (congrArg (fun z => [V.ref w0, V.int z]) (show ((e + 1 : Nat) : Int) - 1 = (e : Int) by omega)), W3, hd, (by omega), fun H5 q p2 t2 s2 O5 W5 f1 f2 f3 f4 f5 hG2 m1 m2 => ⟨_, _, rfl, .of f1, rfl, _, _, rfl, _, _, rfl, rfl, ?_⟩⟩
      refine ⟨_, rfl, w0, g, _, rfl, W5, (by omega), fun H6 t6 O6 W6 g6 l6 => ?_⟩
      have lt1 : (tS t).length ≤ 3000 := by
        rw [tS_length]
        have : i * (lT (e + 1) + 3) ≤ 1 * (lT (e + 1) + 3) := Nat.mul_le_mul_right _ hi3
        omega
      have lt2 : (tS t2).length ≤ 1000 := by rw [tS_length]; omega
      have lt6 : (tS t6).length ≤ 3 := by rw [tS_length]; exact l6
      refine ⟨_, rfl, _, rfl, _, _, rfl, rfl, sizeOf (by omega), _, rfl, _, _, rfl, rfl, sizeOf (by rw [len_app]; omega), ?_⟩
      have k6 : H6 p = some (.lst (s.map tv)) := O6 _ _ (O5 _ _ e3 e5 e6) e5 e6
      have k6' : H6 p2 = some (.lst (s2.map tv)) := O6 _ _ f2 f4 f5
      have hpow : s.length * s2.length ≤ nT (e + 1) ^ (i + 1) := by rw [Nat.pow_succ]; exact Nat.mul_le_mul l2 m2
      have hpw : nT (e + 1) ^ (i + 1) ≤ 4096 := by
        have : i = 0 ∨ i = 1 := by omega
        rcases this with rfl | rfl
        · simp; omega
        · exact Nat.le_trans (Nat.pow_le_pow_left b2 2) (by decide)
      refine ⟨_, rfl, _, rfl, p, p2, s, s2, rfl, .of k6, .of k6', by omega, by omega, fun H7 P7 vs S7 x0 x1 B => ⟨_, rfl, ⟨_, .of x1⟩, fun D hD => ?_⟩⟩
      have lB := B.length
      rw [pairs_len] at lB
      refine lc_same (walk_list (xs := vs)) hD (fun j H' acc => acc = (((s.flatMap fun x => s2.map fun y => (x, y)).take j).map fun z => tv (z.1 ++ z.2 ++ t6))) rfl (fun H' s8 => s8.seq (.of x1)) (fun j x H8 H9 acc hj s8 hacc ea hy => ?_) (fun H8 acc s8 hacc ea => ?_)
      · subst ea
        obtain ⟨rfl, hx⟩ := hy
        obtain ⟨⟨u, v⟩, huv, r9, rfl, h9⟩ := B.get hx
        have hmem := List.mem_of_getElem? huv
        obtain ⟨u', hu', hm9⟩ := List.mem_flatMap.mp hmem
        obtain ⟨v', hv', hm8⟩ := List.mem_map.mp hm9
        obtain ⟨e8, e9⟩ := Prod.mk.inj hm8
        have lu := G_len hG _ hu'
        have lv := G_len hG2 _ hv'
        rw [tS_length] at lt1 lt2
        have lu1 : (tS u).length ≤ 3000 := by rw [tS_length, ← e8]; omega
        have lv1 : (tS v).length ≤ 1000 := by rw [tS_length, ← e9]; omega
        refine ⟨_, _, rfl, .of (s8 _ _ h9), rfl, _, _, rfl, _, _, rfl, rfl, rfl, ?_⟩
        refine ⟨_, rfl, _, rfl, _, _, rfl, rfl, sizeOf (by show (tS u).length + (tS v).length ≤ _; omega), _, rfl, _, _, rfl, rfl, sizeOf (by show (tS u ++ tS v).length + (tS t6).length ≤ _; rw [len_app]; omega), ?_⟩
        refine ⟨_, hacc, sizeOfL (by rw [List.length_map, List.length_take]; omega), s8.own hD, _, upd_same, ?_⟩
        rw [takeNext huv, List.map_append]
        refine congrArg (fun z => _ ++ [z]) ?_
        show V.str (tS u ++ tS v ++ tS t6) = _
        rw [tS_append, tS_append]
        rfl
      · have hP : (P7 ≠ w0 ∧ P7 ≠ g) := W6.ne x0
        have W7 := W6.same S7
        have hDw := W7.ne hD
        have O8 : Off w0 g H H8 := (((O3.trans O5).trans O6).trans S7.off).trans s8.off
        have et : tv (t ++ t2 ++ t6) = V.str (tS t ++ tS t2 ++ tS t6) := by unfold tv; rw [tS_append, tS_append]
        refine ⟨t ++ t2 ++ t6, K34.prod (K34.prod s s2) [t6], D, _, _, _, _, _, _, by rw [et]; rfl, O8, ?_, ?_, ?_, hDw.1, hDw.2, (hG.apps hG2).apps (.plain (sg_plain g6)), ?_, ?_⟩
        · refine (W7.same s8).mono ?_
          rw [Nat.succ_mul, hIc]
          push_cast
          omega
        · rw [hacc, ea, List.take_of_length_le (Nat.le_of_eq B.length.symm), prod_pairs, List.map_map]
          rfl
        · exact (((O3.trans O5).trans O6).trans S7.off).free hD hDw.1 hDw.2
        · rw [List.length_append, List.length_append, Nat.succ_mul]
          omega
        · rw [K34.prod_length, K34.prod_length, Nat.pow_succ, List.length_singleton, Nat.mul_one]
          exact Nat.mul_le_mul l2 m2
    · subst e
      rw [Int.toNat_natCast] at W3 l1 l2
      refine ⟨_, rfl, _, rfl, (sizeOf (by simp)), fun p1 hp1 => ?_⟩
      have hpm : nT d ^ r ≤ nT d ^ m := Nat.pow_le_pow_right b3 r2
      have hmr : r * (lT d + 3) ≤ m * (lT d + 3) := Nat.mul_le_mul_right _ r2
      have hmc : r * (cT d + 4) ≤ m * (cT d + 4) := Nat.mul_le_mul_right _ r2
      refine k _ _ p t s (O3.new hp1) ?_ upd_same (by rw [upd_ne (ne_of_none e3 hp1)]; exact e3) e4 e5 e6 hG ?_ (Nat.le_trans l2 hpm)
      · refine (W3.new hp1).mono ?_
        unfold rowC
        generalize r * (cT d + 4) = A1 at hmc ⊢
        generalize m * (cT d + 4) = A2 at hmc ⊢
        omega
      · unfold rowL; omega
theorem ok__law_thing (T : Txt K mg a fd) (d : Nat) (G__law_row : FnOk P w K mg base CX0 (3 + 2 * d + 1) (a 9) (fd 9) ["well", "deep", "most"] (spRow d)) :
    FnOk P w K mg base CX0 (3 + 2 * (d + 1)) (a 11) (fd 11) ["well", "deep"] (spThing (d + 1)) := by
  have G__law_dip := ok__law_dip (P := P) (w := w) (base := base) T
  refine T.F__law_thing.ok (k := 3 + 2 * d + 1) sc__law_thing (fun vs H Q E h => ?_) (fun cdv A outer s H vs Q E hr h => ?_)
  · obtain ⟨_, _, _, _, _, rfl, _⟩ := h; rfl
  · obtain ⟨w0, g, n, e, he, rfl, W, hd, hn, k⟩ := h
    obtain rfl : d = e := by omega
    refine ⟨_, pss_cons (ps_if (pt_cmpR op_eq (pe_call G__law_dip (hr.mono (by first | decide | omega)) rfl T.m__law_dip T.F__law_dip.kp T.b__law_dip .nil pass0 (pa_cons (pv 0) (pa_cons pe_int pa_nil))) pe_int (nomark _)) (pss_cons (ps_asg (pe_call G__law_row (hr.mono (by first | decide | omega)) rfl T.m__law_row T.F__law_row.kp T.b__law_row .nil pass0 (pa_cons (pv 0) (pa_cons (pv 1) (pa_cons pe_int pa_nil)))) (pg_tup rfl (pgs_cons (pg_name (i := 2) sc__law_thing.nd rfl (Or.inl rfl)) (pgs_cons (pg_name (i := 3) sc__law_thing.nd rfl (Or.inl rfl)) pgs_nil))))
    (pss_one (ps_ret (pe_tup (pa_cons (pe_op op_add_str (pe_op op_add_str pe_str (pv 2)) pe_str) (pa_cons (pe_lc (own := [("one", 7)]) (g := gName 7) (tt := tYes) (by rfl) sc__law_thing.nd (pi_list (pv 3)) (blkOk_by (own := [("one", 7)]) (N := N__law_thing) (sc := defScope s__law_thing) (by decide +kernel)) (fun _ _ _ _ _ => pg_name (i := 7) sc__law_thing.nd rfl (Or.inl rfl)) (fun _ _ _ _ _ => pts_nil) (fun _ _ _ _ _ => (pe_op op_add_str (pe_op op_add_str pe_str (pv 7)) pe_str))) pa_nil)))))) pss_nil)
    (pss_cons (ps_par (i := 4) (j := 5) (by rfl) sc__law_thing.nd rfl rfl (by decide) rfl rfl (pa_cons (pe_lst pa_nil) (pa_cons (pe_lst pa_nil) pa_nil)) (by rfl))
    (pss_cons (ps_for PassesOwn.never rfl (pi_range1 (by rfl) T.n_range (pa_cons (pe_op op_add pe_int (pe_call G__law_dip (hr.mono (by first | decide | omega)) rfl T.m__law_dip T.F__law_dip.kp T.b__law_dip .nil pass0 (pa_cons (pv 0) (pa_cons pe_int pa_nil)))) pa_nil)) (pg_name (i := 6) sc__law_thing.nd rfl (Or.inl rfl)) (pss_cons (ps_asg (pe_call G__law_row (hr.mono (by first | decide | omega)) rfl T.m__law_row T.F__law_row.kp T.b__law_row .nil pass0 (pa_cons (pv 0) (pa_cons (pv 1) (pa_cons pe_int pa_nil)))) (pg_tup rfl (pgs_cons (pg_name (i := 2) sc__law_thing.nd rfl (Or.inl rfl)) (pgs_cons (pg_name (i := 3) sc__law_thing.nd rfl (Or.inl rfl)) pgs_nil))))
    (pss_cons (ps_expr (pe_bm PySem.F.plainAttrs_list PySem.F.slot_list_append PySem.F.type_list_append mt_append (pv 4) (pa_cons (pv 2) pa_nil)))
    (pss_one (ps_set (i := 5) sc__law_thing.nd rfl (Or.inl rfl) (pe_op op_cat (pv 5) (pv 3)))))))
    (pss_one (ps_ret (pe_tup (pa_cons (pe_op op_add_str (pe_op op_add_str pe_str (pe_join pe_str (pv 4))) pe_str) (pa_cons (pv 5) pa_nil))))))), ?_⟩
    have hd' : d ≤ 3 := by omega
    obtain ⟨b1, b2, b3, b4⟩ := bounds d hd'
    have n0 := W.pos
    have hc : cT (d + 1) = 2 + 4 * (5 + (cT d + 4)) := rfl
    have hl : lT (d + 1) = 5 + 4 * (3 + (lT d + 3)) := rfl
    have hnn : nT (d + 1) = 4 * nT d := rfl
    have rC : rowC d 1 = 5 + (cT d + 4) := by unfold rowC; rw [Nat.one_mul]
    have rL : rowL d 1 = 3 + (lT d + 3) := by unfold rowL; rw [Nat.one_mul]
    rw [hc] at hn k
    refine ⟨_, rfl, w0, g, n, _, rfl, W, by omega, by decide, by decide, fun H1 r O1 W1 r0 r1 => ⟨rfl, _, rfl, ?_⟩⟩
    refine ite2 (fun _ => ?_) (fun _ => ?_)
    · refine ⟨_, rfl, _, rfl, w0, g, n + 1, 1, rfl, W1, (by decide), hd', (by rw [rC]; omega), fun H2 q p t s O2 W2 f1 f2 f3 f4 f5 hG m1 m2 => ⟨_, _, rfl, .of f1, rfl, _, _, rfl, _, _, rfl, rfl, ?_⟩⟩
      have lt1 : (tS t).length ≤ 1100 := by rw [tS_length]; omega
      rw [Nat.pow_one] at m2
      have ls : s.length ≤ 64 := by omega
      have w1 : ∀ z : List Nat, Str.ofString "{" ++ tS z ++ Str.ofString "}" = tS (K34.wrap z) := fun z => by
        show tS [123] ++ tS z ++ tS [125] = _
        rw [tS_append, tS_append]
        rfl
      have w2 : ∀ z : List Nat, (Str.ofString "{" ++ tS z).length = z.length + 1 := fun z => by rw [len_app, tS_length, Nat.add_comm]; rfl
      refine ⟨_, rfl, _, _, rfl, rfl, sizeOf (by show 1 + (tS t).length ≤ _; omega), _, _, rfl, rfl, sizeOf (by show (Str.ofString "{" ++ tS t).length + 1 ≤ _; rw [w2]; rw [tS_length] at lt1; omega), ?_⟩
      refine ⟨_, rfl, _, rfl, ⟨_, .of f2⟩, fun D hD => ?_⟩
      have dD := W2.ne hD
      refine lc_same (walk_map (f := tv) (xs := s)) hD (fun j H' acc => acc = ((s.take j).map fun z => tv (K34.wrap z))) rfl (fun H' s8 => s8.seq (.of f2)) (fun j x H8 H9 acc hj s8 hacc ea hy => ?_) (fun H8 acc s8 hacc ea => ?_)
      · subst ea
        obtain ⟨rfl, z, hz, rfl⟩ := hy
        have lz := G_len hG _ (List.mem_of_getElem? hz)
        refine ⟨rfl, _, rfl, _, _, rfl, rfl, sizeOf (by show 1 + (tS z).length ≤ _; rw [tS_length]; omega), _, _, rfl, rfl, sizeOf (by show (Str.ofString "{" ++ tS z).length + 1 ≤ _; rw [w2]; omega), ?_⟩
        refine ⟨_, hacc, sizeOfL (by rw [List.length_map, List.length_take]; omega), s8.own hD, _, upd_same, ?_⟩
        rw [takeNext hz, List.map_append]
        refine congrArg (fun z => _ ++ [z]) ?_
        show V.str (Str.ofString "{" ++ tS z ++ Str.ofString "}") = _
        rw [w1]
        rfl
      · refine ⟨sizeOf (by simp), fun q2 hq2 => ?_⟩
        have W8 := W2.same s8
        refine k _ q2 D (K34.wrap t) (s.map K34.wrap) (((O1.trans O2).trans s8.off).new hq2) ((W8.new hq2).mono (by rw [rC]; omega)) ?_ ?_ ((O1.trans O2).free hD dD.1 dD.2) dD.1 dD.2 (pair_G hG) ?_ ?_
        · rw [upd_same, w1]
          rfl
        · rw [upd_ne (ne_of_none hacc hq2), hacc, ea, List.take_length, List.map_map]
          rfl
        · unfold K34.wrap
          rw [rL] at m1
          simp
          omega
        · rw [List.length_map]; omega
    · refine ⟨(sizeOf (by simp)), fun p1 hp1 => ⟨(sizeOf (by simp)), fun p2 hp2 => ⟨_, _, rfl, ?_⟩⟩⟩
      have n12 : p2 ≠ p1 := ne_of_none' hp2 upd_same
      have hp20 : H1 p2 = none := by rw [upd_ne n12] at hp2; exact hp2
      have d1 := W1.ne hp1
      have d2 := W1.ne hp20
      have W2 := (W1.new hp1 (o := .lst [])).new hp2 (o := .lst [])
      have O2 : Off w0 g H (upd (upd H1 p1 (.lst [])) p2 (.lst [])) := (O1.new hp1).new hp2
      refine ⟨_, rfl, w0, g, n + 1, _, rfl, W2, by omega, by decide, by decide, fun H3 r O3 W3 r0 r1 => ⟨_, _, rfl, rfl, _, rfl, by omega, by omega, ?_⟩⟩
      have e1 : H3 p1 = some (.lst []) := O3 _ _ (by rw [upd_ne (Ne.symm n12)]; exact upd_same) d1.1 d1.2
      have e2 : H3 p2 = some (.lst []) := O3 _ _ upd_same d2.1 d2.2
      generalize hk4 : (2 + r).toNat = k4
      have k4a : 2 ≤ k4 ∧ k4 ≤ 4 := by omega
      refine for_it walk_range (fun i σ H' => ∃ qs ss p c2 c3 c6 c7, σ = [some (.ref w0), some (.int d), c2, c3, some (.ref p1), some (.ref p), c6, c7] ∧ Off w0 g H H' ∧ WellAt H' w0 g (n + 2 + (i * (5 + (cT d + 4)) : Nat)) ∧
          H' p1 = some (.lst (qs.map tv)) ∧ H' p = some (.lst (ss.flatten.map tv)) ∧ H p = none ∧ p ≠ w0 ∧ p ≠ g ∧ p ≠ p1 ∧ K34.All2 (K34.G false) qs ss ∧ qs.length = i ∧ qs.flatten.length ≤ i * (3 + (lT d + 3)) ∧ ss.flatten.length ≤ i * nT d)
        ⟨[], [], p2, _, _, _, _, rfl, O2.trans O3, (W3.mono (by omega)), e1, e2, O1.free hp20 d2.1 d2.2, d2.1, d2.2, n12, .nil, rfl, by simp, by simp⟩ (fun _ _ _ _ _ => trivial)
        (fun i x σ H4 H5 hi ⟨qs, ss, p, c2, c3, c6, c7, e, O4, W4, f1, f2, f4, f5, f6, f7, A2, l1, l2, l3⟩ hy => ?_) (fun σ H4 ⟨qs, ss, p, c2, c3, c6, c7, e, O4, W4, f1, f2, f4, f5, f6, f7, A2, l1, l2, l3⟩ => ?_)
      · subst e
        obtain ⟨rfl, rfl⟩ := hy
        have hi3 : i ≤ 3 := by omega
        have hic : i * (5 + (cT d + 4)) ≤ 3 * (5 + (cT d + 4)) := Nat.mul_le_mul_right _ hi3
        have hil : i * nT d ≤ 3 * nT d := Nat.mul_le_mul_right _ hi3
        generalize hI : i * (5 + (cT d + 4)) = I at W4 hic
        refine ⟨_, rfl, _, rfl, w0, g, n + 2 + (I : Nat), 1, rfl, W4, (by decide), hd', (by rw [rC]; omega), fun H6 q p3 t s O6 W6 g1 g2 g3 g4 g5 hG m1 m2 => ⟨_, _, rfl, .of g1, rfl, _, _, rfl, _, _, rfl, rfl, _, rfl, (.inl ⟨rfl, _, .of (O6 _ _ f1 d1.1 d1.2)⟩), _, rfl, _, _, _, rfl, rfl, O6 _ _ f1 d1.1 d1.2, (sizeOfL (by first | omega | (simp; omega))), ?_⟩⟩
        rw [Nat.pow_one] at m2
        have n31 : p3 ≠ p1 := ne_of_none' g3 f1
        refine ⟨_, rfl, _, rfl, _, _, _, _, rfl, rfl, (upd_ne f7).trans (O6 _ _ f2 f5 f6), (upd_ne n31).trans g2, sizeOf (by rw [List.length_map, List.length_map]; omega), fun y1 hy1 => ?_⟩
        have hy6 : H6 y1 = none := by
          have n1 : y1 ≠ p1 := fun z => by rw [z, upd_same] at hy1; cases hy1
          rw [upd_ne n1] at hy1; exact hy1
        have dy := W6.ne hy6
        have ny1 : y1 ≠ p1 := fun z => by rw [z, upd_same] at hy1; cases hy1
        have h1p : H p1 = none := O1.free hp1 d1.1 d1.2
        refine ⟨qs ++ [t], ss ++ [s], y1, _, _, _, _, rfl, ((O4.trans O6).own h1p).new hy1, ?_, ?_, ?_, (O4.trans O6).free hy6 dy.1 dy.2, dy.1, dy.2, ny1, A2.app (.cons hG .nil), by simp [l1], ?_, ?_⟩
        · refine ((W6.upd d1.1 d1.2).new hy1).mono ?_
          rw [rC, Nat.succ_mul, hI]
          push_cast
          omega
        · rw [upd_ne (Ne.symm ny1), upd_same, List.map_append]
          rfl
        · rw [upd_same, List.flatten_append, List.map_append]
          simp
        · rw [rL] at m1
          rw [List.flatten_append, List.length_append, Nat.succ_mul, List.flatten_cons, List.flatten_nil, List.append_nil]
          omega
        · rw [List.flatten_append, List.length_append, Nat.succ_mul, List.flatten_cons, List.flatten_nil, List.append_nil]
          omega
      · subst e
        have hkc : k4 * (5 + (cT d + 4)) ≤ 4 * (5 + (cT d + 4)) := Nat.mul_le_mul_right _ k4a.2
        have hkl : k4 * (3 + (lT d + 3)) ≤ 4 * (3 + (lT d + 3)) := Nat.mul_le_mul_right _ k4a.2
        have hkn : k4 * nT d ≤ 4 * nT d := Nat.mul_le_mul_right _ k4a.2
        have hj : Txt.join (Str.ofString ",") (qs.map tS) = tS (K34.joinC qs) := by
          show Txt.join (tS [44]) (qs.map tS) = _
          rw [join_tS, joinL_C]
        have lj := joinC_le qs
        have lj2 : (tS (K34.joinC qs)).length ≤ 6000 := by
          rw [tS_length]
          omega
        refine ⟨⟨_, rfl⟩, _, rfl, _, _, qs.map tS, rfl, rfl, .inl (.of (by rw [← map_tS]; exact f1)), ?_, ?_⟩
        · rw [sum_tS]
          show qs.flatten.length + (qs.map tS).length * 1 ≤ _
          rw [List.length_map]
          omega
        · rw [hj]
          refine ⟨_, _, rfl, rfl, sizeOf (by show 1 + (tS (K34.joinC qs)).length ≤ _; omega), _, _, rfl, rfl, sizeOf (by show (Str.ofString "{" ++ tS (K34.joinC qs)).length + 1 ≤ _; rw [len_app]; show 1 + (tS (K34.joinC qs)).length + 1 ≤ _; omega), _, rfl, sizeOf (by simp), fun q2 hq2 => ?_⟩
          refine k _ q2 p (123 :: (K34.joinC qs ++ [125])) ss.flatten (O4.new hq2) ?_ ?_ (by rw [upd_ne (ne_of_none f2 hq2)]; exact f2) f4 f5 f6 (group_G A2 (by omega)) ?_ ?_
          · refine (W4.new hq2).mono ?_
            generalize k4 * (5 + (cT d + 4)) = A1 at hkc ⊢
            omega
          · rw [upd_same]
            show some (HO.tup [V.str (tS [123] ++ tS (K34.joinC qs) ++ tS [125]), _]) = _
            rw [tS_append, tS_append]
            rfl
          · rw [hl]
            simp
            omega
          · omega
theorem ok__thing (T : Txt K mg a fd) : ∀ d, FnOk P w K mg base CX0 (3 + 2 * d) (a 11) (fd 11) ["well", "deep"] (spThing d)
  | 0 => ⟨fun vs H Q E ⟨_, _, _, _, h, _⟩ => absurd h (by omega), fun A outer s H args us vs Q E _ _ _ _ ⟨_, _, _, _, h, _⟩ => absurd h (by omega)⟩
  | d + 1 => ok__law_thing T d (ok__law_row T d (ok__thing T d))
end
end B34

set_option autoImplicit true
set_option Elab.async false
set_option linter.all false
set_option maxRecDepth 100000
set_option maxHeartbeats 8000000
namespace B34
open PySem L2
def spTree : Sp := fun vs H Q _ => ∃ (w g : Addr) (n : Int), vs = [.ref w] ∧ WellAt H w g n ∧ n + 2000 ≤ 10 ^ 9 ∧ ∀ H', Off w g H H' → WellAt H' w g (n + 2000) → Q (.bl true) H'
theorem rep_one (c : Nat) (n : Int) : repS (tS [c]) n = tS (List.replicate n.toNat c) := by
  unfold repS tS
  congr 2
  show (List.replicate n.toNat ([c].toArray.toList)).flatten = _
  simp
section
variable {P : Program} {w : World} {K : PySem.W.Frag} {mg : Str → Option Value} {base : Heap} {a : Nat → Addr} {fd : Nat → FuncData} {C fI : Addr} {file : Str}
theorem ok__law_tree_right (T : Txt K mg a fd) (X_TooLarge : Exc_TooLarge P K mg C fI file) : FnOk P w K mg base CX0 20 (a 13) (fd 13) ["well"] spTree := by
  have G__law_dip := ok__law_dip (P := P) (w := w) (base := base) T
  have G__law_signs := ok__law_signs (P := P) (w := w) (base := base) T
  have G__law_told := ok__law_told (P := P) (w := w) (base := base) T X_TooLarge
  have G_braced := ok_braced (P := P) (w := w) (base := base) T
  have G__law_alike := ok__law_alike (P := P) (w := w) (base := base) T 5
  have G__law_row := ok__law_row (P := P) (w := w) (base := base) T 3 (ok__thing T 3)
  refine T.F__law_tree_right.ok sc__law_tree_right (fun vs H Q E h => ?_) (fun cdv A outer s H vs Q E hr h => ?_)
  · obtain ⟨_, _, _, rfl, _⟩ := h; rfl
  · obtain ⟨w0, g, n, rfl, W, hn, k⟩ := h
    refine ⟨_, pss_cons (ps_asg (pe_call G__law_row (hr.mono (by first | decide | omega)) rfl T.m__law_row T.F__law_row.kp T.b__law_row .nil pass0 (pa_cons (pv 0) (pa_cons pe_int (pa_cons pe_int pa_nil)))) (pg_tup rfl (pgs_cons (pg_name (i := 1) sc__law_tree_right.nd rfl (Or.inl rfl)) (pgs_cons (pg_name (i := 2) sc__law_tree_right.nd rfl (Or.inl rfl)) pgs_nil))))
    (pss_cons (ps_asg (pe_tup (pa_cons (pe_op op_mul_str pe_str (pe_call G__law_dip (hr.mono (by first | decide | omega)) rfl T.m__law_dip T.F__law_dip.kp T.b__law_dip .nil pass0 (pa_cons (pv 0) (pa_cons pe_int pa_nil)))) (pa_cons (pe_op op_mul_str pe_str (pe_call G__law_dip (hr.mono (by first | decide | omega)) rfl T.m__law_dip T.F__law_dip.kp T.b__law_dip .nil pass0 (pa_cons (pv 0) (pa_cons pe_int pa_nil)))) pa_nil))) (pg_tup rfl (pgs_cons (pg_name (i := 3) sc__law_tree_right.nd rfl (Or.inr rfl)) (pgs_cons (pg_name (i := 4) sc__law_tree_right.nd rfl (Or.inr rfl)) pgs_nil))))
    (pss_cons (ps_set (i := 5) sc__law_tree_right.nd rfl (Or.inr rfl) (pe_ix (show IxR _ (rIxL K) from ix_list) (pe_lst (pa_cons pe_str (pa_cons pe_str (pa_cons pe_str pa_nil)))) (pe_call G__law_dip (hr.mono (by first | decide | omega)) rfl T.m__law_dip T.F__law_dip.kp T.b__law_dip .nil pass0 (pa_cons (pv 0) (pa_cons pe_int pa_nil))) (fun _ _ => rfl)))
    (pss_cons (ps_par (i := 1) (j := 2) (by rfl) sc__law_tree_right.nd rfl rfl (by decide) rfl rfl (pa_cons (pe_op op_add_str (pe_op op_add_str (pe_op op_add_str (pv 5) (pv 3)) (pv 1)) (pv 4)) (pa_cons (pe_lc (own := [("one", 10)]) (g := gName 10) (tt := tYes) (by rfl) sc__law_tree_right.nd (pi_list (pv 2)) (blkOk_by (own := [("one", 10)]) (N := N__law_tree_right) (sc := defScope s__law_tree_right) (by decide +kernel)) (fun _ _ _ _ _ => pg_name (i := 10) sc__law_tree_right.nd rfl (Or.inl rfl)) (fun _ _ _ _ _ => pts_nil) (fun _ _ _ _ _ => (pe_op op_add_str (pe_op op_add_str (pe_op op_add_str (pv 5) (pv 3)) (pv 10)) (pv 4)))) pa_nil)) (by rfl))
    (pss_cons (ps_set (i := 6) sc__law_tree_right.nd rfl (Or.inl rfl) (pe_mono (pe_ifExp (pt_cmpR op_le (pe_callB call_len_seq (by rfl) T.n_len PySem.boot_len (pa_cons (pv 2) pa_nil)) pe_int (nomark _)) (pe_tup (pa_cons pe_str (pa_cons (pv 2) pa_nil))) (pe_tup (pa_cons pe_str (pa_cons pe_int pa_nil))))))
    (pss_cons (ps_if (pt_not (pt_val (pe_call G__law_alike (hr.mono (by first | decide | omega)) rfl T.m__law_alike T.F__law_alike.kp T.b__law_alike .nil pass0 (pa_cons (pe_call G__law_told (hr.mono (by first | decide | omega)) rfl T.m__law_told T.F__law_told.kp T.b__law_told .nil pass0 (pa_cons (pv 1) pa_nil)) (pa_cons (pv 6) pa_nil))))) (pss_one (ps_ret pe_bl)) pss_nil)
    (pss_cons (ps_asg (pe_tup (pa_cons (pe_op op_add_str (pe_call G__law_signs (hr.mono (by first | decide | omega)) rfl T.m__law_signs T.F__law_signs.kp T.b__law_signs .nil pass0 (pa_cons (pv 0) pa_nil)) (pe_ix (show IxR _ (rIxL K) from ix_list) (pe_lst (pa_cons pe_str (pa_cons pe_str pa_nil))) (pe_call G__law_dip (hr.mono (by first | decide | omega)) rfl T.m__law_dip T.F__law_dip.kp T.b__law_dip .nil pass0 (pa_cons (pv 0) (pa_cons pe_int pa_nil))) (fun _ _ => rfl))) (pa_cons (pe_call G__law_signs (hr.mono (by first | decide | omega)) rfl T.m__law_signs T.F__law_signs.kp T.b__law_signs .nil pass0 (pa_cons (pv 0) pa_nil)) pa_nil))) (pg_tup rfl (pgs_cons (pg_name (i := 7) sc__law_tree_right.nd rfl (Or.inr rfl)) (pgs_cons (pg_name (i := 8) sc__law_tree_right.nd rfl (Or.inr rfl)) pgs_nil))))
    (pss_cons (ps_if (pt_cmpR op_eq (pe_ix (show IxR _ (rIxT K) from ix_tup) (pv 6) pe_int (fun _ _ => rfl)) pe_str (nomark _)) (pss_cons (ps_set (i := 9) sc__law_tree_right.nd rfl (Or.inl rfl) (pe_callKw G_braced (hr.mono (by first | decide | omega)) rfl T.m_braced T.F_braced.kp (T.F_braced.kws fun _ _ _ _ _ _ us hl => match us, hl with | [_], _ => rfl) pass0 (pk_cons (pv 1) pk_nil)))
    (pss_cons (ps_expr (pe_bm PySem.F.plainAttrs_list PySem.F.slot_list_append PySem.F.type_list_append mt_append (pv 9) (pa_cons pe_str pa_nil)))
    (pss_cons (ps_if (pt_mono (PW.pt (pw_and (pt_cmpR op_eq (pv 4) pe_str (nomark _)) (pw_and (pt_cmpR op_eq (pv 3) pe_str (nomark _)) (pw_and (pt_cmpR op_eq (pv 5) pe_str (nomark _)) (pw_and1 (pt_not (pt_val (pe_call G__law_alike (hr.mono (by first | decide | omega)) rfl T.m__law_alike T.F__law_alike.kp T.b__law_alike .nil pass0 (pa_cons (pe_call G_braced (hr.mono (by first | decide | omega)) rfl T.m_braced T.F_braced.kp T.b_braced .nil pass0 (pa_cons (pe_op op_add_str (pe_op op_add_str (pv 7) (pv 1)) (pv 8)) pa_nil)) (pa_cons (pe_lc (own := [("one", 10)]) (g := gName 10) (tt := tYes) (by rfl) sc__law_tree_right.nd (pi_list (pv 2)) (blkOk_by (own := [("one", 10)]) (N := N__law_tree_right) (sc := defScope s__law_tree_right) (by decide +kernel)) (fun _ _ _ _ _ => pg_name (i := 10) sc__law_tree_right.nd rfl (Or.inl rfl)) (fun _ _ _ _ _ => pts_nil) (fun _ _ _ _ _ => (pe_op op_add_str (pe_op op_add_str (pv 7) (pv 10)) (pv 8)))) pa_nil))))))))))) (pss_one (ps_ret pe_bl)) pss_nil)
    (pss_one (ps_ret (pe_call G__law_alike (hr.mono (by first | decide | omega)) rfl T.m__law_alike T.F__law_alike.kp T.b__law_alike .nil pass0 (pa_cons (pe_call G_braced (hr.mono (by first | decide | omega)) rfl T.m_braced T.F_braced.kp T.b_braced .nil pass0 (pa_cons (pv 1) pa_nil)) (pa_cons (pv 2) pa_nil)))))))) pss_nil)
    (pss_one (ps_ret pe_bl))))))))), ?_⟩
    have n0 := W.pos
    refine ⟨_, rfl, w0, g, n, 2, rfl, W, (by decide), (by decide), (by show n + 1609 ≤ _; omega), fun H1 q p t s O1 W1 f1 f2 f3 f4 f5 hG m1 m2 => ⟨_, _, rfl, .of f1, rfl, _, _, rfl, _, _, rfl, rfl, ?_⟩⟩
    replace W1 : WellAt H1 w0 g (n + 1609) := W1
    replace m1 : t.length ≤ 1227 := m1
    replace m2 : s.length ≤ 4096 := m2
    refine ⟨_, rfl, w0, g, _, _, rfl, W1, (by omega), (by decide), (by decide), fun H2 r1 O2 W2 a0 a1 => ⟨_, _, rfl, rfl, (by omega), (by omega), sizeOf (by show 1 * r1.toNat ≤ _; omega), _, rfl, w0, g, _, _, rfl, W2, (by omega), (by decide), (by decide), fun H3 r2 O3 W3 b0 b1 => ⟨_, _, rfl, rfl, (by omega), (by omega), sizeOf (by show 1 * r2.toNat ≤ _; omega), (sizeOf (by simp)), fun q1 hq1 => ⟨_, _, rfl, .of upd_same, rfl, _, _, rfl, _, _, rfl, rfl, ?_⟩⟩⟩⟩
    have W3' := W3.new hq1 (o := .tup [.str (repS (Str.ofString "}") r1), .str (repS (Str.ofString "{") r2)])
    refine ⟨sizeOf (by simp), fun q2 hq2 => ⟨_, rfl, w0, g, _, _, rfl, W3'.new hq2, by omega, by decide, by decide, fun H4 r3 O4 W4 c0 c1 => ?_⟩⟩
    obtain ⟨com, hcom, ecom⟩ : ∃ com : List Nat, (com = [] ∨ com = [44] ∨ com = [97, 44, 98]) ∧ atI [V.str (Str.ofString ""), V.str (Str.ofString ","), V.str (Str.ofString "a,b")] r3 = some (tv com) := by
      have : r3 = 0 ∨ r3 = 1 ∨ r3 = 2 := by omega
      rcases this with rfl | rfl | rfl
      · exact ⟨[], .inl rfl, rfl⟩
      · exact ⟨[44], .inr (.inl rfl), rfl⟩
      · exact ⟨[97, 44, 98], .inr (.inr rfl), rfl⟩
    have d2 := W3'.ne hq2
    refine ⟨_, _, _, _, rfl, rfl, .of (O4 _ _ upd_same d2.1 d2.2), ecom, ?_⟩
    have O14 : Off w0 g H1 H4 := (((O2.trans O3).new hq1).new hq2).trans O4
    have p4 : H4 p = some (.lst (s.map tv)) := O14 _ _ f2 f4 f5
    obtain ⟨clo, hclo⟩ : ∃ clo, clo = List.replicate r1.toNat 125 := ⟨_, rfl⟩
    obtain ⟨ope, hope⟩ : ∃ ope, ope = List.replicate r2.toNat 123 := ⟨_, rfl⟩
    have ec : repS (Str.ofString "}") r1 = tS clo := by rw [hclo, ← rep_one]; rfl
    have eo : repS (Str.ofString "{") r2 = tS ope := by rw [hope, ← rep_one]; rfl
    have lcm : com.length ≤ 3 := by rcases hcom with rfl | rfl | rfl <;> decide
    have lcl : clo.length ≤ 2 := by rw [hclo, List.length_replicate]; omega
    have lop : ope.length ≤ 2 := by rw [hope, List.length_replicate]; omega
    rw [ec, eo]
    have ex : ∀ z : List Nat, tS com ++ tS clo ++ tS z ++ tS ope = tS (K34.ctx (com ++ clo) ope z) := fun z => by
      rw [tS_append, tS_append, tS_append]
      unfold K34.ctx
      simp
    have l2 : (tS com ++ tS clo).length ≤ 5 := by rw [len_app, tS_length, tS_length]; omega
    have l3 : ∀ z : List Nat, z.length ≤ 1227 → (tS com ++ tS clo ++ tS z).length ≤ 1232 := fun z hz => by rw [len_app, tS_length]; omega
    refine ⟨_, rfl, _, rfl, _, _, rfl, rfl, sizeOf (by rw [tS_length, tS_length]; omega), _, rfl, _, _, rfl, rfl, sizeOf (by rw [tS_length]; omega), _, rfl, _, _, rfl, rfl, sizeOf (by rw [tS_length]; have := l3 t m1; omega), ?_⟩
    refine ⟨_, rfl, _, rfl, ⟨_, .of p4⟩, fun D hD => ?_⟩
    have hDw := W4.ne hD
    refine lc_same (walk_map (f := tv) (xs := s)) hD (fun j H' acc => acc = ((s.take j).map fun z => tv (K34.ctx (com ++ clo) ope z))) rfl (fun H' s8 => s8.seq (.of p4)) (fun j x H8 H9 acc hj s8 hacc ea hy => ?_) (fun H8 acc s8 hacc ea => ?_)
    · subst ea
      obtain ⟨rfl, z, hz, rfl⟩ := hy
      have lz := G_len hG _ (List.mem_of_getElem? hz)
      refine ⟨rfl, ?_⟩
      refine ⟨_, rfl, _, rfl, _, _, rfl, rfl, sizeOf (by rw [tS_length, tS_length]; omega), _, rfl, _, _, rfl, rfl, sizeOf (by rw [tS_length]; omega), _, rfl, _, _, rfl, rfl, sizeOf (by rw [tS_length]; have := l3 z (by omega); omega), ?_⟩
      refine ⟨_, hacc, sizeOfL (by rw [List.length_map, List.length_take]; omega), s8.own hD, _, upd_same, ?_⟩
      rw [takeNext hz, List.map_append]
      refine congrArg (fun z => _ ++ [z]) ?_
      show V.str (tS com ++ tS clo ++ tS z ++ tS ope) = _
      rw [ex]
      rfl
    rw [ea, List.take_length] at hacc
    clear ea acc
    refine ⟨_, _, rfl, ?_⟩
    have O8 : Off w0 g H H8 := (O1.trans O14).trans s8.off
    have W8 : WellAt H8 w0 g (n + 1612) := (W4.same s8).mono (by omega)
    have acc8 : H8 D = some (.lst ((s.map (K34.ctx (com ++ clo) ope)).map tv)) := by rw [hacc, List.map_map]; rfl
    clear hacc
    have et : V.str (tS com ++ tS clo ++ tS t ++ tS ope) = tv (K34.ctx (com ++ clo) ope t) := by rw [ex]; rfl
    have hc3 : ∀ c ∈ com, c ≠ 123 := by rcases hcom with rfl | rfl | rfl <;> decide
    have AR : K34.Around (com ++ clo) ope := ⟨K34.pre_of (fun c hc => by
      rcases List.mem_append.mp hc with h | h
      · exact hc3 c h
      · rw [hclo] at h
        rw [(List.mem_replicate.mp h).2]
        decide), fun k => by rw [hope]; exact K34.suf_open _ _ _⟩
    obtain ⟨fu, hfu⟩ := K34.brac_row AR hG (by
      unfold K34.ctx K34.LT
      rw [List.length_append, List.length_append, List.length_append]
      omega)
    have hb : s.length ≤ 200 ∨ ¬ s.length ≤ 200 := Nat.lt_or_ge _ _ |>.imp (fun h => Nat.le_of_lt_succ h) (fun h => by omega)
    rcases hb with hs | hs
    · rw [if_pos hs] at hfu
      refine ⟨fun x H' => ∃ qd, x = .ref qd ∧ H8 qd = none ∧ H' = upd H8 qd (.tup [.str "told", .ref D]), ?_, fun x H' ⟨qd, hx, hqd, hH'⟩ => ?_⟩
      · refine ⟨_, rfl, _, _, rfl, .inl (.of acc8), _, _, rfl, rfl, _, rfl, ?_⟩
        refine ite2 (fun _ => ?_) (fun h => absurd (by simp; omega) h)
        exact ⟨_, rfl, sizeOf (by simp), fun qd hqd => ⟨qd, rfl, hqd, rfl⟩⟩
      subst hx hH'
      have dD8 : qd ≠ D := ne_of_none' hqd acc8
      refine ⟨_, rfl, K34.ctx (com ++ clo) ope t, fu, _, congrArg (fun z => [z]) et, hfu, fun l e H9 q9 p9 S9 z1 z2 z3 z4 => ?_, fun e => by cases e⟩
      cases e
      have nds : nodes (.list ((s.map (K34.ctx (com ++ clo) ope)).map fun x => .str (tS x))) ≤ 300 := by
        simp only [nodes, nodes_strs, List.length_map]
        omega
      have dps : (PyData.list ((s.map (K34.ctx (com ++ clo) ope)).map fun x => .str (tS x))).depth = 1 := by
        simp only [PyData.depth, depth_strs]
      refine ⟨_, rfl, _, _, .tuple [.str "told", .list ((s.map (K34.ctx (com ++ clo) ope)).map fun x => .str (tS x))], rfl, .tup (.of z3) (.cons (.str _) (.cons (.lst (.of z4) (dp_strs _)) .nil)),
        .tup (.of (S9 _ _ upd_same)) (.cons (.str _) (.cons (.lst (.of (S9 _ _ ((upd_ne (Ne.symm dD8)).trans acc8))) (dp_strs _)) .nil)), ?_, ?_, fun H10 S10 => ⟨_, rfl, ?_⟩⟩
      · simp only [PyData.depth, PyData.depthAll, depth_strs]
        decide
      · simp only [nodes, nodesAll] at nds ⊢
        omega
      refine iteF ?_
      have O10 : Off w0 g H H10 := ((O8.new hqd).trans S9.off).trans S10.off
      have W10 : WellAt H10 w0 g (n + 1612) := ((W8.new hqd).same S9).same S10
      refine ⟨_, rfl, w0, g, _, rfl, W10, by omega, fun H11 ta O11 W11 ga la => ⟨sizeOf (by simp), fun q3 hq3 => ⟨_, rfl, w0, g, _, _, rfl, W11.new hq3, by omega, by decide, by decide, fun H12 r4 O12 W12 e0 e1 => ?_⟩⟩⟩
      obtain ⟨bef, hbef, ebef⟩ : ∃ bef : List Nat, (bef = [] ∨ bef = [44]) ∧ atI [V.str (Str.ofString ""), V.str (Str.ofString ",")] r4 = some (tv bef) := by
        have : r4 = 0 ∨ r4 = 1 := by omega
        rcases this with rfl | rfl
        · exact ⟨[], .inl rfl, rfl⟩
        · exact ⟨[44], .inr rfl, rfl⟩
      have d3 := W11.ne hq3
      have lbf : bef.length ≤ 1 := by rcases hbef with rfl | rfl <;> decide
      have sl : ∀ z : List Nat, (tS z).length = z.length := tS_length
      refine ⟨_, _, _, _, rfl, rfl, .of (O12 _ _ upd_same d3.1 d3.2), ebef, _, _, rfl, rfl, sizeOf (by rw [sl, sl]; omega), _, rfl, w0, g, _, rfl, W12, by omega, fun H13 tb O13 W13 gb lb => ⟨sizeOf (by simp), fun q5 hq5 => ⟨_, _, rfl, .of upd_same, rfl, _, _, rfl, _, _, rfl, rfl, ?_⟩⟩⟩
      have OO : Off w0 g (upd H8 qd (.tup [.str "told", .ref D])) (upd H13 q5 (.tup [.str (tS ta ++ tS bef), tv tb])) := (((((S9.trans S10).off.trans O11).new hq3).trans O12).trans O13).new hq5
      have dq := W8.ne hqd
      have eqd := OO _ _ upd_same dq.1 dq.2
      have eD := OO _ _ ((upd_ne (Ne.symm dD8)).trans acc8) hDw.1 hDw.2
      have O13' : Off w0 g H (upd H13 q5 (.tup [.str (tS ta ++ tS bef), tv tb])) := (O8.new hqd).trans OO
      have W13' : WellAt (upd H13 q5 (.tup [.str (tS ta ++ tS bef), tv tb])) w0 g (n + 2000) := (W13.mono (by omega)).new hq5
      generalize upd H13 q5 (.tup [.str (tS ta ++ tS bef), tv tb]) = H14 at OO eqd eD O13' W13' ⊢
      clear OO
      refine ⟨_, rfl, _, _, _, _, rfl, rfl, .of eqd, rfl, rfl, _, rfl, ?_⟩
      refine ite2 (fun _ => ?_) (fun h => absurd (by simp) h)
      refine ⟨_, rfl, rfl, K34.ctx (com ++ clo) ope t, fu, _, congrArg (fun z => [z]) et, hfu, fun H15 p15 S15 y1 y2 => ?_⟩
      refine ⟨_, rfl, (.inl ⟨rfl, _, .of (y2)⟩), _, _, _, rfl, rfl, y2, sizeOfL (by rw [List.length_map, List.length_map]; omega), ?_⟩
      have eD15 : upd H15 p15 (.lst ((s.map (K34.ctx (com ++ clo) ope)).map tv ++ [.str "changed"])) D = some (.lst ((s.map (K34.ctx (com ++ clo) ope)).map tv)) := by
        rw [upd_ne (ne_of_none eD y1)]; exact S15 _ _ eD
      have S16 : Same H14 (upd H15 p15 (.lst ((s.map (K34.ctx (com ++ clo) ope)).map tv ++ [.str "changed"]))) := S15.own y1
      generalize upd H15 p15 (.lst ((s.map (K34.ctx (com ++ clo) ope)).map tv ++ [.str "changed"])) = H16 at eD15 S16 ⊢
      have nds2 : nodes (.list ((s.map (K34.ctx (com ++ clo) ope)).map fun x => .str (tS x))) ≤ 1000000 := by omega
      refine ⟨fun b H' => b = false ∧ Same H16 H', ?_, fun b H17 ⟨hbf, S17⟩ => ?_⟩
      · refine ⟨_, rfl, rfl, _, rfl, ?_⟩
        refine ite2 (fun t1 => ?_) (fun _ => ⟨rfl, Same.refl _⟩)
        refine ⟨_, rfl, rfl, _, rfl, ?_⟩
        refine ite2 (fun t2 => ?_) (fun _ => ⟨rfl, Same.refl _⟩)
        refine ⟨_, rfl, rfl, _, rfl, ?_⟩
        refine ite2 (fun t3 => ?_) (fun _ => ⟨rfl, Same.refl _⟩)
        have c1 : ope = [] := tv_inj (b := []) (of_decide_eq_true t1)
        have c2 : clo = [] := tv_inj (b := []) (of_decide_eq_true t2)
        have c3 : com = [] := tv_inj (b := []) (of_decide_eq_true t3)
        have AR2 : K34.Around (ta ++ bef) tb := ⟨K34.pre_of (fun c hc => by
          rcases List.mem_append.mp hc with h | h
          · exact (sg_plain ga c h).1
          · rcases hbef with rfl | rfl
            · simp at h
            · simp at h; omega), fun k => K34.suf_plain (fun c hc => (sg_plain gb c hc).1) _⟩
        obtain ⟨fu2, hfu2⟩ := K34.brac_row AR2 hG (by
          unfold K34.ctx K34.LT
          rw [List.length_append, List.length_append, List.length_append]
          omega)
        rw [if_pos hs] at hfu2
        have ex0 : ∀ z : List Nat, K34.ctx (com ++ clo) ope z = z := fun z => by rw [c1, c2, c3]; unfold K34.ctx; simp
        have ex2 : ∀ z : List Nat, tS ta ++ tS bef ++ tS z ++ tS tb = tS (K34.ctx (ta ++ bef) tb z) := fun z => by
          rw [tS_append, tS_append, tS_append]
          unfold K34.ctx
          simp
        have et2 : V.str (tS ta ++ tS bef ++ (tS com ++ tS clo ++ tS t ++ tS ope) ++ tS tb) = tv (K34.ctx (ta ++ bef) tb t) := by rw [ex, ex0, ex2]; rfl
        have lab : (tS ta ++ tS bef).length ≤ 4 := by rw [len_app, sl, sl]; omega
        have lbe : (tS tb).length ≤ 3 := by rw [sl]; exact lb
        have ltt : (tS com ++ tS clo ++ tS t ++ tS ope).length ≤ 1300 := by rw [ex, ex0, sl]; omega
        refine ⟨_, rfl, _, rfl, _, _, rfl, rfl, sizeOf (by omega), _, rfl, _, _, rfl, rfl, sizeOf (by rw [len_app]; omega), K34.ctx (ta ++ bef) tb t, fu2, _, congrArg (fun z => [z]) et2, hfu2, fun H18 p18 S18 u1 u2 => ?_⟩
        have eD18 := S18 _ _ eD15
        refine ⟨_, rfl, _, rfl, ⟨_, .of eD18⟩, fun D2 hD2 => ?_⟩
        refine lc_same (walk_map (f := tv) (xs := s.map (K34.ctx (com ++ clo) ope))) hD2 (fun j H' acc => acc = ((s.take j).map fun z => tv (K34.ctx (ta ++ bef) tb z))) rfl (fun H' s8 => s8.seq (.of eD18)) (fun j x H20 H21 acc hj s8 hacc ea hy => ?_) (fun H20 acc s8 hacc ea => ?_)
        · subst ea
          obtain ⟨rfl, z, hz, rfl⟩ := hy
          have hz2 : s[j]? = some z := by
            rw [List.getElem?_map] at hz
            obtain ⟨z2, h1, h2⟩ := Option.map_eq_some_iff.mp hz
            rw [h1, ← h2, ex0]
          have lz := G_len hG _ (List.mem_of_getElem? hz2)
          have lz2 : (tS z).length ≤ 1300 := by rw [sl]; omega
          refine ⟨rfl, ?_⟩
          refine ⟨_, rfl, _, rfl, _, _, rfl, rfl, sizeOf (by omega), _, rfl, _, _, rfl, rfl, sizeOf (by rw [len_app]; omega), ?_⟩
          refine ⟨_, hacc, sizeOfL (by rw [List.length_map, List.length_take]; omega), s8.own hD2, _, upd_same, ?_⟩
          rw [takeNext hz2, List.map_append]
          refine congrArg (fun z => _ ++ [z]) ?_
          show V.str (tS ta ++ tS bef ++ tS z ++ tS tb) = _
          rw [ex2]
          rfl
        · rw [ea, List.length_map, List.take_length] at hacc
          have hacc2 : H20 D2 = some (.lst ((s.map (K34.ctx (ta ++ bef) tb)).map tv)) := by rw [hacc, List.map_map]; rfl
          refine ⟨_, _, .list ((s.map (K34.ctx (ta ++ bef) tb)).map fun x => .str (tS x)), rfl, .lst (.of (s8 _ _ u2)) (dp_strs _), .lst (.of hacc2) (dp_strs _), ?_, ?_, fun H22 S22 => ⟨_, rfl, rfl, ?_⟩⟩
          · simp only [PyData.depth, depth_strs]
            decide
          · simp only [nodes, nodes_strs, List.length_map]
            omega
          · exact (S18.trans s8).trans S22
      · subst hbf
        refine iteF ?_
        refine ⟨_, rfl, K34.ctx (com ++ clo) ope t, fu, _, congrArg (fun z => [z]) et, hfu, fun H18 p18 S18 u1 u2 => ?_⟩
        refine ⟨_, rfl, _, _, .list ((s.map (K34.ctx (com ++ clo) ope)).map fun x => .str (tS x)), rfl, .lst (.of u2) (dp_strs _), .lst (.of (S18 _ _ (S17 _ _ eD15))) (dp_strs _), by rw [dps]; decide, nds2, fun H19 S19 => ?_⟩
        have SS := ((S16.trans S17).trans S18).trans S19
        exact k _ (O13'.trans SS.off) (W13'.same SS)
    · rw [if_neg hs] at hfu
      refine ⟨fun x H' => ∃ qd, x = .ref qd ∧ H8 qd = none ∧ H' = upd H8 qd (.tup [.str "large", .int 200]), ?_, fun x H' ⟨qd, hx, hqd, hH'⟩ => ?_⟩
      · refine ⟨_, rfl, _, _, rfl, .inl (.of acc8), _, _, rfl, rfl, _, rfl, ?_⟩
        refine ite2 (fun h => absurd h (by simp; omega)) (fun _ => ?_)
        exact ⟨sizeOf (by simp), fun qd hqd => ⟨qd, rfl, hqd, rfl⟩⟩
      subst hx hH'
      have dD8 : qd ≠ D := ne_of_none' hqd acc8
      refine ⟨_, rfl, K34.ctx (com ++ clo) ope t, fu, _, congrArg (fun z => [z]) et, hfu, (fun l e => by cases e), fun _ H9 q9 S9 z1 z3 => ?_⟩
      refine ⟨_, rfl, _, _, .tuple [.str "large", .int 200], rfl, .tup (.of z3) (.cons (.str _) (.cons (.int _) .nil)), .tup (.of (S9 _ _ upd_same)) (.cons (.str _) (.cons (.int _) .nil)), by decide, by simp [nodes, nodesAll], fun H10 S10 => ⟨_, rfl, ?_⟩⟩
      refine iteF ?_
      have O10 : Off w0 g H H10 := ((O8.new hqd).trans S9.off).trans S10.off
      have W10 : WellAt H10 w0 g (n + 1612) := ((W8.new hqd).same S9).same S10
      refine ⟨_, rfl, w0, g, _, rfl, W10, by omega, fun H11 ta O11 W11 ga la => ⟨sizeOf (by simp), fun q3 hq3 => ⟨_, rfl, w0, g, _, _, rfl, W11.new hq3, by omega, by decide, by decide, fun H12 r4 O12 W12 e0 e1 => ?_⟩⟩⟩
      obtain ⟨bef, hbef, ebef⟩ : ∃ bef : List Nat, (bef = [] ∨ bef = [44]) ∧ atI [V.str (Str.ofString ""), V.str (Str.ofString ",")] r4 = some (tv bef) := by
        have : r4 = 0 ∨ r4 = 1 := by omega
        rcases this with rfl | rfl
        · exact ⟨[], .inl rfl, rfl⟩
        · exact ⟨[44], .inr rfl, rfl⟩
      have d3 := W11.ne hq3
      have lbf : bef.length ≤ 1 := by rcases hbef with rfl | rfl <;> decide
      have sl : ∀ z : List Nat, (tS z).length = z.length := tS_length
      refine ⟨_, _, _, _, rfl, rfl, .of (O12 _ _ upd_same d3.1 d3.2), ebef, _, _, rfl, rfl, sizeOf (by rw [sl, sl]; omega), _, rfl, w0, g, _, rfl, W12, by omega, fun H13 tb O13 W13 gb lb => ⟨sizeOf (by simp), fun q5 hq5 => ⟨_, _, rfl, .of upd_same, rfl, _, _, rfl, _, _, rfl, rfl, ?_⟩⟩⟩
      have OO : Off w0 g (upd H8 qd (.tup [.str "large", .int 200])) (upd H13 q5 (.tup [.str (tS ta ++ tS bef), tv tb])) := (((((S9.trans S10).off.trans O11).new hq3).trans O12).trans O13).new hq5
      have dq := W8.ne hqd
      have eqd := OO _ _ upd_same dq.1 dq.2
      have eD := OO _ _ ((upd_ne (Ne.symm dD8)).trans acc8) hDw.1 hDw.2
      have O13' : Off w0 g H (upd H13 q5 (.tup [.str (tS ta ++ tS bef), tv tb])) := (O8.new hqd).trans OO
      have W13' : WellAt (upd H13 q5 (.tup [.str (tS ta ++ tS bef), tv tb])) w0 g (n + 2000) := (W13.mono (by omega)).new hq5
      generalize upd H13 q5 (.tup [.str (tS ta ++ tS bef), tv tb]) = H14 at OO eqd eD O13' W13' ⊢
      clear OO
      refine ⟨_, rfl, _, _, _, _, rfl, rfl, .of eqd, rfl, rfl, _, rfl, ?_⟩
      refine ite2 (fun h => absurd h (by decide)) (fun _ => ?_)
      exact k _ O13' W13'
end
end B34

set_option autoImplicit true
set_option Elab.async false
set_option linter.all false
set_option maxRecDepth 100000
set_option maxHeartbeats 8000000
namespace B34
open PySem L2
/-! ### plain: products of groups of numbers -/
@[irreducible] def dec (n : Nat) : List Nat := TL.tl (toString (n : Int) : Str)
def decOk : Bool := (List.range 202).all (fun n => (dec n).all (fun c => decide (c ≠ 123 ∧ c ≠ 44 ∧ c ≠ 125 ∧ c ≠ 120)) && decide ((dec n).length ≤ 3)) && decide (((List.range 202).map dec).Nodup) && decide (dec 0 = [48])
theorem dec_ok : decOk = true := by decide +kernel
theorem dec_facts : (∀ n, n < 202 → (∀ c ∈ dec n, c ≠ 123 ∧ c ≠ 44 ∧ c ≠ 125 ∧ c ≠ 120) ∧ (dec n).length ≤ 3) ∧ ((List.range 202).map dec).Nodup ∧ dec 0 = [48] := by
  have h := dec_ok
  unfold decOk at h
  rw [Bool.and_eq_true, Bool.and_eq_true] at h
  obtain ⟨⟨h1, h2⟩, h3⟩ := h
  refine ⟨fun n hn => ?_, of_decide_eq_true h2, of_decide_eq_true h3⟩
  have := List.all_eq_true.mp h1 n (List.mem_range.mpr hn)
  rw [Bool.and_eq_true] at this
  exact ⟨fun c hc => of_decide_eq_true (List.all_eq_true.mp this.1 c hc), of_decide_eq_true this.2⟩
def decs (z : Nat) : List (List Nat) := (List.range z).map dec
def seg (z : Nat) : List Nat := 123 :: (K34.joinC (decs z) ++ [125]) ++ [120]
def std (z : Nat) : List (List Nat) := (decs z).map fun d => d ++ [120]
def txt (zs : List Nat) : List Nat := (zs.map seg).flatten
def stds : List Nat → List (List Nat)
  | [] => [[]]
  | z :: zs => K34.prod (std z) (stds zs)
theorem all2_plain : ∀ qs : List (List Nat), (∀ q ∈ qs, K34.plainT q) → K34.All2 (K34.G false) qs (qs.map fun q => [q])
  | [], _ => .nil
  | q :: qs, h => .cons (.plain (h q List.mem_cons_self)) (all2_plain qs fun q hq => h q (List.mem_cons_of_mem _ hq))
theorem flat_one {α : Type} : ∀ qs : List α, (qs.map fun q => [q]).flatten = qs
  | [] => rfl
  | q :: qs => by rw [List.map_cons, List.flatten_cons, flat_one qs]; rfl
theorem decs_plain {z : Nat} (h : z < 202) : ∀ q ∈ decs z, K34.plainT q := fun q hq c hc => by
  obtain ⟨n, hn, rfl⟩ := List.mem_map.mp hq
  have := (dec_facts.1 n (by have := List.mem_range.mp hn; omega)).1 c hc
  exact ⟨this.1, this.2.1, this.2.2.1⟩
theorem decs_G {z : Nat} (h : z < 202) (h2 : 2 ≤ z) : K34.G false (123 :: (K34.joinC (decs z) ++ [125])) (decs z) := by
  have := group_G (all2_plain (decs z) (decs_plain h)) (by unfold decs; simp; exact h2)
  rwa [flat_one] at this
theorem seg_G {z : Nat} (h : z < 202) (h2 : 2 ≤ z) : K34.G false (seg z) (std z) := by
  have p : K34.G false [120] [[120]] := .plain (by intro c hc; simp at hc; subst hc; decide)
  have := (decs_G h h2).apps p
  have e : K34.prod (decs z) [[120]] = std z := by
    unfold K34.prod std
    induction decs z with
    | nil => rfl
    | cons a l ih => simp at ih ⊢; exact ih
  rw [e] at this
  exact this
theorem txt_G : ∀ zs : List Nat, (∀ z ∈ zs, 2 ≤ z ∧ z < 202) → K34.G false (txt zs) (stds zs)
  | [], _ => .nil
  | z :: zs, h => (seg_G (h z List.mem_cons_self).2 (h z List.mem_cons_self).1).apps (txt_G zs fun z hz => h z (List.mem_cons_of_mem _ hz))
theorem std_len (z : Nat) : (std z).length = z := by unfold std decs; simp
theorem stds_len : ∀ zs : List Nat, (stds zs).length = zs.prod
  | [] => rfl
  | z :: zs => by
    show (K34.prod (std z) (stds zs)).length = _
    rw [K34.prod_length, std_len, stds_len zs, List.prod_cons]
theorem cut_x : ∀ {x y b b' : List Nat}, (∀ c ∈ x, c ≠ 120) → (∀ c ∈ y, c ≠ 120) → x ++ 120 :: b = y ++ 120 :: b' → x = y ∧ b = b'
  | [], [], _, _, _, _, e => ⟨rfl, by simpa using e⟩
  | [], d :: y, _, _, _, hy, e => by
    have : (120 : Nat) = d := by simp at e; exact e.1
    exact absurd this.symm (hy d List.mem_cons_self)
  | d :: x, [], _, _, hx, _, e => by
    have : d = 120 := by simp at e; exact e.1
    exact absurd this (hx d List.mem_cons_self)
  | c :: x, d :: y, b, b', hx, hy, e => by
    simp only [List.cons_append, List.cons.injEq] at e
    obtain ⟨e1, e2⟩ := cut_x (fun c hc => hx c (List.mem_cons_of_mem _ hc)) (fun c hc => hy c (List.mem_cons_of_mem _ hc)) e.2
    exact ⟨by rw [e.1, e1], e2⟩
theorem prod_nodup {B : List (List Nat)} (hB : B.Nodup) : ∀ A : List (List Nat), A.Nodup → (∀ a ∈ A, ∀ a' ∈ A, ∀ b b', a ++ b = a' ++ b' → a = a') → (K34.prod A B).Nodup
  | [], _, _ => List.nodup_nil
  | a :: A, hA, h => by
    rw [K34.prod_cons]
    have hA' := List.nodup_cons.mp hA
    rw [List.nodup_append]
    refine ⟨?_, prod_nodup hB A hA'.2 fun x hx y hy => h x (List.mem_cons_of_mem _ hx) y (List.mem_cons_of_mem _ hy), ?_⟩
    · refine List.Pairwise.map _ ?_ hB
      intro x y ne e
      exact ne (List.append_cancel_left e)
    · intro x hx y hy e
      obtain ⟨b, _, rfl⟩ := List.mem_map.mp hx
      obtain ⟨a', ha', b', _, rfl⟩ := prod_mem hy
      have := h a List.mem_cons_self a' (List.mem_cons_of_mem _ ha') b b' e
      exact hA'.1 (this ▸ ha')
theorem decs_nodup {z : Nat} (h : z < 202) : (decs z).Nodup := by
  have hn := dec_facts.2.1
  unfold decs
  have e : List.range 202 = List.range z ++ (List.range (202 - z)).map (z + ·) := by
    rw [← List.range_add]
    congr 1
    omega
  rw [e, List.map_append] at hn
  exact (List.nodup_append.mp hn).1
theorem stds_nodup : ∀ zs : List Nat, (∀ z ∈ zs, 2 ≤ z ∧ z < 202) → (stds zs).Nodup
  | [], _ => by simp [stds]
  | z :: zs, h => by
    have hz := (h z List.mem_cons_self).2
    have nox : ∀ d ∈ decs z, ∀ c ∈ d, c ≠ 120 := fun d hd c hc => by
      obtain ⟨n, hn, rfl⟩ := List.mem_map.mp hd
      exact ((dec_facts.1 n (by have := List.mem_range.mp hn; omega)).1 c hc).2.2.2
    refine prod_nodup (stds_nodup zs fun z hz => h z (List.mem_cons_of_mem _ hz)) (std z) ?_ ?_
    · refine List.Pairwise.map _ ?_ (decs_nodup hz)
      intro x y ne e
      exact ne (List.append_cancel_right e)
    · intro a ha a' ha' b b' e
      obtain ⟨d, hd, rfl⟩ := List.mem_map.mp ha
      obtain ⟨d', hd', rfl⟩ := List.mem_map.mp ha'
      rw [List.append_assoc, List.append_assoc] at e
      rw [(cut_x (nox d hd) (nox d' hd') e).1]
theorem stds_head : ∀ zs : List Nat, (∀ z ∈ zs, 2 ≤ z ∧ z < 202) → (stds zs)[0]? = some (List.replicate zs.length [48, 120]).flatten
  | [], _ => rfl
  | z :: zs, h => by
    have ih := stds_head zs fun z hz => h z (List.mem_cons_of_mem _ hz)
    have hz := (h z List.mem_cons_self).1
    obtain ⟨y, rfl⟩ : ∃ y, z = y + 1 := ⟨z - 1, by omega⟩
    show (K34.prod (std (y + 1)) (stds zs))[0]? = _
    have e : std (y + 1) = [48, 120] :: ((List.range y).map (dec ∘ Nat.succ)).map fun d => d ++ [120] := by
      unfold std decs
      rw [List.range_succ_eq_map, List.map_cons, List.map_cons, dec_facts.2.2, List.map_map, List.map_map, List.map_map]
      rfl
    rw [e, K34.prod_cons]
    cases hs : stds zs with
    | nil => rw [hs] at ih; cases ih
    | cons a l =>
      rw [hs] at ih
      simp at ih
      rw [List.map_cons, List.cons_append, ih, List.length_cons, List.replicate_succ, List.flatten_cons]
      rfl
theorem seg_len {z : Nat} (h : z < 202) : (seg z).length ≤ 4 * z + 3 := by
  have h1 := joinC_le (decs z)
  have h2 : (decs z).flatten.length ≤ 3 * z := by
    unfold decs
    rw [List.length_flatten, List.map_map]
    have : ∀ y, y ≤ z → ((List.range y).map (List.length ∘ dec)).sum ≤ 3 * y := by
      intro y
      induction y with
      | zero => intro _; simp
      | succ y ih =>
        intro hy
        have := ih (by omega)
        have := (dec_facts.1 y (by omega)).2
        rw [List.range_succ, List.map_append, List.sum_append]
        simp
        omega
    exact this z (Nat.le_refl _)
  have h3 : (decs z).length = z := by unfold decs; simp
  unfold seg
  simp
  omega
theorem txt_len : ∀ zs : List Nat, (∀ z ∈ zs, 2 ≤ z ∧ z < 202) → (txt zs).length ≤ 4 * zs.sum + 3 * zs.length
  | [], _ => by simp [txt]
  | z :: zs, h => by
    have := txt_len zs fun z hz => h z (List.mem_cons_of_mem _ hz)
    have := seg_len (h z List.mem_cons_self).2
    have e : txt (z :: zs) = seg z ++ txt zs := by unfold txt; simp
    rw [e]
    simp
    omega
/-! ### the law's own sizes -/
def SZ : List (List Nat) := [[2, 2, 2, 5, 5], [4, 50], [200], [8, 25], [3, 67], [201], [2, 2, 2, 2, 13], [199], List.replicate 8 2, List.replicate 30 2]
theorem SZ_ok : ∀ zs ∈ SZ, (∀ z ∈ zs, 2 ≤ z ∧ z < 202) ∧ zs.length ≤ 30 ∧ zs.sum ≤ 300 := by decide
theorem perm_sum {l m : List Nat} (h : l.Perm m) : l.sum = m.sum := by
  induction h with
  | nil => rfl
  | cons x _ ih => simp [ih]
  | swap x y l => simp; omega
  | trans _ _ ih1 ih2 => rw [ih1, ih2]
theorem perm_map {α β : Type} {f : α → β} {ys xs : List β} (h : ys.Perm xs) : ∀ zs : List α, xs = zs.map f → ∃ zs' : List α, ys = zs'.map f ∧ zs'.Perm zs := by
  induction h with
  | nil =>
    intro zs e
    have : zs = [] := by
      cases zs with
      | nil => rfl
      | cons a l => simp at e
    subst this
    exact ⟨[], rfl, .refl _⟩
  | cons x _ ih =>
    intro zs e
    cases zs with
    | nil => simp at e
    | cons z zs =>
      simp only [List.map_cons, List.cons.injEq] at e
      obtain ⟨zs', e1, p1⟩ := ih zs e.2
      exact ⟨z :: zs', by rw [List.map_cons, e.1, e1], p1.cons z⟩
  | swap x y l =>
    intro zs e
    match zs, e with
    | [], e => simp at e
    | [_], e => simp at e
    | z1 :: z2 :: zs, e =>
      simp only [List.map_cons, List.cons.injEq] at e
      exact ⟨z2 :: z1 :: zs, by rw [List.map_cons, List.map_cons, e.1, e.2.1, e.2.2], .swap _ _ _⟩
  | trans _ _ ih1 ih2 =>
    intro zs e
    obtain ⟨zs1, e1, p1⟩ := ih2 zs e
    obtain ⟨zs2, e2, p2⟩ := ih1 zs1 e1
    exact ⟨zs2, e2, p2.trans p1⟩
theorem txt_next {zs : List Nat} {j z : Nat} (h : zs[j]? = some z) : txt (zs.take (j + 1)) = txt (zs.take j) ++ seg z := by
  rw [takeNext h]
  unfold txt
  simp
theorem prod_next {zs : List Nat} {j z : Nat} (h : zs[j]? = some z) : (zs.take (j + 1)).prod = (zs.take j).prod * z := by
  rw [takeNext h, List.prod_append]
  simp
theorem log_ok {i : Nat} (h : i < 2 ^ 20) : ((0 : Int) + (i : Nat)).natAbs.log2 < 1920 := by
  rw [Int.zero_add, Int.natAbs_natCast]
  by_cases h0 : i = 0
  · subst h0; decide
  · have := (Nat.log2_lt h0).mpr h
    omega
theorem ctx_nil (t : List Nat) : K34.ctx [] [] t = t := by unfold K34.ctx; simp
theorem around_nil : K34.Around [] [] := ⟨fun k r => by simp, fun k => rfl⟩
@[irreducible] def I40 : List Nat := 123 :: (K34.joinC (decs 40) ++ [125])
@[irreducible] def J5 : List Nat := K34.joinC (List.replicate 5 I40)
def ROWS : List (List Nat × Nat) := [(123 :: (J5 ++ [125]), 200), (123 :: (J5 ++ [44, 122, 125]), 201), (123 :: 123 :: (I40 ++ [125, 125] ++ [123, 97, 44, 98, 44, 99, 44, 100, 44, 101, 125]), 200)]
theorem I40_len : I40.length ≤ 170 := by
  have := seg_len (z := 40) (by decide)
  unfold seg at this
  unfold I40
  simp at this ⊢
  omega
theorem J5_len : J5.length ≤ 1000 := by
  have h := joinC_le (List.replicate 5 I40)
  have := I40_len
  unfold J5
  rw [List.length_replicate] at h
  have e : (List.replicate 5 I40).flatten.length = 5 * I40.length := by simp; omega
  omega
theorem all2_rep {q : List Nat} {s : List (List Nat)} (h : K34.G false q s) : ∀ n, K34.All2 (K34.G false) (List.replicate n q) (List.replicate n s)
  | 0 => .nil
  | n + 1 => .cons h (all2_rep h n)
theorem ROWS_ok : ∀ r ∈ ROWS, ∃ s, K34.G false r.1 s ∧ s.length = r.2 ∧ r.1.length ≤ 2000 ∧ r.2 ≤ 201 := by
  have gI : K34.G false I40 (decs 40) := by unfold I40; exact decs_G (by decide) (by decide)
  have l1 := I40_len
  have l2 := J5_len
  have ld : (decs 40).length = 40 := by unfold decs; simp
  intro r hr
  simp only [ROWS, List.mem_cons, List.not_mem_nil, or_false] at hr
  rcases hr with rfl | rfl | rfl
  · have eJ : K34.joinC (List.replicate 5 I40) = J5 := by unfold J5; rfl
    have g := group_G (all2_rep gI 5) (by simp)
    rw [eJ] at g
    refine ⟨_, g, ?_, ?_, by decide⟩
    · simp [ld]
    · simp; omega
  · have g := group_G ((all2_rep gI 5).app (.cons (.plain (t := [122]) (by intro c hc; simp at hc; subst hc; decide)) .nil)) (by simp)
    have e : K34.joinC (List.replicate 5 I40 ++ [[122]]) = J5 ++ [44, 122] := by
      unfold J5
      simp [List.replicate, K34.joinC]
    rw [e] at g
    refine ⟨_, (by simpa using g), ?_, ?_, by decide⟩
    · simp [ld]
    · simp; omega
  · have g1 := pair_G (pair_G gI)
    have g2 := group_G (all2_plain [[97], [98], [99], [100], [101]] (by intro q hq c hc; simp at hq; rcases hq with rfl | rfl | rfl | rfl | rfl <;> (simp at hc; subst hc; decide))) (by decide)
    have g := g1.apps g2
    refine ⟨_, (by simpa [K34.joinC] using g), ?_, ?_, by decide⟩
    · rw [K34.prod_length]
      simp [ld]
    · simp; omega
end B34

set_option autoImplicit true
set_option Elab.async false
set_option linter.all false
set_option maxRecDepth 100000
set_option maxHeartbeats 8000000
namespace B34
open PySem L2
def spProd : Sp := fun vs H Q _ => ∃ (w g : Addr) (n : Int), vs = [.ref w] ∧ WellAt H w g n ∧ n + 300 ≤ 10 ^ 9 ∧ ∀ H', Off w g H H' → Q (.bl true) H'
theorem keepN {H : Hp} {p q : Addr} {o u : HO} (h : H p = some o) (n : H q = none) : upd H q u p = some o := (upd_ne (ne_of_none h n)).trans h
section
variable {P : Program} {w : World} {K : PySem.W.Frag} {mg : Str → Option Value} {base : Heap} {a : Nat → Addr} {fd : Nat → FuncData} {C fI : Addr} {file : Str}
theorem ok__law_products_right (T : Txt K mg a fd) (X_TooLarge : Exc_TooLarge P K mg C fI file) : FnOk P w K mg base CX0 20 (a 14) (fd 14) ["well"] spProd := by
  have G__law_mixed := ok__law_mixed (P := P) (w := w) (base := base) T
  have G__law_told := ok__law_told (P := P) (w := w) (base := base) T X_TooLarge
  refine T.F__law_products_right.ok sc__law_products_right (fun vs H Q E h => ?_) (fun cdv A outer s H vs Q E hr h => ?_)
  · obtain ⟨_, _, _, rfl, _⟩ := h; rfl
  · obtain ⟨w0, g, n, rfl, W, hn, k⟩ := h
    refine ⟨_, pss_cons (ps_for PassesOwn.never rfl (pi_list (pe_lst (pa_cons (pe_lst (pa_cons pe_int (pa_cons pe_int (pa_cons pe_int (pa_cons pe_int (pa_cons pe_int pa_nil)))))) (pa_cons (pe_lst (pa_cons pe_int (pa_cons pe_int pa_nil))) (pa_cons (pe_lst (pa_cons pe_int pa_nil)) (pa_cons (pe_lst (pa_cons pe_int (pa_cons pe_int pa_nil))) (pa_cons (pe_lst (pa_cons pe_int (pa_cons pe_int pa_nil))) (pa_cons (pe_lst (pa_cons pe_int pa_nil)) (pa_cons (pe_lst (pa_cons pe_int (pa_cons pe_int (pa_cons pe_int (pa_cons pe_int (pa_cons pe_int pa_nil)))))) (pa_cons (pe_lst (pa_cons pe_int pa_nil)) (pa_cons (pe_op op_rep (pe_lst (pa_cons pe_int pa_nil)) pe_int) (pa_cons (pe_op op_rep (pe_lst (pa_cons pe_int pa_nil)) pe_int) pa_nil)))))))))))) (pg_name (i := 1) sc__law_products_right.nd rfl (Or.inl rfl)) (pss_cons (ps_par3 (i := 2) (j := 3) (l := 4) (by rfl) sc__law_products_right.nd rfl rfl rfl (by decide) (by decide) (by decide) rfl rfl rfl (pa_cons (pe_call G__law_mixed (hr.mono (by first | decide | omega)) rfl T.m__law_mixed T.F__law_mixed.kp T.b__law_mixed .nil pass0 (pa_cons (pv 0) (pa_cons (pv 1) pa_nil))) (pa_cons pe_int (pa_cons pe_str pa_nil))) (by rfl))
    (pss_cons (ps_for PassesOwn.never rfl (pi_list (pv 2)) (pg_name (i := 5) sc__law_products_right.nd rfl (Or.inl rfl)) (pss_cons (ps_set (i := 3) sc__law_products_right.nd rfl (Or.inl rfl) (pe_op op_mul (pv 3) (pv 5)))
    (pss_one (ps_set (i := 4) sc__law_products_right.nd rfl (Or.inl rfl) (pe_op op_add_str (pe_op op_add_str (pe_op op_add_str (pe_op op_add_str (pv 4) pe_str) (pe_join pe_str (pe_lc (own := [("part", 9)]) (g := gName 9) (tt := tYes) (by rfl) sc__law_products_right.nd (pi_range1 (by rfl) T.n_range (pa_cons (pv 5) pa_nil)) (blkOk_by (own := [("part", 9)]) (N := N__law_products_right) (sc := defScope s__law_products_right) (by decide +kernel)) (fun _ _ _ _ _ => pg_name (i := 9) sc__law_products_right.nd rfl (Or.inl rfl)) (fun _ _ _ _ _ => pts_nil) (fun _ _ _ _ _ => (pe_callTy call_str_int (by rfl) T.n_str (by decide +kernel) (pa_cons (pv 9) pa_nil)))))) pe_str) pe_str)))))
    (pss_cons (ps_set (i := 6) sc__law_products_right.nd rfl (Or.inl rfl) (pe_call G__law_told (hr.mono (by first | decide | omega)) rfl T.m__law_told T.F__law_told.kp T.b__law_told .nil pass0 (pa_cons (pv 4) pa_nil)))
    (pss_one (ps_if (pt_cmpR op_gt (pv 3) pe_int (nomark _)) (pss_one (ps_if (pt_cmpR (op_neD hr.units) (pv 6) (pe_tup (pa_cons pe_str (pa_cons pe_int pa_nil))) (nomark _)) (pss_one (ps_ret pe_bl)) pss_nil)) (pss_one (ps_if (pt_mono (PW.pt (pw_or (pt_cmpR op_ne (pe_ix (show IxR _ (rIxT K) from ix_tup) (pv 6) pe_int (fun _ _ => rfl)) pe_str (nomark _)) (pw_or (pt_cmpR op_ne (pe_callB call_len_seq (by rfl) T.n_len PySem.boot_len (pa_cons (pe_ix (show IxR _ (rIxT K) from ix_tup) (pv 6) pe_int (fun _ _ => rfl)) pa_nil)) (pv 3) (nomark _)) (pw_or (pt_cmpR op_ne (pe_lenSetS rfl rfl T.n_len rfl T.n_set (pe_ix (show IxR _ (rIxT K) from ix_tup) (pv 6) pe_int (fun _ _ => rfl))) (pv 3) (nomark _)) (pw_or1 (pt_cmpR op_ne (pe_ix (show IxR _ (rIxL K) from ix_list) (pe_ix (show IxR _ (rIxT K) from ix_tup) (pv 6) pe_int (fun _ _ => rfl)) pe_int (fun _ _ => rfl)) (pe_op op_mul_str pe_str (pe_callB call_len_seq (by rfl) T.n_len PySem.boot_len (pa_cons (pv 2) pa_nil))) (nomark _)))))))) (pss_one (ps_ret pe_bl)) pss_nil))))))))
    (pss_cons (ps_set (i := 7) sc__law_products_right.nd rfl (Or.inl rfl) (pe_op op_add_str (pe_op op_add_str pe_str (pe_join pe_str (pe_lc (own := [("part", 9)]) (g := gName 9) (tt := tYes) (by rfl) sc__law_products_right.nd (pi_range1 (by rfl) T.n_range (pa_cons pe_int pa_nil)) (blkOk_by (own := [("part", 9)]) (N := N__law_products_right) (sc := defScope s__law_products_right) (by decide +kernel)) (fun _ _ _ _ _ => pg_name (i := 9) sc__law_products_right.nd rfl (Or.inl rfl)) (fun _ _ _ _ _ => pts_nil) (fun _ _ _ _ _ => (pe_callTy call_str_int (by rfl) T.n_str (by decide +kernel) (pa_cons (pv 9) pa_nil)))))) pe_str))
    (pss_cons (ps_set (i := 8) sc__law_products_right.nd rfl (Or.inl rfl) (pe_lst (pa_cons (pe_tup (pa_cons (pe_op op_add_str (pe_op op_add_str pe_str (pe_join pe_str (pe_op op_rep (pe_lst (pa_cons (pv 7) pa_nil)) pe_int))) pe_str) (pa_cons pe_int pa_nil))) (pa_cons (pe_tup (pa_cons (pe_op op_add_str (pe_op op_add_str pe_str (pe_join pe_str (pe_op op_rep (pe_lst (pa_cons (pv 7) pa_nil)) pe_int))) pe_str) (pa_cons pe_int pa_nil))) (pa_cons (pe_tup (pa_cons (pe_op op_add_str (pe_op op_add_str (pe_op op_add_str pe_str (pv 7)) pe_str) pe_str) (pa_cons pe_int pa_nil))) pa_nil)))))
    (pss_cons (ps_for PassesOwn.never rfl (pi_list (pv 8)) (pg_tup rfl (pgs_cons (pg_name (i := 4) sc__law_products_right.nd rfl (Or.inl rfl)) (pgs_cons (pg_name (i := 3) sc__law_products_right.nd rfl (Or.inl rfl)) pgs_nil))) (pss_cons (ps_set (i := 6) sc__law_products_right.nd rfl (Or.inl rfl) (pe_call G__law_told (hr.mono (by first | decide | omega)) rfl T.m__law_told T.F__law_told.kp T.b__law_told .nil pass0 (pa_cons (pv 4) pa_nil)))
    (pss_one (ps_if (pt_mono (PW.pt (pw_or (pt_cmpR op_ne (pe_and (pe_cmpR op_eq (pe_ix (show IxR _ (rIxT K) from ix_tup) (pv 6) pe_int (fun _ _ => rfl)) pe_str (nomark _)) (pe_one (pe_cmpR op_eq (pe_callB call_len_seq (by rfl) T.n_len PySem.boot_len (pa_cons (pe_ix (show IxR _ (rIxT K) from ix_tup) (pv 6) pe_int (fun _ _ => rfl)) pa_nil)) (pv 3) (nomark _)))) (pe_cmpR op_le (pv 3) pe_int (nomark _)) (nomark _)) (pw_or1 (pt_mono (PW.pt (pw_and (pt_cmpR op_gt (pv 3) pe_int (nomark _)) (pw_and1 (pt_cmpR (op_neD hr.units) (pv 6) (pe_tup (pa_cons pe_str (pa_cons pe_int pa_nil))) (nomark _)))))))))) (pss_one (ps_ret pe_bl)) pss_nil))))
    (pss_one (ps_ret pe_bl))))), ?_⟩
    have n0 := W.pos
    refine ⟨(sizeOf (by simp)), fun p1 hp1 => ⟨(sizeOf (by simp)), fun p2 hp2 => ⟨(sizeOf (by simp)), fun p3 hp3 => ⟨(sizeOf (by simp)), fun p4 hp4 => ⟨(sizeOf (by simp)), fun p5 hp5 => ⟨(sizeOf (by simp)), fun p6 hp6 => ⟨(sizeOf (by simp)), fun p7 hp7 => ⟨(sizeOf (by simp)), fun p8 hp8 => ⟨(sizeOf (by simp)), fun p9 hp9 => ⟨_, _, _, rfl, rfl, upd_same, (by omega), (by omega), (sizeOf (by first | omega | (simp; done) | (simp; omega))), fun p10 hp10 => ⟨(sizeOf (by simp)), fun p11 hp11 => ⟨_, _, _, rfl, rfl, upd_same, (by omega), (by omega), (sizeOf (by first | omega | (simp; done) | (simp; omega))), fun p12 hp12 => ⟨(sizeOf (by simp)), fun p13 hp13 => ⟨_, rfl, ⟨_, .of upd_same⟩, ?_⟩⟩⟩⟩⟩⟩⟩⟩⟩⟩⟩⟩⟩⟩
    have hO : Off w0 g H (upd (upd (upd (upd (upd (upd (upd (upd (upd (upd (upd (upd (upd H p1 (.lst [.int 2, .int 2, .int 2, .int 5, .int 5])) p2 (.lst [.int 4, .int 50])) p3 (.lst [.int 200])) p4 (.lst [.int 8, .int 25])) p5 (.lst [.int 3, .int 67])) p6 (.lst [.int 201])) p7 (.lst [.int 2, .int 2, .int 2, .int 2, .int 13])) p8 (.lst [.int 199])) p9 (.lst [.int 2])) p10 (.lst (List.replicate (Int.toNat 8) [V.int 2]).flatten)) p11 (.lst [.int 2])) p12 (.lst (List.replicate (Int.toNat 30) [V.int 2]).flatten)) p13 (.lst [.ref p1, .ref p2, .ref p3, .ref p4, .ref p5, .ref p6, .ref p7, .ref p8, .ref p10, .ref p12])) := ((((((((((((((Same.refl H).upd_new hp1).upd_new hp2).upd_new hp3).upd_new hp4).upd_new hp5).upd_new hp6).upd_new hp7).upd_new hp8).upd_new hp9).upd_new hp10).upd_new hp11).upd_new hp12).upd_new hp13).off
    have hW : WellAt (upd (upd (upd (upd (upd (upd (upd (upd (upd (upd (upd (upd (upd H p1 (.lst [.int 2, .int 2, .int 2, .int 5, .int 5])) p2 (.lst [.int 4, .int 50])) p3 (.lst [.int 200])) p4 (.lst [.int 8, .int 25])) p5 (.lst [.int 3, .int 67])) p6 (.lst [.int 201])) p7 (.lst [.int 2, .int 2, .int 2, .int 2, .int 13])) p8 (.lst [.int 199])) p9 (.lst [.int 2])) p10 (.lst (List.replicate (Int.toNat 8) [V.int 2]).flatten)) p11 (.lst [.int 2])) p12 (.lst (List.replicate (Int.toNat 30) [V.int 2]).flatten)) p13 (.lst [.ref p1, .ref p2, .ref p3, .ref p4, .ref p5, .ref p6, .ref p7, .ref p8, .ref p10, .ref p12])) w0 g n := (((((((((((((W).new hp1).new hp2).new hp3).new hp4).new hp5).new hp6).new hp7).new hp8).new hp9).new hp10).new hp11).new hp12).new hp13
    have hB : Both (fun v zs => ∃ p, v = V.ref p ∧ (p ≠ w0 ∧ p ≠ g) ∧ (upd (upd (upd (upd (upd (upd (upd (upd (upd (upd (upd (upd (upd H p1 (.lst [.int 2, .int 2, .int 2, .int 5, .int 5])) p2 (.lst [.int 4, .int 50])) p3 (.lst [.int 200])) p4 (.lst [.int 8, .int 25])) p5 (.lst [.int 3, .int 67])) p6 (.lst [.int 201])) p7 (.lst [.int 2, .int 2, .int 2, .int 2, .int 13])) p8 (.lst [.int 199])) p9 (.lst [.int 2])) p10 (.lst (List.replicate (Int.toNat 8) [V.int 2]).flatten)) p11 (.lst [.int 2])) p12 (.lst (List.replicate (Int.toNat 30) [V.int 2]).flatten)) p13 (.lst [.ref p1, .ref p2, .ref p3, .ref p4, .ref p5, .ref p6, .ref p7, .ref p8, .ref p10, .ref p12])) p = some (.lst (zs.map iv))) [V.ref p1, V.ref p2, V.ref p3, V.ref p4, V.ref p5, V.ref p6, V.ref p7, V.ref p8, V.ref p10, V.ref p12] SZ := (.cons ⟨p1, rfl, (W).ne hp1, keepN (keepN (keepN (keepN (keepN (keepN (keepN (keepN (keepN (keepN (keepN (keepN (upd_same) hp2) hp3) hp4) hp5) hp6) hp7) hp8) hp9) hp10) hp11) hp12) hp13⟩ (.cons ⟨p2, rfl, ((W).new hp1).ne hp2, keepN (keepN (keepN (keepN (keepN (keepN (keepN (keepN (keepN (keepN (keepN (upd_same) hp3) hp4) hp5) hp6) hp7) hp8) hp9) hp10) hp11) hp12) hp13⟩ (.cons ⟨p3, rfl, (((W).new hp1).new hp2).ne hp3, keepN (keepN (keepN (keepN (keepN (keepN (keepN (keepN (keepN (keepN (upd_same) hp4) hp5) hp6) hp7) hp8) hp9) hp10) hp11) hp12) hp13⟩ (.cons ⟨p4, rfl, ((((W).new hp1).new hp2).new hp3).ne hp4, keepN (keepN (keepN (keepN (keepN (keepN (keepN (keepN (keepN (upd_same) hp5) hp6) hp7) hp8) hp9) hp10) hp11) hp12) hp13⟩ (.cons ⟨p5, rfl, (((((W).new hp1).new hp2).new hp3).new hp4).ne hp5, keepN (keepN (keepN (keepN (keepN (keepN (keepN (keepN (upd_same) hp6) hp7) hp8) hp9) hp10) hp11) hp12) hp13⟩ (.cons ⟨p6, rfl, ((((((W).new hp1).new hp2).new hp3).new hp4).new hp5).ne hp6, keepN (keepN (keepN (keepN (keepN (keepN (keepN (upd_same) hp7) hp8) hp9) hp10) hp11) hp12) hp13⟩ (.cons ⟨p7, rfl, (((((((W).new hp1).new hp2).new hp3).new hp4).new hp5).new hp6).ne hp7, keepN (keepN (keepN (keepN (keepN (keepN (upd_same) hp8) hp9) hp10) hp11) hp12) hp13⟩ (.cons ⟨p8, rfl, ((((((((W).new hp1).new hp2).new hp3).new hp4).new hp5).new hp6).new hp7).ne hp8, keepN (keepN (keepN (keepN (keepN (upd_same) hp9) hp10) hp11) hp12) hp13⟩ (.cons ⟨p10, rfl, ((((((((((W).new hp1).new hp2).new hp3).new hp4).new hp5).new hp6).new hp7).new hp8).new hp9).ne hp10, keepN (keepN (keepN (upd_same) hp11) hp12) hp13⟩ (.cons ⟨p12, rfl, ((((((((((((W).new hp1).new hp2).new hp3).new hp4).new hp5).new hp6).new hp7).new hp8).new hp9).new hp10).new hp11).ne hp12, keepN (upd_same) hp13⟩ .nil))))))))))
    have hL : (upd (upd (upd (upd (upd (upd (upd (upd (upd (upd (upd (upd (upd H p1 (.lst [.int 2, .int 2, .int 2, .int 5, .int 5])) p2 (.lst [.int 4, .int 50])) p3 (.lst [.int 200])) p4 (.lst [.int 8, .int 25])) p5 (.lst [.int 3, .int 67])) p6 (.lst [.int 201])) p7 (.lst [.int 2, .int 2, .int 2, .int 2, .int 13])) p8 (.lst [.int 199])) p9 (.lst [.int 2])) p10 (.lst (List.replicate (Int.toNat 8) [V.int 2]).flatten)) p11 (.lst [.int 2])) p12 (.lst (List.replicate (Int.toNat 30) [V.int 2]).flatten)) p13 (.lst [.ref p1, .ref p2, .ref p3, .ref p4, .ref p5, .ref p6, .ref p7, .ref p8, .ref p10, .ref p12])) p13 = some (.lst [V.ref p1, V.ref p2, V.ref p3, V.ref p4, V.ref p5, V.ref p6, V.ref p7, V.ref p8, V.ref p10, V.ref p12]) := upd_same
    have nw : p13 ≠ w0 ∧ p13 ≠ g := (((((((((((((W).new hp1).new hp2).new hp3).new hp4).new hp5).new hp6).new hp7).new hp8).new hp9).new hp10).new hp11).new hp12).ne hp13
    generalize (upd (upd (upd (upd (upd (upd (upd (upd (upd (upd (upd (upd (upd H p1 (.lst [.int 2, .int 2, .int 2, .int 5, .int 5])) p2 (.lst [.int 4, .int 50])) p3 (.lst [.int 200])) p4 (.lst [.int 8, .int 25])) p5 (.lst [.int 3, .int 67])) p6 (.lst [.int 201])) p7 (.lst [.int 2, .int 2, .int 2, .int 2, .int 13])) p8 (.lst [.int 199])) p9 (.lst [.int 2])) p10 (.lst (List.replicate (Int.toNat 8) [V.int 2]).flatten)) p11 (.lst [.int 2])) p12 (.lst (List.replicate (Int.toNat 30) [V.int 2]).flatten)) p13 (.lst [.ref p1, .ref p2, .ref p3, .ref p4, .ref p5, .ref p6, .ref p7, .ref p8, .ref p10, .ref p12])) = Hs at hO hW hB hL ⊢
    generalize [V.ref p1, V.ref p2, V.ref p3, V.ref p4, V.ref p5, V.ref p6, V.ref p7, V.ref p8, V.ref p10, V.ref p12] = vs at hB hL ⊢
    clear hp1 hp2 hp3 hp4 hp5 hp6 hp7 hp8 hp9 hp10 hp11 hp12 hp13
    have lB := hB.length
    replace lB : vs.length = 10 := lB
    refine for_it (walk_list (xs := vs)) (fun i σ H' => ∃ c1 c2 c3 c4 c5 c6 c7 c8 c9, σ = [some (.ref w0), c1, c2, c3, c4, c5, c6, c7, c8, c9] ∧ Off w0 g Hs H' ∧ WellAt H' w0 g (n + (30 * i : Nat)))
      ⟨_, _, _, _, _, _, _, _, _, rfl, Off.refl _ _ _, by simpa using hW⟩ (fun i σ H' _ ⟨_, _, _, _, _, _, _, _, _, _, O, _⟩ => O.seq (.of hL) nw.1 nw.2)
      (fun i x σ H1 H2 hi ⟨c1, c2, c3, c4, c5, c6, c7, c8, c9, e, O1, W1⟩ hy => ?_) (fun σ H1 ⟨c1, c2, c3, c4, c5, c6, c7, c8, c9, e, O1, W1⟩ => ?_)
    · subst e
      obtain ⟨rfl, hx⟩ := hy
      obtain ⟨zs, hzs, p, rfl, hpw, hp⟩ := hB.get hx
      have hmem := List.mem_of_getElem? hzs
      obtain ⟨hz1, hz2, hz3⟩ := SZ_ok zs hmem
      have hp2 : H2 p = some (.lst (zs.map iv)) := O1 _ _ hp hpw.1 hpw.2
      refine ⟨_, rfl, _, rfl, w0, g, p, _, zs.map iv, rfl, W1, (by rw [List.length_map]; omega), .of hp2, hpw.1, hpw.2, (by rw [List.length_map]; omega), fun H3 pm ys O3 W3 m0 m1 m2 hm pm2 => ⟨_, _, _, rfl, ?_⟩⟩
      obtain ⟨zs', rfl, pm3⟩ := perm_map pm2 zs rfl
      have hz' : ∀ z ∈ zs', 2 ≤ z ∧ z < 202 := fun z hz => hz1 z (pm3.mem_iff.mp hz)
      have hl' : zs'.length ≤ 30 := by rw [pm3.length_eq]; exact hz2
      have hs' : zs'.sum ≤ 300 := by rw [perm_sum pm3]; exact hz3
      refine ⟨_, rfl, _, rfl, ⟨_, .of hm⟩, ?_⟩
      refine for_same (walk_map (f := iv) (xs := zs')) (fun j σ H' => ∃ c5, σ = [some (.ref w0), some (.ref p), some (.ref pm), some (iv (zs'.take j).prod), some (tv (txt (zs'.take j))), c5, c6, c7, c8, c9])
        ⟨_, rfl⟩ (fun H' s4 => s4.seq (.of hm)) (fun j x σ H4 H5 hj s4 ⟨c5, e⟩ hy => ?_) (fun σ H4 s4 ⟨c5, e⟩ => ?_)
      · subst e
        obtain ⟨rfl, z, hzj, rfl⟩ := hy
        obtain ⟨za, zb⟩ := hz' z (List.mem_of_getElem? hzj)
        have lt1 : (txt (zs'.take j)).length ≤ 1400 := by
          have h1 := txt_len (zs'.take j) fun z hz => hz' z (List.mem_of_mem_take hz)
          have h2 : (zs'.take j).sum ≤ zs'.sum := by
            have : zs'.sum = (zs'.take j).sum + (zs'.drop j).sum := by rw [← List.sum_append, List.take_append_drop]
            omega
          have h3 : (zs'.take j).length ≤ 30 := by rw [List.length_take]; omega
          omega
        have lsg := seg_len zb
        refine ⟨_, rfl, _, rfl, _, _, rfl, rfl, .inr ⟨by show -(2 ^ 64) < ((z : Nat) : Int); omega, by show ((z : Nat) : Int) < 2 ^ 64; omega⟩, ?_⟩
        refine ⟨_, rfl, _, _, rfl, rfl, sizeOf (by rw [tS_length]; show _ + 1 ≤ _; omega), ⟨_, rfl⟩, ?_⟩
        refine ⟨_, rfl, _, rfl, by omega, by omega, fun D hD => ?_⟩
        refine lc_same walk_range hD (fun i H' acc => acc = ((List.range i).map dec).map tv) rfl (fun _ _ => trivial) (fun i x H6 H7 acc hi s6 hacc ea hy => ?_) (fun H6 acc s6 hacc ea => ?_)
        · subst ea
          obtain ⟨rfl, rfl⟩ := hy
          have hi2 : i < z := by simpa using hi
          refine ⟨rfl, _, rfl, _, rfl, ?_, ?_⟩
          · exact log_ok (by omega)
          · refine ⟨_, hacc, sizeOfL (by rw [List.length_map, List.length_map, List.length_range]; omega), s6.own hD, _, upd_same, ?_⟩
            rw [List.range_succ, List.map_append, List.map_append]
            refine congrArg (fun z => _ ++ [z]) ?_
            show V.str (toString ((0 : Int) + (i : Nat))) = tv (dec i)
            unfold tv dec
            rw [tS_tl, Int.zero_add]
        · have eaz : acc = (decs z).map tv := by rw [ea]; unfold decs; rw [show ((z : Nat) : Int).toNat = z from Int.toNat_natCast z]
          have lj : (K34.joinC (decs z)).length ≤ 4 * z := by unfold seg at lsg; simp at lsg; omega
          have hj : Txt.join (Str.ofString ",") ((decs z).map tS) = tS (K34.joinC (decs z)) := by
            show Txt.join (tS [44]) ((decs z).map tS) = _
            rw [join_tS, joinL_C]
          have hdl : (decs z).length = z := by unfold decs; simp
          have hfl : (decs z).flatten.length ≤ 4 * z := by
            have : ∀ qs : List (List Nat), qs.flatten.length ≤ (K34.joinC qs).length := by
              intro qs
              induction qs with
              | nil => simp
              | cons a l ih =>
                cases l with
                | nil => simp [K34.joinC]
                | cons b l => rw [K34.joinC_cons _ (by simp)]; simp at ih ⊢; omega
            exact Nat.le_trans (this _) lj
          refine ⟨_, _, (decs z).map tS, rfl, rfl, .inl (.of (by rw [hacc, eaz, map_tS])), ?_, ?_⟩
          · rw [sum_tS]
            show (decs z).flatten.length + ((decs z).map tS).length * 1 ≤ _
            rw [List.length_map]
            omega
          · rw [hj]
            have lA : (tS (txt (zs'.take j))).length ≤ 1400 := by rw [tS_length]; exact lt1
            have lB2 : (tS (K34.joinC (decs z))).length ≤ 900 := by rw [tS_length]; omega
            have l1 : (tS (txt (zs'.take j)) ++ Str.ofString "{").length ≤ 1401 := by rw [len_app]; show _ + 1 ≤ _; omega
            have l2 : (tS (txt (zs'.take j)) ++ Str.ofString "{" ++ tS (K34.joinC (decs z))).length ≤ 2400 := by rw [len_app]; omega
            have l3 : (tS (txt (zs'.take j)) ++ Str.ofString "{" ++ tS (K34.joinC (decs z)) ++ Str.ofString "}").length ≤ 2401 := by rw [len_app]; show _ + 1 ≤ _; omega
            refine ⟨_, _, rfl, rfl, sizeOf (by omega), _, _, rfl, rfl, sizeOf (by show _ + 1 ≤ _; omega), _, _, rfl, rfl, sizeOf (by show _ + 1 ≤ _; omega), ?_⟩
            refine ⟨(s4.trans s6), some (iv z), ?_⟩
            rw [prod_next hzj, txt_next hzj]
            have e4 : tv (txt (zs'.take j) ++ seg z) = V.str (tS (txt (zs'.take j)) ++ tS [123] ++ tS (K34.joinC (decs z)) ++ tS [125] ++ tS [120]) := by
              unfold tv seg
              rw [tS_append, tS_append, tS_append, tS_append]
              simp
            have e5 : iv ((zs'.take j).prod * z) = V.int (((zs'.take j).prod : Nat) * ((z : Nat) : Int)) := by unfold iv; push_cast; rfl
            rw [e4, e5]
            rfl
      · subst e
        rw [List.take_length]
        obtain ⟨fu, hfu⟩ := K34.brac_row around_nil (txt_G zs' hz') (by
          have := txt_len zs' hz'
          rw [ctx_nil]
          unfold K34.LT
          omega)
        rw [ctx_nil, stds_len, show (stds zs').map (K34.ctx [] []) = stds zs' by rw [show K34.ctx [] [] = id from funext ctx_nil, List.map_id]] at hfu
        have O4 : Off w0 g Hs H4 := (O1.trans O3).trans s4.off
        have W4 : WellAt H4 w0 g (n + (30 * (i + 1) : Nat)) := (W3.same s4).mono (by rw [List.length_map]; push_cast; omega)
        have dt : ∀ {Hh : Hp} {q : Addr}, Hh q = some (.tup [.str "large", .int 200]) → Dp K Hh (.ref q) (.tuple [.str "large", .int 200]) := fun h => .tup (.of h) (.cons (.str _) (.cons (.int _) .nil))
        by_cases hs : zs'.prod ≤ 200
        · rw [if_pos hs] at hfu
          refine ⟨_, rfl, txt zs', fu, _, rfl, hfu, fun l e H9 q9 p9 S9 z1 z2 z3 z4 => ?_, fun e => by cases e⟩
          cases e
          refine ⟨_, rfl, _, _, rfl, rfl, _, rfl, ?_⟩
          refine ite2 (fun h => absurd h (by simp; omega)) (fun _ => ?_)
          refine ⟨fun b H' => b = false ∧ Same H9 H', ?_, fun b H' ⟨hb, S10⟩ => ?_⟩
          · have lst : (stds zs').length = zs'.prod := stds_len zs'
            refine ⟨_, rfl, _, _, _, _, rfl, rfl, .of z3, rfl, rfl, _, rfl, ?_⟩
            refine ite2 (fun h => absurd h (by simp)) (fun _ => ?_)
            refine ⟨_, rfl, _, _, _, _, rfl, rfl, .of z3, rfl, _, _, rfl, .inl (.of z4), _, rfl, rfl, _, rfl, ?_⟩
            refine ite2 (fun h => absurd h (by unfold iv; simp [lst])) (fun _ => ?_)
            refine ⟨_, rfl, _, _, _, _, rfl, rfl, .of z3, rfl, p9, (stds zs').map tS, rfl, .of (by rw [← map_tS]; exact z4), ?_, by rw [List.length_map]; omega, _, rfl, rfl, _, rfl, ?_⟩
            · refine List.Pairwise.map _ ?_ (stds_nodup zs' hz')
              intro x y ne e
              exact ne (tS_inj e)
            refine ite2 (fun h => absurd h (by unfold iv; simp [lst])) (fun _ => ?_)
            have hhead : ((stds zs').map tv)[0]? = some (tv (List.replicate zs'.length [48, 120]).flatten) := by rw [List.getElem?_map, stds_head zs' hz']; rfl
            have hrep : repS (Str.ofString "0x") ((zs'.map iv).length : Nat) = tS (List.replicate zs'.length [48, 120]).flatten := by
              rw [List.length_map]
              unfold repS tS
              rw [Int.toNat_natCast]
              rfl
            refine ⟨_, rfl, _, _, _, _, rfl, rfl, .of z3, rfl, _, _, _, _, rfl, rfl, .of z4, atI_nat (j := 0) hhead, _, rfl, _, _, rfl, .inl (.of (S9 _ _ (s4 _ _ hm))), _, _, rfl, rfl, ?_, ?_, ?_, rfl, _, rfl, ?_, Same.refl _⟩
            · omega
            · rw [List.length_map]; omega
            · refine sizeOf ?_
              show 2 * _ ≤ _
              rw [Int.toNat_natCast, List.length_map]
              omega
            · rw [hrep]
              unfold tv
              simp
          · subst hb
            refine iteF ?_
            exact ⟨_, _, _, _, _, _, _, _, _, rfl, O4.trans (S9.trans S10).off, (W4.same S9).same S10⟩
        · rw [if_neg hs] at hfu
          refine ⟨_, rfl, txt zs', fu, _, rfl, hfu, (fun l e => by cases e), fun _ H9 q9 S9 z1 z3 => ?_⟩
          refine ⟨_, rfl, _, _, rfl, rfl, _, rfl, ?_⟩
          refine ite2 (fun _ => ?_) (fun h => absurd (by simp; omega) h)
          refine ⟨_, rfl, sizeOf (by simp), fun q1 hq1 => ⟨_, _, dt (keepN z3 hq1), dt upd_same, by decide +kernel, by decide +kernel, _, rfl, ?_⟩⟩
          refine ite2 (fun h => absurd h (by decide +kernel)) (fun _ => ?_)
          exact ⟨_, _, _, _, _, _, _, _, _, rfl, (O4.trans S9.off).new hq1, (W4.same S9).new hq1⟩
    · subst e
      refine ⟨⟨_, rfl⟩, _, rfl, by decide, by decide, fun D hD => ?_⟩
      refine lc_same walk_range hD (fun i H' acc => acc = ((List.range i).map dec).map tv) rfl (fun _ _ => trivial) (fun i x H6 H7 acc hi s6 hacc ea hy => ?_) (fun H6 acc s6 hacc ea => ?_)
      · subst ea
        obtain ⟨rfl, rfl⟩ := hy
        have hi2 : i < 40 := by simpa using hi
        refine ⟨rfl, _, rfl, _, rfl, log_ok (by omega), ?_⟩
        refine ⟨_, hacc, sizeOfL (by rw [List.length_map, List.length_map, List.length_range]; omega), s6.own hD, _, upd_same, ?_⟩
        rw [List.range_succ, List.map_append, List.map_append]
        refine congrArg (fun z => _ ++ [z]) ?_
        show V.str (toString ((0 : Int) + (i : Nat))) = tv (dec i)
        unfold tv dec
        rw [tS_tl, Int.zero_add]
      have eaz : acc = (decs 40).map tv := ea
      have hj : Txt.join (Str.ofString ",") ((decs 40).map tS) = tS (K34.joinC (decs 40)) := by
        show Txt.join (tS [44]) ((decs 40).map tS) = _
        rw [join_tS, joinL_C]
      have hj5 : Txt.join (Str.ofString ",") (List.replicate 5 (tS I40)) = tS J5 := by
        show Txt.join (tS [44]) _ = _
        rw [← List.map_replicate, join_tS, joinL_C]
        unfold J5
        rfl
      have hb5 : ((List.replicate 5 (tS I40)).map (·.length)).sum + (List.replicate 5 (tS I40)).length * (Str.ofString ",").length ≤ 16777216 := by
        have h1 := I40_len
        have h2 : (Str.ofString ",").length = 1 := rfl
        rw [h2]
        simp [tS_length]
        omega
      have lI : (tS I40).length ≤ 170 := by rw [tS_length]; exact I40_len
      have lJ : (tS J5).length ≤ 1000 := by rw [tS_length]; exact J5_len
      have lJ1 : (Str.ofString "{" ++ tS J5).length ≤ 1001 := by rw [len_app]; show 1 + _ ≤ _; omega
      have eT1 : Str.ofString "{" ++ tS J5 ++ Str.ofString "}" = tS (123 :: (J5 ++ [125])) := by
        show tS [123] ++ tS J5 ++ tS [125] = _
        rw [tS_append, tS_append, List.append_assoc, List.singleton_append]
      have eT2 : Str.ofString "{" ++ tS J5 ++ Str.ofString ",z}" = tS (123 :: (J5 ++ [44, 122, 125])) := by
        show tS [123] ++ tS J5 ++ tS [44, 122, 125] = _
        rw [tS_append, tS_append, List.append_assoc, List.singleton_append]
      have eT3 : Str.ofString "{{" ++ tS I40 ++ Str.ofString "}}" ++ Str.ofString "{a,b,c,d,e}" = tS (123 :: 123 :: (I40 ++ [125, 125] ++ [123, 97, 44, 98, 44, 99, 44, 100, 44, 101, 125])) := by
        show tS [123, 123] ++ tS I40 ++ tS [125, 125] ++ tS [123, 97, 44, 98, 44, 99, 44, 100, 44, 101, 125] = _
        rw [tS_append, tS_append, tS_append]
        simp
      have lI2 := I40_len
      have lI3 : (K34.joinC (decs 40)).length ≤ 170 := by unfold I40 at lI2; simp at lI2; omega
      have hfl : (decs 40).flatten.length ≤ 170 := by
        have : ∀ qs : List (List Nat), qs.flatten.length ≤ (K34.joinC qs).length := by
          intro qs
          induction qs with
          | nil => simp
          | cons a l ih =>
            cases l with
            | nil => simp [K34.joinC]
            | cons b l => rw [K34.joinC_cons _ (by simp)]; simp at ih ⊢; omega
        exact Nat.le_trans (this _) lI3
      have hdl : (decs 40).length = 40 := by unfold decs; simp
      have eI : Str.ofString "{" ++ tS (K34.joinC (decs 40)) ++ Str.ofString "}" = tS I40 := by
        show tS [123] ++ tS (K34.joinC (decs 40)) ++ tS [125] = _
        rw [tS_append, tS_append, List.append_assoc, List.singleton_append]
        unfold I40
        rfl
      refine ⟨_, _, (decs 40).map tS, rfl, rfl, .inl (.of (by rw [hacc, eaz, map_tS])), ?_, ?_⟩
      · rw [sum_tS]
        show (decs 40).flatten.length + ((decs 40).map tS).length * 1 ≤ _
        rw [List.length_map]
        omega
      rw [hj]
      refine ⟨_, _, rfl, rfl, sizeOf (by rw [tS_length]; show 1 + _ ≤ _; omega), _, _, rfl, rfl, sizeOf (by rw [len_app, tS_length]; show 1 + _ + 1 ≤ _; omega), ?_⟩
      rw [eI]
      have O6 : Off w0 g Hs H6 := O1.trans s6.off
      have W6 : WellAt H6 w0 g (n + 300) := (W1.same s6).mono (by rw [lB]; omega)
      -- the first text
      refine ⟨⟨_, rfl⟩, _, rfl, sizeOf (by simp), fun a1 ha1 => ⟨_, _, _, rfl, rfl, upd_same, by decide, by decide, sizeOf (by simp), fun a2 ha2 => ?_⟩⟩
      refine ⟨_, _, List.replicate 5 (tS I40), rfl, rfl, .inl (.of upd_same), hb5, ?_⟩
      rw [hj5]
      refine ⟨_, _, rfl, rfl, sizeOf (by show 1 + _ ≤ _; omega), _, _, rfl, rfl, sizeOf (by show _ + 1 ≤ _; omega), sizeOf (by simp), fun b1 hb1 => ?_⟩
      refine ⟨⟨_, rfl⟩, _, rfl, sizeOf (by simp), fun a3 ha3 => ⟨_, _, _, rfl, rfl, upd_same, by decide, by decide, sizeOf (by simp), fun a4 ha4 => ?_⟩⟩
      refine ⟨_, _, List.replicate 5 (tS I40), rfl, rfl, .inl (.of upd_same), hb5, ?_⟩
      rw [hj5]
      refine ⟨_, _, rfl, rfl, sizeOf (by show 1 + _ ≤ _; omega), _, _, rfl, rfl, sizeOf (by show _ + 3 ≤ _; omega), sizeOf (by simp), fun b2 hb2 => ?_⟩
      have lI5 : (Str.ofString "{{" ++ tS I40).length ≤ 172 := by rw [len_app]; show 2 + _ ≤ _; omega
      refine ⟨_, rfl, _, _, rfl, rfl, sizeOf (by show 2 + _ ≤ _; omega), _, _, rfl, rfl, sizeOf (by show _ + 2 ≤ _; omega), _, _, rfl, rfl, sizeOf (by rw [len_app]; show _ + 2 + 11 ≤ _; omega), sizeOf (by simp), fun b3 hb3 => ⟨sizeOf (by simp), fun o ho => ?_⟩⟩
      have f1 := keepN (keepN (keepN (keepN (keepN upd_same ha3) ha4) hb2) hb3) ho (u := .lst [V.ref b1, V.ref b2, V.ref b3])
      have f2 := keepN (keepN upd_same hb3) ho (u := .lst [V.ref b1, V.ref b2, V.ref b3])
      have f3 := keepN upd_same ho (u := .lst [V.ref b1, V.ref b2, V.ref b3])
      have O9 := (((((((O6.new ha1).new ha2).new hb1).new ha3).new ha4).new hb2).new hb3).new ho (o := .lst [V.ref b1, V.ref b2, V.ref b3])
      refine ⟨_, rfl, o, rfl, ⟨_, .of upd_same⟩, ?_⟩
      refine for_same (walk_list (xs := [V.ref b1, V.ref b2, V.ref b3])) (fun i σ H' => ∃ c1 c2 c3 c4 c5 c6 c7 c8 c9 c10, σ = [c1, c2, c3, c4, c5, c6, c7, c8, c9, c10])
        ⟨_, _, _, _, _, _, _, _, _, _, rfl⟩ (fun H' s7 => s7.seq (.of upd_same)) (fun i x σ H7 H8 hi s7 ⟨c1, c2, c3, c4, c5, c6, c7, c8, c9, c10, e⟩ hy => ?_) (fun σ H7 s7 ⟨c1, c2, c3, c4, c5, c6, c7, c8, c9, c10, e⟩ => ?_)
      · subst e
        obtain ⟨rfl, hx⟩ := hy
        obtain ⟨r, q, hr, rfl, hq⟩ : ∃ r q, r ∈ ROWS ∧ x = V.ref q ∧ H8 q = some (.tup [tv r.1, iv r.2]) := by
          match i, hi, hx with
          | 0, _, hx => cases hx; exact ⟨_, b1, by unfold ROWS; exact List.mem_cons_self, rfl, (s7 _ _ f1).trans (by rw [eT1]; rfl)⟩
          | 1, _, hx => cases hx; exact ⟨_, b2, by unfold ROWS; exact List.mem_cons_of_mem _ List.mem_cons_self, rfl, (s7 _ _ f2).trans (by rw [eT2]; rfl)⟩
          | 2, _, hx => cases hx; exact ⟨_, b3, by unfold ROWS; exact List.mem_cons_of_mem _ (List.mem_cons_of_mem _ List.mem_cons_self), rfl, (s7 _ _ f3).trans (by rw [eT3]; rfl)⟩
        obtain ⟨s9, hG, hsl, hrl, hr2⟩ := ROWS_ok r hr
        obtain ⟨fu, hfu⟩ := K34.brac_row around_nil hG (by rw [ctx_nil]; unfold K34.LT; omega)
        rw [ctx_nil, hsl, show s9.map (K34.ctx [] []) = s9 by rw [show K34.ctx [] [] = id from funext ctx_nil, List.map_id]] at hfu
        refine ⟨_, _, rfl, .of hq, rfl, _, _, rfl, _, _, rfl, rfl, ?_⟩
        have dt : ∀ {Hh : Hp} {q : Addr}, Hh q = some (.tup [.str "large", .int 200]) → Dp K Hh (.ref q) (.tuple [.str "large", .int 200]) := fun h => .tup (.of h) (.cons (.str _) (.cons (.int _) .nil))
        by_cases hs : r.2 ≤ 200
        · rw [if_pos hs] at hfu
          refine ⟨_, rfl, r.1, fu, _, rfl, hfu, fun l e H9 q9 p9 S9 z1 z2 z3 z4 => ?_, fun e => by cases e⟩
          cases e
          refine ⟨fun b H' => b = false ∧ Same H9 H', ?_, fun b H' ⟨hb, S10⟩ => ?_⟩
          · refine ⟨_, rfl, _, _, _, _, rfl, rfl, .of z3, rfl, rfl, _, rfl, ?_⟩
            refine ite2 (fun _ => ?_) (fun h => absurd (by simp) h)
            refine ⟨_, rfl, _, _, _, _, rfl, rfl, .of z3, rfl, _, _, rfl, .inl (.of z4), _, rfl, rfl, ?_⟩
            refine ⟨_, rfl, _, _, rfl, rfl, rfl, _, rfl, ?_⟩
            refine ite2 (fun h => absurd h (by unfold iv; simp [hsl]; omega)) (fun _ => ?_)
            refine ⟨fun b H' => b = false ∧ Same H9 H', ?_, fun b H' ⟨hb, S10⟩ => ⟨hb, S10⟩⟩
            refine ⟨_, rfl, _, _, rfl, rfl, _, rfl, ?_⟩
            refine ite2 (fun h => absurd h (by simp; omega)) (fun _ => ⟨rfl, Same.refl _⟩)
          · subst hb
            refine iteF ?_
            exact ⟨(s7.trans S9).trans S10, _, _, _, _, _, _, _, _, _, _, rfl⟩
        · rw [if_neg hs] at hfu
          refine ⟨_, rfl, r.1, fu, _, rfl, hfu, (fun l e => by cases e), fun _ H9 q9 S9 z1 z3 => ?_⟩
          refine ⟨fun b H' => b = false ∧ Same H9 H', ?_, fun b H' ⟨hb, S10⟩ => ?_⟩
          · refine ⟨_, rfl, _, _, _, _, rfl, rfl, .of z3, rfl, rfl, _, rfl, ?_⟩
            refine ite2 (fun h => absurd h (by decide +kernel)) (fun _ => ?_)
            refine ⟨_, rfl, _, _, rfl, rfl, rfl, _, rfl, ?_⟩
            refine ite2 (fun h => absurd h (by simp; omega)) (fun _ => ?_)
            refine ⟨fun b H' => b = false ∧ Same H9 H', ?_, fun b H' ⟨hb, S10⟩ => ⟨hb, S10⟩⟩
            refine ⟨_, rfl, _, _, rfl, rfl, _, rfl, ?_⟩
            refine ite2 (fun _ => ?_) (fun h => absurd (by simp; omega) h)
            exact ⟨_, rfl, sizeOf (by simp), fun y1 hy1 => ⟨_, _, dt (keepN z3 hy1), dt upd_same, by decide +kernel, by decide +kernel, _, rfl, by decide +kernel, (Same.refl _).upd_new hy1⟩⟩
          · subst hb
            refine iteF ?_
            exact ⟨(s7.trans S9).trans S10, _, _, _, _, _, _, _, _, _, _, rfl⟩
      · subst e
        refine ?_
        exact k _ ((hO.trans O9).trans s7.off)
end
end B34

set_option autoImplicit true
set_option Elab.async false
set_option linter.all false
set_option maxRecDepth 100000
set_option maxHeartbeats 8000000
namespace B34
open PySem L2
def RWA : List (List Nat × List (List Nat)) := [([], [[]]), ([123, 125], [[123, 125]]), ([123, 97, 125], [[123, 97, 125]]), ([123, 44, 125], [[], []]), ([97, 123, 98, 44, 99, 125, 100], [[97, 98, 100], [97, 99, 100]]), ([123, 97, 44, 98], [[123, 97, 44, 98]]), ([97, 44, 98, 125], [[97, 44, 98, 125]]), ([125, 123, 97, 44, 98, 125, 123], [[125, 97, 123], [125, 98, 123]])]
def RWB : List (List Nat × List (List Nat)) := [([123, 123, 97, 44, 98, 125, 125], [[123, 97, 125], [123, 98, 125]]), ([123, 97, 123, 44, 98, 125], [[123, 97], [123, 97, 98]]), ([123, 97, 44, 123, 98, 125], [[123, 97, 44, 123, 98, 125]]), ([123, 44, 97, 125, 123, 98, 44, 125], [[98], [], [97, 98], [97]]), ([123, 123, 97, 125, 44, 98, 125], [[123, 97, 125], [98]])]
theorem RW_ok : ∀ r ∈ RWA ++ RWB, K34.brac 40 [r.1] [] = some (some r.2) ∧ r.2.length ≤ 10 := by decide +kernel
def RwAt (H : Hp) (v : V) (r : List Nat × List (List Nat)) : Prop := ∃ q l, v = .ref q ∧ H q = some (.tup [tv r.1, .ref l]) ∧ H l = some (.lst (r.2.map tv))
theorem RwAt.same {H H' : Hp} {v : V} {r : List Nat × List (List Nat)} (s : Same H H') (h : RwAt H v r) : RwAt H' v r := by
  obtain ⟨q, l, e, h1, h2⟩ := h
  exact ⟨q, l, e, s _ _ h1, s _ _ h2⟩
def spLaw (K : PySem.W.Frag) : Sp := fun vs H Q _ => ∃ (a : Addr) (ns : List Int), vs = [.ref a] ∧ SqL K H a (ns.map V.int) ∧ ns.length ≤ 63 ∧ ∀ H', Q (.bl true) H'
section
variable {P : Program} {w : World} {K : PySem.W.Frag} {mg : Str → Option Value} {base : Heap} {a : Nat → Addr} {fd : Nat → FuncData} {C fI : Addr} {file : Str}
theorem ok_law (T : Txt K mg a fd) (X_TooLarge : Exc_TooLarge P K mg C fI file) : FnOk P w K mg base CX0 21 (a 15) (fd 15) ["script"] (spLaw K) := by
  have G__law_well := ok__law_well (P := P) (w := w) (base := base) T
  have G__law_tree_right := ok__law_tree_right (P := P) (w := w) (base := base) T X_TooLarge
  have G__law_products_right := ok__law_products_right (P := P) (w := w) (base := base) T X_TooLarge
  have G_braced := ok_braced (P := P) (w := w) (base := base) T
  have G__law_alike := ok__law_alike (P := P) (w := w) (base := base) T 5
  refine T.F_law.ok sc_law (fun vs H Q E h => ?_) (fun cdv A outer s H vs Q E hr h => ?_)
  · obtain ⟨_, _, rfl, _⟩ := h; rfl
  · obtain ⟨p, ns, rfl, hS, hlen, k⟩ := h
    refine ⟨_, pss_cons (ps_set (i := 1) sc_law.nd rfl (Or.inl rfl) (pe_call G__law_well (hr.mono (by first | decide | omega)) rfl T.m__law_well T.F__law_well.kp T.b__law_well .nil pass0 (pa_cons (pv 0) pa_nil)))
    (pss_cons (ps_for PassesOwn.never rfl (pi_range1 (by rfl) T.n_range (pa_cons pe_int pa_nil)) (pg_name (i := 2) sc_law.nd rfl (Or.inl rfl)) (pss_one (ps_if (pt_not (pt_val (pe_call G__law_tree_right (hr.mono (by first | decide | omega)) rfl T.m__law_tree_right T.F__law_tree_right.kp T.b__law_tree_right .nil pass0 (pa_cons (pv 1) pa_nil)))) (pss_one (ps_ret pe_bl)) pss_nil)))
    (pss_cons (ps_set (i := 3) sc_law.nd rfl (Or.inl rfl) (pe_lst (pa_cons (pe_tup (pa_cons pe_str (pa_cons (pe_lst (pa_cons pe_str pa_nil)) pa_nil))) (pa_cons (pe_tup (pa_cons pe_str (pa_cons (pe_lst (pa_cons pe_str pa_nil)) pa_nil))) (pa_cons (pe_tup (pa_cons pe_str (pa_cons (pe_lst (pa_cons pe_str pa_nil)) pa_nil))) (pa_cons (pe_tup (pa_cons pe_str (pa_cons (pe_lst (pa_cons pe_str (pa_cons pe_str pa_nil))) pa_nil))) (pa_cons (pe_tup (pa_cons pe_str (pa_cons (pe_lst (pa_cons pe_str (pa_cons pe_str pa_nil))) pa_nil))) (pa_cons (pe_tup (pa_cons pe_str (pa_cons (pe_lst (pa_cons pe_str pa_nil)) pa_nil))) (pa_cons (pe_tup (pa_cons pe_str (pa_cons (pe_lst (pa_cons pe_str pa_nil)) pa_nil))) (pa_cons (pe_tup (pa_cons pe_str (pa_cons (pe_lst (pa_cons pe_str (pa_cons pe_str pa_nil))) pa_nil))) pa_nil))))))))))
    (pss_cons (ps_set (i := 3) sc_law.nd rfl (Or.inl rfl) (pe_op op_cat (pv 3) (pe_lst (pa_cons (pe_tup (pa_cons pe_str (pa_cons (pe_lst (pa_cons pe_str (pa_cons pe_str pa_nil))) pa_nil))) (pa_cons (pe_tup (pa_cons pe_str (pa_cons (pe_lst (pa_cons pe_str (pa_cons pe_str pa_nil))) pa_nil))) (pa_cons (pe_tup (pa_cons pe_str (pa_cons (pe_lst (pa_cons pe_str pa_nil)) pa_nil))) (pa_cons (pe_tup (pa_cons pe_str (pa_cons (pe_lst (pa_cons pe_str (pa_cons pe_str (pa_cons pe_str (pa_cons pe_str pa_nil))))) pa_nil))) (pa_cons (pe_tup (pa_cons pe_str (pa_cons (pe_lst (pa_cons pe_str (pa_cons pe_str pa_nil))) pa_nil))) pa_nil))))))))
    (pss_one (ps_ret (pe_and (pe_cmpR (op_eqNil hr.units0) (pe_lc (own := [("text", 4), ("due", 5)]) (g := gTup K 2 (gCons (gName 4) (gCons (gName 5) gNil))) (by rfl) sc_law.nd (pi_list (pv 3)) (blkOk_by (own := [("text", 4), ("due", 5)]) (N := N_law) (sc := defScope s_law) (by decide +kernel)) (fun _ _ _ _ _ => pg_tup rfl (pgs_cons (pg_name (i := 4) sc_law.nd rfl (Or.inl rfl)) (pgs_cons (pg_name (i := 5) sc_law.nd rfl (Or.inl rfl)) pgs_nil))) (fun _ _ _ _ _ => pts_one (pt_not (pt_val (pe_call G__law_alike (hr.mono (by first | decide | omega)) rfl T.m__law_alike T.F__law_alike.kp T.b__law_alike .nil pass0 (pa_cons (pe_call G_braced (hr.mono (by first | decide | omega)) rfl T.m_braced T.F_braced.kp T.b_braced .nil pass0 (pa_cons (pv 4) pa_nil)) (pa_cons (pv 5) pa_nil)))))) (fun _ _ _ _ _ => pe_int)) (pe_lst pa_nil) (nomark _)) (pe_one (pe_call G__law_products_right (hr.mono (by first | decide | omega)) rfl T.m__law_products_right T.F__law_products_right.kp T.b__law_products_right .nil pass0 (pa_cons (pv 1) pa_nil))))))))), ?_⟩
    refine ⟨_, rfl, p, ns, rfl, hS, hlen, fun H1 w0 g S1 hw hg W => ⟨_, rfl, by decide, by decide, ?_⟩⟩
    refine for_it walk_range (fun i σ H' => ∃ c2 c3 c4 c5, σ = [some (.ref p), some (.ref w0), c2, c3, c4, c5] ∧ WellAt H' w0 g (2000 * i : Nat)) ⟨_, _, _, _, rfl, by simpa using W⟩ (fun _ _ _ _ _ => trivial)
      (fun i x σ H2 H3 hi ⟨c2, c3, c4, c5, e, W2⟩ hy => ?_) (fun σ Hl ⟨c2, c3, c4, c5, e, W2⟩ => ?_)
    · subst e
      obtain ⟨rfl, rfl⟩ := hy
      have hi2 : i < 12 := by simpa using hi
      refine ⟨_, rfl, w0, g, _, rfl, W2, by push_cast; omega, fun H4 O4 W4 => ⟨_, rfl, ?_⟩⟩
      refine iteF ?_
      exact ⟨_, _, _, _, rfl, W4.mono (by push_cast; omega)⟩
    · subst e
      refine ⟨(sizeOf (by simp)), fun r1 hr1 => ⟨(sizeOf (by simp)), fun r2 hr2 => ⟨(sizeOf (by simp)), fun r3 hr3 => ⟨(sizeOf (by simp)), fun r4 hr4 => ⟨(sizeOf (by simp)), fun r5 hr5 => ⟨(sizeOf (by simp)), fun r6 hr6 => ⟨(sizeOf (by simp)), fun r7 hr7 => ⟨(sizeOf (by simp)), fun r8 hr8 => ⟨(sizeOf (by simp)), fun r9 hr9 => ⟨(sizeOf (by simp)), fun r10 hr10 => ⟨(sizeOf (by simp)), fun r11 hr11 => ⟨(sizeOf (by simp)), fun r12 hr12 => ⟨(sizeOf (by simp)), fun r13 hr13 => ⟨(sizeOf (by simp)), fun r14 hr14 => ⟨(sizeOf (by simp)), fun r15 hr15 => ⟨(sizeOf (by simp)), fun r16 hr16 => ⟨(sizeOf (by simp)), fun r17 hr17 => ?_⟩⟩⟩⟩⟩⟩⟩⟩⟩⟩⟩⟩⟩⟩⟩⟩⟩
      have hO : Same Hl (upd (upd (upd (upd (upd (upd (upd (upd (upd (upd (upd (upd (upd (upd (upd (upd (upd Hl r1 (.lst [V.str (Str.ofString "")])) r2 (.tup [V.str (Str.ofString ""), V.ref r1])) r3 (.lst [V.str (Str.ofString "{}")])) r4 (.tup [V.str (Str.ofString "{}"), V.ref r3])) r5 (.lst [V.str (Str.ofString "{a}")])) r6 (.tup [V.str (Str.ofString "{a}"), V.ref r5])) r7 (.lst [V.str (Str.ofString ""), V.str (Str.ofString "")])) r8 (.tup [V.str (Str.ofString "{,}"), V.ref r7])) r9 (.lst [V.str (Str.ofString "abd"), V.str (Str.ofString "acd")])) r10 (.tup [V.str (Str.ofString "a{b,c}d"), V.ref r9])) r11 (.lst [V.str (Str.ofString "{a,b")])) r12 (.tup [V.str (Str.ofString "{a,b"), V.ref r11])) r13 (.lst [V.str (Str.ofString "a,b}")])) r14 (.tup [V.str (Str.ofString "a,b}"), V.ref r13])) r15 (.lst [V.str (Str.ofString "}a{"), V.str (Str.ofString "}b{")])) r16 (.tup [V.str (Str.ofString "}{a,b}{"), V.ref r15])) r17 (.lst [V.ref r2, V.ref r4, V.ref r6, V.ref r8, V.ref r10, V.ref r12, V.ref r14, V.ref r16])) := (((((((((((((((((Same.refl _).upd_new hr1).upd_new hr2).upd_new hr3).upd_new hr4).upd_new hr5).upd_new hr6).upd_new hr7).upd_new hr8).upd_new hr9).upd_new hr10).upd_new hr11).upd_new hr12).upd_new hr13).upd_new hr14).upd_new hr15).upd_new hr16).upd_new hr17
      have hB : Both (fun v r => ∃ q l, v = V.ref q ∧ (upd (upd (upd (upd (upd (upd (upd (upd (upd (upd (upd (upd (upd (upd (upd (upd (upd Hl r1 (.lst [V.str (Str.ofString "")])) r2 (.tup [V.str (Str.ofString ""), V.ref r1])) r3 (.lst [V.str (Str.ofString "{}")])) r4 (.tup [V.str (Str.ofString "{}"), V.ref r3])) r5 (.lst [V.str (Str.ofString "{a}")])) r6 (.tup [V.str (Str.ofString "{a}"), V.ref r5])) r7 (.lst [V.str (Str.ofString ""), V.str (Str.ofString "")])) r8 (.tup [V.str (Str.ofString "{,}"), V.ref r7])) r9 (.lst [V.str (Str.ofString "abd"), V.str (Str.ofString "acd")])) r10 (.tup [V.str (Str.ofString "a{b,c}d"), V.ref r9])) r11 (.lst [V.str (Str.ofString "{a,b")])) r12 (.tup [V.str (Str.ofString "{a,b"), V.ref r11])) r13 (.lst [V.str (Str.ofString "a,b}")])) r14 (.tup [V.str (Str.ofString "a,b}"), V.ref r13])) r15 (.lst [V.str (Str.ofString "}a{"), V.str (Str.ofString "}b{")])) r16 (.tup [V.str (Str.ofString "}{a,b}{"), V.ref r15])) r17 (.lst [V.ref r2, V.ref r4, V.ref r6, V.ref r8, V.ref r10, V.ref r12, V.ref r14, V.ref r16])) q = some (.tup [tv r.1, .ref l]) ∧ (upd (upd (upd (upd (upd (upd (upd (upd (upd (upd (upd (upd (upd (upd (upd (upd (upd Hl r1 (.lst [V.str (Str.ofString "")])) r2 (.tup [V.str (Str.ofString ""), V.ref r1])) r3 (.lst [V.str (Str.ofString "{}")])) r4 (.tup [V.str (Str.ofString "{}"), V.ref r3])) r5 (.lst [V.str (Str.ofString "{a}")])) r6 (.tup [V.str (Str.ofString "{a}"), V.ref r5])) r7 (.lst [V.str (Str.ofString ""), V.str (Str.ofString "")])) r8 (.tup [V.str (Str.ofString "{,}"), V.ref r7])) r9 (.lst [V.str (Str.ofString "abd"), V.str (Str.ofString "acd")])) r10 (.tup [V.str (Str.ofString "a{b,c}d"), V.ref r9])) r11 (.lst [V.str (Str.ofString "{a,b")])) r12 (.tup [V.str (Str.ofString "{a,b"), V.ref r11])) r13 (.lst [V.str (Str.ofString "a,b}")])) r14 (.tup [V.str (Str.ofString "a,b}"), V.ref r13])) r15 (.lst [V.str (Str.ofString "}a{"), V.str (Str.ofString "}b{")])) r16 (.tup [V.str (Str.ofString "}{a,b}{"), V.ref r15])) r17 (.lst [V.ref r2, V.ref r4, V.ref r6, V.ref r8, V.ref r10, V.ref r12, V.ref r14, V.ref r16])) l = some (.lst (r.2.map tv))) [V.ref r2, V.ref r4, V.ref r6, V.ref r8, V.ref r10, V.ref r12, V.ref r14, V.ref r16] RWA := (.cons ⟨r2, r1, rfl, keepN (keepN (keepN (keepN (keepN (keepN (keepN (keepN (keepN (keepN (keepN (keepN (keepN (keepN (keepN (upd_same) hr3) hr4) hr5) hr6) hr7) hr8) hr9) hr10) hr11) hr12) hr13) hr14) hr15) hr16) hr17, keepN (keepN (keepN (keepN (keepN (keepN (keepN (keepN (keepN (keepN (keepN (keepN (keepN (keepN (keepN (keepN (upd_same) hr2) hr3) hr4) hr5) hr6) hr7) hr8) hr9) hr10) hr11) hr12) hr13) hr14) hr15) hr16) hr17⟩ (.cons ⟨r4, r3, rfl, keepN (keepN (keepN (keepN (keepN (keepN (keepN (keepN (keepN (keepN (keepN (keepN (keepN (upd_same) hr5) hr6) hr7) hr8) hr9) hr10) hr11) hr12) hr13) hr14) hr15) hr16) hr17, keepN (keepN (keepN (keepN (keepN (keepN (keepN (keepN (keepN (keepN (keepN (keepN (keepN (keepN (upd_same) hr4) hr5) hr6) hr7) hr8) hr9) hr10) hr11) hr12) hr13) hr14) hr15) hr16) hr17⟩ (.cons ⟨r6, r5, rfl, keepN (keepN (keepN (keepN (keepN (keepN (keepN (keepN (keepN (keepN (keepN (upd_same) hr7) hr8) hr9) hr10) hr11) hr12) hr13) hr14) hr15) hr16) hr17, keepN (keepN (keepN (keepN (keepN (keepN (keepN (keepN (keepN (keepN (keepN (keepN (upd_same) hr6) hr7) hr8) hr9) hr10) hr11) hr12) hr13) hr14) hr15) hr16) hr17⟩ (.cons ⟨r8, r7, rfl, keepN (keepN (keepN (keepN (keepN (keepN (keepN (keepN (keepN (upd_same) hr9) hr10) hr11) hr12) hr13) hr14) hr15) hr16) hr17, keepN (keepN (keepN (keepN (keepN (keepN (keepN (keepN (keepN (keepN (upd_same) hr8) hr9) hr10) hr11) hr12) hr13) hr14) hr15) hr16) hr17⟩ (.cons ⟨r10, r9, rfl, keepN (keepN (keepN (keepN (keepN (keepN (keepN (upd_same) hr11) hr12) hr13) hr14) hr15) hr16) hr17, keepN (keepN (keepN (keepN (keepN (keepN (keepN (keepN (upd_same) hr10) hr11) hr12) hr13) hr14) hr15) hr16) hr17⟩ (.cons ⟨r12, r11, rfl, keepN (keepN (keepN (keepN (keepN (upd_same) hr13) hr14) hr15) hr16) hr17, keepN (keepN (keepN (keepN (keepN (keepN (upd_same) hr12) hr13) hr14) hr15) hr16) hr17⟩ (.cons ⟨r14, r13, rfl, keepN (keepN (keepN (upd_same) hr15) hr16) hr17, keepN (keepN (keepN (keepN (upd_same) hr14) hr15) hr16) hr17⟩ (.cons ⟨r16, r15, rfl, keepN (upd_same) hr17, keepN (keepN (upd_same) hr16) hr17⟩ .nil))))))))
      have hL : (upd (upd (upd (upd (upd (upd (upd (upd (upd (upd (upd (upd (upd (upd (upd (upd (upd Hl r1 (.lst [V.str (Str.ofString "")])) r2 (.tup [V.str (Str.ofString ""), V.ref r1])) r3 (.lst [V.str (Str.ofString "{}")])) r4 (.tup [V.str (Str.ofString "{}"), V.ref r3])) r5 (.lst [V.str (Str.ofString "{a}")])) r6 (.tup [V.str (Str.ofString "{a}"), V.ref r5])) r7 (.lst [V.str (Str.ofString ""), V.str (Str.ofString "")])) r8 (.tup [V.str (Str.ofString "{,}"), V.ref r7])) r9 (.lst [V.str (Str.ofString "abd"), V.str (Str.ofString "acd")])) r10 (.tup [V.str (Str.ofString "a{b,c}d"), V.ref r9])) r11 (.lst [V.str (Str.ofString "{a,b")])) r12 (.tup [V.str (Str.ofString "{a,b"), V.ref r11])) r13 (.lst [V.str (Str.ofString "a,b}")])) r14 (.tup [V.str (Str.ofString "a,b}"), V.ref r13])) r15 (.lst [V.str (Str.ofString "}a{"), V.str (Str.ofString "}b{")])) r16 (.tup [V.str (Str.ofString "}{a,b}{"), V.ref r15])) r17 (.lst [V.ref r2, V.ref r4, V.ref r6, V.ref r8, V.ref r10, V.ref r12, V.ref r14, V.ref r16])) r17 = some (.lst [V.ref r2, V.ref r4, V.ref r6, V.ref r8, V.ref r10, V.ref r12, V.ref r14, V.ref r16]) := upd_same
      generalize (upd (upd (upd (upd (upd (upd (upd (upd (upd (upd (upd (upd (upd (upd (upd (upd (upd Hl r1 (.lst [V.str (Str.ofString "")])) r2 (.tup [V.str (Str.ofString ""), V.ref r1])) r3 (.lst [V.str (Str.ofString "{}")])) r4 (.tup [V.str (Str.ofString "{}"), V.ref r3])) r5 (.lst [V.str (Str.ofString "{a}")])) r6 (.tup [V.str (Str.ofString "{a}"), V.ref r5])) r7 (.lst [V.str (Str.ofString ""), V.str (Str.ofString "")])) r8 (.tup [V.str (Str.ofString "{,}"), V.ref r7])) r9 (.lst [V.str (Str.ofString "abd"), V.str (Str.ofString "acd")])) r10 (.tup [V.str (Str.ofString "a{b,c}d"), V.ref r9])) r11 (.lst [V.str (Str.ofString "{a,b")])) r12 (.tup [V.str (Str.ofString "{a,b"), V.ref r11])) r13 (.lst [V.str (Str.ofString "a,b}")])) r14 (.tup [V.str (Str.ofString "a,b}"), V.ref r13])) r15 (.lst [V.str (Str.ofString "}a{"), V.str (Str.ofString "}b{")])) r16 (.tup [V.str (Str.ofString "}{a,b}{"), V.ref r15])) r17 (.lst [V.ref r2, V.ref r4, V.ref r6, V.ref r8, V.ref r10, V.ref r12, V.ref r14, V.ref r16])) = Hr at hO hB hL ⊢
      generalize [V.ref r2, V.ref r4, V.ref r6, V.ref r8, V.ref r10, V.ref r12, V.ref r14, V.ref r16] = vs at hB hL ⊢
      clear hr1 hr2 hr3 hr4 hr5 hr6 hr7 hr8 hr9 hr10 hr11 hr12 hr13 hr14 hr15 hr16 hr17
      have lvs := hB.length
      replace lvs : vs.length = 8 := lvs
      have Wr : WellAt Hr w0 g (24000 : Nat) := (W2.same hO).mono (by decide)
      refine ⟨_, rfl, (sizeOf (by simp)), fun s1 hs1 => ⟨(sizeOf (by simp)), fun s2 hs2 => ⟨(sizeOf (by simp)), fun s3 hs3 => ⟨(sizeOf (by simp)), fun s4 hs4 => ⟨(sizeOf (by simp)), fun s5 hs5 => ⟨(sizeOf (by simp)), fun s6 hs6 => ⟨(sizeOf (by simp)), fun s7 hs7 => ⟨(sizeOf (by simp)), fun s8 hs8 => ⟨(sizeOf (by simp)), fun s9 hs9 => ⟨(sizeOf (by simp)), fun s10 hs10 => ⟨(sizeOf (by simp)), fun s11 hs11 => ⟨_, _, _, _, rfl, rfl, (((((((((((((Same.refl _).upd_new hs1).upd_new hs2).upd_new hs3).upd_new hs4).upd_new hs5).upd_new hs6).upd_new hs7).upd_new hs8).upd_new hs9).upd_new hs10).upd_new hs11) _ _ hL), upd_same, (sizeOf (by first | omega | (simp; done) | (simp; omega))), fun s12 hs12 => ?_⟩⟩⟩⟩⟩⟩⟩⟩⟩⟩⟩⟩
      have hO2 : Same Hr (upd (upd (upd (upd (upd (upd (upd (upd (upd (upd (upd Hr s1 (.lst [V.str (Str.ofString "{a}"), V.str (Str.ofString "{b}")])) s2 (.tup [V.str (Str.ofString "{{a,b}}"), V.ref s1])) s3 (.lst [V.str (Str.ofString "{a"), V.str (Str.ofString "{ab")])) s4 (.tup [V.str (Str.ofString "{a{,b}"), V.ref s3])) s5 (.lst [V.str (Str.ofString "{a,{b}")])) s6 (.tup [V.str (Str.ofString "{a,{b}"), V.ref s5])) s7 (.lst [V.str (Str.ofString "b"), V.str (Str.ofString ""), V.str (Str.ofString "ab"), V.str (Str.ofString "a")])) s8 (.tup [V.str (Str.ofString "{,a}{b,}"), V.ref s7])) s9 (.lst [V.str (Str.ofString "{a}"), V.str (Str.ofString "b")])) s10 (.tup [V.str (Str.ofString "{{a},b}"), V.ref s9])) s11 (.lst [V.ref s2, V.ref s4, V.ref s6, V.ref s8, V.ref s10])) := (((((((((((Same.refl _).upd_new hs1).upd_new hs2).upd_new hs3).upd_new hs4).upd_new hs5).upd_new hs6).upd_new hs7).upd_new hs8).upd_new hs9).upd_new hs10).upd_new hs11
      have hB2 : Both (fun v r => ∃ q l, v = V.ref q ∧ (upd (upd (upd (upd (upd (upd (upd (upd (upd (upd (upd Hr s1 (.lst [V.str (Str.ofString "{a}"), V.str (Str.ofString "{b}")])) s2 (.tup [V.str (Str.ofString "{{a,b}}"), V.ref s1])) s3 (.lst [V.str (Str.ofString "{a"), V.str (Str.ofString "{ab")])) s4 (.tup [V.str (Str.ofString "{a{,b}"), V.ref s3])) s5 (.lst [V.str (Str.ofString "{a,{b}")])) s6 (.tup [V.str (Str.ofString "{a,{b}"), V.ref s5])) s7 (.lst [V.str (Str.ofString "b"), V.str (Str.ofString ""), V.str (Str.ofString "ab"), V.str (Str.ofString "a")])) s8 (.tup [V.str (Str.ofString "{,a}{b,}"), V.ref s7])) s9 (.lst [V.str (Str.ofString "{a}"), V.str (Str.ofString "b")])) s10 (.tup [V.str (Str.ofString "{{a},b}"), V.ref s9])) s11 (.lst [V.ref s2, V.ref s4, V.ref s6, V.ref s8, V.ref s10])) q = some (.tup [tv r.1, .ref l]) ∧ (upd (upd (upd (upd (upd (upd (upd (upd (upd (upd (upd Hr s1 (.lst [V.str (Str.ofString "{a}"), V.str (Str.ofString "{b}")])) s2 (.tup [V.str (Str.ofString "{{a,b}}"), V.ref s1])) s3 (.lst [V.str (Str.ofString "{a"), V.str (Str.ofString "{ab")])) s4 (.tup [V.str (Str.ofString "{a{,b}"), V.ref s3])) s5 (.lst [V.str (Str.ofString "{a,{b}")])) s6 (.tup [V.str (Str.ofString "{a,{b}"), V.ref s5])) s7 (.lst [V.str (Str.ofString "b"), V.str (Str.ofString ""), V.str (Str.ofString "ab"), V.str (Str.ofString "a")])) s8 (.tup [V.str (Str.ofString "{,a}{b,}"), V.ref s7])) s9 (.lst [V.str (Str.ofString "{a}"), V.str (Str.ofString "b")])) s10 (.tup [V.str (Str.ofString "{{a},b}"), V.ref s9])) s11 (.lst [V.ref s2, V.ref s4, V.ref s6, V.ref s8, V.ref s10])) l = some (.lst (r.2.map tv))) [V.ref s2, V.ref s4, V.ref s6, V.ref s8, V.ref s10] RWB := (.cons ⟨s2, s1, rfl, keepN (keepN (keepN (keepN (keepN (keepN (keepN (keepN (keepN (upd_same) hs3) hs4) hs5) hs6) hs7) hs8) hs9) hs10) hs11, keepN (keepN (keepN (keepN (keepN (keepN (keepN (keepN (keepN (keepN (upd_same) hs2) hs3) hs4) hs5) hs6) hs7) hs8) hs9) hs10) hs11⟩ (.cons ⟨s4, s3, rfl, keepN (keepN (keepN (keepN (keepN (keepN (keepN (upd_same) hs5) hs6) hs7) hs8) hs9) hs10) hs11, keepN (keepN (keepN (keepN (keepN (keepN (keepN (keepN (upd_same) hs4) hs5) hs6) hs7) hs8) hs9) hs10) hs11⟩ (.cons ⟨s6, s5, rfl, keepN (keepN (keepN (keepN (keepN (upd_same) hs7) hs8) hs9) hs10) hs11, keepN (keepN (keepN (keepN (keepN (keepN (upd_same) hs6) hs7) hs8) hs9) hs10) hs11⟩ (.cons ⟨s8, s7, rfl, keepN (keepN (keepN (upd_same) hs9) hs10) hs11, keepN (keepN (keepN (keepN (upd_same) hs8) hs9) hs10) hs11⟩ (.cons ⟨s10, s9, rfl, keepN (upd_same) hs11, keepN (keepN (upd_same) hs10) hs11⟩ .nil)))))
      have hB3 : Both (RwAt (upd (upd (upd (upd (upd (upd (upd (upd (upd (upd (upd Hr s1 (.lst [V.str (Str.ofString "{a}"), V.str (Str.ofString "{b}")])) s2 (.tup [V.str (Str.ofString "{{a,b}}"), V.ref s1])) s3 (.lst [V.str (Str.ofString "{a"), V.str (Str.ofString "{ab")])) s4 (.tup [V.str (Str.ofString "{a{,b}"), V.ref s3])) s5 (.lst [V.str (Str.ofString "{a,{b}")])) s6 (.tup [V.str (Str.ofString "{a,{b}"), V.ref s5])) s7 (.lst [V.str (Str.ofString "b"), V.str (Str.ofString ""), V.str (Str.ofString "ab"), V.str (Str.ofString "a")])) s8 (.tup [V.str (Str.ofString "{,a}{b,}"), V.ref s7])) s9 (.lst [V.str (Str.ofString "{a}"), V.str (Str.ofString "b")])) s10 (.tup [V.str (Str.ofString "{{a},b}"), V.ref s9])) s11 (.lst [V.ref s2, V.ref s4, V.ref s6, V.ref s8, V.ref s10]))) (vs ++ [V.ref s2, V.ref s4, V.ref s6, V.ref s8, V.ref s10]) (RWA ++ RWB) := (hB.mono fun v r h => RwAt.same hO2 h).app hB2
      generalize (upd (upd (upd (upd (upd (upd (upd (upd (upd (upd (upd Hr s1 (.lst [V.str (Str.ofString "{a}"), V.str (Str.ofString "{b}")])) s2 (.tup [V.str (Str.ofString "{{a,b}}"), V.ref s1])) s3 (.lst [V.str (Str.ofString "{a"), V.str (Str.ofString "{ab")])) s4 (.tup [V.str (Str.ofString "{a{,b}"), V.ref s3])) s5 (.lst [V.str (Str.ofString "{a,{b}")])) s6 (.tup [V.str (Str.ofString "{a,{b}"), V.ref s5])) s7 (.lst [V.str (Str.ofString "b"), V.str (Str.ofString ""), V.str (Str.ofString "ab"), V.str (Str.ofString "a")])) s8 (.tup [V.str (Str.ofString "{,a}{b,}"), V.ref s7])) s9 (.lst [V.str (Str.ofString "{a}"), V.str (Str.ofString "b")])) s10 (.tup [V.str (Str.ofString "{{a},b}"), V.ref s9])) s11 (.lst [V.ref s2, V.ref s4, V.ref s6, V.ref s8, V.ref s10])) = Ht at *
      generalize vs ++ [V.ref s2, V.ref s4, V.ref s6, V.ref s8, V.ref s10] = us at hB3 ⊢
      refine ⟨_, rfl, _, rfl, ⟨_, .of upd_same⟩, fun D hD => ?_⟩
      have lus := hB3.length
      replace lus : us.length = 13 := lus
      have hO3 := (Same.refl Ht).upd_new hs12 (o := .lst us)
      refine lc_same (walk_list (xs := us)) hD (fun j H' acc => acc = []) rfl (fun H' s8 => s8.seq (.of upd_same)) (fun j x H8 H9 acc hj s8 hacc ea hy => ?_) (fun H8 acc s8 hacc ea => ?_)
      · subst ea
        obtain ⟨rfl, hx⟩ := hy
        obtain ⟨r, hr, q, l, rfl, hq, hl⟩ := hB3.get hx
        obtain ⟨hb, hn⟩ := RW_ok r (List.mem_of_getElem? hr)
        have s9 : Same Ht H9 := hO3.trans s8
        refine ⟨_, _, rfl, .of (s9 _ _ hq), rfl, _, _, rfl, _, _, rfl, rfl, rfl, ?_⟩
        refine ⟨_, rfl, r.1, 40, r.2, rfl, hb, fun H10 p10 S10 u1 u2 => ⟨_, rfl, _, _, .list (r.2.map fun x => .str (tS x)), rfl, .lst (.of u2) (dp_strs _), .lst (.of (S10 _ _ (s9 _ _ hl))) (dp_strs _), ?_, ?_, fun H11 S11 => ⟨_, rfl, ?_⟩⟩⟩
        · simp only [PyData.depth, depth_strs]; decide
        · simp only [nodes, nodes_strs]; omega
        · refine iteF ?_
          exact ⟨(s8.trans S10).trans S11, _, (S10.trans S11) _ _ hacc, rfl⟩
      · subst ea
        refine ⟨sizeOf (by simp), fun z hz => ⟨_, _, _, rfl, rfl, .of (keepN hacc hz), .of upd_same, _, rfl, ?_⟩⟩
        refine iteT ?_
        refine ⟨_, rfl, w0, g, _, rfl, ((((Wr.same hO2).new hs12).same s8).new hz), by decide, fun H12 O12 => k _⟩
end
end B34

set_option autoImplicit true
set_option Elab.async false
set_option linter.all false
set_option maxRecDepth 100000
set_option maxHeartbeats 8000000
namespace B34
open PySem L2
theorem exm_one {K : PySem.W.Frag} {S : Addr} (h1 : PySem.W.subIn K (.ref S) (.type "BaseException") = some true) (h2 : PySem.W.isClsIn K S = true) (h3 : PySem.W.typeIn K (.ref S) = some (.type "type")) (h4 : PySem.W.subIn K (.ref S) (.ref S) = some true) :
    PySem.W.exmOne K (.ref S) (.ref S) = some true := by
  have e1 : (PySem.W.subIn K (.ref S) (.type "BaseException") == some true) = true := by rw [h1] <;> rfl
  have e2 : ((PySem.W.clsIn K S).isSome && PySem.W.typeIn K (.ref S) == some (.type "type")) = true := by
    have h2' : (PySem.W.clsIn K S).isSome = true := h2
    rw [h2', h3] <;> rfl
  show (if (PySem.W.subIn K (.ref S) (.type "BaseException") == some true) = true then (if ((PySem.W.clsIn K S).isSome && PySem.W.typeIn K (.ref S) == some (.type "type")) = true then PySem.W.subIn K (.ref S) (.ref S) else none) else none) = some true
  rw [if_pos e1, if_pos e2]
  exact h4
/-! ### the end -/
def adr (l : List Addr) (i : Nat) : Addr := l.getD i 0
theorem all_mk {P : Program} {w : World} {K : PySem.W.Frag} {h : Heap} {mg : Str → Option Value} {fa f0 f1 f2 f3 f4 f5 f6 f7 f8 f9 f10 f11 f12 f13 f14 f15 : Addr}
    {od0 an0 od1 an1 od2 an2 od3 an3 od4 an4 od5 an5 od6 an6 od7 an7 od8 an8 od9 an9 od10 an10 od11 an11 od12 an12 od13 an13 od14 an14 od15 an15 : Option Addr} {sl0 sl1 sl2 sl3 sl4 sl5 sl6 sl7 sl8 sl9 sl10 sl11 sl12 sl13 sl14 sl15 : Array (Option Value)} {oc0 kV0 dc0 pm0 cd0 ct0 oc1 kV1 dc1 pm1 cd1 ct1 oc2 kV2 dc2 pm2 cd2 ct2 oc3 kV3 dc3 pm3 cd3 ct3 oc4 kV4 dc4 pm4 cd4 ct4 oc5 kV5 dc5 pm5 cd5 ct5 oc6 kV6 dc6 pm6 cd6 ct6 oc7 kV7 dc7 pm7 cd7 ct7 oc8 kV8 dc8 pm8 cd8 ct8 oc9 kV9 dc9 pm9 cd9 ct9 oc10 kV10 dc10 pm10 cd10 ct10 oc11 kV11 dc11 pm11 cd11 ct11 oc12 kV12 dc12 pm12 cd12 ct12 oc13 kV13 dc13 pm13 cd13 ct13 oc14 kV14 dc14 pm14 cd14 ct14 oc15 kV15 dc15 pm15 cd15 ct15 : Value}
    {t_MOST_TEXTS : Tok}
    {C_TooLarge fI_TooLarge cda_TooLarge cc_TooLarge N_TooLarge B0_TooLarge : Addr}
    {nm_TooLarge q_TooLarge file_TooLarge : Str} {bs_TooLarge : List Value} {sn_TooLarge : List Str} {sub_TooLarge : List Value} {ab_TooLarge : Bool} {col_TooLarge : Option Bool} {dd_TooLarge : Option Addr} {m0_TooLarge m1_TooLarge m2_TooLarge m3_TooLarge m5_TooLarge : Option Value}
    {oc_TooLarge dc_TooLarge pm_TooLarge ct_TooLarge ccl_TooLarge cl_TooLarge : Value} {od_TooLarge an_TooLarge cdd_TooLarge cld_TooLarge : Option Addr} {sl_TooLarge ccs_TooLarge csl_TooLarge : Array (Option Value)} {vs_TooLarge : Array Value} {tf_TooLarge : Tok} (X : K.In h) (G : h.Ns mainGlobals mg) (hfa : mg "law" = some (.ref fa))
    (a0 : PySem.W.nsIn K mainGlobals "groups_of" = some (some (.ref f0)))
    (l0 : K.lookup f0 = some ⟨oc0, od0, .func (PySem.W.fnOf "groups_of" "groups_of" (defArgs s_groups_of) (defBody s_groups_of) (defScope s_groups_of) .none kV0 dc0 pm0 an0 cd0 ct0), sl0⟩)
    (c0 : PySem.W.codeIn K cd0 "groups_of" = true)
    (k0 : PySem.W.keepIn K (.ref f0) = true)
    (a1 : PySem.W.nsIn K mainGlobals "replaced" = some (some (.ref f1)))
    (l1 : K.lookup f1 = some ⟨oc1, od1, .func (PySem.W.fnOf "replaced" "replaced" (defArgs s_replaced) (defBody s_replaced) (defScope s_replaced) .none kV1 dc1 pm1 an1 cd1 ct1), sl1⟩)
    (c1 : PySem.W.codeIn K cd1 "replaced" = true)
    (k1 : PySem.W.keepIn K (.ref f1) = true)
    (a2 : PySem.W.nsIn K mainGlobals "braced" = some (some (.ref f2)))
    (l2 : K.lookup f2 = some ⟨oc2, od2, .func (PySem.W.fnOf "braced" "braced" (defArgs s_braced) (defBody s_braced) (defScope s_braced) .none kV2 dc2 pm2 an2 cd2 ct2), sl2⟩)
    (c2 : PySem.W.codeIn K cd2 "braced" = true)
    (k2 : PySem.W.keepIn K (.ref f2) = true)
    (a3 : PySem.W.nsIn K mainGlobals "_law_well" = some (some (.ref f3)))
    (l3 : K.lookup f3 = some ⟨oc3, od3, .func (PySem.W.fnOf "_law_well" "_law_well" (defArgs s__law_well) (defBody s__law_well) (defScope s__law_well) .none kV3 dc3 pm3 an3 cd3 ct3), sl3⟩)
    (c3 : PySem.W.codeIn K cd3 "_law_well" = true)
    (k3 : PySem.W.keepIn K (.ref f3) = true)
    (a4 : PySem.W.nsIn K mainGlobals "_law_dip" = some (some (.ref f4)))
    (l4 : K.lookup f4 = some ⟨oc4, od4, .func (PySem.W.fnOf "_law_dip" "_law_dip" (defArgs s__law_dip) (defBody s__law_dip) (defScope s__law_dip) .none kV4 dc4 pm4 an4 cd4 ct4), sl4⟩)
    (c4 : PySem.W.codeIn K cd4 "_law_dip" = true)
    (k4 : PySem.W.keepIn K (.ref f4) = true)
    (a5 : PySem.W.nsIn K mainGlobals "_law_one" = some (some (.ref f5)))
    (l5 : K.lookup f5 = some ⟨oc5, od5, .func (PySem.W.fnOf "_law_one" "_law_one" (defArgs s__law_one) (defBody s__law_one) (defScope s__law_one) .none kV5 dc5 pm5 an5 cd5 ct5), sl5⟩)
    (c5 : PySem.W.codeIn K cd5 "_law_one" = true)
    (k5 : PySem.W.keepIn K (.ref f5) = true)
    (a6 : PySem.W.nsIn K mainGlobals "_law_mixed" = some (some (.ref f6)))
    (l6 : K.lookup f6 = some ⟨oc6, od6, .func (PySem.W.fnOf "_law_mixed" "_law_mixed" (defArgs s__law_mixed) (defBody s__law_mixed) (defScope s__law_mixed) .none kV6 dc6 pm6 an6 cd6 ct6), sl6⟩)
    (c6 : PySem.W.codeIn K cd6 "_law_mixed" = true)
    (k6 : PySem.W.keepIn K (.ref f6) = true)
    (a7 : PySem.W.nsIn K mainGlobals "_law_alike" = some (some (.ref f7)))
    (l7 : K.lookup f7 = some ⟨oc7, od7, .func (PySem.W.fnOf "_law_alike" "_law_alike" (defArgs s__law_alike) (defBody s__law_alike) (defScope s__law_alike) .none kV7 dc7 pm7 an7 cd7 ct7), sl7⟩)
    (c7 : PySem.W.codeIn K cd7 "_law_alike" = true)
    (k7 : PySem.W.keepIn K (.ref f7) = true)
    (a8 : PySem.W.nsIn K mainGlobals "_law_signs" = some (some (.ref f8)))
    (l8 : K.lookup f8 = some ⟨oc8, od8, .func (PySem.W.fnOf "_law_signs" "_law_signs" (defArgs s__law_signs) (defBody s__law_signs) (defScope s__law_signs) .none kV8 dc8 pm8 an8 cd8 ct8), sl8⟩)
    (c8 : PySem.W.codeIn K cd8 "_law_signs" = true)
    (k8 : PySem.W.keepIn K (.ref f8) = true)
    (a9 : PySem.W.nsIn K mainGlobals "_law_row" = some (some (.ref f9)))
    (l9 : K.lookup f9 = some ⟨oc9, od9, .func (PySem.W.fnOf "_law_row" "_law_row" (defArgs s__law_row) (defBody s__law_row) (defScope s__law_row) .none kV9 dc9 pm9 an9 cd9 ct9), sl9⟩)
    (c9 : PySem.W.codeIn K cd9 "_law_row" = true)
    (k9 : PySem.W.keepIn K (.ref f9) = true)
    (a10 : PySem.W.nsIn K mainGlobals "_law_pairs" = some (some (.ref f10)))
    (l10 : K.lookup f10 = some ⟨oc10, od10, .func (PySem.W.fnOf "_law_pairs" "_law_pairs" (defArgs s__law_pairs) (defBody s__law_pairs) (defScope s__law_pairs) .none kV10 dc10 pm10 an10 cd10 ct10), sl10⟩)
    (c10 : PySem.W.codeIn K cd10 "_law_pairs" = true)
    (k10 : PySem.W.keepIn K (.ref f10) = true)
    (a11 : PySem.W.nsIn K mainGlobals "_law_thing" = some (some (.ref f11)))
    (l11 : K.lookup f11 = some ⟨oc11, od11, .func (PySem.W.fnOf "_law_thing" "_law_thing" (defArgs s__law_thing) (defBody s__law_thing) (defScope s__law_thing) .none kV11 dc11 pm11 an11 cd11 ct11), sl11⟩)
    (c11 : PySem.W.codeIn K cd11 "_law_thing" = true)
    (k11 : PySem.W.keepIn K (.ref f11) = true)
    (a12 : PySem.W.nsIn K mainGlobals "_law_told" = some (some (.ref f12)))
    (l12 : K.lookup f12 = some ⟨oc12, od12, .func (PySem.W.fnOf "_law_told" "_law_told" (defArgs s__law_told) (defBody s__law_told) (defScope s__law_told) .none kV12 dc12 pm12 an12 cd12 ct12), sl12⟩)
    (c12 : PySem.W.codeIn K cd12 "_law_told" = true)
    (k12 : PySem.W.keepIn K (.ref f12) = true)
    (a13 : PySem.W.nsIn K mainGlobals "_law_tree_right" = some (some (.ref f13)))
    (l13 : K.lookup f13 = some ⟨oc13, od13, .func (PySem.W.fnOf "_law_tree_right" "_law_tree_right" (defArgs s__law_tree_right) (defBody s__law_tree_right) (defScope s__law_tree_right) .none kV13 dc13 pm13 an13 cd13 ct13), sl13⟩)
    (c13 : PySem.W.codeIn K cd13 "_law_tree_right" = true)
    (k13 : PySem.W.keepIn K (.ref f13) = true)
    (a14 : PySem.W.nsIn K mainGlobals "_law_products_right" = some (some (.ref f14)))
    (l14 : K.lookup f14 = some ⟨oc14, od14, .func (PySem.W.fnOf "_law_products_right" "_law_products_right" (defArgs s__law_products_right) (defBody s__law_products_right) (defScope s__law_products_right) .none kV14 dc14 pm14 an14 cd14 ct14), sl14⟩)
    (c14 : PySem.W.codeIn K cd14 "_law_products_right" = true)
    (k14 : PySem.W.keepIn K (.ref f14) = true)
    (a15 : PySem.W.nsIn K mainGlobals "law" = some (some (.ref f15)))
    (l15 : K.lookup f15 = some ⟨oc15, od15, .func (PySem.W.fnOf "law" "law" (defArgs s_law) (defBody s_law) (defScope s_law) .none kV15 dc15 pm15 an15 cd15 ct15), sl15⟩)
    (c15 : PySem.W.codeIn K cd15 "law" = true)
    (k15 : PySem.W.keepIn K (.ref f15) = true)
    (z_len : PySem.W.nsIn K mainGlobals "len" = some none)
    (z_int : PySem.W.nsIn K mainGlobals "int" = some none)
    (z_abs : PySem.W.nsIn K mainGlobals "abs" = some none)
    (z_enumerate : PySem.W.nsIn K mainGlobals "enumerate" = some none)
    (z_range : PySem.W.nsIn K mainGlobals "range" = some none)
    (z_list : PySem.W.nsIn K mainGlobals "list" = some none)
    (z_isinstance : PySem.W.nsIn K mainGlobals "isinstance" = some none)
    (z_dict : PySem.W.nsIn K mainGlobals "dict" = some none)
    (z_tuple : PySem.W.nsIn K mainGlobals "tuple" = some none)
    (z_bool : PySem.W.nsIn K mainGlobals "bool" = some none)
    (z_str : PySem.W.nsIn K mainGlobals "str" = some none)
    (z_all : PySem.W.nsIn K mainGlobals "all" = some none)
    (z_zip : PySem.W.nsIn K mainGlobals "zip" = some none)
    (z_min : PySem.W.nsIn K mainGlobals "min" = some none)
    (z_set : PySem.W.nsIn K mainGlobals "set" = some none)
    (g_MOST_TEXTS : PySem.W.nsIn K mainGlobals "MOST_TEXTS" = some (some (.int 200 t_MOST_TEXTS)))
    (aC_TooLarge : PySem.W.nsIn K mainGlobals "TooLarge" = some (some (.ref C_TooLarge)))
    (xL_TooLarge : K.lookup C_TooLarge = some (PySem.excClassObj nm_TooLarge q_TooLarge C_TooLarge N_TooLarge bs_TooLarge [.ref B0_TooLarge, .type "ValueError", .type "Exception", .type "BaseException", .type "object"] true sn_TooLarge sub_TooLarge ab_TooLarge col_TooLarge dd_TooLarge m0_TooLarge m1_TooLarge m2_TooLarge m3_TooLarge m5_TooLarge "ValueError.__new__"))
    (sa_TooLarge : PySem.W.findIn K (.ref C_TooLarge) "__setattr__" = some (some (.builtin "object.__setattr__")))
    (nf_limit_TooLarge : PySem.W.findIn K (.ref C_TooLarge) "limit" = some none)
    (iC_TooLarge : PySem.W.findIn K (.ref C_TooLarge) "__init__" = some (some (.ref fI_TooLarge)))
    (tC_TooLarge : PySem.W.typeIn K (.ref fI_TooLarge) = some (.type "function"))
    (kC_TooLarge : PySem.W.keepIn K (.ref C_TooLarge) = true)
    (eC_TooLarge : PySem.W.subIn K (.ref C_TooLarge) (.type "BaseException") = some true)
    (yC_TooLarge : PySem.W.typeIn K (.ref C_TooLarge) = some (.type "type"))
    (vC_TooLarge : PySem.W.subIn K (.ref C_TooLarge) (.type "ValueError") = some true)
    (mC_TooLarge : PySem.W.mroIn K C_TooLarge (.ref C_TooLarge) = some true)
    (oq_TooLarge : PySem.W.nsIn K cStatics "thirdparty.any" = some none)
    (su_TooLarge : PySem.W.nsIn K mainGlobals "super" = some none)
    (al_TooLarge : PySem.W.ks_superIn K C_TooLarge C_TooLarge "__init__" = some (some (.builtin "ValueError.__init__")))
    (nt_TooLarge : (P.main.scope.names.lookup ("super" : Str)).isSome = false)
    (lI_TooLarge : K.lookup fI_TooLarge = some ⟨oc_TooLarge, od_TooLarge, .func (PySem.W.ksFn "__init__" "TooLarge.__init__" xP_TooLarge xB_TooLarge (PySem.SupX.supS ["limit"]) .none .none dc_TooLarge pm_TooLarge an_TooLarge (.ref cda_TooLarge) ct_TooLarge cc_TooLarge), sl_TooLarge⟩)
    (cI_TooLarge : PySem.W.codeIn K (.ref cda_TooLarge) "TooLarge.__init__" = true)
    (lD_TooLarge : K.lookup cda_TooLarge = some ⟨ccl_TooLarge, cdd_TooLarge, .fields vs_TooLarge, ccs_TooLarge⟩)
    (v2_TooLarge : vs_TooLarge[2]? = some (.str file_TooLarge tf_TooLarge))
    (lc_TooLarge : K.lookup cc_TooLarge = some ⟨cl_TooLarge, cld_TooLarge, .cell (some (.ref C_TooLarge)), csl_TooLarge⟩)
    (hf_TooLarge : ((P.main.file : Str) == file_TooLarge) = true)
    (ga_TooLarge : PySem.W.findIn K (.ref C_TooLarge) "__getattribute__" = some (some (.builtin "BaseException.__getattribute__")))
    (gg_TooLarge : PySem.W.findIn K (.ref C_TooLarge) "__getattr__" = some none)
    (hC_TooLarge : PySem.W.hasDictIn K C_TooLarge = true)
    (ic_TooLarge : PySem.W.isClsIn K C_TooLarge = true)
    (sC_TooLarge : PySem.W.subIn K (.ref C_TooLarge) (.ref C_TooLarge) = some true)
    : ∃ fd : FuncData, (∀ (s : Shared) (v : Value), BindsTo s fd ⟨[v], []⟩ [("script", v)]) ∧ ∀ base : Heap, K.In base → base.Ns mainGlobals mg → FnOk P w K mg base CX0 21 fa fd ["script"] (spLaw K) := by
  have e := hfa.symm.trans (PySem.W.mg_of X G a15)
  cases e
  have F0 := fun_mk (st := s_groups_of) l0 c0 k0
  have F1 := fun_mk (st := s_replaced) l1 c1 k1
  have F2 := fun_mk (st := s_braced) l2 c2 k2
  have F3 := fun_mk (st := s__law_well) l3 c3 k3
  have F4 := fun_mk (st := s__law_dip) l4 c4 k4
  have F5 := fun_mk (st := s__law_one) l5 c5 k5
  have F6 := fun_mk (st := s__law_mixed) l6 c6 k6
  have F7 := fun_mk (st := s__law_alike) l7 c7 k7
  have F8 := fun_mk (st := s__law_signs) l8 c8 k8
  have F9 := fun_mk (st := s__law_row) l9 c9 k9
  have F10 := fun_mk (st := s__law_pairs) l10 c10 k10
  have F11 := fun_mk (st := s__law_thing) l11 c11 k11
  have F12 := fun_mk (st := s__law_told) l12 c12 k12
  have F13 := fun_mk (st := s__law_tree_right) l13 c13 k13
  have F14 := fun_mk (st := s__law_products_right) l14 c14 k14
  have F15 := fun_mk (st := s_law) l15 c15 k15
  have T : Txt K mg (adr [f0, f1, f2, f3, f4, f5, f6, f7, f8, f9, f10, f11, f12, f13, f14, fa]) (fun i => [PySem.W.fnOf "groups_of" "groups_of" (defArgs s_groups_of) (defBody s_groups_of) (defScope s_groups_of) .none kV0 dc0 pm0 an0 cd0 ct0, PySem.W.fnOf "replaced" "replaced" (defArgs s_replaced) (defBody s_replaced) (defScope s_replaced) .none kV1 dc1 pm1 an1 cd1 ct1, PySem.W.fnOf "braced" "braced" (defArgs s_braced) (defBody s_braced) (defScope s_braced) .none kV2 dc2 pm2 an2 cd2 ct2, PySem.W.fnOf "_law_well" "_law_well" (defArgs s__law_well) (defBody s__law_well) (defScope s__law_well) .none kV3 dc3 pm3 an3 cd3 ct3, PySem.W.fnOf "_law_dip" "_law_dip" (defArgs s__law_dip) (defBody s__law_dip) (defScope s__law_dip) .none kV4 dc4 pm4 an4 cd4 ct4, PySem.W.fnOf "_law_one" "_law_one" (defArgs s__law_one) (defBody s__law_one) (defScope s__law_one) .none kV5 dc5 pm5 an5 cd5 ct5, PySem.W.fnOf "_law_mixed" "_law_mixed" (defArgs s__law_mixed) (defBody s__law_mixed) (defScope s__law_mixed) .none kV6 dc6 pm6 an6 cd6 ct6, PySem.W.fnOf "_law_alike" "_law_alike" (defArgs s__law_alike) (defBody s__law_alike) (defScope s__law_alike) .none kV7 dc7 pm7 an7 cd7 ct7, PySem.W.fnOf "_law_signs" "_law_signs" (defArgs s__law_signs) (defBody s__law_signs) (defScope s__law_signs) .none kV8 dc8 pm8 an8 cd8 ct8, PySem.W.fnOf "_law_row" "_law_row" (defArgs s__law_row) (defBody s__law_row) (defScope s__law_row) .none kV9 dc9 pm9 an9 cd9 ct9, PySem.W.fnOf "_law_pairs" "_law_pairs" (defArgs s__law_pairs) (defBody s__law_pairs) (defScope s__law_pairs) .none kV10 dc10 pm10 an10 cd10 ct10, PySem.W.fnOf "_law_thing" "_law_thing" (defArgs s__law_thing) (defBody s__law_thing) (defScope s__law_thing) .none kV11 dc11 pm11 an11 cd11 ct11, PySem.W.fnOf "_law_told" "_law_told" (defArgs s__law_told) (defBody s__law_told) (defScope s__law_told) .none kV12 dc12 pm12 an12 cd12 ct12, PySem.W.fnOf "_law_tree_right" "_law_tree_right" (defArgs s__law_tree_right) (defBody s__law_tree_right) (defScope s__law_tree_right) .none kV13 dc13 pm13 an13 cd13 ct13, PySem.W.fnOf "_law_products_right" "_law_products_right" (defArgs s__law_products_right) (defBody s__law_products_right) (defScope s__law_products_right) .none kV14 dc14 pm14 an14 cd14 ct14, PySem.W.fnOf "law" "law" (defArgs s_law) (defBody s_law) (defScope s_law) .none kV15 dc15 pm15 an15 cd15 ct15].getD i (PySem.W.fnOf "groups_of" "groups_of" (defArgs s_groups_of) (defBody s_groups_of) (defScope s_groups_of) .none kV0 dc0 pm0 an0 cd0 ct0)) :=
    { n_len := PySem.W.mg_none_of X G z_len,
      n_int := PySem.W.mg_none_of X G z_int,
      n_abs := PySem.W.mg_none_of X G z_abs,
      n_enumerate := PySem.W.mg_none_of X G z_enumerate,
      n_range := PySem.W.mg_none_of X G z_range,
      n_list := PySem.W.mg_none_of X G z_list,
      n_isinstance := PySem.W.mg_none_of X G z_isinstance,
      n_dict := PySem.W.mg_none_of X G z_dict,
      n_tuple := PySem.W.mg_none_of X G z_tuple,
      n_bool := PySem.W.mg_none_of X G z_bool,
      n_str := PySem.W.mg_none_of X G z_str,
      n_all := PySem.W.mg_none_of X G z_all,
      n_zip := PySem.W.mg_none_of X G z_zip,
      n_min := PySem.W.mg_none_of X G z_min,
      n_set := PySem.W.mg_none_of X G z_set,
      g_MOST_TEXTS := ⟨_, PySem.W.mg_of X G g_MOST_TEXTS⟩,
      m_groups_of := PySem.W.mg_of X G a0,
      F_groups_of := F0,
      b_groups_of := F0.binds (ps := ["text"]) fun _ _ _ _ _ _ us hl => match us, hl with | [_], _ => rfl,
      m_replaced := PySem.W.mg_of X G a1,
      F_replaced := F1,
      b_replaced := F1.binds (ps := ["text", "group"]) fun _ _ _ _ _ _ us hl => match us, hl with | [_, _], _ => rfl,
      m_braced := PySem.W.mg_of X G a2,
      F_braced := F2,
      b_braced := F2.binds (ps := ["text"]) fun _ _ _ _ _ _ us hl => match us, hl with | [_], _ => rfl,
      m__law_well := PySem.W.mg_of X G a3,
      F__law_well := F3,
      b__law_well := F3.binds (ps := ["script"]) fun _ _ _ _ _ _ us hl => match us, hl with | [_], _ => rfl,
      m__law_dip := PySem.W.mg_of X G a4,
      F__law_dip := F4,
      b__law_dip := F4.binds (ps := ["well", "many"]) fun _ _ _ _ _ _ us hl => match us, hl with | [_, _], _ => rfl,
      m__law_one := PySem.W.mg_of X G a5,
      F__law_one := F5,
      b__law_one := F5.binds (ps := ["well", "items"]) fun _ _ _ _ _ _ us hl => match us, hl with | [_, _], _ => rfl,
      m__law_mixed := PySem.W.mg_of X G a6,
      F__law_mixed := F6,
      b__law_mixed := F6.binds (ps := ["well", "items"]) fun _ _ _ _ _ _ us hl => match us, hl with | [_, _], _ => rfl,
      m__law_alike := PySem.W.mg_of X G a7,
      F__law_alike := F7,
      b__law_alike := F7.binds (ps := ["found", "due"]) fun _ _ _ _ _ _ us hl => match us, hl with | [_, _], _ => rfl,
      m__law_signs := PySem.W.mg_of X G a8,
      F__law_signs := F8,
      b__law_signs := F8.binds (ps := ["well"]) fun _ _ _ _ _ _ us hl => match us, hl with | [_], _ => rfl,
      m__law_row := PySem.W.mg_of X G a9,
      F__law_row := F9,
      b__law_row := F9.binds (ps := ["well", "deep", "most"]) fun _ _ _ _ _ _ us hl => match us, hl with | [_, _, _], _ => rfl,
      m__law_pairs := PySem.W.mg_of X G a10,
      F__law_pairs := F10,
      b__law_pairs := F10.binds (ps := ["some", "others"]) fun _ _ _ _ _ _ us hl => match us, hl with | [_, _], _ => rfl,
      m__law_thing := PySem.W.mg_of X G a11,
      F__law_thing := F11,
      b__law_thing := F11.binds (ps := ["well", "deep"]) fun _ _ _ _ _ _ us hl => match us, hl with | [_, _], _ => rfl,
      m__law_told := PySem.W.mg_of X G a12,
      F__law_told := F12,
      b__law_told := F12.binds (ps := ["text"]) fun _ _ _ _ _ _ us hl => match us, hl with | [_], _ => rfl,
      m__law_tree_right := PySem.W.mg_of X G a13,
      F__law_tree_right := F13,
      b__law_tree_right := F13.binds (ps := ["well"]) fun _ _ _ _ _ _ us hl => match us, hl with | [_], _ => rfl,
      m__law_products_right := PySem.W.mg_of X G a14,
      F__law_products_right := F14,
      b__law_products_right := F14.binds (ps := ["well"]) fun _ _ _ _ _ _ us hl => match us, hl with | [_], _ => rfl,
      m_law := PySem.W.mg_of X G a15,
      F_law := F15,
      b_law := F15.binds (ps := ["script"]) fun _ _ _ _ _ _ us hl => match us, hl with | [_], _ => rfl }
  have X_TooLarge : Exc_TooLarge P K mg C_TooLarge fI_TooLarge file_TooLarge :=
    { tl := { cls := ⟨nm_TooLarge, q_TooLarge, N_TooLarge, bs_TooLarge, _, sn_TooLarge, sub_TooLarge, ab_TooLarge, col_TooLarge, dd_TooLarge, m0_TooLarge, m1_TooLarge, m2_TooLarge, m3_TooLarge, m5_TooLarge, xL_TooLarge, rfl⟩, sa := sa_TooLarge, noN := by intro f hf; simp only [List.mem_cons, List.not_mem_nil, or_false] at hf; rcases hf with rfl; exact nf_limit_TooLarge, iC := iC_TooLarge, tC := tC_TooLarge, kC := kC_TooLarge, exC := eC_TooLarge, tyC := yC_TooLarge, veC := vC_TooLarge, selfC := mC_TooLarge, opq := oq_TooLarge, sup := su_TooLarge, along := al_TooLarge, notop := nt_TooLarge,
              fn := ⟨_, _, _, _, _, _, _, _, _, _, _, _, _, _, _, _, _, lI_TooLarge, cI_TooLarge, lD_TooLarge, v2_TooLarge, lc_TooLarge⟩ },
      hf := hf_TooLarge, gC := PySem.W.mg_of X G aC_TooLarge, xf := ⟨ga_TooLarge, gg_TooLarge, eC_TooLarge, hC_TooLarge⟩, te := exm_one eC_TooLarge ic_TooLarge yC_TooLarge sC_TooLarge }
  exact ⟨PySem.W.fnOf "law" "law" (defArgs s_law) (defBody s_law) (defScope s_law) .none kV15 dc15 pm15 an15 cd15 ct15, fun s v => .of_eq rfl, fun base _ _ => ok_law T X_TooLarge⟩
theorem walk {l : PySem.W.OpenLaw} {q : Program} {loose : List Str} {XP : (Str → Option Value) → Heap → Prop} {YP : World → Heap → Prop} {d : DefRec} {K : Params → PySem.W.Frag} (hn : l.most = some 63) (hdf : d.params.defaults = [])
    (hY : ∀ (w : World) (h : Heap), YP w h → (K w.params).In h)
    (F : ∀ (w : World) (mg : Str → Option Value) (fa : Addr) (h : Heap), (K w.params).In h → h.Ns mainGlobals mg → mg d.name = some (.ref fa) →
      ∃ fd : FuncData, (∀ (s : Shared) (u : Value), BindsTo s fd ⟨[u], []⟩ [("script", u)]) ∧ ∀ base : Heap, (K w.params).In base → base.Ns mainGlobals mg → FnOk l.prog w (K w.params) mg base CX0 21 fa fd ["script"] (spLaw (K w.params))) :
    PySem.W.WalkO q loose XP YP l.row.toRowW d [] (fun f vs => PySem.call f vs) :=
  L2.walk_of (n := 63) (k := 21) (x := "script") (CX := fun _ => CX0) (sp := fun w => spLaw (K w.params)) hn (by decide) hdf ⟨rfl, by decide, by decide⟩ hY F (fun _ _ a ns hl _ hS => ⟨a, ns, rfl, hS, hl, fun _ => rfl⟩) fun _ _ _ _ _ z => z
end B34
open PySem PySem.W PyProof.Rows in
set_option maxRecDepth 100000 in
set_option maxHeartbeats 0 in
theorem PySem.Challenge.cw_tasksapart_k34_whole_braces_grown_from_t_holds : PySem.Challenge.rw_tasksapart_k34_whole_braces_grown_from_t.Holds := by
  w_on; o_law; k_head; (case hw => w_witness2)
  k_fill
  refine B34.walk (l := PySem.Challenge.rw_tasksapart_k34_whole_braces_grown_from_t) rfl rfl (fun w h Y => PySem.W.kIn_of Y) ?F
  case F =>
    intro w mg fa h KX G hmg
    refine' B34.all_mk KX G hmg ?a0 ?l0 ?c0 ?k0 ?a1 ?l1 ?c1 ?k1 ?a2 ?l2 ?c2 ?k2 ?a3 ?l3 ?c3 ?k3 ?a4 ?l4 ?c4 ?k4 ?a5 ?l5 ?c5 ?k5 ?a6 ?l6 ?c6 ?k6 ?a7 ?l7 ?c7 ?k7 ?a8 ?l8 ?c8 ?k8 ?a9 ?l9 ?c9 ?k9 ?a10 ?l10 ?c10 ?k10 ?a11 ?l11 ?c11 ?k11 ?a12 ?l12 ?c12 ?k12 ?a13 ?l13 ?c13 ?k13 ?a14 ?l14 ?c14 ?k14 ?a15 ?l15 ?c15 ?k15 ?z_len ?z_int ?z_abs ?z_enumerate ?z_range ?z_list ?z_isinstance ?z_dict ?z_tuple ?z_bool ?z_str ?z_all ?z_zip ?z_min ?z_set ?g_MOST_TEXTS ?aC_TooLarge ?xL_TooLarge ?sa_TooLarge ?nf_limit_TooLarge ?iC_TooLarge ?tC_TooLarge ?kC_TooLarge ?eC_TooLarge ?yC_TooLarge ?vC_TooLarge ?mC_TooLarge ?oq_TooLarge ?su_TooLarge ?al_TooLarge ?nt_TooLarge ?lI_TooLarge ?cI_TooLarge ?lD_TooLarge ?v2_TooLarge ?lc_TooLarge ?hf_TooLarge ?ga_TooLarge ?gg_TooLarge ?hC_TooLarge ?ic_TooLarge ?sC_TooLarge
    (case a0 => k_is)
    (case l0 => k_is)
    (case c0 => k_is)
    (case k0 => k_is)
    (case a1 => k_is)
    (case l1 => k_is)
    (case c1 => k_is)
    (case k1 => k_is)
    (case a2 => k_is)
    (case l2 => k_is)
    (case c2 => k_is)
    (case k2 => k_is)
    (case a3 => k_is)
    (case l3 => k_is)
    (case c3 => k_is)
    (case k3 => k_is)
    (case a4 => k_is)
    (case l4 => k_is)
    (case c4 => k_is)
    (case k4 => k_is)
    (case a5 => k_is)
    (case l5 => k_is)
    (case c5 => k_is)
    (case k5 => k_is)
    (case a6 => k_is)
    (case l6 => k_is)
    (case c6 => k_is)
    (case k6 => k_is)
    (case a7 => k_is)
    (case l7 => k_is)
    (case c7 => k_is)
    (case k7 => k_is)
    (case a8 => k_is)
    (case l8 => k_is)
    (case c8 => k_is)
    (case k8 => k_is)
    (case a9 => k_is)
    (case l9 => k_is)
    (case c9 => k_is)
    (case k9 => k_is)
    (case a10 => k_is)
    (case l10 => k_is)
    (case c10 => k_is)
    (case k10 => k_is)
    (case a11 => k_is)
    (case l11 => k_is)
    (case c11 => k_is)
    (case k11 => k_is)
    (case a12 => k_is)
    (case l12 => k_is)
    (case c12 => k_is)
    (case k12 => k_is)
    (case a13 => k_is)
    (case l13 => k_is)
    (case c13 => k_is)
    (case k13 => k_is)
    (case a14 => k_is)
    (case l14 => k_is)
    (case c14 => k_is)
    (case k14 => k_is)
    (case a15 => k_is)
    (case l15 => k_is)
    (case c15 => k_is)
    (case k15 => k_is)
    (case z_len => k_is)
    (case z_int => k_is)
    (case z_abs => k_is)
    (case z_enumerate => k_is)
    (case z_range => k_is)
    (case z_list => k_is)
    (case z_isinstance => k_is)
    (case z_dict => k_is)
    (case z_tuple => k_is)
    (case z_bool => k_is)
    (case z_str => k_is)
    (case z_all => k_is)
    (case z_zip => k_is)
    (case z_min => k_is)
    (case z_set => k_is)
    (case g_MOST_TEXTS => k_is)
    (case aC_TooLarge => k_is)
    (case xL_TooLarge => k_is)
    (case sa_TooLarge => k_is)
    (case nf_limit_TooLarge => k_is)
    (case iC_TooLarge => k_is)
    (case tC_TooLarge => k_is)
    (case kC_TooLarge => k_is)
    (case eC_TooLarge => k_is)
    (case yC_TooLarge => k_is)
    (case vC_TooLarge => k_is)
    (case mC_TooLarge => first | rfl | k_is)
    (case oq_TooLarge => k_is)
    (case su_TooLarge => k_is)
    (case al_TooLarge => first | ks_is | k_is)
    (case nt_TooLarge => first | rfl | decide +kernel)
    (case lI_TooLarge => k_is)
    (case cI_TooLarge => k_is)
    (case lD_TooLarge => k_is)
    (case v2_TooLarge => rfl)
    (case lc_TooLarge => k_is)
    (case hf_TooLarge => first | rfl | decide +kernel)
    (case ga_TooLarge => k_is)
    (case gg_TooLarge => k_is)
    (case hC_TooLarge => k_is)
    (case ic_TooLarge => k_is)
    (case sC_TooLarge => first | rfl | k_is)
