import PyProof.Rows.All
import Wide.All
import OpenK.AllK
import Wide.FinOn
import HandS.ForMost
import HandS.ForExc
import HandS.ExcCtx
import HandS.HotCalls
import HandS.Defaults
import HandS.DictTup
import HandS.CallSlots
import HandS.Style
import HandS.TupLe
import HandS.IsInst
import HandS.ExcIs
import HandS.Deep
import HandS.Head0
import HandS.Head1
import HandS.Head2
import HandS.HeadEnd
import HandS.HeadHook1
import HandS.HeadHook2
import HandS.Rev
import PySem.Challenge.RW_lampyard_k11_whole_quiet_sets
set_option Elab.async false
set_option maxRecDepth 100000
set_option linter.all false
/-! Plain mathematics: sums mod 2, row steps, what a pivot is. -/
namespace Lm
/-- the sum mod 2 of f over 0 .. n - 1 -/
def sm : Nat → (Nat → Bool) → Bool
  | 0, _ => false
  | n + 1, f => sm n f ^^ f n
theorem sm_congr {n : Nat} {f g : Nat → Bool} (h : ∀ i, i < n → f i = g i) : sm n f = sm n g := by
  induction n with
  | zero => rfl
  | succ n ih =>
    show (sm n f ^^ f n) = (sm n g ^^ g n)
    rw [ih fun i hi => h i (by omega), h n (by omega)]
theorem sm_false (n : Nat) : sm n (fun _ => false) = false := by
  induction n with
  | zero => rfl
  | succ n ih => show (sm n (fun _ => false) ^^ false) = false; rw [ih]; rfl
theorem sm_zero {n : Nat} {f : Nat → Bool} (h : ∀ i, i < n → f i = false) : sm n f = false := (sm_congr h).trans (sm_false n)
theorem sm_xor {n : Nat} {f g : Nat → Bool} : sm n (fun i => f i ^^ g i) = (sm n f ^^ sm n g) := by
  induction n with
  | zero => rfl
  | succ n ih =>
    show (sm n (fun i => f i ^^ g i) ^^ (f n ^^ g n)) = ((sm n f ^^ f n) ^^ (sm n g ^^ g n))
    rw [ih]
    cases sm n f <;> cases sm n g <;> cases f n <;> cases g n <;> rfl
theorem sm_and {n : Nat} {b : Bool} {f : Nat → Bool} : sm n (fun i => b && f i) = (b && sm n f) := by
  cases b with
  | false => exact sm_false n
  | true => rfl
theorem sm_and' {n : Nat} {b : Bool} {f : Nat → Bool} : sm n (fun i => f i && b) = (sm n f && b) := by
  rw [Bool.and_comm, ← sm_and]
  exact sm_congr fun i _ => Bool.and_comm _ _
theorem sm_comm {n m : Nat} {f : Nat → Nat → Bool} : sm n (fun i => sm m (fun j => f i j)) = sm m (fun j => sm n (fun i => f i j)) := by
  induction n with
  | zero => exact (sm_false m).symm
  | succ n ih =>
    show (sm n (fun i => sm m (fun j => f i j)) ^^ sm m (fun j => f n j)) = sm m (fun j => sm n (fun i => f i j) ^^ f n j)
    rw [ih, sm_xor]
theorem sm_single {n k : Nat} {f : Nat → Bool} (hk : k < n) (h : ∀ i, i < n → i ≠ k → f i = false) : sm n f = f k := by
  induction n with
  | zero => omega
  | succ n ih =>
    show (sm n f ^^ f n) = f k
    by_cases e : k = n
    · subst e
      rw [sm_zero fun i hi => h i (by omega) (by omega)]
      exact Bool.false_xor _
    · rw [ih (by omega) fun i hi => h i (by omega), h n (by omega) (by omega)]
      exact Bool.xor_false _
theorem sm_le {n m : Nat} {f : Nat → Bool} (hn : n ≤ m) (h : ∀ i, n ≤ i → i < m → f i = false) : sm m f = sm n f := by
  induction m with
  | zero =>
    have e : n = 0 := by omega
    rw [e]
  | succ m ih =>
    by_cases e : n = m + 1
    · rw [e]
    · show (sm m f ^^ f m) = _
      rw [ih (by omega) fun i h1 h2 => h i h1 (by omega), h m (by omega) (by omega)]
      exact Bool.xor_false _
/-- a sum over all pairs of something symmetric is the sum over the diagonal -/
theorem sm_sym {n : Nat} {f : Nat → Nat → Bool} (h : ∀ i j, i < n → j < n → f i j = f j i) : sm n (fun i => sm n (fun j => f i j)) = sm n (fun i => f i i) := by
  induction n with
  | zero => rfl
  | succ n ih =>
    show (sm n (fun i => sm n (fun j => f i j) ^^ f i n) ^^ (sm n (fun j => f n j) ^^ f n n)) = (sm n (fun i => f i i) ^^ f n n)
    rw [sm_xor, ih fun i j hi hj => h i j (by omega) (by omega), sm_congr (f := fun i => f i n) (g := fun j => f n j) fun i hi => h i n (by omega) (by omega)]
    cases sm n (fun i => f i i) <;> cases sm n (fun j => f n j) <;> cases f n n <;> rfl
/-- how many, mod 2 -/
theorem sm_len (n : Nat) (f : Nat → Bool) : ((List.range n).filter f).length % 2 = if sm n f then 1 else 0 := by
  induction n with
  | zero => rfl
  | succ n ih =>
    rw [List.range_succ, List.filter_append, List.length_append]
    show (_ + (List.filter f [n]).length) % 2 = if (sm n f ^^ f n) then 1 else 0
    rw [Nat.add_mod, ih]
    cases h : f n with
    | true =>
      rw [List.filter_cons_of_pos h, List.filter_nil, List.length_singleton]
      cases sm n f <;> simp
    | false => rw [List.filter_cons_of_neg (by rw [h]; decide), List.filter_nil, List.length_nil]; cases sm n f <;> simp

/-! ### rows -/
/-- row k times x, over n columns -/
def dot (n : Nat) (r x : Nat → Bool) : Bool := sm n fun j => r j && x j
def Ker (m n : Nat) (R : Nat → Nat → Bool) (x : Nat → Bool) : Prop := ∀ k, k < m → dot n (R k) x = false
theorem dot_xor {n : Nat} {r s x : Nat → Bool} : dot n (fun j => r j ^^ s j) x = (dot n r x ^^ dot n s x) := by
  unfold dot
  rw [← sm_xor]
  exact sm_congr fun j _ => by dsimp only; cases r j <;> cases s j <;> cases x j <;> rfl
theorem dot_and {n : Nat} {b : Bool} {r x : Nat → Bool} : dot n (fun j => b && r j) x = (b && dot n r x) := by
  unfold dot
  rw [← sm_and]
  exact sm_congr fun j _ => by dsimp only; cases b <;> cases r j <;> cases x j <;> rfl
theorem dot_xor' {n : Nat} {r x y : Nat → Bool} : dot n r (fun j => x j ^^ y j) = (dot n r x ^^ dot n r y) := by
  unfold dot
  rw [← sm_xor]
  exact sm_congr fun j _ => by dsimp only; cases r j <;> cases x j <;> cases y j <;> rfl
theorem dot_congr {n : Nat} {r s x y : Nat → Bool} (h : ∀ j, j < n → r j = s j) (h2 : ∀ j, j < n → x j = y j) : dot n r x = dot n s y := sm_congr fun j hj => by rw [h j hj, h2 j hj]
/-- which row comes to place k when h and d change places -/
def sw (h d k : Nat) : Nat := if k = d then h else if k = h then d else k
theorem sw_lt {m h d k : Nat} (hh : h < m) (hd : d < m) (hk : k < m) : sw h d k < m := by
  unfold sw; split
  · exact hh
  · split <;> omega
theorem sw_sw (h d k : Nat) : sw h d (sw h d k) = k := by
  unfold sw
  by_cases h1 : k = d
  · subst h1
    rw [if_pos rfl]
    by_cases h2 : h = k
    · rw [if_pos h2]; exact h2
    · rw [if_neg h2, if_pos rfl]
  · rw [if_neg h1]
    by_cases h2 : k = h
    · subst h2
      rw [if_pos rfl, if_pos rfl]
    · rw [if_neg h2, if_neg h1, if_neg h2]
/-- one step: rows h and d change places, then row d is added to those that S tells -/
structure Stp (m d h : Nat) (S : Nat → Bool) (R R' : Nat → Nat → Bool) : Prop where
  hh : h < m
  hd : d < m
  sd : S d = false
  eq : ∀ k, k < m → ∀ j, R' k j = (R (sw h d k) j ^^ (S k && R h j))
section
variable {m d h n c : Nat} {S : Nat → Bool} {R R' : Nat → Nat → Bool} {x : Nat → Bool}
theorem Stp.atd (s : Stp m d h S R R') (j : Nat) : R' d j = R h j := by
  rw [s.eq d s.hd, s.sd, Bool.false_and, Bool.xor_false]
  unfold sw; rw [if_pos rfl]
theorem Stp.dot (s : Stp m d h S R R') {k : Nat} (hk : k < m) : dot n (R' k) x = (dot n (R (sw h d k)) x ^^ (S k && dot n (R h) x)) := by
  rw [← dot_and, ← dot_xor]
  exact dot_congr (fun j _ => s.eq k hk j) fun _ _ => rfl
theorem Stp.ker (s : Stp m d h S R R') : Ker m n R' x ↔ Ker m n R x := by
  constructor
  · intro K k hk
    have hd := K d s.hd
    rw [s.dot s.hd, s.sd, Bool.false_and, Bool.xor_false] at hd
    have eh : sw h d d = h := by unfold sw; rw [if_pos rfl]
    rw [eh] at hd
    have h2 := K (sw h d k) (sw_lt s.hh s.hd hk)
    rw [s.dot (sw_lt s.hh s.hd hk), sw_sw, hd, Bool.and_false, Bool.xor_false] at h2
    exact h2
  · intro K k hk
    rw [s.dot hk, K _ (sw_lt s.hh s.hd hk), K h s.hh, Bool.and_false]
    rfl
/-- rows of which no sum vanishes -/
def Ind (m n : Nat) (R : Nat → Nat → Bool) : Prop := ∀ y : Nat → Bool, (∀ j, j < n → sm m (fun k => y k && R k j) = false) → ∀ k, k < m → y k = false
theorem sm_swap {m h d : Nat} (hh : h < m) (hd : d < m) (f : Nat → Bool) : sm m (fun k => f (sw h d k)) = sm m f := by
  by_cases e : h = d
  · exact sm_congr fun i _ => congrArg f (by unfold sw; split <;> (try split) <;> omega)
  -- f = f without h, d, and what stands there
  have key : ∀ g : Nat → Bool, sm m g = (sm m (fun i => decide (i ≠ h ∧ i ≠ d) && g i) ^^ (g h ^^ g d)) := fun g => by
    have e1 : sm m g = sm m (fun i => (decide (i ≠ h ∧ i ≠ d) && g i) ^^ ((decide (i = h) && g i) ^^ (decide (i = d) && g i))) := sm_congr fun i _ => by
      by_cases h1 : i = h
      · subst h1
        simp [e]
      · by_cases h2 : i = d
        · subst h2; simp [h1]
        · simp [h1, h2]
    rw [e1, sm_xor, sm_xor, sm_single hh (f := fun i => decide (i = h) && g i) (fun i _ hi => by simp [hi]), sm_single hd (f := fun i => decide (i = d) && g i) (fun i _ hi => by simp [hi])]
    simp
  rw [key f, key (fun k => f (sw h d k))]
  have e2 : sm m (fun i => decide (i ≠ h ∧ i ≠ d) && f (sw h d i)) = sm m (fun i => decide (i ≠ h ∧ i ≠ d) && f i) := sm_congr fun i _ => by
    by_cases h1 : i = h
    · simp [h1]
    · by_cases h2 : i = d
      · simp [h2]
      · have : sw h d i = i := by unfold sw; rw [if_neg h2, if_neg h1]
        rw [this]
  have e3 : sw h d h = d := by unfold sw; rw [if_neg e, if_pos rfl]
  have e4 : sw h d d = h := by unfold sw; rw [if_pos rfl]
  rw [e2, e3, e4]
  congr 1
  exact Bool.xor_comm _ _
theorem Stp.ind (s : Stp m d h S R R') (I : Ind m n R) : Ind m n R' := by
  intro y hy
  -- y' over the old rows
  let z : Nat → Bool := fun k => y (sw h d k) ^^ (decide (k = h) && sm m (fun i => y i && S i))
  have hz : ∀ k, k < m → z k = false := I z fun j hj => by
    have e1 := hy j hj
    have e2 : sm m (fun k => y k && R' k j) = sm m (fun k => (y k && R (sw h d k) j) ^^ ((y k && S k) && R h j)) := sm_congr fun k hk => by
      rw [s.eq k hk]
      cases y k <;> cases R (sw h d k) j <;> cases S k <;> cases R h j <;> rfl
    rw [e2, sm_xor, sm_and'] at e1
    have e3 : sm m (fun k => z k && R k j) = sm m (fun k => (y (sw h d k) && R k j) ^^ ((decide (k = h) && sm m (fun i => y i && S i)) && R k j)) := sm_congr fun k _ => by
      show ((y (sw h d k) ^^ _) && R k j) = _
      cases y (sw h d k) <;> cases R k j <;> cases (decide (k = h) && sm m (fun i => y i && S i)) <;> rfl
    rw [e3, sm_xor, sm_single s.hh (f := fun k => (decide (k = h) && sm m (fun i => y i && S i)) && R k j) (fun i _ hi => by simp [hi])]
    have e4 : sm m (fun k => y (sw h d k) && R k j) = sm m (fun k => y k && R (sw h d k) j) := by
      rw [← sm_swap s.hh s.hd (fun k => y (sw h d k) && R k j)]
      exact sm_congr fun k _ => by rw [sw_sw]
    rw [e4]
    simpa using e1
  have hk0 : ∀ k, k < m → k ≠ d → y k = false := fun k hk hkd => by
    have q := hz (sw h d k) (sw_lt s.hh s.hd hk)
    have q2 : (y (sw h d (sw h d k)) ^^ (decide (sw h d k = h) && sm m (fun i => y i && S i))) = false := q
    rw [sw_sw] at q2
    have ne : sw h d k ≠ h := fun z => hkd (by
      have := congrArg (sw h d) z
      rw [sw_sw] at this
      rw [this]
      unfold sw
      split
      · assumption
      · rw [if_pos rfl])
    rw [decide_eq_false ne, Bool.false_and, Bool.xor_false] at q2
    exact q2
  intro k hk
  by_cases e : k = d
  · subst e
    have q := hz h s.hh
    have q2 : (y (sw h k h) ^^ (decide (h = h) && sm m (fun i => y i && S i))) = false := q
    have e1 : sw h k h = k := by unfold sw; split; assumption; rw [if_pos rfl]
    have e2 : sm m (fun i => y i && S i) = false := sm_zero fun i hi => by
      by_cases z : i = k
      · rw [z, s.sd, Bool.and_false]
      · rw [hk0 i hi z]; rfl
    rw [e1, e2, Bool.and_false, Bool.xor_false] at q2
    exact q2
  · exact hk0 k hk e

/-! ### pivots -/
/-- column c depends on the columns ahead of it -/
def Dep (n : Nat) (K : (Nat → Bool) → Prop) (c : Nat) : Prop := ∃ x : Nat → Bool, K x ∧ x c = true ∧ ∀ j, j < n → c < j → x j = false
/-- behind the columns ahead of c: ps the pivots' columns -/
structure Ech (m n : Nat) (R : Nat → Nat → Bool) (c : Nat) (ps : List Nat) : Prop where
  le : ps.length ≤ m
  up : ps.Pairwise (· < ·)
  lt : ∀ p ∈ ps, p < c
  one : ∀ k p, ps[k]? = some p → R k p = true ∧ ∀ j, j < p → R k j = false
  zer : ∀ k, ps.length ≤ k → k < m → ∀ j, j < c → R k j = false
  dep : ∀ j, j < c → (j ∈ ps ↔ ¬ Dep n (Ker m n R) j)
theorem ech_start : Ech m n R 0 [] := ⟨Nat.zero_le _, List.Pairwise.nil, fun p h => (List.not_mem_nil h).elim, fun k p h => by simp at h, fun _ _ _ j hj => absurd hj (Nat.not_lt_zero _), fun j hj => absurd hj (Nat.not_lt_zero _)⟩
theorem Dep.congr {K K' : (Nat → Bool) → Prop} (h : ∀ x, K x ↔ K' x) : Dep n K c ↔ Dep n K' c := ⟨fun ⟨x, a, b⟩ => ⟨x, (h x).mp a, b⟩, fun ⟨x, a, b⟩ => ⟨x, (h x).mpr a, b⟩⟩
theorem get_lt {ps : List Nat} (h : ps.Pairwise (· < ·)) {i j a b : Nat} (hi : ps[i]? = some a) (hj : ps[j]? = some b) (hij : i < j) : a < b := by
  obtain ⟨h1, h2⟩ := List.getElem?_eq_some_iff.mp hi
  obtain ⟨h3, h4⟩ := List.getElem?_eq_some_iff.mp hj
  have := List.pairwise_iff_getElem.mp h i j h1 h3 hij
  rw [h2, h4] at this
  exact this
/-- no row is left with a one in column c -/
theorem Ech.skip (E : Ech m n R c ps) (hc : c < n) (h : ∀ k, ps.length ≤ k → k < m → R k c = false) : Ech m n R (c + 1) ps := by
  have ex : ∀ i, i ≤ ps.length → ∃ x : Nat → Bool, x c = true ∧ (∀ j, j < n → c < j → x j = false) ∧ ∀ k, k < m → ps.length - i ≤ k → dot n (R k) x = false := by
    intro i
    induction i with
    | zero =>
      intro _
      refine ⟨fun j => decide (j = c), by simp, fun j _ hj => decide_eq_false (by omega), fun k hk hki => ?_⟩
      refine sm_zero fun j hj => ?_
      by_cases e : j = c
      · rw [e, h k (by omega) hk]; rfl
      · show (R k j && decide (j = c)) = false
        rw [decide_eq_false e, Bool.and_false]
    | succ i ih =>
      intro hi
      obtain ⟨x, x1, x2, x3⟩ := ih (by omega)
      have hr : ps.length - (i + 1) < ps.length := by omega
      obtain ⟨p, hp⟩ : ∃ p, ps[ps.length - (i + 1)]? = some p := ⟨_, List.getElem?_eq_getElem hr⟩
      have pc : p < c := E.lt p (List.mem_of_getElem? hp)
      obtain ⟨o1, o2⟩ := E.one _ _ hp
      refine ⟨fun j => x j ^^ (decide (j = p) && dot n (R (ps.length - (i + 1))) x), ?_, fun j hj hcj => ?_, fun k hk hki => ?_⟩
      · show (x c ^^ _) = true
        rw [decide_eq_false (by omega), Bool.false_and, Bool.xor_false]; exact x1
      · show (x j ^^ _) = false
        rw [decide_eq_false (by omega), Bool.false_and, Bool.xor_false]; exact x2 j hj hcj
      · have e1 : dot n (R k) (fun j => x j ^^ (decide (j = p) && dot n (R (ps.length - (i + 1))) x)) = (dot n (R k) x ^^ (R k p && dot n (R (ps.length - (i + 1))) x)) := by
          rw [dot_xor']
          congr 1
          refine (sm_single (k := p) (by omega) fun j _ hj => ?_).trans ?_
          · simp [hj]
          · simp
        rw [e1]
        by_cases e : k = ps.length - (i + 1)
        · rw [e, o1, Bool.true_and]
          exact Bool.xor_self _
        · have hkz : R k p = false := by
            by_cases hkr : k < ps.length
            · obtain ⟨q, hq⟩ : ∃ q, ps[k]? = some q := ⟨_, List.getElem?_eq_getElem hkr⟩
              exact (E.one _ _ hq).2 p (get_lt E.up hp hq (by omega))
            · exact E.zer k (by omega) hk p pc
          rw [hkz, Bool.false_and, Bool.xor_false]
          exact x3 k hk (by omega)
  obtain ⟨x, x1, x2, x3⟩ := ex ps.length (Nat.le_refl _)
  refine ⟨E.le, E.up, fun p hp => Nat.lt_succ_of_lt (E.lt p hp), E.one, fun k h1 h2 j hj => ?_, fun j hj => ?_⟩
  · by_cases e : j = c
    · rw [e]; exact h k h1 h2
    · exact E.zer k h1 h2 j (by omega)
  · by_cases e : j = c
    · subst e
      refine ⟨fun hm => absurd (E.lt _ hm) (Nat.lt_irrefl _), fun nd => absurd ⟨x, fun k hk => x3 k hk (by omega), x1, x2⟩ nd⟩
    · exact E.dep j (by omega)
/-- a step at column c; S may tell any row ahead of d, and tells each row behind it that has a one there -/
theorem Ech.step (E : Ech m n R c ps) (hc : c < n) (s : Stp m ps.length h S R R') (hh : ps.length ≤ h) (h1 : R h c = true) (hS : ∀ k, ps.length < k → k < m → S k = R (sw h ps.length k) c) : Ech m n R' (c + 1) (ps ++ [c]) := by
  have hz : ∀ j, j < c → R h j = false := E.zer h hh s.hh
  have kk : ∀ x, Ker m n R' x ↔ Ker m n R x := fun x => s.ker
  refine ⟨?_, ?_, fun p hp => ?_, fun k p hp => ?_, fun k hk1 hk2 j hj => ?_, fun j hj => ?_⟩
  · rw [List.length_append]; exact s.hd
  · refine List.pairwise_append.mpr ⟨E.up, List.pairwise_singleton _ _, fun a ha b hb => ?_⟩
    rw [List.mem_singleton.mp hb]
    exact E.lt a ha
  · rcases List.mem_append.mp hp with q | q
    · exact Nat.lt_succ_of_lt (E.lt p q)
    · rw [List.mem_singleton.mp q]; exact Nat.lt_succ_self _
  · by_cases e : k < ps.length
    · rw [List.getElem?_append_left e] at hp
      obtain ⟨o1, o2⟩ := E.one k p hp
      have hkm : k < m := Nat.lt_of_lt_of_le e E.le
      have es : sw h ps.length k = k := by unfold sw; rw [if_neg (by omega), if_neg (by omega)]
      have pc := E.lt p (List.mem_of_getElem? hp)
      refine ⟨?_, fun j hj => ?_⟩
      · rw [s.eq k hkm, es, o1, hz p pc, Bool.and_false]; rfl
      · rw [s.eq k hkm, es, o2 j hj, hz j (by omega), Bool.and_false]; rfl
    · have e2 : k = ps.length := by
        have := (List.getElem?_eq_some_iff.mp hp).1
        rw [List.length_append, List.length_singleton] at this
        omega
      subst e2
      rw [List.getElem?_append_right (Nat.le_refl _), Nat.sub_self] at hp
      have : c = p := by simpa using hp
      subst this
      exact ⟨by rw [s.atd]; exact h1, fun j hj => by rw [s.atd]; exact hz j hj⟩
  · rw [List.length_append, List.length_singleton] at hk1
    rw [s.eq k hk2]
    by_cases e : j = c
    · rw [e, hS k (by omega) hk2, h1, Bool.and_true]
      exact Bool.xor_self _
    · have hge : ps.length ≤ sw h ps.length k := by
        unfold sw; split
        · omega
        · split <;> omega
      rw [E.zer _ hge (sw_lt s.hh s.hd hk2) j (by omega), hz j (by omega), Bool.and_false]; rfl
  · rw [Dep.congr kk]
    by_cases e : j = c
    · subst e
      refine ⟨fun _ ⟨x, k1, k2, k3⟩ => ?_, fun _ => List.mem_append_right _ (List.mem_singleton.mpr rfl)⟩
      have q := k1 h s.hh
      have e2 : dot n (R h) x = (R h j && x j) := sm_single hc fun i hi hij => by
        by_cases l : i < j
        · rw [hz i l]; rfl
        · rw [k3 i hi (by omega), Bool.and_false]
      rw [e2, h1, k2] at q
      cases q
    · rw [← E.dep j (by omega), List.mem_append, List.mem_singleton]
      exact ⟨fun z => z.elim id fun z => absurd z e, .inl⟩
theorem Ech.uniq {R2 : Nat → Nat → Bool} {m2 : Nat} {qs : List Nat} (E : Ech m n R c ps) (F : Ech m2 n R2 c qs) (h : ∀ x, Ker m n R x ↔ Ker m2 n R2 x) : ps = qs := by
  refine List.Perm.eq_of_pairwise (le := (· < ·)) (fun a b _ _ h1 h2 => by omega) E.up F.up ?_
  refine (List.perm_ext_iff_of_nodup (E.up.imp fun h => Nat.ne_of_lt h) (F.up.imp fun h => Nat.ne_of_lt h)).mpr fun a => ?_
  constructor
  · intro ha
    have hac := E.lt a ha
    exact (F.dep a hac).mpr fun d => (E.dep a hac).mp ha ((Dep.congr h).mpr d)
  · intro ha
    have hac := F.lt a ha
    exact (E.dep a hac).mpr fun d => (F.dep a hac).mp ha ((Dep.congr h).mp d)
/-- rows of which no sum vanishes have a pivot each -/
theorem Ech.full (E : Ech m n R n ps) (I : Ind m n R) : ps.length = m := by
  refine Nat.le_antisymm E.le (Nat.le_of_not_lt fun lt => ?_)
  have q := I (fun k => decide (k = ps.length)) (fun j hj => sm_zero fun k hk => by
    by_cases e : k = ps.length
    · rw [e, E.zer ps.length (Nat.le_refl _) lt j hj, Bool.and_false]
    · rw [decide_eq_false e, Bool.false_and]) ps.length lt
  rw [decide_eq_true rfl] at q
  cases q
end
end Lm
/-! Plain mathematics: the equations, cleared; ways, reasons, quiet sets. -/
namespace Lm
/-- the numbers below n that f tells -/
def sel (n : Nat) (f : Nat → Bool) : List Nat := (List.range n).filter f
theorem mem_sel {n : Nat} {f : Nat → Bool} {k : Nat} : k ∈ sel n f ↔ k < n ∧ f k = true := by
  unfold sel; rw [List.mem_filter, List.mem_range]
theorem sel_up (n : Nat) (f : Nat → Bool) : (sel n f).Pairwise (· < ·) := List.pairwise_lt_range.filter _
theorem sel_of {n : Nat} {l : List Nat} (h : l.Pairwise (· < ·)) (hl : ∀ k ∈ l, k < n) : l = sel n fun k => decide (k ∈ l) := by
  refine List.Perm.eq_of_pairwise (le := (· < ·)) (fun a b _ _ h1 h2 => by omega) h (sel_up _ _) ?_
  refine (List.perm_ext_iff_of_nodup (h.imp fun h => Nat.ne_of_lt h) ((sel_up _ _).imp fun h => Nat.ne_of_lt h)).mpr fun a => ?_
  rw [mem_sel, decide_eq_true_eq]
  exact ⟨fun q => ⟨hl a q, q⟩, fun q => q.2⟩
theorem sel_congr {n : Nat} {f g : Nat → Bool} (h : ∀ k, k < n → f k = g k) : sel n f = sel n g := List.filter_congr fun k hk => h k (List.mem_range.mp hk)
theorem up_eq {l l' : List Nat} (h : l.Pairwise (· < ·)) (h' : l'.Pairwise (· < ·)) (hm : ∀ a, a ∈ l ↔ a ∈ l') : l = l' :=
  List.Perm.eq_of_pairwise (le := (· < ·)) (fun a b _ _ h1 h2 => by omega) h h' ((List.perm_ext_iff_of_nodup (h.imp fun h => Nat.ne_of_lt h) (h'.imp fun h => Nat.ne_of_lt h)).mpr hm)

/-! ### the program's own functions -/
abbrev Eqn := List Bool × Bool × List Bool
def e0 : Eqn := ([], false, [])
def mx (a b : List Bool) : List Bool := (List.range a.length).map fun k => a.getD k false ^^ b.getD k false
def tgt (a b : Eqn) : Eqn := (mx a.1 b.1, a.2.1 ^^ b.2.1, mx a.2.2 b.2.2)
def cel (rows : List Eqn) (k j : Nat) : Bool := (rows.getD k e0).1.getD j false
def rhs (rows : List Eqn) (k : Nat) : Bool := (rows.getD k e0).2.1
def ldr (rows : List Eqn) (done col : Nat) : Option Nat := ((List.range rows.length).filter fun k => decide (done ≤ k) && cel rows k col).head?
def adr (d col : Nat) (head : Eqn) (rs : List Eqn) (k : Nat) : List Eqn := if k ≠ d ∧ cel rs k col = true then rs.set k (tgt (rs.getD k e0) head) else rs
def add (d col : Nat) (head : Eqn) (rs : List Eqn) (i : Nat) : List Eqn := (List.range i).foldl (adr d col head) rs
def swp (rows : List Eqn) (h d : Nat) : List Eqn := (rows.set h (rows.getD d e0)).set d (rows.getD h e0)
def stp (st : List Eqn × List Nat) (col : Nat) : List Eqn × List Nat := match ldr st.1 st.2.length col with
  | none => st
  | some h => (add st.2.length col (st.1.getD h e0) (swp st.1 h st.2.length) st.1.length, st.2 ++ [col])
def clr (rows : List Eqn) (i : Nat) : List Eqn × List Nat := (List.range i).foldl stp (rows, [])
def pck (row : List Bool) : List Nat := (List.range row.length).filter fun k => row.getD k false
theorem clr_succ (rows : List Eqn) (i : Nat) : clr rows (i + 1) = stp (clr rows i) i := by
  unfold clr; rw [List.range_succ, List.foldl_append]; rfl
theorem add_succ (d col : Nat) (head : Eqn) (rs : List Eqn) (i : Nat) : add d col head rs (i + 1) = adr d col head (add d col head rs i) i := by
  unfold add; rw [List.range_succ, List.foldl_append]; rfl
theorem adr_len {d col : Nat} {head : Eqn} {rs : List Eqn} {k : Nat} : (adr d col head rs k).length = rs.length := by
  unfold adr; split
  · rw [List.length_set]
  · rfl
theorem add_len {d col : Nat} {head : Eqn} {rs : List Eqn} {i : Nat} : (add d col head rs i).length = rs.length := by
  induction i with
  | zero => rfl
  | succ i ih => rw [add_succ, adr_len, ih]
theorem swp_len {rows : List Eqn} {h d : Nat} : (swp rows h d).length = rows.length := by
  unfold swp; rw [List.length_set, List.length_set]
theorem stp_len {st : List Eqn × List Nat} {col : Nat} : (stp st col).1.length = st.1.length := by
  unfold stp; split
  · rfl
  · show (add _ _ _ _ _).length = _
    rw [add_len, swp_len]
theorem clr_len {rows : List Eqn} {i : Nat} : (clr rows i).1.length = rows.length := by
  induction i with
  | zero => rfl
  | succ i ih => rw [clr_succ, stp_len, ih]
theorem ldr_some {rows : List Eqn} {done col k : Nat} (h : ldr rows done col = some k) : done ≤ k ∧ k < rows.length ∧ cel rows k col = true := by
  have := List.mem_of_mem_head? (show k ∈ _ from h)
  rw [List.mem_filter, List.mem_range, Bool.and_eq_true, decide_eq_true_eq] at this
  exact ⟨this.2.1, this.1, this.2.2⟩
theorem ldr_none {rows : List Eqn} {done col : Nat} (h : ldr rows done col = none) : ∀ k, done ≤ k → k < rows.length → cel rows k col = false := fun k h1 h2 => by
  unfold ldr at h
  rw [List.head?_eq_none_iff, List.filter_eq_nil_iff] at h
  have := h k (List.mem_range.mpr h2)
  rw [decide_eq_true h1, Bool.true_and] at this
  simpa using this

/-! ### an equation as a row -/
def okE (n : Nat) (e : Eqn) : Prop := e.1.length = n ∧ e.2.2.length = n
def ev (n : Nat) (e : Eqn) (j : Nat) : Bool := if j < n then e.1.getD j false else if j = n then e.2.1 else e.2.2.getD (j - n - 1) false
theorem mx_len {a b : List Bool} : (mx a b).length = a.length := by unfold mx; rw [List.length_map, List.length_range]
theorem getD_mapR {α : Type} (f : Nat → α) (n k : Nat) (d : α) : ((List.range n).map f).getD k d = if k < n then f k else d := by
  rw [List.getD_eq_getElem?_getD, List.getElem?_map]
  by_cases h : k < n
  · rw [List.getElem?_range h, if_pos h]; rfl
  · rw [List.getElem?_eq_none (by rw [List.length_range]; omega), if_neg h]; rfl
theorem getD_out {α : Type} {l : List α} {k : Nat} {d : α} (h : l.length ≤ k) : l.getD k d = d := by
  rw [List.getD_eq_getElem?_getD, List.getElem?_eq_none h]; rfl
theorem mx_get {a b : List Bool} (h : a.length = b.length) (k : Nat) : (mx a b).getD k false = (a.getD k false ^^ b.getD k false) := by
  unfold mx
  rw [getD_mapR]
  by_cases q : k < a.length
  · rw [if_pos q]
  · rw [if_neg q, getD_out (by omega), getD_out (by omega)]; rfl
theorem tgt_ok {n : Nat} {a b : Eqn} (ha : okE n a) : okE n (tgt a b) := ⟨by show (mx a.1 b.1).length = n; rw [mx_len]; exact ha.1, by show (mx a.2.2 b.2.2).length = n; rw [mx_len]; exact ha.2⟩
theorem tgt_ev {n : Nat} {a b : Eqn} (ha : okE n a) (hb : okE n b) (j : Nat) : ev n (tgt a b) j = (ev n a j ^^ ev n b j) := by
  unfold ev
  by_cases h1 : j < n
  · rw [if_pos h1, if_pos h1, if_pos h1]; exact mx_get (ha.1.trans hb.1.symm) j
  · rw [if_neg h1, if_neg h1, if_neg h1]
    by_cases h2 : j = n
    · rw [if_pos h2, if_pos h2, if_pos h2]; rfl
    · rw [if_neg h2, if_neg h2, if_neg h2]; exact mx_get (ha.2.trans hb.2.symm) _
def okR (n : Nat) (rows : List Eqn) : Prop := rows.length = n ∧ ∀ k, k < n → okE n (rows.getD k e0)
/-- the rows as a matrix: the buttons, what is wanted, the lamps put together -/
def Rw (n : Nat) (rows : List Eqn) (k j : Nat) : Bool := ev n (rows.getD k e0) j
theorem cel_R {n : Nat} {rows : List Eqn} {k j : Nat} (h : j < n) : cel rows k j = Rw n rows k j := by
  unfold Rw ev cel; rw [if_pos h]
theorem rhs_R {n : Nat} {rows : List Eqn} {k : Nat} : rhs rows k = Rw n rows k n := by
  unfold Rw ev rhs; rw [if_neg (Nat.lt_irrefl _), if_pos rfl]
theorem com_R {n : Nat} {rows : List Eqn} {k i : Nat} : (rows.getD k e0).2.2.getD i false = Rw n rows k (n + 1 + i) := by
  unfold Rw ev; rw [if_neg (by omega), if_neg (by omega)]
  congr 1; omega
theorem getD_set {α : Type} {l : List α} {i k : Nat} {a d : α} (h : i < l.length) : (l.set i a).getD k d = if k = i then a else l.getD k d := by
  rw [List.getD_eq_getElem?_getD, List.getD_eq_getElem?_getD]
  by_cases e : k = i
  · subst e; rw [List.getElem?_set_self h, if_pos rfl]; rfl
  · rw [List.getElem?_set_ne (Ne.symm e), if_neg e]
theorem swp_get {rows : List Eqn} {h d k : Nat} (hh : h < rows.length) (hd : d < rows.length) : (swp rows h d).getD k e0 = rows.getD (sw h d k) e0 := by
  unfold swp sw
  rw [getD_set (by rw [List.length_set]; exact hd), getD_set hh]
  by_cases e : k = d
  · rw [if_pos e, if_pos e]
  · rw [if_neg e, if_neg e]
    by_cases e2 : k = h
    · rw [if_pos e2, if_pos e2]
    · rw [if_neg e2, if_neg e2]
theorem add_get {d col : Nat} {head : Eqn} {rs : List Eqn} : ∀ (i : Nat), i ≤ rs.length → ∀ k, (add d col head rs i).getD k e0 = if k < i ∧ k ≠ d ∧ cel rs k col = true then tgt (rs.getD k e0) head else rs.getD k e0
  | 0, _, k => by rw [if_neg (by omega)]; rfl
  | i + 1, hi, k => by
    have ih := add_get (d := d) (col := col) (head := head) (rs := rs) i (by omega)
    have e1 : (add d col head rs i).getD i e0 = rs.getD i e0 := by rw [ih, if_neg (by omega)]
    have e2 : cel (add d col head rs i) i col = cel rs i col := by unfold cel; rw [e1]
    rw [add_succ]
    unfold adr
    rw [e2, e1]
    by_cases g : i ≠ d ∧ cel rs i col = true
    · rw [if_pos g, getD_set (by rw [add_len]; omega), ih]
      by_cases e : k = i
      · subst e; rw [if_pos rfl, if_pos ⟨by omega, g⟩]
      · rw [if_neg e]
        by_cases z : k < i ∧ k ≠ d ∧ cel rs k col = true
        · rw [if_pos z, if_pos ⟨by omega, z.2⟩]
        · rw [if_neg z, if_neg fun y => z ⟨by omega, y.2⟩]
    · rw [if_neg g, ih]
      by_cases z : k < i ∧ k ≠ d ∧ cel rs k col = true
      · rw [if_pos z, if_pos ⟨by omega, z.2⟩]
      · rw [if_neg z, if_neg fun y => z ⟨by
          have : k ≠ i := fun e => g (e ▸ y.2)
          omega, y.2⟩]
/-! ### a step of the program is a step of rows -/
structure Inv (n : Nat) (M : Nat → Nat → Bool) (rows0 rows : List Eqn) (c : Nat) (ps : List Nat) : Prop where
  ok : okR n rows
  ech : Ech n n (Rw n rows) c ps
  red : ∀ i p, ps[i]? = some p → ∀ k, k < n → k ≠ i → Rw n rows k p = false
  com : ∀ k, k < n → ∀ j, j ≤ n → Rw n rows k j = sm n fun i => Rw n rows k (n + 1 + i) && Rw n rows0 i j
  ker : ∀ x, Ker n (n + 1) (Rw n rows) x ↔ Ker n (n + 1) (Rw n rows0) x
  ker0 : ∀ x, Ker n n (Rw n rows) x ↔ Ker n n (Rw n rows0) x
theorem stp_inv {n c : Nat} {M : Nat → Nat → Bool} {rows0 rows : List Eqn} {ps : List Nat} (I : Inv n M rows0 rows c ps) (hc : c < n) : Inv n M rows0 (stp (rows, ps) c).1 (c + 1) (stp (rows, ps) c).2 := by
  unfold stp
  show Inv n M rows0 (match ldr rows ps.length c with
    | none => (rows, ps)
    | some h => (add ps.length c (rows.getD h e0) (swp rows h ps.length) rows.length, ps ++ [c])).1 (c + 1) (match ldr rows ps.length c with
    | none => (rows, ps)
    | some h => (add ps.length c (rows.getD h e0) (swp rows h ps.length) rows.length, ps ++ [c])).2
  have hl := I.ok.1
  cases e : ldr rows ps.length c with
  | none =>
    refine ⟨I.ok, I.ech.skip hc fun k h1 h2 => ?_, I.red, I.com, I.ker, I.ker0⟩
    rw [← cel_R hc]
    exact ldr_none e k h1 (by omega)
  | some h =>
    obtain ⟨h1, h2, h3⟩ := ldr_some e
    rw [hl] at h2
    have hd : ps.length < n := by omega
    let d := ps.length
    let R := Rw n rows
    let rows' := add d c (rows.getD h e0) (swp rows h d) rows.length
    let S : Nat → Bool := fun k => decide (k ≠ d) && R (sw h d k) c
    have gs : ∀ k, (swp rows h d).getD k e0 = rows.getD (sw h d k) e0 := fun k => swp_get (by omega) (by show ps.length < _; omega)
    have cs : ∀ k, cel (swp rows h d) k c = R (sw h d k) c := fun k => by
      show cel (swp rows h d) k c = Rw n rows (sw h d k) c
      rw [← cel_R hc]; unfold cel; rw [gs]
    have get : ∀ k, rows'.getD k e0 = if k < n ∧ k ≠ d ∧ R (sw h d k) c = true then tgt (rows.getD (sw h d k) e0) (rows.getD h e0) else rows.getD (sw h d k) e0 := fun k => by
      show (add d c (rows.getD h e0) (swp rows h d) rows.length).getD k e0 = _
      rw [add_get rows.length (by rw [swp_len]; omega), cs, gs, hl]
    have hok : okE n (rows.getD h e0) := I.ok.2 h h2
    have ok' : okR n rows' := ⟨by show (add _ _ _ _ _).length = n; rw [add_len, swp_len]; exact hl, fun k hk => by
      rw [get]
      split
      · exact tgt_ok (I.ok.2 _ (sw_lt h2 hd hk))
      · exact I.ok.2 _ (sw_lt h2 hd hk)⟩
    have s : Stp n d h S R (Rw n rows') := ⟨h2, hd, by simp [S], fun k hk j => by
      show ev n (rows'.getD k e0) j = (R (sw h d k) j ^^ (S k && R h j))
      rw [get]
      by_cases g : k < n ∧ k ≠ d ∧ R (sw h d k) c = true
      · rw [if_pos g, tgt_ev (I.ok.2 _ (sw_lt h2 hd hk)) hok]
        have : S k = true := by show (decide (k ≠ d) && R (sw h d k) c) = true; rw [g.2.2, decide_eq_true g.2.1]; rfl
        rw [this, Bool.true_and]; rfl
      · rw [if_neg g]
        have : S k = false := by
          show (decide (k ≠ d) && R (sw h d k) c) = false
          by_cases z : k = d
          · simp [z]
          · have : R (sw h d k) c = false := by
              cases q : R (sw h d k) c with
              | false => rfl
              | true => exact absurd ⟨hk, z, q⟩ g
            rw [this, Bool.and_false]
        rw [this, Bool.false_and, Bool.xor_false]; rfl⟩
    have hR : R h c = true := by show Rw n rows h c = true; rw [← cel_R hc]; exact h3
    show Inv n M rows0 rows' (c + 1) (ps ++ [c])
    have hz : ∀ j, j < c → R h j = false := I.ech.zer h h1 h2
    refine ⟨ok', I.ech.step hc s h1 hR fun k h1 h2 => ?_, fun i p hp k hk hki => ?_, fun k hk j hj => ?_, fun x => s.ker.trans (I.ker x), fun x => s.ker.trans (I.ker0 x)⟩
    · show (decide (k ≠ d) && R (sw h d k) c) = _
      rw [decide_eq_true (show k ≠ ps.length by omega), Bool.true_and]
    · rw [s.eq k hk]
      by_cases e : i < ps.length
      · rw [List.getElem?_append_left e] at hp
        have hpc := I.ech.lt p (List.mem_of_getElem? hp)
        rw [hz p hpc, Bool.and_false, Bool.xor_false]
        refine I.red i p hp _ (sw_lt h2 hd hk) ?_
        unfold sw; split
        · omega
        · split <;> omega
      · have e2 : i = ps.length := by
          have := (List.getElem?_eq_some_iff.mp hp).1
          rw [List.length_append, List.length_singleton] at this
          omega
        subst e2
        rw [List.getElem?_append_right (Nat.le_refl _), Nat.sub_self] at hp
        have : c = p := by simpa using hp
        subst this
        show (R (sw h d k) c ^^ ((decide (k ≠ d) && R (sw h d k) c) && R h c)) = false
        rw [hR, decide_eq_true (show k ≠ d from hki)]
        cases R (sw h d k) c <;> rfl
    · rw [s.eq k hk]
      have e1 : (sm n fun i => Rw n rows' k (n + 1 + i) && Rw n rows0 i j) = sm n fun i => (R (sw h d k) (n + 1 + i) && Rw n rows0 i j) ^^ (S k && (R h (n + 1 + i) && Rw n rows0 i j)) := sm_congr fun i _ => by
        rw [s.eq k hk]
        cases R (sw h d k) (n + 1 + i) <;> cases S k <;> cases R h (n + 1 + i) <;> cases Rw n rows0 i j <;> rfl
      rw [e1, sm_xor, sm_and]
      have a1 : R (sw h d k) j = _ := I.com _ (sw_lt h2 hd hk) j hj
      have a2 : R h j = _ := I.com h h2 j hj
      rw [a1, a2]
theorem clr_inv {n : Nat} {M : Nat → Nat → Bool} {rows : List Eqn} (ok : okR n rows) (h0 : ∀ k, k < n → ∀ i, i < n → Rw n rows k (n + 1 + i) = decide (k = i)) : ∀ i, i ≤ n → Inv n M rows (clr rows i).1 i (clr rows i).2
  | 0, _ => ⟨ok, ech_start, fun i p h => by
      have : ([] : List Nat)[i]? = some p := h
      simp at this, fun k hk j hj => by
      show Rw n rows k j = sm n fun i => Rw n rows k (n + 1 + i) && Rw n rows i j
      rw [sm_single hk (f := fun i => Rw n rows k (n + 1 + i) && Rw n rows i j) fun i hi hik => by rw [h0 k hk i hi, decide_eq_false (Ne.symm hik), Bool.false_and]]
      rw [h0 k hk k hk, decide_eq_true rfl, Bool.true_and], fun _ => Iff.rfl, fun _ => Iff.rfl⟩
  | i + 1, hi => by
    rw [clr_succ]
    exact stp_inv (clr_inv ok h0 i (by omega)) (by omega)
end Lm
/-! Plain mathematics: what the cleared equations tell. -/
namespace Lm
/-- M b l: button b turns lamp l -/
def eqs (n : Nat) (M : Nat → Nat → Bool) (w : List Bool) : List Eqn := (List.range n).map fun l => ((List.range n).map (fun b => M b l), w.getD l false, (List.range n).map (fun k => decide (l = k)))
theorem eqs_len {n : Nat} {M : Nat → Nat → Bool} {w : List Bool} : (eqs n M w).length = n := by unfold eqs; rw [List.length_map, List.length_range]
theorem eqs_get {n : Nat} {M : Nat → Nat → Bool} {w : List Bool} {l : Nat} (h : l < n) : (eqs n M w).getD l e0 = ((List.range n).map (fun b => M b l), w.getD l false, (List.range n).map (fun k => decide (l = k))) := by
  unfold eqs; rw [getD_mapR, if_pos h]
theorem eqs_ok {n : Nat} {M : Nat → Nat → Bool} {w : List Bool} : okR n (eqs n M w) := ⟨eqs_len, fun k hk => by
  rw [eqs_get hk]
  exact ⟨by show ((List.range n).map _).length = n; rw [List.length_map, List.length_range], by show ((List.range n).map _).length = n; rw [List.length_map, List.length_range]⟩⟩
section
variable {n : Nat} {M : Nat → Nat → Bool} {w : List Bool}
theorem eqs_c {k j : Nat} (hk : k < n) (hj : j < n) : Rw n (eqs n M w) k j = M j k := by
  rw [← cel_R hj]; unfold cel; rw [eqs_get hk]
  show ((List.range n).map _).getD j false = _
  rw [getD_mapR, if_pos hj]
theorem eqs_b {k : Nat} (hk : k < n) : Rw n (eqs n M w) k n = w.getD k false := by
  rw [← rhs_R]; unfold rhs; rw [eqs_get hk]
theorem eqs_t {k i : Nat} (hk : k < n) (hi : i < n) : Rw n (eqs n M w) k (n + 1 + i) = decide (k = i) := by
  rw [← com_R, eqs_get hk]
  show ((List.range n).map _).getD i false = _
  rw [getD_mapR, if_pos hi]
theorem clr_all : Inv n M (eqs n M w) (clr (eqs n M w) n).1 n (clr (eqs n M w) n).2 := clr_inv eqs_ok (fun k hk i hi => eqs_t hk hi) n (Nat.le_refl n)
/-- x solves the equations -/
def Sol (n : Nat) (M : Nat → Nat → Bool) (w : Nat → Bool) (x : Nat → Bool) : Prop := ∀ l, l < n → sm n (fun b => M b l && x b) = w l
def ext1 (n : Nat) (x : Nat → Bool) (j : Nat) : Bool := if j < n then x j else true
theorem dot_ext {r x : Nat → Bool} : dot (n + 1) r (ext1 n x) = (dot n r x ^^ r n) := by
  show ((sm n fun j => r j && ext1 n x j) ^^ (r n && ext1 n x n)) = _
  unfold ext1
  rw [if_neg (Nat.lt_irrefl n), Bool.and_true]
  congr 1
  exact sm_congr fun j hj => by rw [if_pos hj]
theorem sol_ker {x : Nat → Bool} : Ker n (n + 1) (Rw n (eqs n M w)) (ext1 n x) ↔ Sol n M (fun l => w.getD l false) x := by
  have e : ∀ l, l < n → dot (n + 1) (Rw n (eqs n M w) l) (ext1 n x) = (sm n (fun b => M b l && x b) ^^ w.getD l false) := fun l hl => by
    rw [dot_ext, eqs_b hl]
    congr 1
    exact sm_congr fun j hj => by rw [eqs_c hl hj]
  constructor
  · intro h l hl
    have q := h l hl
    rw [e l hl] at q
    show sm n (fun b => M b l && x b) = w.getD l false
    revert q
    cases sm n (fun b => M b l && x b) <;> cases w.getD l false <;> decide
  · intro h l hl
    rw [e l hl, h l hl]
    exact Bool.xor_self _
theorem ker_eqs {x : Nat → Bool} : Ker n n (Rw n (eqs n M w)) x ↔ Sol n M (fun _ => false) x := by
  have e : ∀ l, l < n → dot n (Rw n (eqs n M w) l) x = sm n (fun b => M b l && x b) := fun l hl => sm_congr fun j hj => by rw [eqs_c hl hj]
  exact ⟨fun h l hl => (e l hl) ▸ h l hl, fun h l hl => (e l hl).trans (h l hl)⟩
end
def wayL (st : List Eqn × List Nat) : Bool × List Nat := match (st.1.drop st.2.length).find? (fun r => r.2.1) with
  | some row => (false, pck row.2.2)
  | none => (true, ((List.range st.2.length).filter (rhs st.1)).map fun k => st.2.getD k 0)
theorem getD_some {ps : List Nat} {k : Nat} (h : k < ps.length) : ps[k]? = some (ps.getD k 0) := by
  rw [List.getD_eq_getElem?_getD, List.getElem?_eq_getElem h]; rfl
theorem pick_up {ps : List Nat} (h : ps.Pairwise (· < ·)) (f : Nat → Bool) : (((List.range ps.length).filter f).map fun k => ps.getD k 0).Pairwise (· < ·) := by
  rw [List.pairwise_map]
  refine List.Pairwise.imp_of_mem ?_ (List.pairwise_lt_range.filter f)
  intro a b ha hb hab
  have h1 := List.mem_range.mp (List.mem_filter.mp ha).1
  have h2 := List.mem_range.mp (List.mem_filter.mp hb).1
  exact get_lt h (getD_some h1) (getD_some h2) hab
theorem mem_pick {ps : List Nat} {f : Nat → Bool} {j : Nat} : j ∈ (((List.range ps.length).filter f).map fun k => ps.getD k 0) ↔ ∃ k, ps[k]? = some j ∧ f k = true := by
  rw [List.mem_map]
  constructor
  · rintro ⟨k, hk, rfl⟩
    rw [List.mem_filter, List.mem_range] at hk
    exact ⟨k, getD_some hk.1, hk.2⟩
  · rintro ⟨k, hk, hf⟩
    have hl := (List.getElem?_eq_some_iff.mp hk).1
    refine ⟨k, List.mem_filter.mpr ⟨List.mem_range.mpr hl, hf⟩, ?_⟩
    have := getD_some hl
    rw [hk] at this
    exact (Option.some.inj this).symm
theorem idx_inj {ps : List Nat} (h : ps.Pairwise (· < ·)) {i k p : Nat} (h1 : ps[i]? = some p) (h2 : ps[k]? = some p) : i = k := by
  rcases Nat.lt_trichotomy i k with z | z | z
  · exact absurd (get_lt h h1 h2 z) (Nat.lt_irrefl _)
  · exact z
  · exact absurd (get_lt h h2 h1 z) (Nat.lt_irrefl _)
/-- f, read as a set of places of ps, against row k -/
theorem Inv.pick {n : Nat} {M : Nat → Nat → Bool} {rows0 rows : List Eqn} {ps : List Nat} (I : Inv n M rows0 rows n ps) {x : Nat → Bool} (hx : ∀ j, j < n → x j = true → j ∈ ps) {k p : Nat} (hp : ps[k]? = some p) : dot n (Rw n rows k) x = x p := by
  have pn := I.ech.lt p (List.mem_of_getElem? hp)
  have kn : k < n := Nat.lt_of_lt_of_le (List.getElem?_eq_some_iff.mp hp).1 I.ech.le
  have e : dot n (Rw n rows k) x = (Rw n rows k p && x p) := sm_single pn fun j hj hjp => by
    cases e : x j with
    | false => exact Bool.and_false _
    | true =>
      obtain ⟨i, hi⟩ := List.mem_iff_getElem?.mp (hx j hj e)
      have : k ≠ i := fun z => hjp (by rw [z, hi] at hp; exact Option.some.inj hp)
      rw [I.red i j hi k kn this]; rfl
  rw [e, (I.ech.one k p hp).1, Bool.true_and]
section
variable {n : Nat} {M : Nat → Nat → Bool} {w : List Bool}
theorem way_true (h : (wayL (clr (eqs n M w) n)).1 = true) : ∃ x, (wayL (clr (eqs n M w) n)).2 = sel n x ∧ Sol n M (fun l => w.getD l false) x := by
  have I : Inv n M (eqs n M w) (clr (eqs n M w) n).1 n (clr (eqs n M w) n).2 := clr_all
  revert h
  unfold wayL
  cases e : ((clr (eqs n M w) n).1.drop (clr (eqs n M w) n).2.length).find? (fun r => r.2.1) with
  | some row => intro h; cases h
  | none =>
    intro _
    show ∃ x, ((List.range (clr (eqs n M w) n).2.length).filter (rhs (clr (eqs n M w) n).1)).map (fun k => (clr (eqs n M w) n).2.getD k 0) = sel n x ∧ _
    generalize hps : (clr (eqs n M w) n).2 = ps at I e
    generalize hrs : (clr (eqs n M w) n).1 = rows at I e
    let lst := ((List.range ps.length).filter (rhs rows)).map fun k => ps.getD k 0
    have hin : ∀ j, j ∈ lst → j ∈ ps := fun j hj => by
      obtain ⟨k, hk, _⟩ := mem_pick.mp hj
      exact List.mem_of_getElem? hk
    refine ⟨fun j => decide (j ∈ lst), sel_of (pick_up I.ech.up _) fun j hj => I.ech.lt j (hin j hj), ?_⟩
    refine sol_ker.mp ((I.ker _).mp fun k hk => ?_)
    rw [dot_ext]
    by_cases hkr : k < ps.length
    · rw [I.pick (x := fun j => decide (j ∈ lst)) (fun j _ hj => hin j (of_decide_eq_true hj)) (getD_some hkr), ← rhs_R]
      have : decide (ps.getD k 0 ∈ lst) = rhs rows k := by
        rw [Bool.eq_iff_iff, decide_eq_true_eq]
        constructor
        · intro q
          obtain ⟨i, hi, hf⟩ := mem_pick.mp q
          rw [idx_inj I.ech.up (getD_some hkr) hi]; exact hf
        · intro q; exact mem_pick.mpr ⟨k, getD_some hkr, q⟩
      rw [this]; exact Bool.xor_self _
    · have e1 : dot n (Rw n rows k) (fun j => decide (j ∈ lst)) = false := sm_zero fun j hj => by rw [I.ech.zer k (by omega) hk j hj]; rfl
      rw [e1, ← rhs_R, Bool.false_xor]
      rw [List.find?_eq_none] at e
      have hl := I.ok.1
      have hm : rows.getD k e0 ∈ rows.drop ps.length := by
        rw [List.mem_iff_getElem?]
        refine ⟨k - ps.length, ?_⟩
        rw [List.getElem?_drop, show ps.length + (k - ps.length) = k by omega, List.getD_eq_getElem?_getD, List.getElem?_eq_getElem (by omega)]; rfl
      have := e _ hm
      unfold rhs
      simpa using this
theorem way_false (h : (wayL (clr (eqs n M w) n)).1 = false) : ∃ t, (wayL (clr (eqs n M w) n)).2 = sel n t ∧ (∀ b, b < n → sm n (fun l => t l && M b l) = false) ∧ sm n (fun l => t l && w.getD l false) = true := by
  have I : Inv n M (eqs n M w) (clr (eqs n M w) n).1 n (clr (eqs n M w) n).2 := clr_all
  revert h
  unfold wayL
  cases e : ((clr (eqs n M w) n).1.drop (clr (eqs n M w) n).2.length).find? (fun r => r.2.1) with
  | none => intro h; cases h
  | some row =>
    intro _
    show ∃ t, pck row.2.2 = sel n t ∧ _
    generalize hps : (clr (eqs n M w) n).2 = ps at I e
    generalize hrs : (clr (eqs n M w) n).1 = rows at I e
    have hb : row.2.1 = true := List.find?_some (p := fun r : Eqn => r.2.1) e
    obtain ⟨i, hi⟩ := List.mem_iff_getElem?.mp (List.mem_of_find?_eq_some e)
    rw [List.getElem?_drop] at hi
    have hl := I.ok.1
    have hk : ps.length + i < n := by rw [← hl]; exact (List.getElem?_eq_some_iff.mp hi).1
    have hrow : rows.getD (ps.length + i) e0 = row := by rw [List.getD_eq_getElem?_getD, hi]; rfl
    have hok := I.ok.2 _ hk
    rw [hrow] at hok
    have ht : ∀ l, row.2.2.getD l false = Rw n rows (ps.length + i) (n + 1 + l) := fun l => by rw [← com_R, hrow]
    refine ⟨fun l => row.2.2.getD l false, ?_, fun b hb => ?_, ?_⟩
    · unfold pck sel; rw [hok.2]
    · have q := I.com _ hk b (by omega)
      rw [I.ech.zer _ (by omega) hk b hb] at q
      refine Eq.trans ?_ q.symm
      exact sm_congr fun l hl => by dsimp only; rw [ht, eqs_c hl hb]
    · have q := I.com _ hk n (Nat.le_refl n)
      have : Rw n rows (ps.length + i) n = true := by rw [← rhs_R]; unfold rhs; rw [hrow]; exact hb
      rw [this] at q
      refine Eq.trans ?_ q.symm
      exact sm_congr fun l hl => by dsimp only; rw [ht, eqs_b hl]
/-! ### quiet sets -/
def oth (rows : List Eqn) (ps : List Nat) (c : Nat) : List Nat := ((List.range ps.length).filter fun k => cel rows k c).map fun k => ps.getD k 0
def qset (rows : List Eqn) (ps : List Nat) (c : Nat) : List Nat := oth rows ps c ++ [c]
def quietL (n : Nat) (st : List Eqn × List Nat) : List (List Nat) := ((List.range n).filter fun c => !decide (c ∈ st.2)).map (qset st.1 st.2)
variable {rows0 rows : List Eqn} {ps : List Nat}
theorem oth_lt (I : Inv n M rows0 rows n ps) {c : Nat} (hc : c < n) (hn : c ∉ ps) : ∀ j ∈ oth rows ps c, j < c := fun j hj => by
  obtain ⟨k, hk, hf⟩ := mem_pick.mp hj
  have hf : cel rows k c = true := hf
  rw [cel_R hc] at hf
  refine Nat.lt_of_le_of_ne (Nat.le_of_not_lt fun z => ?_) fun z => hn (z ▸ List.mem_of_getElem? hk)
  rw [(I.ech.one k j hk).2 c z] at hf; cases hf
theorem qset_up (I : Inv n M rows0 rows n ps) {c : Nat} (hc : c < n) (hn : c ∉ ps) : (qset rows ps c).Pairwise (· < ·) :=
  List.pairwise_append.mpr ⟨pick_up I.ech.up _, List.pairwise_singleton _ _, fun a ha b hb => by rw [List.mem_singleton.mp hb]; exact oth_lt I hc hn a ha⟩
/-- the quiet set of column c, as a set -/
def qv (rows : List Eqn) (ps : List Nat) (c j : Nat) : Bool := decide (j ∈ qset rows ps c)
theorem qset_sel (I : Inv n M rows0 rows n ps) {c : Nat} (hc : c < n) (hn : c ∉ ps) : qset rows ps c = sel n (qv rows ps c) := sel_of (qset_up I hc hn) fun k hk => by
  rcases List.mem_append.mp hk with z | z
  · exact Nat.lt_trans (oth_lt I hc hn k z) hc
  · rw [List.mem_singleton.mp z]; exact hc
theorem qv_self (rows : List Eqn) (ps : List Nat) (c : Nat) : qv rows ps c c = true := decide_eq_true (List.mem_append_right _ (List.mem_singleton.mpr rfl))
theorem qv_free {c f : Nat} (hf : f ∉ ps) (h : f ≠ c) : qv rows ps c f = false := decide_eq_false fun z => by
  rcases List.mem_append.mp z with z | z
  · obtain ⟨k, hk, _⟩ := mem_pick.mp z
    exact hf (List.mem_of_getElem? hk)
  · exact h (List.mem_singleton.mp z)
theorem qv_lead (I : Inv n M rows0 rows n ps) {c k p : Nat} (hc : c < n) (hn : c ∉ ps) (hp : ps[k]? = some p) : qv rows ps c p = Rw n rows k c := by
  rw [Bool.eq_iff_iff, ← cel_R hc]
  unfold qv
  rw [decide_eq_true_eq]
  constructor
  · intro z
    rcases List.mem_append.mp z with z | z
    · obtain ⟨i, hi, hf⟩ := mem_pick.mp z
      rw [idx_inj I.ech.up hp hi]; exact hf
    · exact absurd (List.mem_singleton.mp z ▸ List.mem_of_getElem? hp) hn
  · intro z
    exact List.mem_append_left _ (mem_pick.mpr ⟨k, hp, z⟩)
theorem qv_ker (I : Inv n M rows0 rows n ps) {c : Nat} (hc : c < n) (hn : c ∉ ps) : Ker n n (Rw n rows) (qv rows ps c) := fun k hk => by
  -- the part of the leads, and c itself
  have e : dot n (Rw n rows k) (qv rows ps c) = (dot n (Rw n rows k) (fun j => qv rows ps c j && !decide (j = c)) ^^ Rw n rows k c) := by
    have e1 : Rw n rows k c = dot n (Rw n rows k) (fun j => decide (j = c)) := ((sm_single hc (f := fun j => Rw n rows k j && decide (j = c)) fun j _ hj => by rw [decide_eq_false hj, Bool.and_false]).trans (by rw [decide_eq_true rfl, Bool.and_true])).symm
    rw [e1, ← dot_xor']
    refine dot_congr (fun _ _ => rfl) fun j _ => ?_
    by_cases z : j = c
    · subst z; rw [qv_self, decide_eq_true rfl]; rfl
    · rw [decide_eq_false z]; cases qv rows ps c j <;> rfl
  rw [e]
  by_cases hkr : k < ps.length
  · have hp := getD_some hkr
    rw [I.pick (x := fun j => qv rows ps c j && !decide (j = c)) (fun j hj q => ?_) hp]
    · have : ps.getD k 0 ≠ c := fun z => hn (z ▸ List.mem_of_getElem? hp)
      rw [decide_eq_false this, Bool.not_false, Bool.and_true, qv_lead I hc hn hp]
      exact Bool.xor_self _
    · have q : (qv rows ps c j && !decide (j = c)) = true := q
      rw [Bool.and_eq_true] at q
      have hne : j ≠ c := by simpa using q.2
      refine Classical.byContradiction fun z => ?_
      rw [qv_free z hne] at q
      cases q.1
  · have z := I.ech.zer k (by omega) hk
    rw [z c hc]
    have : dot n (Rw n rows k) (fun j => qv rows ps c j && !decide (j = c)) = false := sm_zero fun j hj => by rw [z j hj]; rfl
    rw [this]; rfl
/-- what vanishes at every free column and under every row vanishes -/
theorem ker_zero (I : Inv n M rows0 rows n ps) {x : Nat → Bool} (hk : Ker n n (Rw n rows) x) (hf : ∀ c, c < n → c ∉ ps → x c = false) : ∀ j, j < n → x j = false := fun j hj => by
  by_cases h : j ∈ ps
  · obtain ⟨k, hp⟩ := List.mem_iff_getElem?.mp h
    have kn : k < n := Nat.lt_of_lt_of_le (List.getElem?_eq_some_iff.mp hp).1 I.ech.le
    have := hk k kn
    rw [I.pick (fun i hi q => Classical.byContradiction fun z => by rw [hf i hi z] at q; cases q) hp] at this
    exact this
  · exact hf j hj h
/-- .. so it is the sum of the quiet sets of its free columns -/
theorem ker_span (I : Inv n M rows0 rows n ps) {x : Nat → Bool} (hk : Ker n n (Rw n rows) x) : ∀ j, j < n → x j = sm n (fun c => (x c && !decide (c ∈ ps)) && qv rows ps c j) := fun j hj => by
  let y : Nat → Bool := fun j => sm n (fun c => (x c && !decide (c ∈ ps)) && qv rows ps c j)
  have hy : Ker n n (Rw n rows) y := fun k hk => by
    have e : dot n (Rw n rows k) y = sm n fun c => (x c && !decide (c ∈ ps)) && dot n (Rw n rows k) (qv rows ps c) := by
      unfold dot
      have e1 : (sm n fun j => Rw n rows k j && y j) = sm n fun j => sm n fun c => Rw n rows k j && ((x c && !decide (c ∈ ps)) && qv rows ps c j) := sm_congr fun j _ => by rw [sm_and]
      rw [e1, sm_comm]
      refine sm_congr fun c _ => ?_
      rw [← sm_and]
      exact sm_congr fun j _ => by cases Rw n rows k j <;> cases x c <;> cases decide (c ∈ ps) <;> cases qv rows ps c j <;> rfl
    rw [e]
    refine sm_zero fun c hc => ?_
    by_cases z : c ∈ ps
    · simp [z]
    · rw [qv_ker I hc z k hk, Bool.and_false]
  have hz := ker_zero I (x := fun j => x j ^^ y j) (fun k hk' => by rw [dot_xor', hk k hk', hy k hk']; rfl) (fun c hc hn => by
    have e : y c = x c := by
      show sm n (fun d => (x d && !decide (d ∈ ps)) && qv rows ps d c) = x c
      rw [sm_single hc (f := fun d => (x d && !decide (d ∈ ps)) && qv rows ps d c) fun d _ hd => by rw [qv_free hn (Ne.symm hd), Bool.and_false]]
      rw [qv_self]; simp [hn]
    show (x c ^^ y c) = false
    rw [e]; exact Bool.xor_self _) j hj
  show x j = y j
  have hz : (x j ^^ y j) = false := hz
  revert hz
  cases x j <;> cases y j <;> decide
end
end Lm
/-! Plain mathematics: how many rows are unlike, counted by steps that clear the rows behind alone. -/
namespace Lm
def cl (rows : List (List Bool)) (k j : Nat) : Bool := (rows.getD k []).getD j false
def okM (m n : Nat) (rows : List (List Bool)) : Prop := rows.length = m ∧ ∀ k, k < m → (rows.getD k []).length = n
def hds (rows : List (List Bool)) (d c : Nat) : List Nat := ((List.range (rows.length - d)).filter fun i => cl rows (d + i) c).map fun i => d + i
def sws (rows : List (List Bool)) (h d : Nat) : List (List Bool) := (rows.set h (rows.getD d [])).set d (rows.getD h [])
def adk (c : Nat) (head : List Bool) (rs : List (List Bool)) (k : Nat) : List (List Bool) := if cl rs k c = true then rs.set k (mx (rs.getD k []) head) else rs
def adds (d c : Nat) (head : List Bool) (rs : List (List Bool)) (i : Nat) : List (List Bool) := (List.range i).foldl (fun rs i => adk c head rs (d + 1 + i)) rs
def rst (st : List (List Bool) × Nat) (c : Nat) : List (List Bool) × Nat := match (hds st.1 st.2 c).head? with
  | none => st
  | some h => (adds st.2 c (st.1.getD h []) (sws st.1 h st.2) (st.1.length - (st.2 + 1)), st.2 + 1)
def rks (rows : List (List Bool)) (i : Nat) : List (List Bool) × Nat := (List.range i).foldl rst (rows, 0)
def cols (rows : List (List Bool)) : Nat := (rows.getD 0 []).length
def rank (rows : List (List Bool)) : Nat := (rks rows (cols rows)).2
theorem rks_succ (rows : List (List Bool)) (i : Nat) : rks rows (i + 1) = rst (rks rows i) i := by
  unfold rks; rw [List.range_succ, List.foldl_append]; rfl
theorem adds_succ (d c : Nat) (head : List Bool) (rs : List (List Bool)) (i : Nat) : adds d c head rs (i + 1) = adk c head (adds d c head rs i) (d + 1 + i) := by
  unfold adds; rw [List.range_succ, List.foldl_append]; rfl
theorem adk_len {c : Nat} {head : List Bool} {rs : List (List Bool)} {k : Nat} : (adk c head rs k).length = rs.length := by
  unfold adk; split
  · rw [List.length_set]
  · rfl
theorem adds_len {d c : Nat} {head : List Bool} {rs : List (List Bool)} {i : Nat} : (adds d c head rs i).length = rs.length := by
  induction i with
  | zero => rfl
  | succ i ih => rw [adds_succ, adk_len, ih]
theorem sws_len {rows : List (List Bool)} {h d : Nat} : (sws rows h d).length = rows.length := by
  unfold sws; rw [List.length_set, List.length_set]
theorem rst_len {st : List (List Bool) × Nat} {c : Nat} : (rst st c).1.length = st.1.length := by
  unfold rst; split
  · rfl
  · show (adds _ _ _ _ _).length = _
    rw [adds_len, sws_len]
theorem rks_len {rows : List (List Bool)} {i : Nat} : (rks rows i).1.length = rows.length := by
  induction i with
  | zero => rfl
  | succ i ih => rw [rks_succ, rst_len, ih]
theorem hds_some {rows : List (List Bool)} {d c h : Nat} (e : (hds rows d c).head? = some h) : d ≤ h ∧ h < rows.length ∧ cl rows h c = true := by
  have := List.mem_of_mem_head? (show h ∈ _ from e)
  unfold hds at this
  obtain ⟨i, hi, rfl⟩ := List.mem_map.mp this
  rw [List.mem_filter, List.mem_range] at hi
  exact ⟨by omega, by omega, hi.2⟩
theorem hds_none {rows : List (List Bool)} {d c : Nat} (e : (hds rows d c).head? = none) : ∀ k, d ≤ k → k < rows.length → cl rows k c = false := fun k h1 h2 => by
  rw [List.head?_eq_none_iff] at e
  unfold hds at e
  rw [List.map_eq_nil_iff, List.filter_eq_nil_iff] at e
  have := e (k - d) (List.mem_range.mpr (by omega))
  rw [show d + (k - d) = k by omega] at this
  simpa using this
theorem sws_get {rows : List (List Bool)} {h d k : Nat} (hh : h < rows.length) (hd : d < rows.length) : (sws rows h d).getD k [] = rows.getD (sw h d k) [] := by
  unfold sws sw
  rw [getD_set (by rw [List.length_set]; exact hd), getD_set hh]
  by_cases e : k = d
  · rw [if_pos e, if_pos e]
  · rw [if_neg e, if_neg e]
    by_cases e2 : k = h
    · rw [if_pos e2, if_pos e2]
    · rw [if_neg e2, if_neg e2]
theorem adds_get {d c : Nat} {head : List Bool} {rs : List (List Bool)} : ∀ (i : Nat), d + 1 + i ≤ rs.length ∨ i = 0 → ∀ k, (adds d c head rs i).getD k [] = if (d < k ∧ k < d + 1 + i) ∧ cl rs k c = true then mx (rs.getD k []) head else rs.getD k []
  | 0, _, k => by rw [if_neg (by omega)]; rfl
  | i + 1, hi, k => by
    have ih := adds_get (d := d) (c := c) (head := head) (rs := rs) i (by omega)
    have e1 : (adds d c head rs i).getD (d + 1 + i) [] = rs.getD (d + 1 + i) [] := by rw [ih, if_neg (by omega)]
    have e2 : cl (adds d c head rs i) (d + 1 + i) c = cl rs (d + 1 + i) c := by unfold cl; rw [e1]
    rw [adds_succ]
    unfold adk
    rw [e2, e1]
    by_cases g : cl rs (d + 1 + i) c = true
    · rw [if_pos g, getD_set (by rw [adds_len]; omega), ih]
      by_cases e : k = d + 1 + i
      · subst e; rw [if_pos rfl, if_pos ⟨by omega, g⟩]
      · rw [if_neg e]
        by_cases z : (d < k ∧ k < d + 1 + i) ∧ cl rs k c = true
        · rw [if_pos z, if_pos ⟨by omega, z.2⟩]
        · rw [if_neg z, if_neg fun y => z ⟨by omega, y.2⟩]
    · rw [if_neg g, ih]
      by_cases z : (d < k ∧ k < d + 1 + i) ∧ cl rs k c = true
      · rw [if_pos z, if_pos ⟨by omega, z.2⟩]
      · rw [if_neg z, if_neg fun y => z ⟨by
          have : k ≠ d + 1 + i := fun e => g (e ▸ y.2)
          omega, y.2⟩]
structure RInv (m n : Nat) (R0 : Nat → Nat → Bool) (rows : List (List Bool)) (c : Nat) (ps : List Nat) : Prop where
  ok : okM m n rows
  ech : Ech m n (cl rows) c ps
  ker : ∀ x, Ker m n (cl rows) x ↔ Ker m n R0 x
  ind : Ind m n R0 → Ind m n (cl rows)
theorem cl_mx {m n : Nat} {rows : List (List Bool)} (ok : okM m n rows) {a b : Nat} (ha : a < m) (hb : b < m) (j : Nat) : (mx (rows.getD a []) (rows.getD b [])).getD j false = (cl rows a j ^^ cl rows b j) :=
  mx_get ((ok.2 a ha).trans (ok.2 b hb).symm) j
theorem rst_inv {m n c : Nat} {R0 : Nat → Nat → Bool} {rows : List (List Bool)} {ps : List Nat} (I : RInv m n R0 rows c ps) (hc : c < n) : ∃ ps', (rst (rows, ps.length) c).2 = ps'.length ∧ RInv m n R0 (rst (rows, ps.length) c).1 (c + 1) ps' := by
  unfold rst
  show ∃ ps', (match (hds rows ps.length c).head? with
    | none => (rows, ps.length)
    | some h => (adds ps.length c (rows.getD h []) (sws rows h ps.length) (rows.length - (ps.length + 1)), ps.length + 1)).2 = ps'.length ∧ RInv m n R0 (match (hds rows ps.length c).head? with
    | none => (rows, ps.length)
    | some h => (adds ps.length c (rows.getD h []) (sws rows h ps.length) (rows.length - (ps.length + 1)), ps.length + 1)).1 (c + 1) ps'
  have hl := I.ok.1
  cases e : (hds rows ps.length c).head? with
  | none => exact ⟨ps, rfl, I.ok, I.ech.skip hc fun k h1 h2 => hds_none e k h1 (by omega), I.ker, I.ind⟩
  | some h =>
    obtain ⟨h1, h2, h3⟩ := hds_some e
    rw [hl] at h2
    have hd : ps.length < m := by omega
    let d := ps.length
    let R := cl rows
    let rows' := adds d c (rows.getD h []) (sws rows h d) (rows.length - (d + 1))
    let S : Nat → Bool := fun k => decide (d < k) && R (sw h d k) c
    have gs : ∀ k, (sws rows h d).getD k [] = rows.getD (sw h d k) [] := fun k => sws_get (by omega) (by show ps.length < _; omega)
    have cs : ∀ k, cl (sws rows h d) k c = R (sw h d k) c := fun k => by
      show cl (sws rows h d) k c = cl rows (sw h d k) c
      unfold cl; rw [gs]
    have get : ∀ k, rows'.getD k [] = if (d < k ∧ k < m) ∧ R (sw h d k) c = true then mx (rows.getD (sw h d k) []) (rows.getD h []) else rows.getD (sw h d k) [] := fun k => by
      have hdd : d = ps.length := rfl
      show (adds d c (rows.getD h []) (sws rows h d) (rows.length - (d + 1))).getD k [] = _
      rw [adds_get (rows.length - (d + 1)) (by rw [sws_len]; omega), cs, gs, show d + 1 + (rows.length - (d + 1)) = m by omega]
    have ok' : okM m n rows' := ⟨by show (adds _ _ _ _ _).length = m; rw [adds_len, sws_len]; exact hl, fun k hk => by
      rw [get]
      split
      · rw [mx_len]; exact I.ok.2 _ (sw_lt h2 hd hk)
      · exact I.ok.2 _ (sw_lt h2 hd hk)⟩
    have s : Stp m d h S R (cl rows') := ⟨h2, hd, by simp [S], fun k hk j => by
      show (rows'.getD k []).getD j false = (R (sw h d k) j ^^ (S k && R h j))
      rw [get]
      by_cases g : (d < k ∧ k < m) ∧ R (sw h d k) c = true
      · rw [if_pos g, cl_mx I.ok (sw_lt h2 hd hk) h2]
        have : S k = true := by show (decide (d < k) && R (sw h d k) c) = true; rw [g.2, decide_eq_true g.1.1]; rfl
        rw [this, Bool.true_and]
      · rw [if_neg g]
        have : S k = false := by
          show (decide (d < k) && R (sw h d k) c) = false
          by_cases z : d < k
          · have : R (sw h d k) c = false := by
              cases q : R (sw h d k) c with
              | false => rfl
              | true => exact absurd ⟨⟨z, hk⟩, q⟩ g
            rw [this, Bool.and_false]
          · rw [decide_eq_false z, Bool.false_and]
        rw [this, Bool.false_and, Bool.xor_false]; rfl⟩
    refine ⟨ps ++ [c], by rw [List.length_append]; rfl, ok', I.ech.step hc s h1 h3 fun k h1 h2 => ?_, fun x => s.ker.trans (I.ker x), fun z => s.ind (I.ind z)⟩
    show (decide (d < k) && R (sw h d k) c) = _
    rw [decide_eq_true (show d < k from h1), Bool.true_and]
theorem rks_inv {m n : Nat} {rows : List (List Bool)} (ok : okM m n rows) : ∀ i, i ≤ n → ∃ ps, (rks rows i).2 = ps.length ∧ RInv m n (cl rows) (rks rows i).1 i ps
  | 0, _ => ⟨[], rfl, ok, ech_start, fun _ => Iff.rfl, id⟩
  | i + 1, hi => by
    obtain ⟨ps, h1, h2⟩ := rks_inv ok i (by omega)
    rw [rks_succ]
    generalize rks rows i = st at h1 h2
    obtain ⟨rs, k⟩ := st
    have h1 : k = ps.length := h1
    subst h1
    exact rst_inv h2 (by omega)
/-- the rank is the number of pivots -/
theorem rank_ech {m n : Nat} {rows : List (List Bool)} (ok : okM m n rows) (hm : 0 < m) : ∃ ps, rank rows = ps.length ∧ RInv m n (cl rows) (rks rows n).1 n ps := by
  have : cols rows = n := ok.2 0 hm
  unfold rank
  rw [this]
  exact rks_inv ok n (Nat.le_refl n)
theorem rank_nil : rank [] = 0 := rfl
/-- .. the same for all rows under which the same vanishes -/
theorem rank_same {m m2 n : Nat} {rows : List (List Bool)} (ok : okM m n rows) (hm : 0 < m) {R2 : Nat → Nat → Bool} {qs : List Nat} (E : Ech m2 n R2 n qs) (h : ∀ x, Ker m n (cl rows) x ↔ Ker m2 n R2 x) : rank rows = qs.length := by
  obtain ⟨ps, h1, h2⟩ := rank_ech ok hm
  rw [h1, h2.ech.uniq E fun x => (h2.ker x).trans (h x)]
/-- .. all of them, where no sum of rows vanishes -/
theorem rank_full {m n : Nat} {rows : List (List Bool)} (ok : okM m n rows) (I : Ind m n (cl rows)) : rank rows = m := by
  rcases Nat.eq_zero_or_pos m with e | hm
  · have : rows = [] := List.length_eq_zero_iff.mp (ok.1.trans e)
    rw [this, e]; rfl
  · obtain ⟨ps, h1, h2⟩ := rank_ech ok hm
    rw [h1, h2.ech.full (h2.ind I)]
/-- the quiet sets are as many as there are columns without a pivot .. -/
theorem free_len {n : Nat} {ps : List Nat} (up : ps.Pairwise (· < ·)) (lt : ∀ p ∈ ps, p < n) : ((List.range n).filter fun c => !decide (c ∈ ps)).length = n - ps.length := by
  have e := sel_of up lt
  have h1 : ps.length = (sel n fun k => decide (k ∈ ps)).length := congrArg List.length e
  have h2 : (List.range n).length = (sel n fun k => decide (k ∈ ps)).length + ((List.range n).filter fun c => !decide (c ∈ ps)).length := by
    unfold sel
    refine (List.length_eq_countP_add_countP (l := List.range n) (fun k => decide (k ∈ ps))).trans ?_
    rw [List.countP_eq_length_filter, List.countP_eq_length_filter]
    congr 2
    refine List.filter_congr fun k _ => ?_
    by_cases z : k ∈ ps <;> simp [z]
  rw [List.length_range] at h2
  omega
end Lm
set_option maxHeartbeats 1000000
/-! A small program logic over the hand layer: what a value is, by a predicate over the part of the heap that stands still (Pr); the lists and dicts that change, by address (Del); judgements EE (an expression's value), ET (a test), EA (arguments), ES (a list that is read), EM (an expression with effects), Go (a block). -/
namespace Yb
open PySem PySem.Spec PyProof.Rows L2

/-! ### predicates of values -/
/-- h: the heap at the block's entry (what is new is told by it); B: what stands still -/
structure Pr where
  p : Hp → Hp → V → Prop
  mono : ∀ {h B B' : Hp} {v : V}, Same B B' → p h B v → p h B' v
  anti : ∀ {h h' B : Hp} {v : V}, (∀ a, h' a ≠ none → h a ≠ none) → p h B v → p h' B v
def All (h B : Hp) : List Pr → List V → Prop
  | [], [] => True
  | P :: ps, v :: vs => P.p h B v ∧ All h B ps vs
  | _, _ => False
theorem All.mono {h B B' : Hp} (e : Same B B') : ∀ {ps : List Pr} {vs : List V}, All h B ps vs → All h B' ps vs
  | [], [], _ => trivial
  | P :: _, _ :: _, h => ⟨P.mono e h.1, All.mono e h.2⟩
  | [], _ :: _, h => h.elim
  | _ :: _, [], h => h.elim
theorem All.len {h B : Hp} : ∀ {ps : List Pr} {vs : List V}, All h B ps vs → ps.length = vs.length
  | [], [], _ => rfl
  | _ :: _, _ :: _, h => congrArg (· + 1) (All.len h.2)
  | [], _ :: _, h => h.elim
  | _ :: _, [], h => h.elim
theorem All.get {h B : Hp} : ∀ {ps : List Pr} {vs : List V} {i : Nat} {P : Pr}, All h B ps vs → ps[i]? = some P → ∃ v, vs[i]? = some v ∧ P.p h B v
  | _ :: _, v :: _, 0, _, h, e => ⟨v, rfl, by rw [List.getElem?_cons_zero] at e; cases e; exact h.1⟩
  | _ :: _, _ :: _, i + 1, P, h, e => by
    rw [List.getElem?_cons_succ] at e ⊢
    exact All.get h.2 e
  | [], _, _, _, _, e => by simp at e
  | _ :: _, [], _, _, h, _ => h.elim
theorem All.set {h B : Hp} {P : Pr} {v : V} (h0 : P.p h B v) : ∀ {ps : List Pr} {vs : List V} (i : Nat), All h B ps vs → All h B (ps.set i P) (vs.set i v)
  | [], [], _, _ => trivial
  | _ :: _, _ :: _, 0, h => ⟨h0, h.2⟩
  | _ :: _, _ :: _, i + 1, h => ⟨h.1, All.set h0 i h.2⟩
  | [], _ :: _, _, h => h.elim
  | _ :: _, [], _, h => h.elim
theorem All.app {h B : Hp} {qs : List Pr} {us : List V} (h2 : All h B qs us) : ∀ {ps : List Pr} {vs : List V}, All h B ps vs → All h B (ps ++ qs) (vs ++ us)
  | [], [], _ => h2
  | _ :: _, _ :: _, h => ⟨h.1, All.app h2 h.2⟩
  | [], _ :: _, h => h.elim
  | _ :: _, [], h => h.elim
theorem All.take {h B : Hp} : ∀ {ps : List Pr} {vs : List V} (n : Nat), All h B ps vs → All h B (ps.take n) (vs.take n)
  | _, _, 0, _ => by rw [List.take_zero, List.take_zero]; trivial
  | [], [], _ + 1, _ => trivial
  | _ :: _, _ :: _, n + 1, h => ⟨h.1, All.take n h.2⟩
  | [], _ :: _, _ + 1, h => h.elim
  | _ :: _, [], _ + 1, h => h.elim
theorem All.drop {h B : Hp} : ∀ {ps : List Pr} {vs : List V} (n : Nat), All h B ps vs → All h B (ps.drop n) (vs.drop n)
  | _, _, 0, h => h
  | [], [], _ + 1, _ => trivial
  | _ :: _, _ :: _, n + 1, h => All.drop n h.2
  | [], _ :: _, _ + 1, h => h.elim
  | _ :: _, [], _ + 1, h => h.elim
theorem All.one {h B : Hp} {P : Pr} {vs : List V} (q : All h B [P] vs) : ∃ v, vs = [v] ∧ P.p h B v := by
  match vs, q with
  | [v], q => exact ⟨v, rfl, q.1⟩
theorem All.two {h B : Hp} {P P' : Pr} {vs : List V} (q : All h B [P, P'] vs) : ∃ v u, vs = [v, u] ∧ P.p h B v ∧ P'.p h B u := by
  match vs, q with
  | [v, u], q => exact ⟨v, u, rfl, q.1, q.2.1⟩
theorem All.dropLast {h B : Hp} {ps : List Pr} {vs : List V} (q : All h B ps vs) : All h B ps.dropLast vs.dropLast := by
  rw [List.dropLast_eq_take, List.dropLast_eq_take, q.len]
  exact q.take _
theorem All.rev {h B : Hp} : ∀ {ps : List Pr} {vs : List V}, All h B ps vs → All h B ps.reverse vs.reverse
  | [], [], _ => trivial
  | P :: _, v :: _, h => by
    rw [List.reverse_cons, List.reverse_cons]
    exact All.app (qs := [P]) (us := [v]) ⟨h.1, trivial⟩ (All.rev h.2)
  | [], _ :: _, h => h.elim
  | _ :: _, [], h => h.elim
theorem All.erase {h B : Hp} : ∀ {ps : List Pr} {vs : List V} (i : Nat), All h B ps vs → All h B (ps.eraseIdx i) (vs.eraseIdx i)
  | [], [], _, _ => trivial
  | _ :: _, _ :: _, 0, h => h.2
  | _ :: _, _ :: _, i + 1, h => ⟨h.1, All.erase i h.2⟩
  | [], _ :: _, _, h => h.elim
  | _ :: _, [], _, h => h.elim

theorem All.anti {h h' B : Hp} (e : ∀ a, h' a ≠ none → h a ≠ none) : ∀ {ps : List Pr} {vs : List V}, All h B ps vs → All h' B ps vs
  | [], [], _ => trivial
  | P :: _, _ :: _, q => ⟨P.anti e q.1, All.anti e q.2⟩
  | [], _ :: _, q => q.elim
  | _ :: _, [], q => q.elim
def I (i : Int) : Pr := ⟨fun _ _ v => v = .int i, fun _ q => q, fun _ q => q⟩
def Bo (b : Bool) : Pr := ⟨fun _ _ v => v = .bl b, fun _ q => q, fun _ q => q⟩
def Sx (s : Str) : Pr := ⟨fun _ _ v => v = .str s, fun _ q => q, fun _ q => q⟩
def No : Pr := ⟨fun _ _ v => v = .non, fun _ q => q, fun _ q => q⟩
def Ty (n : String) : Pr := ⟨fun _ _ v => v = .ty n, fun _ q => q, fun _ q => q⟩
/-- just that object -/
def Ref (a : Addr) : Pr := ⟨fun _ _ v => v = .ref a, fun _ q => q, fun _ q => q⟩
def L (ps : List Pr) : Pr := ⟨fun h B v => ∃ a xs, v = .ref a ∧ B a = some (.lst xs) ∧ All h B ps xs, fun e ⟨a, xs, h1, h2, h3⟩ => ⟨a, xs, h1, e _ _ h2, h3.mono e⟩, fun e ⟨a, xs, h1, h2, h3⟩ => ⟨a, xs, h1, h2, h3.anti e⟩⟩
def T (ps : List Pr) : Pr := ⟨fun h B v => ∃ a xs, v = .ref a ∧ B a = some (.tup xs) ∧ All h B ps xs, fun e ⟨a, xs, h1, h2, h3⟩ => ⟨a, xs, h1, e _ _ h2, h3.mono e⟩, fun e ⟨a, xs, h1, h2, h3⟩ => ⟨a, xs, h1, h2, h3.anti e⟩⟩
/-- .. made behind the entry -/
def N (P : Pr) : Pr := ⟨fun h B v => P.p h B v ∧ ∀ a, v = .ref a → h a = none, fun e q => ⟨P.mono e q.1, q.2⟩, fun {h h' B v} e q => ⟨P.anti e q.1, fun a z => by
  cases r : h' a with
  | none => rfl
  | some o => exact absurd (q.2 a z) (e a (by rw [r]; intro w; cases w))⟩⟩
/-- a list of ints that is read only, perhaps known to the object (the script) -/
def Scr (K : PySem.W.Frag) (ns : List Int) : Pr := ⟨fun _ B v => ∃ a, v = .ref a ∧ SqL K B a (ns.map V.int), fun e ⟨a, h1, h2⟩ => ⟨a, h1, e.seq h2⟩, fun _ q => q⟩

theorem all_map {α : Type} {R : α → Pr} {f : α → V} {h B : Hp} (hf : ∀ x v, (R x).p h B v → v = f x) : ∀ {l : List α} {vs : List V}, All h B (l.map R) vs → vs = l.map f
  | [], [], _ => rfl
  | x :: l, v :: vs, q => by
    rw [List.map_cons, hf x v q.1, all_map hf q.2]
  | [], _ :: _, q => q.elim
  | _ :: _, [], q => q.elim
theorem map_all {α : Type} {R : α → Pr} {f : α → V} {h B : Hp} (hf : ∀ x, (R x).p h B (f x)) : ∀ l : List α, All h B (l.map R) (l.map f)
  | [] => trivial
  | x :: l => ⟨hf x, map_all hf l⟩
theorem all_ints {h B : Hp} {l : List Int} {vs : List V} (q : All h B (l.map I) vs) : vs = l.map V.int := all_map (fun _ _ q => q) q
theorem all_bools {h B : Hp} {l : List Bool} {vs : List V} (q : All h B (l.map Bo) vs) : vs = l.map V.bl := all_map (fun _ _ q => q) q
theorem all_strs {h B : Hp} {l : List Str} {vs : List V} (q : All h B (l.map Sx) vs) : vs = l.map V.str := all_map (fun _ _ q => q) q
theorem ints_all {h B : Hp} (l : List Int) : All h B (l.map I) (l.map V.int) := map_all (fun _ => rfl) l
theorem bools_all {h B : Hp} (l : List Bool) : All h B (l.map Bo) (l.map V.bl) := map_all (fun _ => rfl) l
theorem strs_all {h B : Hp} (l : List Str) : All h B (l.map Sx) (l.map V.str) := map_all (fun _ => rfl) l

/-! ### what changes -/
structure Ob where
  p : Hp → Hp → HO → Prop
  mono : ∀ {h B B' : Hp} {o : HO}, Same B B' → p h B o → p h B' o
  anti : ∀ {h h' B : Hp} {o : HO}, (∀ a, h' a ≠ none → h a ≠ none) → p h B o → p h' B o
def ML (ps : List Pr) : Ob := ⟨fun h B o => ∃ xs, o = .lst xs ∧ All h B ps xs, fun e ⟨xs, h1, h2⟩ => ⟨xs, h1, h2.mono e⟩, fun e ⟨xs, h1, h2⟩ => ⟨xs, h1, h2.anti e⟩⟩
abbrev Ent := Addr × Ob
abbrev Del := List Ent
abbrev Gam := List (Option Pr)

/-! ### heaps that grow -/
structure Ext (B H B' H' : Hp) : Prop where
  bb : Same B B'
  hh : Same H H'
  bh : Same B' H'
  fr : ∀ a, B a = none → H a ≠ none → B' a = none
theorem Ext.refl {B H : Hp} (e : Same B H) : Ext B H B H := ⟨Same.refl _, Same.refl _, e, fun _ h _ => h⟩
theorem Ext.trans {B H B1 H1 B2 H2 : Hp} (a : Ext B H B1 H1) (b : Ext B1 H1 B2 H2) : Ext B H B2 H2 :=
  ⟨a.bb.trans b.bb, a.hh.trans b.hh, b.bh, fun x h1 h2 => b.fr x (a.fr x h1 h2) fun z => h2 (a.hh.free z)⟩
theorem same_new {H : Hp} {q : Addr} {o : HO} (h : H q = none) : Same H (upd H q o) := fun b u e => by
  rw [upd_ne (ne_of_none e h)]
  exact e
theorem same_upd {B H : Hp} {q : Addr} {o : HO} (e : Same B H) : Same (upd B q o) (upd H q o) := fun b u h => by
  by_cases hb : b = q
  · subst hb
    rw [upd_same] at h ⊢
    exact h
  · rw [upd_ne hb] at h ⊢
    exact e b u h
theorem Ext.new {B H : Hp} {q : Addr} {o : HO} (e : Same B H) (h : H q = none) : Ext B H (upd B q o) (upd H q o) :=
  ⟨same_new (e.free h), same_new h, same_upd e, fun a h1 h2 => by
    have n : a ≠ q := fun z => h2 (by rw [z]; exact h)
    rw [upd_ne n]
    exact h1⟩
theorem Ext.newH {B H : Hp} {q : Addr} {o : HO} (e : Same B H) (h : H q = none) : Ext B H B (upd H q o) :=
  ⟨Same.refl _, same_new h, e.trans (same_new h), fun _ h1 _ => h1⟩

/-! ### the state between two steps -/
structure Ws where
  B : Hp
  H : Hp
  ms : List Addr
structure Stb (W : Ws) (Δ : Del) (B H : Hp) : Prop where
  ex : Same B H
  mu : ∀ e ∈ Δ, B e.1 = none ∧ ∃ o, H e.1 = some o ∧ e.2.p W.H B o
  nd : (Δ.map (·.1)).Nodup
  bb : Same W.B B
  hh : ∀ a o, W.H a = some o → a ∉ W.ms → H a = some o
  dm : ∀ a, W.H a ≠ none → H a ≠ none
  fr : ∀ a, W.B a = none → W.H a ≠ none → B a = none
  ow : ∀ e ∈ Δ, e.1 ∈ W.ms ∨ W.H e.1 = none
  msd : ∀ a ∈ W.ms, W.H a ≠ none
def Sl (Γ : Gam) (h B : Hp) (σ : L2.St) : Prop := Γ.length = σ.length ∧ ∀ (i : Nat) (P : Pr), Γ[i]? = some (some P) → ∃ v, σ[i]? = some (some v) ∧ P.p h B v
theorem Sl.mono {Γ : Gam} {h0 B B' : Hp} {σ : L2.St} (e : Same B B') (h : Sl Γ h0 B σ) : Sl Γ h0 B' σ := ⟨h.1, fun i P q => let ⟨v, h1, h2⟩ := h.2 i P q; ⟨v, h1, P.mono e h2⟩⟩
theorem Sl.set {Γ : Gam} {h0 B : Hp} {σ : L2.St} {P : Pr} {v : V} (j : Nat) (h : Sl Γ h0 B σ) (hp : P.p h0 B v) : Sl (Γ.set j (some P)) h0 B (σ.set j (some v)) := by
  refine ⟨by rw [List.length_set, List.length_set]; exact h.1, fun i P' q => ?_⟩
  by_cases hj : j = i
  · subst hj
    have hl : j < Γ.length := by
      have := (List.getElem?_eq_some_iff.mp q).1
      rw [List.length_set] at this
      exact this
    rw [List.getElem?_set_self hl] at q
    cases q
    exact ⟨v, List.getElem?_set_self (by rw [← h.1]; exact hl), hp⟩
  · rw [List.getElem?_set_ne hj] at q
    obtain ⟨u, h1, h2⟩ := h.2 i P' q
    exact ⟨u, by rw [List.getElem?_set_ne hj]; exact h1, h2⟩
/-- some slots forgotten -/
def Wk : Gam → Gam → Prop
  | [], [] => True
  | g :: r, g' :: r' => (g' = none ∨ g = g') ∧ Wk r r'
  | _, _ => False
theorem Wk.refl : ∀ Γ : Gam, Wk Γ Γ
  | [] => trivial
  | _ :: r => ⟨.inr rfl, Wk.refl r⟩
theorem Wk.get : ∀ {Γ Γ' : Gam}, Wk Γ Γ' → Γ.length = Γ'.length ∧ ∀ (i : Nat) (P : Pr), Γ'[i]? = some (some P) → Γ[i]? = some (some P)
  | [], [], _ => ⟨rfl, fun _ _ h => by simp at h⟩
  | g :: r, g' :: r', h => ⟨congrArg (· + 1) (Wk.get h.2).1, fun i P q => by
    cases i with
    | zero =>
      rw [List.getElem?_cons_zero] at q ⊢
      rcases h.1 with z | z
      · rw [z] at q; cases q
      · rw [z]; exact q
    | succ i =>
      rw [List.getElem?_cons_succ] at q ⊢
      exact (Wk.get h.2).2 i P q⟩
  | [], _ :: _, h => h.elim
  | _ :: _, [], h => h.elim
theorem Sl.wk {Γ Γ' : Gam} {h0 B : Hp} {σ : L2.St} (h : Sl Γ h0 B σ) (w : Wk Γ Γ') : Sl Γ' h0 B σ := ⟨w.get.1.symm.trans h.1, fun i P q => h.2 i P (w.get.2 i P q)⟩

section
variable {W : Ws} {Γ : Gam} {Δ : Del} {B H B' H' : Hp} {σ : L2.St}
theorem Stb.ext (S : Stb W Δ B H) (e : Ext B H B' H') : Stb W Δ B' H' where
  ex := e.bh
  mu := fun x hx => by
    obtain ⟨h1, o, h2, h3⟩ := S.mu x hx
    exact ⟨e.fr _ h1 (by rw [h2]; intro z; cases z), o, e.hh _ _ h2, x.2.mono e.bb h3⟩
  nd := S.nd
  bb := S.bb.trans e.bb
  hh := fun a o h n => e.hh _ _ (S.hh a o h n)
  dm := fun a h z => S.dm a h (e.hh.free z)
  fr := fun a h n => e.fr a (S.fr a h n) (S.dm a n)
  ow := S.ow
  msd := S.msd
theorem Stb.fresh (S : Stb W Δ B H) {a : Addr} (h : H a = none) : W.H a = none := by
  cases e : W.H a with
  | none => rfl
  | some u => exact absurd h (S.dm a (by rw [e]; intro z; cases z))
theorem Stb.frV (S : Stb W Δ B H) {r : Addr} (h : H r = none) : ∀ a, V.ref r = V.ref a → W.H a = none := fun a z => by
  injection z with z
  exact z ▸ S.fresh h
theorem Stb.refl (e : Same W.B W.H) (hΔ : ∀ x ∈ Δ, x.1 ∈ W.ms ∧ W.B x.1 = none ∧ ∃ o, W.H x.1 = some o ∧ x.2.p W.H W.B o) (nd : (Δ.map (·.1)).Nodup) (hm : ∀ a ∈ W.ms, W.H a ≠ none) : Stb W Δ W.B W.H :=
  ⟨e, fun x hx => (hΔ x hx).2, nd, Same.refl _, fun _ _ h _ => h, fun _ h => h, fun _ h _ => h, fun x hx => .inl (hΔ x hx).1, hm⟩
theorem Stb.sub {Δ' : Del} (S : Stb W Δ B H) (h : List.Sublist Δ' Δ) : Stb W Δ' B H :=
  ⟨S.ex, fun x hx => S.mu x (h.subset hx), S.nd.sublist (h.map _), S.bb, S.hh, S.dm, S.fr, fun x hx => S.ow x (h.subset hx), S.msd⟩
theorem Stb.perm {Δ' : Del} (S : Stb W Δ B H) (h : List.Perm Δ Δ') : Stb W Δ' B H :=
  ⟨S.ex, fun x hx => S.mu x (h.mem_iff.mpr hx), ((h.map _).nodup_iff).mp S.nd, S.bb, S.hh, S.dm, S.fr, fun x hx => S.ow x (h.mem_iff.mpr hx), S.msd⟩
theorem Stb.at (S : Stb W Δ B H) {k : Nat} {a : Addr} {ob : Ob} (h : Δ[k]? = some (a, ob)) : B a = none ∧ ∃ o, H a = some o ∧ ob.p W.H B o := S.mu (a, ob) (List.mem_of_getElem? h)
/-- an entry is written -/
theorem Stb.put (S : Stb W Δ B H) {k : Nat} {a : Addr} {ob ob' : Ob} {o' : HO} (h : Δ[k]? = some (a, ob)) (hp : ob'.p W.H B o') : Stb W (Δ.set k (a, ob')) B (upd H a o') := by
  obtain ⟨ba, o, ha, _⟩ := S.at h
  have hk : k < Δ.length := (List.getElem?_eq_some_iff.mp h).1
  have hke : Δ[k] = (a, ob) := (List.getElem?_eq_some_iff.mp h).2
  have em : (Δ.set k (a, ob')).map (·.1) = Δ.map (·.1) := by
    rw [List.map_set]
    apply List.ext_getElem?
    intro i
    by_cases hi : k = i
    · subst hi
      rw [List.getElem?_set_self (by rw [List.length_map]; exact hk), List.getElem?_map, h]
      rfl
    · rw [List.getElem?_set_ne hi]
  have hm : ∀ x ∈ Δ.set k (a, ob'), x = (a, ob') ∨ (x ∈ Δ ∧ x.1 ≠ a) := fun x hx => by
    obtain ⟨i, hi, e⟩ := List.mem_iff_getElem.mp hx
    rw [List.length_set] at hi
    by_cases hik : k = i
    · subst hik
      rw [List.getElem_set_self] at e
      exact .inl e.symm
    · rw [List.getElem_set_ne hik] at e
      refine .inr ⟨e ▸ List.getElem_mem hi, fun z => hik ?_⟩
      have nd := S.nd
      have e1 : (Δ.map (·.1))[k]'(by rw [List.length_map]; exact hk) = (Δ.map (·.1))[i]'(by rw [List.length_map]; exact hi) := by
        rw [List.getElem_map, List.getElem_map, hke, e, z]
      exact (List.getElem_inj nd).mp e1
  refine ⟨fun b u hb => ?_, fun x hx => ?_, by rw [em]; exact S.nd, S.bb, fun b u hb hn => ?_, fun b hb => ?_, S.fr, fun x hx => ?_, S.msd⟩
  · rw [upd_ne (ne_of_none hb ba)]
    exact S.ex b u hb
  · rcases hm x hx with rfl | ⟨h1, h2⟩
    · exact ⟨ba, o', upd_same, hp⟩
    · obtain ⟨q1, o2, q2, q3⟩ := S.mu x h1
      exact ⟨q1, o2, by rw [upd_ne h2]; exact q2, q3⟩
  · have hba : b ≠ a := fun z => by
      rcases S.ow (a, ob) (List.mem_of_getElem? h) with q | q
      · exact hn (z ▸ q)
      · rw [z] at hb
        rw [q] at hb; cases hb
    rw [upd_ne hba]
    exact S.hh b u hb hn
  · by_cases z : b = a
    · rw [z, upd_same]; intro q; cases q
    · rw [upd_ne z]; exact S.dm b hb
  · rcases hm x hx with rfl | ⟨h1, _⟩
    · exact S.ow (a, ob) (List.mem_of_getElem? h)
    · exact S.ow x h1
/-- a new object that may change -/
theorem Stb.new (S : Stb W Δ B H) {q : Addr} {ob : Ob} {o : HO} (h : H q = none) (hp : ob.p W.H B o) : Stb W (Δ ++ [(q, ob)]) B (upd H q o) ∧ q ∉ W.ms := by
  have hw : W.H q = none := by
    cases e : W.H q with
    | none => rfl
    | some u => exact absurd h (S.dm q (by rw [e]; intro z; cases z))
  have hq : q ∉ W.ms := fun z => S.msd q z hw
  have S1 := S.ext (Ext.newH (o := o) S.ex h)
  have hne : ∀ x ∈ Δ, x.1 ≠ q := fun x hx z => by
    obtain ⟨_, o2, q2, _⟩ := S.mu x hx
    rw [z, h] at q2; cases q2
  refine ⟨⟨S1.ex, fun x hx => ?_, ?_, S1.bb, S1.hh, S1.dm, S1.fr, fun x hx => ?_, S1.msd⟩, hq⟩
  · rcases List.mem_append.mp hx with hx | hx
    · exact S1.mu x hx
    · have e : x = (q, ob) := by simpa using hx
      subst e
      exact ⟨S.ex.free h, o, upd_same, hp⟩
  · rw [List.map_append]
    refine List.nodup_append.mpr ⟨S.nd, by simp, fun a ha b hb => ?_⟩
    have e : b = q := by simpa using hb
    obtain ⟨x, hx, rfl⟩ := List.mem_map.mp ha
    rw [e]
    exact hne x hx
  · rcases List.mem_append.mp hx with hx | hx
    · exact S1.ow x hx
    · have e : x = (q, ob) := by simpa using hx
      subst e
      exact .inr hw
/-- an entry of our own stands still from here on -/
theorem Stb.frz (S : Stb W Δ B H) {k : Nat} {a : Addr} {ob : Ob} (h : Δ[k]? = some (a, ob)) (hn : a ∉ W.ms) : ∃ o, H a = some o ∧ W.H a = none ∧ ob.p W.H B o ∧ Stb W (Δ.eraseIdx k) (upd B a o) H ∧ Same B (upd B a o) := by
  obtain ⟨ba, o, ha, hp⟩ := S.at h
  have sm : Same B (upd B a o) := same_new ba
  have hw : W.H a = none := by
    rcases S.ow (a, ob) (List.mem_of_getElem? h) with q | q
    · exact absurd q hn
    · exact q
  have nd : ((Δ.eraseIdx k).map (·.1)).Nodup := S.nd.sublist ((List.eraseIdx_sublist Δ k).map _)
  have hk : k < Δ.length := (List.getElem?_eq_some_iff.mp h).1
  have hke : Δ[k] = (a, ob) := (List.getElem?_eq_some_iff.mp h).2
  have hne : ∀ x ∈ Δ.eraseIdx k, x.1 ≠ a := fun x hx z => by
    obtain ⟨i, hik, hi⟩ := List.mem_eraseIdx_iff_getElem?.mp hx
    have hil : i < Δ.length := (List.getElem?_eq_some_iff.mp hi).1
    have hie : Δ[i] = x := (List.getElem?_eq_some_iff.mp hi).2
    apply hik
    have e1 : (Δ.map (·.1))[i]'(by rw [List.length_map]; exact hil) = (Δ.map (·.1))[k]'(by rw [List.length_map]; exact hk) := by
      rw [List.getElem_map, List.getElem_map, hke, hie, z]
    exact (List.getElem_inj S.nd).mp e1
  refine ⟨o, ha, hw, hp, ⟨fun b u hb => ?_, fun x hx => ?_, nd, S.bb.trans sm, S.hh, S.dm, fun b h1 h2 => ?_, fun x hx => S.ow x ((List.eraseIdx_sublist Δ k).subset hx), S.msd⟩, sm⟩
  · by_cases z : b = a
    · rw [z, upd_same] at hb
      rw [z, ha]; exact hb
    · rw [upd_ne z] at hb
      exact S.ex b u hb
  · obtain ⟨q1, o2, q2, q3⟩ := S.mu x ((List.eraseIdx_sublist Δ k).subset hx)
    exact ⟨by rw [upd_ne (hne x hx)]; exact q1, o2, q2, x.2.mono sm q3⟩
  · have z : b ≠ a := fun z => h2 (by rw [z]; exact hw)
    rw [upd_ne z]
    exact S.fr b h1 h2
end

/-! ### the weakest ahead of a piece of syntax -/
def wpE (X : Cx) (e : Expr) : TE := fun σ H Q => ∀ (pins : List (Addr × Obj)) (s : Shared), Inv X pins σ H s → wpAny (model X.prog X.w) X.A (eval e X.env) (EP X pins σ Q) X.xe s
def wpT (X : Cx) (e : Expr) : TT := fun σ H Q => ∀ (pins : List (Addr × Obj)) (s : Shared), Inv X pins σ H s → wpAny (model X.prog X.w) X.A (isTrue e X.env (eval e X.env)) (TP X pins σ Q) X.xe s
def wpW (X : Cx) (e : Expr) : TT := fun σ H Q => ∀ (whole : Sem Value) (pins : List (Addr × Obj)) (s : Shared), Inv X pins σ H s → wpAny (model X.prog X.w) X.A (isTrue e X.env whole) (TP X pins σ Q) X.xe s
def wpA (X : Cx) (es : List Expr) : TA := fun σ H Q => ∀ (pos : Pos) (pins : List (Addr × Obj)) (s : Shared), Inv X pins σ H s → wpAny (model X.prog X.w) X.A (spliced (backTo pos (starEach es X.env))) (AP X pins σ Q) X.xe s
def wpS (X : Cx) (st : Stmt) : TS := fun D σ H => ∀ (pins : List (Addr × Obj)) (s : Shared), Inv X pins σ H s → wpAny (model X.prog X.w) X.A (exec st X.env) (SP X pins D) X.xe s
def wpSs (X : Cx) (st : List Stmt) : TS := fun D σ H => ∀ (pins : List (Addr × Obj)) (s : Shared), Inv X pins σ H s → wpAny (model X.prog X.w) X.A (execs st X.env) (SP X pins D) X.xe s
section
variable {X : Cx} {e : Expr} {es : List Expr} {st : Stmt} {sts : List Stmt} {σ : L2.St} {H : Hp}
theorem pe_wp : PE X e (wpE X e) := ⟨fun pins s _ _ _ I h => h pins s I⟩
theorem pt_wp : PT X e (wpT X e) := ⟨fun pins s _ _ _ I h => h pins s I⟩
theorem pw_wp : PW X e (wpW X e) := ⟨fun wh pins s _ _ _ I h => h wh pins s I⟩
theorem pa_wp : PA X es (wpA X es) := ⟨fun pos pins s _ _ _ I h => h pos pins s I⟩
theorem ps_wp : PS X st (wpS X st) := ⟨fun pins s _ _ _ I h => h pins s I⟩
theorem pss_wp : PSs X sts (wpSs X sts) := ⟨fun pins s _ _ _ I h => h pins s I⟩
theorem wpE_of {t : TE} {Q : VK} (h : PE X e t) (q : t σ H Q) : wpE X e σ H Q := fun pins s I => h.run pins s σ H Q I q
theorem wpT_of {t : TT} {Q : Bool → Hp → Prop} (h : PT X e t) (q : t σ H Q) : wpT X e σ H Q := fun pins s I => h.run pins s σ H Q I q
theorem wpW_of {t : TT} {Q : Bool → Hp → Prop} (h : PW X e t) (q : t σ H Q) : wpW X e σ H Q := fun wh pins s I => h.run wh pins s σ H Q I q
theorem wpA_of {t : TA} {Q : List V → Hp → Prop} (h : PA X es t) (q : t σ H Q) : wpA X es σ H Q := fun pos pins s I => h.run pos pins s σ H Q I q
theorem wpS_of {t : TS} {D : Ends} (h : PS X st t) (q : t D σ H) : wpS X st D σ H := fun pins s I => h.run pins s σ H D I q
theorem wpSs_of {t : TS} {D : Ends} (h : PSs X sts t) (q : t D σ H) : wpSs X sts D σ H := fun pins s I => h.run pins s σ H D I q
end

theorem passN {X : Cx} : Passes (L2N.CX X.prog X.w) X E0 := fun _ _ _ _ _ _ _ h => by
  obtain ⟨_, _, _, _, _, _, _, _, _, _, _, _, z⟩ := h
  exact z.elim
/-! ### the judgements -/
def EE (X : Cx) (Γ : Gam) (Δ : Del) (e : Expr) (P : Pr) : Prop := ∀ (W : Ws) (B H : Hp) (σ : L2.St), Stb W Δ B H → Sl Γ W.H B σ → ∀ Q : VK, (∀ v B2 H2, Ext B H B2 H2 → P.p W.H B2 v → Q v H2) → wpE X e σ H Q
def ET (X : Cx) (Γ : Gam) (Δ : Del) (e : Expr) (b : Bool) : Prop := ∀ (W : Ws) (B H : Hp) (σ : L2.St), Stb W Δ B H → Sl Γ W.H B σ → ∀ Q : Bool → Hp → Prop, (∀ B2 H2, Ext B H B2 H2 → Q b H2) → wpT X e σ H Q
def EW (X : Cx) (Γ : Gam) (Δ : Del) (e : Expr) (b : Bool) : Prop := ∀ (W : Ws) (B H : Hp) (σ : L2.St), Stb W Δ B H → Sl Γ W.H B σ → ∀ Q : Bool → Hp → Prop, (∀ B2 H2, Ext B H B2 H2 → Q b H2) → wpW X e σ H Q
def EA (X : Cx) (Γ : Gam) (Δ : Del) (es : List Expr) (Ps : List Pr) : Prop := ∀ (W : Ws) (B H : Hp) (σ : L2.St), Stb W Δ B H → Sl Γ W.H B σ → ∀ Q : List V → Hp → Prop, (∀ vs B2 H2, Ext B H B2 H2 → All W.H B2 Ps vs → Q vs H2) → wpA X es σ H Q
/-- a list that may be read -/
def ES (X : Cx) (Γ : Gam) (Δ : Del) (e : Expr) (ps : List Pr) : Prop := ∀ (W : Ws) (B H : Hp) (σ : L2.St), Stb W Δ B H → Sl Γ W.H B σ → ∀ Q : VK, (∀ a xs B2 H2, Ext B H B2 H2 → SqL X.K H2 a xs → All W.H B2 ps xs → Q (.ref a) H2) → wpE X e σ H Q
/-- .. tracked as it is -/
def EC (X : Cx) (Γ : Gam) (Δ : Del) (e : Expr) (ps : List Pr) : Prop := ∀ (W : Ws) (B H : Hp) (σ : L2.St), Stb W Δ B H → Sl Γ W.H B σ → ∀ Q : VK, (∀ a xs B2 H2, Ext B H B2 H2 → H2 a = some (.lst xs) → All W.H B2 ps xs → Q (.ref a) H2) → wpE X e σ H Q
/-- a new list -/
def EN (X : Cx) (Γ : Gam) (Δ : Del) (e : Expr) (ps : List Pr) : Prop := ∀ (W : Ws) (B H : Hp) (σ : L2.St), Stb W Δ B H → Sl Γ W.H B σ → ∀ Q : VK, (∀ a xs B2 H2, Ext B H B2 H2 → H2 a = some (.lst xs) → B2 a = none → H a = none → All W.H B2 ps xs → Q (.ref a) H2) → wpE X e σ H Q
/-- an expression that may change the entries, or raise -/
def EM (X : Cx) (ms : List Addr) (Γ : Gam) (Δ : Del) (e : Expr) (K : Pr → Del → Prop) (Kx : Value → Del → Prop) : Prop :=
  ∀ (W : Ws) (Wi : WX) (B H : Hp) (σ : L2.St), W.ms = ms → L2N.Takes X Wi → Stb W Δ B H → Sl Γ W.H B σ → (∀ c Δ' B' H', Kx c Δ' → Stb W Δ' B' H' → Same B B' → Wi c none σ H') →
    ∀ Q : VK, (∀ P Δ' v B' H', K P Δ' → Stb W Δ' B' H' → Same B B' → P.p W.H B' v → Q v H') → wpE X e σ H Q
/-- what is wanted of a block's ends -/
structure Kk where
  nx : Gam → Del → Prop := fun _ _ => False
  rt : Pr → Del → Prop := fun _ _ => False
  bk : Gam → Del → Prop := fun _ _ => False
  ct : Gam → Del → Prop := fun _ _ => False
  ex : Value → Gam → Del → Prop := fun _ _ _ => False
structure Kk.Ok (K : Kk) (W : Ws) (Wi : WX) (D : Ends) : Prop where
  nx : ∀ Γ Δ B H σ, K.nx Γ Δ → Stb W Δ B H → Sl Γ W.H B σ → D.nx σ H
  rt : ∀ P Δ B H v, K.rt P Δ → Stb W Δ B H → P.p W.H B v → D.rt v H
  bk : ∀ Γ Δ B H σ, K.bk Γ Δ → Stb W Δ B H → Sl Γ W.H B σ → D.bk σ H
  ct : ∀ Γ Δ B H σ, K.ct Γ Δ → Stb W Δ B H → Sl Γ W.H B σ → D.ct σ H
  ex : ∀ c Γ Δ B H σ, K.ex c Γ Δ → Stb W Δ B H → Sl Γ W.H B σ → Wi c none σ H
def Go (X : Cx) (ms : List Addr) (Γ : Gam) (Δ : Del) (sts : List Stmt) (K : Kk) : Prop :=
  ∀ (W : Ws) (Wi : WX) (B H : Hp) (σ : L2.St) (D : Ends), W.ms = ms → L2N.Takes X Wi → Stb W Δ B H → Sl Γ W.H B σ → K.Ok W Wi D → wpSs X sts D σ H
end Yb
set_option maxHeartbeats 1000000
namespace Yb
open PySem PySem.Spec PyProof.Rows L2
section
variable {X : Cx} {Γ : Gam} {Δ : Del} {e a b c : Expr} {es rest : List Expr} {P P' P2 : Pr} {Ps ps qs : List Pr} {pos p2 : Pos} {k k' : Bool} {x y z i j : Int}

/-! ### names, constants -/
theorem ee_var (n : Nat) {x : Str} (hG : Γ[n]? = some (some P)) (hN : X.N[n]? = some x := by rfl) (hv : Vis X.env.scope x := by first | exact Or.inl rfl | exact Or.inr (Or.inl rfl) | exact Or.inr (Or.inr rfl)) (hd : (x == ("__debug__" : Str)) = false := by decide)
    (hcd : (x == ("__classdict__" : Str)) = false := by decide) : EE X Γ Δ (.Name x pos) P := fun W B H σ S s Q q => wpE_of (pe_var hN hv hd hcd) (by
  obtain ⟨v, h1, h2⟩ := s.2 n P hG
  exact ⟨v, h1, q v B H (Ext.refl S.ex) h2⟩)
theorem ee_int {i : Int} {j : Nat} : EE X Γ Δ (.Constant (.int i) j pos) (I i) := fun W B H σ S s Q q => wpE_of pe_int (q _ B H (Ext.refl S.ex) rfl)
theorem ee_bl {t : Bool} {j : Nat} : EE X Γ Δ (.Constant (.bool t) j pos) (Bo t) := fun W B H σ S s Q q => wpE_of pe_bl (q _ B H (Ext.refl S.ex) rfl)
theorem ee_non {j : Nat} : EE X Γ Δ (.Constant .none j pos) No := fun W B H σ S s Q q => wpE_of pe_non (q _ B H (Ext.refl S.ex) rfl)
theorem ee_str {t : Str} {j : Nat} : EE X Γ Δ (.Constant (.str t) j pos) (Sx t) := fun W B H σ S s Q q => wpE_of pe_str (q _ B H (Ext.refl S.ex) rfl)
/-- a module's constant int -/
theorem ee_globI {x : Str} {i : Int} {t : Tok} (hg : Gl X x) (hm : X.mg x = some (.int i t)) (hd : (x == ("__debug__" : Str)) = false := by decide) : EE X Γ Δ (.Name x pos) (I i) := fun W B H σ S s Q q =>
  wpE_of (pe_glob (v := .int i) hg hm ⟨_, rfl⟩ hd) (q _ B H (Ext.refl S.ex) rfl)
theorem ee_globC {x : Str} {C : Addr} (hg : Gl X x) (hm : X.mg x = some (.ref C)) (hd : (x == ("__debug__" : Str)) = false := by decide) : EE X Γ Δ (.Name x pos) (Ref C) := fun W B H σ S s Q q =>
  wpE_of (pe_glob (v := .ref C) hg hm rfl hd) (q _ B H (Ext.refl S.ex) rfl)
theorem ee_bty {x : Str} {n : String} (hg : Gl X x) (hm : X.mg x = none) (hv : bootBuiltins x = some (.type n)) (hn : x ≠ "__name__" := by decide) (hd : (x == ("__debug__" : Str)) = false := by decide) : EE X Γ Δ (.Name x pos) (Ty n) := fun W B H σ S s Q q =>
  wpE_of (pe_bltn (v := .ty n) hg hm hv rfl hn hd) (q _ B H (Ext.refl S.ex) rfl)

/-! ### operators -/
theorem ee_op {op : Operator} {r : R2} (ho : OpR X (binaryOp op) r) (ha : EE X Γ Δ a P) (hb : EE X Γ Δ b P')
    (hr : ∀ h v u B H, Same B H → P.p h B v → P'.p h B u → ∀ Q : VK, (∀ z B2 H2, Ext B H B2 H2 → P2.p h B2 z → Q z H2) → r v u H Q) : EE X Γ Δ (.BinOp a op b pos) P2 := fun W B H σ S s Q q =>
  wpE_of (pe_op ho pe_wp pe_wp) (ha W B H σ S s _ fun v B1 H1 e1 h1 => hb W B1 H1 σ (S.ext e1) (s.mono e1.bb) _ fun u B2 H2 e2 h2 =>
    hr _ v u B2 H2 e2.bh (P.mono e2.bb h1) h2 _ fun z B3 H3 e3 h3 => q z B3 H3 ((e1.trans e2).trans e3) h3)
theorem ee_add (ha : EE X Γ Δ a (I x)) (hb : EE X Γ Δ b (I y)) : EE X Γ Δ (.BinOp a .Add b pos) (I (x + y)) := ee_op op_add ha hb fun _ v u B H e h1 h2 Q q => ⟨x, y, h1, h2, q _ B H (Ext.refl e) rfl⟩
theorem ee_sub (ha : EE X Γ Δ a (I x)) (hb : EE X Γ Δ b (I y)) : EE X Γ Δ (.BinOp a .Sub b pos) (I (x - y)) := ee_op op_sub ha hb fun _ v u B H e h1 h2 Q q => ⟨x, y, h1, h2, q _ B H (Ext.refl e) rfl⟩
theorem ee_mul (ha : EE X Γ Δ a (I x)) (hb : EE X Γ Δ b (I y)) (hc : CMul x y) : EE X Γ Δ (.BinOp a .Mult b pos) (I (x * y)) := ee_op op_mul ha hb fun _ v u B H e h1 h2 Q q => ⟨x, y, h1, h2, hc, q _ B H (Ext.refl e) rfl⟩
theorem ee_div (ha : EE X Γ Δ a (I x)) (hb : EE X Γ Δ b (I y)) (hc : CDiv x y := by exact ⟨by decide, by decide⟩) : EE X Γ Δ (.BinOp a .FloorDiv b pos) (I (x / y)) := ee_op op_fdiv ha hb fun _ v u B H e h1 h2 Q q => ⟨x, y, h1, h2, hc, q _ B H (Ext.refl e) rfl⟩
theorem ee_mod (ha : EE X Γ Δ a (I x)) (hb : EE X Γ Δ b (I y)) (hc : 0 < y := by decide) : EE X Γ Δ (.BinOp a .Mod b pos) (I (x % y)) := ee_op op_mod ha hb fun _ v u B H e h1 h2 Q q => ⟨x, y, h1, h2, hc, q _ B H (Ext.refl e) rfl⟩
theorem ee_pow (ha : EE X Γ Δ a (I x)) (hb : EE X Γ Δ b (I y)) (hc : CPow x y := by exact ⟨by decide, by decide, by decide⟩) : EE X Γ Δ (.BinOp a .Pow b pos) (I (x ^ y.toNat)) := ee_op op_pow ha hb fun _ v u B H e h1 h2 Q q => ⟨x, y, h1, h2, hc, q _ B H (Ext.refl e) rfl⟩
theorem ee_xor (ha : EE X Γ Δ a (I x)) (hb : EE X Γ Δ b (I y)) : EE X Γ Δ (.BinOp a .BitXor b pos) (I (Builtin.bitXor x y)) := ee_op op_xor ha hb fun _ v u B H e h1 h2 Q q => ⟨x, y, h1, h2, q _ B H (Ext.refl e) rfl⟩
theorem ee_cats {s t : Str} (ha : EE X Γ Δ a (Sx s)) (hb : EE X Γ Δ b (Sx t)) (hl : s.length + t.length ≤ sizeLine) : EE X Γ Δ (.BinOp a .Add b pos) (Sx (s ++ t)) := ee_op op_add_str ha hb fun _ v u B H e h1 h2 Q q => ⟨s, t, h1, h2, hl, q _ B H (Ext.refl e) rfl⟩
theorem ee_neg (ha : EE X Γ Δ a (I x)) : EE X Γ Δ (.UnaryOp .USub a pos) (I (-x)) := fun W B H σ S s Q q =>
  wpE_of (pe_un un_neg pe_wp) (ha W B H σ S s _ fun v B1 H1 e1 h1 => ⟨x, h1, q _ B1 H1 e1 rfl⟩)
theorem ee_un (h : EE X Γ Δ e (N P)) : EE X Γ Δ e P := fun W B H σ S s Q q => h W B H σ S s Q fun v B2 H2 e1 h1 => q v B2 H2 e1 h1.1
theorem ee_cast (h : EE X Γ Δ e P) (q : P = P') : EE X Γ Δ e P' := q ▸ h
theorem et_cast (h : ET X Γ Δ e k) (q : k = k') : ET X Γ Δ e k' := q ▸ h
theorem es_cast (h : ES X Γ Δ e ps) (q : ps = qs) : ES X Γ Δ e qs := q ▸ h

/-! ### comparisons -/
structure Cmp (X : Cx) (op : CmpOp) (P P' : Pr) (k : Bool) : Prop where
  ex : ∃ r, OpR X (compareOp op) r ∧ ∀ h v u B H, Same B H → P.p h B v → P'.p h B u → ∀ Q : VK, Q (.bl k) H → r v u H Q
theorem ee_cmp {op : CmpOp} (h : Cmp X op P P' k) (ha : EE X Γ Δ a P) (hb : EE X Γ Δ b P') (hm : behindInMarks op b = false := by first | exact nomark _ | rfl) : EE X Γ Δ (.Compare a [op] [b] pos) (Bo k) := fun W B H σ S s Q q => by
  obtain ⟨r, ho, hr⟩ := h.ex
  exact wpE_of (pe_cmpR ho pe_wp pe_wp hm) (ha W B H σ S s _ fun v B1 H1 e1 h1 => hb W B1 H1 σ (S.ext e1) (s.mono e1.bb) _ fun u B2 H2 e2 h2 =>
    hr _ v u B2 H2 e2.bh (P.mono e2.bb h1) h2 _ (q _ B2 H2 (e1.trans e2) rfl))
theorem et_cmp {op : CmpOp} (h : Cmp X op P P' k) (ha : EE X Γ Δ a P) (hb : EE X Γ Δ b P') (hm : behindInMarks op b = false := by first | exact nomark _ | rfl) : ET X Γ Δ (.Compare a [op] [b] pos) k := fun W B H σ S s Q q => by
  obtain ⟨r, ho, hr⟩ := h.ex
  exact wpT_of (pt_cmpR ho pe_wp pe_wp hm) (ha W B H σ S s _ fun v B1 H1 e1 h1 => hb W B1 H1 σ (S.ext e1) (s.mono e1.bb) _ fun u B2 H2 e2 h2 =>
    hr _ v u B2 H2 e2.bh (P.mono e2.bb h1) h2 _ ⟨k, rfl, q B2 H2 (e1.trans e2)⟩)
theorem cmp_lt : Cmp X .Lt (I x) (I y) (decide (x < y)) := ⟨_, op_lt, fun _ v u B H e h1 h2 Q q => ⟨x, y, h1, h2, q⟩⟩
theorem cmp_le : Cmp X .LtE (I x) (I y) (decide (x ≤ y)) := ⟨_, op_le, fun _ v u B H e h1 h2 Q q => ⟨x, y, h1, h2, q⟩⟩
theorem cmp_gt : Cmp X .Gt (I x) (I y) (decide (y < x)) := ⟨_, op_gt, fun _ v u B H e h1 h2 Q q => ⟨x, y, h1, h2, q⟩⟩
theorem cmp_ge : Cmp X .GtE (I x) (I y) (decide (y ≤ x)) := ⟨_, op_ge, fun _ v u B H e h1 h2 Q q => ⟨x, y, h1, h2, q⟩⟩
theorem vint_iff {x y : Int} : (V.int x = V.int y) ↔ x = y := ⟨fun h => by injection h, fun h => by rw [h]⟩
theorem vbl_iff {x y : Bool} : (V.bl x = V.bl y) ↔ x = y := ⟨fun h => by injection h, fun h => by rw [h]⟩
theorem vstr_iff {x y : Str} : (V.str x = V.str y) ↔ x = y := ⟨fun h => by injection h, fun h => by rw [h]⟩
theorem cmp_eq : Cmp X .Eq (I x) (I y) (decide (x = y)) := ⟨_, op_eq, fun _ v u B H e h1 h2 Q q => by
  have e1 : v = .int x := h1
  have e2 : u = .int y := h2
  subst e1 e2
  exact ⟨rfl, by rw [decide_eq_decide.mpr vint_iff]; exact q⟩⟩
theorem cmp_ne : Cmp X .NotEq (I x) (I y) (!decide (x = y)) := ⟨_, op_ne, fun _ v u B H e h1 h2 Q q => by
  have e1 : v = .int x := h1
  have e2 : u = .int y := h2
  subst e1 e2
  exact ⟨rfl, by rw [decide_eq_decide.mpr vint_iff]; exact q⟩⟩
theorem cmp_eqB : Cmp X .Eq (Bo k) (Bo k') (decide (k = k')) := ⟨_, op_eq, fun _ v u B H e h1 h2 Q q => by
  have e1 : v = .bl k := h1
  have e2 : u = .bl k' := h2
  subst e1 e2
  exact ⟨rfl, by rw [decide_eq_decide.mpr vbl_iff]; exact q⟩⟩
theorem cmp_neB : Cmp X .NotEq (Bo k) (Bo k') (!decide (k = k')) := ⟨_, op_ne, fun _ v u B H e h1 h2 Q q => by
  have e1 : v = .bl k := h1
  have e2 : u = .bl k' := h2
  subst e1 e2
  exact ⟨rfl, by rw [decide_eq_decide.mpr vbl_iff]; exact q⟩⟩
theorem cmp_eqS {s t : Str} : Cmp X .Eq (Sx s) (Sx t) (decide (s = t)) := ⟨_, op_eq, fun _ v u B H e h1 h2 Q q => by
  have e1 : v = .str s := h1
  have e2 : u = .str t := h2
  subst e1 e2
  exact ⟨rfl, by rw [decide_eq_decide.mpr vstr_iff]; exact q⟩⟩
theorem cmp_neS {s t : Str} : Cmp X .NotEq (Sx s) (Sx t) (!decide (s = t)) := ⟨_, op_ne, fun _ v u B H e h1 h2 Q q => by
  have e1 : v = .str s := h1
  have e2 : u = .str t := h2
  subst e1 e2
  exact ⟨rfl, by rw [decide_eq_decide.mpr vstr_iff]; exact q⟩⟩
/-- is None; nn: no value of P is None, or all are -/
theorem cmp_isN (hn : ∀ h B v, P.p h B v → decide (v = .non) = k) : Cmp X .Is P No k := ⟨_, op_isN, fun _ v u B H e h1 h2 Q q => ⟨h2, by rw [hn _ B v h1]; exact q⟩⟩
theorem cmp_notN (hn : ∀ h B v, P.p h B v → decide (v = .non) = k) : Cmp X .IsNot P No (!k) := ⟨_, op_notN, fun _ v u B H e h1 h2 Q q => ⟨h2, by rw [hn _ B v h1]; exact q⟩⟩

/-! ### tests -/
theorem et_val (h : EE X Γ Δ e (Bo k)) (he : ∀ whole, isTrue e X.env whole = (do let v ← whole; standAt e.pos; holding [v] (truthy v)) := by intro _; rfl) : ET X Γ Δ e k := fun W B H σ S s Q q =>
  wpT_of (pt_val pe_wp he) (h W B H σ S s _ fun v B1 H1 e1 h1 => ⟨k, h1, q B1 H1 e1⟩)
theorem et_not (h : ET X Γ Δ a k) : ET X Γ Δ (.UnaryOp .Not a pos) (!k) := fun W B H σ S s Q q => wpT_of (pt_not pt_wp) (h W B H σ S s _ fun B1 H1 e1 => q B1 H1 e1)
theorem et_w (h : EW X Γ Δ e k) : ET X Γ Δ e k := fun W B H σ S s Q q => wpT_of (PW.pt pw_wp) (h W B H σ S s Q q)
theorem ew_and1 (h : ET X Γ Δ a k) : EW X Γ Δ (.BoolOp .And [a] pos) k := fun W B H σ S s Q q => wpW_of (pw_and1 pt_wp) (h W B H σ S s Q q)
theorem ew_or1 (h : ET X Γ Δ a k) : EW X Γ Δ (.BoolOp .Or [a] pos) k := fun W B H σ S s Q q => wpW_of (pw_or1 pt_wp) (h W B H σ S s Q q)
theorem ew_and (ha : ET X Γ Δ a k) (hb : k = true → EW X Γ Δ (.BoolOp .And (b :: rest) pos) k') : EW X Γ Δ (.BoolOp .And (a :: b :: rest) pos) (k && k') := fun W B H σ S s Q q =>
  wpW_of (pw_and pt_wp pw_wp) (ha W B H σ S s _ fun B1 H1 e1 => by
    cases k with
    | false => exact q B1 H1 e1
    | true => exact hb rfl W B1 H1 σ (S.ext e1) (s.mono e1.bb) _ fun B2 H2 e2 => q B2 H2 (e1.trans e2))
theorem ew_or (ha : ET X Γ Δ a k) (hb : k = false → EW X Γ Δ (.BoolOp .Or (b :: rest) pos) k') : EW X Γ Δ (.BoolOp .Or (a :: b :: rest) pos) (k || k') := fun W B H σ S s Q q =>
  wpW_of (pw_or pt_wp pw_wp) (ha W B H σ S s _ fun B1 H1 e1 => by
    cases k with
    | true => exact q B1 H1 e1
    | false => exact hb rfl W B1 H1 σ (S.ext e1) (s.mono e1.bb) _ fun B2 H2 e2 => q B2 H2 (e1.trans e2))
theorem ee_one {op : BoolOp} (h : EE X Γ Δ a P) : EE X Γ Δ (.BoolOp op [a] pos) P := fun W B H σ S s Q q => wpE_of (pe_one pe_wp) (h W B H σ S s Q q)
theorem ee_and (ha : EE X Γ Δ a (Bo k)) (hb : k = true → EE X Γ Δ (.BoolOp .And (b :: rest) pos) (Bo k')) : EE X Γ Δ (.BoolOp .And (a :: b :: rest) pos) (Bo (k && k')) := fun W B H σ S s Q q =>
  wpE_of (pe_and pe_wp pe_wp) (ha W B H σ S s _ fun v B1 H1 e1 h1 => ⟨k, h1, by
    cases k with
    | false => exact q _ B1 H1 e1 rfl
    | true => exact hb rfl W B1 H1 σ (S.ext e1) (s.mono e1.bb) _ fun v B2 H2 e2 h2 => q v B2 H2 (e1.trans e2) h2⟩)
theorem ee_or (ha : EE X Γ Δ a (Bo k)) (hb : k = false → EE X Γ Δ (.BoolOp .Or (b :: rest) pos) (Bo k')) : EE X Γ Δ (.BoolOp .Or (a :: b :: rest) pos) (Bo (k || k')) := fun W B H σ S s Q q =>
  wpE_of (pe_or pe_wp pe_wp) (ha W B H σ S s _ fun v B1 H1 e1 h1 => ⟨k, h1, by
    cases k with
    | true => exact q _ B1 H1 e1 rfl
    | false => exact hb rfl W B1 H1 σ (S.ext e1) (s.mono e1.bb) _ fun v B2 H2 e2 h2 => q v B2 H2 (e1.trans e2) h2⟩)
theorem ee_not (h : EE X Γ Δ a (Bo k)) : EE X Γ Δ (.UnaryOp .Not a pos) (Bo (!k)) := fun W B H σ S s Q q => wpE_of (pe_not pe_wp) (h W B H σ S s _ fun v B1 H1 e1 h1 => ⟨k, h1, q _ B1 H1 e1 rfl⟩)
theorem ee_ifx (hc : ET X Γ Δ c k) (ha : k = true → EE X Γ Δ a P) (hb : k = false → EE X Γ Δ b P) : EE X Γ Δ (.IfExp c a b pos) P := fun W B H σ S s Q q =>
  wpE_of (pe_ifExp pt_wp pe_wp pe_wp) (hc W B H σ S s _ fun B1 H1 e1 => by
    cases k with
    | true => exact ha rfl W B1 H1 σ (S.ext e1) (s.mono e1.bb) _ fun v B2 H2 e2 h2 => q v B2 H2 (e1.trans e2) h2
    | false => exact hb rfl W B1 H1 σ (S.ext e1) (s.mono e1.bb) _ fun v B2 H2 e2 h2 => q v B2 H2 (e1.trans e2) h2)
/-- x <= y < z, x <= y <= z -/
theorem et_chain {op op' : CmpOp} {f g : Int → Int → Bool} (ho : OpR X (compareOp op) (rI0 fun i j => .bl (f i j))) (ho' : OpR X (compareOp op') (rI0 fun i j => .bl (g i j))) (ha : EE X Γ Δ a (I x)) (hb : EE X Γ Δ b (I y)) (hc : f x y = true → EE X Γ Δ c (I z))
    (hm : lastMarks [op, op'] [b, c] = false := by with_unfolding_all rfl) : ET X Γ Δ (.Compare a [op, op'] [b, c] pos) (f x y && g y z) := fun W B H σ S s Q q =>
  wpT_of (pt_chain ho ho' pe_wp pe_wp pe_wp hm) (ha W B H σ S s _ fun v B1 H1 e1 h1 => hb W B1 H1 σ (S.ext e1) (s.mono e1.bb) _ fun u B2 H2 e2 h2 => ⟨x, y, h1, h2, f x y, rfl, by
    cases hf : f x y with
    | false =>
      rw [if_neg Bool.false_ne_true]
      rw [hf] at q
      exact ⟨_, rfl, q B2 H2 (e1.trans e2)⟩
    | true =>
      rw [if_pos rfl]
      rw [hf] at q
      exact hc hf W B2 H2 σ ((S.ext e1).ext e2) ((s.mono e1.bb).mono e2.bb) _ fun w B3 H3 e3 h3 => ⟨y, z, h2, h3, _, rfl, q B3 H3 ((e1.trans e2).trans e3)⟩⟩)

/-! ### arguments, displays -/
theorem ea_nil : EA X Γ Δ [] [] := fun W B H σ S s Q q => wpA_of pa_nil (q [] B H (Ext.refl S.ex) trivial)
theorem ea_cons (h : EE X Γ Δ e P) (hr : EA X Γ Δ es Ps) (hs : starEach (e :: es) X.env = (false, eval e X.env) :: starEach es X.env := by rfl) : EA X Γ Δ (e :: es) (P :: Ps) := fun W B H σ S s Q q =>
  wpA_of (pa_cons pe_wp pa_wp hs) (h W B H σ S s _ fun v B1 H1 e1 h1 => hr W B1 H1 σ (S.ext e1) (s.mono e1.bb) _ fun vs B2 H2 e2 h2 => q _ B2 H2 (e1.trans e2) ⟨P.mono e2.bb h1, h2⟩)
theorem sz_le {n : Nat} (h : n ≤ 100000) : n ≤ sizeLine := Nat.le_trans h (by decide)
theorem sz_lt {n : Nat} (h : n < 100000) : n < sizeLine := Nat.lt_of_lt_of_le h (by decide)
theorem fr_N {W : Ws} {B H B1 H1 : Hp} {l : Addr} {xs : List V} (S : Stb W Δ B H) (e1 : Ext B H B1 H1) (h1 : H1 l = some (.lst xs)) (h2 : B1 l = none) (h3 : H l = none) (h4 : All W.H B1 ps xs) : ∃ B2, Ext B H B2 H1 ∧ (N (L ps)).p W.H B2 (.ref l) := by
  have sm : Same B1 (upd B1 l (.lst xs)) := same_new h2
  refine ⟨upd B1 l (.lst xs), ⟨e1.bb.trans sm, e1.hh, fun a u g => ?_, fun a g n => ?_⟩, ⟨l, xs, rfl, upd_same, h4.mono sm⟩, S.frV h3⟩
  · by_cases z : a = l
    · rw [z, upd_same] at g
      rw [z, h1]; exact g
    · rw [upd_ne z] at g
      exact e1.bh a u g
  · have z : a ≠ l := fun z => n (by rw [z]; exact h3)
    rw [upd_ne z]
    exact e1.fr a g n
theorem mu_N {W : Ws} {B H B1 H1 : Hp} {l : Addr} {xs : List V} (S : Stb W Δ B H) (e1 : Ext B H B1 H1) (h1 : H1 l = some (.lst xs)) (h2 : B1 l = none) (h3 : H l = none) (h4 : All W.H B1 ps xs) : l ∉ W.ms ∧ Stb W (Δ ++ [(l, ML ps)]) B1 H1 := by
  have S1 := S.ext e1
  refine ⟨fun z => S.msd l z (S.fresh h3), ⟨S1.ex, fun x hx => ?_, ?_, S1.bb, S1.hh, S1.dm, S1.fr, fun x hx => ?_, S1.msd⟩⟩
  · rcases List.mem_append.mp hx with hx | hx
    · exact S1.mu x hx
    · have e : x = (l, ML ps) := by simpa using hx
      subst e
      exact ⟨h2, _, h1, xs, rfl, h4⟩
  · rw [List.map_append]
    refine List.nodup_append.mpr ⟨S1.nd, by simp, fun a ha b hb z => ?_⟩
    have e : b = l := by simpa using hb
    obtain ⟨x, hx, rfl⟩ := List.mem_map.mp ha
    obtain ⟨_, o2, q2, _⟩ := S.mu x hx
    rw [z, e, h3] at q2; cases q2
  · rcases List.mem_append.mp hx with hx | hx
    · exact S1.ow x hx
    · have e : x = (l, ML ps) := by simpa using hx
      subst e
      exact .inr (S.fresh h3)
theorem ee_N (h : EN X Γ Δ e ps) : EE X Γ Δ e (N (L ps)) := fun W B H σ S s Q q => h W B H σ S s _ fun l xs B1 H1 e1 h1 h2 h3 h4 => by
  obtain ⟨B2, e2, k⟩ := fr_N S e1 h1 h2 h3 h4
  exact q _ B2 H1 e2 k
theorem em_N {ms : List Addr} {Kx : Value → Del → Prop} (h : EN X Γ Δ e ps) : EM X ms Γ Δ e (fun P' Δ' => ∃ l, l ∉ ms ∧ P' = Ref l ∧ Δ' = Δ ++ [(l, ML ps)]) Kx := fun W Wi B H σ hm tk S s hx Q q => h W B H σ S s _ fun l xs B1 H1 e1 h1 h2 h3 h4 => by
  obtain ⟨h5, S2⟩ := mu_N S e1 h1 h2 h3 h4
  exact q (Ref l) _ _ B1 H1 ⟨l, hm ▸ h5, rfl, rfl⟩ S2 e1.bb rfl
theorem en_cast (h : EN X Γ Δ e ps) (q : ps = qs) : EN X Γ Δ e qs := q ▸ h
/-- for writers of rules: a list laid at r -/
theorem en_fin {W : Ws} {B H B1 H1 : Hp} {vs : List V} {Q : VK} (e1 : Ext B H B1 H1) (h1 : All W.H B1 ps vs) (q : ∀ a xs B2 H2, Ext B H B2 H2 → H2 a = some (.lst xs) → B2 a = none → H a = none → All W.H B2 ps xs → Q (.ref a) H2) (r : Addr) (hr : H1 r = none) : Q (.ref r) (upd H1 r (.lst vs)) :=
  q r vs B1 _ (e1.trans (Ext.newH e1.bh hr)) upd_same (e1.bh.free hr) (e1.hh.free hr) h1
theorem en_lst (h : EA X Γ Δ es Ps) (hl : Ps.length ≤ 100000 := by exact Nat.le_of_ble_eq_true rfl) : EN X Γ Δ (.List es pos) Ps := fun W B H σ S s Q q =>
  wpE_of (pe_lst pa_wp) (h W B H σ S s _ fun vs B1 H1 e1 h1 => ⟨by rw [← h1.len]; exact sz_le hl, en_fin e1 h1 q⟩)
theorem ee_tup {x1 : Nat} (h : EA X Γ Δ es Ps) (hl : Ps.length ≤ 100000 := by exact Nat.le_of_ble_eq_true rfl) : EE X Γ Δ (.Tuple es x1 pos) (N (T Ps)) := fun W B H σ S s Q q =>
  wpE_of (pe_tup pa_wp) (h W B H σ S s _ fun vs B1 H1 e1 h1 => ⟨by rw [← h1.len]; exact sz_le hl, fun r hr =>
    have e2 := Ext.new (o := .tup vs) e1.bh hr
    q _ _ _ (e1.trans e2) ⟨⟨r, vs, rfl, upd_same, h1.mono e2.bb⟩, (S.ext e1).frV hr⟩⟩)

/-! ### lists that are read -/
theorem ec_L (h : EE X Γ Δ e (L ps)) : EC X Γ Δ e ps := fun W B H σ S s Q q => h W B H σ S s _ fun v B1 H1 e1 h1 => by
  obtain ⟨l, xs, rfl, h2, h3⟩ := h1
  exact q l xs B1 H1 e1 (e1.bh _ _ h2) h3
theorem ec_N (h : EN X Γ Δ e ps) : EC X Γ Δ e ps := fun W B H σ S s Q q => h W B H σ S s Q fun l xs B1 H1 e1 h1 _ _ h4 => q l xs B1 H1 e1 h1 h4
theorem ec_M (n : Nat) {l : Addr} (h : EE X Γ Δ e (Ref l)) (hk : Δ[n]? = some (l, ML ps)) : EC X Γ Δ e ps := fun W B H σ S s Q q => h W B H σ S s _ fun v B1 H1 e1 h1 => by
  have ev : v = .ref l := h1
  subst ev
  obtain ⟨_, o, h2, xs, rfl, h3⟩ := (S.ext e1).at hk
  exact q l xs B1 H1 e1 h2 h3
theorem es_C (h : EC X Γ Δ e ps) : ES X Γ Δ e ps := fun W B H σ S s Q q => h W B H σ S s Q fun l xs B1 H1 e1 h1 h2 => q l xs B1 H1 e1 (SqL.of h1) h2
theorem es_L (h : EE X Γ Δ e (L ps)) : ES X Γ Δ e ps := es_C (ec_L h)
theorem es_M (n : Nat) {l : Addr} (h : EE X Γ Δ e (Ref l)) (hk : Δ[n]? = some (l, ML ps)) : ES X Γ Δ e ps := es_C (ec_M n h hk)
theorem es_scr {ns : List Int} (h : EE X Γ Δ e (Scr X.K ns)) : ES X Γ Δ e (ns.map I) := fun W B H σ S s Q q => h W B H σ S s _ fun v B1 H1 e1 h1 => by
  obtain ⟨l, rfl, h2⟩ := h1
  exact q l _ B1 H1 e1 (Same.seq e1.bh h2) (ints_all ns)
theorem all_at {h0 B : Hp} {vs : List V} {i : Int} (h : All h0 B ps vs) (ha : atI ps i = some P) : ∃ v, atI vs i = some v ∧ P.p h0 B v := by
  unfold atI at ha ⊢
  rw [← h.len]
  cases e : ixN ps.length i with
  | none => rw [e] at ha; cases ha
  | some j =>
    rw [e] at ha
    obtain ⟨v, h1, h2⟩ := h.get (i := j) (P := P) ha
    exact ⟨v, h1, h2⟩
theorem ee_ix (ha : ES X Γ Δ a ps) (hb : EE X Γ Δ b (I i)) (hi : atI ps i = some P) (hs : PlainIx b := by exact fun _ _ => rfl) : EE X Γ Δ (.Subscript a b pos) P := fun W B H σ S s Q q =>
  wpE_of (pe_ix ix_list pe_wp pe_wp hs) (ha W B H σ S s _ fun l xs B1 H1 e1 h1 h2 => hb W B1 H1 σ (S.ext e1) (s.mono e1.bb) _ fun u B2 H2 e2 h3 => by
    obtain ⟨v, h4, h5⟩ := all_at (h2.mono e2.bb) hi
    exact ⟨l, xs, i, v, rfl, h3, Same.seq e2.hh h1, h4, q v B2 H2 (e1.trans e2) h5⟩)
theorem ee_ixT (ha : EE X Γ Δ a (T ps)) (hb : EE X Γ Δ b (I i)) (hi : atI ps i = some P) (hs : PlainIx b := by exact fun _ _ => rfl) : EE X Γ Δ (.Subscript a b pos) P := fun W B H σ S s Q q =>
  wpE_of (pe_ix ix_tup pe_wp pe_wp hs) (ha W B H σ S s _ fun w B1 H1 e1 h1 => hb W B1 H1 σ (S.ext e1) (s.mono e1.bb) _ fun u B2 H2 e2 h3 => by
    obtain ⟨l, xs, rfl, g1, g2⟩ := h1
    obtain ⟨v, h4, h5⟩ := all_at (g2.mono e2.bb) hi
    exact ⟨l, xs, i, v, rfl, h3, SqT.of (e2.hh _ _ (e1.bh _ _ g1)), h4, q v B2 H2 (e1.trans e2) h5⟩)
theorem ee_len {px : Pos} (ha : ES X Γ Δ a ps) (hg : Gl X "len") (hm : X.mg "len" = none) (hs : starEach [a] X.env = (false, eval a X.env) :: starEach [] X.env := by rfl) : EE X Γ Δ (.Call (.Name "len" px) [a] [] pos) (I (ps.length : Int)) := fun W B H σ S s Q q =>
  wpE_of (pe_callB call_len_seq hg hm PySem.boot_len (pa_cons pe_wp pa_nil hs) (he := hs)) (ha W B H σ S s _ fun l xs B1 H1 e1 h1 h2 => ⟨l, xs, rfl, .inl h1, by
    rw [← h2.len]
    exact q _ B1 H1 e1 rfl⟩)
theorem en_list {px : Pos} (ha : ES X Γ Δ a ps) (hg : Gl X "list") (hm : X.mg "list" = none) (hs : starEach [a] X.env = (false, eval a X.env) :: starEach [] X.env := by rfl) : EN X Γ Δ (.Call (.Name "list" px) [a] [] pos) ps := fun W B H σ S s Q q =>
  wpE_of (pe_callTy call_list_of hg hm (by decide +kernel) (pa_cons pe_wp pa_nil hs) (he := hs)) (ha W B H σ S s _ fun l xs B1 H1 e1 h1 h2 => ⟨l, xs, rfl, .inl h1, en_fin e1 h2 q⟩)
/-! slices -/
def wpO (X : Cx) (e : Option Expr) : TO := fun σ H Q => ∀ (pins : List (Addr × Obj)) (s : Shared), Inv X pins σ H s → wpAny (model X.prog X.w) X.A (evalPart e X.env) (fun u s' => ∃ o H', Inv X pins σ H' s' ∧ IsPart u o ∧ Q o H') X.xe s
theorem po_wp {e : Option Expr} : PO X e (wpO X e) := ⟨fun pins s _ _ _ I h => h pins s I⟩
theorem wpO_of {e : Option Expr} {t : TO} {σ : L2.St} {H : Hp} {Q : Option Int → Hp → Prop} (h : PO X e t) (q : t σ H Q) : wpO X e σ H Q := fun pins s I => h.run pins s σ H Q I q
def EO (X : Cx) (Γ : Gam) (Δ : Del) (e : Option Expr) (o : Option Int) : Prop := ∀ (W : Ws) (B H : Hp) (σ : L2.St), Stb W Δ B H → Sl Γ W.H B σ → ∀ Q : Option Int → Hp → Prop, (∀ B2 H2, Ext B H B2 H2 → Q o H2) → wpO X e σ H Q
theorem eo_none : EO X Γ Δ none none := fun W B H σ S s Q q => wpO_of po_none (q B H (Ext.refl S.ex))
theorem eo_some (h : EE X Γ Δ e (I i)) : EO X Γ Δ (some e) (some i) := fun W B H σ S s Q q => wpO_of (po_some pe_wp) (h W B H σ S s _ fun v B1 H1 e1 h1 => ⟨i, h1, q B1 H1 e1⟩)
def cut {α : Type} (xs : List α) (lo hi : Option Int) : List α := (xs.drop (HT.sIx xs.length 0 lo)).take (HT.sIx xs.length xs.length hi - HT.sIx xs.length 0 lo)
theorem all_cut {h0 B : Hp} {vs : List V} {lo hi : Option Int} (h : All h0 B ps vs) : All h0 B (cut ps lo hi) (cutV vs lo hi) := by
  unfold cut cutV
  rw [h.len]
  exact (h.drop _).take _
theorem cut_map {α β : Type} (f : α → β) (xs : List α) (lo hi : Option Int) : cut (xs.map f) lo hi = (cut xs lo hi).map f := by
  unfold cut
  rw [List.length_map, List.map_take, List.map_drop]
theorem en_sl {lo hi : Option Expr} {o o' : Option Int} (ha : ES X Γ Δ a ps) (hl : EO X Γ Δ lo o) (hh : EO X Γ Δ hi o') : EN X Γ Δ (.Subscript a (.Slice lo hi none p2) pos) (cut ps o o') := fun W B H σ S s Q q =>
  wpE_of (pe_slice sl_list pe_wp po_wp po_wp) (ha W B H σ S s _ fun l xs B1 H1 e1 h1 h2 => hl W B1 H1 σ (S.ext e1) (s.mono e1.bb) _ fun B2 H2 e2 => hh W B2 H2 σ ((S.ext e1).ext e2) ((s.mono e1.bb).mono e2.bb) _ fun B3 H3 e3 =>
    ⟨l, xs, rfl, Same.seq (e2.hh.trans e3.hh) h1, en_fin ((e1.trans e2).trans e3) (all_cut (h2.mono (e2.bb.trans e3.bb))) q⟩)
theorem en_cat (ha : EC X Γ Δ a ps) (hb : EC X Γ Δ b qs) (hl : ps.length + qs.length ≤ 100000) : EN X Γ Δ (.BinOp a .Add b pos) (ps ++ qs) := fun W B H σ S s Q q =>
  wpE_of (pe_op op_cat pe_wp pe_wp) (ha W B H σ S s _ fun l xs B1 H1 e1 h1 h2 => hb W B1 H1 σ (S.ext e1) (s.mono e1.bb) _ fun m ys B2 H2 e2 h3 h4 =>
    ⟨l, m, xs, ys, rfl, rfl, e2.hh _ _ h1, h3, by rw [← h2.len, ← h4.len]; exact sz_le hl, en_fin (e1.trans e2) (All.app h4 (h2.mono e2.bb)) q⟩)
/-! built-in calls -/
theorem ee_strI {px : Pos} (ha : EE X Γ Δ a (I i)) (hz : i.natAbs.log2 < 1920) (hg : Gl X "str") (hm : X.mg "str" = none) (hs : starEach [a] X.env = (false, eval a X.env) :: starEach [] X.env := by rfl) : EE X Γ Δ (.Call (.Name "str" px) [a] [] pos) (Sx (toString i)) := fun W B H σ S s Q q =>
  wpE_of (pe_callTy call_str_int hg hm (by decide +kernel) (pa_cons pe_wp pa_nil hs) (he := hs)) (ha W B H σ S s _ fun v B1 H1 e1 h1 => ⟨i, by rw [show v = .int i from h1], hz, q _ B1 H1 e1 rfl⟩)
theorem ee_intB {px : Pos} (ha : EE X Γ Δ a (Bo k)) (hg : Gl X "int") (hm : X.mg "int" = none) (hs : starEach [a] X.env = (false, eval a X.env) :: starEach [] X.env := by rfl) : EE X Γ Δ (.Call (.Name "int" px) [a] [] pos) (I (if k then 1 else 0)) := fun W B H σ S s Q q =>
  wpE_of (pe_callTy call_int1 hg hm (by decide +kernel) (pa_cons pe_wp pa_nil hs) (he := hs)) (ha W B H σ S s _ fun v B1 H1 e1 h1 => .inr ⟨k, by rw [show v = .bl k from h1], q _ B1 H1 e1 rfl⟩)
theorem ee_min2 {px : Pos} (hc : X.calm = true) (ha : EE X Γ Δ a (I x)) (hb : EE X Γ Δ b (I y)) (hg : Gl X "min") (hm : X.mg "min" = none) (hs : starEach [a, b] X.env = (false, eval a X.env) :: starEach [b] X.env := by rfl) (hs2 : starEach [b] X.env = (false, eval b X.env) :: starEach [] X.env := by rfl)
    (hpl : (backTo pos (starEach [b] X.env)).any (·.1) = false := by rfl) :
    EE X Γ Δ (.Call (.Name "min" px) [a, b] [] pos) (I (if y < x then y else x)) := fun W B H σ S s Q q =>
  wpE_of (pe_callB (call_min2 hc) hg hm (by decide +kernel) (pa_cons pe_wp (pa_cons pe_wp pa_nil hs2) hs) (he := hs) (hpl := hpl)) (ha W B H σ S s _ fun v B1 H1 e1 h1 => hb W B1 H1 σ (S.ext e1) (s.mono e1.bb) _ fun u B2 H2 e2 h2 =>
    ⟨x, y, by rw [show v = .int x from h1, show u = .int y from h2], q _ B2 H2 (e1.trans e2) rfl⟩)
theorem ee_max2 {px : Pos} (hc : X.calm = true) (ha : EE X Γ Δ a (I x)) (hb : EE X Γ Δ b (I y)) (hg : Gl X "max") (hm : X.mg "max" = none) (hs : starEach [a, b] X.env = (false, eval a X.env) :: starEach [b] X.env := by rfl) (hs2 : starEach [b] X.env = (false, eval b X.env) :: starEach [] X.env := by rfl)
    (hpl : (backTo pos (starEach [b] X.env)).any (·.1) = false := by rfl) :
    EE X Γ Δ (.Call (.Name "max" px) [a, b] [] pos) (I (if y > x then y else x)) := fun W B H σ S s Q q =>
  wpE_of (pe_callB (call_max2 hc) hg hm (by decide +kernel) (pa_cons pe_wp (pa_cons pe_wp pa_nil hs2) hs) (he := hs) (hpl := hpl)) (ha W B H σ S s _ fun v B1 H1 e1 h1 => hb W B1 H1 σ (S.ext e1) (s.mono e1.bb) _ fun u B2 H2 e2 h2 =>
    ⟨x, y, by rw [show v = .int x from h1, show u = .int y from h2], q _ B2 H2 (e1.trans e2) rfl⟩)
theorem ee_all {px : Pos} {bs : List Bool} (hc : X.calm = true) (ha : ES X Γ Δ a (bs.map Bo)) (hg : Gl X "all") (hm : X.mg "all" = none) (hs : starEach [a] X.env = (false, eval a X.env) :: starEach [] X.env := by rfl) : EE X Γ Δ (.Call (.Name "all" px) [a] [] pos) (Bo (bs.all id)) := fun W B H σ S s Q q =>
  wpE_of (pe_callB (cr_all hc) hg hm (by decide +kernel) (pa_cons pe_wp pa_nil hs) (he := hs)) (ha W B H σ S s _ fun l xs B1 H1 e1 h1 h2 => ⟨l, bs, rfl, by rw [← all_bools h2]; exact h1, q _ B1 H1 e1 rfl⟩)
theorem en_sorted {px : Pos} {ns ns' : List Int} (ha : ES X Γ Δ a (ns.map I)) (hl : ns.length < 64) (hp : ns'.Perm ns) (ho : ns'.Pairwise (· ≤ ·)) (hg : Gl X "sorted") (hm : X.mg "sorted" = none) (hs : starEach [a] X.env = (false, eval a X.env) :: starEach [] X.env := by rfl) :
    EN X Γ Δ (.Call (.Name "sorted" px) [a] [] pos) (ns'.map I) := fun W B H σ S s Q q =>
  wpE_of (pe_callB cr_sorted hg hm (by decide +kernel) (pa_cons pe_wp pa_nil hs) (he := hs)) (ha W B H σ S s _ fun l xs B1 H1 e1 h1 h2 => ⟨l, ns, rfl, by rw [← all_ints h2]; exact h1, hl, fun ms r pm od hr => by
    have em : ms = ns' := List.Perm.eq_of_pairwise (fun a b _ _ h1 h2 => Int.le_antisymm h1 h2) od ho (pm.trans hp.symm)
    subst em
    exact en_fin e1 (ints_all ms) q r hr⟩)
theorem flat_ints (ns : List Int) : (ns.map V.int).all flatV = true := by
  rw [List.all_map]
  exact List.all_eq_true.mpr fun x _ => rfl
theorem inV_int (x : Int) (ns : List Int) : inV (.int x) (ns.map V.int) = decide (x ∈ ns) := by
  unfold inV
  rw [List.any_map, Bool.eq_iff_iff, List.any_eq_true, decide_eq_true_eq]
  constructor
  · rintro ⟨y, hy, e⟩
    have e2 : y = x := by simpa [eqV] using e
    exact e2 ▸ hy
  · intro h
    exact ⟨x, h, by simp [eqV]⟩
theorem ee_inI {ns : List Int} (ha : EE X Γ Δ a (I x)) (hb : ES X Γ Δ b (ns.map I)) (hm : behindInMarks .In b = false := by rfl) : EE X Γ Δ (.Compare a [.In] [b] pos) (Bo (decide (x ∈ ns))) := fun W B H σ S s Q q =>
  wpE_of (pe_cmpR op_in_seq pe_wp pe_wp hm) (ha W B H σ S s _ fun v B1 H1 e1 h1 => hb W B1 H1 σ (S.ext e1) (s.mono e1.bb) _ fun l xs B2 H2 e2 h2 h3 => by
    have ev : v = .int x := h1
    have ex := all_ints h3
    subst ev ex
    refine ⟨l, _, rfl, .inl h2, rfl, flat_ints ns, ?_⟩
    rw [if_neg Bool.false_ne_true, inV_int]
    exact q _ B2 H2 (e1.trans e2) rfl)
theorem et_inI {ns : List Int} (ha : EE X Γ Δ a (I x)) (hb : ES X Γ Δ b (ns.map I)) (hm : behindInMarks .In b = false := by rfl) : ET X Γ Δ (.Compare a [.In] [b] pos) (decide (x ∈ ns)) := fun W B H σ S s Q q =>
  wpT_of (pt_cmpR op_in_seq pe_wp pe_wp hm) (ha W B H σ S s _ fun v B1 H1 e1 h1 => hb W B1 H1 σ (S.ext e1) (s.mono e1.bb) _ fun l xs B2 H2 e2 h2 h3 => by
    have ev : v = .int x := h1
    have ex := all_ints h3
    subst ev ex
    refine ⟨l, _, rfl, .inl h2, rfl, flat_ints ns, ?_⟩
    rw [if_neg Bool.false_ne_true, inV_int]
    exact ⟨_, rfl, q B2 H2 (e1.trans e2)⟩)
theorem et_ninI {ns : List Int} (ha : EE X Γ Δ a (I x)) (hb : ES X Γ Δ b (ns.map I)) (hm : behindInMarks .NotIn b = false := by rfl) : ET X Γ Δ (.Compare a [.NotIn] [b] pos) (!decide (x ∈ ns)) := fun W B H σ S s Q q =>
  wpT_of (pt_cmpR op_notIn_seq pe_wp pe_wp hm) (ha W B H σ S s _ fun v B1 H1 e1 h1 => hb W B1 H1 σ (S.ext e1) (s.mono e1.bb) _ fun l xs B2 H2 e2 h2 h3 => by
    have ev : v = .int x := h1
    have ex := all_ints h3
    subst ev ex
    refine ⟨l, _, rfl, .inl h2, rfl, flat_ints ns, ?_⟩
    rw [if_pos rfl, inV_int]
    exact ⟨_, rfl, q B2 H2 (e1.trans e2)⟩)
end
end Yb
set_option maxHeartbeats 1000000
namespace Yb
open PySem PySem.Spec PyProof.Rows L2
/-! ### contracts -/
structure Cn where
  ps : List Pr
  out : Pr → Del → Prop
  Δ : Del := []
  exc : Value → Del → Prop := fun _ _ => False
abbrev h0 : Hp := fun _ => none
/-- what a def promises: for each contract of C -/
def spC (C : Cn → Prop) : Sp := fun vs H Q E => ∃ (c : Cn) (B : Hp), C c ∧ Same B H ∧ All h0 B c.ps vs ∧ (∀ e ∈ c.Δ, B e.1 = none ∧ ∃ o, H e.1 = some o ∧ e.2.p h0 B o) ∧ (c.Δ.map (·.1)).Nodup ∧
  (∀ P Δ' B' H' v, c.out P Δ' → Stb ⟨B, H, c.Δ.map (·.1)⟩ Δ' B' H' → P.p H B' v → Q v H') ∧ (∀ x Δ' B' H', c.exc x Δ' → Stb ⟨B, H, c.Δ.map (·.1)⟩ Δ' B' H' → E x none H')
/-- what does not ask what is new -/
def Hi (P : Pr) : Prop := ∀ h h' B v, P.p h B v → P.p h' B v
def HiO (P : Ob) : Prop := ∀ h h' B v, P.p h B v → P.p h' B v
def His : List Pr → Prop
  | [] => True
  | P :: r => Hi P ∧ His r
theorem His.mem : ∀ {ps : List Pr}, His ps → ∀ P ∈ ps, Hi P
  | P :: r, h, Q, hq => by
    rcases List.mem_cons.mp hq with rfl | hq
    · exact h.1
    · exact His.mem h.2 Q hq
theorem His.map {α : Type} {R : α → Pr} (h : ∀ x, Hi (R x)) : ∀ l : List α, His (l.map R)
  | [] => trivial
  | x :: l => ⟨h x, His.map h l⟩
theorem His.all {h h' B : Hp} : ∀ {ps : List Pr} {vs : List V}, His ps → All h B ps vs → All h' B ps vs
  | [], [], _, _ => trivial
  | _ :: _, _ :: _, q, a => ⟨q.1 _ _ _ _ a.1, His.all q.2 a.2⟩
  | [], _ :: _, _, a => a.elim
  | _ :: _, [], _, a => a.elim
theorem hi_I {i : Int} : Hi (I i) := fun _ _ _ _ q => q
theorem hi_Bo {i : Bool} : Hi (Bo i) := fun _ _ _ _ q => q
theorem hi_Sx {i : Str} : Hi (Sx i) := fun _ _ _ _ q => q
theorem hi_No : Hi No := fun _ _ _ _ q => q
theorem hi_Ref {a : Addr} : Hi (Ref a) := fun _ _ _ _ q => q
theorem hi_Scr {K : PySem.W.Frag} {ns : List Int} : Hi (Scr K ns) := fun _ _ _ _ q => q
theorem hi_L {ps : List Pr} (h : His ps) : Hi (L ps) := fun _ _ _ _ ⟨a, xs, h1, h2, h3⟩ => ⟨a, xs, h1, h2, h.all h3⟩
theorem hi_T {ps : List Pr} (h : His ps) : Hi (T ps) := fun _ _ _ _ ⟨a, xs, h1, h2, h3⟩ => ⟨a, xs, h1, h2, h.all h3⟩
theorem hi_ML {ps : List Pr} (h : His ps) : HiO (ML ps) := fun _ _ _ _ ⟨xs, h1, h3⟩ => ⟨xs, h1, h.all h3⟩
/-- what does not lean on what was there -/
def Sb (P : Pr) : Prop := ∀ h B B' v, (∀ a, h a = none → B' a = B a) → P.p h B v → P.p h B' v
def Sbs : List Pr → Prop
  | [] => True
  | P :: r => Sb P ∧ Sbs r
theorem Sbs.map {α : Type} {R : α → Pr} (h : ∀ x, Sb (R x)) : ∀ l : List α, Sbs (l.map R)
  | [] => trivial
  | x :: l => ⟨h x, Sbs.map h l⟩
theorem Sbs.all {h B B' : Hp} (e : ∀ a, h a = none → B' a = B a) : ∀ {ps : List Pr} {vs : List V}, Sbs ps → All h B ps vs → All h B' ps vs
  | [], [], _, _ => trivial
  | _ :: _, _ :: _, q, a => ⟨q.1 _ _ _ _ e a.1, Sbs.all e q.2 a.2⟩
  | [], _ :: _, _, a => a.elim
  | _ :: _, [], _, a => a.elim
theorem sb_I {i : Int} : Sb (I i) := fun _ _ _ _ _ q => q
theorem sb_Bo {i : Bool} : Sb (Bo i) := fun _ _ _ _ _ q => q
theorem sb_Sx {i : Str} : Sb (Sx i) := fun _ _ _ _ _ q => q
theorem sb_No : Sb No := fun _ _ _ _ _ q => q
theorem sb_Ref {a : Addr} : Sb (Ref a) := fun _ _ _ _ _ q => q
theorem sb_NL {ps : List Pr} (h : Sbs ps) : Sb (N (L ps)) := fun _ _ _ _ e ⟨⟨a, xs, h1, h2, h3⟩, n⟩ => ⟨⟨a, xs, h1, (e a (n a h1)).trans h2, h.all e h3⟩, n⟩
theorem sb_NT {ps : List Pr} (h : Sbs ps) : Sb (N (T ps)) := fun _ _ _ _ e ⟨⟨a, xs, h1, h2, h3⟩, n⟩ => ⟨⟨a, xs, h1, (e a (n a h1)).trans h2, h.all e h3⟩, n⟩

theorem Stb.call {W : Ws} {Δa rest Δ' : Del} {B H B' H' : Hp} (S : Stb W (Δa ++ rest) B H) (S' : Stb ⟨B, H, Δa.map (·.1)⟩ Δ' B' H') : Stb W (Δ' ++ rest) B' H' := by
  have nd := S.nd
  rw [List.map_append] at nd
  obtain ⟨n1, n2, n3⟩ := List.nodup_append.mp nd
  have hin : ∀ a, a ∈ Δa.map (·.1) → H a ≠ none := fun a ha z => by
    obtain ⟨x, hx, rfl⟩ := List.mem_map.mp ha
    obtain ⟨_, o, h2, _⟩ := S.mu x (List.mem_append_left _ hx)
    rw [h2] at z; cases z
  have out : ∀ x ∈ rest, x.1 ∉ Δa.map (·.1) := fun x hx z => n3 _ z _ (List.mem_map_of_mem hx) rfl
  refine ⟨S'.ex, fun x hx => ?_, ?_, S.bb.trans S'.bb, fun a o h n => ?_, fun a h => S'.dm a (S.dm a h), fun a h n => S'.fr a (S.fr a h n) (S.dm a n), fun x hx => ?_, S.msd⟩
  · rcases List.mem_append.mp hx with hx | hx
    · obtain ⟨h1, o, h2, h3⟩ := S'.mu x hx
      exact ⟨h1, o, h2, x.2.anti (fun a h => S.dm a h) h3⟩
    · obtain ⟨h1, o, h2, h3⟩ := S.mu x (List.mem_append_right _ hx)
      exact ⟨S'.fr _ h1 (by show H x.1 ≠ none; rw [h2]; intro z; cases z), o, S'.hh _ _ h2 (out x hx), x.2.mono S'.bb h3⟩
  · rw [List.map_append]
    refine List.nodup_append.mpr ⟨S'.nd, n2, fun a ha b hb e => ?_⟩
    obtain ⟨x, hx, rfl⟩ := List.mem_map.mp ha
    obtain ⟨y, hy, rfl⟩ := List.mem_map.mp hb
    rcases S'.ow x hx with z | z
    · exact out y hy (e ▸ z)
    · obtain ⟨_, o, h2, _⟩ := S.mu y (List.mem_append_right _ hy)
      have z' : H x.1 = none := z
      rw [e, h2] at z'; cases z'
  · refine S'.hh a o (S.hh a o h n) fun z => ?_
    obtain ⟨x, hx, rfl⟩ := List.mem_map.mp z
    rcases S.ow x (List.mem_append_left _ hx) with q | q
    · exact n q
    · rw [q] at h; cases h
  · rcases List.mem_append.mp hx with hx | hx
    · rcases S'.ow x hx with z | z
      · obtain ⟨y, hy, e⟩ := List.mem_map.mp z
        rw [← e]
        exact S.ow y (List.mem_append_left _ hy)
      · exact .inr (S.fresh z)
    · exact S.ow x (List.mem_append_right _ hx)
theorem Stb.pure {B H B' H' : Hp} {Δ' : Del} (S' : Stb ⟨B, H, []⟩ Δ' B' H') : Ext B H B' H' := ⟨S'.bb, fun a o h => S'.hh a o h (by simp), S'.ex, S'.fr⟩

/-! ### calls: what is asked where the arguments are known -/
def CJ (X : Cx) (Γ : Gam) (Δ : Del) (e : Expr) (C : Cn → Prop) (E : L2.St → XK) (Ps : List Pr) : Prop :=
  ∀ (W : Ws) (B H : Hp) (σ : L2.St), Stb W Δ B H → Sl Γ W.H B σ → ∀ Q : VK, (∀ vs B1 H1, Ext B H B1 H1 → All W.H B1 Ps vs → spC C vs H1 Q (E σ)) → wpE X e σ H Q
section
variable {X : Cx} {ms : List Addr} {Γ : Gam} {Δ : Del} {e : Expr} {C : Cn → Prop} {E : L2.St → XK} {Ps : List Pr} {P : Pr}
theorem all_h0 {h B : Hp} {ps : List Pr} {vs : List V} (q : All h B ps vs) : All h0 B ps vs := q.anti fun a z => absurd rfl z
/-- a call that changes nothing -/
theorem ee_call (j : CJ X Γ Δ e C (fun _ => E0) Ps) (c : Cn) (hc : C c) (hp : c.ps = Ps := by rfl) (hΔ : c.Δ = [] := by rfl) (ho : ∀ P' Δ', c.out P' Δ' → P' = P := by exact fun _ _ q => q.1) (hx : ∀ v Δ', c.exc v Δ' → False := by exact fun _ _ q => q) : EE X Γ Δ e P := fun W B H σ S s Q q =>
  j W B H σ S s Q fun vs B1 H1 e1 h1 => by
    refine ⟨c, B1, hc, e1.bh, by rw [hp]; exact all_h0 h1, by rw [hΔ]; exact fun _ z => (List.not_mem_nil z).elim, by rw [hΔ]; exact List.nodup_nil, fun P' Δ' B' H' v o S' hv => ?_, fun x Δ' B' H' o _ => hx x Δ' o⟩
    rw [hΔ] at S'
    have e2 := Stb.pure S'
    obtain rfl := ho P' Δ' o
    exact q v B' H' (e1.trans e2) (P'.anti (fun a h => (S.ext e1).dm a h) hv)
/-- .. whose answer is a new list of plain values -/
def Sc (P : Pr) : Prop := ∀ h B h' B' v, P.p h B v → P.p h' B' v
def Scs : List Pr → Prop
  | [] => True
  | P :: r => Sc P ∧ Scs r
theorem Scs.map {α : Type} {R : α → Pr} (h : ∀ x, Sc (R x)) : ∀ l : List α, Scs (l.map R)
  | [] => trivial
  | x :: l => ⟨h x, Scs.map h l⟩
theorem Scs.all {h B h' B' : Hp} : ∀ {ps : List Pr} {vs : List V}, Scs ps → All h B ps vs → All h' B' ps vs
  | [], [], _, _ => trivial
  | _ :: _, _ :: _, q, a => ⟨q.1 _ _ _ _ _ a.1, Scs.all q.2 a.2⟩
  | [], _ :: _, _, a => a.elim
  | _ :: _, [], _, a => a.elim
theorem sc_I {i : Int} : Sc (I i) := fun _ _ _ _ _ q => q
theorem sc_Bo {i : Bool} : Sc (Bo i) := fun _ _ _ _ _ q => q
theorem sc_Sx {i : Str} : Sc (Sx i) := fun _ _ _ _ _ q => q
theorem en_call {ps : List Pr} (j : CJ X Γ Δ e C (fun _ => E0) Ps) (c : Cn) (hc : C c) (hsc : Scs ps) (hp : c.ps = Ps := by rfl) (hΔ : c.Δ = [] := by rfl) (ho : ∀ P' Δ', c.out P' Δ' → P' = N (L ps) := by exact fun _ _ q => q.1) (hx : ∀ v Δ', c.exc v Δ' → False := by exact fun _ _ q => q) : EN X Γ Δ e ps := fun W B H σ S s Q q =>
  j W B H σ S s Q fun vs B1 H1 e1 h1 => by
    refine ⟨c, B1, hc, e1.bh, by rw [hp]; exact all_h0 h1, by rw [hΔ]; exact fun _ z => (List.not_mem_nil z).elim, by rw [hΔ]; exact List.nodup_nil, fun P' Δ' B' H' v o S' hv => ?_, fun x Δ' B' H' o _ => hx x Δ' o⟩
    rw [hΔ] at S'
    have e2 := Stb.pure S'
    obtain rfl := ho P' Δ' o
    obtain ⟨⟨l, xs, rfl, g1, g2⟩, g3⟩ := hv
    have hl : H1 l = none := g3 l rfl
    exact q l xs B1 H' (e1.trans ⟨Same.refl _, e2.hh, e1.bh.trans e2.hh, fun _ h _ => h⟩) (e2.bh _ _ g1) (e1.bh.free hl) (e1.hh.free hl) (hsc.all g2)
/-- .. that reads what may change -/
structure Br (Δ : Del) (P P' : Pr) : Prop where
  ok : ∀ B H Bp v, Same B H → (∀ e ∈ Δ, ∃ o, H e.1 = some o ∧ e.2.p h0 B o) → Same B Bp → (∀ e ∈ Δ, Bp e.1 = H e.1) → P.p h0 B v → P'.p h0 Bp v
def Brs (Δ : Del) : List Pr → List Pr → Prop
  | [], [] => True
  | P :: r, P' :: r' => Br Δ P P' ∧ Brs Δ r r'
  | _, _ => False
theorem Brs.all {B H Bp : Hp} (e : Same B H) (hm : ∀ e ∈ Δ, ∃ o, H e.1 = some o ∧ e.2.p h0 B o) (e2 : Same B Bp) (hb : ∀ e ∈ Δ, Bp e.1 = H e.1) : ∀ {ps qs : List Pr} {vs : List V}, Brs Δ ps qs → All h0 B ps vs → All h0 Bp qs vs
  | [], [], [], _, _ => trivial
  | _ :: _, _ :: _, _ :: _, q, a => ⟨q.1.ok B H Bp _ e hm e2 hb a.1, Brs.all e hm e2 hb q.2 a.2⟩
  | [], _ :: _, _, q, _ => q.elim
  | _ :: _, [], _, q, _ => q.elim
  | [], [], _ :: _, _, a => a.elim
  | _ :: _, _ :: _, [], _, a => a.elim
theorem bc {P P' : Pr} {ps qs : List Pr} (h : Br Δ P P') (t : Brs Δ ps qs) : Brs Δ (P :: ps) (P' :: qs) := ⟨h, t⟩
theorem bn : Brs Δ [] [] := trivial
theorem br_ : Br Δ P P := ⟨fun _ _ _ _ _ _ e _ h => P.mono e h⟩
theorem br_un {P : Pr} : Br Δ (N P) P := ⟨fun _ _ _ _ _ _ e _ h => P.mono e h.1⟩
theorem br_L (n : Nat) {a : Addr} {ps : List Pr} (h : Δ[n]? = some (a, ML ps)) : Br Δ (Ref a) (L ps) := ⟨fun B H Bp v _ hm e hb hv => by
  have ev : v = .ref a := hv
  subst ev
  have hmem := List.mem_of_getElem? h
  obtain ⟨o, h1, xs, rfl, h2⟩ := hm _ hmem
  exact ⟨a, xs, rfl, (hb _ hmem).trans h1, h2.mono e⟩⟩
theorem borrow {W : Ws} {B1 H1 : Hp} (S1 : Stb W Δ B1 H1) : ∃ Bp : Hp, Same B1 Bp ∧ Same Bp H1 ∧ (∀ e ∈ Δ, Bp e.1 = H1 e.1) ∧ ∀ a, a ∉ Δ.map (·.1) → Bp a = B1 a := by
  have inn : ∀ a, a ∈ Δ.map (·.1) → B1 a = none := fun a h => by
    obtain ⟨x, hx, rfl⟩ := List.mem_map.mp h
    exact (S1.mu x hx).1
  refine ⟨fun a => if a ∈ Δ.map (·.1) then H1 a else B1 a, fun a o h => ?_, fun a o h => ?_, fun x hx => if_pos (List.mem_map_of_mem hx), fun a h => if_neg h⟩
  · by_cases ha : a ∈ Δ.map (·.1)
    · rw [inn a ha] at h; cases h
    · exact (if_neg ha).trans h
  · by_cases ha : a ∈ Δ.map (·.1)
    · exact (if_pos ha).symm.trans h
    · exact S1.ex a o ((if_neg ha).symm.trans h)
theorem ee_callB (j : CJ X Γ Δ e C (fun _ => E0) Ps) (c : Cn) (hc : C c) (hp : Brs Δ Ps c.ps) (hsb : Sb P) (hΔ : c.Δ = [] := by rfl) (ho : ∀ P' Δ', c.out P' Δ' → P' = P := by exact fun _ _ q => q.1) (hx : ∀ v Δ', c.exc v Δ' → False := by exact fun _ _ q => q) : EE X Γ Δ e P := fun W B H σ S s Q q =>
  j W B H σ S s Q fun vs B1 H1 e1 h1 => by
    have S1 := S.ext e1
    let bs := Δ.map (·.1)
    let Bp : Hp := fun a => if a ∈ bs then H1 a else B1 a
    have bin : ∀ a, a ∈ bs → Bp a = H1 a := fun a h => if_pos h
    have bout : ∀ a, a ∉ bs → Bp a = B1 a := fun a h => if_neg h
    have inn : ∀ a, a ∈ bs → B1 a = none ∧ H1 a ≠ none := fun a h => by
      obtain ⟨x, hx, rfl⟩ := List.mem_map.mp h
      obtain ⟨h1, o, h2, _⟩ := S1.mu x hx
      exact ⟨h1, by rw [h2]; intro z; cases z⟩
    have sbp : Same B1 Bp := fun a o h => by
      by_cases ha : a ∈ bs
      · rw [(inn a ha).1] at h; cases h
      · rw [bout a ha]; exact h
    have sbh : Same Bp H1 := fun a o h => by
      by_cases ha : a ∈ bs
      · rw [bin a ha] at h; exact h
      · rw [bout a ha] at h; exact e1.bh a o h
    have hm : ∀ e ∈ Δ, ∃ o, H1 e.1 = some o ∧ e.2.p h0 B1 o := fun x hx => by
      obtain ⟨_, o, h2, h3⟩ := S1.mu x hx
      exact ⟨o, h2, x.2.anti (fun a z => absurd rfl z) h3⟩
    refine ⟨c, Bp, hc, sbh, Brs.all e1.bh hm sbp (fun x hx => bin _ (List.mem_map_of_mem hx)) hp (all_h0 h1), by rw [hΔ]; exact fun _ z => (List.not_mem_nil z).elim, by rw [hΔ]; exact List.nodup_nil, fun P' Δ' B' H' v o S' hv => ?_, fun x Δ' B' H' o _ => hx x Δ' o⟩
    rw [hΔ] at S'
    have e2 := Stb.pure S'
    obtain rfl := ho P' Δ' o
    let B2 : Hp := fun a => if a ∈ bs then none else B' a
    have b2o : ∀ a, a ∉ bs → B2 a = B' a := fun a h => if_neg h
    have b2i : ∀ a, a ∈ bs → B2 a = none := fun a h => if_pos h
    have e3 : Ext B1 H1 B2 H' := ⟨fun a o h => by
        by_cases ha : a ∈ bs
        · rw [(inn a ha).1] at h; cases h
        · rw [b2o a ha]; exact e2.bb a o (by rw [bout a ha]; exact h), e2.hh, fun a o h => by
        by_cases ha : a ∈ bs
        · rw [b2i a ha] at h; cases h
        · rw [b2o a ha] at h; exact e2.bh a o h, fun a h n => by
        by_cases ha : a ∈ bs
        · exact b2i a ha
        · rw [b2o a ha]; exact e2.fr a (by rw [bout a ha]; exact h) n⟩
    refine q v B2 H' (e1.trans e3) (P'.anti (fun a h => S1.dm a h) (hsb _ B' _ _ (fun a h => ?_) hv))
    by_cases ha : a ∈ bs
    · exact absurd h (inn a ha).2
    · exact b2o a ha
theorem en_callB {ps : List Pr} (j : CJ X Γ Δ e C (fun _ => E0) Ps) (c : Cn) (hc : C c) (hp : Brs Δ Ps c.ps) (hsc : Scs ps) (hΔ : c.Δ = [] := by rfl) (ho : ∀ P' Δ', c.out P' Δ' → P' = N (L ps) := by exact fun _ _ q => q.1) (hx : ∀ v Δ', c.exc v Δ' → False := by exact fun _ _ q => q) : EN X Γ Δ e ps := fun W B H σ S s Q q =>
  j W B H σ S s Q fun vs B1 H1 e1 h1 => by
    have S1 := S.ext e1
    obtain ⟨Bp, g1, g2, g3, g4⟩ := borrow S1
    have hm : ∀ e ∈ Δ, ∃ o, H1 e.1 = some o ∧ e.2.p h0 B1 o := fun x hx => by
      obtain ⟨_, o, h2, h3⟩ := S1.mu x hx
      exact ⟨o, h2, x.2.anti (fun a z => absurd rfl z) h3⟩
    refine ⟨c, Bp, hc, g2, Brs.all e1.bh hm g1 g3 hp (all_h0 h1), by rw [hΔ]; exact fun _ z => (List.not_mem_nil z).elim, by rw [hΔ]; exact List.nodup_nil, fun P' Δ' B' H' v o S' hv => ?_, fun x Δ' B' H' o _ => hx x Δ' o⟩
    rw [hΔ] at S'
    have e2 := Stb.pure S'
    obtain rfl := ho P' Δ' o
    obtain ⟨⟨l, xs, rfl, k1, k2⟩, k3⟩ := hv
    have hl : H1 l = none := k3 l rfl
    exact q l xs B1 H' (e1.trans ⟨Same.refl _, e2.hh, e1.bh.trans e2.hh, fun _ h _ => h⟩) (e2.bh _ _ k1) (e1.bh.free hl) (e1.hh.free hl) (hsc.all k2)
/-- a call that may change its entries -/
theorem em_call (j : ∀ Wi, L2N.Takes X Wi → CJ X Γ Δ e C (WE Wi) Ps) (c : Cn) (hc : C c) {rest : Del} (hΔ : Δ.Perm (c.Δ ++ rest)) (hp : c.ps = Ps := by rfl) :
    EM X ms Γ Δ e (fun P Δ' => ∃ Δc, c.out P Δc ∧ Δ' = Δc ++ rest) (fun v Δ' => ∃ Δc, c.exc v Δc ∧ Δ' = Δc ++ rest) := fun W Wi B H σ hm tk S s hx Q q =>
  j Wi tk W B H σ S s Q fun vs B1 H1 e1 h1 => by
    have S1 := (S.ext e1).perm hΔ
    have nd := S1.nd
    rw [List.map_append] at nd
    refine ⟨c, B1, hc, e1.bh, by rw [hp]; exact all_h0 h1, fun x hx => ?_, (List.nodup_append.mp nd).1, fun P' Δ' B' H' v o S' hv => ?_, fun x Δ' B' H' o S' => ?_⟩
    · obtain ⟨g1, o, g2, g3⟩ := S1.mu x (List.mem_append_left _ hx)
      exact ⟨g1, o, g2, x.2.anti (fun a z => absurd rfl z) g3⟩
    · exact q P' (Δ' ++ rest) v B' H' ⟨Δ', o, rfl⟩ (S1.call S') (e1.bb.trans S'.bb) (P'.anti (fun a h => S1.dm a h) hv)
    · exact hx x (Δ' ++ rest) B' H' ⟨Δ', o, rfl⟩ (S1.call S') (e1.bb.trans S'.bb)
theorem em_of {Kx : Value → Del → Prop} (h : EE X Γ Δ e P) : EM X ms Γ Δ e (fun P' Δ' => P' = P ∧ Δ' = Δ) Kx := fun W Wi B H σ hm tk S s hx Q q =>
  h W B H σ S s Q fun v B1 H1 e1 h1 => q P Δ v B1 H1 ⟨rfl, rfl⟩ (S.ext e1) e1.bb h1
theorem em_imp {K K' : Pr → Del → Prop} {Kx Kx' : Value → Del → Prop} (h : EM X ms Γ Δ e K Kx) (hk : ∀ P Δ, K P Δ → K' P Δ) (hx : ∀ v Δ, Kx v Δ → Kx' v Δ) : EM X ms Γ Δ e K' Kx' := fun W Wi B H σ hm tk S s hx' Q q =>
  h W Wi B H σ hm tk S s (fun c Δ' B' H' k => hx' c Δ' B' H' (hx _ _ k)) Q fun P Δ' v B' H' k => q P Δ' v B' H' (hk _ _ k)
end
/-- a def of the text, where it stands, its contracts -/
structure Fnc (P : Program) (w : World) (K : PySem.W.Frag) (mg : Str → Option Value) (base : Heap) (x : Str) (C : Cn → Prop) (k : Nat) : Prop where
  ex : ∃ f fd ps, FnOk P w K mg base (L2N.CX P w) k f fd ps (spC C) ∧ mg x = some (.ref f) ∧ PySem.W.keepIn K (.ref f) = true ∧ Binds K fd ps []
structure Mtc (P : Program) (w : World) (K : PySem.W.Frag) (mg : Str → Option Value) (base : Heap) (Cl : Addr) (m : Str) (C : Cn → Prop) (k : Nat) (dvs : List V) : Prop where
  cl : Cls K Cl
  ex : ∃ f fd ps ds, FnOk P w K mg base (L2N.CX P w) k f fd ps (spC C) ∧ Meth K Cl m f ∧ Binds K fd ps ds ∧ Vals dvs ds
section
variable {X : Cx} {Γ : Gam} {Δ : Del} {e o : Expr} {es : List Expr} {C : Cn → Prop} {Ps dps : List Pr} {P : Pr} {x m : Str} {k j : Nat} {q pos apos : Pos} {Cl : Addr} {dvs : List V}
theorem cj_fn0 (F : Fnc X.prog X.w X.K X.mg X.base x C k) (hr : Room j X.A) (hk : k ≤ j) (hg : Gl X x) (ha : EA X Γ Δ (e :: es) Ps) (hdb : (x == ("__debug__" : Str)) = false := by decide)
    (he : starEach (e :: es) X.env = (false, eval e X.env) :: starEach es X.env := by rfl) (hpl : (backTo pos (starEach es X.env)).any (·.1) = false := by rfl) : CJ X Γ Δ (.Call (.Name x q) (e :: es) [] pos) C (fun _ => E0) Ps := fun W B H σ S s Q h => by
  obtain ⟨f, fd, ps, F, hm, kp, b⟩ := F.ex
  refine wpE_of (pe_call F (hr.mono hk) hg hm kp b .nil passN pa_wp hdb he hpl) (ha W B H σ S s _ fun vs B1 H1 e1 h1 => ?_)
  show spC C (vs ++ []) H1 Q E0
  rw [List.append_nil]
  exact h vs B1 H1 e1 h1
theorem cj_fn (F : Fnc X.prog X.w X.K X.mg X.base x C k) (hr : Room j X.A) (hk : k ≤ j) (hg : Gl X x) (ha : EA X Γ Δ (e :: es) Ps) (hdb : (x == ("__debug__" : Str)) = false := by decide)
    (he : starEach (e :: es) X.env = (false, eval e X.env) :: starEach es X.env := by rfl) (hpl : (backTo pos (starEach es X.env)).any (·.1) = false := by rfl) : ∀ Wi, L2N.Takes X Wi → CJ X Γ Δ (.Call (.Name x q) (e :: es) [] pos) C (WE Wi) Ps := fun Wi tk W B H σ S s Q h => by
  obtain ⟨f, fd, ps, F, hm, kp, b⟩ := F.ex
  exact wpE_of (pe_callS F (hr.mono hk) hg hm kp b (fun σ => L2N.passAt tk σ) pa_wp hdb he hpl) (ha W B H σ S s _ fun vs B1 H1 e1 h1 => h vs B1 H1 e1 h1)
end
end Yb
set_option maxHeartbeats 1000000
namespace Yb
open PySem PySem.Spec PyProof.Rows L2
section
variable {X : Cx} {ms : List Addr} {Γ : Gam} {Δ : Del} {K : Kk} {rest : List Stmt} {e a b o : Expr} {P : Pr} {pos pos' apos p2 : Pos} {k : Bool} {ps : List Pr} {x : Str}

/-! ### blocks -/
theorem go_nil (h : K.nx Γ Δ) : Go X ms Γ Δ [] K := fun W Wi B H σ D hm tk S s ok => wpSs_of pss_nil (ok.nx _ _ _ _ _ h S s)
theorem go_wk {Γ' : Gam} (w : Wk Γ Γ') {sts : List Stmt} (h : Go X ms Γ' Δ sts K) : Go X ms Γ Δ sts K := fun W Wi B H σ D hm tk S s ok => h W Wi B H σ D hm tk S (s.wk w) ok
theorem go_imp {K' : Kk} {sts : List Stmt} (h : Go X ms Γ Δ sts K) (i1 : ∀ Γ Δ, K.nx Γ Δ → K'.nx Γ Δ := by exact fun _ _ q => q) (i2 : ∀ Γ Δ, K.rt Γ Δ → K'.rt Γ Δ := by exact fun _ _ q => q) (i3 : ∀ Γ Δ, K.bk Γ Δ → K'.bk Γ Δ := by exact fun _ _ q => q)
    (i4 : ∀ Γ Δ, K.ct Γ Δ → K'.ct Γ Δ := by exact fun _ _ q => q) (i5 : ∀ c Γ Δ, K.ex c Γ Δ → K'.ex c Γ Δ := by exact fun _ _ _ q => q) : Go X ms Γ Δ sts K' := fun W Wi B H σ D hm tk S s ok =>
  h W Wi B H σ D hm tk S s ⟨fun _ _ _ _ _ q => ok.nx _ _ _ _ _ (i1 _ _ q), fun _ _ _ _ _ q => ok.rt _ _ _ _ _ (i2 _ _ q), fun _ _ _ _ _ q => ok.bk _ _ _ _ _ (i3 _ _ q), fun _ _ _ _ _ q => ok.ct _ _ _ _ _ (i4 _ _ q), fun _ _ _ _ _ _ q => ok.ex _ _ _ _ _ _ (i5 _ _ _ q)⟩
theorem go_set (i : Nat) (he : EE X Γ Δ e P) (hN : X.N.Nodup) (h : Go X ms (Γ.set i (some P)) Δ rest K) (hi : X.N[i]? = some x := by rfl) (hx : Loc X.env.scope x := by first | exact Or.inl rfl | exact Or.inr rfl) (hs : swapsWith e (some (.Name x pos')) pos.line X.env = pure false := by rfl)
    (hf : X.fn x = true ∨ X.env.scope.names.lookup x = some .local := by first | exact .inl rfl | exact .inr rfl) : Go X ms Γ Δ (.Assign [.Name x pos'] e pos :: rest) K := fun W Wi B H σ D hm tk S s ok =>
  wpSs_of (pss_cons (ps_set hN hi hx pe_wp hs hf) pss_wp) (he W B H σ S s _ fun v B1 H1 e1 h1 => h W Wi B1 H1 _ D hm tk (S.ext e1) ((s.mono e1.bb).set i h1) ok)
theorem go_setM {Ke : Pr → Del → Prop} {Kx : Value → Del → Prop} (i : Nat) (he : EM X ms Γ Δ e Ke Kx) (hN : X.N.Nodup) (hxx : ∀ c Δ', Kx c Δ' → K.ex c Γ Δ') (h : ∀ P Δ', Ke P Δ' → Go X ms (Γ.set i (some P)) Δ' rest K) (hi : X.N[i]? = some x := by rfl) (hx : Loc X.env.scope x := by first | exact Or.inl rfl | exact Or.inr rfl)
    (hs : swapsWith e (some (.Name x pos')) pos.line X.env = pure false := by rfl) (hf : X.fn x = true ∨ X.env.scope.names.lookup x = some .local := by first | exact .inl rfl | exact .inr rfl) :
    Go X ms Γ Δ (.Assign [.Name x pos'] e pos :: rest) K := fun W Wi B H σ D hm tk S s ok =>
  wpSs_of (pss_cons (ps_set hN hi hx pe_wp hs hf) pss_wp) (he W Wi B H σ hm tk S s (fun c Δ' B' H' kx S' e' => ok.ex _ _ _ _ _ _ (hxx c Δ' kx) S' (s.mono e')) _ fun P Δ' v B1 H1 kp S1 e1 h1 => h P Δ' kp W Wi B1 H1 _ D hm tk S1 ((s.mono e1).set i h1) ok)
theorem go_expr (he : EE X Γ Δ e P) (h : Go X ms Γ Δ rest K) (hs : swapsWith e none pos.line X.env = pure false := by rfl) : Go X ms Γ Δ (.Expr e pos :: rest) K := fun W Wi B H σ D hm tk S s ok =>
  wpSs_of (pss_cons (ps_expr pe_wp hs) pss_wp) (he W B H σ S s _ fun v B1 H1 e1 h1 => h W Wi B1 H1 _ D hm tk (S.ext e1) (s.mono e1.bb) ok)
theorem go_exprM {Ke : Pr → Del → Prop} {Kx : Value → Del → Prop} (he : EM X ms Γ Δ e Ke Kx) (hxx : ∀ c Δ', Kx c Δ' → K.ex c Γ Δ') (h : ∀ P Δ', Ke P Δ' → Go X ms Γ Δ' rest K) (hs : swapsWith e none pos.line X.env = pure false := by rfl) : Go X ms Γ Δ (.Expr e pos :: rest) K := fun W Wi B H σ D hm tk S s ok =>
  wpSs_of (pss_cons (ps_expr pe_wp hs) pss_wp) (he W Wi B H σ hm tk S s (fun c Δ' B' H' kx S' e' => ok.ex _ _ _ _ _ _ (hxx c Δ' kx) S' (s.mono e')) _ fun P Δ' v B1 H1 kp S1 e1 h1 => h P Δ' kp W Wi B1 H1 _ D hm tk S1 (s.mono e1) ok)
theorem go_ret (he : EE X Γ Δ e P) (h : K.rt P Δ) : Go X ms Γ Δ (.Return (some e) pos :: rest) K := fun W Wi B H σ D hm tk S s ok =>
  wpSs_of (pss_cons (ps_ret pe_wp) pss_wp) (he W B H σ S s _ fun v B1 H1 e1 h1 => ok.rt P Δ B1 H1 v h (S.ext e1) h1)
theorem go_retM {Ke : Pr → Del → Prop} {Kx : Value → Del → Prop} (he : EM X ms Γ Δ e Ke Kx) (hxx : ∀ c Δ', Kx c Δ' → K.ex c Γ Δ') (h : ∀ P Δ', Ke P Δ' → K.rt P Δ') : Go X ms Γ Δ (.Return (some e) pos :: rest) K := fun W Wi B H σ D hm tk S s ok =>
  wpSs_of (pss_cons (ps_ret pe_wp) pss_wp) (he W Wi B H σ hm tk S s (fun c Δ' B' H' kx S' e' => ok.ex _ _ _ _ _ _ (hxx c Δ' kx) S' (s.mono e')) _ fun P Δ' v B1 H1 kp S1 e1 h1 => ok.rt P Δ' B1 H1 v (h P Δ' kp) S1 h1)
theorem go_pass (h : Go X ms Γ Δ rest K) : Go X ms Γ Δ (.Pass pos :: rest) K := fun W Wi B H σ D hm tk S s ok => wpSs_of (pss_cons ps_pass pss_wp) (h W Wi B H σ D hm tk S s ok)
/-- K with another way on -/
abbrev Kk.to (K : Kk) (n : Gam → Del → Prop) : Kk := { K with nx := n }
theorem Kk.Ok.to {W : Ws} {Wi : WX} {D : Ends} {n : Gam → Del → Prop} {m : L2.St → Hp → Prop} (ok : K.Ok W Wi D) (h : ∀ Γ Δ B H σ, n Γ Δ → Stb W Δ B H → Sl Γ W.H B σ → m σ H) : (K.to n).Ok W Wi { D with nx := m } := ⟨h, ok.rt, ok.bk, ok.ct, ok.ex⟩
theorem go_if {t u : List Stmt} (hc : ET X Γ Δ e k) (h1 : k = true → Go X ms Γ Δ t (K.to fun Γ' Δ' => Go X ms Γ' Δ' rest K)) (h2 : k = false → Go X ms Γ Δ u (K.to fun Γ' Δ' => Go X ms Γ' Δ' rest K)) : Go X ms Γ Δ (.If e t u pos :: rest) K := fun W Wi B H σ D hm tk S s ok =>
  wpSs_of (pss_cons (ps_if pt_wp pss_wp pss_wp) pss_wp) (hc W B H σ S s _ fun B1 H1 e1 => by
    have ok' : (K.to fun Γ' Δ' => Go X ms Γ' Δ' rest K).Ok W Wi { D with nx := wpSs X rest D } := ok.to fun Γ' Δ' B H σ g S s => g W Wi B H σ D hm tk S s ok
    cases k with
    | true => exact h1 rfl W Wi B1 H1 σ _ hm tk (S.ext e1) (s.mono e1.bb) ok'
    | false => exact h2 rfl W Wi B1 H1 σ _ hm tk (S.ext e1) (s.mono e1.bb) ok')
/-- an if whose end is told once: M -/
theorem go_ifc {t u : List Stmt} (M : Gam → Del → Prop) (hc : ET X Γ Δ e k) (h1 : k = true → Go X ms Γ Δ t (K.to M)) (h2 : k = false → Go X ms Γ Δ u (K.to M)) (h3 : ∀ Γ' Δ', M Γ' Δ' → Go X ms Γ' Δ' rest K) : Go X ms Γ Δ (.If e t u pos :: rest) K :=
  go_if hc (fun z => go_imp (h1 z) (i1 := h3)) (fun z => go_imp (h2 z) (i1 := h3))
/-! ### loops -/
theorem go_forR {n : Int} {body : List Stmt} {px pr pc : Pos} (j : Nat) (Γf : Nat → Gam) (Δf : Nat → Del) (Pre : Nat → Prop) (hp : PassesOwn (model X.prog X.w) X.A X.env X.xe) (hN : X.N.Nodup) (ha : EE X Γ Δ a (I n)) (hn : n ≤ 100000) (hn0 : -100000 ≤ n) (h0 : Wk Γ (Γf 0) ∧ Δ = Δf 0 ∧ Pre 0)
    (hg : Gl X "range") (hm' : X.mg "range" = none) (hs : ∀ i : Nat, (i : Int) < n → Pre i → Go X ms ((Γf i).set j (some (I (i : Int)))) (Δf i) body { nx := fun Γ' Δ' => Wk Γ' (Γf (i + 1)) ∧ Δ' = Δf (i + 1) ∧ Pre (i + 1), ct := fun Γ' Δ' => Wk Γ' (Γf (i + 1)) ∧ Δ' = Δf (i + 1) ∧ Pre (i + 1), rt := K.rt, ex := K.ex })
    (hd : Pre n.toNat → Go X ms (Γf n.toNat) (Δf n.toNat) rest K) (hc : X.calm = true := by rfl) (hi : X.N[j]? = some x := by rfl) (hx : Loc X.env.scope x := by first | exact Or.inl rfl | exact Or.inr rfl) (hf : X.fn x = true ∨ X.env.scope.names.lookup x = some .local := by first | exact .inl rfl | exact .inr rfl)
    (hst : starEach [a] X.env = (false, eval a X.env) :: starEach [] X.env := by rfl) (hst2 : starEach [a] X.env = [(false, eval a X.env)] := by rfl) (hfs : ∀ x, foldedSetIterable (.Call (.Name "range" pr) [a] [] pc) X.env x = pure x := by intro _; rfl) :
    Go X ms Γ Δ (.For (.Name x px) (.Call (.Name "range" pr) [a] [] pc) body [] pos :: rest) K := fun W Wi B H σ D hm tk S s ok =>
  wpSs_of (pss_cons (ps_for hp hc (pi_range1 hg hm' (pa_cons pe_wp pa_nil hst) hst2) (pg_name hN hi hx hf) pss_wp hfs) pss_wp) (ha W B H σ S s _ fun v B1 H1 e1 h1 => ⟨n, by rw [show v = .int n from h1], by omega, by omega,
    for_range (lo := 0) (n := n.toNat) (fun i σ' H' => ∃ B', Stb W (Δf i) B' H' ∧ Sl (Γf i) W.H B' σ' ∧ Pre i) ⟨B1, h0.2.1 ▸ S.ext e1, (s.mono e1.bb).wk h0.1, h0.2.2⟩ (fun i σ' H' hlt ⟨B', S', s', p'⟩ => by
      have e0 : (0 : Int) + (i : Int) = (i : Int) := Int.zero_add _
      show wpSs X body _ (σ'.set j (some (.int ((0 : Int) + (i : Int))))) H'
      rw [e0]
      exact hs i (by omega) p' W Wi B' H' _ _ hm tk S' (s'.set j rfl) ⟨fun Γ' Δ' B2 H2 σ2 q S2 s2 => ⟨B2, q.2.1 ▸ S2, s2.wk q.1, q.2.2⟩, ok.rt, fun _ _ _ _ _ q => q.elim, fun Γ' Δ' B2 H2 σ2 q S2 s2 => ⟨B2, q.2.1 ▸ S2, s2.wk q.1, q.2.2⟩, ok.ex⟩)
      (fun σ' H' ⟨B', S', s', p'⟩ => hd p' W Wi B' H' σ' D hm tk S' s' ok)⟩)
theorem go_forR2 {lo n : Int} {body : List Stmt} {px pr pc : Pos} (j : Nat) (Γf : Nat → Gam) (Δf : Nat → Del) (Pre : Nat → Prop) (hp : PassesOwn (model X.prog X.w) X.A X.env X.xe) (hN : X.N.Nodup) (ha : EE X Γ Δ a (I lo)) (hb : EE X Γ Δ b (I n)) (hn : (n ≤ 100000 ∧ -100000 ≤ n) ∧ lo ≤ 100000 ∧ -100000 ≤ lo) (h0 : Wk Γ (Γf 0) ∧ Δ = Δf 0 ∧ Pre 0)
    (hg : Gl X "range") (hm' : X.mg "range" = none) (hs : ∀ i : Nat, lo + (i : Int) < n → Pre i → Go X ms ((Γf i).set j (some (I (lo + (i : Int))))) (Δf i) body { nx := fun Γ' Δ' => Wk Γ' (Γf (i + 1)) ∧ Δ' = Δf (i + 1) ∧ Pre (i + 1), ct := fun Γ' Δ' => Wk Γ' (Γf (i + 1)) ∧ Δ' = Δf (i + 1) ∧ Pre (i + 1), rt := K.rt, ex := K.ex })
    (hd : Pre (n - lo).toNat → Go X ms (Γf (n - lo).toNat) (Δf (n - lo).toNat) rest K) (hc : X.calm = true := by rfl) (hi : X.N[j]? = some x := by rfl) (hx : Loc X.env.scope x := by first | exact Or.inl rfl | exact Or.inr rfl) (hf : X.fn x = true ∨ X.env.scope.names.lookup x = some .local := by first | exact .inl rfl | exact .inr rfl)
    (hst : starEach [a, b] X.env = (false, eval a X.env) :: starEach [b] X.env := by rfl) (hst2 : starEach [b] X.env = (false, eval b X.env) :: starEach [] X.env := by rfl) (hst3 : starEach [a, b] X.env = [(false, eval a X.env), (false, eval b X.env)] := by rfl) (hst4 : starEach [b] X.env = [(false, eval b X.env)] := by rfl)
    (hfs : ∀ x, foldedSetIterable (.Call (.Name "range" pr) [a, b] [] pc) X.env x = pure x := by intro _; rfl) :
    Go X ms Γ Δ (.For (.Name x px) (.Call (.Name "range" pr) [a, b] [] pc) body [] pos :: rest) K := fun W Wi B H σ D hm tk S s ok =>
  wpSs_of (pss_cons (ps_for hp hc (pi_range2 hg hm' (pa_cons pe_wp (pa_cons pe_wp pa_nil hst2) hst) hst3 hst4) (pg_name hN hi hx hf) pss_wp hfs) pss_wp) (ha W B H σ S s _ fun v B1 H1 e1 h1 => hb W B1 H1 σ (S.ext e1) (s.mono e1.bb) _ fun u B2 H2 e2 h2 =>
    ⟨lo, n, by rw [show v = .int lo from h1, show u = .int n from h2], by omega,
    for_range (lo := lo) (n := (n - lo).toNat) (fun i σ' H' => ∃ B', Stb W (Δf i) B' H' ∧ Sl (Γf i) W.H B' σ' ∧ Pre i) ⟨B2, h0.2.1 ▸ (S.ext e1).ext e2, ((s.mono e1.bb).mono e2.bb).wk h0.1, h0.2.2⟩ (fun i σ' H' hlt ⟨B', S', s', p'⟩ =>
      hs i (by omega) p' W Wi B' H' _ _ hm tk S' (s'.set j rfl) ⟨fun Γ' Δ' B2 H2 σ2 q S2 s2 => ⟨B2, q.2.1 ▸ S2, s2.wk q.1, q.2.2⟩, ok.rt, fun _ _ _ _ _ q => q.elim, fun Γ' Δ' B2 H2 σ2 q S2 s2 => ⟨B2, q.2.1 ▸ S2, s2.wk q.1, q.2.2⟩, ok.ex⟩)
      (fun σ' H' ⟨B', S', s', p'⟩ => hd p' W Wi B' H' σ' D hm tk S' s' ok)⟩)
/-- a list that stands still -/
def EF (X : Cx) (Γ : Gam) (Δ : Del) (e : Expr) (ps : List Pr) : Prop := ∀ (W : Ws) (B H : Hp) (σ : L2.St), Stb W Δ B H → Sl Γ W.H B σ → ∀ Q : VK, (∀ a xs B2 H2, Ext B H B2 H2 → SqL X.K B2 a xs → All W.H B2 ps xs → Q (.ref a) H2) → wpE X e σ H Q
theorem ef_L (h : EE X Γ Δ e (L ps)) : EF X Γ Δ e ps := fun W B H σ S s Q q => h W B H σ S s _ fun v B1 H1 e1 h1 => by
  obtain ⟨l, xs, rfl, h2, h3⟩ := h1
  exact q l xs B1 H1 e1 (SqL.of h2) h3
theorem ef_scr {ns : List Int} (h : EE X Γ Δ e (Scr X.K ns)) : EF X Γ Δ e (ns.map I) := fun W B H σ S s Q q => h W B H σ S s _ fun v B1 H1 e1 h1 => by
  obtain ⟨l, rfl, h2⟩ := h1
  exact q l _ B1 H1 e1 h2 (ints_all ns)
theorem Stb.base {W : Ws} {Δ1 : Del} {B1 H1 : Hp} (S : Stb W Δ1 B1 H1) : Stb ⟨B1, W.H, W.ms⟩ Δ1 B1 H1 := ⟨S.ex, S.mu, S.nd, Same.refl _, S.hh, S.dm, fun _ h _ => h, S.ow, S.msd⟩
theorem Stb.unbase {W : Ws} {Δ1 Δ2 : Del} {B1 H1 B2 H2 : Hp} (S : Stb W Δ1 B1 H1) (S2 : Stb ⟨B1, W.H, W.ms⟩ Δ2 B2 H2) : Stb W Δ2 B2 H2 := ⟨S2.ex, S2.mu, S2.nd, S.bb.trans S2.bb, S2.hh, S2.dm, fun a h n => S2.fr a (S.fr a h n) n, S2.ow, S2.msd⟩
theorem Kk.Ok.base {W : Ws} {Wi : WX} {D : Ends} {Δ1 : Del} {B1 H1 : Hp} (S : Stb W Δ1 B1 H1) (ok : K.Ok W Wi D) : K.Ok ⟨B1, W.H, W.ms⟩ Wi D :=
  ⟨fun _ _ _ _ _ q S2 s => ok.nx _ _ _ _ _ q (S.unbase S2) s, fun _ _ _ _ _ q S2 s => ok.rt _ _ _ _ _ q (S.unbase S2) s, fun _ _ _ _ _ q S2 s => ok.bk _ _ _ _ _ q (S.unbase S2) s, fun _ _ _ _ _ q S2 s => ok.ct _ _ _ _ _ q (S.unbase S2) s, fun _ _ _ _ _ _ q S2 s => ok.ex _ _ _ _ _ _ q (S.unbase S2) s⟩
/-- a loop over a list that stands still; f: what the target does with an item of P -/
theorem go_forG {tg : Expr} {body : List Stmt} {f : Nat → Gam → Gam} (Γf : Nat → Gam) (Δf : Nat → Del) (Pre : Nat → Prop) (hp : PassesOwn (model X.prog X.w) X.A X.env X.xe) (ha : EF X Γ Δ a ps) (h0 : Wk Γ (Γf 0) ∧ Δ = Δf 0 ∧ Pre 0)
    (hs : ∀ (i : Nat) (P : Pr), ps[i]? = some P → Pre i → Go X ms (f i (Γf i)) (Δf i) body { nx := fun Γ' Δ' => Wk Γ' (Γf (i + 1)) ∧ Δ' = Δf (i + 1) ∧ Pre (i + 1), ct := fun Γ' Δ' => Wk Γ' (Γf (i + 1)) ∧ Δ' = Δf (i + 1) ∧ Pre (i + 1), rt := K.rt, ex := K.ex })
    (hd : Pre ps.length → Go X ms (Γf ps.length) (Δf ps.length) rest K) (hg : ∃ g, PG X tg g ∧ ∀ (i : Nat) (P : Pr), ps[i]? = some P → ∀ (Γ : Gam) (h B : Hp) (σ : L2.St) (H : Hp) (v : V) (Q : L2.St → Hp → Prop), Same B H → Sl Γ h B σ → P.p h B v → (∀ σ', Sl (f i Γ) h B σ' → Q σ' H) → g v σ H Q)
    (hc : X.calm = true := by rfl) (hfs : ∀ x, foldedSetIterable a X.env x = pure x := by intro _; rfl) : Go X ms Γ Δ (.For tg a body [] pos :: rest) K := fun W Wi B H σ D hm tk S s ok => by
  obtain ⟨g, pg, hgo⟩ := hg
  refine wpSs_of (pss_cons (ps_for hp hc (pi_list pe_wp) pg pss_wp hfs) pss_wp) (ha W B H σ S s _ fun l xs B1 H1 e1 h1 h2 => ⟨l, rfl, ⟨xs, Same.seq e1.bh h1⟩, ?_⟩)
  have hl : ps.length = xs.length := h2.len
  have S1 := S.ext e1
  refine for_list (K := X.K) (a := l) (xs := xs) (fun i σ' H' => ∃ B', Stb ⟨B1, W.H, W.ms⟩ (Δf i) B' H' ∧ Sl (Γf i) W.H B' σ' ∧ Pre i) ⟨B1, h0.2.1 ▸ S1.base, (s.mono e1.bb).wk h0.1, h0.2.2⟩ (fun i σ' H' _ ⟨B', S', _, _⟩ => Same.seq (S'.bb.trans S'.ex) h1) (fun i v σ' H' hi ⟨B', S', s', p'⟩ => ?_) (fun σ' H' ⟨B', S', s', p'⟩ => ?_)
  · have hil : i < ps.length := by
      rw [hl]
      exact (List.getElem?_eq_some_iff.mp hi).1
    obtain ⟨u, hu, hp'⟩ := h2.get (List.getElem?_eq_getElem hil)
    rw [hi] at hu
    cases hu
    refine hgo i ps[i] (List.getElem?_eq_getElem hil) (Γf i) W.H B' σ' H' v _ S'.ex s' ((ps[i]).mono S'.bb hp') fun σ2 s2 => ?_
    have ok2 := ok.base S1
    exact hs i ps[i] (List.getElem?_eq_getElem hil) p' ⟨B1, W.H, W.ms⟩ Wi B' H' σ2 _ hm tk S' s2 ⟨fun Γ' Δ' B2 H2 σ2 q S2 s2 => ⟨B2, q.2.1 ▸ S2, s2.wk q.1, q.2.2⟩, ok2.rt, fun _ _ _ _ _ q => q.elim, fun Γ' Δ' B2 H2 σ2 q S2 s2 => ⟨B2, q.2.1 ▸ S2, s2.wk q.1, q.2.2⟩, ok2.ex⟩
  · rw [← hl] at S' s' p'
    exact hd p' W Wi B' H' σ' D hm tk (S1.unbase S') s' ok
theorem go_forL {body : List Stmt} {px : Pos} (j : Nat) (Γf : Nat → Gam) (Δf : Nat → Del) (Pre : Nat → Prop) (hp : PassesOwn (model X.prog X.w) X.A X.env X.xe) (hN : X.N.Nodup) (ha : EF X Γ Δ a ps) (h0 : Wk Γ (Γf 0) ∧ Δ = Δf 0 ∧ Pre 0)
    (hs : ∀ (i : Nat) (P : Pr), ps[i]? = some P → Pre i → Go X ms ((Γf i).set j (some P)) (Δf i) body { nx := fun Γ' Δ' => Wk Γ' (Γf (i + 1)) ∧ Δ' = Δf (i + 1) ∧ Pre (i + 1), ct := fun Γ' Δ' => Wk Γ' (Γf (i + 1)) ∧ Δ' = Δf (i + 1) ∧ Pre (i + 1), rt := K.rt, ex := K.ex })
    (hd : Pre ps.length → Go X ms (Γf ps.length) (Δf ps.length) rest K) (hc : X.calm = true := by rfl) (hi : X.N[j]? = some x := by rfl) (hx : Loc X.env.scope x := by first | exact Or.inl rfl | exact Or.inr rfl) (hf : X.fn x = true ∨ X.env.scope.names.lookup x = some .local := by first | exact .inl rfl | exact .inr rfl)
    (hfs : ∀ x, foldedSetIterable a X.env x = pure x := by intro _; rfl) : Go X ms Γ Δ (.For (.Name x px) a body [] pos :: rest) K :=
  go_forG (f := fun i Γ => match ps[i]? with | some P => Γ.set j (some P) | none => Γ) Γf Δf Pre hp ha h0 (fun i P hP p => by rw [hP]; exact hs i P hP p) hd ⟨_, pg_name hN hi hx hf, fun i P hP Γ h B σ H v Q e s hv q => q _ (by rw [hP]; exact s.set j hv)⟩ hc hfs
/-- for a, b in a list of pairs -/
theorem go_forL2 {α β : Type} {R : α → Pr} {R' : β → Pr} {l : List (α × β)} {y : Str} {kk : Nat} {body : List Stmt} {px py pt : Pos} (j j' : Nat) (Γf : Nat → Gam) (Δf : Nat → Del) (Pre : Nat → Prop) (hp : PassesOwn (model X.prog X.w) X.A X.env X.xe) (hN : X.N.Nodup)
    (ha : EF X Γ Δ a (l.map fun z => T [R z.1, R' z.2])) (h0 : Wk Γ (Γf 0) ∧ Δ = Δf 0 ∧ Pre 0)
    (hs : ∀ (i : Nat) (z : α × β), l[i]? = some z → Pre i → Go X ms (((Γf i).set j (some (R z.1))).set j' (some (R' z.2))) (Δf i) body { nx := fun Γ' Δ' => Wk Γ' (Γf (i + 1)) ∧ Δ' = Δf (i + 1) ∧ Pre (i + 1), ct := fun Γ' Δ' => Wk Γ' (Γf (i + 1)) ∧ Δ' = Δf (i + 1) ∧ Pre (i + 1), rt := K.rt, ex := K.ex })
    (hd : Pre l.length → Go X ms (Γf l.length) (Δf l.length) rest K) (hc : X.calm = true := by rfl) (hi : X.N[j]? = some x := by rfl) (hj : X.N[j']? = some y := by rfl) (hx : Loc X.env.scope x := by first | exact Or.inl rfl | exact Or.inr rfl) (hy : Loc X.env.scope y := by first | exact Or.inl rfl | exact Or.inr rfl)
    (hf : X.fn x = true ∨ X.env.scope.names.lookup x = some .local := by first | exact .inl rfl | exact .inr rfl) (hg : X.fn y = true ∨ X.env.scope.names.lookup y = some .local := by first | exact .inl rfl | exact .inr rfl)
    (hs2 : (assignEach [Expr.Name x px, Expr.Name y py] X.env).map (·.2) = assign (.Name x px) X.env :: (assignEach [Expr.Name y py] X.env).map (·.2) := by rfl) (hs3 : (assignEach [Expr.Name y py] X.env).map (·.2) = assign (.Name y py) X.env :: (assignEach [] X.env).map (·.2) := by rfl)
    (hn : (assignEach [Expr.Name x px, Expr.Name y py] X.env).length = 2 := by rfl) (hst : (assignEach [Expr.Name x px, Expr.Name y py] X.env).findIdx? (·.1) = none := by rfl)
    (hfs : ∀ x, foldedSetIterable a X.env x = pure x := by intro _; rfl) : Go X ms Γ Δ (.For (.Tuple [.Name x px, .Name y py] kk pt) a body [] pos :: rest) K := by
  have hz : ∀ (i : Nat) (P : Pr), (l.map fun z => T [R z.1, R' z.2])[i]? = some P → ∃ z, l[i]? = some z ∧ P = T [R z.1, R' z.2] := fun i P h => by
    rw [List.getElem?_map] at h
    cases e : l[i]? with
    | none => rw [e] at h; cases h
    | some z => rw [e] at h; exact ⟨z, rfl, (Option.some.inj h).symm⟩
  refine go_forG (f := fun i Γ => match l[i]? with | some z => (Γ.set j (some (R z.1))).set j' (some (R' z.2)) | none => Γ) Γf Δf Pre hp ha h0 (fun i P hP p => ?_) (by rw [List.length_map]; exact hd)
    ⟨_, pg_tup hc (pgs_cons (pg_name hN hi hx hf) (pgs_cons (pg_name hN hj hy hg) pgs_nil hs3) hs2) hn hst, fun i P hP Γ h B σ H v Q e s hv q => ?_⟩ hc hfs
  · obtain ⟨z, h1, _⟩ := hz i P hP
    rw [h1]
    exact hs i z h1 p
  · obtain ⟨z, h1, rfl⟩ := hz i P hP
    rw [h1] at q
    obtain ⟨b, xs, rfl, g1, g2⟩ := hv
    obtain ⟨u, w, rfl, k1, k2⟩ := g2.two
    exact ⟨b, _, rfl, SqT.of (e _ _ g1), rfl, u, _, rfl, w, _, rfl, rfl, q _ ((s.set j k1).set j' k2)⟩
/-! ### assignments to several names, to an item -/
theorem go_tupM {Ke : Pr → Del → Prop} {Kx : Value → Del → Prop} {tgs : List Expr} {f : Pr → Del → Gam → Prop} {kk : Nat} {pt : Pos} (he : EM X ms Γ Δ e Ke Kx) (hxx : ∀ c Δ', Kx c Δ' → K.ex c Γ Δ')
    (hg : ∃ g, PG X (.Tuple tgs kk pt) g ∧ ∀ (P : Pr) (Δ' : Del) (h B : Hp) (σ : L2.St) (H : Hp) (v : V) (Q : L2.St → Hp → Prop), Same B H → Sl Γ h B σ → Ke P Δ' → P.p h B v → (∀ Γ' σ', f P Δ' Γ' → Sl Γ' h B σ' → Q σ' H) → g v σ H Q)
    (h : ∀ P Δ' Γ', Ke P Δ' → f P Δ' Γ' → Go X ms Γ' Δ' rest K) (hs : swapsWithSole [.Tuple tgs kk pt] e pos.line X.env = pure false := by rfl) (hw : swappedStores [.Tuple tgs kk pt] e X.env = pure none := by rfl)
    (h1 : (assignEach [.Tuple tgs kk pt] X.env).map (·.2) = [assign (.Tuple tgs kk pt) X.env] := by rfl) : Go X ms Γ Δ (.Assign [.Tuple tgs kk pt] e pos :: rest) K := fun W Wi B H σ D hm tk S s ok => by
  obtain ⟨g, pg, hgo⟩ := hg
  refine wpSs_of (pss_cons (ps_asg pe_wp pg hs hw h1) pss_wp) (he W Wi B H σ hm tk S s (fun c Δ' B' H' kx S' e' => ok.ex _ _ _ _ _ _ (hxx c Δ' kx) S' (s.mono e')) _ fun P Δ' v B1 H1 kp S1 e1 h1 => ?_)
  exact hgo P Δ' W.H B1 σ H1 v _ S1.ex (s.mono e1) kp h1 fun Γ' σ' f1 s' => h P Δ' Γ' kp f1 W Wi B1 H1 σ' D hm tk S1 s' ok
/-- xs[i] = e, xs an entry -/
theorem go_ix (n : Nat) {l : Addr} {i : Int} {j : Nat} (he : EE X Γ Δ e P) (ho : EE X Γ Δ o (Ref l)) (hi : EE X Γ Δ b (I i)) (hk : Δ[n]? = some (l, ML ps)) (hj : ixN ps.length i = some j) (h : Go X ms Γ (Δ.set n (l, ML (ps.set j P))) rest K)
    (hs : swapsWithSole [.Subscript o b p2] e pos.line X.env = pure false := by rfl) (hw : swappedStores [.Subscript o b p2] e X.env = pure none := by rfl)
    (h1 : (assignEach [.Subscript o b p2] X.env).map (·.2) = [assign (.Subscript o b p2) X.env] := by rfl)
    (ha : ∀ v, assign (.Subscript o b p2) X.env v = (do let ov ← holding [v] (eval o X.env); let iv ← holding [v, ov] (eval b X.env); standAt p2; holding [v, ov, iv] (setItem ov iv v); release [v, ov, iv] []) := by intro _; rfl) : Go X ms Γ Δ (.Assign [.Subscript o b p2] e pos :: rest) K := fun W Wi B H σ D hm tk S s ok =>
  wpSs_of (pss_cons (ps_asg pe_wp (pg_sub pe_wp pe_wp set_list ha) hs hw h1) pss_wp) (he W B H σ S s _ fun v B1 H1 e1 g1 => ho W B1 H1 σ (S.ext e1) (s.mono e1.bb) _ fun w B2 H2 e2 g2 => hi W B2 H2 σ ((S.ext e1).ext e2) ((s.mono e1.bb).mono e2.bb) _ fun u B3 H3 e3 g3 => by
    have S3 := ((S.ext e1).ext e2).ext e3
    obtain ⟨_, ob, k1, xs, rfl, k2⟩ := S3.at hk
    have ew : w = .ref l := g2
    have eu : u = .int i := g3
    subst ew eu
    refine ⟨l, xs, i, j, rfl, rfl, k1, by rw [← k2.len]; exact hj, ?_⟩
    exact h W Wi B3 _ σ D hm tk (S3.put hk ⟨_, rfl, k2.set (P.mono (e2.bb.trans e3.bb) g1) j⟩) (((s.mono e1.bb).mono e2.bb).mono e3.bb) ok)
/-- xs.append(e), xs an entry -/
theorem go_app (n : Nat) {l : Addr} (ho : EE X Γ Δ o (Ref l)) (he : EE X Γ Δ e P) (hk : Δ[n]? = some (l, ML ps)) (hz : ps.length < 100000) (h : Go X ms Γ (Δ.set n (l, ML (ps ++ [P]))) rest K)
    (hbase : attributeBase o "append" X.env (eval o X.env) = eval o X.env := by rfl)
    (hfew : ((backTo p2 (starEach [e] X.env)).all (fun x => !x.1) && (backToKw p2 (keywordEach [] X.env)).all (fun x => x.1.isSome) && decide (([e] : List Expr).length + ([] : List Keyword).length + (if ([] : List Keyword).isEmpty then 0 else 1) < 30)) = true := by rfl)
    (hline : (apos.endLine == p2.line) = true := by rfl) (hs1 : starEach [e] X.env = (false, eval e X.env) :: starEach [] X.env := by rfl) (hplain : (backTo p2 (starEach [] X.env)).any (·.1) = false := by rfl)
    (hs : swapsWith (.Call (.Attribute o "append" apos) [e] [] p2) none pos.line X.env = pure false := by rfl) : Go X ms Γ Δ (.Expr (.Call (.Attribute o "append" apos) [e] [] p2) pos :: rest) K := fun W Wi B H σ D hm tk S s ok =>
  wpSs_of (pss_cons (ps_expr (pe_bm PySem.F.plainAttrs_list PySem.F.slot_list_append PySem.F.type_list_append mt_append pe_wp (pa_cons pe_wp pa_nil hs1) hbase hfew hline hs1 hplain) hs) pss_wp) (ho W B H σ S s _ fun w B1 H1 e1 g1 => by
    have S1 := S.ext e1
    obtain ⟨_, ob, k1, xs, rfl, k2⟩ := S1.at hk
    have ew : w = .ref l := g1
    subst ew
    refine ⟨.inl ⟨rfl, xs, SqL.of k1⟩, he W B1 H1 σ S1 (s.mono e1.bb) _ fun v B2 H2 e2 g2 => ?_⟩
    have S2 := S1.ext e2
    refine ⟨l, xs, v, rfl, rfl, e2.hh _ _ k1, by rw [← k2.len]; exact sz_lt hz, ?_⟩
    exact h W Wi B2 _ σ D hm tk (S2.put hk ⟨_, rfl, All.app (qs := [P]) (us := [v]) ⟨g2, trivial⟩ (k2.mono e2.bb)⟩) ((s.mono e1.bb).mono e2.bb) ok)
/-! ### entries: new, stood still, put in another order, let go -/
theorem go_perm {Δ' : Del} {sts : List Stmt} (h : Δ.Perm Δ') (g : Go X ms Γ Δ' sts K) : Go X ms Γ Δ sts K := fun W Wi B H σ D hm tk S s ok => g W Wi B H σ D hm tk (S.perm h) s ok
theorem go_drop {Δ' : Del} {sts : List Stmt} (h : List.Sublist Δ' Δ) (g : Go X ms Γ Δ' sts K) : Go X ms Γ Δ sts K := fun W Wi B H σ D hm tk S s ok => g W Wi B H σ D hm tk (S.sub h) s ok
/-- a list that stands still from here on -/
theorem go_frz (n i : Nat) {l : Addr} {sts : List Stmt} (hk : Δ[n]? = some (l, ML ps)) (hm0 : l ∉ ms) (hΓ : Γ[i]? = some (some (Ref l))) (g : Go X ms (Γ.set i (some (N (L ps)))) (Δ.eraseIdx n) sts K) : Go X ms Γ Δ sts K := fun W Wi B H σ D hm tk S s ok => by
  obtain ⟨ob, h1, hw, ⟨xs, rfl, h2⟩, S2, e2⟩ := S.frz hk (by rw [hm]; exact hm0)
  obtain ⟨v, k1, k2⟩ := s.2 i _ hΓ
  have ev : v = .ref l := k2
  subst ev
  have hil : i < σ.length := (List.getElem?_eq_some_iff.mp k1).1
  have hset : σ.set i (some (.ref l)) = σ := by
    apply List.ext_getElem?
    intro j
    by_cases hj : i = j
    · subst hj
      rw [List.getElem?_set_self hil, k1]
    · rw [List.getElem?_set_ne hj]
  have s2 := (s.mono e2).set (P := N (L ps)) (v := .ref l) i ⟨⟨l, xs, rfl, upd_same, h2.mono e2⟩, fun a z => by injection z with z; exact z ▸ hw⟩
  rw [hset] at s2
  exact g W Wi _ H σ D hm tk S2 s2 ok
end
end Yb
set_option maxHeartbeats 1000000
namespace Yb
open PySem PySem.Spec PyProof.Rows L2
/-! ### a def keeps its contracts -/
def gam0 (N : List Str) (ps : List Pr) : Gam := ps.map some ++ List.replicate (N.length - ps.length) none
def HiOs : Del → Prop
  | [] => True
  | e :: r => HiO e.2 ∧ HiOs r
theorem HiOs.mem : ∀ {Δ : Del}, HiOs Δ → ∀ e ∈ Δ, HiO e.2
  | e :: r, h, Q, hq => by
    rcases List.mem_cons.mp hq with rfl | hq
    · exact h.1
    · exact HiOs.mem h.2 Q hq
theorem sl_start {N : List Str} {ps : List Pr} {vs : List V} {h B : Hp} (hl : ps.length ≤ N.length) (a : All h B ps vs) : Sl (gam0 N ps) h B (L2.start N vs) := by
  have hlen := a.len
  refine ⟨?_, fun i P q => ?_⟩
  · unfold gam0 L2.start
    rw [List.length_append, List.length_append, List.length_map, List.length_map, List.length_replicate, List.length_replicate, hlen]
  · unfold gam0 at q
    unfold L2.start
    by_cases hi : i < ps.length
    · rw [List.getElem?_append_left (by rw [List.length_map]; exact hi), List.getElem?_map] at q
      cases e : ps[i]? with
      | none => rw [e] at q; cases q
      | some P' =>
        rw [e] at q
        have : P' = P := by simpa using q
        subst this
        obtain ⟨v, h1, h2⟩ := a.get e
        refine ⟨v, ?_, h2⟩
        rw [List.getElem?_append_left (by rw [List.length_map, ← hlen]; exact hi), List.getElem?_map, h1]
        rfl
    · rw [List.getElem?_append_right (by rw [List.length_map]; omega), List.getElem?_replicate] at q
      split at q <;> cases q
section
variable {P : Program} {w : World} {K : PySem.W.Frag} {mg : Str → Option Value} {base : Heap}
theorem fn_go {x qual : Str} {st : Stmt} {f : Addr} {fd : FuncData} {N ps : List Str} {k : Nat} {C : Cn → Prop} {dvs : List V} (F : FunD K x qual (defArgs st) (defBody st) (defScope st) dvs [] f fd) (S : FnScope N ps (defScope st)) (hC : ∀ c, C c → c.ps.length = ps.length ∧ His c.ps ∧ HiOs c.Δ)
    (hbody : ∀ (c : Cn), C c → ∀ (cdv : Value) (A : Around) (outer : List Env) (s : Shared) (H : Hp) (E : XK), Room k (A.deeper (envOfC qual (defScope st) s.heap.objs.size f cdv)) →
      Go (cxOf (L2N.CX P w) P w K mg base N qual (defScope st) f cdv A outer s H E) (c.Δ.map (·.1)) (gam0 N c.ps) c.Δ (defBody st) { nx := fun _ Δ' => c.out No Δ', rt := c.out, ex := fun v _ Δ' => c.exc v Δ' }) : FnOk P w K mg base (L2N.CX P w) (k + 1) f fd ps (spC C) := by
  refine F.ok S (fun vs H Q E h => ?_) (fun cdv A outer s H vs Q E hr h => ⟨_, pss_wp, ?_⟩)
  · obtain ⟨c, B, hc, _, ha, _⟩ := h
    rw [← ha.len]
    exact (hC c hc).1
  · obtain ⟨c, B, hc, hs, ha, hm, nd, ho, hx⟩ := h
    obtain ⟨h1, h2, h3⟩ := hC c hc
    have hpl : ps.length ≤ N.length := by
      have := congrArg List.length S.pre
      rw [List.length_take] at this
      omega
    refine hbody c hc cdv A outer s H E hr ⟨B, H, c.Δ.map (·.1)⟩ (fun cls d _ H' => E cls d H') B H (L2.start N vs) _ rfl (L2N.takes_of rfl rfl rfl rfl) ?_ (sl_start (by omega) (h2.all ha)) ?_
    · refine Stb.refl (W := ⟨B, H, c.Δ.map (·.1)⟩) hs (fun e he => ?_) nd (fun a ha => ?_)
      · obtain ⟨g1, o, g2, g3⟩ := hm e he
        exact ⟨List.mem_map_of_mem he, g1, o, g2, h3.mem e he _ _ _ _ g3⟩
      · obtain ⟨e, he, rfl⟩ := List.mem_map.mp ha
        obtain ⟨g1, o, g2, g3⟩ := hm e he
        show H e.1 ≠ none
        rw [g2]
        intro z; cases z
    · exact ⟨fun Γ Δ B' H' σ q S' s' => ho No Δ B' H' .non q S' rfl, fun P' Δ B' H' v q S' hv => ho P' Δ B' H' v q S' hv, fun _ _ _ _ _ q => q.elim, fun _ _ _ _ _ q => q.elim, fun c' _ Δ B' H' σ q S' _ => hx c' Δ B' H' q S'⟩
end
/-! ### comprehensions -/
section
variable {X : Cx} {ms : List Addr} {Γ : Gam} {Δ : Del} {a elt : Expr} {P : Pr} {pos p2 pr pc px : Pos} {x : Str} {scope : Scope} {ifs : List Expr}
def wpB (X : Cx) (sc : Scope) (e : Expr) : TE := fun σ H Q => ∀ (s : Shared) (H0 : Hp) (C : Addr) (cl : List (Str × Addr)) (fp : List Addr), wpE (X.blk s H0 sc (compEnvC sc cl C X.env) fp) e σ H Q
def wpIf (X : Cx) (sc : Scope) (ifs : List Expr) : TT := match ifs with
  | [] => tYes
  | c :: _ => fun σ H Q => ∀ (s : Shared) (H0 : Hp) (C : Addr) (cl : List (Str × Addr)) (fp : List Addr), wpT (X.blk s H0 sc (compEnvC sc cl C X.env) fp) c σ H Q
/-- what a comprehension's test says -/
def EI (X : Cx) (sc : Scope) (Γ : Gam) (Δ : Del) (ifs : List Expr) (b : Bool) : Prop := match ifs with
  | [] => b = true
  | [c] => ∀ (s : Shared) (H0 : Hp) (C : Addr) (cl : List (Str × Addr)) (fp : List Addr), ET (X.blk s H0 sc (compEnvC sc cl C X.env) fp) Γ Δ c b
  | _ => False
def EB (X : Cx) (sc : Scope) (Γ : Gam) (Δ : Del) (e : Expr) (P : Pr) : Prop := ∀ (s : Shared) (H0 : Hp) (C : Addr) (cl : List (Str × Addr)) (fp : List Addr), EE (X.blk s H0 sc (compEnvC sc cl C X.env) fp) Γ Δ e P
theorem pts_if (h : ifs.length ≤ 1) (s : Shared) (H0 : Hp) (C : Addr) (cl : List (Str × Addr)) (fp : List Addr) : PTs (X.blk s H0 scope (compEnvC scope cl C X.env) fp) ifs (wpIf X scope ifs) := by
  match ifs, h with
  | [], _ => exact pts_nil
  | [c], _ => exact pts_one ⟨fun pins st σ H Q I h => h s H0 C cl fp pins st I⟩
theorem pe_b (s : Shared) (H0 : Hp) (C : Addr) (cl : List (Str × Addr)) (fp : List Addr) : PE (X.blk s H0 scope (compEnvC scope cl C X.env) fp) elt (wpB X scope elt) := ⟨fun pins st σ H Q I h => h s H0 C cl fp pins st I⟩
theorem sl_wipe {h B : Hp} {σ : L2.St} {v : V} {j : Nat} (s : Sl Γ h B σ) (hv : P.p h B v) : Sl (Γ.set j (some P)) h B ((wipe σ [j]).set j (some v)) := by
  have e : (wipe σ [j]).set j (some v) = σ.set j (some v) := by
    show (σ.set j none).set j (some v) = _
    rw [List.set_set]
  rw [e]
  exact s.set j hv
/-- one turn -/
theorem lc_turn {W : Ws} {B1 H1 B' H' : Hp} {σ : L2.St} {v : V} {j : Nat} {D : Addr} {acc : List Pr} {xs : List V} {b : Bool} {Pe : Pr} (S : Stb W Δ B' H') (s : Sl Γ W.H B' σ) (hv : P.p W.H B' v) (ht : EI X scope (Γ.set j (some P)) Δ ifs b) (he : b = true → EB X scope (Γ.set j (some P)) Δ elt Pe)
    (e1 : Ext B1 H1 B' H') (hD : H' D = some (.lst xs)) (hb : B' D = none) (h1 : H1 D = none) (ha : All W.H B' acc xs) (hz : xs.length < 50000) (R : Hp → Prop)
    (r0 : b = false → ∀ B2 H2, Ext B1 H1 B2 H2 → H2 D = some (.lst xs) → B2 D = none → All W.H B2 acc xs → R H2) (r1 : b = true → ∀ B2 H2 u, Ext B1 H1 B2 H2 → H2 D = some (.lst (xs ++ [u])) → B2 D = none → All W.H B2 (acc ++ [Pe]) (xs ++ [u]) → R H2) :
    wpIf X scope ifs ((wipe σ [j]).set j (some v)) H' fun b H3 => if b = true then wpB X scope elt ((wipe σ [j]).set j (some v)) H3 fun y H4 => ∃ acc, H4 D = some (.lst acc) ∧ acc.length < sizeLine ∧ R (upd H4 D (.lst (acc ++ [y]))) else R H3 := by
  have s1 := sl_wipe (j := j) s hv
  have step : ∀ B3 H3, Ext B' H' B3 H3 → b = true → wpB X scope elt ((wipe σ [j]).set j (some v)) H3 fun y H4 => ∃ acc, H4 D = some (.lst acc) ∧ acc.length < sizeLine ∧ R (upd H4 D (.lst (acc ++ [y]))) := fun B3 H3 e3 hbt s0 H0 C cl fp => by
    refine he hbt s0 H0 C cl fp W B3 H3 _ (S.ext e3) (s1.mono e3.bb) _ fun y B4 H4 e4 hy => ?_
    have e5 := (e1.trans e3).trans e4
    have hb4 : B4 D = none := e4.fr D (e3.fr D hb (by rw [hD]; intro z; cases z)) (by rw [e3.hh _ _ hD]; intro z; cases z)
    refine ⟨xs, e4.hh _ _ (e3.hh _ _ hD), sz_lt (by omega), r1 hbt B4 _ y ⟨e5.bb, fun q o hq => ?_, fun q o hq => ?_, e5.fr⟩ upd_same hb4 (All.app (qs := [Pe]) (us := [y]) ⟨hy, trivial⟩ (ha.mono (e3.bb.trans e4.bb)))⟩
    · rw [upd_ne (ne_of_none hq h1)]
      exact e5.hh q o hq
    · rw [upd_ne (ne_of_none hq hb4)]
      exact e5.bh q o hq
  match ifs, ht with
  | [], ht =>
    have hbt : b = true := ht
    exact step B' H' (Ext.refl S.ex) hbt
  | [c], ht =>
    intro s0 H0 C cl fp
    refine ht s0 H0 C cl fp W B' H' _ S s1 _ fun B3 H3 e3 => ?_
    cases b with
    | true => exact step B3 H3 e3 rfl
    | false =>
      have hb3 : B3 D = none := e3.fr D hb (by rw [hD]; intro z; cases z)
      exact r0 rfl B3 H3 (e1.trans e3) (e3.hh _ _ hD) hb3 (ha.mono e3.bb)
theorem take_get {α : Type} {l : List α} {i : Nat} {z : α} (h : l[i]? = some z) : l.take (i + 1) = l.take i ++ [z] := by
  rw [List.take_succ, h]
  rfl
/-- a reading that gives a new list -/
def ENt (Γ : Gam) (Δ : Del) (t : TE) (ps : List Pr) : Prop := ∀ (W : Ws) (B H : Hp) (σ : L2.St), Stb W Δ B H → Sl Γ W.H B σ → ∀ Q : VK, (∀ a xs B2 H2, Ext B H B2 H2 → H2 a = some (.lst xs) → B2 a = none → H a = none → All W.H B2 ps xs → Q (.ref a) H2) → t σ H Q
/-- [e for x in xs if ..], xs a list that may be read; l its data -/
theorem lc_read {α : Type} {R : α → Pr} {l : List α} (f : α → Bool) (Pe : α → Pr) (j : Nat) (ha : EF X Γ Δ a (l.map R)) (hl : l.length ≤ 40000)
    (ht : ∀ z ∈ l, EI X scope (Γ.set j (some (R z))) Δ ifs (f z)) (he : ∀ z ∈ l, f z = true → EB X scope (Γ.set j (some (R z))) Δ elt (Pe z)) : ENt Γ Δ (tLc (iList X.K (wpE X a)) (gName j) (wpIf X scope ifs) (wpB X scope elt) [j]) ((l.filter f).map Pe) := fun W B H σ S s Q q => by
  refine ha W B H σ S s _ fun d xs B1 H1 e1 h1 h2 => ⟨d, rfl, ⟨xs, Same.seq e1.bh h1⟩, fun D hD => ?_⟩
  have hlx : l.length = xs.length := by rw [← h2.len, List.length_map]
  have S1 := S.ext e1
  have s1 := s.mono e1.bb
  refine lc_list (K := X.K) (a := d) (xs := xs) (fun i H' => ∃ B' ys, Ext B1 H1 B' H' ∧ H' D = some (.lst ys) ∧ B' D = none ∧ ys.length ≤ i ∧ All W.H B' (((l.take i).filter f).map Pe) ys) ⟨B1, [], Ext.newH e1.bh hD, upd_same, e1.bh.free hD, Nat.le_refl _, trivial⟩ (fun i H' _ ⟨B', _, e', _⟩ => Same.seq (e'.bb.trans e'.bh) h1)
    (fun i v H' hiv ⟨B', ys, e', g1, g2, g3, g4⟩ => ?_) (fun H' ⟨B', ys, e', g1, g2, g3, g4⟩ => ?_)
  · have hil : i < l.length := by rw [hlx]; exact (List.getElem?_eq_some_iff.mp hiv).1
    have hlz : l[i]? = some l[i] := List.getElem?_eq_getElem hil
    obtain ⟨u, hu, hp⟩ := h2.get (i := i) (P := R l[i]) (by rw [List.getElem?_map, hlz]; rfl)
    rw [hiv] at hu
    cases hu
    have et := take_get hlz
    have mem : l[i] ∈ l := List.getElem_mem hil
    refine ⟨?_, lc_turn (P := R l[i]) (Pe := Pe l[i]) (S1.ext e') (s1.mono e'.bb) ((R l[i]).mono e'.bb hp) (ht _ mem) (he _ mem) e' g1 g2 hD g4 (by omega) _ (fun hb B2 H2 k1 k2 k3 k4 => ⟨B2, ys, k1, k2, k3, by omega, ?_⟩) (fun hb B2 H2 u k1 k2 k3 k4 => ⟨B2, _, k1, k2, k3, by rw [List.length_append, List.length_singleton]; omega, ?_⟩)⟩
    · show ((σ.set j none).set j (some v)).set j none = σ.set j none
      rw [List.set_set, List.set_set]
    · rw [et, List.filter_append, List.filter_cons, if_neg (by rw [hb]; decide), List.filter_nil, List.append_nil]
      exact k4
    · rw [et, List.filter_append, List.filter_cons, if_pos hb, List.filter_nil, List.map_append]
      exact k4
  · rw [← hlx, List.take_length] at g4
    exact q D ys B' H' (e1.trans e') g1 g2 (e1.hh.free hD) g4
theorem lcR_read {n : Int} (f : Nat → Bool) (Pe : Nat → Pr) (j : Nat) (ha : EE X Γ Δ a (I n)) (hn : n ≤ 40000) (hn0 : 0 ≤ n)
    (ht : ∀ z : Nat, (z : Int) < n → EI X scope (Γ.set j (some (I (z : Int)))) Δ ifs (f z)) (he : ∀ z : Nat, (z : Int) < n → f z = true → EB X scope (Γ.set j (some (I (z : Int)))) Δ elt (Pe z)) :
    ENt Γ Δ (tLc (iRng1 (tCons (wpE X a) tNil)) (gName j) (wpIf X scope ifs) (wpB X scope elt) [j]) (((List.range n.toNat).filter f).map Pe) := fun W B H σ S s Q q => by
  refine ha W B H σ S s _ fun w B1 H1 e1 h1 => ⟨n, by rw [show w = .int n from h1], by omega, by omega, fun D hD => ?_⟩
  have S1 := S.ext e1
  have s1 := s.mono e1.bb
  refine lc_range (lo := 0) (n := n.toNat) (fun i H' => ∃ B' ys, Ext B1 H1 B' H' ∧ H' D = some (.lst ys) ∧ B' D = none ∧ ys.length ≤ i ∧ All W.H B' (((List.range i).filter f).map Pe) ys) ⟨B1, [], Ext.newH e1.bh hD, upd_same, e1.bh.free hD, Nat.le_refl _, trivial⟩
    (fun i H' hiv ⟨B', ys, e', g1, g2, g3, g4⟩ => ?_) (fun H' ⟨B', ys, e', g1, g2, g3, g4⟩ => ?_)
  · have e0 : (0 : Int) + (i : Int) = (i : Int) := Int.zero_add _
    rw [e0]
    refine ⟨?_, lc_turn (P := I (i : Int)) (Pe := Pe i) (v := .int (i : Int)) (S1.ext e') (s1.mono e'.bb) rfl (ht i (by omega)) (he i (by omega)) e' g1 g2 hD g4 (by omega) _ (fun hb B2 H2 k1 k2 k3 k4 => ⟨B2, ys, k1, k2, k3, by omega, ?_⟩) (fun hb B2 H2 u k1 k2 k3 k4 => ⟨B2, _, k1, k2, k3, by rw [List.length_append, List.length_singleton]; omega, ?_⟩)⟩
    · show ((σ.set j none).set j (some (V.int (i : Int)))).set j none = σ.set j none
      rw [List.set_set, List.set_set]
    · rw [List.range_succ, List.filter_append, List.filter_cons, if_neg (by rw [hb]; decide), List.filter_nil, List.append_nil]
      exact k4
    · rw [List.range_succ, List.filter_append, List.filter_cons, if_pos hb, List.filter_nil, List.map_append]
      exact k4
  · exact q D ys B' H' (e1.trans e') g1 g2 (e1.hh.free hD) g4
theorem en_lc {α : Type} {R : α → Pr} {l : List α} (f : α → Bool) (Pe : α → Pr) (j : Nat) (hN : X.N.Nodup) (ha : EF X Γ Δ a (l.map R)) (hl : l.length ≤ 40000) (ok : BlkOk X.N X.env.scope scope [(x, j)])
    (hg : ∀ (s : Shared) (H : Hp) (C : Addr) (cl : List (Str × Addr)) (fp : List Addr), PG (X.blk s H scope (compEnvC scope cl C X.env) fp) (.Name x px) (gName j))
    (ht : ∀ z ∈ l, EI X scope (Γ.set j (some (R z))) Δ ifs (f z)) (he : ∀ z ∈ l, f z = true → EB X scope (Γ.set j (some (R z))) Δ elt (Pe z)) (hi : ifs.length ≤ 1 := by decide) (hc : X.calm = true := by rfl) (hs : ∀ x, foldedSetIterable a X.env x = pure x := by intro _; rfl) :
    EN X Γ Δ (.ListComp elt [⟨.Name x px, a, ifs, 0⟩] scope pos) ((l.filter f).map Pe) := fun W B H σ S s Q q =>
  wpE_of (pe_lc (own := [(x, j)]) (g := gName j) hc hN (pi_list pe_wp) ok hg (pts_if hi) pe_b hs) (lc_read f Pe j ha hl ht he W B H σ S s Q q)
theorem en_lcR {n : Int} (f : Nat → Bool) (Pe : Nat → Pr) (j : Nat) (hN : X.N.Nodup) (ha : EE X Γ Δ a (I n)) (hn : n ≤ 40000) (hn0 : 0 ≤ n) (hgl : Gl X "range") (hm : X.mg "range" = none) (ok : BlkOk X.N X.env.scope scope [(x, j)])
    (hg : ∀ (s : Shared) (H : Hp) (C : Addr) (cl : List (Str × Addr)) (fp : List Addr), PG (X.blk s H scope (compEnvC scope cl C X.env) fp) (.Name x px) (gName j))
    (ht : ∀ z : Nat, (z : Int) < n → EI X scope (Γ.set j (some (I (z : Int)))) Δ ifs (f z)) (he : ∀ z : Nat, (z : Int) < n → f z = true → EB X scope (Γ.set j (some (I (z : Int)))) Δ elt (Pe z)) (hi : ifs.length ≤ 1 := by decide) (hc : X.calm = true := by rfl)
    (hst : starEach [a] X.env = (false, eval a X.env) :: starEach [] X.env := by rfl) (hst2 : starEach [a] X.env = [(false, eval a X.env)] := by rfl) (hs : ∀ x, foldedSetIterable (.Call (.Name "range" pr) [a] [] pc) X.env x = pure x := by intro _; rfl) :
    EN X Γ Δ (.ListComp elt [⟨.Name x px, .Call (.Name "range" pr) [a] [] pc, ifs, 0⟩] scope pos) (((List.range n.toNat).filter f).map Pe) := fun W B H σ S s Q q =>
  wpE_of (pe_lc (own := [(x, j)]) (g := gName j) hc hN (pi_range1 hgl hm (pa_cons pe_wp pa_nil hst) hst2) ok hg (pts_if hi) pe_b hs) (lcR_read f Pe j ha hn hn0 ht he W B H σ S s Q q)
/-- y = [..], y a local -/
structure LcS (X : Cx) (Γ : Gam) (Δ : Del) (st : Stmt) (i : Nat) (ps : List Pr) : Prop where
  ex : ∃ t, PS X st (tAsg t (gName i)) ∧ ENt Γ Δ t ps
theorem lcs {α : Type} {R : α → Pr} {l : List α} {y : Str} {py spos : Pos} (i : Nat) (f : α → Bool) (Pe : α → Pr) (j : Nat) (hN : X.N.Nodup) (ha : EF X Γ Δ a (l.map R)) (hl : l.length ≤ 40000) (ok : BlkOk X.N X.env.scope scope [(x, j)])
    (hg : ∀ (s : Shared) (H : Hp) (C : Addr) (cl : List (Str × Addr)) (fp : List Addr), PG (X.blk s H scope (compEnvC scope cl C X.env) fp) (.Name x px) (gName j))
    (ht : ∀ z ∈ l, EI X scope (Γ.set j (some (R z))) Δ ifs (f z)) (he : ∀ z ∈ l, f z = true → EB X scope (Γ.set j (some (R z))) Δ elt (Pe z)) (hi : ifs.length ≤ 1 := by decide) (hc : X.calm = true := by rfl)
    (hy : X.N[i]? = some y := by rfl) (hyl : X.env.scope.names.lookup y = some .local := by rfl) (hsw : swapsWith (.ListComp elt [⟨.Name x px, a, ifs, 0⟩] scope pos) (some (.Name y py)) spos.line X.env = pure true := by exact sw_true rfl rfl rfl (by decide +kernel)) (hs : ∀ x, foldedSetIterable a X.env x = pure x := by intro _; rfl) :
    LcS X Γ Δ (.Assign [.Name y py] (.ListComp elt [⟨.Name x px, a, ifs, 0⟩] scope pos) spos) i ((l.filter f).map Pe) :=
  ⟨_, ps_setLc (own := [(x, j)]) (g := gName j) hc hN hy hyl hsw (pi_list pe_wp) ok hg (pts_if hi) pe_b hs, lc_read f Pe j ha hl ht he⟩
theorem lcsR {n : Int} {y : Str} {py spos : Pos} (i : Nat) (f : Nat → Bool) (Pe : Nat → Pr) (j : Nat) (hN : X.N.Nodup) (ha : EE X Γ Δ a (I n)) (hn : n ≤ 40000) (hn0 : 0 ≤ n) (hgl : Gl X "range") (hm : X.mg "range" = none) (ok : BlkOk X.N X.env.scope scope [(x, j)])
    (hg : ∀ (s : Shared) (H : Hp) (C : Addr) (cl : List (Str × Addr)) (fp : List Addr), PG (X.blk s H scope (compEnvC scope cl C X.env) fp) (.Name x px) (gName j))
    (ht : ∀ z : Nat, (z : Int) < n → EI X scope (Γ.set j (some (I (z : Int)))) Δ ifs (f z)) (he : ∀ z : Nat, (z : Int) < n → f z = true → EB X scope (Γ.set j (some (I (z : Int)))) Δ elt (Pe z)) (hi : ifs.length ≤ 1 := by decide) (hc : X.calm = true := by rfl)
    (hy : X.N[i]? = some y := by rfl) (hyl : X.env.scope.names.lookup y = some .local := by rfl) (hsw : swapsWith (.ListComp elt [⟨.Name x px, .Call (.Name "range" pr) [a] [] pc, ifs, 0⟩] scope pos) (some (.Name y py)) spos.line X.env = pure true := by exact sw_true rfl rfl rfl (by decide +kernel))
    (hst : starEach [a] X.env = (false, eval a X.env) :: starEach [] X.env := by rfl) (hst2 : starEach [a] X.env = [(false, eval a X.env)] := by rfl) (hs : ∀ x, foldedSetIterable (.Call (.Name "range" pr) [a] [] pc) X.env x = pure x := by intro _; rfl) :
    LcS X Γ Δ (.Assign [.Name y py] (.ListComp elt [⟨.Name x px, .Call (.Name "range" pr) [a] [] pc, ifs, 0⟩] scope pos) spos) i (((List.range n.toNat).filter f).map Pe) :=
  ⟨_, ps_setLc (own := [(x, j)]) (g := gName j) hc hN hy hyl hsw (pi_range1 hgl hm (pa_cons pe_wp pa_nil hst) hst2) ok hg (pts_if hi) pe_b hs, lcR_read f Pe j ha hn hn0 ht he⟩
variable {K : Kk} {rest : List Stmt} {st : Stmt} {ps : List Pr}
theorem go_lc {i : Nat} (h : LcS X Γ Δ st i ps) (g : Go X ms (Γ.set i (some (N (L ps)))) Δ rest K) : Go X ms Γ Δ (st :: rest) K := fun W Wi B H σ D hm tk S s ok => by
  obtain ⟨t, h1, h2⟩ := h.ex
  refine wpSs_of (pss_cons h1 pss_wp) (h2 W B H σ S s _ fun l xs B1 H1 e1 g1 g2 g3 g4 => ?_)
  obtain ⟨B2, e2, k⟩ := fr_N S e1 g1 g2 g3 g4
  exact g W Wi B2 H1 _ D hm tk (S.ext e2) ((s.mono e2.bb).set i k) ok
theorem go_lcM {i : Nat} (h : LcS X Γ Δ st i ps) (g : ∀ l, l ∉ ms → Go X ms (Γ.set i (some (Ref l))) (Δ ++ [(l, ML ps)]) rest K) : Go X ms Γ Δ (st :: rest) K := fun W Wi B H σ D hm tk S s ok => by
  obtain ⟨t, h1, h2⟩ := h.ex
  refine wpSs_of (pss_cons h1 pss_wp) (h2 W B H σ S s _ fun l xs B1 H1 e1 g1 g2 g3 g4 => ?_)
  obtain ⟨h5, S2⟩ := mu_N S e1 g1 g2 g3 g4
  exact g l (hm ▸ h5) W Wi B1 H1 _ D hm tk S2 ((s.mono e1.bb).set i rfl) ok
end
end Yb
set_option maxHeartbeats 1000000
namespace Yb
open PySem PySem.Spec PyProof.Rows L2
/-! ### instances -/
theorem zip_look {f : Str} {v : V} : ∀ {ns : List Str} {xs : List V} {i : Nat}, ns.findIdx? (fun n => f == n) = some i → xs[i]? = some v → (ns.zip xs).lookup f = some v
  | [], _, _, h, _ => by simp at h
  | n :: ns, [], i, _, h => by simp at h
  | n :: ns, x :: xs, i, h, h2 => by
    rw [List.findIdx?_cons] at h
    rw [List.zip_cons_cons, List.lookup]
    cases e : (f == n) with
    | true =>
      rw [e] at h
      have h : some 0 = some i := h
      cases h
      rw [List.getElem?_cons_zero] at h2
      exact h2
    | false =>
      rw [e] at h
      cases e2 : ns.findIdx? (fun n => f == n) with
      | none => rw [e2] at h; simp at h
      | some j =>
        rw [e2] at h
        have : j + 1 = i := by simpa using h
        subst this
        rw [List.getElem?_cons_succ] at h2
        exact zip_look e2 h2
theorem zip_miss {f : Str} : ∀ {ns : List Str} {xs : List V}, ns.findIdx? (fun n => f == n) = none → (ns.zip xs).lookup f = none
  | [], _, _ => by simp
  | n :: ns, [], _ => by simp
  | n :: ns, x :: xs, h => by
    rw [List.findIdx?_cons] at h
    rw [List.zip_cons_cons, List.lookup]
    cases e : (f == n) with
    | true => rw [e] at h; cases h
    | false =>
      rw [e] at h
      refine zip_miss ?_
      simpa using h
theorem zip_put {f : Str} {v : V} : ∀ {ns : List Str} {xs : List V} {i : Nat}, ns.length = xs.length → ns.findIdx? (fun n => f == n) = some i → putF f v (ns.zip xs) = ns.zip (xs.set i v)
  | [], _, _, _, h => by simp at h
  | n :: ns, [], i, h, _ => by simp at h
  | n :: ns, x :: xs, i, hl, h => by
    rw [List.findIdx?_cons] at h
    rw [List.zip_cons_cons]
    show (if n = f then (n, v) :: ns.zip xs else (n, x) :: putF f v (ns.zip xs)) = _
    cases e : (f == n) with
    | true =>
      rw [e] at h
      have h : some 0 = some i := h
      cases h
      rw [if_pos (beq_iff_eq.mp e).symm]
      rfl
    | false =>
      rw [e] at h
      rw [if_neg fun z => (beq_eq_false_iff_ne.mp e) z.symm]
      cases e2 : ns.findIdx? (fun n => f == n) with
      | none => rw [e2] at h; simp at h
      | some j =>
        rw [e2] at h
        have : j + 1 = i := by simpa using h
        subst this
        rw [zip_put (by simpa using hl) e2]
        rfl
theorem zip_new {f : Str} {v : V} : ∀ {ns : List Str} {xs : List V}, ns.length = xs.length → ns.findIdx? (fun n => f == n) = none → putF f v (ns.zip xs) = (ns ++ [f]).zip (xs ++ [v])
  | [], [], _, _ => rfl
  | n :: ns, [], h, _ => by simp at h
  | [], x :: xs, h, _ => by simp at h
  | n :: ns, x :: xs, hl, h => by
    rw [List.findIdx?_cons] at h
    rw [List.zip_cons_cons]
    show (if n = f then (n, v) :: ns.zip xs else (n, x) :: putF f v (ns.zip xs)) = _
    cases e : (f == n) with
    | true => rw [e] at h; cases h
    | false =>
      rw [e] at h
      rw [if_neg fun z => (beq_eq_false_iff_ne.mp e) z.symm, zip_new (by simpa using hl) (by simpa using h)]
      rfl
/-- an instance that stands still; one that may change -/
def Iv (C : Addr) (ns : List Str) (ps : List Pr) : Pr := ⟨fun h B v => ∃ a dx xs, v = .ref a ∧ B a = some (.ins C dx (ns.zip xs)) ∧ All h B ps xs, fun e ⟨a, dx, xs, h1, h2, h3⟩ => ⟨a, dx, xs, h1, e _ _ h2, h3.mono e⟩, fun e ⟨a, dx, xs, h1, h2, h3⟩ => ⟨a, dx, xs, h1, h2, h3.anti e⟩⟩
def MI (C : Addr) (ns : List Str) (ps : List Pr) : Ob := ⟨fun h B o => ∃ dx xs, o = .ins C dx (ns.zip xs) ∧ All h B ps xs, fun e ⟨dx, xs, h2, h3⟩ => ⟨dx, xs, h2, h3.mono e⟩, fun e ⟨dx, xs, h2, h3⟩ => ⟨dx, xs, h2, h3.anti e⟩⟩
theorem hi_Iv {C : Addr} {ns : List Str} {ps : List Pr} (h : His ps) : Hi (Iv C ns ps) := fun _ _ _ _ ⟨a, dx, xs, h1, h2, h3⟩ => ⟨a, dx, xs, h1, h2, h.all h3⟩
theorem hi_MI {C : Addr} {ns : List Str} {ps : List Pr} (h : His ps) : HiO (MI C ns ps) := fun _ _ _ _ ⟨dx, xs, h2, h3⟩ => ⟨dx, xs, h2, h.all h3⟩
section
variable {X : Cx} {ms : List Addr} {Γ : Gam} {Δ : Del} {K : Kk} {rest : List Stmt} {e a b o : Expr} {es : List Expr} {P P' : Pr} {Ps ps dps : List Pr} {pos pos' apos p2 : Pos} {x f m : Str} {C : Addr} {ns : List Str} {k j : Nat} {Cs : Cn → Prop} {dvs : List V}
theorem ee_fld (h : EE X Γ Δ e (Iv C ns ps)) (hc : Cls X.K C) (hn : NoAttr X.K C f) (i : Nat) (hi : ns.findIdx? (fun n => f == n) = some i) (hp : ps[i]? = some P) (hb : attributeBase e f X.env (eval e X.env) = eval e X.env := by rfl) : EE X Γ Δ (.Attribute e f pos) P := fun W B H σ S s Q q =>
  wpE_of (pe_fld pe_wp hb) (h W B H σ S s _ fun v B1 H1 e1 h1 => by
    obtain ⟨a, dx, xs, rfl, g1, g2⟩ := h1
    obtain ⟨u, g3, g4⟩ := g2.get hp
    exact ⟨a, C, dx, _, u, rfl, e1.bh _ _ g1, hc, hn, zip_look hi g3, q u B1 H1 e1 g4⟩)
theorem ee_fldM (n : Nat) {l : Addr} (h : EE X Γ Δ e (Ref l)) (hk : Δ[n]? = some (l, MI C ns ps)) (hc : Cls X.K C) (hn : NoAttr X.K C f) (i : Nat) (hi : ns.findIdx? (fun n => f == n) = some i) (hp : ps[i]? = some P) (hb : attributeBase e f X.env (eval e X.env) = eval e X.env := by rfl) : EE X Γ Δ (.Attribute e f pos) P := fun W B H σ S s Q q =>
  wpE_of (pe_fld pe_wp hb) (h W B H σ S s _ fun v B1 H1 e1 h1 => by
    have ev : v = .ref l := h1
    subst ev
    obtain ⟨_, ob, g1, dx, xs, rfl, g2⟩ := (S.ext e1).at hk
    obtain ⟨u, g3, g4⟩ := g2.get hp
    exact ⟨l, C, dx, _, u, rfl, g1, hc, hn, zip_look hi g3, q u B1 H1 e1 g4⟩)
/-- self.f = e, new or there -/
theorem go_fldN (n : Nat) {l : Addr} (hv : EE X Γ Δ e P) (ho : EE X Γ Δ o (Ref l)) (hk : Δ[n]? = some (l, MI C ns ps)) (hc : Cls X.K C) (hn : NoAttr X.K C f) (hi : ns.findIdx? (fun n => f == n) = none) (hl : ns.length = ps.length) (hz : ns.length < 1000)
    (h : Go X ms Γ (Δ.set n (l, MI C (ns ++ [f]) (ps ++ [P]))) rest K) (hs : swapsWith e (some (.Attribute o f pos')) pos.line X.env = pure false := by rfl) : Go X ms Γ Δ (.Assign [.Attribute o f pos'] e pos :: rest) K := fun W Wi B H σ D hm tk S s ok =>
  wpSs_of (pss_cons (ps_fld pe_wp pe_wp hs) pss_wp) (hv W B H σ S s _ fun v B1 H1 e1 g1 => ho W B1 H1 σ (S.ext e1) (s.mono e1.bb) _ fun w B2 H2 e2 g2 => by
    have S2 := (S.ext e1).ext e2
    obtain ⟨_, ob, k1, dx, xs, rfl, k2⟩ := S2.at hk
    have ew : w = .ref l := g2
    subst ew
    refine ⟨l, C, dx, _, rfl, k1, hc, hn, by rw [List.length_zip]; omega, ?_⟩
    rw [zip_new (by rw [hl]; exact k2.len) hi]
    exact h W Wi B2 _ σ D hm tk (S2.put hk ⟨dx, _, rfl, All.app (qs := [P]) (us := [v]) ⟨P.mono e2.bb g1, trivial⟩ k2⟩) ((s.mono e1.bb).mono e2.bb) ok)
theorem go_fldM {Ke : Pr → Del → Prop} {Kx : Value → Del → Prop} (n : Nat) {l : Addr} (hv : EM X ms Γ Δ e Ke Kx) (hxx : ∀ c Δ', Kx c Δ' → K.ex c Γ Δ') (ho : ∀ P Δ', Ke P Δ' → EE X Γ Δ' o (Ref l)) (hk : ∀ P Δ', Ke P Δ' → Δ'[n]? = some (l, MI C ns ps)) (hc : Cls X.K C) (hn : NoAttr X.K C f) (hi : ns.findIdx? (fun n => f == n) = none) (hl : ns.length = ps.length) (hz : ns.length < 1000)
    (h : ∀ P Δ', Ke P Δ' → Go X ms Γ (Δ'.set n (l, MI C (ns ++ [f]) (ps ++ [P]))) rest K) (hs : swapsWith e (some (.Attribute o f pos')) pos.line X.env = pure false := by rfl) : Go X ms Γ Δ (.Assign [.Attribute o f pos'] e pos :: rest) K := fun W Wi B H σ D hm tk S s ok =>
  wpSs_of (pss_cons (ps_fld pe_wp pe_wp hs) pss_wp) (hv W Wi B H σ hm tk S s (fun c Δ' B' H' kx S' e' => ok.ex _ _ _ _ _ _ (hxx c Δ' kx) S' (s.mono e')) _ fun P Δ' v B1 H1 kp S1 e1 g1 => ho P Δ' kp W B1 H1 σ S1 (s.mono e1) _ fun w B2 H2 e2 g2 => by
    have S2 := S1.ext e2
    obtain ⟨_, ob, k1, dx, xs, rfl, k2⟩ := S2.at (hk P Δ' kp)
    have ew : w = .ref l := g2
    subst ew
    refine ⟨l, C, dx, _, rfl, k1, hc, hn, by rw [List.length_zip]; omega, ?_⟩
    rw [zip_new (by rw [hl]; exact k2.len) hi]
    exact h P Δ' kp W Wi B2 _ σ D hm tk (S2.put (hk P Δ' kp) ⟨dx, _, rfl, All.app (qs := [P]) (us := [v]) ⟨P.mono e2.bb g1, trivial⟩ k2⟩) ((s.mono e1).mono e2.bb) ok)
theorem go_fldS (n i : Nat) {l : Addr} (hv : EE X Γ Δ e P) (ho : EE X Γ Δ o (Ref l)) (hk : Δ[n]? = some (l, MI C ns ps)) (hc : Cls X.K C) (hn : NoAttr X.K C f) (hi : ns.findIdx? (fun n => f == n) = some i) (hl : ns.length = ps.length) (hz : ns.length < 1000)
    (h : Go X ms Γ (Δ.set n (l, MI C ns (ps.set i P))) rest K) (hs : swapsWith e (some (.Attribute o f pos')) pos.line X.env = pure false := by rfl) : Go X ms Γ Δ (.Assign [.Attribute o f pos'] e pos :: rest) K := fun W Wi B H σ D hm tk S s ok =>
  wpSs_of (pss_cons (ps_fld pe_wp pe_wp hs) pss_wp) (hv W B H σ S s _ fun v B1 H1 e1 g1 => ho W B1 H1 σ (S.ext e1) (s.mono e1.bb) _ fun w B2 H2 e2 g2 => by
    have S2 := (S.ext e1).ext e2
    obtain ⟨_, ob, k1, dx, xs, rfl, k2⟩ := S2.at hk
    have ew : w = .ref l := g2
    subst ew
    refine ⟨l, C, dx, _, rfl, k1, hc, hn, by rw [List.length_zip]; omega, ?_⟩
    rw [zip_put (by rw [hl]; exact k2.len) hi]
    exact h W Wi B2 _ σ D hm tk (S2.put hk ⟨dx, _, rfl, k2.set (P.mono e2.bb g1) i⟩) ((s.mono e1.bb).mono e2.bb) ok)
/-! ### methods -/
abbrev mcall (X : Cx) (o : Expr) (m : Str) (apos pos : Pos) (es : List Expr) (pl : Sem Bool) : Sem Value := do let ov ← eval o X.env; standAt apos.atName; let (f, first) ← holding [ov] (getMethod ov m pl); callWith pos f first (backTo pos (starEach es X.env)) (backToKw pos (keywordEach [] X.env))
/-- who receives: an instance of C, here or among the entries, without an attribute of the method's name -/
def Rcv (Δ : Del) (C : Addr) (m : Str) (P : Pr) : Prop := ∀ W B H v, Stb W Δ B H → P.p W.H B v → ∃ a dx fs, v = .ref a ∧ H a = some (.ins C dx fs) ∧ fs.lookup m = none
theorem rcv_I (h : ns.findIdx? (fun n => m == n) = none) : Rcv Δ C m (Iv C ns ps) := fun W B H v S ⟨a, dx, xs, h1, h2, _⟩ => ⟨a, dx, _, h1, S.ex _ _ h2, zip_miss h⟩
theorem rcv_M (n : Nat) {l : Addr} (hk : Δ[n]? = some (l, MI C ns ps)) (h : ns.findIdx? (fun n => m == n) = none) : Rcv Δ C m (Ref l) := fun W B H v S hv => by
  obtain ⟨_, ob, k1, dx, xs, rfl, k2⟩ := S.at hk
  exact ⟨l, dx, _, hv, k1, zip_miss h⟩
/-- o.m(e, ..), what is raised wished for at the slots -/
theorem pe_methS {E : L2.St → XK} {CX : CXT} {g : Addr} {fd : FuncData} {pn : List Str} {sp : Sp} {ds : List Value} {ta : TE} {t : TA} {pl : Sem Bool} (he : PE X o ta) (c : Cls X.K C) (hm : Meth X.K C m g) (F : FnOk X.prog X.w X.K X.mg X.base CX k g fd pn sp) (hr : Room k X.A) (hb : Binds X.K fd pn ds) (hd : Vals dvs ds)
    (hx : ∀ σ, PassesAt CX X σ (E σ)) (ha : PA X (e :: es) t) (hst : starEach (e :: es) X.env = (false, eval e X.env) :: starEach es X.env) (hpl : (backTo pos (starEach es X.env)).any (·.1) = false)
    (ht : eval (.Call (.Attribute o m apos) (e :: es) [] pos) X.env = mcall X o m apos pos (e :: es) pl) :
    PE X (.Call (.Attribute o m apos) (e :: es) [] pos) (fun σ H Q => ta σ H fun x H1 => ∃ a dx fs, x = .ref a ∧ H1 a = some (.ins C dx fs) ∧ fs.lookup m = none ∧ t σ H1 fun vs H2 => sp (x :: vs ++ dvs) H2 Q (E σ)) := by
  refine ⟨fun pins s σ H Q I h => PySem.W.methodCall_KW (pl := pl) (thn (he.run pins s σ H _ I h) fun u s1 ⟨x, H1, I1, rx, a, dx, fs, ex, ea, l, q⟩ => ?_) ht⟩
  subst ex
  have eu : u = Value.ref a := rx
  subst eu
  refine getmeth_ok I1 ea c hm l (PySem.W.callWith_K (first := [.ref a]) (h₀ := X.base) I.ok.mod.kin hm.kp (thn (ha.run pos pins s1 σ H1 _ I1 q) fun us s2 ⟨vs, H2, I2, r, q2⟩ => ⟨I2.kIn, ?_⟩) hst hpl)
  exact run_fnSD (us := .ref a :: us) (vs := .ref a :: vs) F hr hb hd (hx σ) I2 (.cons rfl r) q2
theorem pe_methS0 {E : L2.St → XK} {CX : CXT} {g : Addr} {fd : FuncData} {pn : List Str} {sp : Sp} {ds : List Value} {ta : TE} {pl : Sem Bool} (he : PE X o ta) (c : Cls X.K C) (hm : Meth X.K C m g) (F : FnOk X.prog X.w X.K X.mg X.base CX k g fd pn sp) (hr : Room k X.A) (hb : Binds X.K fd pn ds) (hd : Vals dvs ds)
    (hx : ∀ σ, PassesAt CX X σ (E σ)) (ht : eval (.Call (.Attribute o m apos) [] [] pos) X.env = mcall X o m apos pos [] pl) :
    PE X (.Call (.Attribute o m apos) [] [] pos) (fun σ H Q => ta σ H fun x H1 => ∃ a dx fs, x = .ref a ∧ H1 a = some (.ins C dx fs) ∧ fs.lookup m = none ∧ sp (x :: dvs) H1 Q (E σ)) := by
  refine ⟨fun pins s σ H Q I h => PySem.W.methodCall_KW (pl := pl) (thn (he.run pins s σ H _ I h) fun u s1 ⟨x, H1, I1, rx, a, dx, fs, ex, ea, l, q⟩ => ?_) ht⟩
  subst ex
  have eu : u = Value.ref a := rx
  subst eu
  exact getmeth_ok I1 ea c hm l (PySem.W.callWith_K0 (first := [.ref a]) I1.kIn hm.kp (run_fnSD (us := [.ref a]) (vs := [.ref a]) F hr hb hd (hx σ) I1 (.cons rfl .nil) q))
theorem cj_methE {E : L2.St → XK} {pl : Sem Bool} (hE : ∀ σ, PassesAt (L2N.CX X.prog X.w) X σ (E σ)) (F : Mtc X.prog X.w X.K X.mg X.base C m Cs k dvs) (hr : Room j X.A) (hk : k ≤ j) (ho : EE X Γ Δ o P) (hrc : Rcv Δ C m P) (ha : EA X Γ Δ (e :: es) Ps) (hd : ∀ h B, All h B dps dvs)
    (hst : starEach (e :: es) X.env = (false, eval e X.env) :: starEach es X.env) (hpl : (backTo pos (starEach es X.env)).any (·.1) = false)
    (ht : eval (.Call (.Attribute o m apos) (e :: es) [] pos) X.env = mcall X o m apos pos (e :: es) pl) : CJ X Γ Δ (.Call (.Attribute o m apos) (e :: es) [] pos) Cs E (P :: Ps ++ dps) := fun W B H σ S s Q h => by
  obtain ⟨cl, f, fd, pn, ds, F, hm, b, dd⟩ := F
  refine wpE_of (pe_methS (E := E) pe_wp cl hm F (hr.mono hk) b dd hE pa_wp hst hpl ht) (ho W B H σ S s _ fun v B1 H1 e1 h1 => ?_)
  obtain ⟨a, dx, fs, rfl, g1, g2⟩ := hrc W B1 H1 v (S.ext e1) h1
  refine ⟨a, dx, fs, rfl, g1, g2, ha W B1 H1 σ (S.ext e1) (s.mono e1.bb) _ fun vs B2 H2 e2 h2 => ?_⟩
  exact h _ B2 H2 (e1.trans e2) (All.app (ps := P :: Ps) (vs := .ref a :: vs) (hd _ _) ⟨P.mono e2.bb h1, h2⟩)
theorem cj_methE0 {E : L2.St → XK} {pl : Sem Bool} (hE : ∀ σ, PassesAt (L2N.CX X.prog X.w) X σ (E σ)) (F : Mtc X.prog X.w X.K X.mg X.base C m Cs k dvs) (hr : Room j X.A) (hk : k ≤ j) (ho : EE X Γ Δ o P) (hrc : Rcv Δ C m P) (hd : ∀ h B, All h B dps dvs)
    (ht : eval (.Call (.Attribute o m apos) [] [] pos) X.env = mcall X o m apos pos [] pl) : CJ X Γ Δ (.Call (.Attribute o m apos) [] [] pos) Cs E (P :: dps) := fun W B H σ S s Q h => by
  obtain ⟨cl, f, fd, pn, ds, F, hm, b, dd⟩ := F
  refine wpE_of (pe_methS0 (E := E) pe_wp cl hm F (hr.mono hk) b dd hE ht) (ho W B H σ S s _ fun v B1 H1 e1 h1 => ?_)
  obtain ⟨a, dx, fs, rfl, g1, g2⟩ := hrc W B1 H1 v (S.ext e1) h1
  exact ⟨a, dx, fs, rfl, g1, g2, h _ B1 H1 e1 ⟨h1, hd _ _⟩⟩
theorem passL0 : ∀ σ, PassesAt (L2N.CX X.prog X.w) X σ E0 := fun σ pins H s e s' I c => passN pins σ H s e s' I c
theorem cj_meth {pl : Sem Bool} (F : Mtc X.prog X.w X.K X.mg X.base C m Cs k []) (hr : Room j X.A) (hk : k ≤ j) (ho : EE X Γ Δ o P) (hrc : Rcv Δ C m P) (ha : EA X Γ Δ (e :: es) Ps)
    (hst : starEach (e :: es) X.env = (false, eval e X.env) :: starEach es X.env := by rfl) (hpl : (backTo pos (starEach es X.env)).any (·.1) = false := by rfl) (ht : eval (.Call (.Attribute o m apos) (e :: es) [] pos) X.env = mcall X o m apos pos (e :: es) pl := by rfl) : CJ X Γ Δ (.Call (.Attribute o m apos) (e :: es) [] pos) Cs (fun _ => E0) (P :: Ps) := List.append_nil (P :: Ps) ▸ cj_methE (dps := []) passL0 F hr hk ho hrc ha (fun _ _ => trivial) hst hpl ht
theorem cj_methX {pl : Sem Bool} (F : Mtc X.prog X.w X.K X.mg X.base C m Cs k []) (hr : Room j X.A) (hk : k ≤ j) (ho : EE X Γ Δ o P) (hrc : Rcv Δ C m P) (ha : EA X Γ Δ (e :: es) Ps)
    (hst : starEach (e :: es) X.env = (false, eval e X.env) :: starEach es X.env := by rfl) (hpl : (backTo pos (starEach es X.env)).any (·.1) = false := by rfl) (ht : eval (.Call (.Attribute o m apos) (e :: es) [] pos) X.env = mcall X o m apos pos (e :: es) pl := by rfl) : ∀ Wi, L2N.Takes X Wi → CJ X Γ Δ (.Call (.Attribute o m apos) (e :: es) [] pos) Cs (WE Wi) (P :: Ps) := fun Wi tk => List.append_nil (P :: Ps) ▸ cj_methE (dps := []) (fun σ => L2N.passAt tk σ) F hr hk ho hrc ha (fun _ _ => trivial) hst hpl ht
theorem cj_meth0 {pl : Sem Bool} (F : Mtc X.prog X.w X.K X.mg X.base C m Cs k []) (hr : Room j X.A) (hk : k ≤ j) (ho : EE X Γ Δ o P) (hrc : Rcv Δ C m P) (ht : eval (.Call (.Attribute o m apos) [] [] pos) X.env = mcall X o m apos pos [] pl := by rfl) : CJ X Γ Δ (.Call (.Attribute o m apos) [] [] pos) Cs (fun _ => E0) [P] := cj_methE0 (dps := []) passL0 F hr hk ho hrc (fun _ _ => trivial) ht
theorem cj_methX0 {pl : Sem Bool} (F : Mtc X.prog X.w X.K X.mg X.base C m Cs k []) (hr : Room j X.A) (hk : k ≤ j) (ho : EE X Γ Δ o P) (hrc : Rcv Δ C m P) (ht : eval (.Call (.Attribute o m apos) [] [] pos) X.env = mcall X o m apos pos [] pl := by rfl) : ∀ Wi, L2N.Takes X Wi → CJ X Γ Δ (.Call (.Attribute o m apos) [] [] pos) Cs (WE Wi) [P] := fun Wi tk => cj_methE0 (dps := []) (fun σ => L2N.passAt tk σ) F hr hk ho hrc (fun _ _ => trivial) ht
theorem cj_methD {pl : Sem Bool} (F : Mtc X.prog X.w X.K X.mg X.base C m Cs k dvs) (hr : Room j X.A) (hk : k ≤ j) (ho : EE X Γ Δ o P) (hrc : Rcv Δ C m P) (ha : EA X Γ Δ (e :: es) Ps) (dps : List Pr) (hd : ∀ h B, All h B dps dvs)
    (hst : starEach (e :: es) X.env = (false, eval e X.env) :: starEach es X.env := by rfl) (hpl : (backTo pos (starEach es X.env)).any (·.1) = false := by rfl) (ht : eval (.Call (.Attribute o m apos) (e :: es) [] pos) X.env = mcall X o m apos pos (e :: es) pl := by rfl) : CJ X Γ Δ (.Call (.Attribute o m apos) (e :: es) [] pos) Cs (fun _ => E0) (P :: Ps ++ dps) := cj_methE passL0 F hr hk ho hrc ha hd hst hpl ht
theorem cj_methXD {pl : Sem Bool} (F : Mtc X.prog X.w X.K X.mg X.base C m Cs k dvs) (hr : Room j X.A) (hk : k ≤ j) (ho : EE X Γ Δ o P) (hrc : Rcv Δ C m P) (ha : EA X Γ Δ (e :: es) Ps) (dps : List Pr) (hd : ∀ h B, All h B dps dvs)
    (hst : starEach (e :: es) X.env = (false, eval e X.env) :: starEach es X.env := by rfl) (hpl : (backTo pos (starEach es X.env)).any (·.1) = false := by rfl) (ht : eval (.Call (.Attribute o m apos) (e :: es) [] pos) X.env = mcall X o m apos pos (e :: es) pl := by rfl) : ∀ Wi, L2N.Takes X Wi → CJ X Γ Δ (.Call (.Attribute o m apos) (e :: es) [] pos) Cs (WE Wi) (P :: Ps ++ dps) := fun Wi tk => cj_methE (fun σ => L2N.passAt tk σ) F hr hk ho hrc ha hd hst hpl ht
end
end Yb
set_option maxHeartbeats 1000000
namespace Yb
open PySem PySem.Spec PyProof.Rows L2
/-! ### dicts whose keys are pairs of ints (each is told True) -/
def enc (ks : List (Int × Int)) : List (List Key × V) := ks.map fun q => ([Sum.inl q.1, Sum.inl q.2], V.bl true)
theorem enc_key {x y i j : Int} : ([Sum.inl i, Sum.inl j] : List Key) = [Sum.inl x, Sum.inl y] ↔ (i, j) = (x, y) := by
  constructor
  · intro h
    injection h with h1 h2
    injection h2 with h2 _
    injection h1 with h1
    injection h2 with h2
    rw [h1, h2]
  · intro h
    injection h with h1 h2
    rw [h1, h2]
theorem enc_val (x y : Int) : ∀ ks : List (Int × Int), valV (enc ks) [Sum.inl x, Sum.inl y] = if (x, y) ∈ ks then some (V.bl true) else none
  | [] => rfl
  | (i, j) :: r => by
    by_cases h : (i, j) = (x, y)
    · rw [if_pos (by rw [h]; exact List.mem_cons_self)]
      exact valV_pos (p := ([Sum.inl i, Sum.inl j], V.bl true)) (enc_key.mpr h)
    · have e := valV_neg (p := (([Sum.inl i, Sum.inl j] : List Key), V.bl true)) (r := enc r) (k := [Sum.inl x, Sum.inl y]) (fun z => h (enc_key.mp z))
      show valV ((([Sum.inl i, Sum.inl j] : List Key), V.bl true) :: enc r) _ = _
      rw [e, enc_val x y r]
      by_cases g : (x, y) ∈ r
      · rw [if_pos g, if_pos (List.mem_cons_of_mem _ g)]
      · rw [if_neg g, if_neg (fun z => (List.mem_cons.mp z).elim (fun z => h z.symm) g)]
theorem enc_put {x y : Int} {ks : List (Int × Int)} (h : (x, y) ∉ ks) : putK (enc ks) [Sum.inl x, Sum.inl y] (V.bl true) = enc (ks ++ [(x, y)]) := by
  rw [putK_new _ (by rw [enc_val, if_neg h])]
  unfold enc
  rw [List.map_append]
  rfl
theorem enc_drop (x y : Int) (ks : List (Int × Int)) : dropK (enc ks) [Sum.inl x, Sum.inl y] = enc (ks.filter fun q => decide (q ≠ (x, y))) := by
  unfold dropK enc
  rw [List.filter_map]
  congr 1
  apply List.filter_congr
  intro q _
  obtain ⟨i, j⟩ := q
  show decide (([Sum.inl i, Sum.inl j] : List Key) ≠ [Sum.inl x, Sum.inl y]) = decide ((i, j) ≠ (x, y))
  exact decide_eq_decide.mpr (not_congr enc_key)
def DTv (ks : List (Int × Int)) : Pr := ⟨fun _ B v => ∃ a, v = .ref a ∧ B a = some (.dT (enc ks)), fun e ⟨a, h1, h2⟩ => ⟨a, h1, e _ _ h2⟩, fun _ q => q⟩
def MT (ks : List (Int × Int)) : Ob := ⟨fun _ _ o => o = .dT (enc ks), fun _ q => q, fun _ q => q⟩
theorem hi_DTv {ks : List (Int × Int)} : Hi (DTv ks) := fun _ _ _ _ q => q
theorem hi_MT {ks : List (Int × Int)} : HiO (MT ks) := fun _ _ _ _ q => q
theorem br_D {Δ : Del} (n : Nat) {a : Addr} {ks : List (Int × Int)} (h : Δ[n]? = some (a, MT ks)) : Br Δ (Ref a) (DTv ks) := ⟨fun B H Bp v _ hm e hb hv => by
  have ev : v = .ref a := hv
  subst ev
  have hmem := List.mem_of_getElem? h
  obtain ⟨o, h1, rfl⟩ := hm _ hmem
  exact ⟨a, rfl, (hb _ hmem).trans h1⟩⟩
theorem br_I {Δ : Del} {C : Addr} {ns : List Str} {ps qs : List Pr} (h : Brs Δ ps qs) : Br Δ (Iv C ns ps) (Iv C ns qs) := ⟨fun B H Bp v e hm e2 hb ⟨a, dx, xs, h1, h2, h3⟩ => ⟨a, dx, xs, h1, e2 _ _ h2, h.all e hm e2 hb h3⟩⟩
/-- taking out of such a dict -/
theorem pop1_meets {prog : Program} {w : World} {d b : Addr} {k : List Key} (hd : (d == sysModules) = false) : MeetsIn prog w (Builtin.«dict.pop» ⟨[.ref d, .ref b], []⟩) (fun A R s => ∃ xs, (tupleKind (mixKind prog w)).room A.in1 ∧ (tupleKind (mixKind prog w)).is s.heap k b ∧ s.heap.DictOfH (tupleKind (mixKind prog w)) d xs ∧ xs.length ≤ sizeLine ∧
    ∃ p, atKey xs k = some p ∧ ∀ h' tk, h'.DictOfH (tupleKind (mixKind prog w)) d (DT.dropH xs k) → Heap.SameBut d s.heap h' → R (.ok (.ret p.2)) { s with heap := h', toks := tk }) :=
  .of_wp fun A R s ⟨xs, hu, hkey, dm, hsz, p0, hp0, hsome⟩ => by
    obtain ⟨o, ds, ep, go, gc, gd, ge, gi, gn⟩ := id dm
    have kp0 : (keyPart (Value.ref b)).isSome = false := rfl
    unfold Builtin.«dict.pop»; refine wpAny_bind ?_; unfold Builtin.Dict.keyAndDefault
    refine wpAny_bind (wpAny_notOrdered_dict dm.typeIs ?_)
    show wpAny _ _ (pure (d, Value.ref b, (none : Option Value))) _ _ s
    refine wpAny_pure ?_
    simp only [kp0, Bool.false_eq_true, if_false]
    refine wpAny_bind (wpAny_dictEntries go gd (wpAny_bind (wpAny_pure ?_)))
    have hem : ds.isEmpty = false := by
      cases q : ds.isEmpty with
      | false => rfl
      | true =>
        have z : ds.size = 0 := by simpa using q
        have z2 : ds.size = xs.length := size_of_entries ge
        have h0 : xs = [] := List.length_eq_zero_iff.mp (by omega)
        rw [h0] at hp0
        cases hp0
    simp only [hem, Bool.false_eq_true, if_false]
    refine wpAny_bind (DT.takeH hu hkey dm hsz (fun hno => by rw [hp0] at hno; cases hno) fun p e hp hev h' hm' hs' => ?_)
    rw [hp0] at hp
    cases hp
    simp only [Option.isNone_some, Bool.false_eq_true, if_false]
    exact wpAny_bind (wpAny_letGo (wpAny_pure ⟨e.val, rfl, hev ▸ hsome h' _ hm' hs'⟩))
def rPop1 : V → List V → Hp → VK → Prop := fun x xs H Q => ∃ (a b : Addr) (ks : List (Int × Int)) (i j : Int), x = .ref a ∧ xs = [.ref b] ∧ H a = some (.dT (enc ks)) ∧ H b = some (.tup [.int i, .int j]) ∧ (i, j) ∈ ks ∧ Q (.bl true) (upd H a (.dT (enc (ks.filter fun q => decide (q ≠ (i, j))))))
theorem mt_pop1 {X : Cx} (hu : X.A.units + 1 < cLine) : MtR X "dict.pop" rPop1 := by
  intro pins s σ H x xs v us Q I rx rxs h
  obtain ⟨a, b, ks, i, j, rfl, rfl, ha, hb, hin, q⟩ := h
  cases rx
  obtain ⟨u1, rfl, r1⟩ := vals1 rxs
  cases r1
  obtain ⟨z, hd, xs', rel, dd⟩ := dt_of I.hok ha
  have hz : xs'.length ≤ sizeLine := by rw [← Paired.length rel]; exact z
  have hb' : H b = some (.tup (([Sum.inl i, Sum.inl j] : List Key).map kV)) := hb
  have hv : valV (enc ks) [Sum.inl i, Sum.inl j] = some (.bl true) := by rw [enc_val, if_pos hin]
  have r := rel.val [Sum.inl i, Sum.inl j]
  rw [hv] at r
  obtain ⟨w0, hw, rw0⟩ := RelO.some_of r
  obtain ⟨p, hp, rfl⟩ := Option.map_eq_some_iff.mp hw
  refine call_meetsIn PySem.F.slot_dict_pop dd.typeIs PySem.F.entry_dict_pop (PySem.F.args_dict_pop_2 _ _) (pop1_meets (k := [Sum.inl i, Sum.inl j]) hd) ⟨xs', tupleKind_room_in1 hu, key_of I.hok hb', dd, hz, p, hp, fun h' tk dd' hs => ?_⟩
  obtain ⟨o, es, ep, hq, h2, h3, h4, _, h5⟩ := dd'
  have I2 : Inv X pins σ (upd H a (.dT (dropK (enc ks) [Sum.inl i, Sum.inl j]))) { s with heap := h', toks := tk } :=
    d_write I (by rw [ha]; exact True.intro) hs ⟨o, hq⟩ ⟨Nat.le_trans (dropK_le _ _) z, hd, _, (L2.DX.KT_drop _ rel).keeps (fun c ys ec => (by rw [upd_ne (ne_of ec ha (fun z => nomatch z))]; exact ec)), o, es, ep, hq, h2, h3, h4, h5⟩
  rw [enc_drop] at I2
  exact ⟨.bl true, _, I2, rw0, q⟩
section
variable {X : Cx} {ms : List Addr} {Γ : Gam} {Δ : Del} {K : Kk} {rest : List Stmt} {e a b o : Expr} {es : List Expr} {P P' : Pr} {Ps ps dps : List Pr} {pos pos' apos p2 : Pos} {x f m : Str} {C : Addr} {ns : List Str} {k j : Nat} {Cs : Cn → Prop} {ks : List (Int × Int)} {i₁ j₁ : Int}
def ED (X : Cx) (Γ : Gam) (Δ : Del) (e : Expr) (ks : List (Int × Int)) : Prop := ∀ (W : Ws) (B H : Hp) (σ : L2.St), Stb W Δ B H → Sl Γ W.H B σ → ∀ Q : VK, (∀ a B2 H2, Ext B H B2 H2 → H2 a = some (.dT (enc ks)) → Q (.ref a) H2) → wpE X e σ H Q
theorem ed_V (h : EE X Γ Δ e (DTv ks)) : ED X Γ Δ e ks := fun W B H σ S s Q q => h W B H σ S s _ fun v B1 H1 e1 ⟨a, h1, h2⟩ => by
  subst h1
  exact q a B1 H1 e1 (e1.bh _ _ h2)
theorem ed_M (n : Nat) {l : Addr} (h : EE X Γ Δ e (Ref l)) (hk : Δ[n]? = some (l, MT ks)) : ED X Γ Δ e ks := fun W B H σ S s Q q => h W B H σ S s _ fun v B1 H1 e1 h1 => by
  have ev : v = .ref l := h1
  subst ev
  obtain ⟨_, ob, g1, rfl⟩ := (S.ext e1).at hk
  exact q l B1 H1 e1 g1
theorem key_tup {h B H : Hp} {x y : Int} {v : V} (e : Same B H) (hv : (T [I x, I y]).p h B v) : ∃ b, v = .ref b ∧ H b = some (.tup (([Sum.inl x, Sum.inl y] : List Key).map kV)) := by
  obtain ⟨a, xs, rfl, h1, h2⟩ := hv
  obtain ⟨u, w, rfl, g1, g2⟩ := h2.two
  have e1 : u = .int x := g1
  have e2 : w = .int y := g2
  subst e1 e2
  exact ⟨a, rfl, e _ _ h1⟩
theorem ee_inD {x y : Int} (hu : X.A.units + 1 < cLine) (ha : EE X Γ Δ a (T [I x, I y])) (hb : ED X Γ Δ b ks) (hm : behindInMarks .In b = false := by rfl) : EE X Γ Δ (.Compare a [.In] [b] pos) (Bo (decide ((x, y) ∈ ks))) := fun W B H σ S s Q q =>
  wpE_of (pe_cmp (pc_din hu pe_wp pe_wp) hm) (ha W B H σ S s _ fun v B1 H1 e1 h1 => hb W B1 H1 σ (S.ext e1) (s.mono e1.bb) _ fun l B2 H2 e2 h2 => by
    obtain ⟨t, rfl, g⟩ := key_tup e1.bh h1
    refine ⟨l, _, rfl, DGet.t h2 (e2.hh _ _ g), ?_⟩
    rw [enc_val]
    have ei : (if (x, y) ∈ ks then some (V.bl true) else none).isSome = decide ((x, y) ∈ ks) := by
      by_cases z : (x, y) ∈ ks
      · rw [if_pos z, decide_eq_true z]; rfl
      · rw [if_neg z, decide_eq_false z]; rfl
    rw [ei]
    exact q _ B2 H2 (e1.trans e2) rfl)
theorem et_inD {x y : Int} (hu : X.A.units + 1 < cLine) (ha : EE X Γ Δ a (T [I x, I y])) (hb : ED X Γ Δ b ks) (hm : behindInMarks .In b = false := by rfl) : ET X Γ Δ (.Compare a [.In] [b] pos) (decide ((x, y) ∈ ks)) := fun W B H σ S s Q q =>
  wpT_of (pt_cmp (pc_din hu pe_wp pe_wp) hm) (ha W B H σ S s _ fun v B1 H1 e1 h1 => hb W B1 H1 σ (S.ext e1) (s.mono e1.bb) _ fun l B2 H2 e2 h2 => by
    obtain ⟨t, rfl, g⟩ := key_tup e1.bh h1
    refine ⟨l, _, rfl, DGet.t h2 (e2.hh _ _ g), ?_⟩
    rw [enc_val]
    have ei : (if (x, y) ∈ ks then some (V.bl true) else none).isSome = decide ((x, y) ∈ ks) := by
      by_cases z : (x, y) ∈ ks
      · rw [if_pos z, decide_eq_true z]; rfl
      · rw [if_neg z, decide_eq_false z]; rfl
    rw [ei]
    exact ⟨_, rfl, q B2 H2 (e1.trans e2)⟩)
theorem et_ninD {x y : Int} (hu : X.A.units + 1 < cLine) (ha : EE X Γ Δ a (T [I x, I y])) (hb : ED X Γ Δ b ks) (hm : behindInMarks .NotIn b = false := by rfl) : ET X Γ Δ (.Compare a [.NotIn] [b] pos) (!decide ((x, y) ∈ ks)) := fun W B H σ S s Q q =>
  wpT_of (pt_cmp (pc_dnotin hu pe_wp pe_wp) hm) (ha W B H σ S s _ fun v B1 H1 e1 h1 => hb W B1 H1 σ (S.ext e1) (s.mono e1.bb) _ fun l B2 H2 e2 h2 => by
    obtain ⟨t, rfl, g⟩ := key_tup e1.bh h1
    refine ⟨l, _, rfl, DGet.t h2 (e2.hh _ _ g), ?_⟩
    rw [enc_val]
    have ei : (if (x, y) ∈ ks then some (V.bl true) else none).isSome = decide ((x, y) ∈ ks) := by
      by_cases z : (x, y) ∈ ks
      · rw [if_pos z, decide_eq_true z]; rfl
      · rw [if_neg z, decide_eq_false z]; rfl
    rw [ei]
    exact ⟨_, rfl, q B2 H2 (e1.trans e2)⟩)
/-- {} -/
theorem em_dict {Kx : Value → Del → Prop} : EM X ms Γ Δ (.Dict [] [] pos) (fun P' Δ' => ∃ l, l ∉ ms ∧ P' = Ref l ∧ Δ' = Δ ++ [(l, MT [])]) Kx := fun W Wi B H σ hm tk S s hx Q q =>
  wpE_of pe_dnewT fun l hl => by
    obtain ⟨S2, h5⟩ := S.new (ob := MT []) (o := .dT []) hl rfl
    exact q (Ref l) _ _ B _ ⟨l, hm ▸ h5, rfl, rfl⟩ S2 (Same.refl _) rfl
/-- d[(x, y)] = True -/
theorem go_dput (n : Nat) {l : Addr} {x y : Int} (hu : X.A.units + 1 < cLine) (hv : EE X Γ Δ e (Bo true)) (ho : EE X Γ Δ o (Ref l)) (hi : EE X Γ Δ b (T [I x, I y])) (hk : Δ[n]? = some (l, MT ks)) (hnew : (x, y) ∉ ks) (hz : ks.length < 100000)
    (h : Go X ms Γ (Δ.set n (l, MT (ks ++ [(x, y)]))) rest K) (hs : swapsWith e (some (.Subscript o b p2)) pos.line X.env = pure false := by rfl) : Go X ms Γ Δ (.Assign [.Subscript o b p2] e pos :: rest) K := fun W Wi B H σ D hm tk S s ok =>
  wpSs_of (pss_cons (ps_dput hu pe_wp pe_wp pe_wp hs) pss_wp) (hv W B H σ S s _ fun v B1 H1 e1 g1 => ho W B1 H1 σ (S.ext e1) (s.mono e1.bb) _ fun w B2 H2 e2 g2 => hi W B2 H2 σ ((S.ext e1).ext e2) ((s.mono e1.bb).mono e2.bb) _ fun u B3 H3 e3 g3 => by
    have S3 := ((S.ext e1).ext e2).ext e3
    obtain ⟨_, ob, k1, rfl⟩ := S3.at hk
    have ew : w = .ref l := g2
    have ev : v = .bl true := g1
    subst ew ev
    obtain ⟨t, rfl, g⟩ := key_tup e3.bh g3
    refine ⟨l, _, rfl, DPut.t k1 g (by unfold enc; rw [List.length_map]; exact sz_lt hz), ?_⟩
    rw [enc_put hnew]
    exact h W Wi B3 _ σ D hm tk (S3.put hk rfl) (((s.mono e1.bb).mono e2.bb).mono e3.bb) ok)
/-- d.pop((x, y)), there -/
theorem go_dpop (n : Nat) {l : Addr} {x y : Int} (hu : X.A.units + 1 < cLine) (ho : EE X Γ Δ o (Ref l)) (he : EE X Γ Δ e (T [I x, I y])) (hk : Δ[n]? = some (l, MT ks)) (hin : (x, y) ∈ ks) (h : Go X ms Γ (Δ.set n (l, MT (ks.filter fun q => decide (q ≠ (x, y))))) rest K)
    (hbase : attributeBase o "pop" X.env (eval o X.env) = eval o X.env := by rfl)
    (hfew : ((backTo p2 (starEach [e] X.env)).all (fun x => !x.1) && (backToKw p2 (keywordEach [] X.env)).all (fun x => x.1.isSome) && decide (([e] : List Expr).length + ([] : List Keyword).length + (if ([] : List Keyword).isEmpty then 0 else 1) < 30)) = true := by rfl)
    (hline : (apos.endLine == p2.line) = true := by rfl) (hs1 : starEach [e] X.env = (false, eval e X.env) :: starEach [] X.env := by rfl) (hplain : (backTo p2 (starEach [] X.env)).any (·.1) = false := by rfl)
    (hs : swapsWith (.Call (.Attribute o "pop" apos) [e] [] p2) none pos.line X.env = pure false := by rfl) : Go X ms Γ Δ (.Expr (.Call (.Attribute o "pop" apos) [e] [] p2) pos :: rest) K := fun W Wi B H σ D hm tk S s ok =>
  wpSs_of (pss_cons (ps_expr (pe_bm PySem.F.plainAttrs_dict PySem.F.slot_dict_pop PySem.F.type_dict_pop (mt_pop1 hu) pe_wp (pa_cons pe_wp pa_nil hs1) hbase hfew hline hs1 hplain) hs) pss_wp) (ho W B H σ S s _ fun w B1 H1 e1 g1 => by
    have S1 := S.ext e1
    obtain ⟨_, ob, k1, rfl⟩ := S1.at hk
    have ew : w = .ref l := g1
    subst ew
    refine ⟨.inr (.inr (.inl ⟨rfl, .inr ⟨_, k1⟩⟩)), he W B1 H1 σ S1 (s.mono e1.bb) _ fun v B2 H2 e2 g2 => ?_⟩
    have S2 := S1.ext e2
    obtain ⟨t, rfl, g⟩ := key_tup e2.bh g2
    refine ⟨l, t, ks, x, y, rfl, rfl, e2.hh _ _ k1, g, hin, ?_⟩
    exact h W Wi B2 _ σ D hm tk (S2.put hk rfl) ((s.mono e1.bb).mono e2.bb) ok)
/-! ### a new instance -/
structure Mkc (P : Program) (w : World) (K : PySem.W.Frag) (mg : Str → Option Value) (base : Heap) (x : Str) (Cl : Addr) (C : Cn → Prop) (k : Nat) : Prop where
  ex : ∃ f fd ps, FnOk P w K mg base (L2N.CX P w) k f fd ps (spC C) ∧ Mk K Cl f ∧ mg x = some (.ref Cl) ∧ Binds K fd ps []
theorem em_make {q : Pos} {Kx : Value → Del → Prop} (F : Mkc X.prog X.w X.K X.mg X.base x C Cs k) (hr : Room (j + 1) X.A) (hk : k ≤ j) (hg : Gl X x) (ha : EA X Γ Δ (e :: es) Ps) (c : Addr → Cn) (hc : ∀ l, Cs (c l)) (G : Del → List Pr → Prop) (hp : ∀ l, (c l).ps = Ref l :: Ps := by intro _; rfl) (hΔ : ∀ l, (c l).Δ = [(l, MI C [] [])] := by intro _; rfl)
    (ho : ∀ l P Δ', (c l).out P Δ' → P = No ∧ ∃ Δn qs, Δ' = (l, MI C ns qs) :: Δn ∧ G Δn qs := by exact fun _ _ _ q => q) (hx : ∀ l v Δ', ¬ (c l).exc v Δ' := by exact fun _ _ _ q => q) (hdb : (x == ("__debug__" : Str)) = false := by decide)
    (he : starEach (e :: es) X.env = (false, eval e X.env) :: starEach es X.env := by rfl) (hpl : (backTo pos (starEach es X.env)).any (·.1) = false := by rfl) :
    EM X ms Γ Δ (.Call (.Name x q) (e :: es) [] pos) (fun P Δ' => ∃ Δn qs, G Δn qs ∧ P = N (Iv C ns qs) ∧ Δ' = Δn ++ Δ ∧ ∀ z ∈ Δn, z.1 ∉ ms) Kx := fun W Wi B H σ hm tk S s hx0 Q qq => by
  obtain ⟨f, fd, pn, F, M, mg, b⟩ := F.ex
  refine wpE_of (pe_make (E := E0) M F (Room.mono hr (Nat.succ_le_succ hk)) hg mg b .nil passN pa_wp hdb he hpl) (ha W B H σ S s _ fun vs B1 H1 e1 h1 => ?_)
  intro l dx hl hdx hne
  have S1 := S.ext e1
  have S2 := S1.ext (Ext.newH (o := .own l) S1.ex hdx)
  have hl2 : upd H1 dx (HO.own l) l = none := by rw [upd_ne (Ne.symm hne)]; exact hl
  obtain ⟨S3, hnm⟩ := S2.new (ob := MI C [] []) (o := .ins C dx []) hl2 ⟨dx, [], rfl, trivial⟩
  have S4 := S3.perm (List.perm_append_comm (l₁ := Δ) (l₂ := [(l, MI C [] [])]))
  have hb1 : B1 l = none := e1.bh.free hl
  rw [List.append_nil]
  refine ⟨c l, B1, hc l, S4.ex, ?_, ?_, ?_, fun P' Δ' B' H' v o S' hv => ?_, fun x Δ' B' H' o _ => hx l x Δ' o⟩
  · rw [hp l]
    exact ⟨rfl, all_h0 h1⟩
  · rw [hΔ l]
    intro z hz
    have ez : z = (l, MI C [] []) := by simpa using hz
    subst ez
    exact ⟨hb1, _, upd_same, dx, [], rfl, trivial⟩
  · rw [hΔ l]
    simp
  · rw [hΔ l] at S'
    obtain ⟨rfl, Δn, qs, rfl, g⟩ := ho l P' Δ' o
    have S5 := S4.call S'
    obtain ⟨o, k1, k2, ⟨dx', xs, rfl, k4⟩, S6, sm⟩ := S5.frz (k := 0) (a := l) (ob := MI C ns qs) rfl hnm
    refine ⟨hv, qq (N (Iv C ns qs)) (Δn ++ Δ) (.ref l) _ H' ⟨Δn, qs, g, rfl, rfl, fun z hz hzm => ?_⟩ S6 ((e1.bb.trans S'.bb).trans sm) ⟨⟨l, dx', xs, rfl, upd_same, k4.mono sm⟩, fun a z => by injection z with z; exact z ▸ k2⟩⟩
    have hzm' : z.1 ∈ W.ms := hm ▸ hzm
    rcases S'.ow z (List.mem_cons_of_mem _ hz) with w1 | w1
    · have e2 : z.1 = l := by simpa using w1
      exact hnm (e2 ▸ hzm')
    · have w1 : upd (upd H1 dx (HO.own l)) l (HO.ins C dx []) z.1 = none := w1
      have hne2 : z.1 ≠ l := fun q => by rw [q, upd_same] at w1; cases w1
      rw [upd_ne hne2] at w1
      have hne3 : z.1 ≠ dx := fun q => by rw [q, upd_same] at w1; cases w1
      rw [upd_ne hne3] at w1
      exact S1.dm _ (S1.msd _ hzm') w1
end
end Yb
set_option maxHeartbeats 1000000
namespace Yb
open PySem PySem.Spec PyProof.Rows L2
/-! ### raising -/
/-- an own class of errors, over ValueError -/
structure ExcT (K : PySem.W.Frag) (mg : Str → Option Value) (x : Str) (C : Addr) : Prop where
  gC : mg x = some (.ref C)
  kC : PySem.W.keepIn K (.ref C) = true
  xC : PySem.W.excIn K C [.type "ValueError", .type "Exception", .type "BaseException", .type "object"] "ValueError.__new__" = true
  bC : PySem.W.subIn K (.ref C) (.type "BaseException") = some true
  tC : PySem.W.typeIn K (.ref C) = some (.type "type")
section
variable {X : Cx} {ms : List Addr} {Γ : Gam} {Δ : Del} {K : Kk} {rest : List Stmt} {e a b o : Expr} {es : List Expr} {P P' : Pr} {Ps ps qs : List Pr} {pos pos' apos p2 : Pos} {x f m : Str} {k : Bool} {j : Nat} {C : Addr} {Cs : Cn → Prop}
theorem go_raise {q q2 q3 q4 : Pos} (E : ExcT X.K X.mg x C) (h : K.ex (.ref C) Γ Δ) (hg : Gl X x := by rfl) (hc : X.calm = true := by rfl) (hdb : (x == ("__debug__" : Str)) = false := by decide) : Go X ms Γ Δ (.Raise (some (.Call (.Name x q) [.Constant (.str m) j q2] [] q3)) none q4 :: rest) K := fun W Wi B H σ D hm tk S s ok =>
  wpSs_of (pss_cons (L2N.ps_raise hc tk (L2N.pmk_own PySem.F.excBase_ValueError E.xC E.gC E.kC (raises_own E.bC E.tC) hg hdb)) pss_wp) (ok.ex _ _ _ B H σ h S s)
/-! ### a call that reads what may change, and may raise -/
theorem em_callB (j : ∀ Wi, L2N.Takes X Wi → CJ X Γ Δ e Cs (WE Wi) Ps) (c : Cn) (hc : Cs c) (hp : Brs Δ Ps c.ps) (hsb : ∀ P Δ', c.out P Δ' → Sb P) (hΔ : c.Δ = [] := by rfl) : EM X ms Γ Δ e (fun P Δ' => (∃ D, c.out P D) ∧ Δ' = Δ) (fun v Δ' => (∃ D, c.exc v D) ∧ Δ' = Δ) := fun W Wi B H σ hm tk S s hx Q q =>
  j Wi tk W B H σ S s Q fun vs B1 H1 e1 h1 => by
    have S1 := S.ext e1
    let bs := Δ.map (·.1)
    obtain ⟨Bp, g1, g2, g3, g4⟩ := borrow S1
    have inn : ∀ a, a ∈ bs → B1 a = none ∧ H1 a ≠ none := fun a h => by
      obtain ⟨x, hx, rfl⟩ := List.mem_map.mp h
      obtain ⟨h1, o, h2, _⟩ := S1.mu x hx
      exact ⟨h1, by rw [h2]; intro z; cases z⟩
    have hm' : ∀ e ∈ Δ, ∃ o, H1 e.1 = some o ∧ e.2.p h0 B1 o := fun x hx => by
      obtain ⟨_, o, h2, h3⟩ := S1.mu x hx
      exact ⟨o, h2, x.2.anti (fun a z => absurd rfl z) h3⟩
    -- back without what was lent
    have back : ∀ {B' H' : Hp}, Ext Bp H1 B' H' → ∃ B2 : Hp, Ext B1 H1 B2 H' ∧ ∀ a, H1 a = none → B2 a = B' a := fun {B' H'} e2 => by
      refine ⟨fun a => if a ∈ bs then none else B' a, ⟨fun a o h => ?_, e2.hh, fun a o h => ?_, fun a h n => ?_⟩, fun a h => if_neg fun z => (inn a z).2 h⟩
      · have ha : a ∉ bs := fun z => by rw [(inn a z).1] at h; cases h
        show (if a ∈ bs then none else B' a) = some o
        rw [if_neg ha]
        exact e2.bb a o (g1 a o h)
      · have h : (if a ∈ bs then none else B' a) = some o := h
        by_cases ha : a ∈ bs
        · rw [if_pos ha] at h; cases h
        · rw [if_neg ha] at h; exact e2.bh a o h
      · show (if a ∈ bs then none else B' a) = none
        by_cases ha : a ∈ bs
        · exact if_pos ha
        · rw [if_neg ha]
          exact e2.fr a ((g4 a ha).trans h) n
    refine ⟨c, Bp, hc, g2, Brs.all e1.bh hm' g1 g3 hp (all_h0 h1), by rw [hΔ]; exact fun _ z => (List.not_mem_nil z).elim, by rw [hΔ]; exact List.nodup_nil, fun P' Δ' B' H' v o S' hv => ?_, fun x Δ' B' H' o S' => ?_⟩
    · rw [hΔ] at S'
      obtain ⟨B2, e3, hb⟩ := back (Stb.pure S')
      exact q P' Δ v B2 H' ⟨⟨_, o⟩, rfl⟩ (S1.ext e3) (e1.bb.trans e3.bb) (P'.anti (fun a h => S1.dm a h) (hsb P' Δ' o _ B' _ _ hb hv))
    · rw [hΔ] at S'
      obtain ⟨B2, e3, hb⟩ := back (Stb.pure S')
      exact hx x Δ B2 H' ⟨⟨_, o⟩, rfl⟩ (S1.ext e3) (e1.bb.trans e3.bb)
/-! ### tests with effects -/
def ETM (X : Cx) (ms : List Addr) (Γ : Gam) (Δ : Del) (e : Expr) (K : Bool → Del → Prop) (Kx : Value → Del → Prop) : Prop :=
  ∀ (W : Ws) (Wi : WX) (B H : Hp) (σ : L2.St), W.ms = ms → L2N.Takes X Wi → Stb W Δ B H → Sl Γ W.H B σ → (∀ c Δ' B' H', Kx c Δ' → Stb W Δ' B' H' → Same B B' → Wi c none σ H') →
    ∀ Q : Bool → Hp → Prop, (∀ b Δ' B' H', K b Δ' → Stb W Δ' B' H' → Same B B' → Q b H') → wpT X e σ H Q
theorem etm_val {Ke : Pr → Del → Prop} {Kx : Value → Del → Prop} (h : EM X ms Γ Δ e Ke Kx) (hk : ∀ P Δ', Ke P Δ' → ∃ b, P = Bo b) (he : ∀ whole, isTrue e X.env whole = (do let v ← whole; standAt e.pos; holding [v] (truthy v)) := by intro _; rfl) : ETM X ms Γ Δ e (fun b Δ' => Ke (Bo b) Δ') Kx := fun W Wi B H σ hm tk S s hx Q q =>
  wpT_of (pt_val pe_wp he) (h W Wi B H σ hm tk S s hx _ fun P Δ' v B1 H1 kp S1 e1 h1 => by
    obtain ⟨b, rfl⟩ := hk P Δ' kp
    exact ⟨b, h1, q b Δ' B1 H1 kp S1 e1⟩)
theorem etm_not {Ke : Bool → Del → Prop} {Kx : Value → Del → Prop} (h : ETM X ms Γ Δ e Ke Kx) : ETM X ms Γ Δ (.UnaryOp .Not e pos) (fun b Δ' => Ke (!b) Δ') Kx := fun W Wi B H σ hm tk S s hx Q q =>
  wpT_of (pt_not pt_wp) (h W Wi B H σ hm tk S s hx _ fun b Δ' B1 H1 kp S1 e1 => q (!b) Δ' B1 H1 (by show Ke (!(!b)) Δ'; rw [Bool.not_not]; exact kp) S1 e1)
theorem etm_of {Kx : Value → Del → Prop} (h : ET X Γ Δ e k) : ETM X ms Γ Δ e (fun b Δ' => b = k ∧ Δ' = Δ) Kx := fun W Wi B H σ hm tk S s hx Q q => h W B H σ S s _ fun B1 H1 e1 => q k Δ B1 H1 ⟨rfl, rfl⟩ (S.ext e1) e1.bb
def wpC (X : Cx) (op : CmpOp) (a b : Expr) : TE := fun σ H Q => ∀ (pins : List (Addr × Obj)) (s : Shared), Inv X pins σ H s → wpAny (model X.prog X.w) X.A (eval a X.env) (fun v s₁ => wpAny (model X.prog X.w) X.A (eval b X.env) (fun u s₂ => wpAny (model X.prog X.w) X.A (compareOp op v u) (EP X pins σ Q) X.xe s₂) X.xe s₁) X.xe s
theorem pc_wp {op : CmpOp} : PC X op a b (wpC X op a b) := ⟨fun pins s _ _ _ I h => h pins s I⟩
/-- the left with effects, the right without -/
theorem cmpM_key {Ke : Pr → Del → Prop} {Kx : Value → Del → Prop} {op : CmpOp} {Rk : Bool → Del → Prop} (ha : EM X ms Γ Δ a Ke Kx) (hb : ∀ P Δ', Ke P Δ' → ∃ P' k, EE X Γ Δ' b P' ∧ Cmp X op P P' k ∧ Rk k Δ') {W : Ws} {Wi : WX} {B H : Hp} {σ : L2.St} (hms : W.ms = ms) (tk : L2N.Takes X Wi) (S : Stb W Δ B H) (s : Sl Γ W.H B σ)
    (hx : ∀ c Δ' B' H', Kx c Δ' → Stb W Δ' B' H' → Same B B' → Wi c none σ H') (R : VK) (r : ∀ k Δ' B' H', Rk k Δ' → Stb W Δ' B' H' → Same B B' → R (.bl k) H') : wpC X op a b σ H R := fun pins st I => by
  refine thn (ha W Wi B H σ hms tk S s hx (fun v H1 => ∀ pins s1, Inv X pins σ H1 s1 → ∀ u, RelV v u → wpAny (model X.prog X.w) X.A (eval b X.env) (fun u2 s2 => wpAny (model X.prog X.w) X.A (compareOp op u u2) (EP X pins σ R) X.xe s2) X.xe s1) (fun P Δ' v B1 H1 kp S1 e1 h1 => ?_) pins st I) fun v s1 ⟨x, H1, I1, r1, q1⟩ => q1 pins s1 I1 v r1
  intro pins s1 I1 u ru
  obtain ⟨P', k, hb', ⟨r0, ho, hr⟩, rk⟩ := hb P Δ' kp
  refine thn (hb' W B1 H1 σ S1 (s.mono e1) (fun u2 H2 => ∃ B2, Ext B1 H1 B2 H2 ∧ P'.p W.H B2 u2) (fun u2 B2 H2 e2 h2 => ⟨B2, e2, h2⟩) pins s1 I1) fun w2 s2 ⟨y, H2, I2, r2, B2, e2, h2⟩ => ?_
  exact ho pins s2 σ H2 v y u w2 R I2 ru r2 (hr W.H v y B2 H2 e2.bh (P.mono e2.bb h1) h2 R (r k Δ' B2 H2 rk (S1.ext e2) (e1.trans e2.bb)))
theorem etm_cmp {Ke : Pr → Del → Prop} {Kx : Value → Del → Prop} {op : CmpOp} (Rk : Bool → Del → Prop) (ha : EM X ms Γ Δ a Ke Kx) (hb : ∀ P Δ', Ke P Δ' → ∃ P' k, EE X Γ Δ' b P' ∧ Cmp X op P P' k ∧ Rk k Δ') (hm : behindInMarks op b = false := by first | exact nomark _ | rfl) :
    ETM X ms Γ Δ (.Compare a [op] [b] pos) Rk Kx := fun W Wi B H σ hms tk S s hx Q q =>
  wpT_of (pt_cmp pc_wp hm) (cmpM_key ha hb hms tk S s hx _ fun k Δ' B' H' kk S' e' => ⟨k, rfl, q k Δ' B' H' kk S' e'⟩)
theorem em_cmp {Ke : Pr → Del → Prop} {Kx : Value → Del → Prop} {op : CmpOp} (Rk : Bool → Del → Prop) (ha : EM X ms Γ Δ a Ke Kx) (hb : ∀ P Δ', Ke P Δ' → ∃ P' k, EE X Γ Δ' b P' ∧ Cmp X op P P' k ∧ Rk k Δ') (hm : behindInMarks op b = false := by first | exact nomark _ | rfl) :
    EM X ms Γ Δ (.Compare a [op] [b] pos) (fun R Δ' => ∃ k, R = Bo k ∧ Rk k Δ') Kx := fun W Wi B H σ hms tk S s hx Q q =>
  wpE_of (pe_cmp pc_wp hm) (cmpM_key ha hb hms tk S s hx _ fun k Δ' B' H' kk S' e' => q (Bo k) Δ' _ B' H' ⟨k, rfl, kk⟩ S' e' rfl)
theorem go_ifM {Ke : Bool → Del → Prop} {Kx : Value → Del → Prop} {t u : List Stmt} (hc : ETM X ms Γ Δ e Ke Kx) (hxx : ∀ c Δ', Kx c Δ' → K.ex c Γ Δ') (h1 : ∀ Δ', Ke true Δ' → Go X ms Γ Δ' t (K.to fun Γ' Δ' => Go X ms Γ' Δ' rest K)) (h2 : ∀ Δ', Ke false Δ' → Go X ms Γ Δ' u (K.to fun Γ' Δ' => Go X ms Γ' Δ' rest K)) :
    Go X ms Γ Δ (.If e t u pos :: rest) K := fun W Wi B H σ D hm tk S s ok =>
  wpSs_of (pss_cons (ps_if pt_wp pss_wp pss_wp) pss_wp) (hc W Wi B H σ hm tk S s (fun c Δ' B' H' kx S' e' => ok.ex _ _ _ _ _ _ (hxx c Δ' kx) S' (s.mono e')) _ fun b Δ' B1 H1 kb S1 e1 => by
    have ok' : (K.to fun Γ' Δ' => Go X ms Γ' Δ' rest K).Ok W Wi { D with nx := wpSs X rest D } := ok.to fun Γ' Δ' B H σ g S s => g W Wi B H σ D hm tk S s ok
    cases b with
    | true => exact h1 Δ' kb W Wi B1 H1 σ _ hm tk S1 (s.mono e1) ok'
    | false => exact h2 Δ' kb W Wi B1 H1 σ _ hm tk S1 (s.mono e1) ok')
end
end Yb
namespace Yb
open PySem PySem.Spec PyProof.Rows L2
theorem bo_inj {a b : Bool} (h : Bo a = Bo b) : a = b := by
  have h1 := congrFun (congrFun (congrFun (congrArg Pr.p h) h0) h0) (V.bl a)
  have h2 : V.bl a = V.bl b := by
    rw [← show (Bo b).p h0 h0 (V.bl a) = (V.bl a = V.bl b) from rfl, ← h]
    rfl
  exact vbl_iff.mp h2
theorem i_inj {a b : Int} (h : I a = I b) : a = b := by
  have h2 : V.int a = V.int b := by
    rw [← show (I b).p h0 h0 (V.int a) = (V.int a = V.int b) from rfl, ← h]
    rfl
  exact vint_iff.mp h2
end Yb
set_option maxHeartbeats 1000000
namespace Yb
open PySem PySem.Spec PyProof.Rows L2
/-! ### == by data -/
mutual
theorem dp_mono {K : PySem.W.Frag} {H H' : Hp} (e : Same H H') : ∀ (d : PyData) (v : V), Dp K H v d → Dp K H' v d
  | .none, _, h => by cases h; exact .non
  | .bool b, _, h => by cases h; exact .bl b
  | .int i, _, h => by cases h; exact .int i
  | .str x, _, h => by cases h; exact .str x
  | .list ds, _, h => by
    cases h with
    | lst a b => exact .lst (e.seq a) (dps_mono e ds _ b)
  | .tuple ds, _, h => by
    cases h with
    | tup a b => exact .tup (by
        rcases a with (a | ⟨o, a⟩) | a
        · exact .inl (.inl (e _ _ a))
        · exact .inl (.inr ⟨o, e _ _ a⟩)
        · exact .inr a) (dps_mono e ds _ b)
  | .dict _, _, h => by cases h
theorem dps_mono {K : PySem.W.Frag} {H H' : Hp} (e : Same H H') : ∀ (ds : List PyData) (vs : List V), DpAll K H vs ds → DpAll K H' vs ds
  | [], _, h => by cases h; exact .nil
  | d :: ds, _, h => by
    cases h with
    | cons a b => exact .cons (dp_mono e d _ a) (dps_mono e ds _ b)
end
structure Dat (K : PySem.W.Frag) (P : Pr) (d : PyData) : Prop where
  ok : ∀ h B H v, Same B H → P.p h B v → Dp K H v d
def Dats (K : PySem.W.Frag) : List Pr → List PyData → Prop
  | [], [] => True
  | P :: ps, d :: ds => Dat K P d ∧ Dats K ps ds
  | _, _ => False
section
variable {K : PySem.W.Frag} {P : Pr} {ps : List Pr} {d : PyData} {ds : List PyData}
theorem Dats.all {h B H : Hp} (e : Same B H) : ∀ {ps : List Pr} {ds : List PyData} {vs : List V}, Dats K ps ds → All h B ps vs → DpAll K H vs ds
  | [], [], [], _, _ => .nil
  | _ :: _, _ :: _, _ :: _, q, a => .cons (q.1.ok _ _ _ _ e a.1) (Dats.all e q.2 a.2)
  | [], _ :: _, _, q, _ => q.elim
  | _ :: _, [], _, q, _ => q.elim
  | [], [], _ :: _, _, a => a.elim
  | _ :: _, _ :: _, [], _, a => a.elim
theorem dats_map {α : Type} {R : α → Pr} {f : α → PyData} (h : ∀ x, Dat K (R x) (f x)) : ∀ l : List α, Dats K (l.map R) (l.map f)
  | [] => trivial
  | x :: l => ⟨h x, dats_map h l⟩
theorem dat_I {i : Int} : Dat K (I i) (.int i) := ⟨fun _ _ _ v _ h => by have h : v = .int i := h; subst h; exact .int i⟩
theorem dat_Bo {b : Bool} : Dat K (Bo b) (.bool b) := ⟨fun _ _ _ v _ h => by have h : v = .bl b := h; subst h; exact .bl b⟩
theorem dat_Sx {s : Str} : Dat K (Sx s) (.str s) := ⟨fun _ _ _ v _ h => by have h : v = .str s := h; subst h; exact .str s⟩
theorem dat_No : Dat K No .none := ⟨fun _ _ _ v _ h => by have h : v = .non := h; subst h; exact .non⟩
theorem dat_L (h : Dats K ps ds) : Dat K (L ps) (.list ds) := ⟨fun _ B H v e ⟨a, xs, h1, h2, h3⟩ => by subst h1; exact .lst (SqL.of (e _ _ h2)) (h.all e h3)⟩
theorem dat_T (h : Dats K ps ds) : Dat K (T ps) (.tuple ds) := ⟨fun _ B H v e ⟨a, xs, h1, h2, h3⟩ => by subst h1; exact .tup (SqT.of (e _ _ h2)) (h.all e h3)⟩
theorem dat_N (h : Dat K P d) : Dat K (N P) d := ⟨fun x B H v e q => h.ok x B H v e q.1⟩
theorem dat_Scr {ns : List Int} : Dat K (Scr K ns) (.list (ns.map .int)) := ⟨fun h B H v e ⟨a, h1, h2⟩ => by subst h1; exact .lst (e.seq h2) ((dats_map (fun _ => dat_I) ns).all (Same.refl B |>.trans e) (ints_all (h := h) ns))⟩
end
def EDt (X : Cx) (Γ : Gam) (Δ : Del) (e : Expr) (d : PyData) : Prop := ∀ (W : Ws) (B H : Hp) (σ : L2.St), Stb W Δ B H → Sl Γ W.H B σ → ∀ Q : VK, (∀ v B2 H2, Ext B H B2 H2 → Dp X.K H2 v d → Q v H2) → wpE X e σ H Q
section
variable {X : Cx} {Γ : Gam} {Δ : Del} {e a b c : Expr} {es rest : List Expr} {P P' P2 : Pr} {Ps ps qs : List Pr} {pos p2 : Pos} {k k' : Bool} {x y z i j : Int} {d d' : PyData} {ds ds' : List PyData}
theorem edt (h : EE X Γ Δ e P) (q : Dat X.K P d) : EDt X Γ Δ e d := fun W B H σ S s Q qq => h W B H σ S s Q fun v B1 H1 e1 h1 => qq v B1 H1 e1 (q.ok _ _ _ _ e1.bh h1)
theorem edt_M (n : Nat) {l : Addr} (h : EE X Γ Δ e (Ref l)) (hk : Δ[n]? = some (l, ML ps)) (q : Dats X.K ps ds) : EDt X Γ Δ e (.list ds) := fun W B H σ S s Q qq => h W B H σ S s Q fun v B1 H1 e1 h1 => by
  have ev : v = .ref l := h1
  subst ev
  obtain ⟨_, o, h2, xs, rfl, h3⟩ := (S.ext e1).at hk
  exact qq _ B1 H1 e1 (.lst (SqL.of h2) (q.all e1.bh h3))
theorem edt_N (h : EN X Γ Δ e ps) (q : Dats X.K ps ds) : EDt X Γ Δ e (.list ds) := fun W B H σ S s Q qq => h W B H σ S s Q fun l xs B1 H1 e1 h1 _ _ h4 => qq _ B1 H1 e1 (.lst (SqL.of h1) (q.all e1.bh h4))
theorem ee_eqD (hu : X.A.units + 64 < cLine) (ha : EDt X Γ Δ a d) (hb : EDt X Γ Δ b d') (h1 : SeqAt.shaped d = true) (h2 : SeqAt.shaped d' = true) (hk : PyData.eqv d d' = k) (hm : behindInMarks .Eq b = false := by first | exact nomark _ | rfl) : EE X Γ Δ (.Compare a [.Eq] [b] pos) (Bo k) := fun W B H σ S s Q q =>
  wpE_of (pe_cmpR (op_eqD hu) pe_wp pe_wp hm) (ha W B H σ S s _ fun v B1 H1 e1 q1 => hb W B1 H1 σ (S.ext e1) (s.mono e1.bb) _ fun u B2 H2 e2 q2 => ⟨d, d', dp_mono e2.hh _ _ q1, q2, h1, h2, by rw [hk]; exact q _ B2 H2 (e1.trans e2) rfl⟩)
theorem ee_neD (hu : X.A.units + 64 < cLine) (ha : EDt X Γ Δ a d) (hb : EDt X Γ Δ b d') (h1 : SeqAt.shaped d = true) (h2 : SeqAt.shaped d' = true) (hk : PyData.eqv d d' = k) (hm : behindInMarks .NotEq b = false := by first | exact nomark _ | rfl) : EE X Γ Δ (.Compare a [.NotEq] [b] pos) (Bo (!k)) := fun W B H σ S s Q q =>
  wpE_of (pe_cmpR (op_neD hu) pe_wp pe_wp hm) (ha W B H σ S s _ fun v B1 H1 e1 q1 => hb W B1 H1 σ (S.ext e1) (s.mono e1.bb) _ fun u B2 H2 e2 q2 => ⟨d, d', dp_mono e2.hh _ _ q1, q2, h1, h2, by rw [hk]; exact q _ B2 H2 (e1.trans e2) rfl⟩)
theorem et_eqD (hu : X.A.units + 64 < cLine) (ha : EDt X Γ Δ a d) (hb : EDt X Γ Δ b d') (h1 : SeqAt.shaped d = true) (h2 : SeqAt.shaped d' = true) (hk : PyData.eqv d d' = k) (hm : behindInMarks .Eq b = false := by first | exact nomark _ | rfl) : ET X Γ Δ (.Compare a [.Eq] [b] pos) k := fun W B H σ S s Q q =>
  wpT_of (pt_cmpR (op_eqD hu) pe_wp pe_wp hm) (ha W B H σ S s _ fun v B1 H1 e1 q1 => hb W B1 H1 σ (S.ext e1) (s.mono e1.bb) _ fun u B2 H2 e2 q2 => ⟨d, d', dp_mono e2.hh _ _ q1, q2, h1, h2, _, rfl, by rw [hk]; exact q B2 H2 (e1.trans e2)⟩)
theorem et_neD (hu : X.A.units + 64 < cLine) (ha : EDt X Γ Δ a d) (hb : EDt X Γ Δ b d') (h1 : SeqAt.shaped d = true) (h2 : SeqAt.shaped d' = true) (hk : PyData.eqv d d' = k) (hm : behindInMarks .NotEq b = false := by first | exact nomark _ | rfl) : ET X Γ Δ (.Compare a [.NotEq] [b] pos) (!k) := fun W B H σ S s Q q =>
  wpT_of (pt_cmpR (op_neD hu) pe_wp pe_wp hm) (ha W B H σ S s _ fun v B1 H1 e1 q1 => hb W B1 H1 σ (S.ext e1) (s.mono e1.bb) _ fun u B2 H2 e2 q2 => ⟨d, d', dp_mono e2.hh _ _ q1, q2, h1, h2, _, rfl, by rw [hk]; exact q B2 H2 (e1.trans e2)⟩)
theorem et_inDt (hu : X.A.units + 65 < cLine) (ha : EDt X Γ Δ a d) (hb : EDt X Γ Δ b (.list ds)) (h1 : SeqAt.shaped d = true) (h2 : SeqAt.shaped (.list ds) = true) (hk : (ds.any fun z => PyData.eqv z d) = k) (hm : behindInMarks .In b = false := by rfl) : ET X Γ Δ (.Compare a [.In] [b] pos) k := fun W B H σ S s Q q =>
  wpT_of (pt_cmpR (op_inD hu) pe_wp pe_wp hm) (ha W B H σ S s _ fun v B1 H1 e1 q1 => hb W B1 H1 σ (S.ext e1) (s.mono e1.bb) _ fun u B2 H2 e2 q2 => ⟨d, ds, dp_mono e2.hh _ _ q1, q2, h1, h2, _, rfl, by rw [hk]; exact q B2 H2 (e1.trans e2)⟩)
theorem et_ninDt (hu : X.A.units + 65 < cLine) (ha : EDt X Γ Δ a d) (hb : EDt X Γ Δ b (.list ds)) (h1 : SeqAt.shaped d = true) (h2 : SeqAt.shaped (.list ds) = true) (hk : (ds.any fun z => PyData.eqv z d) = k) (hm : behindInMarks .NotIn b = false := by rfl) : ET X Γ Δ (.Compare a [.NotIn] [b] pos) (!k) := fun W B H σ S s Q q =>
  wpT_of (pt_cmpR (op_notInD hu) pe_wp pe_wp hm) (ha W B H σ S s _ fun v B1 H1 e1 q1 => hb W B1 H1 σ (S.ext e1) (s.mono e1.bb) _ fun u B2 H2 e2 q2 => ⟨d, ds, dp_mono e2.hh _ _ q1, q2, h1, h2, _, rfl, by rw [hk]; exact q B2 H2 (e1.trans e2)⟩)
end
/-! what is laid, what eqv says -/
theorem lay_all {α : Type} {f : α → PyData} (h : ∀ x, (f x).canLay0 = true) : ∀ l : List α, PyData.canLayAll0 (l.map f) = true
  | [] => rfl
  | x :: l => by show ((f x).canLay0 && PyData.canLayAll0 (l.map f)) = true; rw [h x, lay_all h l]; rfl
theorem depth_all {α : Type} {f : α → PyData} {n : Nat} (h : ∀ x, (f x).depth ≤ n) : ∀ l : List α, PyData.depthAll (l.map f) ≤ n
  | [] => Nat.zero_le n
  | x :: l => by show max (f x).depth (PyData.depthAll (l.map f)) ≤ n; exact Nat.max_le.mpr ⟨h x, depth_all h l⟩
theorem shaped_list {α : Type} {f : α → PyData} {n : Nat} (h : ∀ x, (f x).canLay0 = true) (h2 : ∀ x, (f x).depth ≤ n) (hn : n ≤ 60) (l : List α) : SeqAt.shaped (.list (l.map f)) = true := by
  unfold SeqAt.shaped
  have h3 := depth_all h2 l
  rw [Bool.and_eq_true, decide_eq_true_eq]
  exact ⟨lay_all h l, by show PyData.depthAll (l.map f) + 1 ≤ 64; omega⟩
theorem shaped_ints (l : List Int) : SeqAt.shaped (.list (l.map .int)) = true := shaped_list (f := PyData.int) (n := 0) (fun _ => rfl) (fun _ => Nat.le_refl 0) (by decide) l
theorem shaped_bools (l : List Bool) : SeqAt.shaped (.list (l.map .bool)) = true := shaped_list (f := PyData.bool) (n := 0) (fun _ => rfl) (fun _ => Nat.le_refl 0) (by decide) l
theorem eqv_all {α : Type} [DecidableEq α] {f : α → PyData} (h : ∀ x y, PyData.eqv (f x) (f y) = decide (x = y)) : ∀ l m : List α, PyData.eqvAll (l.map f) (m.map f) = decide (l = m)
  | [], [] => by simp [PyData.eqvAll]
  | [], _ :: _ => by simp [PyData.eqvAll]
  | _ :: _, [] => by simp [PyData.eqvAll]
  | x :: l, y :: m => by
    show (PyData.eqv (f x) (f y) && PyData.eqvAll (l.map f) (m.map f)) = _
    rw [h, eqv_all h l m, Bool.eq_iff_iff]
    simp
theorem eqv_list {α : Type} [DecidableEq α] {f : α → PyData} (h : ∀ x y, PyData.eqv (f x) (f y) = decide (x = y)) (l m : List α) : PyData.eqv (.list (l.map f)) (.list (m.map f)) = decide (l = m) := by
  show PyData.eqvAll _ _ = _
  exact eqv_all h l m
theorem eqv_int (x y : Int) : PyData.eqv (.int x) (.int y) = decide (x = y) := by
  show (x == y) = _
  rw [Bool.eq_iff_iff]; simp
theorem eqv_bool (x y : Bool) : PyData.eqv (.bool x) (.bool y) = decide (x = y) := by
  show (x == y) = _
  rw [Bool.eq_iff_iff]; simp
theorem eqv_ints (l m : List Int) : PyData.eqv (.list (l.map .int)) (.list (m.map .int)) = decide (l = m) := eqv_list eqv_int l m
theorem eqv_bools (l m : List Bool) : PyData.eqv (.list (l.map .bool)) (.list (m.map .bool)) = decide (l = m) := eqv_list eqv_bool l m
/-- a pair of ints -/
def pD (p : Int × Int) : PyData := .tuple [.int p.1, .int p.2]
theorem pD_eqv (p q : Int × Int) : PyData.eqv (pD p) (pD q) = decide (p = q) := by
  obtain ⟨a, b⟩ := p
  obtain ⟨c, d⟩ := q
  show (PyData.eqv (.int a) (.int c) && (PyData.eqv (.int b) (.int d) && true)) = _
  rw [eqv_int, eqv_int, Bool.and_true, Bool.eq_iff_iff]
  simp
theorem pD_shaped (p : Int × Int) : SeqAt.shaped (pD p) = true := rfl
theorem shaped_pairs (l : List (Int × Int)) : SeqAt.shaped (.list (l.map pD)) = true := shaped_list (f := pD) (n := 1) (fun _ => rfl) (fun _ => Nat.le_refl 1) (by decide) l
theorem any_pairs (l : List (Int × Int)) (p : Int × Int) : ((l.map pD).any fun z => PyData.eqv z (pD p)) = decide (p ∈ l) := by
  rw [List.any_map, Bool.eq_iff_iff, List.any_eq_true, decide_eq_true_eq]
  constructor
  · rintro ⟨q, hq, e⟩
    have e : PyData.eqv (pD q) (pD p) = true := e
    rw [pD_eqv, decide_eq_true_eq] at e
    exact e ▸ hq
  · intro h
    exact ⟨p, h, by show PyData.eqv (pD p) (pD p) = true; rw [pD_eqv]; simp⟩
/-! ### is True, is False -/
section
variable {X : Cx} {Γ : Gam} {Δ : Del} {e a b c : Expr} {es rest : List Expr} {P P' P2 : Pr} {Ps ps qs : List Pr} {pos p2 : Pos} {k k' : Bool} {x : Str}
theorem cmp_isB : Cmp X .Is (Bo k) (Bo k') (decide (k = k')) := ⟨_, op_is_bl, fun _ v u B H e h1 h2 Q q => ⟨k, k', h1, h2, q⟩⟩
theorem cmp_isnotB : Cmp X .IsNot (Bo k) (Bo k') (!decide (k = k')) := ⟨_, op_isnot_bl, fun _ v u B H e h1 h2 Q q => ⟨k, k', h1, h2, q⟩⟩
/-! ### isinstance -/
structure HasTy (K : PySem.W.Frag) (P : Pr) (t : Value) : Prop where
  ok : ∀ h B H v, Same B H → P.p h B v → TyX K H v t
theorem ty_I {K : PySem.W.Frag} {i : Int} : HasTy K (I i) (.type "int") := ⟨fun _ _ _ v _ h => by have h : v = .int i := h; subst h; exact .base (.int i)⟩
theorem ty_Bo {K : PySem.W.Frag} {i : Bool} : HasTy K (Bo i) (.type "bool") := ⟨fun _ _ _ v _ h => by have h : v = .bl i := h; subst h; exact .base (.bl i)⟩
theorem ty_Sx {K : PySem.W.Frag} {i : Str} : HasTy K (Sx i) (.type "str") := ⟨fun _ _ _ v _ h => by have h : v = .str i := h; subst h; exact .base (.str i)⟩
theorem ty_No {K : PySem.W.Frag} : HasTy K No (.type "NoneType") := ⟨fun _ _ _ v _ h => by have h : v = .non := h; subst h; exact .base .non⟩
theorem ty_L {K : PySem.W.Frag} : HasTy K (L ps) (.type "list") := ⟨fun _ _ _ v e ⟨a, xs, h1, h2, h3⟩ => by subst h1; exact .base (.lst (e _ _ h2))⟩
theorem ty_T {K : PySem.W.Frag} : HasTy K (T ps) (.type "tuple") := ⟨fun _ _ _ v e ⟨a, xs, h1, h2, h3⟩ => by subst h1; exact .base (.tup (e _ _ h2))⟩
theorem ty_N {K : PySem.W.Frag} {t : Value} (h : HasTy K P t) : HasTy K (N P) t := ⟨fun x B H v e q => h.ok x B H v e q.1⟩
theorem ee_isi {n m : String} {px : Pos} (ha : EE X Γ Δ a P) (ht : HasTy X.K P (.type n)) (hb : EE X Γ Δ b (Ty m)) (hk : kitB n m = some k) (hg : Gl X "isinstance") (hm : X.mg "isinstance" = none)
    (hs : starEach [a, b] X.env = (false, eval a X.env) :: starEach [b] X.env := by rfl) (hs2 : starEach [b] X.env = (false, eval b X.env) :: starEach [] X.env := by rfl) (hpl : (backTo pos (starEach [b] X.env)).any (·.1) = false := by rfl) : EE X Γ Δ (.Call (.Name "isinstance" px) [a, b] [] pos) (Bo k) := fun W B H σ S s Q q =>
  wpE_of (pe_callB call_isi hg hm (by decide +kernel) (pa_cons pe_wp (pa_cons pe_wp pa_nil hs2) hs) (he := hs) (hpl := hpl)) (ha W B H σ S s _ fun v B1 H1 e1 h1 => hb W B1 H1 σ (S.ext e1) (s.mono e1.bb) _ fun u B2 H2 e2 h2 => by
    have eu : u = .ty m := h2
    subst eu
    exact ⟨v, _, .type n, _, k, rfl, .ty m, ht.ok _ _ _ _ (e1.bh.trans e2.hh) h1, kit_ty hk, q _ B2 H2 (e1.trans e2) rfl⟩)
theorem ee_any {px : Pos} {bs : List Bool} (hc : X.calm = true) (ha : ES X Γ Δ a (bs.map Bo)) (hg : Gl X "any") (hm : X.mg "any" = none) (hs : starEach [a] X.env = (false, eval a X.env) :: starEach [] X.env := by rfl) : EE X Γ Δ (.Call (.Name "any" px) [a] [] pos) (Bo (bs.any id)) := fun W B H σ S s Q q =>
  wpE_of (pe_callB (cr_any hc) hg hm (by decide +kernel) (pa_cons pe_wp pa_nil hs) (he := hs)) (ha W B H σ S s _ fun l xs B1 H1 e1 h1 h2 => ⟨l, bs, rfl, by rw [← all_bools h2]; exact h1, q _ B1 H1 e1 rfl⟩)
end
/-! ### try .. except X as n -/
theorem Sl.unset {Γ : Gam} {h0 B : Hp} {σ : L2.St} (j : Nat) (h : Sl Γ h0 B σ) : Sl (Γ.set j none) h0 B (σ.set j none) := by
  refine ⟨by rw [List.length_set, List.length_set]; exact h.1, fun i P q => ?_⟩
  by_cases hj : j = i
  · subst hj
    have hl : j < Γ.length := by
      have := (List.getElem?_eq_some_iff.mp q).1
      rw [List.length_set] at this
      exact this
    rw [List.getElem?_set_self hl] at q
    cases q
  · rw [List.getElem?_set_ne hj] at q
    obtain ⟨u, h1, h2⟩ := h.2 i P q
    exact ⟨u, by rw [List.getElem?_set_ne hj]; exact h1, h2⟩
section
variable {X : Cx} {ms : List Addr} {Γ : Gam} {Δ : Del} {K : Kk} {rest body suite : List Stmt} {b₀ : Stmt} {x n : Str} {c : Addr} {i : Nat} {np pos pos' : Pos}
/-- what is wanted of a suite that has caught an error of the class C -/
def Caught (X : Cx) (ms : List Addr) (Γ : Gam) (Δ : Del) (K : Kk) (i : Nat) (suite rest : List Stmt) (C : Addr) : Prop :=
  ∀ (a : Addr) (oe : Obj) (pn : List (Addr × Obj)), L2N.Zn (.ref C) none oe → (∃ vs, oe.data = .fields vs) →
    Go (X.suite a ((a, oe) :: pn)) ms (Γ.set i (some (Ref a))) Δ suite { nx := fun Γ' Δ' => Go X ms (Γ'.set i none) Δ' rest K, rt := K.rt, bk := fun Γ' => K.bk (Γ'.set i none), ct := fun Γ' => K.ct (Γ'.set i none) }
theorem go_try (i : Nat) (hN : X.N.Nodup) (hc : X.mg x = some (.ref c))
    (hb : ∀ (pn : List (Addr × Obj)) (xe : Value → Shared → Prop), PassesOwn (model X.prog X.w) X.A X.env xe → Go (X.tr pn xe) ms Γ Δ body { nx := fun Γ' Δ' => Go X ms Γ' Δ' rest K, rt := K.rt, bk := K.bk, ct := K.ct, ex := fun v Γ' Δ' => ∃ C b, v = .ref C ∧ PySem.W.exmOne X.K v (.ref c) = some b ∧ (b = true → Caught X ms Γ' Δ' K i (b₀ :: suite) rest C) ∧ (b = false → K.ex v Γ' Δ') })
    (hs : X.stack = X.env :: X.outer := by rfl) (hf : X.env.frame = some X.env.locals := by rfl) (hi : X.N[i]? = some n := by rfl) (hln : X.env.kindOf n = some .local := by rfl) (hg : Gl X x := by rfl) (hdb : (x == ("__debug__" : Str)) = false := by decide) :
    Go X ms Γ Δ (.Try body [.ExceptHandler (some (.Name x np)) (some n) (b₀ :: suite) pos'] [] [] pos :: rest) K := fun W Wi B H σ D hm tk S s ok => by
  refine wpSs_of (pss_cons (L2N.ps_try_as (c := .ref c) (Wout := Wi) (tb := fun Wb => fun D σ H => ∀ pn xe, L2N.Takes (X.tr pn xe) Wb → PassesOwn (model X.prog X.w) X.A X.env xe → wpSs (X.tr pn xe) body D σ H)
    (ts := fun a cls d => fun D σ H => ∀ oe pn, L2N.Zn cls d oe → (∃ vs, oe.data = .fields vs) → wpSs (X.suite a ((a, oe) :: pn)) (b₀ :: suite) D σ H) hs hf hN hi hln ⟨hg, hdb, .inl hc⟩ tk (fun Wb pn xe tk' po => ⟨fun pins st σ H D I h => h pn xe tk' po pins st I⟩) (fun a oe cls d pn hz hf => ⟨fun pins st σ H D I h => h oe pn hz hf pins st I⟩)) pss_wp) fun pn xe tk' po => ?_
  refine hb pn xe po W _ B H σ _ hm tk' S s ⟨fun Γ' Δ' B' H' σ' q S' s' => q W Wi B' H' σ' D hm tk S' s' ok, ok.rt, ok.bk, ok.ct, fun v Γ' Δ' B' H' σ' q S' s' => ?_⟩
  obtain ⟨C, b, rfl, hb1, hyes, hno⟩ := q
  refine ⟨b, hb1, fun hbt a na oe pn' hz hfv => ?_, fun hbf => ok.ex _ _ _ _ _ _ (hno hbf) S' s'⟩
  refine hyes hbt a oe pn' hz hfv W (fun _ _ _ _ => False) B' H' _ _ hm (fun u s' xx => ?_) S' (s'.set i rfl) ⟨fun Γ2 Δ2 B2 H2 σ2 q S2 s2 => q W Wi B2 H2 _ D hm tk S2 (s2.unset i) ok, ok.rt, fun Γ2 Δ2 B2 H2 σ2 q S2 s2 => ok.bk _ _ _ _ _ q S2 (s2.unset i), fun Γ2 Δ2 B2 H2 σ2 q S2 s2 => ok.ct _ _ _ _ _ q S2 (s2.unset i), fun _ _ _ _ _ _ q => q.elim⟩
  obtain ⟨_, _, _, _, _, _, _, _, _, _, _, _, _, _, _, _, z⟩ := xx
  exact z.elim
end
/-! isinstance(e, C), e the caught error of the class D -/
section
variable {X : Cx} {Γ : Gam} {Δ : Del} {a b : Expr} {pos px : Pos} {k : Bool} {ad D : Addr} {oe : Obj} {pn : List (Addr × Obj)} {P : Pr}
theorem ee_isE {cv : Value} (Z : ExcC X.K D) (hz : L2N.Zn (.ref D) none oe) (hf : ∃ vs, oe.data = .fields vs) (ha : EE (X.suite ad ((ad, oe) :: pn)) Γ Δ a (Ref ad)) (hb : EE (X.suite ad ((ad, oe) :: pn)) Γ Δ b P) (hP : ∀ h B v u, P.p h B v → RelV v u → u = cv) (hk : PySem.W.kitOne X.K (.ref D) cv = some k)
    (hg : Gl X "isinstance") (hm : X.mg "isinstance" = none) (hs : starEach [a, b] X.env = (false, eval a X.env) :: starEach [b] X.env := by rfl) (hs2 : starEach [b] X.env = (false, eval b X.env) :: starEach [] X.env := by rfl) (hpl : (backTo pos (starEach [b] X.env)).any (·.1) = false := by rfl) :
    EE (X.suite ad ((ad, oe) :: pn)) Γ Δ (.Call (.Name "isinstance" px) [a, b] [] pos) (Bo k) := fun W B H σ S s Q q =>
  wpE_of (pe_callB (call_isE (D := D) Z hz.zc hf) hg hm (by decide +kernel) (pa_cons pe_wp (pa_cons pe_wp pa_nil hs2) hs) (he := hs) (hpl := hpl)) (ha W B H σ S s _ fun v B1 H1 e1 h1 => hb W B1 H1 σ (S.ext e1) (s.mono e1.bb) _ fun u B2 H2 e2 h2 => by
    have ev : v = .ref ad := h1
    subst ev
    exact ⟨u, cv, k, rfl, fun w r => hP _ _ _ _ h2 r, hk, q _ B2 H2 (e1.trans e2) rfl⟩)
theorem rel_Ref {C : Addr} : ∀ h B v u, (Ref C).p h B v → RelV v u → u = .ref C := fun h B v u hv r => by
  have hv : v = .ref C := hv
  subst hv; exact r
theorem rel_Ty {n : String} : ∀ h B v u, (Ty n).p h B v → RelV v u → u = .type n := fun h B v u hv r => by
  have hv : v = .ty n := hv
  subst hv; exact r
end
end Yb
set_option maxHeartbeats 2000000
namespace Yb
open PySem PySem.Spec PyProof.Rows L2
/-! ### where an error is handled: a list walked to its end, any, a def called with that error -/
section
variable {prog : Program} {w : World} {A : Around} {E : Value → Shared → Prop} {s : Shared}
theorem listEnd_hot {it l x1 : Addr} {i : Nat} {ar : Array Value} {Q : Option Value → Shared → Prop} (hot : HotX.HotAt A x1 s.heap) (hx1 : x1 ≠ it) (hI : s.heap.IsListIter it l i) (hL : s.heap.IsList l ar) (hN : ar[i]? = none)
    (hq : ∀ h', (∀ b o, b ≠ it → s.heap.get? b = some o → h'.get? b = some o) → Q none { s with heap := h' }) : wpAny (model prog w) A (pyNext (.ref it)) Q E s := by
  obtain ⟨oi, gi, ci, di⟩ := id hI
  obtain ⟨ol, gl, _, nl, dl⟩ := hL
  obtain ⟨hh, o1, vs1, g1, d1, c1⟩ := hot
  unfold pyNext
  apply wpAny_bind; apply wpAny_attempt
  apply wpAny_callSpecial?_slot (name := Str.ofString "__next__") hI.typeIs slot_listiter_next
  apply wpAny_call_entry slot_listiter_next hI.typeIs entry_listiter_next _ (args_listiter_next _)
  apply wpAny_bind (wpAny_field gi di (x := .ref l) rfl _)
  rw [if_neg (by exact Bool.false_ne_true)]
  apply wpAny_bind (wpAny_field gi di (x := .int i 0) rfl _)
  apply wpAny_bind (wpAny_seqItems gl dl _)
  simp only [Int.toNat_natCast, hN]
  apply wpAny_bind; apply wpAny_rule; apply wpAny_bind
  apply wpAny_setField gi di (by simp)
  apply wpAny_bind
  simp only [newExc, newTuple]
  apply wpAny_bind; refine wpAny_newObj_type ?_ (by size_fits)
  apply wpAny_bind (m := firstArgMember _ _)
  refine wpAny_of_eq (a := Value.none) (by first | rfl | (simp only [firstArgMember]; rfl)) ?_
  refine wpAny_newObj_type ?_ (by size_fits)
  have k1 : ∀ {f : Array Value → Array Value}, (s.heap.update it (Obj.mapFields f)).get? x1 = some o1 := fun {f} => by rw [Heap.get?_update_other _ _ (Ne.symm hx1)]; exact g1
  refine HotX.raiseNew_hot ⟨hh, o1, vs1, Heap.get?_push_of_some _ (Heap.get?_push_of_some _ k1), d1, c1⟩ (Nat.ne_of_lt (Heap.lt_size (Heap.get?_push_of_some _ k1))) (Heap.get?_push_size _ rfl) rfl (by first | (simp; done) | (simp; omega) | (simp only [Array.size_append]; simp; omega)) ?_
  apply wpAny_bind
  refine wpAny_isInstance (T := "StopIteration") (b := true) ⟨_, Heap.get?_update_self _ (Heap.get?_push_size _ rfl) rfl, rfl⟩ isSubtype_stop ?_
  refine wpAny_pure (hq _ fun b o nb e => ?_)
  have e2 : (s.heap.update it (Obj.mapFields (·.setIfInBounds 0 Value.none))).get? b = some o := by rw [Heap.get?_update_other _ _ (Ne.symm nb)]; exact e
  rw [Heap.get?_update_other _ _ (Nat.ne_of_gt (Heap.lt_size (Heap.get?_push_of_some _ e2)))]
  exact Heap.get?_push_of_some _ (Heap.get?_push_of_some _ e2)
theorem walks_hot {I ax x1 : Addr} (hne : ax ≠ I) (hx : x1 ≠ I) (hh : A.handled = some (.ref x1)) {o1 : Obj} {vs1 : Array Value} (d1 : o1.data = .fields vs1) (c1 : vs1[2]? = some .none) (ar : Array Value) :
    Walks prog w A I [I, ax, x1] [I] ar.size (fun i v => ar[i]? = some v) (fun i h => h.IsListIter I ax i ∧ h.IsList ax ar ∧ h.get? x1 = some o1) where
  sub := fun b hb => by rw [List.mem_singleton] at hb; subst hb; exact List.mem_cons_self
  frame := fun _ _ _ st hk => ⟨st.1.at fun o e => hk I (by simp) o e, st.2.1.at fun o e => hk ax (by simp) o e, hk x1 (by simp) _ st.2.2⟩
  item := fun i s Q E hi st hQ => wpAny_pyNext_list_item st.1 st.2.1 (x := ar[i]) (by simp [hi]) fun h' it' sb => hQ _ h' s.toks (by simp [hi]) ⟨it', st.2.1.extBut sb.extBut hne, sb.extBut x1 _ hx st.2.2⟩ fun b o nb e => sb.extBut b o (fun z => nb (by rw [z]; exact List.mem_singleton.mpr rfl)) e
  done := fun s Q E st hQ => listEnd_hot ⟨hh, o1, vs1, st.2.2, d1, c1⟩ hx st.1 st.2.1 (by simp) fun h' k => hQ h' s.toks fun b o nb e => k b o (fun z => nb (by rw [z]; exact List.mem_singleton.mpr rfl)) e
  self := fun _ s _ _ st hQ => wpAny_pyIter_listiter st.1 hQ
end
theorem cr_anyH {X : Cx} (hc : L2H.HotC X) : CallR X (.builtin "any") (rAny X.K) := by
  intro pins s σ H vs us Q I r h
  obtain ⟨p, ⟨hh, vs1, d1, c1⟩, hp⟩ := hc
  obtain ⟨a, bs, rfl, hs, q⟩ := h
  obtain ⟨its, rv, hl, _⟩ := I.list hs
  rw [Vals.ref1 r]
  have bools := rv.bls
  have gp := (I.pin p (List.mem_append_left _ hp)).1
  apply call_any_walk
  apply iter_any hl.isList
  intro st2 eq2 st hne
  subst eq2
  exact ⟨_, _, _, _, _, _, _, rfl, walks_hot (A := X.A.in1) hne (Nat.ne_of_lt (Heap.lt_size gp)) hh d1 c1 its.toArray, ⟨st.1, st.2, Heap.get?_push_of_some _ gp⟩, truth_bools bools, fun h' tk hk => ⟨.bl _, H, I.kept fun b o eo => hk b o (fun hm => by
    rw [List.mem_singleton] at hm
    exact absurd (hm ▸ Heap.lt_size eo) (Nat.lt_irrefl _)) (Heap.get?_push_of_some _ eo), by
      show Value.bool _ = Value.bool _
      rw [← L2.any_range, bools, List.size_toArray, List.length_map], q⟩⟩
section
variable {X : Cx} {Γ : Gam} {Δ : Del} {a b : Expr} {pos px : Pos} {k : Bool} {ad D : Addr} {oe : Obj} {P : Pr}
theorem ee_anyH {bs : List Bool} (hc : L2H.HotC X) (ha : ES X Γ Δ a (bs.map Bo)) (hg : Gl X "any") (hm : X.mg "any" = none) (hs : starEach [a] X.env = (false, eval a X.env) :: starEach [] X.env := by rfl) : EE X Γ Δ (.Call (.Name "any" px) [a] [] pos) (Bo (bs.any id)) := fun W B H σ S s Q q =>
  wpE_of (pe_callB (cr_anyH hc) hg hm (by decide +kernel) (pa_cons pe_wp pa_nil hs) (he := hs)) (ha W B H σ S s _ fun l xs B1 H1 e1 h1 h2 => ⟨l, bs, rfl, by rw [← all_bools h2]; exact h1, q _ B1 H1 e1 rfl⟩)
/-- isinstance(e, c), e a pinned error of the class D -/
theorem call_isP (Z : ExcC X.K D) (hp : (ad, oe) ∈ X.pn) (hz : L2N.Zn (.ref D) none oe) (hf : ∃ vs, oe.data = .fields vs) : CallR X (.builtin "isinstance") (rIsE X.K D ad) := by
  intro pins s σ H xs us Q I r h
  obtain ⟨c, cv, k, rfl, hcv, e, q⟩ := h
  match us, r with
  | [u1, u2], .cons r1 (.cons r2 .nil) =>
    cases r1
    obtain rfl := hcv _ r2
    obtain ⟨vs, hv⟩ := hf
    have J : PySem.W.InstAt s.heap ad oe D none := by
      have g := (I.pin (ad, oe) (List.mem_append_left _ hp)).1
      obtain ⟨oc, od, oda, osl⟩ := oe
      obtain ⟨h1, h2, _⟩ := hz
      dsimp only at h1 h2 hv
      subst h1 h2 hv
      exact ⟨g, rfl, rfl, trivial⟩
    exact PySem.W.kia_one (PySem.W.handS_kitx_exc Z.hg Z.hk Z.hs Z.hd Z.ha Z.hn Z.ht Z.hm) I.kIn J e (fun z => nomatch z) fun tk => ⟨.bl k, H, I.kept (t' := tk) fun _ _ z => z, rfl, q⟩
theorem ee_isP {cv : Value} (Z : ExcC X.K D) (hp : (ad, oe) ∈ X.pn) (hz : L2N.Zn (.ref D) none oe) (hf : ∃ vs, oe.data = .fields vs) (ha : EE X Γ Δ a (Ref ad)) (hb : EE X Γ Δ b P) (hP : ∀ h B v u, P.p h B v → RelV v u → u = cv) (hk : PySem.W.kitOne X.K (.ref D) cv = some k)
    (hg : Gl X "isinstance") (hm : X.mg "isinstance" = none) (hs : starEach [a, b] X.env = (false, eval a X.env) :: starEach [b] X.env := by rfl) (hs2 : starEach [b] X.env = (false, eval b X.env) :: starEach [] X.env := by rfl) (hpl : (backTo pos (starEach [b] X.env)).any (·.1) = false := by rfl) :
    EE X Γ Δ (.Call (.Name "isinstance" px) [a, b] [] pos) (Bo k) := fun W B H σ S s Q q =>
  wpE_of (pe_callB (call_isP Z hp hz hf) hg hm (by decide +kernel) (pa_cons pe_wp (pa_cons pe_wp pa_nil hs2) hs) (he := hs) (hpl := hpl)) (ha W B H σ S s _ fun v B1 H1 e1 h1 => hb W B1 H1 σ (S.ext e1) (s.mono e1.bb) _ fun u B2 H2 e2 h2 => by
    have ev : v = .ref ad := h1
    subst ev
    exact ⟨u, cv, k, rfl, fun w r => hP _ _ _ _ h2 r, hk, q _ B2 H2 (e1.trans e2) rfl⟩)
end
/-- a def of one parameter that answers, of the error of the class D that is handled, ans -/
structure FnE (P : Program) (w : World) (K : PySem.W.Frag) (mg : Str → Option Value) (base : Heap) (k : Nat) (f : Addr) (fd : FuncData) (x : Str) (D : Addr) (ans : Pr) : Prop where
  run : ∀ (A : Around) (outer : List Env) (s : Shared) (H : Hp) (Q : VK) (p : Addr × Obj), L2H.RoomH k A → L2H.Hot1 A p → L2N.Zn (.ref D) none p.2 → L2H.PinOk outer H s p → Env0 P w K mg base A outer s H → BindsTo s fd ⟨[.ref p.1], []⟩ [(x, .ref p.1)] → (∀ v H', Same H H' → ans.p h0 h0 v → Q v H') →
    codeAny (model P w) A (.call (.ref f) ⟨[.ref p.1], []⟩) (CR (L2N.CX P w) outer P w H s Q E0) s
theorem fn_goE {P : Program} {w : World} {K : PySem.W.Frag} {mg : Str → Option Value} {base : Heap} {x qual y : Str} {st : Stmt} {f D : Addr} {fd : FuncData} {N : List Str} {k : Nat} {ans : Pr} (F : FunD K x qual (defArgs st) (defBody st) (defScope st) [] [] f fd) (S : FnScope N [y] (defScope st)) (hans : Sc ans)
    (hbody : ∀ (cdv : Value) (A : Around) (outer : List Env) (s : Shared) (H : Hp) (p : Addr × Obj), L2H.RoomH k (A.deeper (envOfC qual (defScope st) s.heap.objs.size f cdv)) → L2H.Hot1 A p → L2N.Zn (.ref D) none p.2 →
      Go (L2H.cxH (L2N.CX P w) P w K mg base N qual (defScope st) f cdv A outer s H E0 p) [] (gam0 N [Ref p.1]) [] (defBody st) { rt := fun P' _ => P' = ans }) : FnE P w K mg base (k + 1) f fd y D ans := by
  obtain ⟨oc, od, dV, kV, doc, pm, an, cdv, ct, osl, rfl, lk, hcd, _, _⟩ := F.ex
  refine ⟨fun A outer s H Q p hr hot hz hpin e0 hb hq => ?_⟩
  have KX : K.In s.heap := e0.mod.kin.keeps fun b o e => (e0.bs b o e).1
  apply codeAny_call_function hr.depth (KX _ _ lk) rfl S.co S.gen rfl (PySem.W.codeRec_of KX hcd) (hb _ _ _ _ _)
  apply wpAny_newFunctionEnv_cells S.kind
  · intro q hq2
    have e1 : q = (y, .ref p.1) := List.mem_singleton.mp hq2
    subst e1
    exact (S.par y (List.mem_singleton.mpr rfl)).imp id fun z => ⟨z, PySem.W.cellsFrom_some _ _ _ (.inl z)⟩
  intro env he s1 xc
  subst he
  refine ⟨(e0.mod.nolimit.keeps fun b o e => (e0.bs b o e).1).keeps xc.toInCall.keep, codeAny_func ?_⟩
  have I : Inv (L2H.cxH (L2N.CX P w) P w K mg base N qual (defScope st) f cdv A outer s H E0 p) [] (L2.start N [.ref p.1]) H s1 := L2H.inv_startH (ps := [y]) (us := [.ref p.1]) (vs := [.ref p.1]) S hpin e0 rfl (.cons rfl .nil) xc
  have hpl : 1 ≤ N.length := by
    have := congrArg List.length S.pre
    rw [List.length_take] at this
    exact Nat.le_of_not_lt fun z => by simp at this; omega
  have g := hbody cdv A outer s H p (hr.deeper _) hot hz ⟨fun _ => none, H, []⟩ (fun cls d _ H' => E0 cls d H') (fun _ => none) H (L2.start N [.ref p.1]) { nx := fun _ _ => False, rt := Q } rfl (L2N.takes_of rfl rfl rfl rfl)
    (Stb.refl (W := ⟨fun _ => none, H, []⟩) (fun _ _ z => nomatch z) (fun _ z => nomatch z) List.nodup_nil fun _ z => nomatch z) (sl_start (by simpa using hpl) ⟨rfl, trivial⟩)
    ⟨fun _ _ _ _ _ q => q.elim, fun P' Δ' B' H' v q S' hv => hq v H' (fun a o e => S'.hh a o e (fun z => nomatch z)) (by cases q; exact hans _ _ _ _ _ hv), fun _ _ _ _ _ q => q.elim, fun _ _ _ _ _ q => q.elim, fun _ _ _ _ _ _ q => q.elim⟩
  refine wpAny_mono (g [] s1 I) (fun fl s' hs => ?_) fun e s' hs => hs
  cases fl with
  | ret u =>
    obtain ⟨v, σ', H', J, rv, q⟩ := hs
    exact ⟨v, H', J.os, J.bare, J.base, J.hok, rv, q⟩
  | next =>
    obtain ⟨_, _, _, q⟩ := hs
    exact q.elim
  | brk =>
    obtain ⟨_, _, _, q⟩ := hs
    exact q.elim
  | cont =>
    obtain ⟨_, _, _, q⟩ := hs
    exact q.elim
structure Fne (P : Program) (w : World) (K : PySem.W.Frag) (mg : Str → Option Value) (base : Heap) (x : Str) (D : Addr) (ans : Pr) (k : Nat) : Prop where
  ex : ∃ f fd y, FnE P w K mg base k f fd y D ans ∧ mg x = some (.ref f) ∧ PySem.W.keepIn K (.ref f) = true ∧ Binds K fd [y] []
/-- f(e) within the suite that holds e -/
theorem ee_callE {X : Cx} {Γ : Gam} {Δ : Del} {x : Str} {D ad : Addr} {oe : Obj} {ans : Pr} {k : Nat} {a : Expr} {pos q : Pos} (F : Fne X.prog X.w X.K X.mg X.base x D ans k) (hsc : Sc ans) (hr : L2H.RoomH k X.A) (hA : X.A.handled = some (.ref ad)) (hp : (ad, oe) ∈ X.pn) (hz : L2N.Zn (.ref D) none oe) (hf : ∃ vs, oe.data = .fields vs)
    (hg : Gl X x) (ha : EE X Γ Δ a (Ref ad)) (hdb : (x == ("__debug__" : Str)) = false := by decide) (hs : starEach [a] X.env = (false, eval a X.env) :: starEach [] X.env := by rfl) (hpl : (backTo pos (starEach [] X.env)).any (·.1) = false := by rfl) : EE X Γ Δ (.Call (.Name x q) [a] [] pos) ans := fun W B H σ S s Q qq pins st I => by
  obtain ⟨f, fd, y, F, hm, hk, hb⟩ := F.ex
  apply wpAny_Call_Name_kw (ld_glob I hg hm _ hdb)
  apply PySem.W.callWith_K (h₀ := X.base) I.ok.mod.kin hk _ hs hpl
  have pa : PA X [a] (tCons (wpE X a) tNil) := pa_cons pe_wp pa_nil hs
  refine thn (pa.run pos pins st σ H (fun vs H1 => vs = [.ref ad] ∧ ∃ B1, Ext B H B1 H1) I (ha W B H σ S s _ fun v B1 H1 e1 h1 => ⟨by have h1 : v = .ref ad := h1; rw [h1], B1, e1⟩)) fun us s1 ⟨vs, H1, I1, r, ev, B1, e1⟩ => ⟨I1.kIn, ?_⟩
  subst ev
  rw [Vals.ref1 r]
  have P1 := I1.pin (ad, oe) (List.mem_append_left _ hp)
  obtain ⟨vs0, hv⟩ := hf
  have hot : L2H.Hot1 X.A (ad, oe) := ⟨hA, vs0, hv, hz.2.2 vs0 hv⟩
  have hpin : L2H.PinOk X.stack H1 s1 (ad, oe) := ⟨P1.1, P1.2.1, fun hm => (List.mem_cons.mp (I1.stkSub ad hm)).elim P1.2.2.1 P1.2.2.2.1, P1.2.2.2.2⟩
  have bb := hb s1 [.ref ad] I1.kIn rfl
  refine wpAny_call (codeAny_mono (F.run X.A X.stack s1 H1 Q (ad, oe) hr hot hz hpin I1.env0 bb fun v H2 e2 hv2 => qq v B1 H2 (e1.trans ⟨Same.refl _, e2, e1.bh.trans e2, fun _ h _ => h⟩) (hsc _ _ _ _ _ hv2)) fun rr s2 hq => ?_)
  cases rr with
  | error e => exact passN pins σ H1 s1 e s2 I1 hq
  | ok fl =>
    cases fl with
    | ret u => exact I1.after hq
    | next => exact hq.elim
    | brk => exact hq.elim
    | cont => exact hq.elim
end Yb
set_option maxHeartbeats 2000000
namespace Yb
open PySem PySem.Spec PyProof.Rows L2
/-! ### a call that may raise and changes no entry -/
theorem em_call0 {X : Cx} {ms : List Addr} {Γ : Gam} {Δ : Del} {e : Expr} {C : Cn → Prop} {Ps : List Pr} (j : ∀ Wi, L2N.Takes X Wi → CJ X Γ Δ e C (WE Wi) Ps) (c : Cn) (hc : C c) (hp : c.ps = Ps := by rfl) (hΔ : c.Δ = [] := by rfl) :
    EM X ms Γ Δ e (fun P Δ' => (∃ D, c.out P D) ∧ Δ' = Δ) (fun v Δ' => (∃ D, c.exc v D) ∧ Δ' = Δ) := fun W Wi B H σ hm tk S s hx Q q =>
  j Wi tk W B H σ S s Q fun vs B1 H1 e1 h1 => by
    refine ⟨c, B1, hc, e1.bh, by rw [hp]; exact all_h0 h1, by rw [hΔ]; exact fun _ z => (List.not_mem_nil z).elim, by rw [hΔ]; exact List.nodup_nil, fun P' Δ' B' H' v o S' hv => ?_, fun x Δ' B' H' o S' => ?_⟩
    · rw [hΔ] at S'
      have e2 := e1.trans (Stb.pure S')
      exact q P' Δ v B' H' ⟨⟨_, o⟩, rfl⟩ (S.ext e2) e2.bb (P'.anti (fun a h => (S.ext e1).dm a h) hv)
    · rw [hΔ] at S'
      have e2 := e1.trans (Stb.pure S')
      exact hx x Δ B' H' ⟨⟨_, o⟩, rfl⟩ (S.ext e2) e2.bb
/-! ### defs where they stand -/
abbrev Fu (K : PySem.W.Frag) (x qual : Str) (st : Stmt) (f : Addr) (fd : FuncData) : Prop := FunD K x qual (defArgs st) (defBody st) (defScope st) [] [] f fd
section
variable {P : Program} {w : World} {K : PySem.W.Frag} {mg : Str → Option Value} {base : Heap} {x y : Str} {f Cl D : Addr} {fd : FuncData} {ps : List Str} {C : Cn → Prop} {k : Nat} {ans : Pr} {ds : List Value} {dvs : List V}
theorem fnc_mk (g : FnOk P w K mg base (L2N.CX P w) k f fd ps (spC C)) (hm : mg x = some (.ref f)) (kp : PySem.W.keepIn K (.ref f) = true) (b : Binds K fd ps []) : Fnc P w K mg base x C k := ⟨_, _, _, g, hm, kp, b⟩
theorem mtc_mk (cl : Cls K Cl) (g : FnOk P w K mg base (L2N.CX P w) k f fd ps (spC C)) (m : Meth K Cl x f) (b : Binds K fd ps []) : Mtc P w K mg base Cl x C k [] := ⟨cl, _, _, _, [], g, m, b, .nil⟩
theorem mtcD_mk (cl : Cls K Cl) (g : FnOk P w K mg base (L2N.CX P w) k f fd ps (spC C)) (m : Meth K Cl x f) (b : Binds K fd ps ds) (hd : Vals dvs ds) : Mtc P w K mg base Cl x C k dvs := ⟨cl, _, _, _, ds, g, m, b, hd⟩
theorem mkc_mk (g : FnOk P w K mg base (L2N.CX P w) k f fd ps (spC C)) (m : Mk K Cl f) (hm : mg x = some (.ref Cl)) (b : Binds K fd ps []) : Mkc P w K mg base x Cl C k := ⟨_, _, _, g, m, hm, b⟩
theorem fne_mk (g : FnE P w K mg base k f fd y D ans) (hm : mg x = some (.ref f)) (kp : PySem.W.keepIn K (.ref f) = true) (b : Binds K fd [y] []) : Fne P w K mg base x D ans k := ⟨_, _, _, g, hm, kp, b⟩
end
/-! ### the facts of the head, and those of the errors -/
inductive Fx where
  | exc (x : Str)
  | kit (x y : Str) (b : Bool)
  | kitT (x : Str) (t : String) (b : Bool)
def Fx.ok (K : PySem.W.Frag) : Fx → Bool
  | .exc x => He.eqO (PySem.W.findIn K (.ref (He.ga K x)) "__getattribute__") (some (some (.builtin "BaseException.__getattribute__"))) && (He.eqO (PySem.W.findIn K (.ref (He.ga K x)) "__getattr__") (some none) && (decide (PySem.W.subIn K (.ref (He.ga K x)) (.type "BaseException") = some true) &&
      (PySem.W.hasDictIn K (He.ga K x) && (He.eqO (PySem.W.findIn K (.ref (He.ga K x)) "__class__") (some (some (.builtin "object.__class__"))) && (He.eqO (PySem.W.specialIn K (.builtin "object.__class__") "__get__") (some (some (.builtin "getset_descriptor.__get__"))) &&
      (decide (PySem.W.takesIn K (.builtin "object.__class__") = some true) && decide (PySem.W.mroIn K (He.ga K x) (.type "object") = some true)))))))
  | .kit x y b => decide (PySem.W.kitOne K (.ref (He.ga K x)) (.ref (He.ga K y)) = some b)
  | .kitT x t b => decide (PySem.W.kitOne K (.ref (He.ga K x)) (.type t) = some b)
section
variable {K : PySem.W.Frag}
theorem fxExc {x : Str} (h : (Fx.exc x).ok K = true) : ExcC K (He.ga K x) := by
  obtain ⟨h1, h⟩ := He.ba h
  obtain ⟨h2, h⟩ := He.ba h
  obtain ⟨h3, h⟩ := He.ba h
  obtain ⟨h4, h⟩ := He.ba h
  obtain ⟨h5, h⟩ := He.ba h
  obtain ⟨h6, h⟩ := He.ba h
  obtain ⟨h7, h8⟩ := He.ba h
  exact ⟨He.eqO_ok h1, He.eqO_ok h2, of_decide_eq_true h3, h4, He.eqO_ok h5, He.eqO_ok h6, of_decide_eq_true h7, of_decide_eq_true h8⟩
theorem fxKit {x y : Str} {b : Bool} (h : (Fx.kit x y b).ok K = true) : PySem.W.kitOne K (.ref (He.ga K x)) (.ref (He.ga K y)) = some b := of_decide_eq_true h
theorem fxKitT {x : Str} {t : String} {b : Bool} (h : (Fx.kitT x t b).ok K = true) : PySem.W.kitOne K (.ref (He.ga K x)) (.type t) = some b := of_decide_eq_true h
end
abbrev AlX : Type := Bool × He.AlD
def obsX (fx : List Fx) (fa : List He.Fa) (fn : List He.DefD) (K : PySem.W.Frag) : AlX := (fx.all fun f => f.ok K, He.obsD fa fn K)
def SaysX (fx : List Fx) (fa : List He.Fa) (fn : List He.DefD) (K : PySem.W.Frag) : Prop := obsX fx fa fn K = (true, He.valD fn)
def obsXG (n : Nat) (fx : List Fx) (fa : List He.Fa) (fn : List He.DefD) (g : Addr → Option Obj) : AlX := obsX fx fa fn (He.frG g (He.asD g n))
def hookX (n : Nat) (fx : List Fx) (fa : List He.Fa) (fn : List He.DefD) : PySem.W.Hook where
  α := AlX
  obs := fun s => obsXG n fx fa fn s.heap.get?
  val := fun _ => (true, He.valD fn)
  says := fun _ h => ∃ K : PySem.W.Frag, K.In h ∧ SaysX fx fa fn K
  of := fun _ _ e => ⟨_, He.frG_in, e⟩
  keeps := fun _ _ _ ⟨K, hK, c⟩ k => ⟨K, PySem.W.Frag.In.keeps hK k, c⟩
theorem obsXG_eq {n : Nat} {fx : List Fx} {fa : List He.Fa} {fn : List He.DefD} {g : Addr → Option Obj} {s : Shared} (h : ∀ a, g a = s.heap.get? a) : obsXG n fx fa fn g = (hookX n fx fa fn).obs s := by
  have e : g = s.heap.get? := funext h
  rw [e] <;> rfl
theorem SaysX.d {fx : List Fx} {fa : List He.Fa} {fn : List He.DefD} {K : PySem.W.Frag} (c : SaysX fx fa fn K) : He.SaysD fa fn K := congrArg (fun z : AlX => z.2) c
theorem SaysX.x {fx : List Fx} {fa : List He.Fa} {fn : List He.DefD} {K : PySem.W.Frag} (c : SaysX fx fa fn K) (i : Nat) {f : Fx} (h : fx[i]? = some f := by rfl) : f.ok K = true :=
  List.all_eq_true.mp (congrArg (fun z : AlX => z.1) c) f (List.mem_of_getElem? h)
/-! ### the law -/
def c_law (K : PySem.W.Frag) (sc : List Int) : Cn := ⟨[Scr K sc], fun P _ => P = Bo true, [], fun _ _ => False⟩
def C_law (K : PySem.W.Frag) : Cn → Prop := fun c => ∃ sc : List Int, sc.length ≤ 63 ∧ c = c_law K sc
theorem law_sp {K : PySem.W.Frag} {H : Hp} {a : Addr} {ns : List Int} (hl : ns.length ≤ 63) (hS : SqL K H a (ns.map V.int)) : spC (C_law K) [.ref a] H (fun v _ => v = .bl true) fun _ _ _ => False :=
  ⟨c_law K ns, H, ⟨ns, hl, rfl⟩, Same.refl H, ⟨⟨a, rfl, hS⟩, trivial⟩, fun _ z => (List.not_mem_nil z).elim, List.nodup_nil, fun P' Δ' B' H' v o _ hv => by
    have o : P' = Bo true := o
    subst o
    exact hv, fun _ _ _ _ z _ => z⟩
theorem cx_no {P : Program} {w : World} : ∀ (H : Hp) (s : Shared) (e : Value) (s' : Shared), L2N.CX P w [] H s (fun _ _ _ => False) e s' → False := fun _ _ _ _ h => by
  obtain ⟨_, _, _, _, _, _, _, _, _, _, _, _, z⟩ := h
  exact z
end Yb
set_option maxHeartbeats 2000000
namespace Yb
open PySem PySem.Spec PyProof.Rows L2
/-! ### C(e, ..) whose __init__ may raise -/
theorem pe_makeS {X : Cx} {CX : CXT} {k : Nat} {f C : Addr} {fd : FuncData} {ps : List Str} {sp : Sp} {E : L2.St → XK} {x : Str} {p pos : Pos} {e : Expr} {es : List Expr} {t : TA} (M : Mk X.K C f) (F : FnOk X.prog X.w X.K X.mg X.base CX k f fd ps sp) (hr : Room (k + 1) X.A) (hg : Gl X x) (hm : X.mg x = some (.ref C)) (hb : Binds X.K fd ps [])
    (hx : ∀ σ, PassesAt CX X σ (E σ)) (ha : PA X (e :: es) t) (hdb : (x == ("__debug__" : Str)) = false := by decide) (he : starEach (e :: es) X.env = (false, eval e X.env) :: starEach es X.env := by rfl) (hpl : (backTo pos (starEach es X.env)).any (·.1) = false := by rfl) :
    PE X (.Call (.Name x p) (e :: es) [] pos) (fun σ H Q => t σ H fun vs H1 => ∀ a dx, H1 a = none → H1 dx = none → dx ≠ a → sp (.ref a :: vs) (upd (upd H1 dx (.own a)) a (.ins C dx [])) (fun v H2 => v = .non ∧ Q (.ref a) H2) (E σ)) := by
  refine ⟨fun pins s σ H Q I h => wpAny_Call_Name_kw (ld_glob I hg hm ?_ hdb)⟩
  refine PySem.W.callWith_K (h₀ := X.base) I.ok.mod.kin M.kp (thn (ha.run pos pins s σ H _ I h) fun us s1 ⟨vs, H1, J, r, q⟩ => ⟨J.kIn, ?_⟩) he hpl
  have J2 := Inv.made (C := C) J
  have hq := q _ _ (J.hok.fresh (Nat.le_succ s1.heap.objs.size)) (J.hok.fresh (Nat.le_refl s1.heap.objs.size)) (Nat.ne_of_lt (Nat.lt_succ_self _))
  have r2 : Vals (V.ref (s1.heap.objs.size + 1) :: vs) (Value.ref (s1.heap.objs.size + 1) :: us) := .cons rfl r
  have hl : (Value.ref (s1.heap.objs.size + 1) :: us).length = ps.length := r2.length.symm.trans (F.len _ _ _ _ hq)
  have hb2 := hb _ (Value.ref (s1.heap.objs.size + 1) :: us) J2.kIn (by rw [List.append_nil]; exact hl)
  rw [List.append_nil] at hb2
  refine wpAny_call (make_map (f := f) J.kIn M.makes M.init (beq_iff_eq.mp M.fn) (codeAny_mono (F.run _ X.stack _ _ ⟨Value.ref (s1.heap.objs.size + 1) :: us, []⟩ _ _ _ (E σ) (hr.make C us []) (J2.env0.make C us []) hb2 r2 hq) fun rr s2 hh => ?_))
  cases rr with
  | error er => exact hx σ pins _ _ er s2 J2 hh
  | ok fl =>
    cases fl with
    | ret u =>
      obtain ⟨v, H2, J3, rv, ev, q3⟩ := J2.after hh
      subst ev
      exact ⟨rv, .ref (s1.heap.objs.size + 1), H2, J3, rfl, q3⟩
    | next => exact hh.elim
    | brk => exact hh.elim
    | cont => exact hh.elim
section
variable {X : Cx} {ms : List Addr} {Γ : Gam} {Δ : Del} {K : Kk} {rest : List Stmt} {e a b o : Expr} {es : List Expr} {P P' : Pr} {Ps ps dps : List Pr} {pos pos' apos p2 : Pos} {x f m : Str} {C : Addr} {ns : List Str} {k j : Nat} {Cs : Cn → Prop}
theorem em_makeX {q : Pos} (F : Mkc X.prog X.w X.K X.mg X.base x C Cs k) (hr : Room (j + 1) X.A) (hk : k ≤ j) (hg : Gl X x) (ha : EA X Γ Δ (e :: es) Ps) (c : Addr → Cn) (hc : ∀ l, Cs (c l)) (G : Del → List Pr → Prop) (hp : ∀ l, (c l).ps = Ref l :: Ps := by intro _; rfl) (hΔ : ∀ l, (c l).Δ = [(l, MI C [] [])] := by intro _; rfl)
    (ho : ∀ l P Δ', (c l).out P Δ' → P = No ∧ ∃ Δn qs, Δ' = (l, MI C ns qs) :: Δn ∧ G Δn qs := by exact fun _ _ _ q => q) (hdb : (x == ("__debug__" : Str)) = false := by decide)
    (he : starEach (e :: es) X.env = (false, eval e X.env) :: starEach es X.env := by rfl) (hpl : (backTo pos (starEach es X.env)).any (·.1) = false := by rfl) :
    EM X ms Γ Δ (.Call (.Name x q) (e :: es) [] pos) (fun P Δ' => ∃ Δn qs, G Δn qs ∧ P = N (Iv C ns qs) ∧ Δ' = Δn ++ Δ ∧ ∀ z ∈ Δn, z.1 ∉ ms) (fun v Δ' => (∃ l D, (c l).exc v D) ∧ Δ' = Δ) := fun W Wi B H σ hm tk S s hx0 Q qq => by
  obtain ⟨f, fd, pn, F, M, mg, b⟩ := F.ex
  refine wpE_of (pe_makeS (E := WE Wi) M F (Room.mono hr (Nat.succ_le_succ hk)) hg mg b (fun σ => L2N.passAt tk σ) pa_wp hdb he hpl) (ha W B H σ S s _ fun vs B1 H1 e1 h1 => ?_)
  intro l dx hl hdx hne
  have S1 := S.ext e1
  have S2 := S1.ext (Ext.newH (o := .own l) S1.ex hdx)
  have hl2 : upd H1 dx (HO.own l) l = none := by rw [upd_ne (Ne.symm hne)]; exact hl
  obtain ⟨S3, hnm⟩ := S2.new (ob := MI C [] []) (o := .ins C dx []) hl2 ⟨dx, [], rfl, trivial⟩
  have S4 := S3.perm (List.perm_append_comm (l₁ := Δ) (l₂ := [(l, MI C [] [])]))
  have hb1 : B1 l = none := e1.bh.free hl
  refine ⟨c l, B1, hc l, S4.ex, ?_, ?_, ?_, fun P' Δ' B' H' v o S' hv => ?_, fun x Δ' B' H' o S' => ?_⟩
  · rw [hp l]
    exact ⟨rfl, all_h0 h1⟩
  · rw [hΔ l]
    intro z hz
    have ez : z = (l, MI C [] []) := by simpa using hz
    subst ez
    exact ⟨hb1, _, upd_same, dx, [], rfl, trivial⟩
  · rw [hΔ l]
    simp
  · rw [hΔ l] at S'
    obtain ⟨rfl, Δn, qs, rfl, g⟩ := ho l P' Δ' o
    have S5 := S4.call S'
    obtain ⟨o, k1, k2, ⟨dx', xs, rfl, k4⟩, S6, sm⟩ := S5.frz (k := 0) (a := l) (ob := MI C ns qs) rfl hnm
    refine ⟨hv, qq (N (Iv C ns qs)) (Δn ++ Δ) (.ref l) _ H' ⟨Δn, qs, g, rfl, rfl, fun z hz hzm => ?_⟩ S6 ((e1.bb.trans S'.bb).trans sm) ⟨⟨l, dx', xs, rfl, upd_same, k4.mono sm⟩, fun a z => by injection z with z; exact z ▸ k2⟩⟩
    have hzm' : z.1 ∈ W.ms := hm ▸ hzm
    rcases S'.ow z (List.mem_cons_of_mem _ hz) with w1 | w1
    · have e2 : z.1 = l := by simpa using w1
      exact hnm (e2 ▸ hzm')
    · have w1 : upd (upd H1 dx (HO.own l)) l (HO.ins C dx []) z.1 = none := w1
      have hne2 : z.1 ≠ l := fun q => by rw [q, upd_same] at w1; cases w1
      rw [upd_ne hne2] at w1
      have hne3 : z.1 ≠ dx := fun q => by rw [q, upd_same] at w1; cases w1
      rw [upd_ne hne3] at w1
      exact S1.dm _ (S1.msd _ hzm') w1
  · rw [hΔ l] at S'
    exact hx0 x Δ B' H' ⟨⟨l, _, o⟩, rfl⟩ ((S4.call S').sub (List.sublist_append_right Δ' Δ)) (e1.bb.trans S'.bb)
end
theorem perm_out {α : Type} {l : List α} {k : Nat} {x : α} (h : l[k]? = some x) : l.Perm (x :: l.eraseIdx k) := by
  induction l generalizing k with
  | nil => simp at h
  | cons y l ih =>
    cases k with
    | zero =>
      rw [List.getElem?_cons_zero] at h
      cases h
      exact .refl _
    | succ k =>
      rw [List.getElem?_cons_succ] at h
      exact ((ih h).cons y).trans (.swap x y _)
theorem perm_in {α : Type} {l : List α} {k : Nat} {x : α} (y : α) (h : l[k]? = some x) : (y :: l.eraseIdx k).Perm (l.set k y) := by
  have hk := (List.getElem?_eq_some_iff.mp h).1
  have e := perm_out (l := l.set k y) (k := k) (x := y) (List.getElem?_set_self hk)
  have e2 : (l.set k y).eraseIdx k = l.eraseIdx k := by
    rw [List.eraseIdx_eq_take_drop_succ, List.eraseIdx_eq_take_drop_succ]
    congr 1
    · rw [List.take_set_of_le (Nat.le_refl k)]
    · rw [List.drop_set_of_lt (Nat.lt_succ_self k)]
  rw [e2] at e
  exact e.symm
theorem set_id {α : Type} {l : List α} {k : Nat} {x : α} (h : l[k]? = some x) : l.set k x = l := by
  apply List.ext_getElem?
  intro i
  by_cases hi : k = i
  · subst hi
    rw [List.getElem?_set_self (List.getElem?_eq_some_iff.mp h).1, h]
  · rw [List.getElem?_set_ne hi]
/-- a call that changes the k-th entry, or raises -/
theorem em_callAt {X : Cx} {ms : List Addr} {Γ : Gam} {Δ : Del} {e : Expr} {C : Cn → Prop} {Ps : List Pr} (k : Nat) {a : Addr} {ob : Ob} (hk : Δ[k]? = some (a, ob)) (j : ∀ Wi, L2N.Takes X Wi → CJ X Γ Δ e C (WE Wi) Ps) (c : Cn) (hc : C c) (ho : ∀ P D, c.out P D → ∃ ob', D = [(a, ob')]) (hx : ∀ v D, c.exc v D → ∃ ob', D = [(a, ob')]) (hp : c.ps = Ps := by rfl) (hΔ : c.Δ = [(a, ob)] := by rfl) :
    EM X ms Γ Δ e (fun P Δ' => ∃ ob', c.out P [(a, ob')] ∧ Δ' = Δ.set k (a, ob')) (fun v Δ' => ∃ ob', c.exc v [(a, ob')] ∧ Δ' = Δ.set k (a, ob')) := fun W Wi B H σ hm tk S s hx0 Q q =>
  em_call (ms := ms) j c hc (rest := Δ.eraseIdx k) (by rw [hΔ]; exact perm_out hk) hp W Wi B H σ hm tk S s (fun v Δ' B' H' ⟨D, o, e⟩ S' e' => by
    obtain ⟨ob', rfl⟩ := hx v D o
    exact hx0 v _ B' H' ⟨ob', o, rfl⟩ (e ▸ S' |>.perm (perm_in _ hk)) e') Q fun P Δ' v B' H' ⟨D, o, e⟩ S' e' hv => by
    obtain ⟨ob', rfl⟩ := ho P D o
    exact q P _ v B' H' ⟨ob', o, rfl⟩ (e ▸ S' |>.perm (perm_in _ hk)) e' hv
/-- the classes of these names are no class of the error class D's -/
structure Nots (K : PySem.W.Frag) (mg : Str → Option Value) (D : Addr) (ns : List Str) : Prop where
  ok : ∀ x ∈ ns, ∃ C, mg x = some (.ref C) ∧ PySem.W.kitOne K (.ref D) (.ref C) = some false
/-- an error class D, what isinstance says of it, that it is caught -/
structure ErrT (K : PySem.W.Frag) (mg : Str → Option Value) (D : Addr) : Prop where
  ex : ExcC K D
  ve : PySem.W.kitOne K (.ref D) (.type "ValueError") = some true
structure IsC (K : PySem.W.Frag) (mg : Str → Option Value) (D : Addr) (x : Str) (b : Bool) : Prop where
  ok : ∃ C, mg x = some (.ref C) ∧ PySem.W.kitOne K (.ref D) (.ref C) = some b
structure Exm (K : PySem.W.Frag) (mg : Str → Option Value) (D : Addr) (x : Str) (b : Bool) : Prop where
  ok : ∃ C, mg x = some (.ref C) ∧ PySem.W.exmOne K (.ref D) (.ref C) = some b
theorem fnok0 {P : Program} {w : World} {K : PySem.W.Frag} {mg : Str → Option Value} {base : Heap} {k : Nat} {f : Addr} {fd : FuncData} {ps : List Str} {sp : Sp} (F : FnOk P w K mg base (L2N.CX P w) k f fd ps sp) : FnOk P w K mg base CX0 k f fd ps (fun vs H Q _ => sp vs H Q E0) :=
  ⟨fun vs H Q _ h => F.len vs H Q E0 h, fun A outer s H args us vs Q E hr e0 hb hv hs => codeAny_mono (F.run A outer s H args us vs Q E0 hr e0 hb hv hs) fun r s' h => by
    cases r with
    | ok fl => cases fl <;> exact h
    | error e =>
      obtain ⟨_, _, _, _, _, _, _, _, _, _, _, _, z⟩ := h
      exact z⟩
theorem suite_room {X : Cx} {k : Nat} {a : Addr} {pn : List (Addr × Obj)} (hr : Room k X.A) : L2H.RoomH k (X.suite a pn).A := ⟨hr.dp, hr.un⟩
end Yb
set_option maxHeartbeats 2000000
namespace Yb
open PySem PySem.Spec PyProof.Rows L2
/-! ### list.count of flat items -/
def rCountF (K : PySem.W.Frag) : V → List V → Hp → VK → Prop := fun x xs H Q => ∃ (a : Addr) (ys : List V) (y : V), x = V.ref a ∧ xs = [y] ∧ SqL K H a ys ∧ flatV y = true ∧ ys.all flatV = true ∧ Q (.int ((ys.countP fun z => eqV z y : Nat) : Int)) H
theorem countP_eqU {x : V} : ∀ {ys : List V} {us : List Value}, Vals ys us → ys.all flatV = true → us.countP (eqU x) = ys.countP fun z => eqV z x
  | _, _, .nil, _ => rfl
  | y :: ys, u :: us, .cons r t, f => by
    rw [List.all_cons, Bool.and_eq_true] at f
    rw [List.countP_cons, List.countP_cons, countP_eqU t f.2, eqU_of r f.1]
theorem mt_countF {X : Cx} : MtR X "list.count" (rCountF X.K) := by
  intro pins s σ H x xs v us Q I rx rxs h
  obtain ⟨a, ys, y, rfl, rfl, hs, fy, fys, q⟩ := h
  cases rx
  obtain ⟨uy, rfl, ry⟩ := rxs.one
  obtain ⟨its, rv, ⟨⟨cls, dd, data, sl⟩, n, ho, hc, hdn, hd⟩, hlen⟩ := I.list hs
  simp only at hc hd
  subst hc hd
  have hT : s.TypeIs (.ref a) "list" := ⟨_, ho, rfl⟩
  refine call_meets PySem.F.slot_list_count hT PySem.F.entry_list_count (PySem.F.args_list_count_2 _ _) (SeqAt.list_countAt a its.toArray n dd sl uy (eqU y)) ?_
  refine ⟨ho, fun u hu => mem_eqAt ry fy rv fys u (by simpa using hu), .int ((ys.countP fun z => eqV z y : Nat) : Int), H, I.tok _, ⟨s.toks, ?_⟩, q⟩
  show Value.int ((its.toArray.toList.countP (eqU y) : Nat) : Int) s.toks = _
  rw [← countP_eqU rv fys]
section
variable {X : Cx} {ms : List Addr} {Γ : Gam} {Δ : Del} {K : Kk} {rest : List Stmt} {e a b c o : Expr} {es : List Expr} {P P' P2 P3 : Pr} {Ps ps qs : List Pr} {pos pos' apos p2 : Pos} {k k' : Bool} {x y z : Str} {i j : Int} {id : String} {name : Str}
/-- o.name(b), o a list that is read -/
theorem ee_lm1 {r : V → List V → Hp → VK → Prop} (pa : PlainAttrs "list") (slot : Slot "list" name id) (hty : typeOf (.builtin id) = pure (.type "method_descriptor")) (hm : MtR X id r) (ho : ES X Γ Δ o ps) (hb : EE X Γ Δ b P')
    (hr : ∀ h B H l xs u, Same B H → SqL X.K H l xs → All h B ps xs → P'.p h B u → ∀ Q : VK, (∀ v B2 H2, Ext B H B2 H2 → P2.p h B2 v → Q v H2) → r (.ref l) [u] H Q)
    (hbase : attributeBase o name X.env (eval o X.env) = eval o X.env := by rfl) (hfew : ((backTo pos (starEach [b] X.env)).all (fun x => !x.1) && (backToKw pos (keywordEach [] X.env)).all (fun x => x.1.isSome) && decide (([b] : List Expr).length + ([] : List Keyword).length + (if ([] : List Keyword).isEmpty then 0 else 1) < 30)) = true := by rfl)
    (hline : (apos.endLine == pos.line) = true := by rfl) (hs : starEach [b] X.env = (false, eval b X.env) :: starEach [] X.env := by rfl) (hplain : (backTo pos (starEach [] X.env)).any (·.1) = false := by rfl) : EE X Γ Δ (.Call (.Attribute o name apos) [b] [] pos) P2 := fun W B H σ S s Q q =>
  wpE_of (pe_bm pa slot hty hm pe_wp (pa_cons pe_wp pa_nil hs) hbase hfew hline hs hplain) (ho W B H σ S s _ fun l xs B1 H1 e1 h1 h2 => ⟨.inl ⟨rfl, xs, h1⟩, hb W B1 H1 σ (S.ext e1) (s.mono e1.bb) _ fun u B2 H2 e2 h3 =>
    hr _ B2 H2 l xs u e2.bh (Same.seq e2.hh h1) (h2.mono e2.bb) h3 Q fun v B3 H3 e3 h4 => q v B3 H3 ((e1.trans e2).trans e3) h4⟩)
theorem flat_bools (bs : List Bool) : (bs.map V.bl).all flatV = true := by
  rw [List.all_map]; exact List.all_eq_true.mpr fun _ _ => rfl
theorem flat_strs (bs : List Str) : (bs.map V.str).all flatV = true := by
  rw [List.all_map]; exact List.all_eq_true.mpr fun _ _ => rfl
theorem count_bools (bs : List Bool) (k : Bool) : ((bs.map V.bl).countP fun z => eqV z (.bl k)) = bs.count k := by
  rw [List.countP_map]; rfl
theorem ee_countB {bs : List Bool} (ho : ES X Γ Δ o (bs.map Bo)) (hb : EE X Γ Δ b (Bo k)) (hbase : attributeBase o "count" X.env (eval o X.env) = eval o X.env := by rfl) (hfew : ((backTo pos (starEach [b] X.env)).all (fun x => !x.1) && (backToKw pos (keywordEach [] X.env)).all (fun x => x.1.isSome) && decide (([b] : List Expr).length + ([] : List Keyword).length + (if ([] : List Keyword).isEmpty then 0 else 1) < 30)) = true := by rfl)
    (hline : (apos.endLine == pos.line) = true := by rfl) (hs : starEach [b] X.env = (false, eval b X.env) :: starEach [] X.env := by rfl) (hplain : (backTo pos (starEach [] X.env)).any (·.1) = false := by rfl) : EE X Γ Δ (.Call (.Attribute o "count" apos) [b] [] pos) (I ((bs.count k : Nat) : Int)) :=
  ee_lm1 PySem.F.plainAttrs_list PySem.F.slot_list_count PySem.F.type_list_count mt_countF ho hb (fun h B H l xs u e h1 h2 h3 Q q => by
    have eu : u = .bl k := h3
    have ex := all_bools h2
    subst eu ex
    exact ⟨l, _, _, rfl, rfl, h1, rfl, flat_bools bs, by rw [count_bools]; exact q _ B H (Ext.refl e) rfl⟩) hbase hfew hline hs hplain
theorem ee_indexB {bs : List Bool} {n : Nat} (hn : bs[n]? = some k) (hno : ∀ m, m < n → bs[m]? = some (!k)) (ho : ES X Γ Δ o (bs.map Bo)) (hb : EE X Γ Δ b (Bo k)) (hbase : attributeBase o "index" X.env (eval o X.env) = eval o X.env := by rfl) (hfew : ((backTo pos (starEach [b] X.env)).all (fun x => !x.1) && (backToKw pos (keywordEach [] X.env)).all (fun x => x.1.isSome) && decide (([b] : List Expr).length + ([] : List Keyword).length + (if ([] : List Keyword).isEmpty then 0 else 1) < 30)) = true := by rfl)
    (hline : (apos.endLine == pos.line) = true := by rfl) (hs : starEach [b] X.env = (false, eval b X.env) :: starEach [] X.env := by rfl) (hplain : (backTo pos (starEach [] X.env)).any (·.1) = false := by rfl) : EE X Γ Δ (.Call (.Attribute o "index" apos) [b] [] pos) (I (n : Int)) :=
  ee_lm1 PySem.F.plainAttrs_list PySem.F.slot_list_index PySem.F.type_list_index mt_index ho hb (fun h B H l xs u e h1 h2 h3 Q q => by
    have eu : u = .bl k := h3
    have ex := all_bools h2
    subst eu ex
    refine ⟨l, _, .bl k, n, .bl k, rfl, rfl, h1, rfl, flat_bools bs, by rw [List.getElem?_map, hn]; rfl, by cases k <;> rfl, fun m z' hm hz => ?_, q _ B H (Ext.refl e) rfl⟩
    rw [List.getElem?_map, hno m hm] at hz
    have hz : some (V.bl (!k)) = some z' := hz
    cases hz
    cases k <;> rfl) hbase hfew hline hs hplain
theorem inV_bools (k : Bool) (bs : List Bool) : inV (.bl k) (bs.map V.bl) = decide (k ∈ bs) := by
  unfold inV
  rw [List.any_map, Bool.eq_iff_iff, List.any_eq_true, decide_eq_true_eq]
  constructor
  · rintro ⟨y, hy, e⟩
    have e2 : y = k := by simpa [eqV] using e
    exact e2 ▸ hy
  · intro h
    exact ⟨k, h, by simp [eqV]⟩
theorem inV_strs (t : Str) (bs : List Str) : inV (.str t) (bs.map V.str) = decide (t ∈ bs) := by
  unfold inV
  rw [List.any_map, Bool.eq_iff_iff, List.any_eq_true, decide_eq_true_eq]
  constructor
  · rintro ⟨y, hy, e⟩
    have e2 : y = t := by simpa [eqV] using e
    exact e2 ▸ hy
  · intro h
    exact ⟨t, h, by simp [eqV]⟩
theorem et_inB {bs : List Bool} (ha : EE X Γ Δ a (Bo k)) (hb : ES X Γ Δ b (bs.map Bo)) (hm : behindInMarks .In b = false := by rfl) : ET X Γ Δ (.Compare a [.In] [b] pos) (decide (k ∈ bs)) := fun W B H σ S s Q q =>
  wpT_of (pt_cmpR op_in_seq pe_wp pe_wp hm) (ha W B H σ S s _ fun v B1 H1 e1 h1 => hb W B1 H1 σ (S.ext e1) (s.mono e1.bb) _ fun l xs B2 H2 e2 h2 h3 => by
    have ev : v = .bl k := h1
    have ex := all_bools h3
    subst ev ex
    exact ⟨l, _, rfl, .inl h2, rfl, flat_bools bs, by rw [if_neg Bool.false_ne_true, inV_bools]; exact ⟨_, rfl, q B2 H2 (e1.trans e2)⟩⟩)
/-- a text in a tuple of texts -/
theorem et_inT {t : Str} {ts : List Str} (ha : EE X Γ Δ a (Sx t)) (hb : EE X Γ Δ b (T (ts.map Sx))) (hm : behindInMarks .In b = false := by rfl) : ET X Γ Δ (.Compare a [.In] [b] pos) (decide (t ∈ ts)) := fun W B H σ S s Q q =>
  wpT_of (pt_cmpR op_in_seq pe_wp pe_wp hm) (ha W B H σ S s _ fun v B1 H1 e1 h1 => hb W B1 H1 σ (S.ext e1) (s.mono e1.bb) _ fun u B2 H2 e2 h2 => by
    obtain ⟨l, xs, rfl, g1, g2⟩ := h2
    have ev : v = .str t := h1
    have ex := all_strs g2
    subst ev ex
    exact ⟨l, _, rfl, .inr (SqT.of (e2.bh _ _ g1)), rfl, flat_strs ts, by rw [if_neg Bool.false_ne_true, inV_strs]; exact ⟨_, rfl, q B2 H2 (e1.trans e2)⟩⟩)
/-- {} as a value that stands still -/
theorem ee_dict : EE X Γ Δ (.Dict [] [] pos) (N (DTv [])) := fun W B H σ S s Q q =>
  wpE_of pe_dnewT fun l hl => q _ _ _ (Ext.new (o := .dT []) S.ex hl) ⟨⟨l, rfl, upd_same⟩, S.frV hl⟩
/-- a list that is laid anew for the script -/
theorem ee_scrL {ns : List Int} (h : EE X Γ Δ e (L (ns.map I))) : EE X Γ Δ e (Scr X.K ns) := fun W B H σ S s Q q => h W B H σ S s Q fun v B1 H1 e1 ⟨a, xs, h1, h2, h3⟩ => q v B1 H1 e1 ⟨a, h1, by rw [← all_ints h3]; exact SqL.of h2⟩
/-- a, b = e; a, b, c = e -/
theorem go_tup2 {Ke : Pr → Del → Prop} {Kx : Value → Del → Prop} {kk : Nat} {pt px py : Pos} (j j' : Nat) (he : EM X ms Γ Δ e Ke Kx) (hxx : ∀ c Δ', Kx c Δ' → K.ex c Γ Δ') (hk : ∀ P Δ', Ke P Δ' → ∃ P1 P2, P = N (T [P1, P2]) ∧ Go X ms ((Γ.set j (some P1)).set j' (some P2)) Δ' rest K) (hN : X.N.Nodup)
    (hc : X.calm = true := by rfl) (hi : X.N[j]? = some x := by rfl) (hj : X.N[j']? = some y := by rfl) (hx : Loc X.env.scope x := by first | exact Or.inl rfl | exact Or.inr rfl) (hy : Loc X.env.scope y := by first | exact Or.inl rfl | exact Or.inr rfl)
    (hf : X.fn x = true ∨ X.env.scope.names.lookup x = some .local := by first | exact .inl rfl | exact .inr rfl) (hg : X.fn y = true ∨ X.env.scope.names.lookup y = some .local := by first | exact .inl rfl | exact .inr rfl)
    (hs2 : (assignEach [Expr.Name x px, Expr.Name y py] X.env).map (·.2) = assign (.Name x px) X.env :: (assignEach [Expr.Name y py] X.env).map (·.2) := by rfl) (hs3 : (assignEach [Expr.Name y py] X.env).map (·.2) = assign (.Name y py) X.env :: (assignEach [] X.env).map (·.2) := by rfl)
    (hn : (assignEach [Expr.Name x px, Expr.Name y py] X.env).length = 2 := by rfl) (hst : (assignEach [Expr.Name x px, Expr.Name y py] X.env).findIdx? (·.1) = none := by rfl)
    (hs : swapsWithSole [.Tuple [.Name x px, .Name y py] kk pt] e pos.line X.env = pure false := by rfl) (hw : swappedStores [.Tuple [.Name x px, .Name y py] kk pt] e X.env = pure none := by rfl) (h1 : (assignEach [.Tuple [.Name x px, .Name y py] kk pt] X.env).map (·.2) = [assign (.Tuple [.Name x px, .Name y py] kk pt) X.env] := by rfl) :
    Go X ms Γ Δ (.Assign [.Tuple [.Name x px, .Name y py] kk pt] e pos :: rest) K :=
  go_tupM (f := fun P Δ' Γ' => Go X ms Γ' Δ' rest K) he hxx ⟨_, pg_tup hc (pgs_cons (pg_name hN hi hx hf) (pgs_cons (pg_name hN hj hy hg) pgs_nil hs3) hs2) hn hst, fun P Δ' h B σ H v Q e s kp hv q => by
    obtain ⟨P1, P2, rfl, gg⟩ := hk P Δ' kp
    obtain ⟨⟨b, xs, rfl, g1, g2⟩, _⟩ := hv
    obtain ⟨u, w, rfl, k1, k2⟩ := g2.two
    exact ⟨b, _, rfl, SqT.of (e _ _ g1), rfl, u, _, rfl, w, _, rfl, rfl, q _ _ gg ((s.set j k1).set j' k2)⟩⟩
    (fun P Δ' Γ' _ g => g) hs hw h1
theorem All.three {h B : Hp} {vs : List V} (q : All h B [P, P2, P3] vs) : ∃ v u w, vs = [v, u, w] ∧ P.p h B v ∧ P2.p h B u ∧ P3.p h B w := by
  match vs, q with
  | [v, u, w], q => exact ⟨v, u, w, rfl, q.1, q.2.1, q.2.2.1⟩
theorem go_tup3 {Ke : Pr → Del → Prop} {Kx : Value → Del → Prop} {kk : Nat} {pt px py pz : Pos} (j j' j2 : Nat) (he : EM X ms Γ Δ e Ke Kx) (hxx : ∀ c Δ', Kx c Δ' → K.ex c Γ Δ') (hk : ∀ P Δ', Ke P Δ' → ∃ P1 P2 P3, P = N (T [P1, P2, P3]) ∧ Go X ms (((Γ.set j (some P1)).set j' (some P2)).set j2 (some P3)) Δ' rest K) (hN : X.N.Nodup)
    (hc : X.calm = true := by rfl) (hi : X.N[j]? = some x := by rfl) (hj : X.N[j']? = some y := by rfl) (hj2 : X.N[j2]? = some z := by rfl) (hx : Loc X.env.scope x := by first | exact Or.inl rfl | exact Or.inr rfl) (hy : Loc X.env.scope y := by first | exact Or.inl rfl | exact Or.inr rfl) (hz : Loc X.env.scope z := by first | exact Or.inl rfl | exact Or.inr rfl)
    (hf : X.fn x = true ∨ X.env.scope.names.lookup x = some .local := by first | exact .inl rfl | exact .inr rfl) (hg : X.fn y = true ∨ X.env.scope.names.lookup y = some .local := by first | exact .inl rfl | exact .inr rfl) (hg2 : X.fn z = true ∨ X.env.scope.names.lookup z = some .local := by first | exact .inl rfl | exact .inr rfl)
    (hs2 : (assignEach [Expr.Name x px, Expr.Name y py, Expr.Name z pz] X.env).map (·.2) = assign (.Name x px) X.env :: (assignEach [Expr.Name y py, Expr.Name z pz] X.env).map (·.2) := by rfl) (hs3 : (assignEach [Expr.Name y py, Expr.Name z pz] X.env).map (·.2) = assign (.Name y py) X.env :: (assignEach [Expr.Name z pz] X.env).map (·.2) := by rfl)
    (hs4 : (assignEach [Expr.Name z pz] X.env).map (·.2) = assign (.Name z pz) X.env :: (assignEach [] X.env).map (·.2) := by rfl) (hn : (assignEach [Expr.Name x px, Expr.Name y py, Expr.Name z pz] X.env).length = 3 := by rfl) (hst : (assignEach [Expr.Name x px, Expr.Name y py, Expr.Name z pz] X.env).findIdx? (·.1) = none := by rfl)
    (hs : swapsWithSole [.Tuple [.Name x px, .Name y py, .Name z pz] kk pt] e pos.line X.env = pure false := by rfl) (hw : swappedStores [.Tuple [.Name x px, .Name y py, .Name z pz] kk pt] e X.env = pure none := by rfl) (h1 : (assignEach [.Tuple [.Name x px, .Name y py, .Name z pz] kk pt] X.env).map (·.2) = [assign (.Tuple [.Name x px, .Name y py, .Name z pz] kk pt) X.env] := by rfl) :
    Go X ms Γ Δ (.Assign [.Tuple [.Name x px, .Name y py, .Name z pz] kk pt] e pos :: rest) K :=
  go_tupM (f := fun P Δ' Γ' => Go X ms Γ' Δ' rest K) he hxx ⟨_, pg_tup hc (pgs_cons (pg_name hN hi hx hf) (pgs_cons (pg_name hN hj hy hg) (pgs_cons (pg_name hN hj2 hz hg2) pgs_nil hs4) hs3) hs2) hn hst, fun P Δ' h B σ H v Q e s kp hv q => by
    obtain ⟨P1, P2, P3, rfl, gg⟩ := hk P Δ' kp
    obtain ⟨⟨b, xs, rfl, g1, g2⟩, _⟩ := hv
    obtain ⟨u, w, w2, rfl, k1, k2, k3⟩ := g2.three
    exact ⟨b, _, rfl, SqT.of (e _ _ g1), rfl, u, _, rfl, w, _, rfl, w2, _, rfl, rfl, q _ _ gg (((s.set j k1).set j' k2).set j2 k3)⟩⟩
    (fun P Δ' Γ' _ g => g) hs hw h1
/-- the comparison of values of unlike kinds: a text and a bool -/
theorem cmp_neSB {t : Str} : Cmp X .NotEq (Sx t) (Bo k) true := ⟨_, op_ne, fun _ v u B H e h1 h2 Q q => by
  have e1 : v = .str t := h1
  have e2 : u = .bl k := h2
  subst e1 e2
  exact ⟨rfl, q⟩⟩
theorem cmp_neBS {t : Str} : Cmp X .NotEq (Bo k) (Sx t) true := ⟨_, op_ne, fun _ v u B H e h1 h2 Q q => by
  have e1 : v = .bl k := h1
  have e2 : u = .str t := h2
  subst e1 e2
  exact ⟨rfl, q⟩⟩
end
end Yb
set_option maxHeartbeats 2000000
namespace Yb
open PySem PySem.Spec PyProof.Rows L2
/-! ### what a predicate entails -/
def Imp (P P' : Pr) : Prop := ∀ h B v, P.p h B v → P'.p h B v
def Imps : List Pr → List Pr → Prop
  | [], [] => True
  | P :: ps, P' :: qs => Imp P P' ∧ Imps ps qs
  | _, _ => False
theorem Imp.refl (P : Pr) : Imp P P := fun _ _ _ q => q
theorem imp_N (P : Pr) : Imp (N P) P := fun _ _ _ q => q.1
theorem Imps.all {h B : Hp} : ∀ {ps qs : List Pr} {vs : List V}, Imps ps qs → All h B ps vs → All h B qs vs
  | [], [], [], _, _ => trivial
  | _ :: _, _ :: _, _ :: _, q, a => ⟨q.1 _ _ _ a.1, Imps.all q.2 a.2⟩
  | [], _ :: _, _, q, _ => q.elim
  | _ :: _, [], _, q, _ => q.elim
  | [], [], _ :: _, _, a => a.elim
  | _ :: _, _ :: _, [], _, a => a.elim
theorem imps_map {α : Type} {R R' : α → Pr} (h : ∀ x, Imp (R x) (R' x)) : ∀ l : List α, Imps (l.map R) (l.map R')
  | [] => trivial
  | x :: l => ⟨h x, imps_map h l⟩
theorem imp_L {ps qs : List Pr} (h : Imps ps qs) : Imp (L ps) (L qs) := fun _ _ _ ⟨a, xs, h1, h2, h3⟩ => ⟨a, xs, h1, h2, h.all h3⟩
theorem imp_T {ps qs : List Pr} (h : Imps ps qs) : Imp (T ps) (T qs) := fun _ _ _ ⟨a, xs, h1, h2, h3⟩ => ⟨a, xs, h1, h2, h.all h3⟩
theorem imp_NN {P P' : Pr} (h : Imp P P') : Imp (N P) (N P') := fun _ _ _ q => ⟨h _ _ _ q.1, q.2⟩
/-! ### every entry of our own stands still from here on -/
theorem Stb.frzAll {W : Ws} : ∀ {Δ : Del} {B H : Hp}, Stb W Δ B H → (∀ e ∈ Δ, e.1 ∉ W.ms) → ∃ B', Stb W [] B' H ∧ Same B B' ∧ ∀ e ∈ Δ, W.H e.1 = none ∧ ∃ o, B' e.1 = some o ∧ e.2.p W.H B' o
  | [], B, H, S, _ => ⟨B, S, Same.refl B, fun _ h => (List.not_mem_nil h).elim⟩
  | e :: Δ, B, H, S, hm => by
    obtain ⟨o, h1, h2, h3, S2, sm⟩ := S.frz (k := 0) (a := e.1) (ob := e.2) rfl (hm e List.mem_cons_self)
    have S2 : Stb W Δ (upd B e.1 o) H := S2
    obtain ⟨B', S3, sm2, h4⟩ := Stb.frzAll S2 fun x hx => hm x (List.mem_cons_of_mem _ hx)
    refine ⟨B', S3, sm.trans sm2, fun x hx => ?_⟩
    rcases List.mem_cons.mp hx with rfl | hx
    · exact ⟨h2, o, sm2 _ _ upd_same, x.2.mono (sm.trans sm2) h3⟩
    · exact h4 x hx
/-! ### rows: a list of new lists -/
def ENR (Γ : Gam) (Δ : Del) (t : TE) (n : Nat) (rows : Nat → List Pr) : Prop := ∀ (W : Ws) (B H : Hp) (σ : L2.St), Stb W Δ B H → Sl Γ W.H B σ → ∀ Q : VK,
  (∀ (l : Addr) (as : List Addr) (B2 H2 : Hp), as.length = n → l ∉ W.ms → (∀ a ∈ as, a ∉ W.ms) → Stb W (Δ ++ (l, ML (as.map Ref)) :: as.zip ((List.range n).map fun k => ML (rows k))) B2 H2 → Same B B2 → Q (.ref l) H2) → t σ H Q
theorem all_refs {h B : Hp} : ∀ {as : List Addr} {vs : List V}, All h B (as.map Ref) vs → vs = as.map V.ref := fun q => all_map (fun _ _ q => q) q
theorem refs_all {h B : Hp} (as : List Addr) : All h B (as.map Ref) (as.map V.ref) := map_all (fun _ => rfl) as
section
variable {X : Cx} {ms : List Addr} {Γ : Gam} {Δ : Del} {a elt e : Expr} {P P' : Pr} {pos p2 pr pc px : Pos} {x y : Str} {scope : Scope} {K : Kk} {rest : List Stmt} {ps : List Pr}
theorem ee_imp (h : EE X Γ Δ e P) (i : Imp P P') : EE X Γ Δ e P' := fun W B H σ S s Q q => h W B H σ S s Q fun v B2 H2 e1 h1 => q v B2 H2 e1 (i _ _ _ h1)
theorem lcR_rows {n : Int} (rows : Nat → List Pr) (j : Nat) (ha : EE X Γ Δ a (I n)) (hn : n ≤ 40000) (hn0 : 0 ≤ n)
    (he : ∀ z : Nat, (z : Int) < n → ∀ Δ' (s : Shared) (H0 : Hp) (C : Addr) (cl : List (Str × Addr)) (fp : List Addr), EN (X.blk s H0 scope (compEnvC scope cl C X.env) fp) (Γ.set j (some (I (z : Int)))) Δ' elt (rows z)) :
    ENR Γ Δ (tLc (iRng1 (tCons (wpE X a) tNil)) (gName j) (wpIf X scope []) (wpB X scope elt) [j]) n.toNat rows := fun W B H σ S s Q q => by
  refine ha W B H σ S s _ fun w B1 H1 e1 h1 => ⟨n, by rw [show w = .int n from h1], by omega, by omega, fun D hD => ?_⟩
  obtain ⟨S0, hDm⟩ := (S.ext e1).new (ob := ML []) (o := .lst []) hD ⟨[], rfl, trivial⟩
  refine lc_range (lo := 0) (n := n.toNat) (fun i H' => ∃ (as : List Addr) (B' : Hp), as.length = i ∧ (∀ a ∈ as, a ∉ W.ms) ∧ Same B1 B' ∧ Stb W (Δ ++ (D, ML (as.map Ref)) :: as.zip ((List.range i).map fun k => ML (rows k))) B' H') ⟨[], B1, rfl, fun _ h => (List.not_mem_nil h).elim, Same.refl _, S0⟩
    (fun i H' hiv ⟨as, B', hl, hm, sm, S'⟩ => ?_) (fun H' ⟨as, B', hl, hm, sm, S'⟩ => q D as B' H' hl hDm hm S' (e1.bb.trans sm))
  have e0 : (0 : Int) + (i : Int) = (i : Int) := Int.zero_add _
  rw [e0]
  refine ⟨?_, ?_⟩
  · show ((σ.set j none).set j (some (V.int (i : Int)))).set j none = σ.set j none
    rw [List.set_set, List.set_set]
  · show wpB X scope elt ((wipe σ [j]).set j (some (V.int (i : Int)))) H' _
    intro s0 H0 C cl fp
    refine he i (by omega) _ s0 H0 C cl fp W B' H' _ S' (sl_wipe (P := I (i : Int)) (j := j) ((s.mono e1.bb).mono sm) rfl) _ fun l xs B2 H2 e2 g1 g2 g3 g4 => ?_
    obtain ⟨hlm, S2⟩ := mu_N S' e2 g1 g2 g3 g4
    have hk : (Δ ++ (D, ML (as.map Ref)) :: as.zip ((List.range i).map fun k => ML (rows k)) ++ [(l, ML (rows i))])[Δ.length]? = some (D, ML (as.map Ref)) := by
      rw [List.append_assoc, List.getElem?_append_right (Nat.le_refl _), Nat.sub_self]; rfl
    obtain ⟨_, o, k1, acc, rfl, k2⟩ := S2.at hk
    have eacc := all_refs k2
    subst eacc
    have S3 := S2.put (ob' := ML ((as ++ [l]).map Ref)) (o' := .lst ((as ++ [l]).map V.ref)) hk ⟨_, rfl, refs_all _⟩
    have eset : (Δ ++ (D, ML (as.map Ref)) :: as.zip ((List.range i).map fun k => ML (rows k)) ++ [(l, ML (rows i))]).set Δ.length (D, ML ((as ++ [l]).map Ref)) = Δ ++ (D, ML ((as ++ [l]).map Ref)) :: (as ++ [l]).zip ((List.range (i + 1)).map fun k => ML (rows k)) := by
      have e1 : (List.range (i + 1)).map (fun k => ML (rows k)) = (List.range i).map (fun k => ML (rows k)) ++ [ML (rows i)] := by rw [List.range_succ, List.map_append]; rfl
      rw [e1, List.zip_append (by rw [List.length_map, List.length_range]; exact hl), List.append_assoc, List.set_append_right _ _ (Nat.le_refl _), Nat.sub_self]
      rfl
    rw [eset] at S3
    have hfew : as.length < 40000 := by omega
    have e3 : (as ++ [l]).map V.ref = as.map V.ref ++ [V.ref l] := by rw [List.map_append]; rfl
    rw [e3] at S3
    refine ⟨_, k1, by rw [List.length_map]; exact sz_lt (by omega), as ++ [l], B2, by rw [List.length_append, hl]; rfl, fun b hb => ?_, sm.trans e2.bb, S3⟩
    rcases List.mem_append.mp hb with z | z
    · exact hm b z
    · rw [List.mem_singleton.mp z]; exact hlm
/-- y = [[..] for x in range(n)], y a local -/
theorem go_rows {n : Int} {py spos : Pos} (i : Nat) (rows : Nat → List Pr) (j : Nat) (hN : X.N.Nodup) (ha : EE X Γ Δ a (I n)) (hn : n ≤ 40000) (hn0 : 0 ≤ n) (hgl : Gl X "range") (hm : X.mg "range" = none) (ok : BlkOk X.N X.env.scope scope [(x, j)])
    (hg : ∀ (s : Shared) (H : Hp) (C : Addr) (cl : List (Str × Addr)) (fp : List Addr), PG (X.blk s H scope (compEnvC scope cl C X.env) fp) (.Name x px) (gName j))
    (he : ∀ z : Nat, (z : Int) < n → ∀ Δ' (s : Shared) (H0 : Hp) (C : Addr) (cl : List (Str × Addr)) (fp : List Addr), EN (X.blk s H0 scope (compEnvC scope cl C X.env) fp) (Γ.set j (some (I (z : Int)))) Δ' elt (rows z))
    (g : ∀ (l : Addr) (as : List Addr), as.length = n.toNat → l ∉ ms → (∀ a ∈ as, a ∉ ms) → Go X ms (Γ.set i (some (Ref l))) (Δ ++ (l, ML (as.map Ref)) :: as.zip ((List.range n.toNat).map fun k => ML (rows k))) rest K) (hc : X.calm = true := by rfl)
    (hy : X.N[i]? = some y := by rfl) (hyl : X.env.scope.names.lookup y = some .local := by rfl) (hsw : swapsWith (.ListComp elt [⟨.Name x px, .Call (.Name "range" pr) [a] [] pc, [], 0⟩] scope pos) (some (.Name y py)) spos.line X.env = pure true := by exact sw_true rfl rfl rfl (by decide +kernel))
    (hst : starEach [a] X.env = (false, eval a X.env) :: starEach [] X.env := by rfl) (hst2 : starEach [a] X.env = [(false, eval a X.env)] := by rfl) (hs : ∀ x, foldedSetIterable (.Call (.Name "range" pr) [a] [] pc) X.env x = pure x := by intro _; rfl) :
    Go X ms Γ Δ (.Assign [.Name y py] (.ListComp elt [⟨.Name x px, .Call (.Name "range" pr) [a] [] pc, [], 0⟩] scope pos) spos :: rest) K := by
  obtain ⟨t, h1, h2⟩ : ∃ t, PS X (.Assign [.Name y py] (.ListComp elt [⟨.Name x px, .Call (.Name "range" pr) [a] [] pc, [], 0⟩] scope pos) spos) (tAsg t (gName i)) ∧ ENR Γ Δ t n.toNat rows :=
    ⟨_, ps_setLc (own := [(x, j)]) (g := gName j) hc hN hy hyl hsw (pi_range1 hgl hm (pa_cons pe_wp pa_nil hst) hst2) ok hg (pts_if (Nat.zero_le 1)) pe_b hs, lcR_rows rows j ha hn hn0 he⟩
  intro W Wi B H σ D hms tk S s ok'
  exact wpSs_of (pss_cons h1 pss_wp) (h2 W B H σ S s _ fun l as B2 H2 q1 q2 q3 S2 sm => g l as q1 (hms ▸ q2) (fun a ha => hms ▸ q3 a ha) W Wi B2 H2 _ D hms tk S2 ((s.mono sm).set i rfl) ok')
theorem zip_set {α β : Type} : ∀ {as : List α} {bs : List β} {k : Nat} {a : α} {b : β}, as[k]? = some a → (as.zip bs).set k (a, b) = as.zip (bs.set k b)
  | [], _, k, _, _, h => by simp at h
  | _ :: _, [], _, _, _, _ => by simp
  | x :: as, y :: bs, 0, a, b, h => by
    rw [List.getElem?_cons_zero] at h
    cases h
    rfl
  | x :: as, y :: bs, k + 1, a, b, h => by
    rw [List.getElem?_cons_succ] at h
    show (x, y) :: (as.zip bs).set k (a, b) = (x, y) :: as.zip (bs.set k b)
    rw [zip_set h]
/-- the rows stand still from here on -/
theorem go_frzRows {sts : List Stmt} (i : Nat) {l : Addr} {as : List Addr} {rws : List (List Pr)} (hl : as.length = rws.length) (h0 : l ∉ ms) (h1 : ∀ a ∈ as, a ∉ ms) (hΓ : Γ[i]? = some (some (Ref l))) (g : Go X ms (Γ.set i (some (N (L (rws.map L))))) [] sts K) :
    Go X ms Γ ((l, ML (as.map Ref)) :: as.zip (rws.map ML)) sts K := fun W Wi B H σ D hm tk S s ok => by
  obtain ⟨B', S2, sm, hB⟩ := S.frzAll fun e he => by
    rcases List.mem_cons.mp he with rfl | he
    · rw [hm]; exact h0
    · rw [hm]; exact h1 _ (List.of_mem_zip he).1
  obtain ⟨hw, o, k1, xs, rfl, k2⟩ := hB (l, ML (as.map Ref)) List.mem_cons_self
  have ex := all_refs k2
  subst ex
  have key : ∀ {as : List Addr} {rws : List (List Pr)}, as.length = rws.length → (∀ e ∈ as.zip (rws.map ML), ∃ o, B' e.1 = some o ∧ e.2.p W.H B' o) → All W.H B' (rws.map L) (as.map V.ref) := by
    intro as
    induction as with
    | nil => intro rws hl _; cases rws with
      | nil => trivial
      | cons _ _ => cases hl
    | cons a as ih => intro rws hl hh; cases rws with
      | nil => cases hl
      | cons r rws =>
        obtain ⟨o, q1, ys, rfl, q2⟩ := hh (a, ML r) List.mem_cons_self
        exact ⟨⟨a, ys, rfl, q1, q2⟩, ih (by simpa using hl) fun e he => hh e (List.mem_cons_of_mem _ he)⟩
  have all := key hl fun e he => (hB e (List.mem_cons_of_mem _ he)).2
  obtain ⟨v, g1, g2⟩ := s.2 i _ hΓ
  have ev : v = .ref l := g2
  subst ev
  have hil : i < σ.length := (List.getElem?_eq_some_iff.mp g1).1
  have s2 := (s.mono sm).set (P := N (L (rws.map L))) (v := .ref l) i ⟨⟨l, _, rfl, k1, all⟩, fun a z => by injection z with z; exact z ▸ hw⟩
  rw [set_id g1] at s2
  exact g W Wi B' H σ D hm tk S2 s2 ok
end
end Yb
set_option maxHeartbeats 2000000
namespace Yb
open PySem PySem.Spec PyProof.Rows L2 RT
/-! ### list(reversed(a list)) -/
section
variable {prog : Program} {w : World} {A : Around} {E : Value → Shared → Prop} {s : Shared}
theorem extend_rev {R : Result → Shared → Prop} {it l : Addr} {items : Array Value} (hh : A.handled = none) (hit : s.heap.IsRevIter it l ((items.size : Int) - 1)) (hl : s.heap.IsList l items) (hne : l ≠ it) (hn : items.size ≤ sizeLine) (S : Addr) (c₀ : Nat) (hSi : S ≠ it) (hSl : S ≠ l)
    (hS : s.heap.get? S = some { cls := .type "list", data := .seq #[] c₀ })
    (hR : ∀ h' tk acc' c', (∀ b o, b ≠ S → b ≠ it → s.heap.get? b = some o → h'.get? b = some o) → h'.get? S = some { cls := .type "list", dict := none, data := .seq acc' c', slots := #[] } →
      ItemsOf (fun i v => items[items.size - 1 - i]? = some v) acc' items.size → R (.ok (.ret .none)) { s with heap := h', toks := tk }) :
    wpAny (model prog w) A.in1 (Builtin.List.listExtendWith (.ref S) (.ref it) .none)
      (fun fin s' => match fin with | .done f => R (.ok f) s' | .again c' => c'.quiet = true ∧ codeAny (model prog w) A c' R s') (fun e s' => R (.error e) s') s := by
  have W := (Walks.listRev (prog := prog) (w := w) (A := A.in1) hh it l hne items).toS
  have hSf : S ∉ [it, l] := by simp only [List.mem_cons, List.not_mem_nil, or_false, not_or]; exact ⟨hSi, hSl⟩
  have hT : s.TypeIs (.ref it) "list_reverseiterator" := Heap.IsRevIter.typeIs hit
  have h1 : Builtin.List.listSameRef (.ref S) (.ref it) = false := by simp [Builtin.List.listSameRef, hSi]
  unfold Builtin.List.listExtendWith
  refine wpAny_bind (wpAny_typeOf hT ?_)
  rw [if_neg (by rw [h1]; decide)]
  refine wpAny_bind (wpAny_pyIter_revIter hit ?_)
  refine wpAny_bind (wpAny_holding ?_)
  unfold Builtin.List.listLengthHint
  refine wpAny_bind (wpAny_specialOf hT nolen_lri ?_)
  show wpAny _ A.in1 (specialOf (Value.ref it) (Str.ofString "__length_hint__") >>= _) _ _ _
  refine wpAny_bind (wpAny_specialOf hT hint_lri ?_)
  generalize hid : ("list_reverseiterator.__length_hint__" : String) = id0
  wp_delta
  rw [show splitId id0 = some ("list_reverseiterator", "__length_hint__") from by subst hid; decide +kernel]
  subst hid
  refine wpAny_bind (wpAny_isInstance (b := true) hT (by rw [isSubtype_type]; kernel_rfl) ?_)
  refine wpAny_pure ?_
  rw [if_neg (by decide)]
  have e0 : ((items.size : Nat) : Int) - 1 - ((0 : Nat) : Int) = (items.size : Int) - 1 := by omega
  refine wpAny_pure ⟨plainId_quiet F.plain_extend_loop _, codeAny_extend_loopS W hn S hSf .none items.size 0 _ _ _ rfl (Nat.zero_le _) ⟨Nat.zero_le _, by rw [e0]; exact hit, hl⟩ hS (ItemsOf.nil _) fun s' acc' c' hm hS' hacc => ?_⟩
  rw [Moved.eq_with hm]
  refine hR s'.heap s'.toks acc' c' (fun b o hb hb2 e => hm.heap b o (fun hmem => ?_) e) hS' hacc
  rcases List.mem_cons.mp hmem with e' | hmem
  · exact hb e'
  · exact hb2 (List.mem_singleton.mp hmem)
theorem list_init_rev {R : Result → Shared → Prop} {it l : Addr} {items : Array Value} (hh : A.handled = none) (hit : s.heap.IsRevIter it l ((items.size : Int) - 1)) (hl : s.heap.IsList l items) (hne : l ≠ it) (hn : items.size ≤ sizeLine) (S : Addr) (hSi : S ≠ it) (hSl : S ≠ l)
    (hS : s.heap.get? S = some { cls := .type "list", data := .seq #[] })
    (hR : ∀ h' tk acc' c', (∀ b o, b ≠ S → b ≠ it → s.heap.get? b = some o → h'.get? b = some o) → h'.get? S = some { cls := .type "list", dict := none, data := .seq acc' c', slots := #[] } →
      ItemsOf (fun i v => items[items.size - 1 - i]? = some v) acc' items.size → R (.ok (.ret .none)) { s with heap := h', toks := tk }) :
    wpAny (model prog w) A.in1 (Builtin.«list.__init__» ⟨[.ref S, .ref it], []⟩)
      (fun fin s' => match fin with | .done f => R (.ok f) s' | .again c' => c'.quiet = true ∧ codeAny (model prog w) A c' R s') (fun e s' => R (.error e) s') s := by
  show wpAny _ _ (do let old ← Builtin.List.listItems (.ref S); Builtin.List.listUpdate (.ref S) (fun _ => #[]); letGo old.toList.reverse; Builtin.List.listExtendWith (.ref S) (.ref it) .none) _ _ s
  refine wpAny_bind ?_
  unfold Builtin.List.listItems
  refine wpAny_bind (wpAny_seqItems hS rfl (wpAny_pure ?_))
  show wpAny _ _ (updateSeq S (fun _ => #[]) >>= fun _ => letGo (#[] : Array Value).toList.reverse >>= fun _ => Builtin.List.listExtendWith (.ref S) (.ref it) .none) _ _ s
  refine wpAny_bind (wpAny_updateSeq hS rfl ?_)
  have hS₂ := Heap.get?_update_self (Obj.mapSeq (fun _ => (#[] : Array Value))) hS rfl
  have oth : ∀ b o, b ≠ S → s.heap.get? b = some o → (s.heap.update S (Obj.mapSeq (fun _ => (#[] : Array Value)))).get? b = some o :=
    fun b o hb e => (Heap.get?_update_other _ _ (Ne.symm hb)).trans e
  refine wpAny_bind (wpAny_letGo ?_)
  refine extend_rev (s := { s with heap := s.heap.update S (Obj.mapSeq (fun _ => (#[] : Array Value))) }) hh (hit.at fun o e => oth it o (Ne.symm hSi) e) (hl.at fun o e => oth l o (Ne.symm hSl) e) hne hn S _ hSi hSl hS₂ fun h' tk acc' c' hk hS' hacc => ?_
  exact hR h' tk acc' c' (fun b o hb hb2 e => hk b o hb hb2 (oth b o hb e)) hS' hacc
theorem call_list_rev {Q : Value → Shared → Prop} {it l : Addr} {items : Array Value} (hh : A.handled = none) (hit : s.heap.IsRevIter it l ((items.size : Int) - 1)) (hl : s.heap.IsList l items) (hne : l ≠ it) (hn : items.size ≤ sizeLine)
    (hQ : ∀ h' tk acc' c', (∀ b o, b ≠ it → s.heap.get? b = some o → h'.get? b = some o) →
      h'.get? s.heap.objs.size = some { cls := .type "list", dict := none, data := .seq acc' c', slots := #[] } → ItemsOf (fun i v => items[items.size - 1 - i]? = some v) acc' items.size → Q (.ref s.heap.objs.size) { s with heap := h', toks := tk }) :
    wpAny (model prog w) A (call (.type "list") [.ref it]) Q E s := by
  refine callType_codes (Q₁ := fun obj s₁ => obj = .ref s.heap.objs.size ∧ s₁ = { s with heap := s.heap.push { cls := .type "list", data := .seq #[] } }) F.called_list (F.typeCall_list_1 _) F.entry_list_init
    (code_list_new _ ⟨rfl, rfl⟩) fun obj s₁ h₁ => ?_
  obtain ⟨rfl, rfl⟩ := h₁
  obtain ⟨oi, hoi, _⟩ := id hit
  obtain ⟨ol, hol, _⟩ := id hl
  have hS : (s.heap.push { cls := .type "list", data := .seq #[] }).get? s.heap.objs.size = some { cls := .type "list", data := .seq #[] } := Heap.get?_push_size _ rfl
  refine ⟨⟨_, hS, rfl⟩, F.args_list_init_2 _ _, list_init_rev (A := A.in1) (s := { s with heap := s.heap.push { cls := .type "list", data := .seq #[] } }) hh (hit.at fun o e => Heap.get?_push_of_some _ e) (hl.push _) hne hn _ (Nat.ne_of_gt (Heap.lt_size hoi)) (Nat.ne_of_gt (Heap.lt_size hol)) hS fun h' tk acc' c' hk hS' hacc => ?_⟩
  exact ⟨rfl, hQ h' tk acc' c' (fun b o hb e => hk b o (Nat.ne_of_lt (Heap.lt_size e)) hb (Heap.get?_push_of_some _ e)) hS' hacc⟩
end
section
variable {X : Cx}
def tListRev (K : PySem.W.Frag) (te : TE) : TE := fun σ H Q => te σ H fun v H1 => ∃ (a : Addr) (xs : List V), v = .ref a ∧ SqL K H1 a xs ∧ ∀ q, H1 q = none → Q (.ref q) (upd H1 q (.lst xs.reverse))
theorem pe_listRev {e : Expr} {te : TE} {p p2 pos pos2 : Pos} (hc : X.calm = true) (hg : Gl X "list") (hm : X.mg "list" = none) (hg2 : Gl X "reversed") (hm2 : X.mg "reversed" = none) (he : PE X e te)
    (hs : starEach [e] X.env = (false, eval e X.env) :: starEach [] X.env := by rfl)
    (hs2 : starEach [.Call (.Name "reversed" p2) [e] [] pos2] X.env = (false, eval (.Call (.Name "reversed" p2) [e] [] pos2) X.env) :: starEach [] X.env := by rfl) :
    PE X (.Call (.Name "list" p) [.Call (.Name "reversed" p2) [e] [] pos2] [] pos) (tListRev X.K te) := by
  refine ⟨fun pins s σ H Q I h => ?_⟩
  refine Call_ (ld_blt I hg hm (show bootBuiltins "list" = some (.type "list") by decide +kernel) (PyProof.Rows.callWith_type1 (args_cons (Call_ (ld_blt I hg2 hm2 PyProof.Rows.boot_reversed (PyProof.Rows.callWith_type1 (args_cons (thn (he.run pins s σ H _ I h) fun u s1 ⟨v, H1, I1, r1, q1⟩ => args_nil ?_) hs) hs rfl))) hs2) hs2 rfl))
  obtain ⟨a, xs, ev, hq, q⟩ := q1
  subst ev
  obtain rfl : u = Value.ref a := r1
  obtain ⟨its, rv, p', hz⟩ := I1.list hq
  refine call_reversed_list p'.isList (args_nil ?_)
  have hl := p'.isList
  obtain ⟨ol, hol, _⟩ := id hl
  have hne : a ≠ s1.heap.objs.size := Nat.ne_of_lt (Heap.lt_size hol)
  have hn : its.toArray.size ≤ sizeLine := by rw [List.size_toArray, ← rv.length]; exact hz
  refine call_list_rev (s := { s1 with heap := s1.heap.push (revObj a ((its.toArray.size : Int) - 1)) }) (I1.ok.hd hc) ⟨_, Heap.get?_push_size _ rfl, rfl, rfl⟩ (hl.push _) hne hn fun h' tk acc c' hk hS hi => ?_
  have hS' : h'.get? (s1.heap.push (revObj a ((its.toArray.size : Int) - 1))).objs.size = _ := hS
  have hsz : (s1.heap.push (revObj a ((its.toArray.size : Int) - 1))).objs.size = s1.heap.objs.size + 1 := by simp [Heap.push]
  rw [hsz] at hS' ⊢
  exact ⟨.ref _, upd H1 _ (.lst xs.reverse), I1.laid (t' := tk) (fun c o e => hk c o (Nat.ne_of_lt (Heap.lt_size e)) (Heap.get?_push_of_some _ e)) (Nat.le_succ _) (show ObjOk X.prog X.w _ _ _ (.lst xs.reverse) from ⟨by rw [List.length_reverse]; exact hz, acc.toList, c', vals_rev rv hi, by rw [Array.toArray_toList]; exact hS'⟩), rfl, q _ (I1.hok.fresh (Nat.le_succ _))⟩
end
section
variable {X : Cx} {Γ : Gam} {Δ : Del} {e : Expr} {ps : List Pr} {p p2 pos pos2 : Pos}
theorem en_listRev (hc : X.calm = true) (ha : ES X Γ Δ e ps) (hg : Gl X "list") (hm : X.mg "list" = none) (hg2 : Gl X "reversed") (hm2 : X.mg "reversed" = none)
    (hs : starEach [e] X.env = (false, eval e X.env) :: starEach [] X.env := by rfl)
    (hs2 : starEach [.Call (.Name "reversed" p2) [e] [] pos2] X.env = (false, eval (.Call (.Name "reversed" p2) [e] [] pos2) X.env) :: starEach [] X.env := by rfl) :
    EN X Γ Δ (.Call (.Name "list" p) [.Call (.Name "reversed" p2) [e] [] pos2] [] pos) ps.reverse := fun W B H σ S s Q q =>
  wpE_of (pe_listRev hc hg hm hg2 hm2 pe_wp hs hs2) (ha W B H σ S s _ fun l xs B1 H1 e1 h1 h2 => ⟨l, xs, rfl, h1, en_fin e1 h2.rev q⟩)
end
end Yb
set_option maxHeartbeats 2000000
namespace Yb
open PySem PySem.Spec PyProof.Rows L2
section
variable {X : Cx} {ms : List Addr} {Γ : Gam} {Δ : Del} {K : Kk} {rest : List Stmt} {e a b o : Expr} {es : List Expr} {P P' : Pr} {Ps ps qs dps : List Pr} {pos pos' apos p2 : Pos} {x f m : Str} {C : Addr} {ns : List Str} {k j : Nat} {Cs : Cn → Prop}
/-- a new instance that may change -/
theorem em_makeM {q : Pos} {Kx : Value → Del → Prop} (F : Mkc X.prog X.w X.K X.mg X.base x C Cs k) (hr : Room (j + 1) X.A) (hk : k ≤ j) (hg : Gl X x) (ha : EA X Γ Δ (e :: es) Ps) (c : Addr → Cn) (hc : ∀ l, Cs (c l)) (G : Del → List Pr → Prop) {ps' : List Pr} (hbr : Brs Δ Ps ps') (hp : ∀ l, (c l).ps = Ref l :: ps' := by intro _; rfl) (hΔ : ∀ l, (c l).Δ = [(l, MI C [] [])] := by intro _; rfl)
    (ho : ∀ l P Δ', (c l).out P Δ' → P = No ∧ ∃ Δn qs, Δ' = (l, MI C ns qs) :: Δn ∧ G Δn qs := by exact fun _ _ _ q => q) (hx : ∀ l v Δ', ¬ (c l).exc v Δ' := by exact fun _ _ _ q => q)
    (hsb : ∀ Δn qs, G Δn qs → ∀ h B B' o l, (∀ a, h a = none → B' a = B a) → ((l, MI C ns qs) : Ent).2.p h B o → ((l, MI C ns qs) : Ent).2.p h B' o) (hsb2 : ∀ Δn qs, G Δn qs → ∀ z ∈ Δn, ∀ h B B' o, (∀ a, h a = none → B' a = B a) → z.2.p h B o → z.2.p h B' o)
    (hdb : (x == ("__debug__" : Str)) = false := by decide)
    (he : starEach (e :: es) X.env = (false, eval e X.env) :: starEach es X.env := by rfl) (hpl : (backTo pos (starEach es X.env)).any (·.1) = false := by rfl) :
    EM X ms Γ Δ (.Call (.Name x q) (e :: es) [] pos) (fun P Δ' => ∃ l Δn qs, G Δn qs ∧ P = Ref l ∧ Δ' = (l, MI C ns qs) :: Δn ++ Δ ∧ l ∉ ms ∧ ∀ z ∈ Δn, z.1 ∉ ms) Kx := fun W Wi B H σ hm tk S s hx0 Q qq => by
  obtain ⟨f, fd, pn, F, M, mg, b⟩ := F.ex
  refine wpE_of (pe_make (E := E0) M F (Room.mono hr (Nat.succ_le_succ hk)) hg mg b .nil passN pa_wp hdb he hpl) (ha W B H σ S s _ fun vs B1 H1 e1 h1 => ?_)
  intro l dx hl hdx hne
  have S1 := S.ext e1
  have S2 := S1.ext (Ext.newH (o := .own l) S1.ex hdx)
  have hl2 : upd H1 dx (HO.own l) l = none := by rw [upd_ne (Ne.symm hne)]; exact hl
  obtain ⟨S3, hnm⟩ := S2.new (ob := MI C [] []) (o := .ins C dx []) hl2 ⟨dx, [], rfl, trivial⟩
  have hb1 : B1 l = none := e1.bh.free hl
  have hH : ∀ a o, H1 a = some o → upd (upd H1 dx (HO.own l)) l (HO.ins C dx []) a = some o := fun a o h => by
    rw [upd_ne (ne_of_none h hl), upd_ne (ne_of_none h hdx)]; exact h
  -- what is lent: the entries as they stand
  obtain ⟨Bp, g1, g2, g3, g4⟩ := borrow S1
  have hm' : ∀ e ∈ Δ, ∃ o, H1 e.1 = some o ∧ e.2.p h0 B1 o := fun x hx => by
    obtain ⟨_, o, h2, h3⟩ := S1.mu x hx
    exact ⟨o, h2, x.2.anti (fun a z => absurd rfl z) h3⟩
  have inn : ∀ a, a ∈ Δ.map (·.1) → B1 a = none ∧ H1 a ≠ none := fun a h => by
    obtain ⟨x, hx, rfl⟩ := List.mem_map.mp h
    obtain ⟨h1, o, h2, _⟩ := S1.mu x hx
    exact ⟨h1, by rw [h2]; intro z; cases z⟩
  have bl : Bp l = none := by
    by_cases z : l ∈ Δ.map (·.1)
    · exact absurd hl (inn l z).2
    · rw [g4 l z]; exact hb1
  rw [List.append_nil]
  refine ⟨c l, Bp, hc l, fun a o h => hH a o (g2 a o h), ?_, ?_, ?_, fun P' Δ' B' H' v o S' hv => ?_, fun x Δ' B' H' o _ => hx l x Δ' o⟩
  · rw [hp l]
    exact ⟨rfl, Brs.all e1.bh hm' g1 g3 hbr (all_h0 h1)⟩
  · rw [hΔ l]
    intro z hz
    have ez : z = (l, MI C [] []) := by simpa using hz
    subst ez
    exact ⟨bl, _, upd_same, dx, [], rfl, trivial⟩
  · rw [hΔ l]
    simp
  · rw [hΔ l] at S'
    obtain ⟨rfl, Δn, qs, rfl, g⟩ := ho l P' Δ' o
    -- back without what was lent
    let B2 : Hp := fun a => if a ∈ Δ.map (·.1) then none else B' a
    have b2i : ∀ a, a ∈ Δ.map (·.1) → B2 a = none := fun a h => if_pos h
    have b2o : ∀ a, a ∉ Δ.map (·.1) → B2 a = B' a := fun a h => if_neg h
    have newE : ∀ z ∈ (l, MI C ns qs) :: Δn, W.H z.1 = none ∧ z.1 ∉ Δ.map (·.1) := fun z hz => by
      rcases S'.ow z hz with w1 | w1
      · have e2 : z.1 = l := by simpa using w1
        exact ⟨by rw [e2]; exact S1.fresh hl, fun q => by rw [e2] at q; exact (inn l q).2 hl⟩
      · have w1 : upd (upd H1 dx (HO.own l)) l (HO.ins C dx []) z.1 = none := w1
        have hne2 : z.1 ≠ l := fun q => by rw [q, upd_same] at w1; cases w1
        rw [upd_ne hne2] at w1
        have hne3 : z.1 ≠ dx := fun q => by rw [q, upd_same] at w1; cases w1
        rw [upd_ne hne3] at w1
        exact ⟨S1.fresh w1, fun q => (inn _ q).2 w1⟩
    have bn : ∀ a, upd (upd H1 dx (HO.own l)) l (HO.ins C dx []) a = none → B2 a = B' a := fun a h => b2o a fun z => by
      have := (inn a z).2
      cases e : H1 a with
      | none => exact this e
      | some o => rw [hH a o e] at h; cases h
    have hkeep : ∀ a o, H1 a = some o → H' a = some o := fun a o h => S'.hh a o (hH a o h) fun z => by
      have e2 : a = l := by simpa using z
      rw [e2, hl] at h; cases h
    have S5 : Stb W ((l, MI C ns qs) :: Δn ++ Δ) B2 H' := by
      refine ⟨fun a o h => ?_, fun x hx => ?_, ?_, fun a o h => ?_, fun a o h n => hkeep a o (S1.hh a o h n), fun a h z => S1.dm a h (by
          cases e : H1 a with
          | none => rfl
          | some o => rw [hkeep a o e] at z; cases z), fun a h n => ?_, fun x hx => ?_, S1.msd⟩
      · by_cases z : a ∈ Δ.map (·.1)
        · rw [b2i a z] at h; cases h
        · rw [b2o a z] at h; exact S'.ex a o h
      · rcases List.mem_append.mp hx with hx | hx
        · obtain ⟨k1, o, k2, k3⟩ := S'.mu x hx
          refine ⟨by rw [b2o _ (newE x hx).2]; exact k1, o, k2, ?_⟩
          have k4 := x.2.anti (h' := W.H) (fun a h z => by
            have := S1.dm a h
            cases e : H1 a with
            | none => exact this e
            | some o =>
              have z : upd (upd H1 dx (HO.own l)) l (HO.ins C dx []) a = none := z
              rw [hH a o e] at z; cases z) k3
          rcases List.mem_cons.mp hx with rfl | hx2
          · exact MI C ns qs |>.anti (h := upd (upd H1 dx (HO.own l)) l (HO.ins C dx [])) (fun a h z => by
              have := S1.dm a h
              cases e : H1 a with
              | none => exact this e
              | some o =>
                have z : upd (upd H1 dx (HO.own l)) l (HO.ins C dx []) a = none := z
                rw [hH a o e] at z; cases z) (hsb Δn qs g _ B' B2 o l bn k3)
          · exact x.2.anti (h := upd (upd H1 dx (HO.own l)) l (HO.ins C dx [])) (fun a h z => by
              have := S1.dm a h
              cases e : H1 a with
              | none => exact this e
              | some o =>
                have z : upd (upd H1 dx (HO.own l)) l (HO.ins C dx []) a = none := z
                rw [hH a o e] at z; cases z) (hsb2 Δn qs g x hx2 _ B' B2 o bn k3)
        · obtain ⟨k1, o, k2, k3⟩ := S1.mu x hx
          refine ⟨b2i _ (List.mem_map_of_mem hx), o, hkeep _ _ k2, x.2.mono (fun a o h => ?_) k3⟩
          have na : a ∉ Δ.map (·.1) := fun z => by rw [(inn a z).1] at h; cases h
          rw [b2o a na]
          exact S'.bb a o (g1 a o h)
      · rw [List.map_append]
        refine List.nodup_append.mpr ⟨S'.nd, S1.nd, fun a ha b hb e => ?_⟩
        obtain ⟨x, hx, rfl⟩ := List.mem_map.mp ha
        exact (newE x hx).2 (e ▸ hb)
      · have na : a ∉ Δ.map (·.1) := fun z => by
          have := S1.bb a o h
          rw [(inn a z).1] at this; cases this
        rw [b2o a na]
        exact S'.bb a o (g1 a o (S1.bb a o h))
      · by_cases z : a ∈ Δ.map (·.1)
        · exact b2i a z
        · rw [b2o a z]
          refine S'.fr a ((g4 a z).trans (S1.fr a h n)) ?_
          show upd (upd H1 dx (HO.own l)) l (HO.ins C dx []) a ≠ none
          have := S1.dm a n
          cases e : H1 a with
          | none => exact absurd e this
          | some o => rw [hH a o e]; intro q; cases q
      · rcases List.mem_append.mp hx with hx | hx
        · exact .inr (newE x hx).1
        · exact S1.ow x hx
    have sm : Same B B2 := fun a o h => by
      have na : a ∉ Δ.map (·.1) := fun z => by
        have := e1.bb a o h
        rw [(inn a z).1] at this; cases this
      rw [b2o a na]
      exact S'.bb a o (g1 a o (e1.bb a o h))
    have nms : ∀ z ∈ (l, MI C ns qs) :: Δn, z.1 ∉ ms := fun z hz q => S1.msd z.1 (hm ▸ q) (newE z hz).1
    exact ⟨hv, qq (Ref l) _ (.ref l) B2 H' ⟨l, Δn, qs, g, rfl, rfl, nms _ List.mem_cons_self, fun z hz => nms z (List.mem_cons_of_mem _ hz)⟩ S5 sm rfl⟩
/-- an instance that may change, lent -/
theorem br_G {Δ : Del} {C : Addr} {ns : List Str} {ps qs : List Pr} (n : Nat) {a : Addr} (h : Δ[n]? = some (a, MI C ns ps)) (hb : Brs Δ ps qs) : Br Δ (Ref a) (Iv C ns qs) := ⟨fun B H Bp v e hm e2 hbb hv => by
  have ev : v = .ref a := hv
  subst ev
  have hmem := List.mem_of_getElem? h
  obtain ⟨o, h1, dx, xs, rfl, h2⟩ := hm _ hmem
  exact ⟨a, dx, xs, rfl, (hbb _ hmem).trans h1, hb.all e hm e2 hbb h2⟩⟩
/-- xs.pop(), xs an entry -/
theorem em_pop {Kx : Value → Del → Prop} (n : Nat) {l : Addr} (ho : EE X Γ Δ o (Ref l)) (hk : Δ[n]? = some (l, ML ps)) (hP : ps[ps.length - 1]? = some P)
    (hbase : attributeBase o "pop" X.env (eval o X.env) = eval o X.env := by rfl) (hline : (apos.endLine == p2.line) = true := by rfl) :
    EM X ms Γ Δ (.Call (.Attribute o "pop" apos) [] [] p2) (fun P' Δ' => P' = P ∧ Δ' = Δ.set n (l, ML ps.dropLast)) Kx := fun W Wi B H σ hm tk S s hx Q q =>
  wpE_of (pe_bm0 PySem.F.plainAttrs_list PySem.F.slot_list_pop PySem.F.type_list_pop mt_pop pe_wp hbase hline) (ho W B H σ S s _ fun w B1 H1 e1 g1 => by
    have S1 := S.ext e1
    obtain ⟨_, ob, k1, xs, rfl, k2⟩ := S1.at hk
    have ew : w = .ref l := g1
    subst ew
    have hl := k2.len
    obtain ⟨v, h1, h2⟩ := k2.get hP
    rw [hl] at h1
    refine ⟨.inl ⟨rfl, xs, SqL.of k1⟩, l, xs, v, rfl, rfl, k1, h1, ?_⟩
    exact q P _ v B1 _ ⟨rfl, rfl⟩ (S1.put hk ⟨_, rfl, k2.dropLast⟩) e1.bb h2)
/-- xs.pop(i), xs an entry -/
theorem em_popAt {Kx : Value → Del → Prop} (n i : Nat) {l : Addr} (ho : EE X Γ Δ o (Ref l)) (he : EE X Γ Δ e (I (i : Int))) (hk : Δ[n]? = some (l, ML ps)) (hP : ps[i]? = some P) (hz : ps.length ≤ 100000)
    (hbase : attributeBase o "pop" X.env (eval o X.env) = eval o X.env := by rfl)
    (hfew : ((backTo p2 (starEach [e] X.env)).all (fun x => !x.1) && (backToKw p2 (keywordEach [] X.env)).all (fun x => x.1.isSome) && decide (([e] : List Expr).length + ([] : List Keyword).length + (if ([] : List Keyword).isEmpty then 0 else 1) < 30)) = true := by rfl)
    (hline : (apos.endLine == p2.line) = true := by rfl) (hs1 : starEach [e] X.env = (false, eval e X.env) :: starEach [] X.env := by rfl) (hplain : (backTo p2 (starEach [] X.env)).any (·.1) = false := by rfl) :
    EM X ms Γ Δ (.Call (.Attribute o "pop" apos) [e] [] p2) (fun P' Δ' => P' = P ∧ Δ' = Δ.set n (l, ML (ps.eraseIdx i))) Kx := fun W Wi B H σ hm tk S s hx Q q =>
  wpE_of (pe_bm PySem.F.plainAttrs_list PySem.F.slot_list_pop PySem.F.type_list_pop mt_popAt pe_wp (pa_cons pe_wp pa_nil hs1) hbase hfew hline hs1 hplain) (ho W B H σ S s _ fun w B1 H1 e1 g1 => by
    have S1 := S.ext e1
    obtain ⟨_, ob, k1, xs, rfl, k2⟩ := S1.at hk
    have ew : w = .ref l := g1
    subst ew
    refine ⟨.inl ⟨rfl, xs, SqL.of k1⟩, he W B1 H1 σ S1 (s.mono e1.bb) _ fun u B2 H2 e2 g2 => ?_⟩
    have S2 := S1.ext e2
    have eu : u = .int (i : Int) := g2
    subst eu
    have k3 := k2.mono e2.bb
    have hl := k3.len
    obtain ⟨v, h1, h2⟩ := k3.get hP
    have hil : i < xs.length := (List.getElem?_eq_some_iff.mp h1).1
    refine ⟨l, xs, (i : Int), i, v, rfl, rfl, e2.hh _ _ k1, by omega, by omega, by unfold seqIndex?; simp; omega, h1, ?_⟩
    exact q P _ v B2 _ ⟨rfl, rfl⟩ (S2.put hk ⟨_, rfl, k3.erase i⟩) (e1.bb.trans e2.bb) h2)
end
end Yb
namespace Yb
open PySem PySem.Spec PyProof.Rows L2
/-! ### an entry told in less -/
theorem Stb.impE {W : Ws} {Δ Δ' : Del} {B H : Hp} (S : Stb W Δ B H) (hm : Δ'.map (·.1) = Δ.map (·.1)) (h : ∀ x ∈ Δ', ∃ y ∈ Δ, y.1 = x.1 ∧ ∀ h B o, y.2.p h B o → x.2.p h B o) : Stb W Δ' B H :=
  ⟨S.ex, fun x hx => by
    obtain ⟨y, hy, e, i⟩ := h x hx
    obtain ⟨h1, o, h2, h3⟩ := S.mu y hy
    exact ⟨e ▸ h1, o, e ▸ h2, i _ _ _ h3⟩, by rw [hm]; exact S.nd, S.bb, S.hh, S.dm, S.fr, fun x hx => by
    obtain ⟨y, hy, e, _⟩ := h x hx
    exact e ▸ S.ow y hy, S.msd⟩
theorem go_impE {X : Cx} {ms : List Addr} {Γ : Gam} {Δ : Del} {sts : List Stmt} {K : Kk} (n : Nat) {a : Addr} {ob ob' : Ob} (hk : Δ[n]? = some (a, ob)) (hi : ∀ h B o, ob.p h B o → ob'.p h B o) (g : Go X ms Γ (Δ.set n (a, ob')) sts K) : Go X ms Γ Δ sts K := fun W Wi B H σ D hm tk S s ok => by
  refine g W Wi B H σ D hm tk (S.impE ?_ fun x hx => ?_) s ok
  · rw [List.map_set]
    apply List.ext_getElem?
    intro i
    by_cases hi : n = i
    · subst hi
      rw [List.getElem?_set_self (by rw [List.length_map]; exact (List.getElem?_eq_some_iff.mp hk).1), List.getElem?_map, hk]
      rfl
    · rw [List.getElem?_set_ne hi]
  · rcases List.mem_or_eq_of_mem_set hx with z | z
    · exact ⟨x, z, rfl, fun _ _ _ q => q⟩
    · subst z
      exact ⟨(a, ob), List.mem_of_getElem? hk, rfl, hi⟩
theorem imp_MI {C : Addr} {ns : List Str} {ps qs : List Pr} (h : Imps ps qs) : ∀ x B o, (MI C ns ps).p x B o → (MI C ns qs).p x B o := fun _ _ _ ⟨dx, xs, h1, h2⟩ => ⟨dx, xs, h1, h.all h2⟩
theorem sb_MI {C : Addr} {ns : List Str} {qs : List Pr} (hs : Sbs qs) {h B B' : Hp} {o : HO} (e : ∀ a, h a = none → B' a = B a) (q : (MI C ns qs).p h B o) : (MI C ns qs).p h B' o := by
  obtain ⟨dx, xs, h1, h2⟩ := q
  exact ⟨dx, xs, h1, hs.all e h2⟩
theorem sb_ML {qs : List Pr} (hs : Sbs qs) {h B B' : Hp} {o : HO} (e : ∀ a, h a = none → B' a = B a) (q : (ML qs).p h B o) : (ML qs).p h B' o := by
  obtain ⟨xs, h1, h2⟩ := q
  exact ⟨xs, h1, hs.all e h2⟩
end Yb
set_option maxHeartbeats 2000000
namespace Yb
open PySem PySem.Spec PyProof.Rows L2
section
variable {X : Cx} {ms : List Addr} {Γ : Gam} {Δ : Del} {K : Kk} {rest : List Stmt} {e a b c o : Expr} {es : List Expr} {P P' P2 : Pr} {Ps ps qs dps : List Pr} {pos pos' apos p2 : Pos} {x f m : Str} {k : Bool} {j : Nat} {Ke : Pr → Del → Prop} {Kx : Value → Del → Prop}
/-- [e1, e2], both with effects; the list itself stands still -/
theorem em_lst2 {Ke2 : Pr → Del → Pr → Del → Prop} (h1 : EM X ms Γ Δ a Ke Kx) (h2 : ∀ P1 Δ1, Ke P1 Δ1 → EM X ms Γ Δ1 b (Ke2 P1 Δ1) Kx) (hs : starEach [a, b] X.env = (false, eval a X.env) :: starEach [b] X.env := by rfl) (hs2 : starEach [b] X.env = (false, eval b X.env) :: starEach [] X.env := by rfl) :
    EM X ms Γ Δ (.List [a, b] pos) (fun P Δ' => ∃ P1 P2 Δ1, Ke P1 Δ1 ∧ Ke2 P1 Δ1 P2 Δ' ∧ P = N (L [P1, P2])) Kx := fun W Wi B H σ hm tk S s hx Q q =>
  wpE_of (pe_lst (pa_cons pe_wp (pa_cons pe_wp pa_nil hs2) hs)) (h1 W Wi B H σ hm tk S s hx _ fun P1 Δ1 v B1 H1 k1 S1 e1 g1 => h2 P1 Δ1 k1 W Wi B1 H1 σ hm tk S1 (s.mono e1) (fun c Δ' B' H' kx S' e' => hx c Δ' B' H' kx S' (e1.trans e')) _ fun P2 Δ2 u B2 H2 k2 S2 e2 g2 =>
    ⟨by show 2 ≤ sizeLine; decide, fun l hl => by
      have e3 := Ext.new (o := .lst [v, u]) S2.ex hl
      exact q _ Δ2 _ _ _ ⟨P1, P2, Δ1, k1, k2, rfl⟩ (S2.ext e3) ((e1.trans e2).trans e3.bb) ⟨⟨l, [v, u], rfl, upd_same, P1.mono (e2.trans e3.bb) g1, P2.mono e3.bb g2, trivial⟩, S2.frV hl⟩⟩)
/-- a and b, a true, b with effects -/
theorem em_and (ha : EE X Γ Δ a (Bo true)) (hb : EM X ms Γ Δ b Ke Kx) : EM X ms Γ Δ (.BoolOp .And [a, b] pos) Ke Kx := fun W Wi B H σ hm tk S s hx Q q =>
  wpE_of (pe_and pe_wp (pe_one pe_wp)) (ha W B H σ S s _ fun v B1 H1 e1 h1 => ⟨true, h1, hb W Wi B1 H1 σ hm tk (S.ext e1) (s.mono e1.bb) (fun c Δ' B' H' kx S' e' => hx c Δ' B' H' kx S' (e1.bb.trans e')) Q fun P Δ' v B' H' kp S' e' hv => q P Δ' v B' H' kp S' (e1.bb.trans e') hv⟩)
/-- the left without, the right with effects -/
theorem em_cmpR {op : CmpOp} (Rk : Bool → Del → Prop) (ha : EE X Γ Δ a P) (hb : EM X ms Γ Δ b Ke Kx) (hc : ∀ P' Δ', Ke P' Δ' → ∃ k, Cmp X op P P' k ∧ Rk k Δ') (hm : behindInMarks op b = false := by first | exact nomark _ | rfl) :
    EM X ms Γ Δ (.Compare a [op] [b] pos) (fun R Δ' => ∃ k, R = Bo k ∧ Rk k Δ') Kx := fun W Wi B H σ hms tk S s hx Q q => by
  refine wpE_of (pe_cmp pc_wp hm) fun pins st I => ?_
  refine thn (ha W B H σ S s (fun v H1 => ∃ B1, Ext B H B1 H1 ∧ P.p W.H B1 v) (fun v B1 H1 e1 h1 => ⟨B1, e1, h1⟩) pins st I) fun v s1 ⟨x, H1, I1, r1, B1, e1, h1⟩ => ?_
  refine thn (hb W Wi B1 H1 σ hms tk (S.ext e1) (s.mono e1.bb) (fun c Δ' B' H' kx S' e' => hx c Δ' B' H' kx S' (e1.bb.trans e')) (fun y H2 => ∃ P' Δ' B2, Ke P' Δ' ∧ Stb W Δ' B2 H2 ∧ Same B1 B2 ∧ P'.p W.H B2 y) (fun P' Δ' y B2 H2 kp S2 e2 h2 => ⟨P', Δ', B2, kp, S2, e2, h2⟩) pins s1 I1) fun w2 s2 ⟨y, H2, I2, r2, P', Δ', B2, kp, S2, e2, h2⟩ => ?_
  obtain ⟨k, ⟨r0, ho, hr⟩, rk⟩ := hc P' Δ' kp
  exact ho pins s2 σ H2 x y v w2 Q I2 r1 r2 (hr W.H x y B2 H2 S2.ex (P.mono e2 h1) h2 Q (q (Bo k) Δ' _ B2 H2 ⟨k, rfl, rk⟩ S2 (e1.bb.trans e2) rfl))
end
end Yb
namespace Yb
theorem perm_mid {α : Type} (A B C D : List α) : (A ++ (B ++ (C ++ D))).Perm (A ++ (C ++ (B ++ D))) := by
  refine List.Perm.append_left A ?_
  rw [← List.append_assoc, ← List.append_assoc]
  exact List.Perm.append_right D List.perm_append_comm
end Yb
set_option maxHeartbeats 2000000
namespace Yb
open PySem PySem.Spec PyProof.Rows L2
theorem br_T {Δ : Del} {ps qs : List Pr} (h : Brs Δ ps qs) : Br Δ (T ps) (T qs) := ⟨fun B H Bp v e hm e2 hb ⟨a, xs, h1, h2, h3⟩ => ⟨a, xs, h1, e2 _ _ h2, h.all e hm e2 hb h3⟩⟩
theorem br_NX {Δ : Del} {P Q : Pr} (h : Br Δ P Q) : Br Δ (N P) Q := ⟨fun B H Bp v e hm e2 hb q => h.ok B H Bp v e hm e2 hb q.1⟩
theorem sb_NI {C : Addr} {ns : List Str} {ps : List Pr} (h : Sbs ps) : Sb (N (Iv C ns ps)) := fun _ _ _ _ e ⟨⟨a, dx, xs, h1, h2, h3⟩, n⟩ => ⟨⟨a, dx, xs, h1, (e a (n a h1)).trans h2, h.all e h3⟩, n⟩
section
variable {X : Cx} {ms : List Addr} {Γ : Gam} {Δ : Del} {K : Kk} {rest : List Stmt} {e a b o : Expr} {es : List Expr} {P P' Pa : Pr} {Ps ps qs dps : List Pr} {pos pos' apos p2 : Pos} {x f m : Str} {C : Cn → Prop} {k j : Nat}
theorem ee_lenT {px : Pos} (ha : EE X Γ Δ a (T ps)) (hg : Gl X "len") (hm : X.mg "len" = none) (hs : starEach [a] X.env = (false, eval a X.env) :: starEach [] X.env := by rfl) : EE X Γ Δ (.Call (.Name "len" px) [a] [] pos) (I (ps.length : Int)) := fun W B H σ S s Q q =>
  wpE_of (pe_callB call_len_seq hg hm PySem.boot_len (pa_cons pe_wp pa_nil hs) (he := hs)) (ha W B H σ S s _ fun v B1 H1 e1 ⟨l, xs, h0, h1, h2⟩ => ⟨l, xs, by rw [h0], .inr (SqT.of (e1.bh _ _ h1)), by
    rw [← h2.len]
    exact q _ B1 H1 e1 rfl⟩)
/-- a call whose answer is a new tuple of a plain value and a new list of plain values: the list may change -/
theorem em_callU {Kx : Value → Del → Prop} (j : CJ X Γ Δ e C (fun _ => E0) Ps) (c : Cn) (hc : C c) (hp : Brs Δ Ps c.ps) (ha : Sc Pa) (hsc : Scs ps) (hΔ : c.Δ = [] := by rfl) (ho : ∀ P' Δ', c.out P' Δ' → P' = N (T [Pa, N (L ps)]) := by exact fun _ _ q => q.1) (hx : ∀ v Δ', c.exc v Δ' → False := by exact fun _ _ q => q) :
    EM X ms Γ Δ e (fun P' Δ' => ∃ l, l ∉ ms ∧ P' = N (T [Pa, Ref l]) ∧ Δ' = Δ ++ [(l, ML ps)]) Kx := fun W Wi B H σ hm tk S s hx0 Q q =>
  j W B H σ S s Q fun vs B1 H1 e1 h1 => by
    have S1 := S.ext e1
    obtain ⟨Bp, g1, g2, g3, g4⟩ := borrow S1
    have hm' : ∀ e ∈ Δ, ∃ o, H1 e.1 = some o ∧ e.2.p h0 B1 o := fun x hx => by
      obtain ⟨_, o, h2, h3⟩ := S1.mu x hx
      exact ⟨o, h2, x.2.anti (fun a z => absurd rfl z) h3⟩
    refine ⟨c, Bp, hc, g2, Brs.all e1.bh hm' g1 g3 hp (all_h0 h1), by rw [hΔ]; exact fun _ z => (List.not_mem_nil z).elim, by rw [hΔ]; exact List.nodup_nil, fun P' Δ' B' H' v o S' hv => ?_, fun x Δ' B' H' o _ => (hx x Δ' o).elim⟩
    rw [hΔ] at S'
    have e2 := Stb.pure S'
    obtain rfl := ho P' Δ' o
    obtain ⟨⟨t, xs, rfl, k1, k2⟩, k3⟩ := hv
    obtain ⟨u, w, rfl, m1, ⟨l, ys, rfl, m2, m3⟩, m4⟩ := k2.two
    have ht : H1 t = none := k3 t rfl
    have hl : H1 l = none := m4 l rfl
    have hne : l ≠ t := fun z => by rw [z, k1] at m2; cases m2
    have b1t : B1 t = none := e1.bh.free ht
    have b1l : B1 l = none := e1.bh.free hl
    have e3 : Ext B1 H1 (upd B1 t (.tup [u, .ref l])) H' := ⟨same_new b1t, e2.hh, fun a o h => by
        by_cases z : a = t
        · rw [z, upd_same] at h
          rw [z, ← h]
          exact e2.bh _ _ k1
        · rw [upd_ne z] at h
          exact e2.hh _ _ (e1.bh _ _ h), fun a h n => by
        have z : a ≠ t := fun z => n (by rw [z]; exact ht)
        rw [upd_ne z]; exact h⟩
    obtain ⟨n1, S2⟩ := mu_N (ps := ps) (l := l) (xs := ys) S1 e3 (e2.bh _ _ m2) (by rw [upd_ne hne]; exact b1l) hl (hsc.all m3)
    exact q _ _ (.ref t) _ H' ⟨l, hm ▸ n1, rfl, rfl⟩ S2 (e1.bb.trans e3.bb) ⟨⟨t, _, rfl, upd_same, ha _ _ _ _ _ m1, rfl, trivial⟩, S1.frV ht⟩
/-- a call that reads what may change and makes new entries -/
theorem em_callN {Kx : Value → Del → Prop} (j : CJ X Γ Δ e C (fun _ => E0) Ps) (c : Cn) (hc : C c) (hp : Brs Δ Ps c.ps) (hsb : ∀ P D, c.out P D → Sb P) (hsb2 : ∀ P D, c.out P D → ∀ z ∈ D, ∀ h B B' o, (∀ a, h a = none → B' a = B a) → z.2.p h B o → z.2.p h B' o)
    (hΔ : c.Δ = [] := by rfl) (hx : ∀ v Δ', c.exc v Δ' → False := by exact fun _ _ q => q) :
    EM X ms Γ Δ e (fun P' Δ' => ∃ D, c.out P' D ∧ Δ' = D ++ Δ ∧ ∀ z ∈ D, z.1 ∉ ms) Kx := fun W Wi B H σ hm tk S s hx0 Q q =>
  j W B H σ S s Q fun vs B1 H1 e1 h1 => by
    have S1 := S.ext e1
    obtain ⟨Bp, g1, g2, g3, g4⟩ := borrow S1
    have hm' : ∀ e ∈ Δ, ∃ o, H1 e.1 = some o ∧ e.2.p h0 B1 o := fun x hx => by
      obtain ⟨_, o, h2, h3⟩ := S1.mu x hx
      exact ⟨o, h2, x.2.anti (fun a z => absurd rfl z) h3⟩
    have inn : ∀ a, a ∈ Δ.map (·.1) → B1 a = none ∧ H1 a ≠ none := fun a h => by
      obtain ⟨x, hx, rfl⟩ := List.mem_map.mp h
      obtain ⟨h1, o, h2, _⟩ := S1.mu x hx
      exact ⟨h1, by rw [h2]; intro z; cases z⟩
    refine ⟨c, Bp, hc, g2, Brs.all e1.bh hm' g1 g3 hp (all_h0 h1), by rw [hΔ]; exact fun _ z => (List.not_mem_nil z).elim, by rw [hΔ]; exact List.nodup_nil, fun P' D B' H' v o S' hv => ?_, fun x Δ' B' H' o _ => (hx x Δ' o).elim⟩
    rw [hΔ] at S'
    let B2 : Hp := fun a => if a ∈ Δ.map (·.1) then none else B' a
    have b2i : ∀ a, a ∈ Δ.map (·.1) → B2 a = none := fun a h => if_pos h
    have b2o : ∀ a, a ∉ Δ.map (·.1) → B2 a = B' a := fun a h => if_neg h
    have newE : ∀ z ∈ D, H1 z.1 = none := fun z hz => by
      rcases S'.ow z hz with w1 | w1
      · exact absurd w1 List.not_mem_nil
      · exact w1
    have nin : ∀ z ∈ D, z.1 ∉ Δ.map (·.1) := fun z hz q => (inn _ q).2 (newE z hz)
    have bn : ∀ a, H1 a = none → B2 a = B' a := fun a h => b2o a fun z => (inn a z).2 h
    have hkeep : ∀ a o, H1 a = some o → H' a = some o := fun a o h => S'.hh a o h List.not_mem_nil
    have S5 : Stb W (D ++ Δ) B2 H' := by
      refine ⟨fun a o h => ?_, fun x hx => ?_, ?_, fun a o h => ?_, fun a o h n => hkeep a o (S1.hh a o h n), fun a h z => S1.dm a h (by
          cases e : H1 a with
          | none => rfl
          | some o => rw [hkeep a o e] at z; cases z), fun a h n => ?_, fun x hx => ?_, S1.msd⟩
      · by_cases z : a ∈ Δ.map (·.1)
        · rw [b2i a z] at h; cases h
        · rw [b2o a z] at h; exact S'.ex a o h
      · rcases List.mem_append.mp hx with hx | hx
        · obtain ⟨k1, u, k2, k3⟩ := S'.mu x hx
          exact ⟨by rw [b2o _ (nin x hx)]; exact k1, u, k2, x.2.anti (fun a h => S1.dm a h) (hsb2 P' D o x hx _ B' B2 u bn k3)⟩
        · obtain ⟨k1, u, k2, k3⟩ := S1.mu x hx
          refine ⟨b2i _ (List.mem_map_of_mem hx), u, hkeep _ _ k2, x.2.mono (fun a o h => ?_) k3⟩
          have na : a ∉ Δ.map (·.1) := fun z => by rw [(inn a z).1] at h; cases h
          rw [b2o a na]
          exact S'.bb a o (g1 a o h)
      · rw [List.map_append]
        refine List.nodup_append.mpr ⟨S'.nd, S1.nd, fun a ha b hb e => ?_⟩
        obtain ⟨x, hx, rfl⟩ := List.mem_map.mp ha
        exact nin x hx (e ▸ hb)
      · have na : a ∉ Δ.map (·.1) := fun z => by
          have := S1.bb a o h
          rw [(inn a z).1] at this; cases this
        rw [b2o a na]
        exact S'.bb a o (g1 a o (S1.bb a o h))
      · by_cases z : a ∈ Δ.map (·.1)
        · exact b2i a z
        · rw [b2o a z]
          exact S'.fr a ((g4 a z).trans (S1.fr a h n)) (S1.dm a n)
      · rcases List.mem_append.mp hx with hx | hx
        · exact .inr (S1.fresh (newE x hx))
        · exact S1.ow x hx
    have sm : Same B B2 := fun a o h => by
      have na : a ∉ Δ.map (·.1) := fun z => by
        have := e1.bb a o h
        rw [(inn a z).1] at this; cases this
      rw [b2o a na]
      exact S'.bb a o (g1 a o (e1.bb a o h))
    have nms : ∀ z ∈ D, z.1 ∉ ms := fun z hz q => S1.msd z.1 (hm ▸ q) (S1.fresh (newE z hz))
    exact q P' _ v B2 H' ⟨D, o, rfl, nms⟩ S5 sm (P'.anti (fun a h => S1.dm a h) (hsb P' D o _ B' _ _ bn hv))
end
end Yb
set_option maxHeartbeats 2000000
/-! What law_k11 wants beyond: lists of lists that may change, range(a, b) in a comprehension. -/
namespace Yb
open PySem PySem.Spec PyProof.Rows L2
section
variable {X : Cx} {ms : List Addr} {Γ : Gam} {Δ : Del} {K : Kk} {rest : List Stmt} {e a b o elt : Expr} {P : Pr} {pos pos' apos p2 pr pc px : Pos} {k : Bool} {ps qs : List Pr} {x y : Str} {scope : Scope} {ifs : List Expr}
/-- a loop whose entries grow -/
theorem go_forRJ {n : Int} {body : List Stmt} (j : Nat) (J : Nat → Gam → Del → Prop) (hp : PassesOwn (model X.prog X.w) X.A X.env X.xe) (hN : X.N.Nodup) (ha : EE X Γ Δ a (I n)) (hn : n ≤ 100000) (hn0 : -100000 ≤ n) (h0 : J 0 Γ Δ)
    (hg : Gl X "range") (hm' : X.mg "range" = none) (hs : ∀ (i : Nat) (Γ' : Gam) (Δ' : Del), (i : Int) < n → J i Γ' Δ' → Go X ms (Γ'.set j (some (I (i : Int)))) Δ' body { nx := J (i + 1), ct := J (i + 1), rt := K.rt, ex := K.ex })
    (hd : ∀ (Γ' : Gam) (Δ' : Del), J n.toNat Γ' Δ' → Go X ms Γ' Δ' rest K) (hc : X.calm = true := by rfl) (hi : X.N[j]? = some x := by rfl) (hx : Loc X.env.scope x := by first | exact Or.inl rfl | exact Or.inr rfl) (hf : X.fn x = true ∨ X.env.scope.names.lookup x = some .local := by first | exact .inl rfl | exact .inr rfl)
    (hst : starEach [a] X.env = (false, eval a X.env) :: starEach [] X.env := by rfl) (hst2 : starEach [a] X.env = [(false, eval a X.env)] := by rfl) (hfs : ∀ x, foldedSetIterable (.Call (.Name "range" pr) [a] [] pc) X.env x = pure x := by intro _; rfl) :
    Go X ms Γ Δ (.For (.Name x px) (.Call (.Name "range" pr) [a] [] pc) body [] pos :: rest) K := fun W Wi B H σ D hm tk S s ok =>
  wpSs_of (pss_cons (ps_for hp hc (pi_range1 hg hm' (pa_cons pe_wp pa_nil hst) hst2) (pg_name hN hi hx hf) pss_wp hfs) pss_wp) (ha W B H σ S s _ fun v B1 H1 e1 h1 => ⟨n, by rw [show v = .int n from h1], by omega, by omega,
    for_range (lo := 0) (n := n.toNat) (fun i σ' H' => ∃ Γ' Δ' B', J i Γ' Δ' ∧ Stb W Δ' B' H' ∧ Sl Γ' W.H B' σ') ⟨Γ, Δ, B1, h0, S.ext e1, s.mono e1.bb⟩ (fun i σ' H' hlt ⟨Γ', Δ', B', p', S', s'⟩ => by
      have e0 : (0 : Int) + (i : Int) = (i : Int) := Int.zero_add _
      show wpSs X body _ (σ'.set j (some (.int ((0 : Int) + (i : Int))))) H'
      rw [e0]
      exact hs i Γ' Δ' (by omega) p' W Wi B' H' _ _ hm tk S' (s'.set j rfl) ⟨fun Γ' Δ' B2 H2 σ2 q S2 s2 => ⟨Γ', Δ', B2, q, S2, s2⟩, ok.rt, fun _ _ _ _ _ q => q.elim, fun Γ' Δ' B2 H2 σ2 q S2 s2 => ⟨Γ', Δ', B2, q, S2, s2⟩, ok.ex⟩)
      (fun σ' H' ⟨Γ', Δ', B', p', S', s'⟩ => hd Γ' Δ' p' W Wi B' H' σ' D hm tk S' s' ok)⟩)
/-- a loop over a list of lists, an entry that the loop leaves alone -/
theorem go_forRefs {body : List Stmt} {l : Addr} {as : List Addr} (m j : Nat) (Γf : Nat → Gam) (Δf : Nat → Del) (hp : PassesOwn (model X.prog X.w) X.A X.env X.xe) (hN : X.N.Nodup) (ha : EE X Γ Δ a (Ref l)) (hk : ∀ i, i ≤ as.length → (Δf i)[m]? = some (l, ML (as.map Ref))) (h0 : Wk Γ (Γf 0) ∧ Δ = Δf 0)
    (hs : ∀ (i : Nat) (c : Addr), as[i]? = some c → Go X ms ((Γf i).set j (some (Ref c))) (Δf i) body { nx := fun Γ' Δ' => Wk Γ' (Γf (i + 1)) ∧ Δ' = Δf (i + 1), ct := fun Γ' Δ' => Wk Γ' (Γf (i + 1)) ∧ Δ' = Δf (i + 1), rt := K.rt, ex := K.ex })
    (hd : Go X ms (Γf as.length) (Δf as.length) rest K) (hc : X.calm = true := by rfl) (hi : X.N[j]? = some x := by rfl) (hx : Loc X.env.scope x := by first | exact Or.inl rfl | exact Or.inr rfl) (hf : X.fn x = true ∨ X.env.scope.names.lookup x = some .local := by first | exact .inl rfl | exact .inr rfl)
    (hfs : ∀ x, foldedSetIterable a X.env x = pure x := by intro _; rfl) : Go X ms Γ Δ (.For (.Name x px) a body [] pos :: rest) K := fun W Wi B H σ D hm tk S s ok => by
  have at_ : ∀ (i : Nat) (B' H' : Hp), i ≤ as.length → Stb W (Δf i) B' H' → SqL X.K H' l (as.map V.ref) := fun i B' H' hil S' => by
    obtain ⟨_, o, h1, xs, rfl, h2⟩ := S'.at (hk i hil)
    rw [← all_refs h2]
    exact SqL.of h1
  have hlen : (as.map V.ref).length = as.length := List.length_map ..
  refine wpSs_of (pss_cons (ps_for hp hc (pi_list pe_wp) (pg_name hN hi hx hf) pss_wp hfs) pss_wp) (ha W B H σ S s _ fun v B1 H1 e1 h1 => ?_)
  have ev : v = .ref l := h1
  subst ev
  have S1 : Stb W (Δf 0) B1 H1 := h0.2 ▸ S.ext e1
  refine ⟨l, rfl, ⟨as.map V.ref, at_ 0 B1 H1 (Nat.zero_le _) S1⟩, ?_⟩
  refine for_list (K := X.K) (a := l) (xs := as.map V.ref) (fun i σ' H' => i ≤ as.length ∧ ∃ B', Stb W (Δf i) B' H' ∧ Sl (Γf i) W.H B' σ') ⟨Nat.zero_le _, B1, S1, (s.mono e1.bb).wk h0.1⟩ (fun i σ' H' _ ⟨hil, B', S', _⟩ => at_ i B' H' hil S') (fun i v σ' H' hiv ⟨_, B', S', s'⟩ => ?_) (fun σ' H' ⟨_, B', S', s'⟩ => ?_)
  · have hil : i < as.length := by rw [← hlen]; exact (List.getElem?_eq_some_iff.mp hiv).1
    have hc' : as[i]? = some as[i] := List.getElem?_eq_getElem hil
    rw [List.getElem?_map, hc'] at hiv
    have ev : v = .ref as[i] := (Option.some.inj hiv).symm
    subst ev
    exact hs i as[i] hc' W Wi B' H' _ _ hm tk S' (s'.set j rfl) ⟨fun Γ' Δ' B2 H2 σ2 q S2 s2 => ⟨hil, B2, q.2 ▸ S2, s2.wk q.1⟩, ok.rt, fun _ _ _ _ _ q => q.elim, fun Γ' Δ' B2 H2 σ2 q S2 s2 => ⟨hil, B2, q.2 ▸ S2, s2.wk q.1⟩, ok.ex⟩
  · rw [hlen] at S' s'
    exact hd W Wi B' H' σ' D hm tk S' s' ok
/-- xs.append(e), xs an entry, e a new list that may change -/
theorem go_appN (n : Nat) {l : Addr} (ho : EE X Γ Δ o (Ref l)) (he : EN X Γ Δ e qs) (hk : Δ[n]? = some (l, ML ps)) (hz : ps.length < 100000) (h : ∀ r, r ∉ ms → Go X ms Γ ((Δ ++ [(r, ML qs)]).set n (l, ML (ps ++ [Ref r]))) rest K)
    (hbase : attributeBase o "append" X.env (eval o X.env) = eval o X.env := by rfl)
    (hfew : ((backTo p2 (starEach [e] X.env)).all (fun x => !x.1) && (backToKw p2 (keywordEach [] X.env)).all (fun x => x.1.isSome) && decide (([e] : List Expr).length + ([] : List Keyword).length + (if ([] : List Keyword).isEmpty then 0 else 1) < 30)) = true := by rfl)
    (hline : (apos.endLine == p2.line) = true := by rfl) (hs1 : starEach [e] X.env = (false, eval e X.env) :: starEach [] X.env := by rfl) (hplain : (backTo p2 (starEach [] X.env)).any (·.1) = false := by rfl)
    (hs : swapsWith (.Call (.Attribute o "append" apos) [e] [] p2) none pos.line X.env = pure false := by rfl) : Go X ms Γ Δ (.Expr (.Call (.Attribute o "append" apos) [e] [] p2) pos :: rest) K := fun W Wi B H σ D hm tk S s ok =>
  wpSs_of (pss_cons (ps_expr (pe_bm PySem.F.plainAttrs_list PySem.F.slot_list_append PySem.F.type_list_append mt_append pe_wp (pa_cons pe_wp pa_nil hs1) hbase hfew hline hs1 hplain) hs) pss_wp) (ho W B H σ S s _ fun w B1 H1 e1 g1 => by
    have S1 := S.ext e1
    obtain ⟨_, ob, k1, xs, rfl, k2⟩ := S1.at hk
    have ew : w = .ref l := g1
    subst ew
    refine ⟨.inl ⟨rfl, xs, SqL.of k1⟩, he W B1 H1 σ S1 (s.mono e1.bb) _ fun r ys B2 H2 e2 g2 g3 g4 g5 => ?_⟩
    obtain ⟨hrm, S2⟩ := mu_N S1 e2 g2 g3 g4 g5
    refine ⟨l, xs, .ref r, rfl, rfl, e2.hh _ _ k1, by rw [← k2.len]; exact sz_lt hz, ?_⟩
    have hk2 : (Δ ++ [(r, ML qs)])[n]? = some (l, ML ps) := by
      rw [List.getElem?_append_left (List.getElem?_eq_some_iff.mp hk).1]; exact hk
    exact h r (hm ▸ hrm) W Wi B2 _ σ D hm tk (S2.put hk2 ⟨_, rfl, All.app (qs := [Ref r]) (us := [.ref r]) ⟨rfl, trivial⟩ (k2.mono e2.bb)⟩) ((s.mono e1.bb).mono e2.bb) ok)
/-- a list that may change, lent, and what it holds too -/
theorem br_ML {Δ : Del} {ps qs : List Pr} (n : Nat) {a : Addr} (h : Δ[n]? = some (a, ML ps)) (hb : Brs Δ ps qs) : Br Δ (Ref a) (L qs) := ⟨fun B H Bp v e hm e2 hbb hv => by
  have ev : v = .ref a := hv
  subst ev
  have hmem := List.mem_of_getElem? h
  obtain ⟨o, h1, xs, rfl, h2⟩ := hm _ hmem
  exact ⟨a, xs, rfl, (hbb _ hmem).trans h1, hb.all e hm e2 hbb h2⟩⟩
/-- lists, entries each -/
theorem brs_refs {Δ : Del} : ∀ {as : List Addr} {rws : List (List Pr)} (m : Nat), as.length = rws.length → (∀ i, i < as.length → Δ[m + i]? = (as.zip (rws.map ML))[i]?) → Brs Δ (as.map Ref) (rws.map L)
  | [], [], _, _, _ => trivial
  | a :: as, r :: rws, m, hl, h => ⟨br_L m (by have := h 0 (Nat.zero_lt_succ _); rw [Nat.add_zero] at this; exact this), brs_refs (m + 1) (by simpa using hl) fun i hi => by
      have := h (i + 1) (by simpa using hi)
      rw [show m + (i + 1) = m + 1 + i by omega] at this
      exact this⟩
  | [], _ :: _, _, hl, _ => by cases hl
  | _ :: _, [], _, hl, _ => by cases hl
/-! range(a, b) in a comprehension -/
theorem lcR2_read {lo n : Int} (f : Nat → Bool) (Pe : Nat → Pr) (j : Nat) (ha : EE X Γ Δ a (I lo)) (hb : EE X Γ Δ b (I n)) (hn : (n ≤ 20000 ∧ -20000 ≤ n) ∧ lo ≤ 20000 ∧ -20000 ≤ lo)
    (ht : ∀ z : Nat, lo + (z : Int) < n → EI X scope (Γ.set j (some (I (lo + (z : Int))))) Δ ifs (f z)) (he : ∀ z : Nat, lo + (z : Int) < n → f z = true → EB X scope (Γ.set j (some (I (lo + (z : Int))))) Δ elt (Pe z)) :
    ENt Γ Δ (tLc (iRng2 (tCons (wpE X a) (tCons (wpE X b) tNil))) (gName j) (wpIf X scope ifs) (wpB X scope elt) [j]) (((List.range (n - lo).toNat).filter f).map Pe) := fun W B H σ S s Q q => by
  refine ha W B H σ S s _ fun w B0 H0 e0 h0 => hb W B0 H0 σ (S.ext e0) (s.mono e0.bb) _ fun u B1 H1 e1 h1 => ⟨lo, n, by rw [show w = .int lo from h0, show u = .int n from h1], by omega, fun D hD => ?_⟩
  have S1 := (S.ext e0).ext e1
  have s1 := (s.mono e0.bb).mono e1.bb
  refine lc_range (lo := lo) (n := (n - lo).toNat) (fun i H' => ∃ B' ys, Ext B1 H1 B' H' ∧ H' D = some (.lst ys) ∧ B' D = none ∧ ys.length ≤ i ∧ All W.H B' (((List.range i).filter f).map Pe) ys) ⟨B1, [], Ext.newH e1.bh hD, upd_same, e1.bh.free hD, Nat.le_refl _, trivial⟩
    (fun i H' hiv ⟨B', ys, e', g1, g2, g3, g4⟩ => ?_) (fun H' ⟨B', ys, e', g1, g2, g3, g4⟩ => ?_)
  · refine ⟨?_, lc_turn (P := I (lo + (i : Int))) (Pe := Pe i) (v := .int (lo + (i : Int))) (S1.ext e') (s1.mono e'.bb) rfl (ht i (by omega)) (he i (by omega)) e' g1 g2 hD g4 (by omega) _ (fun hb B2 H2 k1 k2 k3 k4 => ⟨B2, ys, k1, k2, k3, by omega, ?_⟩) (fun hb B2 H2 u k1 k2 k3 k4 => ⟨B2, _, k1, k2, k3, by rw [List.length_append, List.length_singleton]; omega, ?_⟩)⟩
    · show ((σ.set j none).set j (some (V.int (lo + (i : Int))))).set j none = σ.set j none
      rw [List.set_set, List.set_set]
    · rw [List.range_succ, List.filter_append, List.filter_cons, if_neg (by rw [hb]; decide), List.filter_nil, List.append_nil]
      exact k4
    · rw [List.range_succ, List.filter_append, List.filter_cons, if_pos hb, List.filter_nil, List.map_append]
      exact k4
  · exact q D ys B' H' ((e0.trans e1).trans e') g1 g2 (e0.hh.free (e1.hh.free hD)) g4
theorem lcsR2 {lo n : Int} {py spos : Pos} (i : Nat) (f : Nat → Bool) (Pe : Nat → Pr) (j : Nat) (hN : X.N.Nodup) (ha : EE X Γ Δ a (I lo)) (hb : EE X Γ Δ b (I n)) (hn : (n ≤ 20000 ∧ -20000 ≤ n) ∧ lo ≤ 20000 ∧ -20000 ≤ lo) (hgl : Gl X "range") (hm : X.mg "range" = none) (ok : BlkOk X.N X.env.scope scope [(x, j)])
    (hg : ∀ (s : Shared) (H : Hp) (C : Addr) (cl : List (Str × Addr)) (fp : List Addr), PG (X.blk s H scope (compEnvC scope cl C X.env) fp) (.Name x px) (gName j))
    (ht : ∀ z : Nat, lo + (z : Int) < n → EI X scope (Γ.set j (some (I (lo + (z : Int))))) Δ ifs (f z)) (he : ∀ z : Nat, lo + (z : Int) < n → f z = true → EB X scope (Γ.set j (some (I (lo + (z : Int))))) Δ elt (Pe z)) (hi : ifs.length ≤ 1 := by decide) (hc : X.calm = true := by rfl)
    (hy : X.N[i]? = some y := by rfl) (hyl : X.env.scope.names.lookup y = some .local := by rfl) (hsw : swapsWith (.ListComp elt [⟨.Name x px, .Call (.Name "range" pr) [a, b] [] pc, ifs, 0⟩] scope pos) (some (.Name y py)) spos.line X.env = pure true := by exact sw_true rfl rfl rfl (by decide +kernel))
    (hst : starEach [a, b] X.env = (false, eval a X.env) :: starEach [b] X.env := by rfl) (hst2 : starEach [b] X.env = (false, eval b X.env) :: starEach [] X.env := by rfl) (hst3 : starEach [a, b] X.env = [(false, eval a X.env), (false, eval b X.env)] := by rfl) (hst4 : starEach [b] X.env = [(false, eval b X.env)] := by rfl)
    (hs : ∀ x, foldedSetIterable (.Call (.Name "range" pr) [a, b] [] pc) X.env x = pure x := by intro _; rfl) :
    LcS X Γ Δ (.Assign [.Name y py] (.ListComp elt [⟨.Name x px, .Call (.Name "range" pr) [a, b] [] pc, ifs, 0⟩] scope pos) spos) i (((List.range (n - lo).toNat).filter f).map Pe) :=
  ⟨_, ps_setLc (own := [(x, j)]) (g := gName j) hc hN hy hyl hsw (pi_range2 hgl hm (pa_cons pe_wp (pa_cons pe_wp pa_nil hst2) hst) hst3 hst4) ok hg (pts_if hi) pe_b hs, lcR2_read f Pe j ha hb hn ht he⟩
end
end Yb
set_option maxHeartbeats 4000000
namespace Lp
open PySem PySem.Spec PyProof.Rows L2 Yb
def top (i : Nat) : Stmt := PySem.Challenge.pw_lampyard_k11_whole_quiet_sets.main.body.getD i (.Pass ⟨0, 0, 0, 0⟩)
abbrev yMost : Str := "MOST"
abbrev s_mixed : Stmt := top 9
theorem sc_mixed : FnScope ["one", "other", "k"] ["one", "other"] (defScope s_mixed) := ⟨rfl, rfl, rfl, by decide +kernel, rfl, by decide +kernel, by decide +kernel⟩
abbrev s_equations : Stmt := top 10
theorem sc_equations : FnScope ["yard", "wanted", "found", "turns", "lamp", "buttons", "button", "row", "k"] ["yard", "wanted"] (defScope s_equations) := ⟨rfl, rfl, rfl, by decide +kernel, rfl, by decide +kernel, by decide +kernel⟩
abbrev s_together : Stmt := top 11
theorem sc_together : FnScope ["one", "other"] ["one", "other"] (defScope s_together) := ⟨rfl, rfl, rfl, by decide +kernel, rfl, by decide +kernel, by decide +kernel⟩
abbrev s_leader : Stmt := top 12
theorem sc_leader : FnScope ["rows", "done", "column", "k"] ["rows", "done", "column"] (defScope s_leader) := ⟨rfl, rfl, rfl, by decide +kernel, rfl, by decide +kernel, by decide +kernel⟩
abbrev s_cleared : Stmt := top 13
theorem sc_cleared : FnScope ["rows", "leads", "column", "at", "done", "head", "k"] ["rows"] (defScope s_cleared) := ⟨rfl, rfl, rfl, by decide +kernel, rfl, by decide +kernel, by decide +kernel⟩
abbrev s_quiet : Stmt := top 14
theorem sc_quiet : FnScope ["yard", "rows", "leads", "found", "column", "others", "k"] ["yard"] (defScope s_quiet) := ⟨rfl, rfl, rfl, by decide +kernel, rfl, by decide +kernel, by decide +kernel⟩
abbrev s_Yard_init : Stmt := inClass (top 17) 0
theorem sc_Yard_init : FnScope ["self", "many", "k"] ["self", "many"] (defScope s_Yard_init) := ⟨rfl, rfl, rfl, by decide +kernel, rfl, by decide +kernel, by decide +kernel⟩
abbrev s_Yard_ask : Stmt := inClass (top 17) 1
theorem sc_Yard_ask : FnScope ["self", "lamp"] ["self", "lamp"] (defScope s_Yard_ask) := ⟨rfl, rfl, rfl, by decide +kernel, rfl, by decide +kernel, by decide +kernel⟩
abbrev s_Yard_ask_two : Stmt := inClass (top 17) 2
theorem sc_Yard_ask_two : FnScope ["self", "one", "other"] ["self", "one", "other"] (defScope s_Yard_ask_two) := ⟨rfl, rfl, rfl, by decide +kernel, rfl, by decide +kernel, by decide +kernel⟩
abbrev s_Yard_is_tied : Stmt := inClass (top 17) 3
theorem sc_Yard_is_tied : FnScope ["self", "one", "other"] ["self", "one", "other"] (defScope s_Yard_is_tied) := ⟨rfl, rfl, rfl, by decide +kernel, rfl, by decide +kernel, by decide +kernel⟩
abbrev s_Yard_tie : Stmt := inClass (top 17) 4
theorem sc_Yard_tie : FnScope ["self", "one", "other"] ["self", "one", "other"] (defScope s_Yard_tie) := ⟨rfl, rfl, rfl, by decide +kernel, rfl, by decide +kernel, by decide +kernel⟩
abbrev s_Yard_untie : Stmt := inClass (top 17) 5
theorem sc_Yard_untie : FnScope ["self", "one", "other"] ["self", "one", "other"] (defScope s_Yard_untie) := ⟨rfl, rfl, rfl, by decide +kernel, rfl, by decide +kernel, by decide +kernel⟩
abbrev s_Yard_set_shy : Stmt := inClass (top 17) 6
theorem sc_Yard_set_shy : FnScope ["self", "lamp", "answer"] ["self", "lamp", "answer"] (defScope s_Yard_set_shy) := ⟨rfl, rfl, rfl, by decide +kernel, rfl, by decide +kernel, by decide +kernel⟩
abbrev s_Yard_turns : Stmt := inClass (top 17) 8
theorem sc_Yard_turns : FnScope ["self", "lamp", "found", "other"] ["self", "lamp"] (defScope s_Yard_turns) := ⟨rfl, rfl, rfl, by decide +kernel, rfl, by decide +kernel, by decide +kernel⟩
abbrev s__law_cell_at : Stmt := top 19
theorem sc__law_cell_at : FnScope ["script", "k"] ["script", "k"] (defScope s__law_cell_at) := ⟨rfl, rfl, rfl, by decide +kernel, rfl, by decide +kernel, by decide +kernel⟩
abbrev s__law_mix : Stmt := top 20
theorem sc__law_mix : FnScope ["cell", "k", "seed"] ["cell", "k"] (defScope s__law_mix) := ⟨rfl, rfl, rfl, by decide +kernel, rfl, by decide +kernel, by decide +kernel⟩
abbrev s__law_many : Stmt := top 21
theorem sc__law_many : FnScope ["cell"] ["cell"] (defScope s__law_many) := ⟨rfl, rfl, rfl, by decide +kernel, rfl, by decide +kernel, by decide +kernel⟩
abbrev s__law_drawn : Stmt := top 22
theorem sc__law_drawn : FnScope ["script", "many", "much", "ties", "other", "one", "drawn", "shy", "k"] ["script"] (defScope s__law_drawn) := ⟨rfl, rfl, rfl, by decide +kernel, rfl, by decide +kernel, by decide +kernel⟩
abbrev s__law_built : Stmt := top 23
theorem sc__law_built : FnScope ["many", "ties", "shy", "yard", "k", "lamp"] ["many", "ties", "shy"] (defScope s__law_built) := ⟨rfl, rfl, rfl, by decide +kernel, rfl, by decide +kernel, by decide +kernel⟩
abbrev s__law_turns : Stmt := top 24
theorem sc__law_turns : FnScope ["many", "ties", "shy", "one", "other", "found", "row"] ["many", "ties", "shy"] (defScope s__law_turns) := ⟨rfl, rfl, rfl, by decide +kernel, rfl, by decide +kernel, by decide +kernel⟩
abbrev s__law_pressed : Stmt := top 25
theorem sc__law_pressed : FnScope ["light", "turns", "presses", "lamp", "other"] ["light", "turns", "presses"] (defScope s__law_pressed) := ⟨rfl, rfl, rfl, by decide +kernel, rfl, by decide +kernel, by decide +kernel⟩
abbrev s__law_whole : Stmt := top 26
theorem sc__law_whole : FnScope ["found"] ["found"] (defScope s__law_whole) := ⟨rfl, rfl, rfl, by decide +kernel, rfl, by decide +kernel, by decide +kernel⟩
abbrev s__law_lamps : Stmt := top 27
theorem sc__law_lamps : FnScope ["found", "many", "k"] ["found", "many"] (defScope s__law_lamps) := ⟨rfl, rfl, rfl, by decide +kernel, rfl, by decide +kernel, by decide +kernel⟩
abbrev s__law_bits : Stmt := top 28
theorem sc__law_bits : FnScope ["lamps", "many", "k"] ["lamps", "many"] (defScope s__law_bits) := ⟨rfl, rfl, rfl, by decide +kernel, rfl, by decide +kernel, by decide +kernel⟩
abbrev s__law_rank : Stmt := top 29
theorem sc__law_rank : FnScope ["rows", "many", "column", "k", "heads", "head", "row", "j"] ["rows"] (defScope s__law_rank) := ⟨rfl, rfl, rfl, by decide +kernel, rfl, by decide +kernel, by decide +kernel⟩
abbrev s__law_right : Stmt := top 30
theorem sc__law_right : FnScope ["found", "turns", "due", "many", "dark", "lamps", "k"] ["found", "turns", "due"] (defScope s__law_right) := ⟨rfl, rfl, rfl, by decide +kernel, rfl, by decide +kernel, by decide +kernel⟩
abbrev s_law : Stmt := top 31
theorem sc_law : FnScope ["script", "many", "ties", "shy", "turns", "yard", "due", "turn", "found", "lamps", "others", "lamp", "tie", "row"] ["script"] (defScope s_law) := ⟨rfl, rfl, rfl, by decide +kernel, rfl, by decide +kernel, by decide +kernel⟩
/-! ### the yard -/
abbrev yns : List Str := ["many", "ties", "hides"]
/-- what the top has left: built-ins' names free, the yard's class, the errors -/
structure Bl (mg : Str → Option Value) : Prop where
  len : mg "len" = none
  list : mg "list" = none
  range : mg "range" = none
  min : mg "min" = none
  max : mg "max" = none
  str : mg "str" = none
  int : mg "int" = none
  bool : mg "bool" = none
  tuple : mg "tuple" = none
  all : mg "all" = none
  any : mg "any" = none
  sorted : mg "sorted" = none
  isi : mg "isinstance" = none
  rev : mg "reversed" = none
  ve : mg "ValueError" = none
structure Yt (K : PySem.W.Frag) (mg : Str → Option Value) (CY cNY cNL cAl cTi cUn : Addr) : Prop where
  cl : Cls K CY
  nm : NoAttr K CY "many"
  nt : NoAttr K CY "ties"
  nh : NoAttr K CY "hides"
  most : ∃ t, mg yMost = some (.int 24 t)
  ny : ExcT K mg "NoYard" cNY
  nl : ExcT K mg "NoLamp" cNL
  al : ExcT K mg "Alone" cAl
  ti : ExcT K mg "Tied" cTi
  un : ExcT K mg "Untied" cUn
/-- a number that is a lamp's -/
def okL (n lamp : Int) : Prop := 0 ≤ lamp ∧ lamp < n
def pair (i j : Int) : Int × Int := (if j < i then j else i, if j > i then j else i)
def c_ask (CY cNL : Addr) (n lamp : Int) (q r : Pr) : Cn := ⟨[Iv CY yns [I n, q, r], I lamp], fun P _ => P = No ∧ okL n lamp, [], fun v _ => v = .ref cNL ∧ ¬ okL n lamp⟩
def C_ask (CY cNL : Addr) : Cn → Prop := fun c => ∃ (n lamp : Int) (q r : Pr), Hi q ∧ Hi r ∧ c = c_ask CY cNL n lamp q r
def exc2 (cNL cAl : Addr) (n i j : Int) (v : Value) : Prop := (v = .ref cNL ∧ ¬ (okL n i ∧ okL n j)) ∨ (v = .ref cAl ∧ (okL n i ∧ okL n j) ∧ i = j)
def ok2 (n i j : Int) : Prop := (okL n i ∧ okL n j) ∧ i ≠ j
def c_two (CY cNL cAl : Addr) (n i j : Int) (q r : Pr) : Cn := ⟨[Iv CY yns [I n, q, r], I i, I j], fun P _ => P = No ∧ ok2 n i j, [], fun v _ => exc2 cNL cAl n i j v⟩
def C_two (CY cNL cAl : Addr) : Cn → Prop := fun c => ∃ (n i j : Int) (q r : Pr), Hi q ∧ Hi r ∧ c = c_two CY cNL cAl n i j q r
def c_istied (CY cNL cAl : Addr) (n i j : Int) (ks : List (Int × Int)) (r : Pr) : Cn := ⟨[Iv CY yns [I n, DTv ks, r], I i, I j], fun P _ => P = Bo (decide (pair i j ∈ ks)) ∧ ok2 n i j, [], fun v _ => exc2 cNL cAl n i j v⟩
def C_istied (CY cNL cAl : Addr) : Cn → Prop := fun c => ∃ (n i j : Int) (ks : List (Int × Int)) (r : Pr), Hi r ∧ c = c_istied CY cNL cAl n i j ks r
def c_tie (CY cNL cAl cTi : Addr) (n i j : Int) (ks : List (Int × Int)) (d : Addr) (r : Pr) : Cn := ⟨[Iv CY yns [I n, Ref d, r], I i, I j], fun P D => P = No ∧ ok2 n i j ∧ ¬ pair i j ∈ ks ∧ D = [(d, MT (ks ++ [pair i j]))], [(d, MT ks)],
  fun v D => (exc2 cNL cAl n i j v ∨ (v = .ref cTi ∧ ok2 n i j ∧ pair i j ∈ ks)) ∧ D = [(d, MT ks)]⟩
def C_tie (CY cNL cAl cTi : Addr) : Cn → Prop := fun c => ∃ (n i j : Int) (ks : List (Int × Int)) (d : Addr) (r : Pr), Hi r ∧ ks.length < 5000 ∧ c = c_tie CY cNL cAl cTi n i j ks d r
def c_untie (CY cNL cAl cUn : Addr) (n i j : Int) (ks : List (Int × Int)) (d : Addr) (r : Pr) : Cn := ⟨[Iv CY yns [I n, Ref d, r], I i, I j], fun P D => P = No ∧ ok2 n i j ∧ pair i j ∈ ks ∧ D = [(d, MT (ks.filter fun q => decide (q ≠ pair i j)))], [(d, MT ks)],
  fun v D => (exc2 cNL cAl n i j v ∨ (v = .ref cUn ∧ ok2 n i j ∧ ¬ pair i j ∈ ks)) ∧ D = [(d, MT ks)]⟩
def C_untie (CY cNL cAl cUn : Addr) : Cn → Prop := fun c => ∃ (n i j : Int) (ks : List (Int × Int)) (d : Addr) (r : Pr), Hi r ∧ c = c_untie CY cNL cAl cUn n i j ks d r
def c_setshy (CY cNL : Addr) (lamp : Int) (t : Bool) (hs : List Bool) (l : Addr) (q : Pr) : Cn := ⟨[Iv CY yns [I (hs.length : Int), q, Ref l], I lamp, Bo t], fun P D => P = No ∧ okL (hs.length : Int) lamp ∧ D = [(l, ML ((hs.set lamp.toNat t).map Bo))], [(l, ML (hs.map Bo))],
  fun v D => (v = .ref cNL ∧ ¬ okL (hs.length : Int) lamp) ∧ D = [(l, ML (hs.map Bo))]⟩
def C_setshy (CY cNL : Addr) : Cn → Prop := fun c => ∃ (lamp : Int) (t : Bool) (hs : List Bool) (l : Addr) (q : Pr), Hi q ∧ c = c_setshy CY cNL lamp t hs l q
def c_isshy (CY cNL : Addr) (lamp : Int) (hs : List Bool) (q : Pr) : Cn := ⟨[Iv CY yns [I (hs.length : Int), q, L (hs.map Bo)], I lamp], fun P _ => okL (hs.length : Int) lamp ∧ P = Bo (hs.getD lamp.toNat false), [], fun v _ => v = .ref cNL ∧ ¬ okL (hs.length : Int) lamp⟩
def C_isshy (CY cNL : Addr) : Cn → Prop := fun c => ∃ (lamp : Int) (hs : List Bool) (q : Pr), Hi q ∧ c = c_isshy CY cNL lamp hs q
/-- what a button turns -/
def hit (hs : List Bool) (ks : List (Int × Int)) (lamp o : Nat) : Bool := if o = lamp then !hs.getD lamp false else decide (pair (lamp : Int) (o : Int) ∈ ks)
def trn (hs : List Bool) (ks : List (Int × Int)) (lamp : Nat) : List Nat := (List.range hs.length).filter (hit hs ks lamp)
/-- a lamp -/
def In (k : Nat) : Pr := I (k : Int)
def c_turns (CY cNL : Addr) (lamp : Int) (hs : List Bool) (ks : List (Int × Int)) : Cn := ⟨[Iv CY yns [I (hs.length : Int), DTv ks, L (hs.map Bo)], I lamp], fun P _ => okL (hs.length : Int) lamp ∧ P = N (L ((trn hs ks lamp.toNat).map In)), [], fun v _ => v = .ref cNL ∧ ¬ okL (hs.length : Int) lamp⟩
def C_turns (CY cNL : Addr) : Cn → Prop := fun c => ∃ (lamp : Int) (hs : List Bool) (ks : List (Int × Int)), hs.length ≤ 24 ∧ c = c_turns CY cNL lamp hs ks
def c_init (CY cNY : Addr) (n : Int) (x : Addr) : Cn := ⟨[Ref x, I n], fun P D => (1 ≤ n ∧ n ≤ 24) ∧ P = No ∧ ∃ d l, D = [(x, MI CY yns [I n, Ref d, Ref l]), (d, MT []), (l, ML ((List.replicate n.toNat false).map Bo))], [(x, MI CY [] [])],
  fun v D => (¬ (1 ≤ n ∧ n ≤ 24) ∧ v = .ref cNY) ∧ D = [(x, MI CY [] [])]⟩
def C_init (CY cNY : Addr) : Cn → Prop := fun c => ∃ (n : Int) (x : Addr), c = c_init CY cNY n x
theorem ixN_ok {n : Nat} {i : Int} (h : okL (n : Int) i) : ixN n i = some i.toNat := by
  unfold ixN
  rw [if_pos h.1, if_pos h.2]
theorem atI_map {α : Type} {R : α → Pr} {l : List α} {i : Int} (d : α) (h : okL (l.length : Int) i) : atI (l.map R) i = some (R (l.getD i.toNat d)) := by
  unfold atI
  rw [List.length_map, ixN_ok h]
  have hi : i.toNat < l.length := by unfold okL at h; omega
  show (l.map R)[i.toNat]? = _
  rw [List.getElem?_map, List.getD_eq_getElem?_getD, List.getElem?_eq_getElem hi]
  rfl
theorem filt_true {α : Type} (l : List α) : l.filter (fun _ => true) = l := List.filter_eq_self.mpr fun _ _ => rfl
section
variable {P : Program} {w : World} {K : PySem.W.Frag} {mg : Str → Option Value} {base : Heap} {CY cNY cNL cAl cTi cUn : Addr}
theorem ok_ask {f : Addr} {fd : FuncData} (F : Fu K "ask" "Yard.ask" s_Yard_ask f fd) (T : Yt K mg CY cNY cNL cAl cTi cUn) : FnOk P w K mg base (L2N.CX P w) 1 f fd ["self", "lamp"] (spC (C_ask CY cNL)) := by
  refine fn_go F sc_Yard_ask (fun c ⟨n, lamp, q, r, hq, hr, e⟩ => by subst e; exact ⟨rfl, ⟨hi_Iv ⟨hi_I, hq, hr, trivial⟩, hi_I, trivial⟩, trivial⟩) fun c ⟨n, lamp, q, r, hq, hr, e⟩ cdv A outer s H E hr => ?_
  subst e
  refine go_if (et_not (et_chain op_le op_lt ee_int (ee_var 1 rfl) fun _ => ee_fld (ee_var 0 rfl) T.cl T.nm 0 rfl rfl)) (fun h => go_raise T.nl ⟨rfl, ?_⟩) (fun h => go_nil (go_nil ⟨rfl, ?_⟩))
  · simp at h; unfold okL; omega
  · simp at h; unfold okL; omega
end
section
variable {P : Program} {w : World} {K : PySem.W.Frag} {mg : Str → Option Value} {base : Heap} {CY cNY cNL cAl cTi cUn : Addr}
theorem ok_two {f : Addr} {fd : FuncData} (F : Fu K "ask_two" "Yard.ask_two" s_Yard_ask_two f fd) (T : Yt K mg CY cNY cNL cAl cTi cUn) (M : Mtc P w K mg base CY "ask" (C_ask CY cNL) 1 []) : FnOk P w K mg base (L2N.CX P w) 2 f fd ["self", "one", "other"] (spC (C_two CY cNL cAl)) := by
  refine fn_go F sc_Yard_ask_two (fun c ⟨n, i, j, q, r, hq, hr, e⟩ => by subst e; exact ⟨rfl, ⟨hi_Iv ⟨hi_I, hq, hr, trivial⟩, hi_I, hi_I, trivial⟩, trivial⟩) fun c ⟨n, i, j, q, r, hq, hr', e⟩ cdv A outer s H E hr => ?_
  subst e
  refine go_exprM (em_call (cj_methX M hr (by decide) (ee_var 0 rfl) (rcv_I rfl) (ea_cons (ee_var 1 rfl) ea_nil)) (c_ask CY cNL n i q r) ⟨n, i, q, r, hq, hr', rfl⟩ (.refl _)) (fun v Δ' ⟨Δc, ⟨h1, h2⟩, h3⟩ => .inl ⟨h1, fun z => h2 z.1⟩) fun P1 Δ1 ⟨Δc, ⟨h1, h2⟩, h3⟩ => ?_
  refine go_exprM (em_call (cj_methX M hr (by decide) (ee_var 0 rfl) (rcv_I rfl) (ea_cons (ee_var 2 rfl) ea_nil)) (c_ask CY cNL n j q r) ⟨n, j, q, r, hq, hr', rfl⟩ (.refl _)) (fun v Δ' ⟨Δc, ⟨g1, g2⟩, g3⟩ => .inl ⟨g1, fun z => g2 z.2⟩) fun P2 Δ2 ⟨Δc', ⟨g1, g2⟩, g3⟩ => ?_
  refine go_if (et_cmp cmp_eq (ee_var 1 rfl) (ee_var 2 rfl)) (fun h => go_raise T.al (.inr ⟨rfl, ⟨h2, g2⟩, by simpa using h⟩)) (fun h => go_nil (go_nil ⟨rfl, ⟨h2, g2⟩, by simpa using h⟩))
end
section
variable {P : Program} {w : World} {K : PySem.W.Frag} {mg : Str → Option Value} {base : Heap} {CY cNY cNL cAl cTi cUn : Addr}
theorem ok_istied {f : Addr} {fd : FuncData} (F : Fu K "is_tied" "Yard.is_tied" s_Yard_is_tied f fd) (T : Yt K mg CY cNY cNL cAl cTi cUn) (b : Bl mg) (M : Mtc P w K mg base CY "ask_two" (C_two CY cNL cAl) 2 []) : FnOk P w K mg base (L2N.CX P w) 3 f fd ["self", "one", "other"] (spC (C_istied CY cNL cAl)) := by
  refine fn_go F sc_Yard_is_tied (fun c ⟨n, i, j, ks, r, hr, e⟩ => by subst e; exact ⟨rfl, ⟨hi_Iv ⟨hi_I, hi_DTv, hr, trivial⟩, hi_I, hi_I, trivial⟩, trivial⟩) fun c ⟨n, i, j, ks, r, hr', e⟩ cdv A outer s H E hr => ?_
  subst e
  refine go_exprM (em_call (cj_methX M hr (by decide) (ee_var 0 rfl) (rcv_I rfl) (ea_cons (ee_var 1 rfl) (ea_cons (ee_var 2 rfl) ea_nil))) (c_two CY cNL cAl n i j (DTv ks) r) ⟨n, i, j, DTv ks, r, hi_DTv, hr', rfl⟩ (.refl _)) (fun v Δ' ⟨Δc, h1, h3⟩ => h1) fun P1 Δ1 ⟨Δc, ⟨h1, h2⟩, h3⟩ => ?_
  exact go_ret (ee_inD (hu_of hr) (ee_un (ee_tup (ea_cons (ee_min2 rfl (ee_var 1 rfl) (ee_var 2 rfl) rfl b.min) (ea_cons (ee_max2 rfl (ee_var 1 rfl) (ee_var 2 rfl) rfl b.max) ea_nil)))) (ed_V (ee_fld (ee_var 0 rfl) T.cl T.nt 1 rfl rfl))) ⟨rfl, h2⟩
end
section
variable {P : Program} {w : World} {K : PySem.W.Frag} {mg : Str → Option Value} {base : Heap} {CY cNY cNL cAl cTi cUn : Addr}
theorem ok_tie {f : Addr} {fd : FuncData} (F : Fu K "tie" "Yard.tie" s_Yard_tie f fd) (T : Yt K mg CY cNY cNL cAl cTi cUn) (b : Bl mg) (M : Mtc P w K mg base CY "is_tied" (C_istied CY cNL cAl) 3 []) : FnOk P w K mg base (L2N.CX P w) 4 f fd ["self", "one", "other"] (spC (C_tie CY cNL cAl cTi)) := by
  refine fn_go F sc_Yard_tie (fun c ⟨n, i, j, ks, d, r, hr, hz, e⟩ => by subst e; exact ⟨rfl, ⟨hi_Iv ⟨hi_I, hi_Ref, hr, trivial⟩, hi_I, hi_I, trivial⟩, hi_MT, trivial⟩) fun c ⟨n, i, j, ks, d, r, hr', hz, e⟩ cdv A outer s H E hr => ?_
  subst e
  refine go_ifM (etm_val (em_callB (cj_methX M hr (by decide) (ee_var 0 rfl) (rcv_I rfl) (ea_cons (ee_var 1 rfl) (ea_cons (ee_var 2 rfl) ea_nil))) (c_istied CY cNL cAl n i j ks r) ⟨n, i, j, ks, r, hr', rfl⟩ (bc (br_I (bc br_ (bc (br_D 0 rfl) (bc br_ bn)))) (bc br_ (bc br_ bn))) (fun _ _ q => by rw [q.1]; exact sb_Bo)) (fun _ _ ⟨⟨_, q, _⟩, _⟩ => ⟨_, q⟩))
    (fun v Δ' ⟨⟨_, h1⟩, h2⟩ => ⟨.inl h1, h2⟩) (fun Δ' ⟨⟨_, h1, h2⟩, h3⟩ => ?_) (fun Δ' ⟨⟨_, h1, h2⟩, h3⟩ => ?_)
  · have hin : pair i j ∈ ks := of_decide_eq_true (bo_inj h1).symm
    exact go_raise T.ti ⟨.inr ⟨rfl, h2, hin⟩, h3⟩
  · have hin : pair i j ∉ ks := of_decide_eq_false (bo_inj h1).symm
    subst h3
    refine go_nil (go_dput 0 (hu_of hr) ee_bl (ee_fld (ee_var 0 rfl) T.cl T.nt 1 rfl rfl) (ee_un (ee_tup (ea_cons (ee_min2 rfl (ee_var 1 rfl) (ee_var 2 rfl) rfl b.min) (ea_cons (ee_max2 rfl (ee_var 1 rfl) (ee_var 2 rfl) rfl b.max) ea_nil)))) rfl hin (by omega) (go_nil ⟨rfl, h2, hin, rfl⟩))
end
section
variable {P : Program} {w : World} {K : PySem.W.Frag} {mg : Str → Option Value} {base : Heap} {CY cNY cNL cAl cTi cUn : Addr}
theorem ok_untie {f : Addr} {fd : FuncData} (F : Fu K "untie" "Yard.untie" s_Yard_untie f fd) (T : Yt K mg CY cNY cNL cAl cTi cUn) (b : Bl mg) (M : Mtc P w K mg base CY "is_tied" (C_istied CY cNL cAl) 3 []) : FnOk P w K mg base (L2N.CX P w) 4 f fd ["self", "one", "other"] (spC (C_untie CY cNL cAl cUn)) := by
  refine fn_go F sc_Yard_untie (fun c ⟨n, i, j, ks, d, r, hr, e⟩ => by subst e; exact ⟨rfl, ⟨hi_Iv ⟨hi_I, hi_Ref, hr, trivial⟩, hi_I, hi_I, trivial⟩, hi_MT, trivial⟩) fun c ⟨n, i, j, ks, d, r, hr', e⟩ cdv A outer s H E hr => ?_
  subst e
  refine go_ifM (etm_not (etm_val (em_callB (cj_methX M hr (by decide) (ee_var 0 rfl) (rcv_I rfl) (ea_cons (ee_var 1 rfl) (ea_cons (ee_var 2 rfl) ea_nil))) (c_istied CY cNL cAl n i j ks r) ⟨n, i, j, ks, r, hr', rfl⟩ (bc (br_I (bc br_ (bc (br_D 0 rfl) (bc br_ bn)))) (bc br_ (bc br_ bn))) (fun _ _ q => by rw [q.1]; exact sb_Bo)) (fun _ _ ⟨⟨_, q, _⟩, _⟩ => ⟨_, q⟩)))
    (fun v Δ' ⟨⟨_, h1⟩, h2⟩ => ⟨.inl h1, h2⟩) (fun Δ' ⟨⟨_, h1, h2⟩, h3⟩ => ?_) (fun Δ' ⟨⟨_, h1, h2⟩, h3⟩ => ?_)
  · have hin : pair i j ∉ ks := of_decide_eq_false (bo_inj h1).symm
    exact go_raise T.un ⟨.inr ⟨rfl, h2, hin⟩, h3⟩
  · have hin : pair i j ∈ ks := of_decide_eq_true (bo_inj h1).symm
    subst h3
    refine go_nil (go_dpop 0 (hu_of hr) (ee_fld (ee_var 0 rfl) T.cl T.nt 1 rfl rfl) (ee_un (ee_tup (ea_cons (ee_min2 rfl (ee_var 1 rfl) (ee_var 2 rfl) rfl b.min) (ea_cons (ee_max2 rfl (ee_var 1 rfl) (ee_var 2 rfl) rfl b.max) ea_nil)))) rfl hin (go_nil ⟨rfl, h2, hin, rfl⟩))
end
section
variable {P : Program} {w : World} {K : PySem.W.Frag} {mg : Str → Option Value} {base : Heap} {CY cNY cNL cAl cTi cUn : Addr}
theorem ok_setshy {dvs : List V} {f : Addr} {fd : FuncData} (F : FunD K "set_shy" "Yard.set_shy" (defArgs s_Yard_set_shy) (defBody s_Yard_set_shy) (defScope s_Yard_set_shy) dvs [] f fd) (T : Yt K mg CY cNY cNL cAl cTi cUn) (M : Mtc P w K mg base CY "ask" (C_ask CY cNL) 1 []) : FnOk P w K mg base (L2N.CX P w) 2 f fd ["self", "lamp", "answer"] (spC (C_setshy CY cNL)) := by
  refine fn_go F sc_Yard_set_shy (fun c ⟨lamp, t, hs, l, q, hq, e⟩ => by subst e; exact ⟨rfl, ⟨hi_Iv ⟨hi_I, hq, hi_Ref, trivial⟩, hi_I, hi_Bo, trivial⟩, hi_ML (His.map (fun _ => hi_Bo) _), trivial⟩) fun c ⟨lamp, t, hs, l, q, hq, e⟩ cdv A outer s H E hr => ?_
  subst e
  refine go_exprM (em_call0 (cj_methX M hr (by decide) (ee_var 0 rfl) (rcv_I rfl) (ea_cons (ee_var 1 rfl) ea_nil)) (c_ask CY cNL (hs.length : Int) lamp q (Ref l)) ⟨_, lamp, q, Ref l, hq, hi_Ref, rfl⟩) (fun v Δ' ⟨⟨_, h1⟩, h3⟩ => (show (v = .ref cNL ∧ ¬ okL (hs.length : Int) lamp) ∧ Δ' = [(l, ML (hs.map Bo))] from ⟨h1, h3⟩)) fun P1 Δ1 ⟨⟨_, _, h2⟩, h3⟩ => ?_
  subst h3
  refine go_ix 0 (ee_var 2 rfl) (ee_fld (ee_var 0 rfl) T.cl T.nh 2 rfl rfl) (ee_var 1 rfl) rfl (by rw [List.length_map]; exact ixN_ok h2) (go_nil ⟨rfl, h2, ?_⟩)
  show [(l, ML ((hs.map Bo).set lamp.toNat (Bo t)))] = _
  rw [List.map_set]
theorem setshy_b {f : Addr} {fd : FuncData} (F : FunD K "set_shy" "Yard.set_shy" (defArgs s_Yard_set_shy) (defBody s_Yard_set_shy) (defScope s_Yard_set_shy) [.bl true] [] f fd) : Binds K fd ["self", "lamp", "answer"] [] ∧ ∃ ds, Vals [V.bl true] ds ∧ Binds K fd ["self", "lamp", "answer"] ds := by
  constructor
  · obtain ⟨ds, h1, h2⟩ := F.binds1 (ps := ["self", "lamp", "answer"]) 3 1 (by decide) rfl fun T kV doc pm an cdv ct us its h1 h2 => match us, its, h1, h2 with
      | [_, _, _], [_], _, _ => ⟨_, rfl, rfl⟩
    cases h1
    exact h2
  · exact F.binds1 (ps := ["self", "lamp", "answer"]) 2 0 (by decide) rfl fun T kV doc pm an cdv ct us its h1 h2 => match us, its, h1, h2 with
      | [_, _], [_], _, _ => ⟨_, rfl, rfl⟩
end
section
variable {P : Program} {w : World} {K : PySem.W.Frag} {mg : Str → Option Value} {base : Heap} {CY cNY cNL cAl cTi cUn : Addr}
theorem ok_turns {f : Addr} {fd : FuncData} (F : Fu K "turns" "Yard.turns" s_Yard_turns f fd) (T : Yt K mg CY cNY cNL cAl cTi cUn) (b : Bl mg) (M : Mtc P w K mg base CY "ask" (C_ask CY cNL) 1 []) : FnOk P w K mg base (L2N.CX P w) 2 f fd ["self", "lamp"] (spC (C_turns CY cNL)) := by
  refine fn_go F sc_Yard_turns (fun c ⟨lamp, hs, ks, hl, e⟩ => by subst e; exact ⟨rfl, ⟨hi_Iv ⟨hi_I, hi_DTv, hi_L (His.map (fun _ => hi_Bo) _), trivial⟩, hi_I, trivial⟩, trivial⟩) fun c ⟨lamp, hs, ks, hl, e⟩ cdv A outer s H E hr => ?_
  subst e
  refine go_exprM (em_call0 (cj_methX M hr (by decide) (ee_var 0 rfl) (rcv_I rfl) (ea_cons (ee_var 1 rfl) ea_nil)) (c_ask CY cNL (hs.length : Int) lamp (DTv ks) (L (hs.map Bo))) ⟨_, lamp, _, _, hi_DTv, hi_L (His.map (fun _ => hi_Bo) _), rfl⟩) (fun v Δ' ⟨⟨_, h1⟩, h3⟩ => h1) fun P1 Δ1 ⟨⟨_, h1, h2⟩, h3⟩ => ?_
  obtain ⟨lp, rfl⟩ : ∃ lp : Nat, lamp = (lp : Int) := ⟨lamp.toNat, by have := h2.1; omega⟩
  have hlp : lp < hs.length := by have := h2.2; omega
  subst h3
  refine go_setM 2 (em_N (en_lst ea_nil)) sc_Yard_turns.nd (fun _ _ z => z) fun P2 Δ2 ⟨l, hm, e1, e2⟩ => ?_
  subst e1 e2
  refine go_forR 3 (fun _ => [some (Iv CY yns [I (hs.length : Int), DTv ks, L (hs.map Bo)]), some (I (lp : Int)), some (Ref l), none]) (fun i => [(l, ML (((List.range i).filter (hit hs ks lp)).map In))]) (fun _ => True) (passes_of rfl) sc_Yard_turns.nd (ee_fld (ee_var 0 rfl) T.cl T.nm 0 rfl rfl) (by omega) (by omega) ⟨Wk.refl _, rfl, trivial⟩ rfl b.range (fun i hi _ => ?_) (fun _ => ?_)
  · have hil : (((List.range i).filter (hit hs ks lp)).map In).length ≤ i := by
      rw [List.length_map]; exact Nat.le_trans (List.length_filter_le _ _) (by rw [List.length_range]; exact Nat.le_refl i)
    have hfin : ∀ bb : Bool, hit hs ks lp i = bb → ((List.range i).filter (hit hs ks lp)).map In ++ (if bb then [In i] else []) = ((List.range (i + 1)).filter (hit hs ks lp)).map In := fun bb e => by
      subst e
      rw [List.range_succ, List.filter_append, List.map_append]
      by_cases h : hit hs ks lp i = true
      · rw [if_pos h, List.filter_cons_of_pos h]; rfl
      · rw [if_neg h, List.filter_cons_of_neg h]; rfl
    have app : ∀ bb : Bool, hit hs ks lp i = bb → bb = true → ([(l, ML (((List.range i).filter (hit hs ks lp)).map In))] : Del).set 0 (l, ML (((List.range i).filter (hit hs ks lp)).map In ++ [I (i : Int)])) = [(l, ML (((List.range (i + 1)).filter (hit hs ks lp)).map In))] := fun bb e h => by
      have := hfin bb e
      rw [h, if_pos rfl] at this
      show [(l, ML (((List.range i).filter (hit hs ks lp)).map In ++ [I (i : Int)]))] = _
      rw [← this]; rfl
    have noapp : hit hs ks lp i = false → ([(l, ML (((List.range i).filter (hit hs ks lp)).map In))] : Del) = [(l, ML (((List.range (i + 1)).filter (hit hs ks lp)).map In))] := fun h => by
      have := hfin _ h
      rw [if_neg (by decide), List.append_nil] at this
      rw [this]
    refine go_if (et_cmp cmp_eq (ee_var 3 rfl) (ee_var 1 rfl)) (fun h => ?_) (fun h => ?_)
    · have hil2 : i = lp := by have := of_decide_eq_true h; omega
      have hh : hit hs ks lp i = !hs.getD lp false := by unfold hit; rw [if_pos hil2]
      refine go_if (et_not (et_val (ee_ix (es_L (ee_fld (ee_var 0 rfl) T.cl T.nh 2 rfl rfl)) (ee_var 1 rfl) (atI_map false h2)))) (fun g => ?_) (fun g => ?_)
      · exact go_app 0 (ee_var 2 rfl) (ee_var 3 rfl) rfl (by omega) (go_nil (go_nil (go_nil ⟨⟨.inr rfl, .inr rfl, .inr rfl, .inl rfl, trivial⟩, app _ hh g, trivial⟩)))
      · exact go_nil (go_nil (go_nil ⟨⟨.inr rfl, .inr rfl, .inr rfl, .inl rfl, trivial⟩, noapp (hh.trans g), trivial⟩))
    · have hil2 : i ≠ lp := by have := of_decide_eq_false h; omega
      have hh : hit hs ks lp i = decide (pair (lp : Int) (i : Int) ∈ ks) := by unfold hit; rw [if_neg hil2]
      refine go_if (et_inD (hu_of hr) (ee_un (ee_tup (ea_cons (ee_min2 rfl (ee_var 1 rfl) (ee_var 3 rfl) rfl b.min) (ea_cons (ee_max2 rfl (ee_var 1 rfl) (ee_var 3 rfl) rfl b.max) ea_nil)))) (ed_V (ee_fld (ee_var 0 rfl) T.cl T.nt 1 rfl rfl))) (fun g => ?_) (fun g => ?_)
      · exact go_app 0 (ee_var 2 rfl) (ee_var 3 rfl) rfl (by omega) (go_nil (go_nil (go_nil ⟨⟨.inr rfl, .inr rfl, .inr rfl, .inl rfl, trivial⟩, app _ hh g, trivial⟩)))
      · exact go_nil (go_nil (go_nil ⟨⟨.inr rfl, .inr rfl, .inr rfl, .inl rfl, trivial⟩, noapp (hh.trans g), trivial⟩))
  · exact go_frz 0 2 rfl hm rfl (go_ret (ee_var 2 rfl) ⟨h2, rfl⟩)
end
section
variable {P : Program} {w : World} {K : PySem.W.Frag} {mg : Str → Option Value} {base : Heap} {CY cNY cNL cAl cTi cUn : Addr}
theorem ok_init {f : Addr} {fd : FuncData} (F : Fu K "__init__" "Yard.__init__" s_Yard_init f fd) (T : Yt K mg CY cNY cNL cAl cTi cUn) (b : Bl mg) : FnOk P w K mg base (L2N.CX P w) 1 f fd ["self", "many"] (spC (C_init CY cNY)) := by
  refine fn_go F sc_Yard_init (fun c ⟨n, x, e⟩ => by subst e; exact ⟨rfl, ⟨hi_Ref, hi_I, trivial⟩, hi_MI trivial, trivial⟩) fun c ⟨n, x, e⟩ cdv A outer s H E hr => ?_
  subst e
  obtain ⟨tm, hmost⟩ := T.most
  refine go_if (et_not (et_chain op_le op_le ee_int (ee_var 1 rfl) fun _ => ee_globI rfl hmost)) (fun h => go_raise T.ny ⟨⟨?_, rfl⟩, rfl⟩) (fun h => go_nil ?_)
  · simp at h; omega
  have hn : 1 ≤ n ∧ n ≤ 24 := by simp at h; omega
  refine go_fldN 0 (ee_var 1 rfl) (ee_var 0 rfl) rfl T.cl T.nm rfl rfl (by decide) ?_
  refine go_fldM 0 em_dict (fun _ _ q => q) (fun P' Δ' ⟨d, _, _, e2⟩ => ee_var 0 rfl) (fun P' Δ' ⟨d, _, _, e2⟩ => by subst e2; rfl) T.cl T.nt rfl rfl (by decide) fun P' Δ' ⟨d, hd, e1, e2⟩ => ?_
  subst e1 e2
  refine go_fldM 0 (em_N (en_cast (en_lcR (fun _ => true) (fun _ => Bo false) 2 sc_Yard_init.nd (ee_var 1 rfl) (by omega) (by omega) rfl b.range (blkOk_by (N := ["self", "many", "k"]) (sc := defScope s_Yard_init) (by decide +kernel)) (fun _ _ _ _ _ => pg_name (i := 2) sc_Yard_init.nd rfl (Or.inl rfl)) (fun _ _ => rfl) (fun _ _ _ => fun _ _ _ _ _ => ee_bl)) (qs := (List.replicate n.toNat false).map Bo) (by rw [filt_true, List.map_replicate]; exact (List.map_const' ..).trans (by rw [List.length_range])))) (fun _ _ q => q) (fun P' Δ' _ => ee_var 0 rfl) (fun P' Δ' ⟨l, _, _, e2⟩ => by subst e2; rfl) T.cl T.nh rfl rfl (by decide) fun P' Δ' ⟨l, hl, e1, e2⟩ => ?_
  subst e1 e2
  exact go_nil ⟨hn, rfl, d, l, rfl⟩
end
/-! a yard in use: live (its dict and its list are entries) -/
abbrev YM (CY : Addr) (n : Int) (d l : Addr) : Pr := Iv CY yns [I n, Ref d, Ref l]
abbrev YV (CY : Addr) (hs : List Bool) (ks : List (Int × Int)) : Pr := Iv CY yns [I (hs.length : Int), DTv ks, L (hs.map Bo)]
theorem hu64 {k : Nat} {A : Around} (hr : Room k A) : A.units + 64 < cLine := Nat.lt_of_le_of_lt (Nat.add_le_add_left (by decide : 64 ≤ 64) _) hr.units
theorem hu65 {k : Nat} {A : Around} (hr : Room k A) : A.units + 65 < cLine := by have := hr.un; omega
section
variable {X : Cx} {ms : List Addr} {Γ : Gam} {Δ : Del} {o e e2 : Expr} {apos pos : Pos} {pl : Sem Bool} {CY cNL cAl cTi cUn d l : Addr} {hs : List Bool} {ks : List (Int × Int)} {i jj n : Int} {j kl kd : Nat}
theorem yl_isshy (kl : Nat) (M : Mtc X.prog X.w X.K X.mg X.base CY "is_shy" (C_isshy CY cNL) 2 []) (hr : Room j X.A) (hk : 2 ≤ j) (ho : EE X Γ Δ o (YM CY (hs.length : Int) d l)) (he : EE X Γ Δ e (I i)) (hl : Δ[kl]? = some (l, ML (hs.map Bo))) (h : okL (hs.length : Int) i)
    (hst : starEach [e] X.env = (false, eval e X.env) :: starEach [] X.env := by rfl) (hpl : (backTo pos (starEach [] X.env)).any (·.1) = false := by rfl) (ht : eval (.Call (.Attribute o "is_shy" apos) [e] [] pos) X.env = mcall X o "is_shy" apos pos [e] pl := by rfl) :
    EE X Γ Δ (.Call (.Attribute o "is_shy" apos) [e] [] pos) (Bo (hs.getD i.toNat false)) :=
  ee_callB (cj_meth M hr hk ho (rcv_I rfl) (ea_cons he ea_nil hst) hst hpl ht) (c_isshy CY cNL i hs (Ref d)) ⟨i, hs, Ref d, hi_Ref, rfl⟩ (bc (br_I (bc br_ (bc br_ (bc (br_L kl hl) bn)))) (bc br_ bn)) sb_Bo rfl (fun _ _ q => q.2) (fun _ _ q => q.2 h)
theorem yl_turns (kd kl : Nat) (M : Mtc X.prog X.w X.K X.mg X.base CY "turns" (C_turns CY cNL) 2 []) (hr : Room j X.A) (hk : 2 ≤ j) (ho : EE X Γ Δ o (YM CY (hs.length : Int) d l)) (he : EE X Γ Δ e (I i)) (hd : Δ[kd]? = some (d, MT ks)) (hl : Δ[kl]? = some (l, ML (hs.map Bo))) (h : okL (hs.length : Int) i) (hz : hs.length ≤ 24)
    (hst : starEach [e] X.env = (false, eval e X.env) :: starEach [] X.env := by rfl) (hpl : (backTo pos (starEach [] X.env)).any (·.1) = false := by rfl) (ht : eval (.Call (.Attribute o "turns" apos) [e] [] pos) X.env = mcall X o "turns" apos pos [e] pl := by rfl) :
    EN X Γ Δ (.Call (.Attribute o "turns" apos) [e] [] pos) ((trn hs ks i.toNat).map In) :=
  en_callB (cj_meth M hr hk ho (rcv_I rfl) (ea_cons he ea_nil hst) hst hpl ht) (c_turns CY cNL i hs ks) ⟨i, hs, ks, hz, rfl⟩ (bc (br_I (bc br_ (bc (br_D kd hd) (bc (br_L kl hl) bn)))) (bc br_ bn)) (Scs.map (fun _ => sc_I) _) rfl (fun _ _ q => q.2) (fun _ _ q => q.2 h)
theorem yl_istied (kd : Nat) (M : Mtc X.prog X.w X.K X.mg X.base CY "is_tied" (C_istied CY cNL cAl) 3 []) (hr : Room j X.A) (hk : 3 ≤ j) (ho : EE X Γ Δ o (YM CY n d l)) (he : EE X Γ Δ e (I i)) (he2 : EE X Γ Δ e2 (I jj)) (hd : Δ[kd]? = some (d, MT ks)) (h : ok2 n i jj)
    (hs1 : starEach [e2] X.env = (false, eval e2 X.env) :: starEach [] X.env := by rfl) (hst : starEach [e, e2] X.env = (false, eval e X.env) :: starEach [e2] X.env := by rfl) (hpl : (backTo pos (starEach [e2] X.env)).any (·.1) = false := by rfl) (ht : eval (.Call (.Attribute o "is_tied" apos) [e, e2] [] pos) X.env = mcall X o "is_tied" apos pos [e, e2] pl := by rfl) :
    EE X Γ Δ (.Call (.Attribute o "is_tied" apos) [e, e2] [] pos) (Bo (decide (pair i jj ∈ ks))) :=
  ee_callB (cj_meth M hr hk ho (rcv_I rfl) (ea_cons he (ea_cons he2 ea_nil hs1) hst) hst hpl ht) (c_istied CY cNL cAl n i jj ks (Ref l)) ⟨n, i, jj, ks, Ref l, hi_Ref, rfl⟩ (bc (br_I (bc br_ (bc (br_D kd hd) (bc br_ bn)))) (bc br_ (bc br_ bn))) sb_Bo rfl (fun _ _ q => q.1) (fun _ _ q => q.elim (fun z => z.2 h.1) fun z => h.2 z.2.2)
theorem yl_istiedX (kd : Nat) (M : Mtc X.prog X.w X.K X.mg X.base CY "is_tied" (C_istied CY cNL cAl) 3 []) (hr : Room j X.A) (hk : 3 ≤ j) (ho : EE X Γ Δ o (YM CY n d l)) (he : EE X Γ Δ e (I i)) (he2 : EE X Γ Δ e2 (I jj)) (hd : Δ[kd]? = some (d, MT ks))
    (hs1 : starEach [e2] X.env = (false, eval e2 X.env) :: starEach [] X.env := by rfl) (hst : starEach [e, e2] X.env = (false, eval e X.env) :: starEach [e2] X.env := by rfl) (hpl : (backTo pos (starEach [e2] X.env)).any (·.1) = false := by rfl) (ht : eval (.Call (.Attribute o "is_tied" apos) [e, e2] [] pos) X.env = mcall X o "is_tied" apos pos [e, e2] pl := by rfl) :
    EM X ms Γ Δ (.Call (.Attribute o "is_tied" apos) [e, e2] [] pos) (fun P Δ' => (P = Bo (decide (pair i jj ∈ ks)) ∧ ok2 n i jj) ∧ Δ' = Δ) (fun v Δ' => exc2 cNL cAl n i jj v ∧ Δ' = Δ) :=
  em_imp (em_callB (cj_methX M hr hk ho (rcv_I rfl) (ea_cons he (ea_cons he2 ea_nil hs1) hst) hst hpl ht) (c_istied CY cNL cAl n i jj ks (Ref l)) ⟨n, i, jj, ks, Ref l, hi_Ref, rfl⟩ (bc (br_I (bc br_ (bc (br_D kd hd) (bc br_ bn)))) (bc br_ (bc br_ bn))) (fun _ _ q => by rw [q.1]; exact sb_Bo)) (fun _ _ ⟨⟨_, q⟩, e⟩ => ⟨q, e⟩) (fun _ _ ⟨⟨_, q⟩, e⟩ => ⟨q, e⟩)
theorem yl_tieX (kd : Nat) (M : Mtc X.prog X.w X.K X.mg X.base CY "tie" (C_tie CY cNL cAl cTi) 4 []) (hr : Room j X.A) (hk : 4 ≤ j) (ho : EE X Γ Δ o (YM CY n d l)) (he : EE X Γ Δ e (I i)) (he2 : EE X Γ Δ e2 (I jj)) (hd : Δ[kd]? = some (d, MT ks)) (hz : ks.length < 5000)
    (hs1 : starEach [e2] X.env = (false, eval e2 X.env) :: starEach [] X.env := by rfl) (hst : starEach [e, e2] X.env = (false, eval e X.env) :: starEach [e2] X.env := by rfl) (hpl : (backTo pos (starEach [e2] X.env)).any (·.1) = false := by rfl) (ht : eval (.Call (.Attribute o "tie" apos) [e, e2] [] pos) X.env = mcall X o "tie" apos pos [e, e2] pl := by rfl) :
    EM X ms Γ Δ (.Call (.Attribute o "tie" apos) [e, e2] [] pos) (fun P Δ' => (P = No ∧ ok2 n i jj ∧ pair i jj ∉ ks) ∧ Δ' = Δ.set kd (d, MT (ks ++ [pair i jj]))) (fun v Δ' => (exc2 cNL cAl n i jj v ∨ (v = .ref cTi ∧ ok2 n i jj ∧ pair i jj ∈ ks)) ∧ Δ' = Δ) :=
  em_imp (em_callAt kd hd (cj_methX M hr hk ho (rcv_I rfl) (ea_cons he (ea_cons he2 ea_nil hs1) hst) hst hpl ht) (c_tie CY cNL cAl cTi n i jj ks d (Ref l)) ⟨n, i, jj, ks, d, Ref l, hi_Ref, hz, rfl⟩ (fun _ _ q => ⟨_, q.2.2.2⟩) (fun _ _ q => ⟨_, q.2⟩)) (fun P Δ' ⟨ob, ⟨q1, q2, q3, q4⟩, e⟩ => by
    injection q4 with q4 _
    rw [e, q4]
    exact ⟨⟨q1, q2, q3⟩, rfl⟩) (fun v Δ' ⟨ob, ⟨q1, q4⟩, e⟩ => by
    injection q4 with q4 _
    rw [e, q4, set_id hd]
    exact ⟨q1, rfl⟩)
theorem yl_untieX (kd : Nat) (M : Mtc X.prog X.w X.K X.mg X.base CY "untie" (C_untie CY cNL cAl cUn) 4 []) (hr : Room j X.A) (hk : 4 ≤ j) (ho : EE X Γ Δ o (YM CY n d l)) (he : EE X Γ Δ e (I i)) (he2 : EE X Γ Δ e2 (I jj)) (hd : Δ[kd]? = some (d, MT ks))
    (hs1 : starEach [e2] X.env = (false, eval e2 X.env) :: starEach [] X.env := by rfl) (hst : starEach [e, e2] X.env = (false, eval e X.env) :: starEach [e2] X.env := by rfl) (hpl : (backTo pos (starEach [e2] X.env)).any (·.1) = false := by rfl) (ht : eval (.Call (.Attribute o "untie" apos) [e, e2] [] pos) X.env = mcall X o "untie" apos pos [e, e2] pl := by rfl) :
    EM X ms Γ Δ (.Call (.Attribute o "untie" apos) [e, e2] [] pos) (fun P Δ' => (P = No ∧ ok2 n i jj ∧ pair i jj ∈ ks) ∧ Δ' = Δ.set kd (d, MT (ks.filter fun q => decide (q ≠ pair i jj)))) (fun v Δ' => (exc2 cNL cAl n i jj v ∨ (v = .ref cUn ∧ ok2 n i jj ∧ pair i jj ∉ ks)) ∧ Δ' = Δ) :=
  em_imp (em_callAt kd hd (cj_methX M hr hk ho (rcv_I rfl) (ea_cons he (ea_cons he2 ea_nil hs1) hst) hst hpl ht) (c_untie CY cNL cAl cUn n i jj ks d (Ref l)) ⟨n, i, jj, ks, d, Ref l, hi_Ref, rfl⟩ (fun _ _ q => ⟨_, q.2.2.2⟩) (fun _ _ q => ⟨_, q.2⟩)) (fun P Δ' ⟨ob, ⟨q1, q2, q3, q4⟩, e⟩ => by
    injection q4 with q4 _
    rw [e, q4]
    exact ⟨⟨q1, q2, q3⟩, rfl⟩) (fun v Δ' ⟨ob, ⟨q1, q4⟩, e⟩ => by
    injection q4 with q4 _
    rw [e, q4, set_id hd]
    exact ⟨q1, rfl⟩)
theorem yl_setshyX (kl : Nat) {t : Bool} (M : Mtc X.prog X.w X.K X.mg X.base CY "set_shy" (C_setshy CY cNL) 2 []) (hr : Room j X.A) (hk : 2 ≤ j) (ho : EE X Γ Δ o (YM CY (hs.length : Int) d l)) (he : EE X Γ Δ e (I i)) (he2 : EE X Γ Δ e2 (Bo t)) (hl : Δ[kl]? = some (l, ML (hs.map Bo)))
    (hs1 : starEach [e2] X.env = (false, eval e2 X.env) :: starEach [] X.env := by rfl) (hst : starEach [e, e2] X.env = (false, eval e X.env) :: starEach [e2] X.env := by rfl) (hpl : (backTo pos (starEach [e2] X.env)).any (·.1) = false := by rfl) (ht : eval (.Call (.Attribute o "set_shy" apos) [e, e2] [] pos) X.env = mcall X o "set_shy" apos pos [e, e2] pl := by rfl) :
    EM X ms Γ Δ (.Call (.Attribute o "set_shy" apos) [e, e2] [] pos) (fun P Δ' => (P = No ∧ okL (hs.length : Int) i) ∧ Δ' = Δ.set kl (l, ML ((hs.set i.toNat t).map Bo))) (fun v Δ' => (v = .ref cNL ∧ ¬ okL (hs.length : Int) i) ∧ Δ' = Δ) :=
  em_imp (em_callAt kl hl (cj_methX M hr hk ho (rcv_I rfl) (ea_cons he (ea_cons he2 ea_nil hs1) hst) hst hpl ht) (c_setshy CY cNL i t hs l (Ref d)) ⟨i, t, hs, l, Ref d, hi_Ref, rfl⟩ (fun _ _ q => ⟨_, q.2.2⟩) (fun _ _ q => ⟨_, q.2⟩)) (fun P Δ' ⟨ob, ⟨q1, q2, q4⟩, e⟩ => by
    injection q4 with q4 _
    rw [e, q4]
    exact ⟨⟨q1, q2⟩, rfl⟩) (fun v Δ' ⟨ob, ⟨q1, q4⟩, e⟩ => by
    injection q4 with q4 _
    rw [e, q4, set_id hl]
    exact ⟨q1, rfl⟩)
theorem yl_setshyD (kl : Nat) (M : Mtc X.prog X.w X.K X.mg X.base CY "set_shy" (C_setshy CY cNL) 2 [.bl true]) (hr : Room j X.A) (hk : 2 ≤ j) (ho : EE X Γ Δ o (YM CY (hs.length : Int) d l)) (he : EE X Γ Δ e (I i)) (hl : Δ[kl]? = some (l, ML (hs.map Bo)))
    (hst : starEach [e] X.env = (false, eval e X.env) :: starEach [] X.env := by rfl) (hpl : (backTo pos (starEach [] X.env)).any (·.1) = false := by rfl) (ht : eval (.Call (.Attribute o "set_shy" apos) [e] [] pos) X.env = mcall X o "set_shy" apos pos [e] pl := by rfl) :
    EM X ms Γ Δ (.Call (.Attribute o "set_shy" apos) [e] [] pos) (fun P Δ' => (P = No ∧ okL (hs.length : Int) i) ∧ Δ' = Δ.set kl (l, ML ((hs.set i.toNat true).map Bo))) (fun v Δ' => (v = .ref cNL ∧ ¬ okL (hs.length : Int) i) ∧ Δ' = Δ) :=
  em_imp (em_callAt kl hl (cj_methXD M hr hk ho (rcv_I rfl) (ea_cons he ea_nil hst) [Bo true] (fun _ _ => ⟨rfl, trivial⟩) hst hpl ht) (c_setshy CY cNL i true hs l (Ref d)) ⟨i, true, hs, l, Ref d, hi_Ref, rfl⟩ (fun _ _ q => ⟨_, q.2.2⟩) (fun _ _ q => ⟨_, q.2⟩)) (fun P Δ' ⟨ob, ⟨q1, q2, q4⟩, e⟩ => by
    injection q4 with q4 _
    rw [e, q4]
    exact ⟨⟨q1, q2⟩, rfl⟩) (fun v Δ' ⟨ob, ⟨q1, q4⟩, e⟩ => by
    injection q4 with q4 _
    rw [e, q4, set_id hl]
    exact ⟨q1, rfl⟩)
end
def cellAt (sc : List Int) (k : Nat) : Int := sc.getD k 0
section
variable {P : Program} {w : World} {K : PySem.W.Frag} {mg : Str → Option Value} {base : Heap}
def C_cell (K : PySem.W.Frag) : Cn → Prop := fun c => ∃ (sc : List Int) (k : Nat), c = ⟨[Scr K sc, I (k : Int)], fun P Δ => P = I (cellAt sc k), [], fun _ _ => False⟩
theorem ok_cell {f : Addr} {fd : FuncData} (F : Fu K "_law_cell_at" "_law_cell_at" s__law_cell_at f fd) (b : Bl mg) : FnOk P w K mg base (L2N.CX P w) 1 f fd ["script", "k"] (spC (C_cell K)) := by
  refine fn_go F sc__law_cell_at (fun c ⟨sc, k, e⟩ => by subst e; exact ⟨rfl, ⟨hi_Scr, hi_I, trivial⟩, trivial⟩) fun c ⟨sc, k, e⟩ cdv A outer s H E hr => ?_
  subst e
  refine go_if (et_cmp cmp_lt (ee_var 1 rfl) (ee_len (es_scr (ee_var 0 rfl)) rfl b.len)) (fun h => ?_) (fun h => ?_)
  · have hk : k < sc.length := by simpa using h
    exact go_ret (ee_ix (es_scr (ee_var 0 rfl)) (ee_var 1 rfl) (P := I (cellAt sc k)) (atI_nat (by simp [cellAt, hk]))) rfl
  · have hk : ¬ k < sc.length := by simpa using h
    refine go_nil (go_ret ee_int ?_)
    have : cellAt sc k = 0 := by unfold cellAt; rw [List.getD_eq_getElem?_getD, List.getElem?_eq_none (by omega)]; rfl
    rw [this]
end
def mix (cell k : Int) : Int :=
  let a := (cell + 7919 * (k + 3)) % 2147483647
  let b := (a * a + 104729 * k + 5) % 2147483629
  b * b % 2147483587
section
variable {P : Program} {w : World} {K : PySem.W.Frag} {mg : Str → Option Value} {base : Heap}
def C_mix : Cn → Prop := fun c => ∃ (cell k : Int), c = ⟨[I cell, I k], fun P Δ => P = I (mix cell k), [], fun _ _ => False⟩
theorem ok_mix {f : Addr} {fd : FuncData} (F : Fu K "_law_mix" "_law_mix" s__law_mix f fd) : FnOk P w K mg base (L2N.CX P w) 1 f fd ["cell", "k"] (spC C_mix) := by
  refine fn_go F sc__law_mix (fun c ⟨sc, k, e⟩ => by subst e; exact ⟨rfl, ⟨hi_I, hi_I, trivial⟩, trivial⟩) fun c ⟨sc, k, e⟩ cdv A outer s H E hr => ?_
  subst e
  refine go_set 2 (ee_mod (ee_add (ee_var 0 rfl) (ee_mul ee_int (ee_add (ee_var 1 rfl) ee_int) (by left; decide))) ee_int) sc__law_mix.nd ?_
  refine go_set 2 (ee_mod (ee_add (ee_add (ee_mul (ee_var 2 rfl) (ee_var 2 rfl) (by left; constructor <;> omega)) (ee_mul ee_int (ee_var 1 rfl) (by left; decide))) ee_int) ee_int) sc__law_mix.nd ?_
  exact go_ret (ee_mod (ee_mul (ee_var 2 rfl) (ee_var 2 rfl) (by left; constructor <;> omega)) ee_int) rfl
end
def manyF (cell : Int) : Int := if cell % 4 = 3 then 1 + cell / 4 % 24 else 1 + cell / 4 % 10
theorem manyF_ok (cell : Int) : 1 ≤ manyF cell ∧ manyF cell ≤ 24 := by unfold manyF; split <;> omega
section
variable {P : Program} {w : World} {K : PySem.W.Frag} {mg : Str → Option Value} {base : Heap}
def C_many : Cn → Prop := fun c => ∃ cell : Int, c = ⟨[I cell], fun P Δ => P = I (manyF cell), [], fun _ _ => False⟩
theorem ok_many {f : Addr} {fd : FuncData} (F : Fu K "_law_many" "_law_many" s__law_many f fd) : FnOk P w K mg base (L2N.CX P w) 1 f fd ["cell"] (spC C_many) := by
  refine fn_go F sc__law_many (fun c ⟨sc, e⟩ => by subst e; exact ⟨rfl, ⟨hi_I, trivial⟩, trivial⟩) fun c ⟨sc, e⟩ cdv A outer s H E hr => ?_
  subst e
  refine go_if (et_cmp cmp_eq (ee_mod (ee_var 0 rfl) ee_int) ee_int) (fun h => go_ret (ee_add ee_int (ee_mod (ee_div (ee_var 0 rfl) ee_int) ee_int)) ?_) (fun h => go_nil (go_ret (ee_add ee_int (ee_mod (ee_div (ee_var 0 rfl) ee_int) ee_int)) ?_))
  · unfold manyF; rw [if_pos (of_decide_eq_true h)]
  · unfold manyF; rw [if_neg (of_decide_eq_false h)]
end
/-- a tie as a tuple -/
def tP (p : Int × Int) : Pr := T [I p.1, I p.2]
theorem hi_tP {p : Int × Int} : Hi (tP p) := hi_T ⟨hi_I, hi_I, trivial⟩
theorem dat_tP {K : PySem.W.Frag} {p : Int × Int} : Dat K (tP p) (pD p) := dat_T ⟨dat_I, dat_I, trivial⟩
/-- ties as they are drawn: ordered pairs of lamps, no two alike -/
structure TiesOk (n : Int) (ties : List (Int × Int)) : Prop where
  lt : ∀ p ∈ ties, 0 ≤ p.1 ∧ p.1 < p.2 ∧ p.2 < n
  nd : ties.Nodup
  few : ties.length ≤ 576
def tblI (m : Int) : Int := if m = 0 then 0 else if m = 1 then 2 else if m = 2 then 4 else if m = 3 then 6 else 12
theorem atI_five {P0 P1 P2 P3 P4 : Pr} {i : Int} (h : 0 ≤ i ∧ i < 5) : atI [P0, P1, P2, P3, P4] i = some (if i = 0 then P0 else if i = 1 then P1 else if i = 2 then P2 else if i = 3 then P3 else P4) := by
  obtain rfl | rfl | rfl | rfl | rfl : i = 0 ∨ i = 1 ∨ i = 2 ∨ i = 3 ∨ i = 4 := by omega
  all_goals rfl
def tieOn (sc : List Int) (o i : Nat) : Bool := decide (mix (cellAt sc (2 + o % 8) + 5003 * (o : Int)) (i : Int) / 7 % 12 < tblI (cellAt sc 1 % 5))
def tieRow (sc : List Int) (o i : Nat) : List (Int × Int) := ((List.range i).filter (tieOn sc o)).map fun (i : Nat) => ((i : Int), (o : Int))
def tiesF (sc : List Int) (n : Nat) : List (Int × Int) := (List.range n).flatMap fun o => tieRow sc o o
theorem tiesF_succ (sc : List Int) (n : Nat) : tiesF sc (n + 1) = tiesF sc n ++ tieRow sc n n := by
  unfold tiesF
  rw [List.range_succ, List.flatMap_append]
  simp
theorem tieRow_succ (sc : List Int) (o i : Nat) : tieRow sc o (i + 1) = tieRow sc o i ++ if tieOn sc o i = true then [((i : Int), (o : Int))] else [] := by
  unfold tieRow
  rw [List.range_succ, List.filter_append, List.map_append]
  by_cases h : tieOn sc o i = true
  · rw [if_pos h, List.filter_cons_of_pos h]; rfl
  · rw [if_neg h, List.filter_cons_of_neg h]; rfl
theorem tieRow_len (sc : List Int) (o i : Nat) : (tieRow sc o i).length ≤ i := by
  unfold tieRow
  rw [List.length_map]
  exact Nat.le_trans (List.length_filter_le _ _) (by rw [List.length_range]; exact Nat.le_refl i)
theorem tiesF_len (sc : List Int) : ∀ n, (tiesF sc n).length ≤ n * n
  | 0 => Nat.le_refl _
  | n + 1 => by
    rw [tiesF_succ, List.length_append]
    have h1 := tiesF_len sc n
    have h2 := tieRow_len sc n n
    have e : (n + 1) * (n + 1) = n * n + 2 * n + 1 := by rw [Nat.add_mul, Nat.mul_add]; omega
    omega
theorem tiesF_half (sc : List Int) : ∀ n, 2 * (tiesF sc n).length ≤ n * n
  | 0 => Nat.le_refl _
  | n + 1 => by
    rw [tiesF_succ, List.length_append]
    have h1 := tiesF_half sc n
    have h2 := tieRow_len sc n n
    have e : (n + 1) * (n + 1) = n * n + 2 * n + 1 := by rw [Nat.add_mul, Nat.mul_add]; omega
    omega
theorem tiesF_few (sc : List Int) {n : Nat} (h : n ≤ 24) : (tiesF sc n).length ≤ 288 := by
  have h1 := tiesF_half sc n
  have h2 : n * n ≤ 24 * 24 := Nat.mul_le_mul h h
  omega
theorem mem_tieRow {sc : List Int} {o i : Nat} {p : Int × Int} (h : p ∈ tieRow sc o i) : ∃ k : Nat, k < i ∧ p = ((k : Int), (o : Int)) := by
  unfold tieRow at h
  obtain ⟨k, hk, e⟩ := List.mem_map.mp h
  exact ⟨k, List.mem_range.mp (List.mem_filter.mp hk).1, e.symm⟩
theorem mem_tiesF {sc : List Int} {n : Nat} {p : Int × Int} (h : p ∈ tiesF sc n) : ∃ k o : Nat, k < o ∧ o < n ∧ p = ((k : Int), (o : Int)) := by
  unfold tiesF at h
  obtain ⟨o, ho, hp⟩ := List.mem_flatMap.mp h
  obtain ⟨k, hk, e⟩ := mem_tieRow hp
  exact ⟨k, o, hk, List.mem_range.mp ho, e⟩
theorem tiesF_nd (sc : List Int) : ∀ n, (tiesF sc n).Nodup
  | 0 => List.nodup_nil
  | n + 1 => by
    rw [tiesF_succ]
    refine List.nodup_append.mpr ⟨tiesF_nd sc n, ?_, fun a ha b hb e => ?_⟩
    · unfold tieRow
      exact List.Pairwise.map _ (fun a b h e => h (by injection e with e _; exact Int.ofNat.inj e)) ((List.nodup_range (n := n)).filter (tieOn sc n))
    · obtain ⟨k, o, h1, h2, e1⟩ := mem_tiesF ha
      obtain ⟨k', h3, e2⟩ := mem_tieRow hb
      rw [e, e2] at e1
      injection e1 with _ e1
      have := Int.ofNat.inj e1
      omega
theorem tiesF_ok (sc : List Int) {n : Nat} (h : n ≤ 24) : TiesOk (n : Int) (tiesF sc n) := ⟨fun p hp => by
    obtain ⟨k, o, h1, h2, rfl⟩ := mem_tiesF hp
    exact ⟨Int.natCast_nonneg k, by show (k : Int) < (o : Int); omega, by show (o : Int) < (n : Int); omega⟩, tiesF_nd sc n, Nat.le_trans (tiesF_len sc n) (Nat.mul_le_mul h h)⟩
def shyF (sc : List Int) (n : Nat) : List Bool := if cellAt sc 1 / 5 % 3 = 1 then (List.range n).map fun (k : Nat) => decide (mix (cellAt sc 10) (k : Int) / 7 % 3 = 0) else List.replicate n false
theorem shyF_len (sc : List Int) (n : Nat) : (shyF sc n).length = n := by
  unfold shyF
  split
  · rw [List.length_map, List.length_range]
  · exact List.length_replicate
section
variable {P : Program} {w : World} {K : PySem.W.Frag} {mg : Str → Option Value} {base : Heap} {CY cNY cNL cAl cTi cUn : Addr}
def c_drawn (K : PySem.W.Frag) (sc : List Int) : Cn := ⟨[Scr K sc], fun P D => ∃ a b, P = N (T [I (manyF (cellAt sc 0)), Ref a, Ref b]) ∧ D = [(a, ML ((tiesF sc (manyF (cellAt sc 0)).toNat).map tP)), (b, ML ((shyF sc (manyF (cellAt sc 0)).toNat).map Bo))], [], fun _ _ => False⟩
def C_drawn (K : PySem.W.Frag) : Cn → Prop := fun c => ∃ sc : List Int, c = c_drawn K sc
theorem ok_drawn {f : Addr} {fd : FuncData} (F : Fu K "_law_drawn" "_law_drawn" s__law_drawn f fd) (b : Bl mg) (Mc : Fnc P w K mg base "_law_cell_at" (C_cell K) 1) (Mx : Fnc P w K mg base "_law_mix" C_mix 1) (Mm : Fnc P w K mg base "_law_many" C_many 1) : FnOk P w K mg base (L2N.CX P w) 2 f fd ["script"] (spC (C_drawn K)) := by
  refine fn_go F sc__law_drawn (fun c ⟨sc, e⟩ => by subst e; exact ⟨rfl, ⟨hi_Scr, trivial⟩, trivial⟩) fun c ⟨sc, e⟩ cdv A outer s H E hr => ?_
  subst e
  unfold c_drawn
  have hn := manyF_ok (cellAt sc 0)
  refine go_set 1 (ee_call (P := I (manyF (cellAt sc 0))) (cj_fn0 Mm hr (by decide) rfl (ea_cons (ee_call (P := I (cellAt sc 0)) (cj_fn0 Mc hr (by decide) rfl (ea_cons (ee_var 0 rfl) (ea_cons ee_int ea_nil))) _ ⟨sc, 0, rfl⟩ (ho := fun _ _ q => q)) ea_nil)) _ ⟨_, rfl⟩ (ho := fun _ _ q => q)) sc__law_drawn.nd ?_
  generalize manyF (cellAt sc 0) = n at hn
  obtain ⟨m, rfl⟩ : ∃ m : Nat, n = (m : Int) := ⟨n.toNat, by omega⟩
  rw [Int.toNat_natCast]
  refine go_set 2 (ee_mod (ee_call (P := I (cellAt sc 1)) (cj_fn0 Mc hr (by decide) rfl (ea_cons (ee_var 0 rfl) (ea_cons ee_int ea_nil))) _ ⟨sc, 1, rfl⟩ (ho := fun _ _ q => q)) ee_int) sc__law_drawn.nd ?_
  refine go_setM (Kx := fun _ _ => False) 3 (em_N (en_lst ea_nil)) sc__law_drawn.nd (fun _ _ q => q) fun P1 Δ1 ⟨a, ha, e1, e2⟩ => ?_
  subst e1 e2
  let Γ0 : Gam := [some (Scr K sc), some (I (m : Int)), some (I (cellAt sc 1 % 5)), some (Ref a), none, none, none, none, none]
  have w0 : ∀ {g4 g5 g6 : Option Pr}, Wk [some (Scr K sc), some (I (m : Int)), some (I (cellAt sc 1 % 5)), some (Ref a), g4, g5, g6, none, none] Γ0 := ⟨.inr rfl, .inr rfl, .inr rfl, .inr rfl, .inl rfl, .inl rfl, .inl rfl, .inl rfl, .inl rfl, trivial⟩
  refine go_forR 4 (fun _ => Γ0) (fun i => [(a, ML ((tiesF sc i).map tP))]) (fun _ => True) (passes_of rfl) sc__law_drawn.nd (ee_var 1 rfl) (by omega) (by omega) ⟨w0, rfl, trivial⟩ rfl b.range (fun o ho _ => ?_) (fun _ => ?_)
  · have hlo := tiesF_len sc o
    have ho24 : o ≤ 24 := by omega
    have hoo : o * o ≤ 24 * 24 := Nat.mul_le_mul ho24 ho24
    refine go_forR 5 (fun _ => [some (Scr K sc), some (I (m : Int)), some (I (cellAt sc 1 % 5)), some (Ref a), some (I (o : Int)), none, none, none, none]) (fun i => [(a, ML ((tiesF sc o ++ tieRow sc o i).map tP))]) (fun _ => True) (passes_of rfl) sc__law_drawn.nd (ee_var 4 rfl) (by omega) (by omega) ⟨⟨.inr rfl, .inr rfl, .inr rfl, .inr rfl, .inr rfl, .inl rfl, .inl rfl, .inl rfl, .inl rfl, trivial⟩, by show [_] = [_]; unfold tieRow; simp, trivial⟩ rfl b.range (fun i hi _ => ?_) (fun _ => go_nil ⟨w0, by rw [Int.toNat_natCast, ← tiesF_succ], trivial⟩)
    have hli := tieRow_len sc o i
    refine go_set 6 (ee_div (ee_call (P := I (mix (cellAt sc (2 + o % 8) + 5003 * (o : Int)) (i : Int))) (cj_fn0 Mx hr (by decide) rfl (ea_cons (ee_add (ee_call (P := I (cellAt sc (2 + o % 8))) (cj_fn0 Mc hr (by decide) rfl (ea_cons (ee_var 0 rfl) (ea_cons (ee_cast (ee_add ee_int (ee_mod (ee_var 4 rfl) ee_int)) (P' := I ((2 + o % 8 : Nat) : Int)) (by congr 1)) ea_nil))) _ ⟨sc, 2 + o % 8, rfl⟩ (ho := fun _ _ q => q)) (ee_mul ee_int (ee_var 4 rfl) (.inl (by decide)))) (ea_cons (ee_var 5 rfl) ea_nil))) _ ⟨_, _, rfl⟩ (ho := fun _ _ q => q)) ee_int) sc__law_drawn.nd ?_
    refine go_if (et_cmp cmp_lt (ee_mod (ee_var 6 rfl) ee_int) (ee_cast (ee_ix (es_C (ec_N (en_lst (ea_cons ee_int (ea_cons ee_int (ea_cons ee_int (ea_cons ee_int (ea_cons ee_int ea_nil)))))))) (ee_var 2 rfl) (atI_five ⟨by omega, by omega⟩)) (P' := I (tblI (cellAt sc 1 % 5))) (by unfold tblI; split; rfl; split; rfl; split; rfl; split; rfl; rfl))) (fun h => ?_) (fun h => ?_)
    · have h1 : tieOn sc o i = true := h
      refine go_app 0 (ee_var 3 rfl) (ee_un (ee_tup (ea_cons (ee_var 5 rfl) (ea_cons (ee_var 4 rfl) ea_nil)))) rfl (by rw [List.length_map, List.length_append]; omega) (go_nil (go_nil ⟨⟨.inr rfl, .inr rfl, .inr rfl, .inr rfl, .inr rfl, .inl rfl, .inl rfl, .inr rfl, .inr rfl, trivial⟩, ?_, trivial⟩))
      rw [tieRow_succ, if_pos h1, ← List.append_assoc, List.map_append (l₂ := [((i : Int), (o : Int))])]
      rfl
    · have h1 : ¬ tieOn sc o i = true := by
        have h : tieOn sc o i = false := h
        rw [h]; decide
      refine go_nil (go_nil ⟨⟨.inr rfl, .inr rfl, .inr rfl, .inr rfl, .inr rfl, .inl rfl, .inl rfl, .inr rfl, .inr rfl, trivial⟩, ?_, trivial⟩)
      rw [tieRow_succ, if_neg h1, List.append_nil]
  · rw [Int.toNat_natCast]
    refine go_lcM (lcsR 7 (fun _ => true) (fun _ => Bo false) 8 sc__law_drawn.nd (ee_var 1 rfl) (by omega) (by omega) rfl b.range (blkOk_by (N := ["script", "many", "much", "ties", "other", "one", "drawn", "shy", "k"]) (sc := defScope s__law_drawn) (by decide +kernel)) (fun _ _ _ _ _ => pg_name (i := 8) sc__law_drawn.nd rfl (Or.inl rfl)) (fun _ _ => rfl) (fun _ _ _ => fun _ _ _ _ _ => ee_bl)) fun b1 hb1 => ?_
    have hnm : ∀ {l : Addr}, l ∉ (List.map (fun x : Ent => x.1) ([] : Del)) := fun h => List.not_mem_nil h
    refine go_ifc (fun Γ' Δ' => ∃ bb, Wk Γ' (Γ0.set 7 (some (Ref bb))) ∧ Δ' = [(a, ML ((tiesF sc m).map tP)), (bb, ML ((shyF sc m).map Bo))]) (et_cmp cmp_eq (ee_mod (ee_div (ee_call (P := I (cellAt sc 1)) (cj_fn0 Mc hr (by decide) rfl (ea_cons (ee_var 0 rfl) (ea_cons ee_int ea_nil))) _ ⟨sc, 1, rfl⟩ (ho := fun _ _ q => q)) ee_int) ee_int) ee_int) (fun h => ?_) (fun h => ?_) (fun Γ' Δ' ⟨bb, h1, h2⟩ => ?_)
    · refine go_lcM (lcsR 7 (fun _ => true) (fun k => Bo (decide (mix (cellAt sc 10) (k : Int) / 7 % 3 = 0))) 8 sc__law_drawn.nd (ee_var 1 rfl) (by omega) (by omega) rfl b.range (blkOk_by (N := ["script", "many", "much", "ties", "other", "one", "drawn", "shy", "k"]) (sc := defScope s__law_drawn) (by decide +kernel)) (fun _ _ _ _ _ => pg_name (i := 8) sc__law_drawn.nd rfl (Or.inl rfl)) (fun _ _ => rfl) (fun z _ _ => fun _ _ _ _ _ => ee_cmp cmp_eq (ee_mod (ee_div (ee_call (P := I (mix (cellAt sc 10) (z : Int))) (cj_fn0 Mx hr (by decide) rfl (ea_cons (ee_call (P := I (cellAt sc 10)) (cj_fn0 Mc hr (by decide) rfl (ea_cons (ee_var 0 rfl) (ea_cons ee_int ea_nil))) _ ⟨sc, 10, rfl⟩ (ho := fun _ _ q => q)) (ea_cons (ee_var 8 rfl) ea_nil))) _ ⟨_, _, rfl⟩ (ho := fun _ _ q => q)) ee_int) ee_int) ee_int)) fun b2 hb2 => ?_
      refine go_drop (Δ' := [(a, ML ((tiesF sc m).map tP)), (b2, ML (((List.range (m : Int).toNat).filter fun _ => true).map fun (k : Nat) => Bo (decide (mix (cellAt sc 10) (k : Int) / 7 % 3 = 0))))]) ((List.sublist_cons_self _ _).cons_cons _) (go_nil ⟨b2, ⟨.inr rfl, .inr rfl, .inr rfl, .inr rfl, .inl rfl, .inl rfl, .inl rfl, .inr rfl, .inl rfl, trivial⟩, ?_⟩)
      have e : ((List.range (m : Int).toNat).filter fun _ => true).map (fun (k : Nat) => Bo (decide (mix (cellAt sc 10) (k : Int) / 7 % 3 = 0))) = (shyF sc m).map Bo := by
        unfold shyF
        rw [filt_true, if_pos (of_decide_eq_true h), List.map_map, Int.toNat_natCast]
        rfl
      rw [e]
    · refine go_nil ⟨b1, ⟨.inr rfl, .inr rfl, .inr rfl, .inr rfl, .inl rfl, .inl rfl, .inl rfl, .inr rfl, .inl rfl, trivial⟩, ?_⟩
      have e : ((List.range (m : Int).toNat).filter fun _ => true).map (fun _ => Bo false) = (shyF sc m).map Bo := by
        unfold shyF
        rw [filt_true, if_neg (of_decide_eq_false h), List.map_replicate, Int.toNat_natCast]
        exact (List.map_const' ..).trans (by rw [List.length_range])
      rw [e]; rfl
    · subst h2
      exact go_wk h1 (go_ret (ee_tup (ea_cons (ee_var 1 rfl) (ea_cons (ee_var 3 rfl) (ea_cons (ee_var 7 rfl) ea_nil)))) ⟨a, bb, rfl, rfl⟩)
end
theorem atI_two' {P Q : Pr} {i : Int} (h : 0 ≤ i ∧ i < 2) : atI [P, Q] i = some (if i = 0 then P else Q) := by
  obtain rfl | rfl : i = 0 ∨ i = 1 := by omega
  · rfl
  · rfl
theorem pair_lt {p : Int × Int} (h : p.1 < p.2) : pair p.1 p.2 = p ∧ pair p.2 p.1 = p := by
  unfold pair
  constructor
  · rw [if_neg (by omega), if_pos (by omega)]
  · rw [if_pos (by omega), if_neg (by omega)]
/-- the shy lamps, those ahead of i being set -/
def hF (shy : List Bool) (i : Nat) : List Bool := shy.take i ++ List.replicate (shy.length - i) false
theorem hF_len {shy : List Bool} {i : Nat} (h : i ≤ shy.length) : (hF shy i).length = shy.length := by
  unfold hF
  rw [List.length_append, List.length_take, List.length_replicate]
  omega
theorem hF_all (shy : List Bool) : hF shy shy.length = shy := by
  unfold hF
  rw [List.take_length, Nat.sub_self]
  exact List.append_nil _
theorem hF_succ {shy : List Bool} {i : Nat} (h : i < shy.length) : hF shy (i + 1) = (hF shy i).set i (shy.getD i false) := by
  apply List.ext_getElem?
  intro k
  have hl : i < (hF shy i).length := by rw [hF_len (by omega)]; exact h
  unfold hF at hl ⊢
  by_cases hk : i = k
  · subst hk
    rw [List.getElem?_set_self hl, List.getElem?_append_left (by rw [List.length_take]; omega), List.getElem?_take_of_lt (by omega), List.getD_eq_getElem?_getD, List.getElem?_eq_getElem h]
    rfl
  · rw [List.getElem?_set_ne hk]
    by_cases h1 : k < i
    · rw [List.getElem?_append_left (by rw [List.length_take]; omega), List.getElem?_append_left (by rw [List.length_take]; omega), List.getElem?_take_of_lt (by omega), List.getElem?_take_of_lt h1]
    · rw [List.getElem?_append_right (by rw [List.length_take]; omega), List.getElem?_append_right (by rw [List.length_take]; omega), List.length_take, List.length_take, List.getElem?_replicate, List.getElem?_replicate]
      by_cases h2 : k < shy.length
      · rw [if_pos (by omega), if_pos (by omega)]
      · rw [if_neg (by omega), if_neg (by omega)]
theorem set_getD {l : List Bool} {i : Nat} (h : i < l.length) : l.set i (l.getD i false) = l := by
  apply set_id
  rw [List.getD_eq_getElem?_getD, List.getElem?_eq_getElem h]; rfl
section
variable {P : Program} {w : World} {K : PySem.W.Frag} {mg : Str → Option Value} {base : Heap} {CY cNY cNL cAl cTi cUn : Addr}
def c_built (CY : Addr) (ties : List (Int × Int)) (shy : List Bool) : Cn := ⟨[I (shy.length : Int), L (ties.map tP), L (shy.map Bo)], fun P D => ∃ d l, P = N (YM CY (shy.length : Int) d l) ∧ D = [(d, MT ties), (l, ML (shy.map Bo))], [], fun _ _ => False⟩
def C_built (CY : Addr) : Cn → Prop := fun c => ∃ (ties : List (Int × Int)) (shy : List Bool), TiesOk (shy.length : Int) ties ∧ (1 ≤ shy.length ∧ shy.length ≤ 24) ∧ c = c_built CY ties shy
theorem ok_built {f : Addr} {fd : FuncData} (F : Fu K "_law_built" "_law_built" s__law_built f fd) (b : Bl mg) (M : Mkc P w K mg base "Yard" CY (C_init CY cNY) 1) (Mt : Mtc P w K mg base CY "tie" (C_tie CY cNL cAl cTi) 4 []) (Mu : Mtc P w K mg base CY "untie" (C_untie CY cNL cAl cUn) 4 []) (Ms : Mtc P w K mg base CY "set_shy" (C_setshy CY cNL) 2 []) (MsD : Mtc P w K mg base CY "set_shy" (C_setshy CY cNL) 2 [.bl true]) :
    FnOk P w K mg base (L2N.CX P w) 5 f fd ["many", "ties", "shy"] (spC (C_built CY)) := by
  refine fn_go F sc__law_built (fun c ⟨ties, shy, h1, h2, e⟩ => by subst e; exact ⟨rfl, ⟨hi_I, hi_L (His.map (fun _ => hi_tP) _), hi_L (His.map (fun _ => hi_Bo) _), trivial⟩, trivial⟩) fun c ⟨ties, shy, TO, hn, e⟩ cdv A outer s H E hr => ?_
  subst e
  have hnI : 1 ≤ (shy.length : Int) ∧ (shy.length : Int) ≤ 24 := by omega
  refine go_setM 3 (em_makeX (ns := yns) M hr (by decide) (by rfl) (ea_cons (ee_var 0 rfl) ea_nil) (fun l => c_init CY cNY (shy.length : Int) l) (fun l => ⟨_, l, rfl⟩) (fun Δn qs => ∃ d l, Δn = [(d, MT []), (l, ML ((List.replicate shy.length false).map Bo))] ∧ qs = [I (shy.length : Int), Ref d, Ref l]) (ho := fun l P' Δ' o => ⟨o.2.1, let ⟨d, l', e⟩ := o.2.2; ⟨_, _, e, d, l', rfl, rfl⟩⟩)) sc__law_built.nd (fun v Δ' ⟨⟨l, D, ⟨q, _⟩, _⟩, _⟩ => absurd hnI q) fun P' Δ' ⟨Δn, qs, ⟨d, l, e1, e2⟩, e3, e4, e5⟩ => ?_
  subst e1 e2 e3 e4
  let Γ0 : Gam := [some (I (shy.length : Int)), some (L (ties.map tP)), some (L (shy.map Bo)), some (N (YM CY (shy.length : Int) d l)), none, none]
  refine go_forR 4 (fun _ => Γ0) (fun i => [(d, MT (ties.take i)), (l, ML ((List.replicate shy.length false).map Bo))]) (fun _ => True) (passes_of rfl) sc__law_built.nd (ee_len (es_L (ee_var 1 rfl)) rfl b.len) (by rw [List.length_map]; have := TO.few; omega) (by omega) ⟨Wk.refl _, rfl, trivial⟩ rfl b.range (fun i hi _ => ?_) (fun _ => ?_)
  · rw [List.length_map] at hi
    have hil : i < ties.length := by omega
    have hp : ties[i]? = some ties[i] := List.getElem?_eq_getElem hil
    generalize hpe : ties[i] = p at hp
    have hpm : p ∈ ties := List.mem_of_getElem? hp
    obtain ⟨l1, l2, l3⟩ := TO.lt p hpm
    have hat : atI (ties.map tP) (i : Int) = some (tP p) := atI_nat (by rw [List.getElem?_map, hp]; rfl)
    have hni : p ∉ ties.take i := fun hm => by
      obtain ⟨k, hk, e⟩ := List.mem_iff_getElem.mp hm
      rw [List.length_take] at hk
      rw [List.getElem_take] at e
      have := (List.getElem_inj (h₀ := (by omega : k < ties.length)) (h₁ := hil) TO.nd).mp (by rw [e, hpe])
      omega
    refine go_exprM (yl_tieX 0 Mt hr (by decide) (ee_un (ee_var 3 rfl)) (ee_cast (ee_ixT (ee_ix (es_L (ee_var 1 rfl)) (ee_var 4 rfl) hat) (ee_mod (ee_var 4 rfl) ee_int) (atI_two' ⟨by omega, by omega⟩)) (P' := I (if (i : Int) % 2 = 0 then p.1 else p.2)) (by split <;> rfl)) (ee_cast (ee_ixT (ee_ix (es_L (ee_var 1 rfl)) (ee_var 4 rfl) hat) (ee_sub ee_int (ee_mod (ee_var 4 rfl) ee_int)) (atI_two' ⟨by omega, by omega⟩)) (P' := I (if 1 - (i : Int) % 2 = 0 then p.1 else p.2)) (by split <;> rfl)) rfl (by rw [List.length_take]; have := TO.few; omega)) (fun v Δ' ⟨q, e⟩ => ?_) fun P' Δ' ⟨_, e⟩ => ?_
    · have hpr := pair_lt l2
      have key : ok2 (shy.length : Int) (if (i : Int) % 2 = 0 then p.1 else p.2) (if 1 - (i : Int) % 2 = 0 then p.1 else p.2) ∧ pair (if (i : Int) % 2 = 0 then p.1 else p.2) (if 1 - (i : Int) % 2 = 0 then p.1 else p.2) = p := by
        by_cases z : (i : Int) % 2 = 0
        · rw [if_pos z, if_neg (by omega)]
          exact ⟨⟨⟨⟨l1, by omega⟩, ⟨by omega, l3⟩⟩, by omega⟩, hpr.1⟩
        · rw [if_neg z, if_pos (by omega)]
          exact ⟨⟨⟨⟨by omega, l3⟩, ⟨l1, by omega⟩⟩, by omega⟩, hpr.2⟩
      rcases q with (⟨_, q⟩ | ⟨_, _, q⟩) | ⟨_, _, q⟩
      · exact absurd key.1.1 q
      · exact absurd q key.1.2
      · rw [key.2] at q
        exact absurd q hni
    · subst e
      refine go_nil ⟨⟨.inr rfl, .inr rfl, .inr rfl, .inr rfl, .inl rfl, .inr rfl, trivial⟩, ?_, trivial⟩
      have hpr := pair_lt l2
      have key : pair (if (i : Int) % 2 = 0 then p.1 else p.2) (if 1 - (i : Int) % 2 = 0 then p.1 else p.2) = p := by
        by_cases z : (i : Int) % 2 = 0
        · rw [if_pos z, if_neg (by omega)]; exact hpr.1
        · rw [if_neg z, if_pos (by omega)]; exact hpr.2
      rw [key, List.take_succ, hp]
      rfl
  · rw [List.length_map, Int.toNat_natCast, List.take_length]
    refine go_forR 5 (fun _ => Γ0) (fun i => [(d, MT ties), (l, ML ((hF shy i).map Bo))]) (fun _ => True) (passes_of rfl) sc__law_built.nd (ee_var 0 rfl) (by omega) (by omega) ⟨Wk.refl _, rfl, trivial⟩ rfl b.range (fun i hi _ => ?_) (fun _ => ?_)
    · have hil : i < shy.length := by omega
      have hok : okL ((hF shy i).length : Int) (i : Int) := by rw [hF_len (by omega)]; exact ⟨by omega, hi⟩
      have hat : atI (shy.map Bo) (i : Int) = some (Bo (shy.getD i false)) := atI_map false ⟨by omega, hi⟩
      refine go_if (et_val (ee_ix (es_L (ee_var 2 rfl)) (ee_var 5 rfl) hat)) (fun h => ?_) (fun h => ?_)
      · refine go_exprM (yl_setshyD 1 (hs := hF shy i) MsD hr (by decide) (by rw [hF_len (by omega)]; exact ee_un (ee_var 3 rfl)) (ee_var 5 rfl) rfl) (fun v Δ' ⟨⟨_, q⟩, _⟩ => absurd hok q) fun P' Δ' ⟨_, e⟩ => ?_
        subst e
        refine go_nil (go_nil ⟨⟨.inr rfl, .inr rfl, .inr rfl, .inr rfl, .inr rfl, .inl rfl, trivial⟩, ?_, trivial⟩)
        rw [hF_succ hil, h]
        rfl
      · refine go_nil (go_nil ⟨⟨.inr rfl, .inr rfl, .inr rfl, .inr rfl, .inr rfl, .inl rfl, trivial⟩, ?_, trivial⟩)
        have e : (hF shy i).set i false = hF shy i := set_id (by
          unfold hF
          rw [List.getElem?_append_right (by rw [List.length_take]; omega), List.length_take, List.getElem?_replicate, if_pos (by omega)])
        rw [hF_succ hil, h, e]
    · rw [Int.toNat_natCast, hF_all]
      have ok0 : okL (shy.length : Int) 0 := ⟨by omega, by omega⟩
      have hat : atI (shy.map Bo) 0 = some (Bo (shy.getD 0 false)) := atI_map false ok0
      refine go_exprM (yl_setshyX 1 (hs := shy) Ms hr (by decide) (ee_un (ee_var 3 rfl)) ee_int (ee_not (ee_ix (es_L (ee_var 2 rfl)) ee_int hat)) rfl) (fun v Δ' ⟨⟨_, q⟩, _⟩ => absurd ok0 q) fun P' Δ' ⟨_, e⟩ => ?_
      subst e
      have l1 : (shy.set 0 (!shy.getD 0 false)).length = shy.length := List.length_set
      refine go_exprM (yl_setshyX 1 (hs := shy.set 0 (!shy.getD 0 false)) Ms hr (by decide) (by rw [l1]; exact ee_un (ee_var 3 rfl)) ee_int (ee_ix (es_L (ee_var 2 rfl)) ee_int hat) rfl) (fun v Δ' ⟨⟨_, q⟩, _⟩ => absurd (by rw [l1]; exact ok0) q) fun P' Δ' ⟨_, e⟩ => ?_
      subst e
      have e2 : ((shy.set 0 (!shy.getD 0 false)).set (0 : Int).toNat (shy.getD 0 false)) = shy := by
        show (shy.set 0 _).set 0 _ = shy
        rw [List.set_set]
        exact set_getD (by omega)
      rw [e2]
      show Go _ _ Γ0 [(d, MT ties), (l, ML (shy.map Bo))] _ _
      have fin : ∀ {Γ : Gam} {rest : List Stmt} {pos p2 : Pos}, Γ[3]? = some (some (N (YM CY (shy.length : Int) d l))) → Go (cxOf (L2N.CX P w) P w K mg base ["many", "ties", "shy", "yard", "k", "lamp"] "_law_built" (defScope s__law_built) f cdv A outer s H E) (List.map (fun x => x.1) (c_built CY ties shy).Δ) Γ [(d, MT ties), (l, ML (shy.map Bo))] (.Return (some (.Name "yard" p2)) pos :: rest) { nx := fun _ Δ' => (c_built CY ties shy).out No Δ', rt := (c_built CY ties shy).out, ex := fun v _ Δ' => (c_built CY ties shy).exc v Δ' } := fun hG => go_ret (ee_var 3 hG) ⟨d, l, rfl, rfl⟩
      refine go_if (et_w (ew_and (et_cmp cmp_gt (ee_var 0 rfl) ee_int) fun _ => ew_and1 (et_ninDt (k := decide (((0 : Int), (shy.length : Int) - 1) ∈ ties)) (hu65 hr) (edt (ee_tup (ea_cons ee_int (ea_cons (ee_sub (ee_var 0 rfl) ee_int) ea_nil))) (dat_N (dat_tP (p := ((0 : Int), (shy.length : Int) - 1))))) (edt (ee_var 1 rfl) (dat_L (dats_map (fun _ => dat_tP) ties))) (pD_shaped _) (shaped_pairs ties) (any_pairs ties _)))) (fun h => ?_) (fun h => go_nil (fin rfl))
      have h2 : 1 < shy.length ∧ ((0 : Int), (shy.length : Int) - 1) ∉ ties := by
        simp at h
        exact ⟨by omega, h.2⟩
      obtain ⟨p1, p2⟩ := pair_lt (p := ((0 : Int), (shy.length : Int) - 1)) (by show (0 : Int) < (shy.length : Int) - 1; omega)
      refine go_exprM (yl_tieX 0 Mt hr (by decide) (ee_un (ee_var 3 rfl)) (ee_sub (ee_var 0 rfl) ee_int) ee_int rfl (by have := TO.few; omega)) (fun v Δ' ⟨q, e⟩ => ?_) fun P' Δ' ⟨_, e⟩ => ?_
      · rcases q with (⟨_, q⟩ | ⟨_, _, q⟩) | ⟨_, _, q⟩
        · exact absurd ⟨⟨by omega, by omega⟩, ok0⟩ q
        · omega
        · rw [p2] at q
          exact absurd q h2.2
      · subst e
        rw [p2]
        refine go_exprM (yl_untieX 0 Mu hr (by decide) (ee_un (ee_var 3 rfl)) ee_int (ee_sub (ee_var 0 rfl) ee_int) rfl) (fun v Δ' ⟨q, e⟩ => ?_) fun P' Δ' ⟨_, e⟩ => ?_
        · rcases q with (⟨_, q⟩ | ⟨_, _, q⟩) | ⟨_, _, q⟩
          · exact absurd ⟨ok0, ⟨by omega, by omega⟩⟩ q
          · omega
          · rw [p1] at q
            exact absurd (List.mem_append_right _ (List.mem_singleton.mpr rfl)) q
        · subst e
          rw [p1]
          have e3 : (ties ++ [((0 : Int), (shy.length : Int) - 1)]).filter (fun q => decide (q ≠ ((0 : Int), (shy.length : Int) - 1))) = ties := by
            rw [List.filter_append, List.filter_cons_of_neg (by simp), List.filter_nil, List.append_nil]
            exact List.filter_eq_self.mpr fun q hq => decide_eq_true fun (z : q = _) => h2.2 (z ▸ hq)
          rw [e3]
          exact go_nil (fin rfl)
end
/-- the turnings of all buttons -/
def trnsP (shy : List Bool) (ties : List (Int × Int)) : Pr := L ((List.range shy.length).map fun i => L ((trn shy ties i).map In))
/-- the law's own table: row a tells which lamps button a turns -/
def mat0 (shy : List Bool) : List (List Bool) := (List.range shy.length).map fun (a : Nat) => (List.range shy.length).map fun (o : Nat) => !shy.getD a false && decide ((a : Int) = (o : Int))
def matPut (m : List (List Bool)) (i j : Nat) : List (List Bool) := m.set i ((m.getD i []).set j true)
def matSet (m : List (List Bool)) (p : Int × Int) : List (List Bool) := matPut (matPut m p.1.toNat p.2.toNat) p.2.toNat p.1.toNat
def matF (shy : List Bool) (ties : List (Int × Int)) (i : Nat) : List (List Bool) := (ties.take i).foldl matSet (mat0 shy)
def Sq (n : Nat) (m : List (List Bool)) : Prop := m.length = n ∧ ∀ k, k < n → (m.getD k []).length = n
theorem getD_setL {α : Type} {l : List α} {i k : Nat} {a d : α} (h : i < l.length) : (l.set i a).getD k d = if k = i then a else l.getD k d := by
  rw [List.getD_eq_getElem?_getD, List.getD_eq_getElem?_getD]
  by_cases e : k = i
  · subst e; rw [List.getElem?_set_self h, if_pos rfl]; rfl
  · rw [List.getElem?_set_ne (Ne.symm e), if_neg e]
theorem getD_mapRange {α : Type} (f : Nat → α) (n k : Nat) (d : α) : ((List.range n).map f).getD k d = if k < n then f k else d := by
  rw [List.getD_eq_getElem?_getD, List.getElem?_map]
  by_cases h : k < n
  · rw [List.getElem?_range h, if_pos h]; rfl
  · rw [List.getElem?_eq_none (by rw [List.length_range]; omega), if_neg h]; rfl
theorem sq_put {n : Nat} {m : List (List Bool)} {i j : Nat} (h : Sq n m) (hi : i < n) : Sq n (matPut m i j) := ⟨by unfold matPut; rw [List.length_set]; exact h.1, fun k hk => by
  unfold matPut
  rw [getD_setL (by rw [h.1]; exact hi)]
  split
  · rw [List.length_set]; exact h.2 i hi
  · exact h.2 k hk⟩
theorem put_at {n : Nat} {m : List (List Bool)} {i j a o : Nat} (h : Sq n m) (hi : i < n) (hj : j < n) : ((matPut m i j).getD a []).getD o false = (decide (a = i ∧ o = j) || (m.getD a []).getD o false) := by
  unfold matPut
  rw [getD_setL (by rw [h.1]; exact hi)]
  by_cases e : a = i
  · subst e
    rw [if_pos rfl, getD_setL (by rw [h.2 a hi]; exact hj)]
    by_cases e2 : o = j
    · subst e2; rw [if_pos rfl, decide_eq_true ⟨rfl, rfl⟩]; rfl
    · rw [if_neg e2, decide_eq_false (fun z => e2 z.2)]; rfl
  · rw [if_neg e, decide_eq_false (fun z => e z.1)]; rfl
theorem sq_mat0 (shy : List Bool) : Sq shy.length (mat0 shy) := ⟨by unfold mat0; rw [List.length_map, List.length_range], fun k hk => by
  unfold mat0
  rw [getD_mapRange, if_pos hk, List.length_map, List.length_range]⟩
theorem mat_ok {shy : List Bool} {ties : List (Int × Int)} (T : TiesOk (shy.length : Int) ties) : ∀ i, Sq shy.length (matF shy ties i) ∧ ∀ a o, a < shy.length → o < shy.length → ((matF shy ties i).getD a []).getD o false = ((!shy.getD a false && decide (a = o)) || decide (((a : Int), (o : Int)) ∈ ties.take i ∨ ((o : Int), (a : Int)) ∈ ties.take i))
  | 0 => ⟨sq_mat0 shy, fun a o ha ho => by
    show ((mat0 shy).getD a []).getD o false = _
    unfold mat0
    rw [getD_mapRange, if_pos ha, getD_mapRange, if_pos ho, List.take_zero]
    have hno : decide (((a : Int), (o : Int)) ∈ ([] : List (Int × Int)) ∨ ((o : Int), (a : Int)) ∈ ([] : List (Int × Int))) = false := decide_eq_false (fun z => z.elim (List.not_mem_nil) (List.not_mem_nil))
    rw [hno, Bool.or_false]
    congr 1
    exact decide_eq_decide.mpr ⟨fun z => Int.ofNat.inj z, fun z => by rw [z]⟩⟩
  | i + 1 => by
    obtain ⟨h1, h2⟩ := mat_ok T i
    cases e : ties[i]? with
    | none =>
      have hl := List.getElem?_eq_none_iff.mp e
      have et : ties.take (i + 1) = ties.take i := by rw [List.take_of_length_le (by omega), List.take_of_length_le hl]
      unfold matF at h1 h2 ⊢
      rw [et]
      exact ⟨h1, h2⟩
    | some p =>
      obtain ⟨l1, l2, l3⟩ := T.lt p (List.mem_of_getElem? e)
      have et : ties.take (i + 1) = ties.take i ++ [p] := by rw [List.take_succ, e]; rfl
      have em : matF shy ties (i + 1) = matSet (matF shy ties i) p := by
        unfold matF
        rw [et, List.foldl_append]; rfl
      obtain ⟨x, hx⟩ : ∃ x : Nat, p.1 = (x : Int) := ⟨p.1.toNat, by omega⟩
      obtain ⟨y, hy⟩ : ∃ y : Nat, p.2 = (y : Int) := ⟨p.2.toNat, by omega⟩
      have hp : p = ((x : Int), (y : Int)) := by rw [← hx, ← hy]
      have xl : x < shy.length := by omega
      have yl : y < shy.length := by omega
      rw [em, et]
      unfold matSet
      rw [hx, hy, Int.toNat_natCast, Int.toNat_natCast]
      have s1 := sq_put (j := y) h1 xl
      refine ⟨sq_put s1 yl, fun a o ha ho => ?_⟩
      rw [put_at s1 yl xl, put_at h1 xl yl, h2 a o ha ho, Bool.eq_iff_iff]
      simp only [Bool.or_eq_true, decide_eq_true_eq, List.mem_append, List.mem_singleton, hp, Prod.mk.injEq, Int.ofNat_inj]
      constructor
      · rintro (⟨rfl, rfl⟩ | ⟨rfl, rfl⟩ | h | h)
        · exact .inr (.inr (.inr ⟨rfl, rfl⟩))
        · exact .inr (.inl (.inr ⟨rfl, rfl⟩))
        · exact .inl h
        · exact .inr (h.imp .inl .inl)
      · rintro (h | (h | h) | (h | h))
        · exact .inr (.inr (.inl h))
        · exact .inr (.inr (.inr (.inl h)))
        · exact .inr (.inl h)
        · exact .inr (.inr (.inr (.inr h)))
        · exact .inl ⟨h.2, h.1⟩
theorem pair_mem {n : Int} {ties : List (Int × Int)} (T : TiesOk n ties) {i j : Int} (h : i ≠ j) : pair i j ∈ ties ↔ ((i, j) ∈ ties ∨ (j, i) ∈ ties) := by
  constructor
  · intro q
    by_cases z : i < j
    · rw [(pair_lt (p := (i, j)) z).1] at q; exact .inl q
    · rw [(pair_lt (p := (j, i)) (by show j < i; omega)).2] at q; exact .inr q
  · rintro (q | q)
    · have := (T.lt _ q).2.1
      rw [(pair_lt (p := (i, j)) this).1]; exact q
    · have := (T.lt _ q).2.1
      rw [(pair_lt (p := (j, i)) this).2]; exact q
theorem mat_hit {shy : List Bool} {ties : List (Int × Int)} (T : TiesOk (shy.length : Int) ties) {a o : Nat} (ha : a < shy.length) (ho : o < shy.length) : ((matF shy ties ties.length).getD a []).getD o false = hit shy ties a o := by
  rw [(mat_ok T ties.length).2 a o ha ho, List.take_length]
  unfold hit
  by_cases e : o = a
  · subst e
    rw [if_pos rfl, decide_eq_true rfl, Bool.and_true, decide_eq_false, Bool.or_false]
    rintro (z | z) <;> exact absurd (T.lt _ z).2.1 (Int.lt_irrefl _)
  · rw [if_neg e, decide_eq_false (fun z => e z.symm), Bool.and_false, Bool.false_or]
    exact decide_eq_decide.mpr (pair_mem T (fun z => e (Int.ofNat.inj z).symm)).symm
def trnsNP (shy : List Bool) (ties : List (Int × Int)) : Pr := L ((List.range shy.length).map fun i => N (L ((trn shy ties i).map In)))
theorem imp_trns (shy : List Bool) (ties : List (Int × Int)) : Imp (N (trnsNP shy ties)) (trnsP shy ties) := fun h B v q => imp_L (imps_map (fun i => imp_N _) _) h B v q.1
theorem sb_trnsN (shy : List Bool) (ties : List (Int × Int)) : Sb (N (trnsNP shy ties)) := sb_NL (Sbs.map (fun _ => sb_NL (Sbs.map (fun _ => sb_I) _)) _)
section
variable {P : Program} {w : World} {K : PySem.W.Frag} {mg : Str → Option Value} {base : Heap} {CY cNY cNL cAl cTi cUn : Addr}
def c_lturns (ties : List (Int × Int)) (shy : List Bool) : Cn := ⟨[I (shy.length : Int), L (ties.map tP), L (shy.map Bo)], fun P D => P = N (trnsNP shy ties), [], fun _ _ => False⟩
def C_lturns : Cn → Prop := fun c => ∃ (ties : List (Int × Int)) (shy : List Bool), TiesOk (shy.length : Int) ties ∧ shy.length ≤ 24 ∧ c = c_lturns ties shy
theorem ok_lturns {f : Addr} {fd : FuncData} (F : Fu K "_law_turns" "_law_turns" s__law_turns f fd) (b : Bl mg) : FnOk P w K mg base (L2N.CX P w) 1 f fd ["many", "ties", "shy"] (spC C_lturns) := by
  refine fn_go F sc__law_turns (fun c ⟨ties, shy, h1, h2, e⟩ => by subst e; exact ⟨rfl, ⟨hi_I, hi_L (His.map (fun _ => hi_tP) _), hi_L (His.map (fun _ => hi_Bo) _), trivial⟩, trivial⟩) fun c ⟨ties, shy, TO, hn, e⟩ cdv A outer s H E hr => ?_
  subst e
  have hat : ∀ {i : Nat}, (i : Int) < (shy.length : Int) → atI (shy.map Bo) (i : Int) = some (Bo (shy.getD i false)) := fun {i} h => atI_map false ⟨by omega, h⟩
  refine go_rows 5 (fun z => (((mat0 shy).getD z []).map Bo)) 3 sc__law_turns.nd (ee_var 0 rfl) (by omega) (by omega) rfl b.range (blkOk_by (N := ["many", "ties", "shy", "one", "other", "found", "row"]) (sc := defScope s__law_turns) (by decide +kernel)) (fun _ _ _ _ _ => pg_name (i := 3) sc__law_turns.nd rfl (Or.inr rfl))
    (fun z hz Δ' s0 H0 C0 cl fp => en_cast (en_lcR (fun _ => true) (fun o => Bo (!shy.getD z false && decide ((z : Int) = (o : Int)))) 4 sc__law_turns.nd (ee_var 0 rfl) (by omega) (by omega) rfl b.range (blkOk_by (N := ["many", "ties", "shy", "one", "other", "found", "row"]) (by rfl)) (fun _ _ _ _ _ => pg_name (i := 4) sc__law_turns.nd rfl (Or.inl rfl)) (fun _ _ => rfl) (fun o ho _ => fun _ _ _ _ _ => ee_and (ee_not (ee_ix (es_L (ee_var 2 rfl)) (ee_var 3 rfl) (hat hz))) fun _ => ee_one (ee_cmp cmp_eq (ee_var 3 rfl) (ee_var 4 rfl)))) (by
      unfold mat0
      rw [filt_true, getD_mapRange, if_pos (by omega), List.map_map, Int.toNat_natCast]
      rfl)) fun l as hl hlm ham => ?_
  rw [Int.toNat_natCast] at hl ⊢
  have e0 : (List.range shy.length).map (fun k => ML (((mat0 shy).getD k []).map Bo)) = ((mat0 shy).map fun r => r.map Bo).map ML := by
    apply List.ext_getElem?
    intro k
    rw [List.getElem?_map, List.getElem?_map, List.getElem?_map]
    have hl0 := (sq_mat0 shy).1
    by_cases hk : k < shy.length
    · rw [List.getElem?_range hk, List.getElem?_eq_getElem (by omega : k < (mat0 shy).length), Option.map_some, Option.map_some, Option.map_some, List.getD_eq_getElem?_getD, List.getElem?_eq_getElem (by omega : k < (mat0 shy).length)]; rfl
    · rw [List.getElem?_eq_none (by rw [List.length_range]; omega), List.getElem?_eq_none (by omega)]; rfl
  rw [e0]
  let Γ0 : Gam := [some (I (shy.length : Int)), some (L (ties.map tP)), some (L (shy.map Bo)), none, none, some (Ref l), none]
  refine go_forL2 (R := I) (R' := I) (l := ties) 3 4 (fun _ => Γ0) (fun i => (l, ML (as.map Ref)) :: as.zip (((matF shy ties i).map fun r => r.map Bo).map ML)) (fun _ => True) (passes_of rfl) sc__law_turns.nd (ef_L (ee_var 1 rfl)) ⟨Wk.refl _, rfl, trivial⟩ (fun i p hp _ => ?_) (fun _ => ?_)
  · obtain ⟨l1, l2, l3⟩ := TO.lt p (List.mem_of_getElem? hp)
    have em : matF shy ties (i + 1) = matSet (matF shy ties i) p := by
      unfold matF
      rw [List.take_succ, hp, Option.toList_some, List.foldl_append]; rfl
    rw [em]
    obtain ⟨SQ, _⟩ := mat_ok TO i
    generalize matF shy ties i = m at SQ
    obtain ⟨x, hx⟩ : ∃ x : Nat, p.1 = (x : Int) := ⟨p.1.toNat, by omega⟩
    obtain ⟨y, hy⟩ : ∃ y : Nat, p.2 = (y : Int) := ⟨p.2.toNat, by omega⟩
    have xl : x < shy.length := by omega
    have yl : y < shy.length := by omega
    unfold matSet
    rw [hx, hy, Int.toNat_natCast, Int.toNat_natCast]
    have step : ∀ {m : List (List Bool)} {i j : Nat}, Sq shy.length m → i < shy.length → j < shy.length → ∃ a r, as[i]? = some a ∧ m[i]? = some r ∧ ((l, ML (as.map Ref)) :: as.zip ((m.map fun r => r.map Bo).map ML))[i + 1]? = some (a, ML (r.map Bo)) ∧ r.length = shy.length ∧ ((l, ML (as.map Ref)) :: as.zip ((m.map fun r => r.map Bo).map ML)).set (i + 1) (a, ML ((r.map Bo).set j (Bo true))) = (l, ML (as.map Ref)) :: as.zip (((matPut m i j).map fun r => r.map Bo).map ML) := fun {m i j} SQ hi hj => by
      have il : i < as.length := by rw [hl]; exact hi
      have im : i < m.length := by rw [SQ.1]; exact hi
      have ha : as[i]? = some as[i] := List.getElem?_eq_getElem (by omega)
      have hm : m[i]? = some m[i] := List.getElem?_eq_getElem im
      have hg : m.getD i [] = m[i] := by rw [List.getD_eq_getElem?_getD, hm]; rfl
      refine ⟨as[i], m[i], ha, hm, ?_, by rw [← hg]; exact SQ.2 i hi, ?_⟩
      · rw [List.getElem?_cons_succ, List.getElem?_zip_eq_some]
        exact ⟨ha, by rw [List.getElem?_map, List.getElem?_map, hm]; rfl⟩
      · rw [List.set_cons_succ, zip_set ha]
        unfold matPut
        rw [hg, List.map_set, List.map_set, List.map_set]
    obtain ⟨a, r, q1, q2, q3, q4, q5⟩ := step (j := y) SQ xl yl
    have atr : ∀ {k : Nat} {a : Addr}, as[k]? = some a → atI (as.map Ref) (k : Int) = some (Ref a) := fun h => atI_nat (by rw [List.getElem?_map, h]; rfl)
    refine go_ix (x + 1) ee_bl (ee_ix (es_M 0 (ee_var 5 rfl) rfl) (ee_var 3 rfl) (atr q1)) (ee_var 4 rfl) q3 (by rw [List.length_map, q4]; exact ixN_ok ⟨by omega, by omega⟩) ?_
    rw [Int.toNat_natCast, q5]
    obtain ⟨a', r', g1, g2, g3, g4, g5⟩ := step (j := x) (sq_put (j := y) SQ xl) yl xl
    refine go_ix (y + 1) ee_bl (ee_ix (es_M 0 (ee_var 5 rfl) rfl) (ee_var 4 rfl) (atr g1)) (ee_var 3 rfl) g3 (by rw [List.length_map, g4]; exact ixN_ok ⟨by omega, by omega⟩) ?_
    rw [Int.toNat_natCast, g5]
    exact go_nil ⟨⟨.inr rfl, .inr rfl, .inr rfl, .inl rfl, .inl rfl, .inr rfl, .inr rfl, trivial⟩, rfl, trivial⟩
  · obtain ⟨SQ, _⟩ := mat_ok TO ties.length
    have hhit := fun {a o : Nat} (ha : a < shy.length) (ho : o < shy.length) => mat_hit TO (a := a) (o := o) ha ho
    show Go _ _ Γ0 ((l, ML (as.map Ref)) :: as.zip (((matF shy ties ties.length).map fun r => r.map Bo).map ML)) _ _
    generalize matF shy ties ties.length = m at SQ hhit
    refine go_frzRows 5 (by rw [List.length_map, SQ.1]; exact hl) hlm ham rfl ?_
    rw [List.map_map]
    refine go_ret (ee_imp (ee_N (en_lc (R := fun r : List Bool => L (r.map Bo)) (l := m) (fun _ => true) (fun r => N (L (((List.range shy.length).filter (fun o => r.getD o false)).map In))) 6 sc__law_turns.nd (ef_L (ee_un (ee_var 5 rfl))) (by rw [SQ.1]; omega) (blkOk_by (N := ["many", "ties", "shy", "one", "other", "found", "row"]) (sc := defScope s__law_turns) (by decide +kernel)) (fun _ _ _ _ _ => pg_name (i := 6) sc__law_turns.nd rfl (Or.inr rfl)) (fun _ _ => rfl)
      (fun r hrm _ => fun s0 H0 C0 cl fp => ee_N (en_cast (en_lcR (fun o => r.getD o false) In 4 sc__law_turns.nd (ee_var 0 rfl) (by omega) (by omega) rfl b.range (blkOk_by (N := ["many", "ties", "shy", "one", "other", "found", "row"]) (by rfl)) (fun _ _ _ _ _ => pg_name (i := 4) sc__law_turns.nd rfl (Or.inl rfl)) (fun o ho => fun _ _ _ _ _ => et_val (ee_ix (es_L (ee_var 6 rfl)) (ee_var 4 rfl) (atI_map false ⟨by omega, by
          obtain ⟨k, hk, e⟩ := List.mem_iff_getElem.mp hrm
          have := SQ.2 k (by rw [← SQ.1]; exact hk)
          rw [List.getD_eq_getElem?_getD, List.getElem?_eq_getElem hk, e] at this
          have h2 : r.length = shy.length := this
          rw [h2]; exact ho⟩))) (fun o ho _ => fun _ _ _ _ _ => ee_var 4 rfl)) (by rw [Int.toNat_natCast]))))) (imp_NN ?_)) rfl
    rw [filt_true]
    have e : m.map (fun r => N (L (((List.range shy.length).filter (fun o => r.getD o false)).map In))) = (List.range shy.length).map (fun i => N (L ((trn shy ties i).map In))) := by
      apply List.ext_getElem?
      intro k
      rw [List.getElem?_map, List.getElem?_map]
      by_cases hk : k < shy.length
      · rw [List.getElem?_range hk, List.getElem?_eq_getElem (by rw [SQ.1]; exact hk)]
        have hg : m[k]'(by rw [SQ.1]; exact hk) = m.getD k [] := by rw [List.getD_eq_getElem?_getD, List.getElem?_eq_getElem (by rw [SQ.1]; exact hk)]; rfl
        show some (N (L _)) = some (N (L _))
        unfold trn
        rw [hg]
        congr 4
        exact List.filter_congr fun o ho => hhit hk (List.mem_range.mp ho)
      · rw [List.getElem?_eq_none (by rw [SQ.1]; omega : m.length ≤ k), List.getElem?_eq_none (by rw [List.length_range]; omega : (List.range shy.length).length ≤ k)]; rfl
    unfold trnsNP
    rw [← e]
    exact Imp.refl _
end
theorem map_In (xs : List Nat) : xs.map In = (xs.map fun (k : Nat) => (k : Int)).map I := by rw [List.map_map]; rfl
theorem map_natI {xs ys : List Nat} : (xs.map fun (k : Nat) => (k : Int)) = ys.map (fun (k : Nat) => (k : Int)) ↔ xs = ys := ⟨fun h => by
  induction xs generalizing ys with
  | nil => cases ys with
    | nil => rfl
    | cons y ys => cases h
  | cons x xs ih => cases ys with
    | nil => cases h
    | cons y ys =>
      rw [List.map_cons, List.map_cons] at h
      injection h with h1 h2
      rw [Int.ofNat.inj h1, ih h2], fun h => by rw [h]⟩
theorem trn_len (hs : List Bool) (ks : List (Int × Int)) (i : Nat) : (trn hs ks i).length ≤ hs.length := Nat.le_trans (List.length_filter_le _ _) (by rw [List.length_range]; exact Nat.le_refl _)
theorem trn_congr (hs : List Bool) {ks ks' : List (Int × Int)} (h : ∀ p, p ∈ ks ↔ p ∈ ks') (i : Nat) : trn hs ks i = trn hs ks' i := by
  unfold trn
  refine List.filter_congr fun o _ => ?_
  unfold hit
  split
  · rfl
  · exact decide_eq_decide.mpr (h _)
theorem atI_trns {shy : List Bool} {ties : List (Int × Int)} {i : Nat} (h : i < shy.length) : atI ((List.range shy.length).map fun i => L ((trn shy ties i).map In)) (i : Int) = some (L ((trn shy ties i).map In)) := atI_nat (by rw [List.getElem?_map, List.getElem?_range h]; rfl)
theorem sc_In {k : Nat} : Sc (In k) := sc_I
section
variable {X : Cx} {ms : List Addr} {Γ : Gam} {Δ : Del} {K : Kk} {rest : List Stmt} {a e e2 : Expr} {q pos : Pos} {sc : List Int} {j : Nat} {x y : Int}
theorem ee_cell (k : Nat) (M : Fnc X.prog X.w X.K X.mg X.base "_law_cell_at" (C_cell X.K) 1) (hr : Room j X.A) (hk : 1 ≤ j) (ha : EE X Γ Δ a (Scr X.K sc)) (he : EE X Γ Δ e (I (k : Int))) (hg : Gl X "_law_cell_at" := by rfl)
    (hs : starEach [e] X.env = (false, eval e X.env) :: starEach [] X.env := by rfl) (he2 : starEach [a, e] X.env = (false, eval a X.env) :: starEach [e] X.env := by rfl) (hpl : (backTo pos (starEach [e] X.env)).any (·.1) = false := by rfl) :
    EE X Γ Δ (.Call (.Name "_law_cell_at" q) [a, e] [] pos) (I (cellAt sc k)) :=
  ee_call (P := I (cellAt sc k)) (cj_fn0 M hr hk hg (ea_cons ha (ea_cons he ea_nil hs) he2) (by decide) he2 hpl) _ ⟨sc, k, rfl⟩ (ho := fun _ _ q => q)
theorem ee_mixC (M : Fnc X.prog X.w X.K X.mg X.base "_law_mix" C_mix 1) (hr : Room j X.A) (hk : 1 ≤ j) (ha : EE X Γ Δ a (I x)) (he : EE X Γ Δ e (I y)) (hg : Gl X "_law_mix" := by rfl)
    (hs : starEach [e] X.env = (false, eval e X.env) :: starEach [] X.env := by rfl) (he2 : starEach [a, e] X.env = (false, eval a X.env) :: starEach [e] X.env := by rfl) (hpl : (backTo pos (starEach [e] X.env)).any (·.1) = false := by rfl) :
    EE X Γ Δ (.Call (.Name "_law_mix" q) [a, e] [] pos) (I (mix x y)) :=
  ee_call (P := I (mix x y)) (cj_fn0 M hr hk hg (ea_cons ha (ea_cons he ea_nil hs) he2) (by decide) he2 hpl) _ ⟨x, y, rfl⟩ (ho := fun _ _ q => q)
end
theorem map_get {α β : Type} {R : α → β} {l : List α} {i : Nat} {P : β} (h : (l.map R)[i]? = some P) : ∃ z, l[i]? = some z ∧ P = R z := by
  rw [List.getElem?_map] at h
  cases e : l[i]? with
  | none => rw [e] at h; cases h
  | some z => rw [e] at h; exact ⟨z, rfl, (Option.some.inj h).symm⟩
theorem hi_In {k : Nat} : Hi (In k) := hi_I
theorem hi_bools (l : List Bool) : Hi (L (l.map Bo)) := hi_L (His.map (fun _ => hi_Bo) _)
theorem hi_nats (l : List Nat) : Hi (L (l.map In)) := hi_L (His.map (fun _ => hi_In) _)
theorem hi_ints (l : List Int) : Hi (L (l.map I)) := hi_L (His.map (fun _ => hi_I) _)
theorem hi_tPs (l : List (Int × Int)) : Hi (L (l.map tP)) := hi_L (His.map (fun _ => hi_tP) _)
theorem hi_YV {CY : Addr} {hs : List Bool} {ks : List (Int × Int)} : Hi (YV CY hs ks) := hi_Iv ⟨hi_I, hi_DTv, hi_bools _, trivial⟩
theorem hi_rows (l : List (List Nat)) : Hi (L (l.map fun r => L (r.map In))) := hi_L (His.map (fun _ => hi_nats _) _)
theorem hi_trnsP {hs : List Bool} {ks : List (Int × Int)} : Hi (trnsP hs ks) := hi_L (His.map (fun _ => hi_nats _) _)
theorem natP {x n : Nat} (h : x < n) : okL (n : Int) (x : Int) := ⟨by omega, by omega⟩
theorem rep_cast {n : Nat} {b : Bool} {m : Int} (h : m.toNat = n) : ((List.range m.toNat).filter fun _ => true).map (fun _ => Bo b) = (List.replicate n b).map Bo := by
  rw [filt_true, h, List.map_replicate]
  exact (List.map_const' ..).trans (by rw [List.length_range])
section
variable {X : Cx} {ms : List Addr} {Γ : Gam} {Δ : Del} {a b e : Expr} {pos : Pos} {j : Nat}
theorem dat_bools {K : PySem.W.Frag} (l : List Bool) : Dat K (L (l.map Bo)) (.list (l.map .bool)) := dat_L (dats_map (fun _ => dat_Bo) l)
theorem dat_nats {K : PySem.W.Frag} (l : List Nat) : Dat K (L (l.map In)) (.list ((l.map fun (k : Nat) => (k : Int)).map .int)) := by
  rw [map_In]
  exact dat_L (dats_map (fun _ => dat_I) _)
theorem et_neBs {xs ys : List Bool} (hr : Room j X.A) (ha : EE X Γ Δ a (L (xs.map Bo))) (hb : EE X Γ Δ b (L (ys.map Bo))) (hm : behindInMarks .NotEq b = false := by first | exact nomark _ | rfl) : ET X Γ Δ (.Compare a [.NotEq] [b] pos) (!decide (xs = ys)) :=
  et_neD (hu64 hr) (edt ha (dat_bools xs)) (edt hb (dat_bools ys)) (shaped_bools _) (shaped_bools _) (eqv_bools xs ys) hm
theorem et_eqBs {xs ys : List Bool} (hr : Room j X.A) (ha : EE X Γ Δ a (L (xs.map Bo))) (hb : EE X Γ Δ b (L (ys.map Bo))) (hm : behindInMarks .Eq b = false := by first | exact nomark _ | rfl) : ET X Γ Δ (.Compare a [.Eq] [b] pos) (decide (xs = ys)) :=
  et_eqD (hu64 hr) (edt ha (dat_bools xs)) (edt hb (dat_bools ys)) (shaped_bools _) (shaped_bools _) (eqv_bools xs ys) hm
theorem ee_eqBs {xs ys : List Bool} (hr : Room j X.A) (ha : EE X Γ Δ a (L (xs.map Bo))) (hb : EE X Γ Δ b (L (ys.map Bo))) (hm : behindInMarks .Eq b = false := by first | exact nomark _ | rfl) : EE X Γ Δ (.Compare a [.Eq] [b] pos) (Bo (decide (xs = ys))) :=
  ee_eqD (hu64 hr) (edt ha (dat_bools xs)) (edt hb (dat_bools ys)) (shaped_bools _) (shaped_bools _) (eqv_bools xs ys) hm
theorem eqv_natsL (xs ys : List Nat) : PyData.eqv (.list ((xs.map fun (k : Nat) => (k : Int)).map .int)) (.list ((ys.map fun (k : Nat) => (k : Int)).map .int)) = decide (xs = ys) := by
  rw [eqv_ints, decide_eq_decide.mpr (map_natI (xs := xs) (ys := ys))]
theorem et_neNs {xs ys : List Nat} (hr : Room j X.A) (ha : EE X Γ Δ a (L (xs.map In))) (hb : EE X Γ Δ b (L (ys.map In))) (hm : behindInMarks .NotEq b = false := by first | exact nomark _ | rfl) : ET X Γ Δ (.Compare a [.NotEq] [b] pos) (!decide (xs = ys)) :=
  et_neD (hu64 hr) (edt ha (dat_nats xs)) (edt hb (dat_nats ys)) (shaped_ints _) (shaped_ints _) (eqv_natsL xs ys) hm
theorem ee_nats {xs : List Nat} (h : EE X Γ Δ a (L (xs.map In))) : EE X Γ Δ a (L ((xs.map fun (k : Nat) => (k : Int)).map I)) := ee_cast h (by rw [map_In])
end
theorem toNat_nats (xs : List Nat) : (xs.map fun (k : Nat) => (k : Int)).map Int.toNat = xs := by
  rw [List.map_map]
  exact (List.map_congr_left (g := id) fun x _ => Int.toNat_natCast x).trans (List.map_id xs)
/-! lights and presses, plainly -/
def xr (bs : List Bool) : Bool := bs.foldr (fun a b => a ^^ b) false
theorem xr_app (a b : List Bool) : xr (a ++ b) = (xr a ^^ xr b) := by
  induction a with
  | nil => show xr b = (false ^^ xr b); rw [Bool.false_xor]
  | cons x a ih => show (x ^^ xr (a ++ b)) = ((x ^^ xr a) ^^ xr b); rw [ih, Bool.xor_assoc]
theorem xr_perm {a b : List Bool} (h : a.Perm b) : xr a = xr b := by
  induction h with
  | nil => rfl
  | @cons x l1 l2 _ ih => show (x ^^ xr l1) = (x ^^ xr l2); rw [ih]
  | swap x y l => show (y ^^ (x ^^ xr l)) = (x ^^ (y ^^ xr l)); rw [← Bool.xor_assoc, ← Bool.xor_assoc, Bool.xor_comm y x]
  | trans _ _ h1 h2 => exact h1.trans h2
theorem xr_false {α : Type} {f : α → Bool} : ∀ {l : List α}, (∀ x ∈ l, f x = false) → xr (l.map f) = false
  | [], _ => rfl
  | x :: l, h => by
    show (f x ^^ xr (l.map f)) = false
    rw [h x List.mem_cons_self, xr_false fun y hy => h y (List.mem_cons_of_mem _ hy)]; rfl
/-- one of a list without doubles -/
theorem xr_one {l : List Nat} (nd : l.Nodup) (o : Nat) : xr (l.map fun x => decide (x = o)) = decide (o ∈ l) := by
  induction l with
  | nil => exact (decide_eq_false List.not_mem_nil).symm
  | cons x l ih =>
    obtain ⟨h1, h2⟩ := List.nodup_cons.mp nd
    show (decide (x = o) ^^ xr (l.map fun x => decide (x = o))) = _
    rw [ih h2]
    by_cases e : x = o
    · subst e
      rw [decide_eq_true rfl, decide_eq_false h1, decide_eq_true List.mem_cons_self]; rfl
    · rw [decide_eq_false e, Bool.false_xor]
      exact decide_eq_decide.mpr ⟨List.mem_cons_of_mem _, fun z => (List.mem_cons.mp z).elim (fun z => absurd z.symm e) id⟩
def flp (l : List Bool) (x : Nat) : List Bool := l.set x (!l.getD x false)
def tur (lt : List Bool) (xs : List Nat) : List Bool := xs.foldl flp lt
theorem flp_len {l : List Bool} {x : Nat} : (flp l x).length = l.length := List.length_set
theorem tur_len {lt : List Bool} {xs : List Nat} : (tur lt xs).length = lt.length := by
  unfold tur
  induction xs generalizing lt with
  | nil => rfl
  | cons x xs ih => rw [List.foldl_cons, ih, flp_len]
theorem flp_get {l : List Bool} {x o : Nat} (h : x < l.length) : (flp l x).getD o false = (l.getD o false ^^ decide (x = o)) := by
  unfold flp
  rw [List.getD_eq_getElem?_getD, List.getD_eq_getElem?_getD]
  by_cases e : x = o
  · subst e
    rw [List.getElem?_set_self h, decide_eq_true rfl, List.getD_eq_getElem?_getD]
    show (!_) = _
    cases l[x]?.getD false <;> rfl
  · rw [List.getElem?_set_ne e, decide_eq_false e, Bool.xor_false, List.getD_eq_getElem?_getD]
theorem tur_get {lt : List Bool} {xs : List Nat} {o : Nat} (h : ∀ x ∈ xs, x < lt.length) : (tur lt xs).getD o false = (lt.getD o false ^^ xr (xs.map fun x => decide (x = o))) := by
  unfold tur
  induction xs generalizing lt with
  | nil => exact (Bool.xor_false _).symm
  | cons x xs ih =>
    rw [List.foldl_cons, ih (fun y hy => by rw [flp_len]; exact h y (List.mem_cons_of_mem _ hy)), flp_get (h x List.mem_cons_self)]
    show ((_ ^^ _) ^^ _) = (_ ^^ (_ ^^ _))
    rw [Bool.xor_assoc]
    rfl
theorem tur_take {lt : List Bool} {xs : List Nat} {i x : Nat} (h : xs[i]? = some x) : tur lt (xs.take (i + 1)) = flp (tur lt (xs.take i)) x := by
  unfold tur
  rw [List.take_succ, h, List.foldl_append]; rfl
/-- pressing -/
def prs (hs : List Bool) (ks : List (Int × Int)) (lt : List Bool) (ps : List Nat) : List Bool := ps.foldl (fun l p => tur l (trn hs ks p)) lt
theorem prs_take {hs : List Bool} {ks : List (Int × Int)} {lt : List Bool} {xs : List Nat} {i x : Nat} (h : xs[i]? = some x) : prs hs ks lt (xs.take (i + 1)) = tur (prs hs ks lt (xs.take i)) (trn hs ks x) := by
  unfold prs
  rw [List.take_succ, h, List.foldl_append]; rfl
theorem prs_len {hs : List Bool} {ks : List (Int × Int)} {lt : List Bool} {ps : List Nat} : (prs hs ks lt ps).length = lt.length := by
  unfold prs
  induction ps generalizing lt with
  | nil => rfl
  | cons x xs ih => rw [List.foldl_cons, ih, tur_len]
theorem trn_mem {hs : List Bool} {ks : List (Int × Int)} {p o : Nat} : o ∈ trn hs ks p ↔ o < hs.length ∧ hit hs ks p o = true := by
  unfold trn
  rw [List.mem_filter, List.mem_range]
theorem trn_nd (hs : List Bool) (ks : List (Int × Int)) (p : Nat) : (trn hs ks p).Nodup := (List.nodup_range).filter _
theorem prs_get {hs : List Bool} {ks : List (Int × Int)} {lt : List Bool} {ps : List Nat} {o : Nat} (hl : lt.length = hs.length) (ho : o < hs.length) : (prs hs ks lt ps).getD o false = (lt.getD o false ^^ xr (ps.map fun p => hit hs ks p o)) := by
  unfold prs
  induction ps generalizing lt with
  | nil => exact (Bool.xor_false _).symm
  | cons x xs ih =>
    rw [List.foldl_cons, ih (by rw [tur_len]; exact hl), tur_get (fun y hy => by rw [hl]; exact (trn_mem.mp hy).1), xr_one (trn_nd hs ks x)]
    have e : decide (o ∈ trn hs ks x) = hit hs ks x o := by
      rw [Bool.eq_iff_iff, decide_eq_true_eq, trn_mem]
      exact ⟨fun z => z.2, fun z => ⟨ho, z⟩⟩
    rw [e, Bool.xor_assoc]
    rfl
theorem light_ext {a b : List Bool} (hl : a.length = b.length) (h : ∀ o, o < a.length → a.getD o false = b.getD o false) : a = b := by
  apply List.ext_getElem hl
  intro o h1 h2
  have := h o h1
  rw [List.getD_eq_getElem?_getD, List.getD_eq_getElem?_getD, List.getElem?_eq_getElem h1, List.getElem?_eq_getElem h2] at this
  exact this
theorem prs_perm {hs : List Bool} {ks : List (Int × Int)} {lt : List Bool} {ps qs : List Nat} (hl : lt.length = hs.length) (h : ps.Perm qs) : prs hs ks lt ps = prs hs ks lt qs := by
  refine light_ext (by rw [prs_len, prs_len]) fun o ho => ?_
  rw [prs_len, hl] at ho
  rw [prs_get hl ho, prs_get hl ho, xr_perm (h.map _)]
theorem prs_app {hs : List Bool} {ks : List (Int × Int)} {lt : List Bool} {ps qs : List Nat} : prs hs ks (prs hs ks lt ps) qs = prs hs ks lt (ps ++ qs) := (List.foldl_append ..).symm
theorem prs_back {hs : List Bool} {ks : List (Int × Int)} {lt : List Bool} {ps qs : List Nat} (hl : lt.length = hs.length) (h : ps.Perm qs) : prs hs ks (prs hs ks lt ps) qs = lt := by
  refine light_ext (by rw [prs_len, prs_len]) fun o ho => ?_
  rw [prs_len, prs_len, hl] at ho
  rw [prs_get (by rw [prs_len]; exact hl) ho, prs_get hl ho, xr_perm (h.map _), Bool.xor_assoc, Bool.xor_self, Bool.xor_false]
section
variable {P : Program} {w : World} {K : PySem.W.Frag} {mg : Str → Option Value} {base : Heap} {CY cNY cNL cAl cTi cUn : Addr}
def c_lpressed (hs : List Bool) (ks : List (Int × Int)) (lt : List Bool) (ps : List Nat) : Cn := ⟨[L (lt.map Bo), trnsP hs ks, L (ps.map In)], fun P _ => P = N (L ((prs hs ks lt ps).map Bo)), [], fun _ _ => False⟩
def C_lpressed : Cn → Prop := fun c => ∃ (hs : List Bool) (ks : List (Int × Int)) (lt : List Bool) (ps : List Nat), lt.length = hs.length ∧ (∀ p ∈ ps, p < hs.length) ∧ c = c_lpressed hs ks lt ps
theorem ok_lpressed {f : Addr} {fd : FuncData} (F : Fu K "_law_pressed" "_law_pressed" s__law_pressed f fd) (b : Bl mg) : FnOk P w K mg base (L2N.CX P w) 1 f fd ["light", "turns", "presses"] (spC C_lpressed) := by
  refine fn_go F sc__law_pressed (fun c ⟨hs, ks, lt, ps, h1, h2, e⟩ => by subst e; exact ⟨rfl, ⟨hi_bools _, hi_trnsP, hi_nats _, trivial⟩, trivial⟩) fun c ⟨hs, ks, lt, ps, hl, hp, e⟩ cdv A outer s H E hr => ?_
  subst e
  refine go_setM (Kx := fun _ _ => False) 0 (em_N (en_list (es_L (ee_var 0 rfl)) rfl b.list)) sc__law_pressed.nd (fun _ _ q => q) fun P' Δ' ⟨o, hm, e1, e2⟩ => ?_
  subst e1 e2
  refine go_forL (ps := ps.map In) 3 (fun _ => [some (Ref o), some (trnsP hs ks), some (L (ps.map In)), none, none]) (fun i => [(o, ML ((prs hs ks lt (ps.take i)).map Bo))]) (fun _ => True) (passes_of rfl) sc__law_pressed.nd (ef_L (ee_var 2 rfl)) ⟨Wk.refl _, rfl, trivial⟩ (fun i P hP _ => ?_) (fun _ => ?_)
  · obtain ⟨p, hp1, rfl⟩ := map_get hP
    have hpl := hp p (List.mem_of_getElem? hp1)
    have hlt : (prs hs ks lt (ps.take i)).length = hs.length := by rw [prs_len, hl]
    rw [prs_take hp1]
    generalize prs hs ks lt (ps.take i) = m at hlt
    refine go_forL (ps := (trn hs ks p).map In) 4 (fun _ => [some (Ref o), some (trnsP hs ks), some (L (ps.map In)), none, none]) (fun j => [(o, ML ((tur m ((trn hs ks p).take j)).map Bo))]) (fun _ => True) (passes_of rfl) sc__law_pressed.nd (ef_L (ee_ix (es_L (ee_var 1 rfl)) (ee_var 3 rfl) (atI_trns hpl))) ⟨⟨.inr rfl, .inr rfl, .inr rfl, .inl rfl, .inl rfl, trivial⟩, rfl, trivial⟩ (fun j P hP _ => ?_) (fun _ => ?_)
    · obtain ⟨x, hx1, rfl⟩ := map_get hP
      have hxl := (trn_mem.mp (List.mem_of_getElem? hx1)).1
      have hok : okL ((tur m ((trn hs ks p).take j)).length : Int) (x : Int) := by rw [tur_len, hlt]; exact natP hxl
      refine go_ix 0 (ee_not (ee_ix (es_M 0 (ee_var 0 rfl) rfl) (ee_var 4 rfl) (atI_map false hok))) (ee_var 0 rfl) (ee_var 4 rfl) rfl (by rw [List.length_map]; exact ixN_ok hok) (go_nil ⟨⟨.inr rfl, .inr rfl, .inr rfl, .inl rfl, .inl rfl, trivial⟩, ?_, trivial⟩)
      rw [tur_take hx1]
      unfold flp
      rw [List.map_set]; rfl
    · rw [List.length_map, List.take_length]
      exact go_nil ⟨⟨.inr rfl, .inr rfl, .inr rfl, .inl rfl, .inl rfl, trivial⟩, rfl, trivial⟩
  · rw [List.length_map, List.take_length]
    exact go_frz 0 0 rfl hm rfl (go_ret (ee_var 0 rfl) rfl)
end
/-! equations, cleared -/
abbrev Eqn := Lm.Eqn
def eqP (e : Lm.Eqn) : Pr := T [L (e.1.map Bo), Bo e.2.1, L (e.2.2.map Bo)]
theorem hi_eqP {e : Lm.Eqn} : Hi (eqP e) := hi_T ⟨hi_bools _, hi_Bo, hi_bools _, trivial⟩
theorem hi_eqPs (l : List Lm.Eqn) : Hi (L (l.map eqP)) := hi_L (His.map (fun _ => hi_eqP) _)
theorem imp_eqP (e : Lm.Eqn) : Imp (N (T [N (L (e.1.map Bo)), Bo e.2.1, N (L (e.2.2.map Bo))])) (eqP e) := fun h B v q => imp_T (ps := [N (L (e.1.map Bo)), Bo e.2.1, N (L (e.2.2.map Bo))]) (qs := [L (e.1.map Bo), Bo e.2.1, L (e.2.2.map Bo)]) ⟨imp_N _, Imp.refl _, imp_N _, trivial⟩ h B v q.1
def optP : Option Nat → Pr
  | some k => In k
  | none => No
theorem sb_optP : ∀ o : Option Nat, Sb (optP o)
  | some _ => sb_I
  | none => sb_No
theorem ldr_first {rows : List Lm.Eqn} {d c k : Nat} (h1 : d ≤ k) (h2 : k < rows.length) (h3 : Lm.cel rows k c = true) (h4 : ∀ j, d ≤ j → j < k → Lm.cel rows j c = false) : Lm.ldr rows d c = some k := by
  cases e : Lm.ldr rows d c with
  | none => have := Lm.ldr_none e k h1 h2; rw [h3] at this; cases this
  | some j =>
    obtain ⟨g1, g2, g3⟩ := Lm.ldr_some e
    congr 1
    rcases Nat.lt_trichotomy j k with z | z | z
    · have := h4 j g1 z; rw [g3] at this; cases this
    · exact z
    · -- j is the first
      unfold Lm.ldr at e
      obtain ⟨t, ht⟩ : ∃ t, (List.range rows.length).filter (fun k => decide (d ≤ k) && Lm.cel rows k c) = j :: t := by
        cases q : (List.range rows.length).filter (fun k => decide (d ≤ k) && Lm.cel rows k c) with
        | nil => rw [q] at e; cases e
        | cons x t => rw [q] at e; exact ⟨t, by rw [show x = j from Option.some.inj e]⟩
      have pw : ((List.range rows.length).filter (fun k => decide (d ≤ k) && Lm.cel rows k c)).Pairwise (· < ·) := List.pairwise_lt_range.filter _
      have hk : k ∈ (List.range rows.length).filter (fun k => decide (d ≤ k) && Lm.cel rows k c) := List.mem_filter.mpr ⟨List.mem_range.mpr h2, by rw [h3, decide_eq_true h1]; rfl⟩
      rw [ht] at pw hk
      rcases List.mem_cons.mp hk with y | y
      · exact y.symm
      · have := (List.pairwise_cons.mp pw).1 k y
        omega
theorem ldr_nil {rows : List Lm.Eqn} {d c : Nat} (h : ∀ j, d ≤ j → j < rows.length → Lm.cel rows j c = false) : Lm.ldr rows d c = none := by
  cases e : Lm.ldr rows d c with
  | none => rfl
  | some j =>
    obtain ⟨g1, g2, g3⟩ := Lm.ldr_some e
    have := h j g1 g2; rw [g3] at this; cases this
section
variable {P : Program} {w : World} {K : PySem.W.Frag} {mg : Str → Option Value} {base : Heap} {CY cNY cNL cAl cTi cUn : Addr}
def c_mixed (xs ys : List Bool) : Cn := ⟨[L (xs.map Bo), L (ys.map Bo)], fun P _ => P = N (L ((Lm.mx xs ys).map Bo)), [], fun _ _ => False⟩
def C_mixed : Cn → Prop := fun c => ∃ xs ys : List Bool, xs.length = ys.length ∧ xs.length ≤ 24 ∧ c = c_mixed xs ys
theorem ne_xor (a b : Bool) : (!decide (a = b)) = (a ^^ b) := by cases a <;> cases b <;> rfl
theorem ok_mixed {f : Addr} {fd : FuncData} (F : Fu K "mixed" "mixed" s_mixed f fd) (b : Bl mg) : FnOk P w K mg base (L2N.CX P w) 1 f fd ["one", "other"] (spC C_mixed) := by
  refine fn_go F sc_mixed (fun c ⟨xs, ys, h1, h2, e⟩ => by subst e; exact ⟨rfl, ⟨hi_bools _, hi_bools _, trivial⟩, trivial⟩) fun c ⟨xs, ys, h1, h2, e⟩ cdv A outer s H E hr => ?_
  subst e
  have e0 : ((List.range ((xs.map Bo).length : Int).toNat).filter fun _ => true).map (fun (k : Nat) => Bo (!decide (xs.getD k false = ys.getD k false))) = (Lm.mx xs ys).map Bo := by
    unfold Lm.mx
    rw [filt_true, Int.toNat_natCast, List.length_map, List.map_map]
    exact List.map_congr_left fun k _ => by rw [ne_xor]; rfl
  refine go_ret (ee_N (en_cast (en_lcR (fun _ => true) (fun (k : Nat) => Bo (!decide (xs.getD k false = ys.getD k false))) 2 sc_mixed.nd (ee_len (es_L (ee_var 0 rfl)) rfl b.len) (by rw [List.length_map]; omega) (by omega) rfl b.range (blkOk_by (N := ["one", "other", "k"]) (sc := defScope s_mixed) (by decide +kernel)) (fun _ _ _ _ _ => pg_name (i := 2) sc_mixed.nd rfl (Or.inl rfl)) (fun _ _ => rfl) (fun z hz _ => fun _ _ _ _ _ => ee_cmp cmp_neB (ee_ix (es_L (ee_var 0 rfl)) (ee_var 2 rfl) (atI_map false ⟨by omega, by rw [List.length_map] at hz; exact hz⟩)) (ee_ix (es_L (ee_var 1 rfl)) (ee_var 2 rfl) (atI_map false ⟨by omega, by rw [List.length_map, h1] at hz; exact hz⟩)))) e0)) rfl
def c_picked (row : List Bool) : Cn := ⟨[L (row.map Bo)], fun P _ => P = N (L ((Lm.pck row).map In)), [], fun _ _ => False⟩
def C_picked : Cn → Prop := fun c => ∃ row : List Bool, row.length ≤ 24 ∧ c = c_picked row
def c_together (a b : Lm.Eqn) : Cn := ⟨[eqP a, eqP b], fun P _ => P = N (T [N (L ((Lm.tgt a b).1.map Bo)), Bo (Lm.tgt a b).2.1, N (L ((Lm.tgt a b).2.2.map Bo))]), [], fun _ _ => False⟩
def C_together : Cn → Prop := fun c => ∃ (n : Nat) (a b : Lm.Eqn), Lm.okE n a ∧ Lm.okE n b ∧ n ≤ 24 ∧ c = c_together a b
theorem ok_together {f : Addr} {fd : FuncData} (F : Fu K "together" "together" s_together f fd) (Mm : Fnc P w K mg base "mixed" C_mixed 1) : FnOk P w K mg base (L2N.CX P w) 2 f fd ["one", "other"] (spC C_together) := by
  refine fn_go F sc_together (fun c ⟨n, x, y, h1, h2, h3, e⟩ => by subst e; exact ⟨rfl, ⟨hi_eqP, hi_eqP, trivial⟩, trivial⟩) fun c ⟨n, x, y, h1, h2, h3, e⟩ cdv A outer s H E hr => ?_
  subst e
  refine go_ret (ee_tup (ea_cons (ee_call (P := N (L ((Lm.mx x.1 y.1).map Bo))) (cj_fn0 Mm hr (by decide) rfl (ea_cons (ee_ixT (ee_var 0 rfl) ee_int (P := L (x.1.map Bo)) rfl) (ea_cons (ee_ixT (ee_var 1 rfl) ee_int (P := L (y.1.map Bo)) rfl) ea_nil))) _ ⟨x.1, y.1, by rw [h1.1, h2.1], by rw [h1.1]; exact h3, rfl⟩ (ho := fun _ _ q => q)) (ea_cons (ee_cast (P' := Bo (x.2.1 ^^ y.2.1)) (ee_cmp cmp_neB (ee_ixT (ee_var 0 rfl) ee_int (P := Bo x.2.1) rfl) (ee_ixT (ee_var 1 rfl) ee_int (P := Bo y.2.1) rfl)) (by rw [ne_xor])) (ea_cons (ee_call (P := N (L ((Lm.mx x.2.2 y.2.2).map Bo))) (cj_fn0 Mm hr (by decide) rfl (ea_cons (ee_ixT (ee_var 0 rfl) ee_int (P := L (x.2.2.map Bo)) rfl) (ea_cons (ee_ixT (ee_var 1 rfl) ee_int (P := L (y.2.2.map Bo)) rfl) ea_nil))) _ ⟨x.2.2, y.2.2, by rw [h1.2, h2.2], by rw [h1.2]; exact h3, rfl⟩ (ho := fun _ _ q => q)) ea_nil)))) rfl
def c_leader (rows : List Lm.Eqn) (d c : Nat) : Cn := ⟨[L (rows.map eqP), In d, In c], fun P _ => P = optP (Lm.ldr rows d c), [], fun _ _ => False⟩
def C_leader : Cn → Prop := fun x => ∃ (n : Nat) (rows : List Lm.Eqn) (d c : Nat), Lm.okR n rows ∧ n ≤ 24 ∧ d ≤ n ∧ c < n ∧ x = c_leader rows d c
theorem at_row {n : Nat} {rows : List Lm.Eqn} (ok : Lm.okR n rows) {k : Nat} (hk : k < n) : atI (rows.map eqP) (k : Int) = some (eqP (rows.getD k Lm.e0)) := atI_map Lm.e0 (by rw [ok.1]; exact natP hk)
theorem at_cell {n : Nat} {rows : List Lm.Eqn} (ok : Lm.okR n rows) {k c : Nat} (hk : k < n) (hc : c < n) : atI ((rows.getD k Lm.e0).1.map Bo) (c : Int) = some (Bo (Lm.cel rows k c)) := atI_map false (by rw [(ok.2 k hk).1]; exact natP hc)
theorem ok_leader {f : Addr} {fd : FuncData} (F : Fu K "leader" "leader" s_leader f fd) (b : Bl mg) : FnOk P w K mg base (L2N.CX P w) 1 f fd ["rows", "done", "column"] (spC C_leader) := by
  refine fn_go F sc_leader (fun x ⟨n, rows, d, c, h1, h2, h3, h4, e⟩ => by subst e; exact ⟨rfl, ⟨hi_eqPs _, hi_I, hi_I, trivial⟩, trivial⟩) fun x ⟨n, rows, d, c, ok, h2, h3, h4, e⟩ cdv A outer s H E hr => ?_
  subst e
  have hl : ((rows.map eqP).length : Int) = (n : Int) := by rw [List.length_map, ok.1]
  refine go_forR2 3 (fun _ => [some (L (rows.map eqP)), some (In d), some (In c), none]) (fun _ => []) (fun i => ∀ j, d ≤ j → j < d + i → Lm.cel rows j c = false) (passes_of rfl) sc_leader.nd (ee_var 1 rfl) (ee_cast (ee_len (es_L (ee_var 0 rfl)) rfl b.len) (P' := I (n : Int)) (by rw [hl])) (by omega) ⟨Wk.refl _, rfl, fun j a z => absurd z (by omega)⟩ rfl b.range (fun i hi hp => ?_) (fun hp => ?_)
  · have hk : d + i < n := by omega
    have ex : (d : Int) + (i : Int) = ((d + i : Nat) : Int) := by omega
    rw [ex]
    refine go_if (et_val (ee_ix (es_L (ee_ixT (ee_ix (es_L (ee_var 0 rfl)) (ee_var 3 rfl) (at_row ok hk)) ee_int (P := L ((rows.getD (d + i) Lm.e0).1.map Bo)) rfl)) (ee_var 2 rfl) (at_cell ok hk h4))) (fun h => ?_) (fun h => ?_)
    · refine go_ret (ee_var 3 rfl) ?_
      show I ((d + i : Nat) : Int) = optP (Lm.ldr rows d c)
      rw [ldr_first (by omega) (by rw [ok.1]; exact hk) h (fun j a z => hp j a z)]; rfl
    · refine go_nil (go_nil ⟨⟨.inr rfl, .inr rfl, .inr rfl, .inl rfl, trivial⟩, rfl, fun j a z => ?_⟩)
      by_cases y : j = d + i
      · rw [y]; exact h
      · exact hp j a (by omega)
  · refine go_ret ee_non ?_
    show No = optP (Lm.ldr rows d c)
    rw [ldr_nil fun j a z => hp j a (by rw [ok.1] at z; omega)]; rfl
theorem add_ok {n d c : Nat} {head : Lm.Eqn} {rs : List Lm.Eqn} (ok : Lm.okR n rs) {i : Nat} (hi : i ≤ n) : Lm.okR n (Lm.add d c head rs i) := ⟨by rw [Lm.add_len]; exact ok.1, fun k hk => by
  rw [Lm.add_get i (by rw [ok.1]; exact hi) k]
  split
  · exact Lm.tgt_ok (ok.2 k hk)
  · exact ok.2 k hk⟩
theorem swp_ok {n h d : Nat} {rs : List Lm.Eqn} (ok : Lm.okR n rs) (hh : h < n) (hd : d < n) : Lm.okR n (Lm.swp rs h d) := ⟨by rw [Lm.swp_len]; exact ok.1, fun k hk => by
  rw [Lm.swp_get (by rw [ok.1]; exact hh) (by rw [ok.1]; exact hd)]
  exact ok.2 _ (Lm.sw_lt hh hd hk)⟩
theorem stp_ok {n c : Nat} {st : List Lm.Eqn × List Nat} (ok : Lm.okR n st.1) (hd : st.2.length ≤ n) : Lm.okR n (Lm.stp st c).1 ∧ ((Lm.stp st c).2.length ≤ n) := by
  unfold Lm.stp
  cases e : Lm.ldr st.1 st.2.length c with
  | none => exact ⟨ok, hd⟩
  | some h =>
    obtain ⟨g1, g2, g3⟩ := Lm.ldr_some e
    rw [ok.1] at g2
    have o2 := swp_ok ok g2 (by omega : st.2.length < n)
    refine ⟨add_ok o2 (by rw [ok.1]; exact Nat.le_refl n), ?_⟩
    show (st.2 ++ [c]).length ≤ n
    rw [List.length_append]
    show st.2.length + 1 ≤ n
    omega
theorem clr_ok {n : Nat} {rows : List Lm.Eqn} (ok : Lm.okR n rows) : ∀ i, Lm.okR n (Lm.clr rows i).1 ∧ (Lm.clr rows i).2.length ≤ n
  | 0 => ⟨ok, Nat.zero_le n⟩
  | i + 1 => by
    rw [Lm.clr_succ]
    obtain ⟨h1, h2⟩ := clr_ok ok i
    exact stp_ok h1 h2
theorem clr_lt {rows : List Lm.Eqn} : ∀ i, ∀ p ∈ (Lm.clr rows i).2, p < i
  | 0 => fun p h => absurd h List.not_mem_nil
  | i + 1 => fun p h => by
    rw [Lm.clr_succ] at h
    have ih := clr_lt (rows := rows) i
    unfold Lm.stp at h
    cases e : Lm.ldr (Lm.clr rows i).1 (Lm.clr rows i).2.length i with
    | none => rw [e] at h; exact Nat.lt_succ_of_lt (ih p h)
    | some k =>
      rw [e] at h
      rcases List.mem_append.mp h with z | z
      · exact Nat.lt_succ_of_lt (ih p z)
      · rw [List.mem_singleton.mp z]; exact Nat.lt_succ_self i
def c_cleared (n : Nat) (rows : List Lm.Eqn) : Cn := ⟨[L (rows.map eqP)], fun P _ => P = N (T [N (L ((Lm.clr rows n).1.map eqP)), N (L ((Lm.clr rows n).2.map In))]), [], fun _ _ => False⟩
def C_cleared : Cn → Prop := fun x => ∃ (n : Nat) (rows : List Lm.Eqn), Lm.okR n rows ∧ n ≤ 24 ∧ x = c_cleared n rows
theorem ok_cleared {f : Addr} {fd : FuncData} (F : Fu K "cleared" "cleared" s_cleared f fd) (b : Bl mg) (Ml : Fnc P w K mg base "leader" C_leader 1) (Mt : Fnc P w K mg base "together" C_together 2) : FnOk P w K mg base (L2N.CX P w) 3 f fd ["rows"] (spC C_cleared) := by
  refine fn_go F sc_cleared (fun x ⟨n, rows, h1, h2, e⟩ => by subst e; exact ⟨rfl, ⟨hi_eqPs _, trivial⟩, trivial⟩) fun x ⟨n, rows, ok0, h2, e⟩ cdv A outer s H E hr => ?_
  subst e
  refine go_setM (Kx := fun _ _ => False) 0 (em_N (en_list (es_L (ee_var 0 rfl)) rfl b.list)) sc_cleared.nd (fun _ _ q => q) fun P' Δ' ⟨ro, hrm, e1, e2⟩ => ?_
  subst e1 e2
  refine go_setM (Kx := fun _ _ => False) 1 (em_N (en_lst ea_nil)) sc_cleared.nd (fun _ _ q => q) fun P' Δ' ⟨le, hlm, e1, e2⟩ => ?_
  subst e1 e2
  have hl0 : ((rows.map eqP).length : Int) = (n : Int) := by rw [List.length_map, ok0.1]
  let Γ0 : Gam := [some (Ref ro), some (Ref le), none, none, none, none, none]
  refine go_forR 2 (fun _ => Γ0) (fun i => [(ro, ML ((Lm.clr rows i).1.map eqP)), (le, ML ((Lm.clr rows i).2.map In))]) (fun _ => True) (passes_of rfl) sc_cleared.nd (ee_cast (ee_len (es_M 0 (ee_var 0 rfl) rfl) rfl b.len) (P' := I (n : Int)) (by rw [hl0])) (by omega) (by omega) ⟨⟨.inr rfl, .inr rfl, .inr rfl, .inr rfl, .inr rfl, .inr rfl, .inr rfl, trivial⟩, rfl, trivial⟩ rfl b.range (fun i hi _ => ?_) (fun _ => ?_)
  · have hin : i < n := by omega
    obtain ⟨ok, hps⟩ := clr_ok ok0 i
    rw [Lm.clr_succ]
    generalize Lm.clr rows i = st at ok hps
    obtain ⟨R, ps⟩ := st
    have hlp : ((ps.map In).length : Int) = (ps.length : Int) := by rw [List.length_map]
    refine go_set 3 (ee_callB (P := optP (Lm.ldr R ps.length i)) (cj_fn0 Ml hr (by decide) rfl (ea_cons (ee_var 0 rfl) (ea_cons (ee_cast (ee_len (es_M 1 (ee_var 1 rfl) rfl) rfl b.len) (P' := In ps.length) (by rw [hlp]; rfl)) (ea_cons (ee_var 2 rfl) ea_nil)))) (c_leader R ps.length i) ⟨n, R, ps.length, i, ok, h2, hps, hin, rfl⟩ (bc (br_L 0 rfl) (bc br_ (bc br_ Yb.bn))) (sb_optP _) (ho := fun _ _ q => q)) sc_cleared.nd ?_
    cases hld : Lm.ldr R ps.length i with
    | none =>
      have es : Lm.stp (R, ps) i = (R, ps) := by unfold Lm.stp; rw [hld]
      rw [es]
      refine go_if (et_cmp (cmp_notN (k := true) fun h B v q => by have q : v = .non := q; rw [q]; rfl) (ee_var 3 rfl) ee_non) (fun h => nomatch h) (fun _ => go_nil (go_nil ⟨⟨.inr rfl, .inr rfl, .inl rfl, .inl rfl, .inl rfl, .inl rfl, .inl rfl, trivial⟩, rfl, trivial⟩))
    | some k =>
      obtain ⟨g1, g2, g3⟩ := Lm.ldr_some hld
      have g2 : k < n := by rw [← ok.1]; exact g2
      have hd : ps.length < n := by
        have : ps.length ≤ k := g1
        omega
      have es : Lm.stp (R, ps) i = (Lm.add ps.length i (R.getD k Lm.e0) (Lm.swp R k ps.length) R.length, ps ++ [i]) := by unfold Lm.stp; show (match Lm.ldr R ps.length i with | none => _ | some h => _) = _; rw [hld]
      rw [es]
      refine go_if (et_cmp (cmp_notN (k := false) fun h B v q => by have q : v = .int (k : Int) := q; rw [q]; rfl) (ee_var 3 rfl) ee_non) (fun _ => ?_) (fun h => nomatch h)
      refine go_set 4 (ee_cast (ee_len (es_M 1 (ee_var 1 rfl) rfl) rfl b.len) (P' := In ps.length) (by rw [hlp]; rfl)) sc_cleared.nd ?_
      refine go_set 5 (ee_ix (es_M 0 (ee_var 0 rfl) rfl) (ee_var 3 rfl) (at_row ok g2)) sc_cleared.nd ?_
      refine go_ix 0 (ee_ix (es_M 0 (ee_var 0 rfl) rfl) (ee_var 4 rfl) (at_row ok hd)) (ee_var 0 rfl) (ee_var 3 rfl) rfl (by rw [List.length_map, ok.1]; exact ixN_ok (natP g2)) ?_
      refine go_ix 0 (ee_var 5 rfl) (ee_var 0 rfl) (ee_var 4 rfl) rfl (by rw [List.length_set, List.length_map, ok.1]; exact ixN_ok (natP hd)) ?_
      have ew : ((R.map eqP).set (k : Int).toNat (eqP (R.getD ps.length Lm.e0))).set (ps.length : Int).toNat (eqP (R.getD k Lm.e0)) = (Lm.swp R k ps.length).map eqP := by
        unfold Lm.swp
        rw [List.map_set, List.map_set]; rfl
      show Go _ _ _ [(ro, ML (((R.map eqP).set (k : Int).toNat (eqP (R.getD ps.length Lm.e0))).set (ps.length : Int).toNat (eqP (R.getD k Lm.e0)))), (le, ML (ps.map In))] _ _
      rw [ew]
      have ok1 := swp_ok ok g2 hd
      have okh : Lm.okE n (R.getD k Lm.e0) := ok.2 k g2
      generalize hR1 : Lm.swp R k ps.length = R1 at ok1
      generalize hhd : R.getD k Lm.e0 = hd0 at okh
      have hl1 : ((R1.map eqP).length : Int) = (n : Int) := by rw [List.length_map, ok1.1]
      refine go_forR 6 (fun _ => [some (Ref ro), some (Ref le), some (In i), some (In k), some (In ps.length), some (eqP hd0), none]) (fun j => [(ro, ML ((Lm.add ps.length i hd0 R1 j).map eqP)), (le, ML (ps.map In))]) (fun _ => True) (passes_of rfl) sc_cleared.nd (ee_cast (ee_len (es_M 0 (ee_var 0 rfl) rfl) rfl b.len) (P' := I (n : Int)) (by rw [hl1])) (by omega) (by omega) ⟨⟨.inr rfl, .inr rfl, .inr rfl, .inr rfl, .inr rfl, .inr rfl, .inr rfl, trivial⟩, rfl, trivial⟩ rfl b.range (fun j hj _ => ?_) (fun _ => ?_)
      · have hjn : j < n := by omega
        have ok2 := add_ok (d := ps.length) (c := i) (head := hd0) ok1 (by omega : j ≤ n)
        rw [Lm.add_succ]
        generalize Lm.add ps.length i hd0 R1 j = R2 at ok2
        unfold Lm.adr
        refine go_if (et_w (ew_and (et_cmp cmp_ne (ee_var 6 rfl) (ee_var 4 rfl)) fun _ => ew_and1 (et_val (ee_ix (es_L (ee_ixT (ee_ix (es_M 0 (ee_var 0 rfl) rfl) (ee_var 6 rfl) (at_row ok2 hjn)) ee_int (P := L ((R2.getD j Lm.e0).1.map Bo)) rfl)) (ee_var 2 rfl) (at_cell ok2 hjn hin))))) (fun h => ?_) (fun h => ?_)
        · have hc : j ≠ ps.length ∧ Lm.cel R2 j i = true := by
            rw [Bool.and_eq_true] at h
            refine ⟨fun z => ?_, h.2⟩
            have := h.1
            rw [z] at this
            simp at this
          rw [if_pos hc]
          refine go_ix 0 (ee_imp (ee_call (P := N (T [N (L ((Lm.tgt (R2.getD j Lm.e0) hd0).1.map Bo)), Bo (Lm.tgt (R2.getD j Lm.e0) hd0).2.1, N (L ((Lm.tgt (R2.getD j Lm.e0) hd0).2.2.map Bo))])) (cj_fn0 Mt hr (by decide) rfl (ea_cons (ee_ix (es_M 0 (ee_var 0 rfl) rfl) (ee_var 6 rfl) (at_row ok2 hjn)) (ea_cons (ee_var 5 rfl) ea_nil))) _ ⟨n, _, _, ok2.2 j hjn, okh, h2, rfl⟩ (ho := fun _ _ q => q)) (imp_eqP _)) (ee_var 0 rfl) (ee_var 6 rfl) rfl (by rw [List.length_map, ok2.1]; exact ixN_ok (natP hjn)) (go_nil (go_nil ⟨⟨.inr rfl, .inr rfl, .inr rfl, .inr rfl, .inr rfl, .inr rfl, .inl rfl, trivial⟩, ?_, trivial⟩))
          rw [List.map_set]; rfl
        · have hc : ¬ (j ≠ ps.length ∧ Lm.cel R2 j i = true) := fun ⟨z, y⟩ => by
            rw [y, Bool.and_true] at h
            have h : (!decide ((j : Int) = (ps.length : Int))) = false := h
            simp at h
            omega
          rw [if_neg hc]
          exact go_nil (go_nil ⟨⟨.inr rfl, .inr rfl, .inr rfl, .inr rfl, .inr rfl, .inr rfl, .inl rfl, trivial⟩, rfl, trivial⟩)
      · rw [Int.toNat_natCast]
        refine go_app 1 (ee_var 1 rfl) (ee_var 2 rfl) rfl (by rw [List.length_map]; omega) (go_nil (go_nil ⟨⟨.inr rfl, .inr rfl, .inl rfl, .inl rfl, .inl rfl, .inl rfl, .inl rfl, trivial⟩, ?_, trivial⟩))
        rw [ok.1, List.map_append]; rfl
  · rw [Int.toNat_natCast]
    refine go_frz 0 0 rfl hrm rfl (go_frz 0 1 rfl hlm rfl ?_)
    exact go_ret (ee_tup (ea_cons (ee_var 0 rfl) (ea_cons (ee_var 1 rfl) ea_nil))) rfl
def c_eqs (CY : Addr) (hs : List Bool) (ks : List (Int × Int)) (v : List Bool) : Cn := ⟨[YV CY hs ks, L (v.map Bo)], fun P _ => P = N (L ((Lm.eqs hs.length (hit hs ks) v).map eqP)), [], fun _ _ => False⟩
def C_eqs (CY : Addr) : Cn → Prop := fun x => ∃ (hs : List Bool) (ks : List (Int × Int)) (v : List Bool), v.length = hs.length ∧ hs.length ≤ 24 ∧ x = c_eqs CY hs ks v
theorem eqs_succ (n : Nat) (M : Nat → Nat → Bool) (v : List Bool) (i : Nat) : ((List.range (i + 1)).map fun l => (((List.range n).map (fun b => M b l), v.getD l false, (List.range n).map (fun k => decide (l = k))) : Lm.Eqn)) = ((List.range i).map fun l => (((List.range n).map (fun b => M b l), v.getD l false, (List.range n).map (fun k => decide (l = k))) : Lm.Eqn)) ++ [((List.range n).map (fun b => M b i), v.getD i false, (List.range n).map (fun k => decide (i = k)))] := by rw [List.range_succ, List.map_append]; rfl
theorem ok_eqs {f : Addr} {fd : FuncData} (F : Fu K "equations" "equations" s_equations f fd) (b : Bl mg) (T' : Yt K mg CY cNY cNL cAl cTi cUn) (Mt : Mtc P w K mg base CY "turns" (C_turns CY cNL) 2 []) : FnOk P w K mg base (L2N.CX P w) 3 f fd ["yard", "wanted"] (spC (C_eqs CY)) := by
  refine fn_go F sc_equations (fun x ⟨hs, ks, v, h1, h2, e⟩ => by subst e; exact ⟨rfl, ⟨hi_YV, hi_bools _, trivial⟩, trivial⟩) fun x ⟨hs, ks, v, hv, hn, e⟩ cdv A outer s H E hr => ?_
  subst e
  refine go_setM (Kx := fun _ _ => False) 2 (em_N (en_lst ea_nil)) sc_equations.nd (fun _ _ q => q) fun P' Δ' ⟨fo, hfm, e1, e2⟩ => ?_
  subst e1 e2
  have e0 : ((List.range (hs.length : Int).toNat).filter fun _ => true).map (fun z => N (L ((trn hs ks z).map In))) = (List.range hs.length).map fun i => N (L ((trn hs ks i).map In)) := by rw [filt_true, Int.toNat_natCast]
  refine go_lc (lcsR 3 (fun _ => true) (fun z => N (L ((trn hs ks z).map In))) 6 sc_equations.nd (ee_fld (ee_var 0 rfl) T'.cl T'.nm 0 rfl rfl) (by omega) (by omega) rfl b.range (blkOk_by (N := ["yard", "wanted", "found", "turns", "lamp", "buttons", "button", "row", "k"]) (sc := defScope s_equations) (by decide +kernel)) (fun _ _ _ _ _ => pg_name (i := 6) sc_equations.nd rfl (Or.inl rfl)) (fun _ _ => rfl)
    (fun z hz _ => fun _ _ _ _ _ => ee_N (en_call (ps := (trn hs ks z).map In) (cj_meth Mt hr (by decide) (ee_var 0 rfl) (rcv_I rfl) (ea_cons (ee_var 6 rfl) ea_nil)) (c_turns CY cNL (z : Int) hs ks) ⟨_, hs, ks, hn, rfl⟩ (Scs.map (fun _ => sc_In) _) (ho := fun _ _ q => q.2) (hx := fun _ _ q => q.2 ⟨by omega, hz⟩)))) ?_
  rw [e0]
  let TP : Pr := N (L ((List.range hs.length).map fun i => N (L ((trn hs ks i).map In))))
  let eq : Nat → List Lm.Eqn := fun i => (List.range i).map fun l => ((List.range hs.length).map (fun b => hit hs ks b l), v.getD l false, (List.range hs.length).map (fun k => decide (l = k)))
  have eql : ∀ i, (eq i).length = i := fun i => by show (List.map _ _).length = i; rw [List.length_map, List.length_range]
  refine go_forR 4 (fun _ => [some (YV CY hs ks), some (L (v.map Bo)), some (Ref fo), some TP, none, none, none, none, none]) (fun i => [(fo, ML ((eq i).map eqP))]) (fun _ => True) (passes_of rfl) sc_equations.nd (ee_fld (ee_var 0 rfl) T'.cl T'.nm 0 rfl rfl) (by omega) (by omega) ⟨Wk.refl _, rfl, trivial⟩ rfl b.range (fun i hi _ => ?_) (fun _ => ?_)
  · have hin : i < hs.length := by omega
    have eb : ((List.range hs.length).filter fun _ => true).map (fun z => Bo (decide ((i : Int) ∈ (trn hs ks z).map fun (k : Nat) => (k : Int)))) = ((List.range hs.length).map fun b => hit hs ks b i).map Bo := by
      rw [filt_true, List.map_map]
      refine List.map_congr_left fun z _ => ?_
      show Bo _ = Bo _
      congr 1
      rw [Bool.eq_iff_iff, decide_eq_true_eq, List.mem_map]
      constructor
      · rintro ⟨k, hk, e⟩
        have e : k = i := by omega
        exact e ▸ (trn_mem.mp hk).2
      · intro h
        exact ⟨i, trn_mem.mpr ⟨hin, h⟩, rfl⟩
    have ek : ((List.range (hs.length : Int).toNat).filter fun _ => true).map (fun (k : Nat) => Bo (decide ((i : Int) = (k : Int)))) = ((List.range hs.length).map fun k => decide (i = k)).map Bo := by
      rw [filt_true, List.map_map, Int.toNat_natCast]
      refine List.map_congr_left fun z _ => ?_
      show Bo _ = Bo _
      congr 1
      exact decide_eq_decide.mpr ⟨fun z => Int.ofNat.inj z, fun z => by rw [z]⟩
    refine go_lc (lcs (R := fun z => N (L ((trn hs ks z).map In))) (l := List.range hs.length) 5 (fun _ => true) (fun z => Bo (decide ((i : Int) ∈ (trn hs ks z).map fun (k : Nat) => (k : Int)))) 7 sc_equations.nd (ef_L (ee_un (ee_var 3 rfl))) (by rw [List.length_range]; omega) (blkOk_by (N := ["yard", "wanted", "found", "turns", "lamp", "buttons", "button", "row", "k"]) (sc := defScope s_equations) (by decide +kernel)) (fun _ _ _ _ _ => pg_name (i := 7) sc_equations.nd rfl (Or.inl rfl)) (fun _ _ => rfl) (fun z _ _ => fun _ _ _ _ _ => ee_inI (ee_var 4 rfl) (es_cast (es_L (ee_un (ee_var 7 rfl))) (map_In _)))) ?_
    rw [eb]
    refine go_app 0 (ee_var 2 rfl) (ee_imp (ee_tup (ea_cons (ee_var 5 rfl) (ea_cons (ee_ix (es_L (ee_var 1 rfl)) (ee_var 4 rfl) (atI_map false (by rw [hv]; exact natP hin))) (ea_cons (ee_N (en_cast (en_lcR (fun _ => true) (fun (k : Nat) => Bo (decide ((i : Int) = (k : Int)))) 8 sc_equations.nd (ee_fld (ee_var 0 rfl) T'.cl T'.nm 0 rfl rfl) (by omega) (by omega) rfl b.range (blkOk_by (N := ["yard", "wanted", "found", "turns", "lamp", "buttons", "button", "row", "k"]) (sc := defScope s_equations) (by decide +kernel)) (fun _ _ _ _ _ => pg_name (i := 8) sc_equations.nd rfl (Or.inl rfl)) (fun _ _ => rfl) (fun z _ _ => fun _ _ _ _ _ => ee_cmp cmp_eq (ee_var 4 rfl) (ee_var 8 rfl))) ek)) ea_nil)))) (imp_eqP ((List.range hs.length).map (fun b => hit hs ks b i), v.getD i false, (List.range hs.length).map (fun k => decide (i = k))))) rfl (by rw [List.length_map, eql]; omega) (go_nil ⟨⟨.inr rfl, .inr rfl, .inr rfl, .inr rfl, .inl rfl, .inl rfl, .inl rfl, .inl rfl, .inl rfl, trivial⟩, ?_, trivial⟩)
    show [(fo, ML ((eq i).map eqP ++ [_]))] = [(fo, ML ((eq (i + 1)).map eqP))]
    rw [show eq (i + 1) = eq i ++ [_] from eqs_succ hs.length (hit hs ks) v i, List.map_append]; rfl
  · rw [Int.toNat_natCast]
    exact go_frz 0 2 rfl hfm rfl (go_ret (ee_var 2 rfl) rfl)
end
/-! ways, their functions alone -/
def waySt (hs : List Bool) (ks : List (Int × Int)) (v : List Bool) : List Lm.Eqn × List Nat := Lm.clr (Lm.eqs hs.length (hit hs ks) v) hs.length
def wayF (hs : List Bool) (ks : List (Int × Int)) (lt wi : List Bool) : Bool × List Nat := Lm.wayL (waySt hs ks (Lm.mx lt wi))
def wayS (b : Bool) : Str := if b = true then "way" else "reason"
def wayP (r : Bool × List Nat) : Pr := N (T [Sx (wayS r.1), N (L (r.2.map In))])
/-! ways, plainly -/
theorem xr_sel (n : Nat) (x g : Nat → Bool) : xr ((Lm.sel n x).map g) = Lm.sm n (fun k => x k && g k) := by
  unfold Lm.sel
  induction n with
  | zero => rfl
  | succ n ih =>
    rw [List.range_succ, List.filter_append, List.map_append, xr_app, ih]
    show _ = (Lm.sm n _ ^^ (x n && g n))
    congr 1
    by_cases h : x n = true
    · rw [List.filter_cons_of_pos h, h]
      show (g n ^^ false) = (true && g n)
      rw [Bool.xor_false, Bool.true_and]
    · rw [List.filter_cons_of_neg h]
      have : x n = false := by simpa using h
      rw [this]; rfl
theorem sel_lt {n : Nat} {x : Nat → Bool} : ∀ p ∈ Lm.sel n x, p < n := fun p h => (Lm.mem_sel.mp h).1
theorem prs_sel {hs : List Bool} {ks : List (Int × Int)} {lt : List Bool} {x : Nat → Bool} {o : Nat} (hl : lt.length = hs.length) (ho : o < hs.length) : (prs hs ks lt (Lm.sel hs.length x)).getD o false = (lt.getD o false ^^ Lm.sm hs.length (fun b => hit hs ks b o && x b)) := by
  rw [prs_get hl ho, xr_sel]
  congr 1
  exact Lm.sm_congr fun b _ => Bool.and_comm _ _
/-- x leads from lt to wi -/
theorem prs_sol {hs : List Bool} {ks : List (Int × Int)} {lt wi : List Bool} {x : Nat → Bool} (hl : lt.length = hs.length) (hw : wi.length = hs.length) : prs hs ks lt (Lm.sel hs.length x) = wi ↔ Lm.Sol hs.length (hit hs ks) (fun l => (Lm.mx lt wi).getD l false) x := by
  constructor
  · intro h l hh
    have := prs_sel (ks := ks) (x := x) hl hh
    rw [h] at this
    show _ = (Lm.mx lt wi).getD l false
    rw [Lm.mx_get (hl.trans hw.symm), this]
    cases lt.getD l false <;> simp
  · intro h
    refine light_ext (by rw [prs_len, hl, hw]) fun o ho => ?_
    rw [prs_len, hl] at ho
    rw [prs_sel hl ho, h o ho]
    show (lt.getD o false ^^ (Lm.mx lt wi).getD o false) = _
    rw [Lm.mx_get (hl.trans hw.symm)]
    cases lt.getD o false <;> simp
theorem wayF_true {hs : List Bool} {ks : List (Int × Int)} {lt wi : List Bool} (hl : lt.length = hs.length) (hw : wi.length = hs.length) (h : (wayF hs ks lt wi).1 = true) : ∃ x, (wayF hs ks lt wi).2 = Lm.sel hs.length x ∧ prs hs ks lt (Lm.sel hs.length x) = wi := by
  obtain ⟨x, h1, h2⟩ := Lm.way_true h
  exact ⟨x, h1, (prs_sol hl hw).mpr h2⟩
theorem wayF_false {hs : List Bool} {ks : List (Int × Int)} {lt wi : List Bool} (hl : lt.length = hs.length) (hw : wi.length = hs.length) (h : (wayF hs ks lt wi).1 = false) : ∃ t, (wayF hs ks lt wi).2 = Lm.sel hs.length t ∧ (∀ b, b < hs.length → Lm.sm hs.length (fun l => t l && hit hs ks b l) = false) ∧ Lm.sm hs.length (fun l => t l && (Lm.mx lt wi).getD l false) = true := Lm.way_false h
theorem wayF_sel {hs : List Bool} {ks : List (Int × Int)} {lt wi : List Bool} (hl : lt.length = hs.length) (hw : wi.length = hs.length) : ∃ x, (wayF hs ks lt wi).2 = Lm.sel hs.length x := by
  cases h : (wayF hs ks lt wi).1 with
  | true => obtain ⟨x, h1, _⟩ := wayF_true hl hw h; exact ⟨x, h1⟩
  | false => obtain ⟨x, h1, _⟩ := wayF_false hl hw h; exact ⟨x, h1⟩
/-- where presses lead there, a way is told -/
theorem wayF_prs {hs : List Bool} {ks : List (Int × Int)} {lt wi : List Bool} {ps : List Nat} (hl : lt.length = hs.length) (hp : ∀ p ∈ ps, p < hs.length) (h : prs hs ks lt ps = wi) : (wayF hs ks lt wi).1 = true := by
  have hw : wi.length = hs.length := by rw [← h, prs_len, hl]
  cases e : (wayF hs ks lt wi).1 with
  | true => rfl
  | false =>
    obtain ⟨t, _, h2, h3⟩ := wayF_false hl hw e
    have e1 : Lm.sm hs.length (fun l => t l && (Lm.mx lt wi).getD l false) = Lm.sm hs.length (fun l => t l && xr (ps.map fun p => hit hs ks p l)) := Lm.sm_congr fun l ll => by
      rw [Lm.mx_get (hl.trans hw.symm), ← h, prs_get hl ll]
      cases lt.getD l false <;> simp
    rw [e1] at h3
    have e2 : ∀ qs : List Nat, (∀ p ∈ qs, p < hs.length) → Lm.sm hs.length (fun l => t l && xr (qs.map fun p => hit hs ks p l)) = false := by
      intro qs
      induction qs with
      | nil => exact fun _ => Lm.sm_zero fun l _ => Bool.and_false _
      | cons p qs ih =>
        intro hq
        have e3 : Lm.sm hs.length (fun l => t l && xr ((p :: qs).map fun p => hit hs ks p l)) = Lm.sm hs.length (fun l => (t l && hit hs ks p l) ^^ (t l && xr (qs.map fun p => hit hs ks p l))) := Lm.sm_congr fun l _ => by
          show (t l && (hit hs ks p l ^^ xr _)) = _
          cases t l <;> rfl
        rw [e3, Lm.sm_xor, h2 p (hq p List.mem_cons_self), ih fun y hy => hq y (List.mem_cons_of_mem _ hy)]; rfl
    rw [e2 ps hp] at h3
    cases h3
/-- how many of those told by d are told by t, mod 2 -/
theorem sel_par {n : Nat} {t d : Nat → Bool} {xs : List Nat} (hx : xs = Lm.sel n t) : ((Lm.sel n d).filter fun k => decide (k ∈ xs)).length % 2 = if Lm.sm n (fun l => t l && d l) = true then 1 else 0 := by
  have e : (Lm.sel n d).filter (fun k => decide (k ∈ xs)) = (List.range n).filter (fun l => t l && d l) := by
    unfold Lm.sel
    rw [List.filter_filter]
    refine List.filter_congr fun k hk => ?_
    have hk := List.mem_range.mp hk
    rw [hx]
    have : decide (k ∈ Lm.sel n t) = t k := by
      rw [Bool.eq_iff_iff, decide_eq_true_eq, Lm.mem_sel]
      exact ⟨fun z => z.2, fun z => ⟨hk, z⟩⟩
    rw [this]
  rw [e, Lm.sm_len]
def difL (a b : List Bool) : List Nat := Lm.sel a.length fun k => a.getD k false ^^ b.getD k false
theorem trn_sel (hs : List Bool) (ks : List (Int × Int)) (p : Nat) : trn hs ks p = Lm.sel hs.length (hit hs ks p) := rfl
theorem in_nats (x : Nat) (xs : List Nat) : decide ((x : Int) ∈ xs.map fun (k : Nat) => (k : Int)) = decide (x ∈ xs) := decide_eq_decide.mpr ⟨fun h => by
  obtain ⟨k, hk, e⟩ := List.mem_map.mp h
  have : k = x := by omega
  exact this ▸ hk, fun h => List.mem_map_of_mem h⟩
/-! quiet sets -/
def quietF (hs : List Bool) (ks : List (Int × Int)) : List (List Nat) := Lm.quietL hs.length (waySt hs ks (List.replicate hs.length false))
def qlP (xss : List (List Nat)) : Pr := L (xss.map fun xs => N (L (xs.map In)))
theorem hi_qlP (xss : List (List Nat)) : Sb (N (qlP xss)) := sb_NL (Sbs.map (fun _ => sb_NL (Sbs.map (fun _ => sb_I) _)) _)
def qPart (R : List Lm.Eqn) (ps : List Nat) (i : Nat) : List (List Nat) := ((List.range i).filter fun c => !decide (c ∈ ps)).map (Lm.qset R ps)
theorem qPart_succ (R : List Lm.Eqn) (ps : List Nat) (i : Nat) : qPart R ps (i + 1) = qPart R ps i ++ if i ∈ ps then [] else [Lm.qset R ps i] := by
  unfold qPart
  rw [List.range_succ, List.filter_append, List.map_append]
  by_cases h : i ∈ ps
  · rw [if_pos h, List.filter_cons_of_neg (by simp [h])]; rfl
  · rw [if_neg h, List.filter_cons_of_pos (by simp [h])]; rfl
theorem qPart_len (R : List Lm.Eqn) (ps : List Nat) (i : Nat) : (qPart R ps i).length ≤ i := by
  unfold qPart
  rw [List.length_map]
  exact Nat.le_trans (List.length_filter_le _ _) (by rw [List.length_range]; exact Nat.le_refl i)
section
variable {P : Program} {w : World} {K : PySem.W.Frag} {mg : Str → Option Value} {base : Heap} {CY cNY cNL cAl cTi cUn : Addr}
def c_quiet (CY : Addr) (hs : List Bool) (ks : List (Int × Int)) (q : List (List Nat)) : Cn := ⟨[YV CY hs ks], fun P _ => P = N (qlP q), [], fun _ _ => False⟩
def C_quiet (CY : Addr) : Cn → Prop := fun x => ∃ (hs : List Bool) (ks : List (Int × Int)) (q : List (List Nat)), hs.length ≤ 24 ∧ q = quietF hs ks ∧ x = c_quiet CY hs ks q
theorem ok_quiet {f : Addr} {fd : FuncData} (F : Fu K "quiet" "quiet" s_quiet f fd) (b : Bl mg) (T' : Yt K mg CY cNY cNL cAl cTi cUn) (Me : Fnc P w K mg base "equations" (C_eqs CY) 3) (Mc : Fnc P w K mg base "cleared" C_cleared 3) : FnOk P w K mg base (L2N.CX P w) 4 f fd ["yard"] (spC (C_quiet CY)) := by
  refine fn_go F sc_quiet (fun x ⟨hs, ks, q, h1, h2, e⟩ => by subst e; exact ⟨rfl, ⟨hi_YV, trivial⟩, trivial⟩) fun x ⟨hs, ks, q, hn, hq, e⟩ cdv A outer s H E hr => ?_
  subst e
  have hv : (List.replicate hs.length false).length = hs.length := List.length_replicate
  have hI : Lm.Inv hs.length (hit hs ks) (Lm.eqs hs.length (hit hs ks) (List.replicate hs.length false)) (waySt hs ks (List.replicate hs.length false)).1 hs.length (waySt hs ks (List.replicate hs.length false)).2 := Lm.clr_all
  have hq : q = qPart (waySt hs ks (List.replicate hs.length false)).1 (waySt hs ks (List.replicate hs.length false)).2 hs.length := hq
  refine go_tup2 1 2 (em_of (ee_call (P := N (T [N (L ((waySt hs ks (List.replicate hs.length false)).1.map eqP)), N (L ((waySt hs ks (List.replicate hs.length false)).2.map In))])) (cj_fn0 Mc hr (by decide) rfl (ea_cons (ee_un (ee_call (P := N (L ((Lm.eqs hs.length (hit hs ks) (List.replicate hs.length false)).map eqP))) (cj_fn0 Me hr (by decide) rfl (ea_cons (ee_var 0 rfl) (ea_cons (ee_un (ee_N (en_cast (en_lcR (fun _ => true) (fun _ => Bo false) 6 sc_quiet.nd (ee_fld (ee_var 0 rfl) T'.cl T'.nm 0 rfl rfl) (by omega) (by omega) rfl b.range (blkOk_by (N := ["yard", "rows", "leads", "found", "column", "others", "k"]) (sc := defScope s_quiet) (by decide +kernel)) (fun _ _ _ _ _ => pg_name (i := 6) sc_quiet.nd rfl (Or.inl rfl)) (fun _ _ => rfl) (fun _ _ _ => fun _ _ _ _ _ => ee_bl)) (rep_cast (Int.toNat_natCast hs.length))))) ea_nil))) _ ⟨hs, ks, _, hv, hn, rfl⟩ (ho := fun _ _ q => q))) ea_nil)) _ ⟨hs.length, _, Lm.eqs_ok, hn, rfl⟩ (ho := fun _ _ q => q))) (Kx := fun _ _ => False) (fun _ _ q => q.elim) (fun P' Δ' ⟨e1, e2⟩ => ⟨_, _, e1, ?_⟩) sc_quiet.nd
  subst e2
  show Go _ _ [some (YV CY hs ks), some (N (L ((waySt hs ks (List.replicate hs.length false)).1.map eqP))), some (N (L ((waySt hs ks (List.replicate hs.length false)).2.map In))), none, none, none, none] _ _ _
  generalize waySt hs ks (List.replicate hs.length false) = st at hI hq
  obtain ⟨R, ps⟩ := st
  have okR := hI.ok
  have psl : ps.length ≤ hs.length := hI.ech.le
  have hlp : ((ps.map In).length : Int) = (ps.length : Int) := by rw [List.length_map]
  refine go_setM (Kx := fun _ _ => False) 3 (em_N (en_lst ea_nil)) sc_quiet.nd (fun _ _ q => q) fun P' Δ' ⟨fo, hfm, e1, e2⟩ => ?_
  subst e1 e2
  let Γ0 : Gam := [some (YV CY hs ks), some (N (L (R.map eqP))), some (N (L (ps.map In))), some (Ref fo), none, none, none]
  have e00 : ((qPart R ps 0).map fun xs => N (L (xs.map In))) = [] := rfl
  refine go_forR 4 (fun _ => Γ0) (fun i => [(fo, ML ((qPart R ps i).map fun xs => N (L (xs.map In))))]) (fun _ => True) (passes_of rfl) sc_quiet.nd (ee_fld (ee_var 0 rfl) T'.cl T'.nm 0 rfl rfl) (by omega) (by omega) ⟨Wk.refl _, rfl, trivial⟩ rfl b.range (fun i hi _ => ?_) (fun _ => ?_)
  · have hin : i < hs.length := by omega
    rw [qPart_succ]
    refine go_if (et_cast (et_ninI (ee_var 4 rfl) (es_cast (es_L (ee_un (ee_var 2 rfl))) (map_In ps))) (k' := !decide (i ∈ ps)) (by rw [in_nats])) (fun h => ?_) (fun h => ?_)
    · have hni : i ∉ ps := by simpa using h
      rw [if_neg hni, List.map_append]
      have e1 : ((List.range (ps.length : Int).toNat).filter fun (k : Nat) => Lm.cel R k i).map (fun (k : Nat) => In (ps.getD k 0)) = (Lm.oth R ps i).map In := by
        unfold Lm.oth
        rw [Int.toNat_natCast, List.map_map]; rfl
      refine go_lc (lcsR 5 (fun (k : Nat) => Lm.cel R k i) (fun (k : Nat) => In (ps.getD k 0)) 6 sc_quiet.nd (ee_cast (ee_len (es_L (ee_un (ee_var 2 rfl))) rfl b.len) (P' := I (ps.length : Int)) (by rw [hlp])) (by omega) (by omega) rfl b.range (blkOk_by (N := ["yard", "rows", "leads", "found", "column", "others", "k"]) (sc := defScope s_quiet) (by decide +kernel)) (fun _ _ _ _ _ => pg_name (i := 6) sc_quiet.nd rfl (Or.inl rfl)) (fun z hz => fun _ _ _ _ _ => et_val (ee_ix (es_L (ee_ixT (ee_ix (es_L (ee_un (ee_var 1 rfl))) (ee_var 6 rfl) (at_row okR (by omega))) ee_int (P := L ((R.getD z Lm.e0).1.map Bo)) rfl)) (ee_var 4 rfl) (at_cell okR (by omega) hin))) (fun z hz _ => fun _ _ _ _ _ => ee_ix (es_L (ee_un (ee_var 2 rfl))) (ee_var 6 rfl) (atI_map 0 ⟨by omega, hz⟩))) ?_
      rw [e1]
      have up := Lm.qset_up hI hin hni
      have hol : (Lm.oth R ps i).length ≤ 24 := by
        unfold Lm.oth
        rw [List.length_map]
        exact Nat.le_trans (List.length_filter_le _ _) (by rw [List.length_range]; omega)
      have hql : (Lm.qset R ps i).length ≤ 25 := by unfold Lm.qset; rw [List.length_append]; show _ + 1 ≤ 25; omega
      have epm : ((Lm.qset R ps i).map fun (k : Nat) => (k : Int)).Perm (([i] ++ Lm.oth R ps i).map fun (k : Nat) => (k : Int)) := List.Perm.map _ List.perm_append_comm
      refine go_app 0 (ee_var 3 rfl) (ee_N (en_cast (qs := (Lm.qset R ps i).map In) (en_sorted (ns := ([i] ++ Lm.oth R ps i).map fun (k : Nat) => (k : Int)) (ns' := (Lm.qset R ps i).map fun (k : Nat) => (k : Int)) (es_cast (es_C (ec_N (en_cat (ec_N (en_lst (ea_cons (ee_var 4 rfl) ea_nil))) (ec_L (ee_un (ee_var 5 rfl))) (by rw [List.length_map]; simp; omega)))) (by rw [List.map_map, List.map_append]; rfl)) (by rw [List.length_map, List.length_append]; simp; omega) epm (List.pairwise_map.mpr (up.imp fun h => by omega)) rfl b.sorted) (map_In _).symm)) rfl (by rw [List.length_map]; have := qPart_len R ps i; omega) ?_
      exact go_nil (go_nil ⟨⟨.inr rfl, .inr rfl, .inr rfl, .inr rfl, .inl rfl, .inl rfl, .inr rfl, trivial⟩, rfl, trivial⟩)
    · have hni : i ∈ ps := by simpa using h
      rw [if_pos hni, List.append_nil]
      exact go_nil (go_nil ⟨⟨.inr rfl, .inr rfl, .inr rfl, .inr rfl, .inl rfl, .inl rfl, .inr rfl, trivial⟩, rfl, trivial⟩)
  · rw [Int.toNat_natCast, ← hq]
    exact go_frz 0 3 rfl hfm rfl (go_ret (ee_var 3 rfl) rfl)
end
theorem pair_com (i j : Int) : pair i j = pair j i := by unfold pair; split <;> split <;> (try split) <;> (try split) <;> (congr 1 <;> omega)
theorem hit_com (hs : List Bool) (ks : List (Int × Int)) (a o : Nat) : hit hs ks a o = hit hs ks o a := by
  unfold hit
  by_cases e : o = a
  · rw [e]
  · rw [if_neg e, if_neg (fun z => e z.symm), pair_com]
/-! quiet sets and ways, plainly -/
theorem quiet_mem {hs : List Bool} {ks : List (Int × Int)} {xs : List Nat} (h : xs ∈ quietF hs ks) : ∃ c, c < hs.length ∧ c ∉ (waySt hs ks (List.replicate hs.length false)).2 ∧ xs = Lm.sel hs.length (Lm.qv (waySt hs ks (List.replicate hs.length false)).1 (waySt hs ks (List.replicate hs.length false)).2 c) ∧ Lm.Sol hs.length (hit hs ks) (fun _ => false) (Lm.qv (waySt hs ks (List.replicate hs.length false)).1 (waySt hs ks (List.replicate hs.length false)).2 c) := by
  have hI : Lm.Inv hs.length (hit hs ks) (Lm.eqs hs.length (hit hs ks) (List.replicate hs.length false)) (waySt hs ks (List.replicate hs.length false)).1 hs.length (waySt hs ks (List.replicate hs.length false)).2 := Lm.clr_all
  unfold quietF Lm.quietL at h
  generalize waySt hs ks (List.replicate hs.length false) = st at h hI
  obtain ⟨c, hc, rfl⟩ := List.mem_map.mp h
  obtain ⟨h1, h2⟩ := List.mem_filter.mp hc
  have h1 := List.mem_range.mp h1
  have h2 : c ∉ st.2 := by simpa using h2
  exact ⟨c, h1, h2, Lm.qset_sel hI h1 h2, Lm.ker_eqs.mp ((hI.ker0 _).mp (Lm.qv_ker hI h1 h2))⟩
/-- what turns nothing is the sum of the quiet sets of its free columns -/
theorem quiet_span {hs : List Bool} {ks : List (Int × Int)} {t d : Nat → Bool} (ht : Lm.Sol hs.length (hit hs ks) (fun _ => false) t) (hq : ∀ xs ∈ quietF hs ks, ∀ y, xs = Lm.sel hs.length y → Lm.sm hs.length (fun l => y l && d l) = false) : Lm.sm hs.length (fun l => t l && d l) = false := by
  have hI : Lm.Inv hs.length (hit hs ks) (Lm.eqs hs.length (hit hs ks) (List.replicate hs.length false)) (waySt hs ks (List.replicate hs.length false)).1 hs.length (waySt hs ks (List.replicate hs.length false)).2 := Lm.clr_all
  have hk := (hI.ker0 _).mpr (Lm.ker_eqs.mpr ht)
  have sp := Lm.ker_span hI hk
  unfold quietF Lm.quietL at hq
  generalize waySt hs ks (List.replicate hs.length false) = st at hq hI hk sp
  have e1 : Lm.sm hs.length (fun l => t l && d l) = Lm.sm hs.length fun l => Lm.sm hs.length fun c => ((t c && !decide (c ∈ st.2)) && Lm.qv st.1 st.2 c l) && d l := Lm.sm_congr fun l hl => by rw [Lm.sm_and', ← sp l hl]
  rw [e1, Lm.sm_comm]
  refine Lm.sm_zero fun c hc => ?_
  have e2 : Lm.sm hs.length (fun i => ((t c && !decide (c ∈ st.2)) && Lm.qv st.1 st.2 c i) && d i) = ((t c && !decide (c ∈ st.2)) && Lm.sm hs.length fun i => Lm.qv st.1 st.2 c i && d i) := by
    rw [← Lm.sm_and]
    exact Lm.sm_congr fun i _ => Bool.and_assoc _ _ _
  rw [e2]
  by_cases z : c ∈ st.2
  · rw [decide_eq_true z]; simp
  · rw [hq _ (List.mem_map_of_mem (List.mem_filter.mpr ⟨List.mem_range.mpr hc, by simpa using z⟩)) _ (Lm.qset_sel hI hc z), Bool.and_false]
/-- a reason's buttons, pressed together, turn nothing -/
theorem sol_col {hs : List Bool} {ks : List (Int × Int)} {t : Nat → Bool} (h : ∀ b, b < hs.length → Lm.sm hs.length (fun l => t l && hit hs ks b l) = false) : Lm.Sol hs.length (hit hs ks) (fun _ => false) t := fun l hl => by
  rw [← h l hl]
  exact Lm.sm_congr fun b _ => by rw [hit_com hs ks b l]; exact Bool.and_comm _ _
theorem sol_row {hs : List Bool} {ks : List (Int × Int)} {t : Nat → Bool} (h : Lm.Sol hs.length (hit hs ks) (fun _ => false) t) : ∀ b, b < hs.length → Lm.sm hs.length (fun l => t l && hit hs ks b l) = false := fun b hb => by
  refine Eq.trans ?_ (h b hb)
  exact Lm.sm_congr fun l _ => by rw [hit_com hs ks b l]; exact Bool.and_comm _ _
theorem prs_ker {hs : List Bool} {ks : List (Int × Int)} {lt : List Bool} {x : Nat → Bool} (hl : lt.length = hs.length) : prs hs ks lt (Lm.sel hs.length x) = lt ↔ Lm.Sol hs.length (hit hs ks) (fun _ => false) x := by
  rw [prs_sol hl hl]
  have e : ∀ l, (Lm.mx lt lt).getD l false = false := fun l => by rw [Lm.mx_get rfl, Bool.xor_self]
  unfold Lm.Sol
  constructor
  · intro h l ll; rw [h l ll]; exact e l
  · intro h l ll; rw [h l ll]; exact (e l).symm
/-- a way is told just where in each quiet set the lights differ an even number of times -/
theorem way_quiet {hs : List Bool} {ks : List (Int × Int)} {lt wi : List Bool} (hl : lt.length = hs.length) (hw : wi.length = hs.length) : (wayF hs ks lt wi).1 = true ↔ ∀ xs ∈ quietF hs ks, (xs.filter fun k => decide (k ∈ difL lt wi)).length % 2 = 0 := by
  have hd : ∀ l, (Lm.mx lt wi).getD l false = (lt.getD l false ^^ wi.getD l false) := fun l => Lm.mx_get (hl.trans hw.symm) l
  have par : ∀ xs y, xs = Lm.sel hs.length y → ((xs.filter fun k => decide (k ∈ difL lt wi)).length % 2 = 0 ↔ Lm.sm hs.length (fun l => y l && (lt.getD l false ^^ wi.getD l false)) = false) := fun xs y hx => by
    have q := sel_par (n := hs.length) (t := fun k => lt.getD k false ^^ wi.getD k false) (d := y) (xs := difL lt wi) (by unfold difL; rw [hl])
    rw [← hx] at q
    rw [q, show (fun l => (lt.getD l false ^^ wi.getD l false) && y l) = (fun l => y l && (lt.getD l false ^^ wi.getD l false)) from funext fun l => Bool.and_comm _ _]
    cases Lm.sm hs.length (fun l => y l && (lt.getD l false ^^ wi.getD l false)) <;> simp
  constructor
  · intro h xs hx
    obtain ⟨x, _, hp⟩ := wayF_true hl hw h
    have hs' := (prs_sol hl hw).mp hp
    obtain ⟨c, hc, _, e, hk⟩ := quiet_mem hx
    rw [par xs _ e]
    generalize Lm.qv (waySt hs ks (List.replicate hs.length false)).1 (waySt hs ks (List.replicate hs.length false)).2 c = y at hk
    have hr := sol_row hk
    have e1 : Lm.sm hs.length (fun l => y l && (lt.getD l false ^^ wi.getD l false)) = Lm.sm hs.length fun l => Lm.sm hs.length fun b => y l && (hit hs ks b l && x b) := Lm.sm_congr fun l ll => by
      rw [Lm.sm_and, hs' l ll]; show _ = (y l && (Lm.mx lt wi).getD l false); rw [hd]
    rw [e1, Lm.sm_comm]
    refine Lm.sm_zero fun b hb => ?_
    have e2 : Lm.sm hs.length (fun i => y i && (hit hs ks b i && x b)) = (Lm.sm hs.length (fun i => y i && hit hs ks b i) && x b) := by
      rw [← Lm.sm_and']
      exact Lm.sm_congr fun i _ => (Bool.and_assoc _ _ _).symm
    rw [e2, hr b hb]; rfl
  · intro h
    cases e : (wayF hs ks lt wi).1 with
    | true => rfl
    | false =>
      obtain ⟨t, _, h2, h3⟩ := wayF_false hl hw e
      have := quiet_span (d := fun l => (lt.getD l false ^^ wi.getD l false)) (sol_col h2) fun xs hx y hy => (par xs y hy).mp (h xs hx)
      rw [← this, ← h3]
      exact Lm.sm_congr fun l _ => by rw [hd]
section
variable {P : Program} {w : World} {K : PySem.W.Frag} {mg : Str → Option Value} {base : Heap} {CY cNY cNL cAl cTi cUn : Addr}
def C_whole' : Cn → Prop := fun c => ∃ i : Int, c = ⟨[I i], fun P Δ => P = Bo true, [], fun _ _ => False⟩
theorem ok_whole' {f : Addr} {fd : FuncData} (F : Fu K "_law_whole" "_law_whole" s__law_whole f fd) (b : Bl mg) : FnOk P w K mg base (L2N.CX P w) 1 f fd ["found"] (spC C_whole') := by
  refine fn_go F sc__law_whole (fun c ⟨i, e⟩ => by subst e; exact ⟨rfl, ⟨hi_I, trivial⟩, trivial⟩) fun c ⟨i, e⟩ cdv A outer s H E hr => ?_
  subst e
  exact go_ret (ee_and (ee_isi (ee_var 0 rfl) ty_I (ee_bty rfl b.int (by decide +kernel)) (by decide +kernel : kitB "int" "int" = some true) rfl b.isi) fun _ => ee_one (ee_not (ee_isi (ee_var 0 rfl) ty_I (ee_bty rfl b.bool (by decide +kernel)) (by decide +kernel : kitB "int" "bool" = some false) rfl b.isi))) rfl
def c_lamps (n : Nat) (xs : List Nat) : Cn := ⟨[L (xs.map In), In n], fun P _ => P = Bo true, [], fun _ _ => False⟩
def C_lamps : Cn → Prop := fun c => ∃ (n : Nat) (x : Nat → Bool) (xs : List Nat), n ≤ 24 ∧ xs = Lm.sel n x ∧ c = c_lamps n xs
theorem ok_lamps {f : Addr} {fd : FuncData} (F : Fu K "_law_lamps" "_law_lamps" s__law_lamps f fd) (b : Bl mg) (Mw : Fnc P w K mg base "_law_whole" C_whole' 1) : FnOk P w K mg base (L2N.CX P w) 2 f fd ["found", "many"] (spC C_lamps) := by
  refine fn_go F sc__law_lamps (fun c ⟨n, x, xs, h1, h2, e⟩ => by subst e; exact ⟨rfl, ⟨hi_nats _, hi_I, trivial⟩, trivial⟩) fun c ⟨n, x, xs, hn, hx, e⟩ cdv A outer s H E hr => ?_
  subst e
  have up : xs.Pairwise (· < ·) := by rw [hx]; exact Lm.sel_up n x
  have hlt : ∀ p ∈ xs, p < n := by rw [hx]; exact sel_lt
  have hlen : xs.length ≤ n := by
    rw [hx]; unfold Lm.sel
    exact Nat.le_trans (List.length_filter_le _ _) (by rw [List.length_range]; exact Nat.le_refl n)
  refine go_if (et_cast (k' := false) (et_not (et_val (ee_isi (ee_var 0 rfl) ty_L (ee_bty rfl b.list (by decide +kernel)) (by decide +kernel : kitB "list" "list" = some true) rfl b.isi))) rfl) (fun h => nomatch h) (fun _ => go_nil ?_)
  refine go_forR 2 (fun _ => [some (L (xs.map In)), some (In n), none]) (fun _ => []) (fun _ => True) (passes_of rfl) sc__law_lamps.nd (ee_len (es_L (ee_var 0 rfl)) rfl b.len) (by rw [List.length_map]; omega) (by omega) ⟨Wk.refl _, rfl, trivial⟩ rfl b.range (fun i hi _ => ?_) (fun _ => go_ret ee_bl rfl)
  rw [List.length_map] at hi
  have hil : i < xs.length := by omega
  have hp : xs[i]? = some xs[i] := List.getElem?_eq_getElem hil
  generalize hpe : xs[i] = p at hp
  have hpl := hlt p (List.mem_of_getElem? hp)
  have hat : atI (xs.map In) (i : Int) = some (In p) := atI_nat (by rw [List.getElem?_map, hp]; rfl)
  refine go_if (et_cast (k' := false) (et_w (ew_or (et_not (et_val (ee_call (P := Bo true) (cj_fn0 Mw hr (by decide) rfl (ea_cons (ee_ix (es_L (ee_var 0 rfl)) (ee_var 2 rfl) hat) ea_nil)) _ ⟨(p : Int), rfl⟩ (ho := fun _ _ q => q)))) fun _ => ew_or1 (et_not (et_chain op_le op_lt ee_int (ee_ix (es_L (ee_var 0 rfl)) (ee_var 2 rfl) hat) fun _ => ee_var 1 rfl)))) (by simp; omega)) (fun h => nomatch h) (fun _ => go_nil ?_)
  refine go_if (k := false) (et_cast (k := decide ((0 : Int) < (i : Int)) && false) (et_w (ew_and (et_cmp cmp_gt (ee_var 2 rfl) ee_int) fun h => ew_and1 ?_)) (by simp)) (fun h => nomatch h) (fun _ => go_nil (go_nil ⟨⟨.inr rfl, .inr rfl, .inl rfl, trivial⟩, rfl, trivial⟩))
  have h0 : 0 < i := by have := of_decide_eq_true h; omega
  obtain ⟨m, hm⟩ : ∃ m, i = m + 1 := ⟨i - 1, by omega⟩
  have hml : m < xs.length := by omega
  have hq : xs[m]? = some xs[m] := List.getElem?_eq_getElem hml
  generalize hqe : xs[m] = q at hq
  have hqp : q < p := Lm.get_lt up hq hp (by omega)
  have hat2 : atI (xs.map In) (m : Int) = some (In q) := atI_nat (by rw [List.getElem?_map, hq]; rfl)
  exact et_cast (et_cmp cmp_ge (ee_ix (es_L (ee_var 0 rfl)) (ee_cast (ee_sub (ee_var 2 rfl) ee_int) (P' := I (m : Int)) (by rw [hm]; congr 1; omega)) hat2) (ee_ix (es_L (ee_var 0 rfl)) (ee_var 2 rfl) hat)) (by simp; omega)
end
def othP (n : Int) : Int × Int := (0, n - 1)
def othT (n : Int) (ties : List (Int × Int)) : List (Int × Int) := if n = 1 then ties else if othP n ∈ ties then ties.filter (fun q => decide (q ≠ othP n)) else ties ++ [othP n]
theorem tiesOk_filter {n : Int} {ties : List (Int × Int)} (T : TiesOk n ties) (f : Int × Int → Bool) : TiesOk n (ties.filter f) := ⟨fun p h => T.lt p (List.mem_filter.mp h).1, T.nd.filter f, Nat.le_trans (List.length_filter_le _ _) T.few⟩
theorem tiesOk_add {n : Int} {ties : List (Int × Int)} {p : Int × Int} (T : TiesOk n ties) (h : 0 ≤ p.1 ∧ p.1 < p.2 ∧ p.2 < n) (hp : p ∉ ties) (hf : ties.length < 576) : TiesOk n (ties ++ [p]) := ⟨fun q hq => (List.mem_append.mp hq).elim (fun z => T.lt q z) fun z => (List.mem_singleton.mp z) ▸ h, List.nodup_append.mpr ⟨T.nd, by simp, fun a ha b hb e => hp (by rw [List.mem_singleton.mp hb] at e; exact e ▸ ha)⟩, by rw [List.length_append]; exact hf⟩
theorem othP_no {n : Int} {ties : List (Int × Int)} (T : TiesOk n ties) (hn : 1 ≤ n) (hf : ties.length ≤ 288) : TiesOk n (othT n ties) := by
  unfold othT
  split
  · exact T
  · split
    · exact tiesOk_filter T _
    · exact tiesOk_add T ⟨by show (0 : Int) ≤ 0; omega, by show (0 : Int) < n - 1; omega, by show n - 1 < n; omega⟩ ‹_› (by omega)
theorem sel_len (n : Nat) (f : Nat → Bool) : (Lm.sel n f).length ≤ n := by
  unfold Lm.sel
  exact Nat.le_trans (List.length_filter_le _ _) (by rw [List.length_range]; exact Nat.le_refl n)
theorem quiet_len (hs : List Bool) (ks : List (Int × Int)) : (quietF hs ks).length ≤ hs.length := qPart_len _ _ _
/-! how many rows are unlike -/
def rwP (r : List Bool) : Pr := L (r.map Bo)
def rwD (r : List Bool) : PyData := .list (r.map .bool)
theorem hi_rwPs (l : List (List Bool)) : Hi (L (l.map rwP)) := hi_L (His.map (fun r => hi_bools r) _)
theorem rw_lay (r : List Bool) : (rwD r).canLay0 = true := by
  unfold rwD
  simp [PyData.canLay0, lay_all (f := PyData.bool) (fun _ => by simp [PyData.canLay0]) r]
theorem rw_deep (r : List Bool) : (rwD r).depth ≤ 4 := by
  have h2 := depth_all (f := PyData.bool) (n := 1) (fun _ => by simp [PyData.depth]) r
  simp only [rwD, PyData.depth]
  omega
theorem eqv_nilR (l : List (List Bool)) : PyData.eqv (.list (l.map rwD)) (.list []) = decide (l = []) := by
  cases l with
  | nil => simp [PyData.eqv, PyData.eqvAll]
  | cons x l => simp [PyData.eqv, PyData.eqvAll]
theorem at_rw {m n : Nat} {R : List (List Bool)} (ok : Lm.okM m n R) {k : Nat} (hk : k < m) : atI (R.map rwP) (k : Int) = some (rwP (R.getD k [])) := atI_map (R := rwP) [] ⟨by omega, by rw [ok.1]; omega⟩
theorem at_bit {m n : Nat} {R : List (List Bool)} (ok : Lm.okM m n R) {k c : Nat} (hk : k < m) (hc : c < n) : atI ((R.getD k []).map Bo) (c : Int) = some (Bo (Lm.cl R k c)) := atI_map (R := Bo) false ⟨by omega, by rw [ok.2 k hk]; omega⟩
theorem rks_ok {m n : Nat} {rows : List (List Bool)} (ok : Lm.okM m n rows) {i : Nat} (hi : i ≤ n) : Lm.okM m n (Lm.rks rows i).1 ∧ (Lm.rks rows i).2 ≤ m := by
  obtain ⟨ps, h1, h2⟩ := Lm.rks_inv ok i hi
  exact ⟨h2.ok, by rw [h1]; exact h2.ech.le⟩
theorem sws_ok {m n h d : Nat} {R : List (List Bool)} (ok : Lm.okM m n R) (hh : h < m) (hd : d < m) : Lm.okM m n (Lm.sws R h d) := ⟨by rw [Lm.sws_len]; exact ok.1, fun k hk => by
  rw [Lm.sws_get (by rw [ok.1]; exact hh) (by rw [ok.1]; exact hd)]
  exact ok.2 _ (Lm.sw_lt hh hd hk)⟩
theorem adds_ok {m n d c : Nat} {hd : List Bool} {R : List (List Bool)} (ok : Lm.okM m n R) : ∀ i, d + 1 + i ≤ m ∨ i = 0 → Lm.okM m n (Lm.adds d c hd R i)
  | i, hi => ⟨by rw [Lm.adds_len]; exact ok.1, fun k hk => by
    rw [Lm.adds_get i (by rw [ok.1]; exact hi)]
    split
    · rw [Lm.mx_len]; exact ok.2 k hk
    · exact ok.2 k hk⟩
section
variable {P : Program} {w : World} {K : PySem.W.Frag} {mg : Str → Option Value} {base : Heap} {CY cNY cNL cAl cTi cUn : Addr}
def bitsF (n : Nat) (xs : List Nat) : List Bool := (List.range n).map fun k => decide (k ∈ xs)
def c_bits (n : Nat) (xs : List Nat) : Cn := ⟨[L (xs.map In), In n], fun P _ => P = N (L ((bitsF n xs).map Bo)), [], fun _ _ => False⟩
def C_bits : Cn → Prop := fun c => ∃ (n : Nat) (xs : List Nat), n ≤ 24 ∧ c = c_bits n xs
theorem ok_bits {f : Addr} {fd : FuncData} (F : Fu K "_law_bits" "_law_bits" s__law_bits f fd) (b : Bl mg) : FnOk P w K mg base (L2N.CX P w) 1 f fd ["lamps", "many"] (spC C_bits) := by
  refine fn_go F sc__law_bits (fun c ⟨n, xs, h, e⟩ => by subst e; exact ⟨rfl, ⟨hi_nats _, hi_I, trivial⟩, trivial⟩) fun c ⟨n, xs, hn, e⟩ cdv A outer s H E hr => ?_
  subst e
  refine go_ret (ee_N (en_cast (en_lcR (n := (n : Int)) (fun _ => true) (fun (k : Nat) => Bo (decide (k ∈ xs))) 2 sc__law_bits.nd (ee_var 1 rfl) (by omega) (by omega) rfl b.range (blkOk_by (N := ["lamps", "many", "k"]) (sc := defScope s__law_bits) (by decide +kernel)) (fun _ _ _ _ _ => pg_name (i := 2) sc__law_bits.nd rfl (Or.inl rfl)) (fun _ _ => rfl) (fun z hz _ => fun _ _ _ _ _ => ee_cast (ee_inI (ee_var 2 rfl) (es_cast (es_L (ee_var 0 rfl)) (map_In xs))) (congrArg Bo (in_nats z xs)))) (qs := (bitsF n xs).map Bo) (by rw [filt_true, Int.toNat_natCast]; unfold bitsF; rw [List.map_map]; rfl))) rfl
def c_rank (rows : List (List Bool)) : Cn := ⟨[L (rows.map rwP)], fun P _ => P = In (Lm.rank rows), [], fun _ _ => False⟩
def C_rank : Cn → Prop := fun c => ∃ (m n : Nat) (rows : List (List Bool)), Lm.okM m n rows ∧ m ≤ 24 ∧ n ≤ 24 ∧ c = c_rank rows
theorem ok_rank {f : Addr} {fd : FuncData} (F : Fu K "_law_rank" "_law_rank" s__law_rank f fd) (b : Bl mg) : FnOk P w K mg base (L2N.CX P w) 1 f fd ["rows"] (spC C_rank) := by
  refine fn_go F sc__law_rank (fun c ⟨m, n, rows, h1, h2, h3, e⟩ => by subst e; exact ⟨rfl, ⟨hi_rwPs _, trivial⟩, trivial⟩) fun c ⟨m, n, rows, ok0, hm, hn, e⟩ cdv A outer s H E hr => ?_
  subst e
  show Go _ _ [some (L (rows.map rwP)), none, none, none, none, none, none, none] [] _ _
  have hrl := ok0.1
  refine go_setM (Kx := fun _ _ => False) 0 (em_N (en_cast (qs := rows.map rwP) (en_lc (R := rwP) (l := rows) (fun _ => true) rwP 6 sc__law_rank.nd (ef_L (ee_var 0 rfl)) (by omega) (blkOk_by (N := ["rows", "many", "column", "k", "heads", "head", "row", "j"]) (sc := defScope s__law_rank) (by decide +kernel)) (fun _ _ _ _ _ => pg_name (i := 6) sc__law_rank.nd rfl (Or.inl rfl)) (fun _ _ => rfl) (fun r _ _ => fun _ _ _ _ _ => ee_un (ee_N (en_list (es_L (ee_var 6 rfl)) rfl b.list)))) (by rw [filt_true]))) sc__law_rank.nd (fun _ _ q => q) fun P' Δ' ⟨ro, hrm, e1, e2⟩ => ?_
  subst e1 e2
  refine go_set 1 (ee_cast (P' := In 0) ee_int rfl) sc__law_rank.nd ?_
  have hc24 : Lm.cols rows ≤ 24 ∧ (rows ≠ [] → Lm.cols rows = n) := by
    cases rows with
    | nil => exact ⟨Nat.zero_le _, fun z => absurd rfl z⟩
    | cons r rs =>
      have : Lm.cols (r :: rs) = n := ok0.2 0 (by rw [← hrl]; exact Nat.zero_lt_succ _)
      exact ⟨by omega, fun _ => this⟩
  have hcn : ∀ i, i ≤ Lm.cols rows → Lm.okM m n (Lm.rks rows i).1 ∧ (Lm.rks rows i).2 ≤ m := fun i hi => by
    by_cases z : rows = []
    · subst z
      have : i = 0 := by have : Lm.cols [] = 0 := rfl; omega
      subst this
      exact ⟨ok0, Nat.zero_le _⟩
    · exact rks_ok ok0 (by rw [hc24.2 z] at hi; exact hi)
  refine go_forR 2 (fun i => [some (Ref ro), some (In (Lm.rks rows i).2), none, none, none, none, none, none]) (fun i => [(ro, ML ((Lm.rks rows i).1.map rwP))]) (fun _ => True) (passes_of rfl) sc__law_rank.nd
    (ee_ifx (P := I (Lm.cols rows : Int)) (k := !decide (rows = [])) (et_neD (hu64 hr) (edt_M 0 (ee_var 0 rfl) rfl (dats_map (R := rwP) (f := rwD) (fun r => dat_bools r) rows)) (edt_N (ds := []) (en_lst ea_nil) trivial) (shaped_list (f := rwD) rw_lay rw_deep (by decide) rows) (by decide +kernel) (eqv_nilR rows))
      (fun h => ee_cast (ee_len (es_L (ee_ix (es_M 0 (ee_var 0 rfl) rfl) ee_int (at_rw (k := 0) ok0 (by
        have : rows ≠ [] := by simpa using h
        rw [← hrl]; exact List.length_pos_iff.mpr this)))) rfl b.len) (by rw [List.length_map]; rfl))
      (fun h => ee_cast ee_int (by
        have : rows = [] := by simpa using h
        rw [this]; rfl)))
    (by omega) (by omega) ⟨⟨.inr rfl, .inr rfl, .inr rfl, .inr rfl, .inr rfl, .inr rfl, .inr rfl, .inr rfl, trivial⟩, rfl, trivial⟩ rfl b.range (fun i hi _ => ?_) (fun _ => ?_)
  · have hic : i < Lm.cols rows := by omega
    have hne : rows ≠ [] := fun z => by rw [z] at hic; exact absurd hic (Nat.not_lt_zero _)
    have hin : i < n := by rw [← hc24.2 hne]; exact hic
    obtain ⟨ok, hd⟩ := hcn i (by omega)
    rw [Lm.rks_succ]
    generalize Lm.rks rows i = st at ok hd
    obtain ⟨R, d⟩ := st
    have hd : d ≤ m := hd
    have ok : Lm.okM m n R := ok
    have hRl : ((R.map rwP).length : Int) = (m : Int) := by rw [List.length_map, ok.1]
    show Go _ _ [some (Ref ro), some (In d), some (In i), none, none, none, none, none] [(ro, ML (R.map rwP))] _ _
    have eh : ((List.range ((m : Int) - (d : Int)).toNat).filter fun z => Lm.cl R (d + z) i).map (fun z => In (d + z)) = (Lm.hds R d i).map In := by
      unfold Lm.hds
      rw [ok.1, show ((m : Int) - (d : Int)).toNat = m - d by omega, List.map_map]; rfl
    refine go_lc (lcsR2 (lo := (d : Int)) (n := (m : Int)) 4 (fun z => Lm.cl R (d + z) i) (fun z => In (d + z)) 3 sc__law_rank.nd (ee_var 1 rfl) (ee_cast (ee_len (es_M 0 (ee_var 0 rfl) rfl) rfl b.len) (by rw [hRl])) (by omega) rfl b.range (blkOk_by (N := ["rows", "many", "column", "k", "heads", "head", "row", "j"]) (sc := defScope s__law_rank) (by decide +kernel)) (fun _ _ _ _ _ => pg_name (i := 3) sc__law_rank.nd rfl (Or.inl rfl))
      (fun z hz => fun _ _ _ _ _ => et_val (ee_ix (es_L (ee_ix (es_M 0 (ee_var 0 rfl) rfl) (ee_var 3 rfl) (at_rw (k := d + z) ok (by omega)))) (ee_var 2 rfl) (at_bit ok (by omega) hin)))
      (fun z hz _ => fun _ _ _ _ _ => ee_var 3 rfl)) ?_
    rw [eh]
    cases hh : Lm.hds R d i with
    | nil =>
      have es : Lm.rst (R, d) i = (R, d) := by unfold Lm.rst; show (match (Lm.hds R d i).head? with | none => _ | some h => _) = _; rw [hh]; rfl
      rw [es]
      exact go_if (et_neNs hr (ee_un (ee_var 4 rfl)) (ee_cast (P' := L (([] : List Nat).map In)) (ee_un (ee_N (en_lst ea_nil))) rfl)) (fun h => nomatch h) (fun _ => go_nil (go_nil ⟨⟨.inr rfl, .inr rfl, .inl rfl, .inl rfl, .inl rfl, .inl rfl, .inl rfl, .inl rfl, trivial⟩, rfl, trivial⟩))
    | cons h0 t =>
      have hhd : (Lm.hds R d i).head? = some h0 := by rw [hh]; rfl
      have es : Lm.rst (R, d) i = (Lm.adds d i (R.getD h0 []) (Lm.sws R h0 d) (R.length - (d + 1)), d + 1) := by unfold Lm.rst; show (match (Lm.hds R d i).head? with | none => _ | some h => _) = _; rw [hh]; rfl
      rw [es]
      obtain ⟨g1, g2, g3⟩ := Lm.hds_some hhd
      rw [ok.1] at g2
      have hdm : d < m := by omega
      have hat0 : atI ((h0 :: t).map In) (0 : Int) = some (In h0) := atI_nat (j := 0) rfl
      refine go_if (et_cast (k' := true) (et_neNs hr (ee_un (ee_var 4 rfl)) (ee_cast (P' := L (([] : List Nat).map In)) (ee_un (ee_N (en_lst ea_nil))) rfl)) (by simp)) (fun _ => ?_) (fun h => nomatch h)
      refine go_set 5 (ee_ix (es_M 0 (ee_var 0 rfl) rfl) (ee_ix (es_L (ee_un (ee_var 4 rfl))) ee_int (P := In h0) hat0) (at_rw ok g2)) sc__law_rank.nd ?_
      refine go_ix 0 (ee_ix (es_M 0 (ee_var 0 rfl) rfl) (ee_var 1 rfl) (at_rw ok hdm)) (ee_var 0 rfl) (ee_ix (es_L (ee_un (ee_var 4 rfl))) ee_int (P := In h0) hat0) rfl (by rw [List.length_map, ok.1]; exact ixN_ok (natP g2)) ?_
      refine go_ix 0 (ee_var 5 rfl) (ee_var 0 rfl) (ee_var 1 rfl) rfl (by rw [List.length_set, List.length_map, ok.1]; exact ixN_ok (natP hdm)) ?_
      have ew : ((R.map rwP).set (h0 : Int).toNat (rwP (R.getD d []))).set (d : Int).toNat (rwP (R.getD h0 [])) = (Lm.sws R h0 d).map rwP := by
        unfold Lm.sws
        rw [List.map_set, List.map_set]; rfl
      show Go _ _ [some (Ref ro), some (In d), some (In i), none, some (N (L ((h0 :: t).map In))), some (rwP (R.getD h0 [])), none, none] [(ro, ML (((R.map rwP).set (h0 : Int).toNat (rwP (R.getD d []))).set (d : Int).toNat (rwP (R.getD h0 []))))] _ _
      rw [ew]
      have ok1 := sws_ok ok g2 hdm
      have okh : (R.getD h0 []).length = n := ok.2 h0 g2
      rw [ok.1]
      generalize Lm.sws R h0 d = R1 at ok1
      generalize R.getD h0 [] = hd0 at okh
      have hl1 : ((R1.map rwP).length : Int) = (m : Int) := by rw [List.length_map, ok1.1]
      refine go_forR2 (lo := (d : Int) + 1) (n := (m : Int)) 3 (fun _ => [some (Ref ro), some (In d), some (In i), none, some (N (L ((h0 :: t).map In))), some (rwP hd0), none, none]) (fun j => [(ro, ML ((Lm.adds d i hd0 R1 j).map rwP))]) (fun _ => True) (passes_of rfl) sc__law_rank.nd (ee_add (ee_var 1 rfl) ee_int) (ee_cast (ee_len (es_M 0 (ee_var 0 rfl) rfl) rfl b.len) (by rw [hl1])) (by omega) ⟨Wk.refl _, rfl, trivial⟩ rfl b.range (fun j hj _ => ?_) (fun _ => ?_)
      · have hjm : d + 1 + j < m := by omega
        have ej : (d : Int) + 1 + (j : Int) = ((d + 1 + j : Nat) : Int) := by omega
        have ok2 := adds_ok (d := d) (c := i) (hd := hd0) ok1 j (by omega)
        rw [Lm.adds_succ, ej]
        generalize Lm.adds d i hd0 R1 j = R2 at ok2
        generalize d + 1 + j = k at hjm
        unfold Lm.adk
        show Go _ _ [some (Ref ro), some (In d), some (In i), some (In k), some (N (L ((h0 :: t).map In))), some (rwP hd0), none, none] [(ro, ML (R2.map rwP))] _ _
        refine go_if (et_val (ee_ix (es_L (ee_ix (es_M 0 (ee_var 0 rfl) rfl) (ee_var 3 rfl) (at_rw ok2 hjm))) (ee_var 2 rfl) (at_bit ok2 hjm hin))) (fun h => ?_) (fun h => ?_)
        · rw [if_pos h]
          have e0 : ((List.range ((hd0.map Bo).length : Int).toNat).filter fun _ => true).map (fun (z : Nat) => Bo (!decide ((R2.getD k []).getD z false = hd0.getD z false))) = (Lm.mx (R2.getD k []) hd0).map Bo := by
            unfold Lm.mx
            rw [filt_true, Int.toNat_natCast, List.length_map, List.map_map, okh, ok2.2 k hjm]
            exact List.map_congr_left fun k _ => by rw [ne_xor]; rfl
          refine go_ix 0 (P := rwP (Lm.mx (R2.getD k []) hd0)) (ee_un (ee_N (en_cast (en_lcR (fun _ => true) (fun (z : Nat) => Bo (!decide ((R2.getD k []).getD z false = hd0.getD z false))) 7 sc__law_rank.nd (ee_len (es_L (ee_var 5 rfl)) rfl b.len) (by rw [List.length_map]; omega) (by omega) rfl b.range (blkOk_by (N := ["rows", "many", "column", "k", "heads", "head", "row", "j"]) (sc := defScope s__law_rank) (by decide +kernel)) (fun _ _ _ _ _ => pg_name (i := 7) sc__law_rank.nd rfl (Or.inl rfl)) (fun _ _ => rfl) (fun z hz _ => fun _ _ _ _ _ => ee_cmp cmp_neB (ee_ix (es_L (ee_ix (es_M 0 (ee_var 0 rfl) rfl) (ee_var 3 rfl) (at_rw ok2 hjm))) (ee_var 7 rfl) (atI_map (R := Bo) false ⟨by omega, by rw [List.length_map] at hz; rw [ok2.2 k hjm, ← okh]; exact hz⟩)) (ee_ix (es_L (ee_var 5 rfl)) (ee_var 7 rfl) (atI_map (R := Bo) false ⟨by omega, by rw [List.length_map] at hz; exact hz⟩)))) e0))) (ee_var 0 rfl) (ee_var 3 rfl) rfl (by rw [List.length_map, ok2.1]; exact ixN_ok (natP hjm)) (go_nil (go_nil ⟨⟨.inr rfl, .inr rfl, .inr rfl, .inl rfl, .inr rfl, .inr rfl, .inr rfl, .inr rfl, trivial⟩, ?_, trivial⟩))
          rw [List.map_set]; rfl
        · rw [if_neg (by rw [h]; decide)]
          exact go_nil (go_nil ⟨⟨.inr rfl, .inr rfl, .inr rfl, .inl rfl, .inr rfl, .inr rfl, .inr rfl, .inr rfl, trivial⟩, rfl, trivial⟩)
      · rw [show ((m : Int) - ((d : Int) + 1)).toNat = m - (d + 1) by omega]
        refine go_set 1 (ee_cast (P' := In (d + 1)) (ee_add (ee_var 1 rfl) ee_int) rfl) sc__law_rank.nd (go_nil (go_nil ⟨⟨.inr rfl, .inr rfl, .inl rfl, .inl rfl, .inl rfl, .inl rfl, .inl rfl, .inl rfl, trivial⟩, rfl, trivial⟩))
  · rw [Int.toNat_natCast]
    exact go_ret (ee_var 1 rfl) rfl
end
/-! the quiet sets told, counted -/
def rowsF (hs : List Bool) (ks : List (Int × Int)) : List (List Bool) := (List.range hs.length).map fun b => bitsF hs.length (trn hs ks b)
theorem bitsF_len (n : Nat) (xs : List Nat) : (bitsF n xs).length = n := by unfold bitsF; rw [List.length_map, List.length_range]
theorem bitsF_get {n : Nat} {xs : List Nat} {k : Nat} (h : k < n) : (bitsF n xs).getD k false = decide (k ∈ xs) := by
  unfold bitsF
  rw [Lm.getD_mapR, if_pos h]
theorem bits_ok {n : Nat} (l : List (List Nat)) : Lm.okM l.length n (l.map (bitsF n)) := ⟨List.length_map .., fun k hk => by
  rw [List.getD_eq_getElem?_getD, List.getElem?_map, List.getElem?_eq_getElem hk]
  exact bitsF_len n _⟩
theorem bits_cl {n : Nat} {l : List (List Nat)} {k j : Nat} {xs : List Nat} (hk : l[k]? = some xs) (hj : j < n) : Lm.cl (l.map (bitsF n)) k j = decide (j ∈ xs) := by
  unfold Lm.cl
  have e : (l.map (bitsF n)).getD k [] = bitsF n xs := by
    rw [List.getD_eq_getElem?_getD, List.getElem?_map, hk]; rfl
  rw [e]
  exact bitsF_get hj
theorem rows_cl {hs : List Bool} {ks : List (Int × Int)} {b j : Nat} (hb : b < hs.length) (hj : j < hs.length) : Lm.cl (rowsF hs ks) b j = hit hs ks b j := by
  unfold Lm.cl rowsF
  rw [Lm.getD_mapR, if_pos hb, bitsF_get hj, Bool.eq_iff_iff, decide_eq_true_eq, trn_mem]
  exact ⟨fun z => z.2, fun z => ⟨hj, z⟩⟩
theorem rows_ok (hs : List Bool) (ks : List (Int × Int)) : Lm.okM hs.length hs.length (rowsF hs ks) := ⟨by unfold rowsF; rw [List.length_map, List.length_range], fun k hk => by
  unfold rowsF
  rw [Lm.getD_mapR, if_pos hk]
  exact bitsF_len _ _⟩
/-- as many quiet sets as lamps, less as many as the turnings are unlike -/
theorem due_quiet {hs : List Bool} {ks : List (Int × Int)} (h : 0 < hs.length) : Lm.rank (rowsF hs ks) + (quietF hs ks).length = hs.length := by
  have hI : Lm.Inv hs.length (hit hs ks) (Lm.eqs hs.length (hit hs ks) (List.replicate hs.length false)) (waySt hs ks (List.replicate hs.length false)).1 hs.length (waySt hs ks (List.replicate hs.length false)).2 := Lm.clr_all
  have hq : (quietF hs ks).length = hs.length - (waySt hs ks (List.replicate hs.length false)).2.length := by
    unfold quietF Lm.quietL
    rw [List.length_map]
    exact Lm.free_len hI.ech.up hI.ech.lt
  have hk : ∀ x, Lm.Ker hs.length hs.length (Lm.cl (rowsF hs ks)) x ↔ Lm.Ker hs.length hs.length (Lm.Rw hs.length (Lm.eqs hs.length (hit hs ks) (List.replicate hs.length false))) x := fun x => by
    have e : ∀ k, k < hs.length → Lm.dot hs.length (Lm.cl (rowsF hs ks) k) x = Lm.dot hs.length (Lm.Rw hs.length (Lm.eqs hs.length (hit hs ks) (List.replicate hs.length false)) k) x := fun k hk => Lm.dot_congr (fun j hj => by rw [rows_cl hk hj, Lm.eqs_c hk hj, hit_com]) fun _ _ => rfl
    exact ⟨fun z k hk => (e k hk).symm.trans (z k hk), fun z k hk => (e k hk).trans (z k hk)⟩
  have hr := Lm.rank_same (rows_ok hs ks) h hI.ech fun x => (hk x).trans (hI.ker0 x).symm
  have hle := hI.ech.le
  rw [hr, hq]
  omega
/-- .. none of them had by putting others together -/
theorem quiet_rank (hs : List Bool) (ks : List (Int × Int)) : Lm.rank ((quietF hs ks).map (bitsF hs.length)) = (quietF hs ks).length := by
  have hI : Lm.Inv hs.length (hit hs ks) (Lm.eqs hs.length (hit hs ks) (List.replicate hs.length false)) (waySt hs ks (List.replicate hs.length false)).1 hs.length (waySt hs ks (List.replicate hs.length false)).2 := Lm.clr_all
  refine Lm.rank_full (n := hs.length) (bits_ok _) fun y hy k hk => ?_
  unfold quietF Lm.quietL at hy hk
  generalize waySt hs ks (List.replicate hs.length false) = st at hy hk hI
  obtain ⟨cs, hcs⟩ : ∃ cs, cs = (List.range hs.length).filter fun c => !decide (c ∈ st.2) := ⟨_, rfl⟩
  rw [← hcs] at hy hk
  have hnd : cs.Nodup := by rw [hcs]; exact List.nodup_range.filter _
  have hc : ∀ c ∈ cs, c < hs.length ∧ c ∉ st.2 := fun c h => by
    rw [hcs, List.mem_filter, List.mem_range] at h
    exact ⟨h.1, by simpa using h.2⟩
  rw [List.length_map] at hk
  have hck : cs[k]? = some cs[k] := List.getElem?_eq_getElem hk
  obtain ⟨h1, h2⟩ := hc _ (List.getElem_mem hk)
  have q := hy cs[k] h1
  rw [List.length_map] at q
  rw [Lm.sm_single (k := k) hk fun i hi hik => ?_] at q
  · rw [bits_cl (xs := Lm.qset st.1 st.2 cs[k]) (by rw [List.getElem?_map, hck]; rfl) h1] at q
    have : decide (cs[k] ∈ Lm.qset st.1 st.2 cs[k]) = true := Lm.qv_self st.1 st.2 cs[k]
    rw [this, Bool.and_true] at q
    exact q
  · have hci : cs[i]? = some cs[i] := List.getElem?_eq_getElem hi
    rw [bits_cl (xs := Lm.qset st.1 st.2 cs[i]) (by rw [List.getElem?_map, hci]; rfl) h1]
    have : decide (cs[k] ∈ Lm.qset st.1 st.2 cs[i]) = false := Lm.qv_free h2 fun z => hik ((List.getElem_inj hnd).mp z).symm
    rw [this, Bool.and_false]
theorem quiet_ne {hs : List Bool} {ks : List (Int × Int)} {xs : List Nat} (h : xs ∈ quietF hs ks) : xs ≠ [] := fun e => by
  obtain ⟨c, h1, _, h2, _⟩ := quiet_mem h
  have : c ∈ xs := by rw [h2, Lm.mem_sel]; exact ⟨h1, Lm.qv_self _ _ c⟩
  rw [e] at this
  exact List.not_mem_nil this
section
variable {P : Program} {w : World} {K : PySem.W.Frag} {mg : Str → Option Value} {base : Heap} {CY cNY cNL cAl cTi cUn : Addr}
def qlL (q : List (List Nat)) : Pr := L (q.map fun xs => L (xs.map In))
def c_right (hs : List Bool) (ks : List (Int × Int)) (q : List (List Nat)) : Cn := ⟨[qlL q, trnsP hs ks, In q.length], fun P _ => P = Bo true, [], fun _ _ => False⟩
def C_right : Cn → Prop := fun c => ∃ (hs : List Bool) (ks : List (Int × Int)) (q : List (List Nat)), hs.length ≤ 24 ∧ q = quietF hs ks ∧ c = c_right hs ks q
theorem ok_right {f : Addr} {fd : FuncData} (F : Fu K "_law_right" "_law_right" s__law_right f fd) (b : Bl mg) (Ml : Fnc P w K mg base "_law_lamps" C_lamps 2) (Mq : Fnc P w K mg base "_law_pressed" C_lpressed 1) (Mb : Fnc P w K mg base "_law_bits" C_bits 1) (Mr : Fnc P w K mg base "_law_rank" C_rank 1) : FnOk P w K mg base (L2N.CX P w) 3 f fd ["found", "turns", "due"] (spC C_right) := by
  refine fn_go F sc__law_right (fun c ⟨hs, ks, q, h1, h2, e⟩ => by subst e; exact ⟨rfl, ⟨hi_rows _, hi_trnsP, hi_I, trivial⟩, trivial⟩) fun c ⟨hs, ks, q, hn, hq, e⟩ cdv A outer s H E hr => ?_
  subst e
  have hqm : ∀ xs ∈ q, ∃ y, xs = Lm.sel hs.length y ∧ Lm.Sol hs.length (hit hs ks) (fun _ => false) y := fun xs hx => by
    obtain ⟨c, _, _, e, hk⟩ := quiet_mem (hq ▸ hx)
    exact ⟨_, e, hk⟩
  have hqn : ∀ xs ∈ q, xs ≠ [] := fun xs hx => quiet_ne (hq ▸ hx)
  have hrk : Lm.rank (q.map (bitsF hs.length)) = q.length := by rw [hq]; exact quiet_rank hs ks
  have hql : q.length ≤ 24 := by
    rw [hq]
    exact Nat.le_trans (qPart_len _ _ _) hn
  clear hq
  show Go _ _ [some (qlL q), some (trnsP hs ks), some (In q.length), none, none, none, none] [] _ _
  refine go_set 3 (ee_cast (P' := In hs.length) (ee_len (es_L (ee_var 1 rfl)) rfl b.len) (by rw [List.length_map, List.length_range]; rfl)) sc__law_right.nd ?_
  refine go_if (et_cast (k' := false) (et_w (ew_or (et_not (et_val (ee_isi (ee_var 0 rfl) ty_L (ee_bty rfl b.list (by decide +kernel)) (by decide +kernel : kitB "list" "list" = some true) rfl b.isi))) fun _ => ew_or1 (et_cmp cmp_ne (ee_cast (P' := I (q.length : Int)) (ee_len (es_L (ee_var 0 rfl)) rfl b.len) (by rw [List.length_map])) (ee_var 2 rfl)))) (by simp)) (fun h => nomatch h) (fun _ => go_nil ?_)
  refine go_lc (lcsR (n := (hs.length : Int)) 4 (fun _ => true) (fun _ => Bo false) 6 sc__law_right.nd (ee_var 3 rfl) (by omega) (by omega) rfl b.range (blkOk_by (N := ["found", "turns", "due", "many", "dark", "lamps", "k"]) (sc := defScope s__law_right) (by decide +kernel)) (fun _ _ _ _ _ => pg_name (i := 6) sc__law_right.nd rfl (Or.inl rfl)) (fun _ _ => rfl) (fun _ _ _ => fun _ _ _ _ _ => ee_bl)) ?_
  rw [show _ = _ from rep_cast (Int.toNat_natCast hs.length)]
  obtain ⟨dk, hdk⟩ : ∃ dk, dk = List.replicate hs.length false := ⟨_, rfl⟩
  have hdl : dk.length = hs.length := by rw [hdk, List.length_replicate]
  rw [← hdk]
  let Γ0 : Gam := [some (qlL q), some (trnsP hs ks), some (In q.length), some (In hs.length), some (N (L (dk.map Bo))), none, none]
  refine go_forL (ps := q.map fun xs => L (xs.map In)) 5 (fun _ => Γ0) (fun _ => []) (fun _ => True) (passes_of rfl) sc__law_right.nd (ef_L (ee_var 0 rfl)) ⟨Wk.refl _, rfl, trivial⟩ (fun i P hP _ => ?_) (fun _ => ?_)
  · obtain ⟨xs, hxs, rfl⟩ := map_get hP
    have hmem := List.mem_of_getElem? hxs
    obtain ⟨y, hy, hsol⟩ := hqm xs hmem
    have hne := hqn xs hmem
    have hlt : ∀ p ∈ xs, p < hs.length := by rw [hy]; exact sel_lt
    have hpr : prs hs ks dk xs = dk := by rw [hy]; exact (prs_ker hdl).mpr hsol
    have hxl : (xs.length : Int) ≠ 0 := by
      have := List.length_pos_iff.mpr hne
      omega
    refine go_if (et_cast (k' := false) (et_w (ew_or (et_not (et_val (ee_call (P := Bo true) (cj_fn0 Ml hr (by decide) rfl (ea_cons (ee_var 5 rfl) (ea_cons (ee_var 3 rfl) ea_nil))) (c_lamps hs.length xs) ⟨hs.length, y, xs, hn, hy, rfl⟩ (ho := fun _ _ q => q)))) fun _ => ew_or (et_cmp cmp_eq (ee_cast (P' := I (xs.length : Int)) (ee_len (es_L (ee_var 5 rfl)) rfl b.len) (by rw [List.length_map])) ee_int) fun _ => ew_or1 (et_neBs hr (ee_un (ee_call (P := N (L ((prs hs ks dk xs).map Bo))) (cj_fn0 Mq hr (by decide) rfl (ea_cons (ee_un (ee_var 4 rfl)) (ea_cons (ee_var 1 rfl) (ea_cons (ee_var 5 rfl) ea_nil)))) (c_lpressed hs ks dk xs) ⟨hs, ks, dk, xs, hdl, hlt, rfl⟩ (ho := fun _ _ q => q))) (ee_un (ee_var 4 rfl))))) (by rw [hpr, decide_eq_false hxl]; simp)) (fun h => nomatch h) (fun _ => go_nil (go_nil ⟨⟨.inr rfl, .inr rfl, .inr rfl, .inr rfl, .inr rfl, .inl rfl, .inr rfl, trivial⟩, rfl, trivial⟩))
  · refine go_ret (ee_cmp cmp_eq (ee_call (P := In (Lm.rank (q.map (bitsF hs.length)))) (cj_fn0 Mr hr (by decide) rfl (ea_cons (ee_imp (ee_un (ee_N (en_lc (R := fun xs : List Nat => L (xs.map In)) (l := q) (fun _ => true) (fun xs => N (rwP (bitsF hs.length xs))) 5 sc__law_right.nd (ef_L (ee_var 0 rfl)) (by omega) (blkOk_by (N := ["found", "turns", "due", "many", "dark", "lamps", "k"]) (sc := defScope s__law_right) (by decide +kernel)) (fun _ _ _ _ _ => pg_name (i := 5) sc__law_right.nd rfl (Or.inl rfl)) (fun _ _ => rfl) (fun xs _ _ => fun _ _ _ _ _ => ee_call (P := N (rwP (bitsF hs.length xs))) (cj_fn0 Mb hr (by decide) rfl (ea_cons (ee_var 5 rfl) (ea_cons (ee_var 3 rfl) ea_nil))) (c_bits hs.length xs) ⟨hs.length, xs, hn, rfl⟩ (ho := fun _ _ q => q))))) (P' := L ((q.map (bitsF hs.length)).map rwP)) (by
      rw [filt_true, List.map_map]
      exact imp_L (imps_map (R := fun xs => N (rwP (bitsF hs.length xs))) (R' := fun xs => rwP (bitsF hs.length xs)) (fun _ => imp_N _) q))) ea_nil)) (c_rank (q.map (bitsF hs.length))) ⟨q.length, hs.length, _, bits_ok q, hql, hn, rfl⟩ (ho := fun _ _ q => q)) (ee_var 2 rfl)) ?_
    show Bo _ = Bo true
    rw [hrk, decide_eq_true rfl]
end
/-! quiet sets whose lists may change -/
def qEnt (fo : Addr) (as : List Addr) (q : List (List Nat)) : Del := (fo, ML (as.map Ref)) :: as.zip (q.map fun xs => ML (xs.map In))
section
variable {P : Program} {w : World} {K : PySem.W.Frag} {mg : Str → Option Value} {base : Heap} {CY cNY cNL cAl cTi cUn : Addr}
def c_quietM (CY : Addr) (hs : List Bool) (ks : List (Int × Int)) (q : List (List Nat)) : Cn := ⟨[YV CY hs ks], fun P D => ∃ fo as, as.length = q.length ∧ P = Ref fo ∧ D = qEnt fo as q, [], fun _ _ => False⟩
def C_quietM (CY : Addr) : Cn → Prop := fun x => ∃ (hs : List Bool) (ks : List (Int × Int)) (q : List (List Nat)), hs.length ≤ 24 ∧ q = quietF hs ks ∧ x = c_quietM CY hs ks q
theorem ok_quietM {f : Addr} {fd : FuncData} (F : Fu K "quiet" "quiet" s_quiet f fd) (b : Bl mg) (T' : Yt K mg CY cNY cNL cAl cTi cUn) (Me : Fnc P w K mg base "equations" (C_eqs CY) 3) (Mc : Fnc P w K mg base "cleared" C_cleared 3) : FnOk P w K mg base (L2N.CX P w) 4 f fd ["yard"] (spC (C_quietM CY)) := by
  refine fn_go F sc_quiet (fun x ⟨hs, ks, q, h1, h2, e⟩ => by subst e; exact ⟨rfl, ⟨hi_YV, trivial⟩, trivial⟩) fun x ⟨hs, ks, q, hn, hq, e⟩ cdv A outer s H E hr => ?_
  subst e
  have hv : (List.replicate hs.length false).length = hs.length := List.length_replicate
  have hI : Lm.Inv hs.length (hit hs ks) (Lm.eqs hs.length (hit hs ks) (List.replicate hs.length false)) (waySt hs ks (List.replicate hs.length false)).1 hs.length (waySt hs ks (List.replicate hs.length false)).2 := Lm.clr_all
  have hq : q = qPart (waySt hs ks (List.replicate hs.length false)).1 (waySt hs ks (List.replicate hs.length false)).2 hs.length := hq
  refine go_tup2 1 2 (em_of (ee_call (P := N (T [N (L ((waySt hs ks (List.replicate hs.length false)).1.map eqP)), N (L ((waySt hs ks (List.replicate hs.length false)).2.map In))])) (cj_fn0 Mc hr (by decide) rfl (ea_cons (ee_un (ee_call (P := N (L ((Lm.eqs hs.length (hit hs ks) (List.replicate hs.length false)).map eqP))) (cj_fn0 Me hr (by decide) rfl (ea_cons (ee_var 0 rfl) (ea_cons (ee_un (ee_N (en_cast (en_lcR (fun _ => true) (fun _ => Bo false) 6 sc_quiet.nd (ee_fld (ee_var 0 rfl) T'.cl T'.nm 0 rfl rfl) (by omega) (by omega) rfl b.range (blkOk_by (N := ["yard", "rows", "leads", "found", "column", "others", "k"]) (sc := defScope s_quiet) (by decide +kernel)) (fun _ _ _ _ _ => pg_name (i := 6) sc_quiet.nd rfl (Or.inl rfl)) (fun _ _ => rfl) (fun _ _ _ => fun _ _ _ _ _ => ee_bl)) (rep_cast (Int.toNat_natCast hs.length))))) ea_nil))) _ ⟨hs, ks, _, hv, hn, rfl⟩ (ho := fun _ _ q => q))) ea_nil)) _ ⟨hs.length, _, Lm.eqs_ok, hn, rfl⟩ (ho := fun _ _ q => q))) (Kx := fun _ _ => False) (fun _ _ q => q.elim) (fun P' Δ' ⟨e1, e2⟩ => ⟨_, _, e1, ?_⟩) sc_quiet.nd
  subst e2
  show Go _ _ [some (YV CY hs ks), some (N (L ((waySt hs ks (List.replicate hs.length false)).1.map eqP))), some (N (L ((waySt hs ks (List.replicate hs.length false)).2.map In))), none, none, none, none] _ _ _
  generalize waySt hs ks (List.replicate hs.length false) = st at hI hq
  obtain ⟨R, ps⟩ := st
  have okR := hI.ok
  have psl : ps.length ≤ hs.length := hI.ech.le
  have hlp : ((ps.map In).length : Int) = (ps.length : Int) := by rw [List.length_map]
  refine go_setM (Kx := fun _ _ => False) 3 (em_N (en_lst ea_nil)) sc_quiet.nd (fun _ _ q => q) fun P' Δ' ⟨fo, hfm, e1, e2⟩ => ?_
  subst e1 e2
  let Γ0 : Gam := [some (YV CY hs ks), some (N (L (R.map eqP))), some (N (L (ps.map In))), some (Ref fo), none, none, none]
  refine go_forRJ 4 (fun i Γ' Δ' => Wk Γ' Γ0 ∧ ∃ as : List Addr, as.length = (qPart R ps i).length ∧ Δ' = qEnt fo as (qPart R ps i)) (passes_of rfl) sc_quiet.nd (ee_fld (ee_var 0 rfl) T'.cl T'.nm 0 rfl rfl) (by omega) (by omega) ⟨Wk.refl _, [], rfl, rfl⟩ rfl b.range (fun i Γ' Δ' hi ⟨wk, as, hal, eΔ⟩ => ?_) (fun Γ' Δ' ⟨wk, as, hal, eΔ⟩ => ?_)
  · have hin : i < hs.length := by omega
    subst eΔ
    have wk2 : Wk (Γ'.set 4 (some (I (i : Int)))) [some (YV CY hs ks), some (N (L (R.map eqP))), some (N (L (ps.map In))), some (Ref fo), some (In i), none, none] := by
      match Γ', wk with
      | [_, _, _, _, _, _, _], ⟨a0, a1, a2, a3, a4, a5, a6, t⟩ => exact ⟨a0, a1, a2, a3, .inr rfl, a5, a6, t⟩
    refine go_wk wk2 ?_
    have hql := qPart_len R ps i
    rw [qPart_succ]
    refine go_if (et_cast (et_ninI (ee_var 4 rfl) (es_cast (es_L (ee_un (ee_var 2 rfl))) (map_In ps))) (k' := !decide (i ∈ ps)) (by rw [in_nats])) (fun h => ?_) (fun h => ?_)
    · have hni : i ∉ ps := by simpa using h
      rw [if_neg hni]
      have e1 : ((List.range (ps.length : Int).toNat).filter fun (k : Nat) => Lm.cel R k i).map (fun (k : Nat) => In (ps.getD k 0)) = (Lm.oth R ps i).map In := by
        unfold Lm.oth
        rw [Int.toNat_natCast, List.map_map]; rfl
      refine go_lc (lcsR 5 (fun (k : Nat) => Lm.cel R k i) (fun (k : Nat) => In (ps.getD k 0)) 6 sc_quiet.nd (ee_cast (ee_len (es_L (ee_un (ee_var 2 rfl))) rfl b.len) (P' := I (ps.length : Int)) (by rw [hlp])) (by omega) (by omega) rfl b.range (blkOk_by (N := ["yard", "rows", "leads", "found", "column", "others", "k"]) (sc := defScope s_quiet) (by decide +kernel)) (fun _ _ _ _ _ => pg_name (i := 6) sc_quiet.nd rfl (Or.inl rfl)) (fun z hz => fun _ _ _ _ _ => et_val (ee_ix (es_L (ee_ixT (ee_ix (es_L (ee_un (ee_var 1 rfl))) (ee_var 6 rfl) (at_row okR (by omega))) ee_int (P := L ((R.getD z Lm.e0).1.map Bo)) rfl)) (ee_var 4 rfl) (at_cell okR (by omega) hin))) (fun z hz _ => fun _ _ _ _ _ => ee_ix (es_L (ee_un (ee_var 2 rfl))) (ee_var 6 rfl) (atI_map 0 ⟨by omega, hz⟩))) ?_
      rw [e1]
      have up := Lm.qset_up hI hin hni
      have hol : (Lm.oth R ps i).length ≤ 24 := by
        unfold Lm.oth
        rw [List.length_map]
        exact Nat.le_trans (List.length_filter_le _ _) (by rw [List.length_range]; omega)
      have epm : ((Lm.qset R ps i).map fun (k : Nat) => (k : Int)).Perm (([i] ++ Lm.oth R ps i).map fun (k : Nat) => (k : Int)) := List.Perm.map _ List.perm_append_comm
      refine go_appN 0 (ee_var 3 rfl) (en_cast (qs := (Lm.qset R ps i).map In) (en_sorted (ns := ([i] ++ Lm.oth R ps i).map fun (k : Nat) => (k : Int)) (ns' := (Lm.qset R ps i).map fun (k : Nat) => (k : Int)) (es_cast (es_C (ec_N (en_cat (ec_N (en_lst (ea_cons (ee_var 4 rfl) ea_nil))) (ec_L (ee_un (ee_var 5 rfl))) (by rw [List.length_map]; simp; omega)))) (by rw [List.map_map, List.map_append]; rfl)) (by rw [List.length_map, List.length_append]; simp; omega) epm (List.pairwise_map.mpr (up.imp fun h => by omega)) rfl b.sorted) (map_In _).symm) rfl (by rw [List.length_map, hal]; omega) fun r _ => ?_
      refine go_nil (go_nil ⟨⟨.inr rfl, .inr rfl, .inr rfl, .inr rfl, .inl rfl, .inl rfl, .inr rfl, trivial⟩, as ++ [r], by rw [List.length_append, List.length_append, hal]; rfl, ?_⟩)
      unfold qEnt
      rw [List.map_append (l₂ := [r]), List.map_append (l₂ := [Lm.qset R ps i]), List.zip_append (by rw [List.length_map]; exact hal)]
      rfl
    · have hni : i ∈ ps := by simpa using h
      rw [if_pos hni, List.append_nil]
      exact go_nil (go_nil ⟨⟨.inr rfl, .inr rfl, .inr rfl, .inr rfl, .inl rfl, .inl rfl, .inr rfl, trivial⟩, as, hal, rfl⟩)
  · subst eΔ
    rw [Int.toNat_natCast, ← hq] at hal
    rw [Int.toNat_natCast, ← hq]
    exact go_wk wk (go_ret (ee_var 3 rfl) ⟨fo, as, hal, rfl, rfl⟩)
end
def flipN (k : Nat) (sh : List Bool) : Nat → List Bool
  | 0 => sh
  | i + 1 => (flipN k sh i).set k (!(flipN k sh i).getD k false)
theorem flipN_len (k : Nat) (sh : List Bool) : ∀ i, (flipN k sh i).length = sh.length
  | 0 => rfl
  | i + 1 => by
    show ((flipN k sh i).set k _).length = _
    rw [List.length_set, flipN_len k sh i]
theorem br_qEnt {Δ0 : Del} {fo : Addr} {as : List Addr} {q : List (List Nat)} (hal : as.length = q.length) : Br (qEnt fo as q ++ Δ0) (Ref fo) (qlL q) := by
  have e1 : (q.map fun xs => ML (xs.map In)) = (q.map fun xs => xs.map In).map ML := by rw [List.map_map]; rfl
  have e2 : (q.map fun xs => L (xs.map In)) = (q.map fun xs => xs.map In).map L := by rw [List.map_map]; rfl
  refine br_ML 0 rfl ?_
  rw [e2]
  refine brs_refs 1 (by rw [List.length_map]; exact hal) fun i hi => ?_
  unfold qEnt
  rw [e1, Nat.add_comm, List.cons_append, List.getElem?_cons_succ, List.getElem?_append_left]
  rw [List.length_zip, List.length_map, List.length_map]
  omega
/-- a nought put behind each of the first i lists -/
def addE (q : List (List Nat)) (i : Nat) : List Ob := ((q.take i).map fun xs => ML (xs.map In ++ [I 0])) ++ (q.drop i).map fun xs => ML (xs.map In)
def qAdd (fo : Addr) (as : List Addr) (q : List (List Nat)) (i : Nat) : Del := (fo, ML (as.map Ref)) :: as.zip (addE q i)
theorem addE_at {q : List (List Nat)} {i : Nat} {xs : List Nat} (h : q[i]? = some xs) : (addE q i)[i]? = some (ML (xs.map In)) ∧ (addE q i).set i (ML (xs.map In ++ [I 0])) = addE q (i + 1) := by
  have hil : i < q.length := (List.getElem?_eq_some_iff.mp h).1
  have hl : ((q.take i).map fun xs => ML (xs.map In ++ [I 0])).length = i := by rw [List.length_map, List.length_take]; omega
  have hd : q.drop i = xs :: q.drop (i + 1) := by
    rw [List.drop_eq_getElem_cons hil, (List.getElem?_eq_some_iff.mp h).2]
  unfold addE
  constructor
  · rw [List.getElem?_append_right (by omega), hl, Nat.sub_self, hd]; rfl
  · rw [List.set_append_right _ _ (by omega), hl, Nat.sub_self, hd, take_get h, List.map_append, List.append_assoc]; rfl
theorem qAdd_at {Δ0 : Del} {fo c : Addr} {as : List Addr} {q : List (List Nat)} {i : Nat} {xs : List Nat} (hc : as[i]? = some c) (h : q[i]? = some xs) : (qAdd fo as q i ++ Δ0)[1 + i]? = some (c, ML (xs.map In)) ∧ (qAdd fo as q i ++ Δ0).set (1 + i) (c, ML (xs.map In ++ [I 0])) = qAdd fo as q (i + 1) ++ Δ0 := by
  obtain ⟨h1, h2⟩ := addE_at h
  have hz : (as.zip (addE q i))[i]? = some (c, ML (xs.map In)) := List.getElem?_zip_eq_some.mpr ⟨hc, h1⟩
  have hl := (List.getElem?_eq_some_iff.mp hz).1
  unfold qAdd
  constructor
  · rw [Nat.add_comm, List.cons_append, List.getElem?_cons_succ, List.getElem?_append_left hl]
    exact hz
  · rw [Nat.add_comm, List.cons_append, List.set_cons_succ, List.set_append_left _ _ hl, zip_set hc, h2]; rfl
theorem sb_qEnt {fo : Addr} {as : List Addr} {q : List (List Nat)} : ∀ z ∈ qEnt fo as q, ∀ (h B B' : Hp) (o : HO), (∀ a, h a = none → B' a = B a) → z.2.p h B o → z.2.p h B' o := fun z hz h B B' o e p => by
  rcases List.mem_cons.mp hz with rfl | hz
  · exact sb_ML (Sbs.map (fun _ => sb_Ref) _) e p
  · have := (List.of_mem_zip (a := z.1) (b := z.2) hz).2
    obtain ⟨xs, _, hx⟩ := List.mem_map.mp this
    rw [← hx] at p ⊢
    exact sb_ML (Sbs.map (fun _ => sb_I) _) e p
theorem imp_qlP (q : List (List Nat)) : Imp (N (qlP q)) (qlL q) := fun h B v p => imp_L (imps_map (R := fun xs : List Nat => N (L (xs.map In))) (R' := fun xs : List Nat => L (xs.map In)) (fun _ => imp_N _) q) h B v p.1
theorem due_cast {hs : List Bool} {ks : List (Int × Int)} {q : List (List Nat)} (h : 0 < hs.length) (hq : q = quietF hs ks) : I ((hs.length : Int) - (Lm.rank (rowsF hs ks) : Int)) = In q.length := by
  have := due_quiet (ks := ks) h
  rw [← hq] at this
  exact congrArg I (by omega)
section
variable {P : Program} {w : World} {K : PySem.W.Frag} {mg : Str → Option Value} {base : Heap} {CY cNY cNL cAl cTi cUn : Addr}
theorem ok_law {f : Addr} {fd : FuncData} (F : Fu K "law" "law" s_law f fd) (b : Bl mg) (Mc : Fnc P w K mg base "_law_cell_at" (C_cell K) 1) (Md : Fnc P w K mg base "_law_drawn" (C_drawn K) 2) (Mb : Fnc P w K mg base "_law_built" (C_built CY) 5) (Mt : Fnc P w K mg base "_law_turns" C_lturns 1) (Mbi : Fnc P w K mg base "_law_bits" C_bits 1) (Mrk : Fnc P w K mg base "_law_rank" C_rank 1)
    (Mrt : Fnc P w K mg base "_law_right" C_right 3) (Mq : Fnc P w K mg base "quiet" (C_quiet CY) 4) (Mqm : Fnc P w K mg base "quiet" (C_quietM CY) 4) (Mti : Mtc P w K mg base CY "tie" (C_tie CY cNL cAl cTi) 4 []) (Mu : Mtc P w K mg base CY "untie" (C_untie CY cNL cAl cUn) 4 []) (Ms : Mtc P w K mg base CY "set_shy" (C_setshy CY cNL) 2 []) : FnOk P w K mg base (L2N.CX P w) 6 f fd ["script"] (spC (Yb.C_law K)) := by
  refine fn_go F sc_law (fun c ⟨sc, h63, e⟩ => by subst e; exact ⟨rfl, ⟨hi_Scr, trivial⟩, trivial⟩) fun c ⟨sc, h63, e⟩ cdv A outer s H E hr => ?_
  subst e
  refine go_tup3 1 2 3 (em_call (cj_fn Md hr (by decide) (by rfl) (ea_cons (ee_var 0 rfl) ea_nil)) (c_drawn K sc) ⟨sc, rfl⟩ (rest := []) (List.Perm.refl _)) (fun _ _ ⟨_, q, _⟩ => q.elim) (fun P' Δ' ⟨D, ⟨tiA, shA, e1, e2⟩, e3⟩ => ⟨_, _, _, e1, ?_⟩) sc_law.nd
  subst e2 e3
  refine go_frz 0 2 rfl List.not_mem_nil rfl ?_
  have hn := manyF_ok (cellAt sc 0)
  have hsl := shyF_len sc (manyF (cellAt sc 0)).toNat
  have TO : TiesOk ((shyF sc (manyF (cellAt sc 0)).toNat).length : Int) (tiesF sc (manyF (cellAt sc 0)).toNat) := by
    rw [hsl]
    exact tiesF_ok sc (by omega)
  have hfw : (tiesF sc (manyF (cellAt sc 0)).toNat).length ≤ 288 := tiesF_few sc (by omega)
  have hnn : manyF (cellAt sc 0) = ((shyF sc (manyF (cellAt sc 0)).toNat).length : Int) := by omega
  generalize shyF sc (manyF (cellAt sc 0)).toNat = shy at TO hsl hnn
  generalize tiesF sc (manyF (cellAt sc 0)).toNat = ties at TO hfw
  generalize manyF (cellAt sc 0) = n at hn hsl hnn
  subst hnn
  have hn24 : 1 ≤ shy.length ∧ shy.length ≤ 24 := by omega
  have hn0 : (0 : Int) < (shy.length : Int) := by omega
  refine go_set 4 (ee_callB (P := N (trnsNP shy ties)) (cj_fn0 Mt hr (by decide) rfl (ea_cons (ee_var 1 rfl) (ea_cons (ee_un (ee_var 2 rfl)) (ea_cons (ee_var 3 rfl) ea_nil)))) (c_lturns ties shy) ⟨ties, shy, TO, hn24.2, rfl⟩ (bc br_ (bc br_ (bc (br_L 0 rfl) Yb.bn))) (sb_trnsN _ _) (ho := fun _ _ q => q)) sc_law.nd ?_
  refine go_setM (Kx := fun _ _ => False) 5 (em_callN (cj_fn0 Mb hr (by decide) (by rfl) (ea_cons (ee_var 1 rfl) (ea_cons (ee_un (ee_var 2 rfl)) (ea_cons (ee_var 3 rfl) ea_nil)))) (c_built CY ties shy) ⟨ties, shy, TO, hn24, rfl⟩ (bc br_ (bc br_ (bc (br_L 0 rfl) Yb.bn))) (fun P D ⟨d, l, e1, e2⟩ => by subst e1; exact sb_NI ⟨sb_I, sb_Ref, sb_Ref, trivial⟩) (fun P D ⟨d, l, e1, e2⟩ z hz h B B' o e q => by
    subst e2
    rcases List.mem_cons.mp hz with rfl | hz
    · exact q
    · rcases List.mem_cons.mp hz with rfl | hz
      · exact sb_ML (Sbs.map (fun _ => sb_Bo) _) e q
      · exact absurd hz List.not_mem_nil)) sc_law.nd (fun _ _ q => q) fun P' Δ' ⟨D, ⟨d, l, e1, e2⟩, e3, _⟩ => ?_
  subst e1 e2 e3
  show Go _ _ _ [(d, MT ties), (l, ML (shy.map Bo)), (shA, ML (shy.map Bo))] _ _
  obtain ⟨q, hq⟩ : ∃ q, q = quietF shy ties := ⟨_, rfl⟩
  have hql : q.length ≤ 24 := by rw [hq]; exact Nat.le_trans (quiet_len _ _) hn24.2
  have hqx : ∀ xs ∈ q, xs.length ≤ 24 := fun xs hx => by
    obtain ⟨c, _, _, e, _⟩ := quiet_mem (hq ▸ hx)
    rw [e]
    exact Nat.le_trans (sel_len _ _) hn24.2
  show Go _ _ [some (Scr K sc), some (I (shy.length : Int)), some (N (L (ties.map tP))), some (Ref shA), some (N (trnsNP shy ties)), some (N (YM CY (shy.length : Int) d l)), none, none, none, none, none, none, none, none] _ _ _
  refine go_set 6 (ee_cast (P' := In q.length) (ee_sub (ee_var 1 rfl) (ee_call (P := In (Lm.rank (rowsF shy ties))) (cj_fn0 Mrk hr (by decide) rfl (ea_cons (ee_imp (ee_un (ee_N (en_lc (R := fun i => N (L ((trn shy ties i).map In))) (l := List.range shy.length) (fun _ => true) (fun i => N (rwP (bitsF shy.length (trn shy ties i)))) 13 sc_law.nd (ef_L (ee_un (ee_var 4 rfl))) (by rw [List.length_range]; omega) (blkOk_by (N := ["script", "many", "ties", "shy", "turns", "yard", "due", "turn", "found", "lamps", "others", "lamp", "tie", "row"]) (sc := defScope s_law) (by decide +kernel)) (fun _ _ _ _ _ => pg_name (i := 13) sc_law.nd rfl (Or.inl rfl)) (fun _ _ => rfl) (fun i _ _ => fun _ _ _ _ _ => ee_call (P := N (rwP (bitsF shy.length (trn shy ties i)))) (cj_fn0 Mbi hr (by decide) rfl (ea_cons (ee_un (ee_var 13 rfl)) (ea_cons (ee_var 1 rfl) ea_nil))) (c_bits shy.length (trn shy ties i)) ⟨_, _, by omega, rfl⟩ (ho := fun _ _ q => q))))) (P' := L ((rowsF shy ties).map rwP)) (by
    unfold rowsF
    rw [filt_true, List.map_map]
    exact imp_L (imps_map (R := fun i => N (rwP (bitsF shy.length (trn shy ties i)))) (R' := fun i => rwP (bitsF shy.length (trn shy ties i))) (fun _ => imp_N _) _))) ea_nil)) (c_rank (rowsF shy ties)) ⟨_, _, _, rows_ok shy ties, by omega, by omega, rfl⟩ (ho := fun _ _ q => q))) (due_cast (by omega) hq)) sc_law.nd ?_
  let Γ0 : Gam := [some (Scr K sc), some (I (shy.length : Int)), some (N (L (ties.map tP))), some (Ref shA), some (N (trnsNP shy ties)), some (N (YM CY (shy.length : Int) d l)), some (In q.length), none, none, none, none, none, none, none]
  let Δ0 : Del := [(d, MT ties), (l, ML (shy.map Bo)), (shA, ML (shy.map Bo))]
  refine go_forR 7 (fun _ => Γ0) (fun _ => Δ0) (fun _ => True) (passes_of rfl) sc_law.nd ee_int (by decide) (by decide) ⟨Wk.refl _, rfl, trivial⟩ rfl b.range (fun i hi _ => ?_) (fun _ => ?_)
  · refine go_setM (Kx := fun _ _ => False) 8 (em_callN (cj_fn0 Mqm hr (by decide) (by rfl) (ea_cons (ee_un (ee_var 5 rfl)) ea_nil)) (c_quietM CY shy ties q) ⟨shy, ties, q, hn24.2, hq, rfl⟩ (bc (br_I (bc br_ (bc (br_D 0 rfl) (bc (br_L 1 rfl) Yb.bn)))) Yb.bn) (fun P D ⟨fo, as, _, e1, _⟩ => by subst e1; exact sb_Ref) (fun P D ⟨fo, as, _, _, e2⟩ => by subst e2; exact sb_qEnt)) sc_law.nd (fun _ _ q => q) fun P' Δ' ⟨D, ⟨fo, as, hal, e1, e2⟩, e3, _⟩ => ?_
    subst e1 e2 e3
    let Γ1 : Gam := [some (Scr K sc), some (I (shy.length : Int)), some (N (L (ties.map tP))), some (Ref shA), some (N (trnsNP shy ties)), some (N (YM CY (shy.length : Int) d l)), some (In q.length), none, some (Ref fo), none, none, none, none, none]
    refine go_wk (Γ' := Γ1) (by exact ⟨.inr rfl, .inr rfl, .inr rfl, .inr rfl, .inr rfl, .inr rfl, .inr rfl, .inl rfl, .inr rfl, .inr rfl, .inr rfl, .inr rfl, .inr rfl, .inr rfl, trivial⟩) ?_
    show Go _ _ Γ1 (qEnt fo as q ++ Δ0) _ _
    refine go_if (et_not (et_val (ee_callB (P := Bo true) (cj_fn0 Mrt hr (by decide) (by rfl) (ea_cons (ee_var 8 rfl) (ea_cons (ee_imp (ee_var 4 rfl) (imp_trns shy ties)) (ea_cons (ee_var 6 rfl) ea_nil)))) (c_right shy ties q) ⟨shy, ties, q, hn24.2, hq, rfl⟩ (bc (br_qEnt hal) (bc br_ (bc br_ Yb.bn))) sb_Bo (ho := fun _ _ q => q)))) (fun h => nomatch h) (fun _ => go_nil ?_)
    refine go_forRefs (l := fo) (as := as) 0 9 (fun _ => Γ1) (fun i => qAdd fo as q i ++ Δ0) (passes_of rfl) sc_law.nd (ee_var 8 rfl) (fun _ _ => rfl) ⟨Wk.refl _, rfl⟩ (fun i c hc => ?_) ?_
    · have hil : i < q.length := by rw [← hal]; exact (List.getElem?_eq_some_iff.mp hc).1
      have hx : q[i]? = some q[i] := List.getElem?_eq_getElem hil
      have hxl := hqx q[i] (List.getElem_mem hil)
      obtain ⟨k1, k2⟩ := qAdd_at (Δ0 := Δ0) (fo := fo) hc hx
      refine go_app (1 + i) (ee_var 9 rfl) ee_int k1 (by rw [List.length_map]; omega) (go_nil ⟨⟨.inr rfl, .inr rfl, .inr rfl, .inr rfl, .inr rfl, .inr rfl, .inr rfl, .inr rfl, .inr rfl, .inl rfl, .inr rfl, .inr rfl, .inr rfl, .inr rfl, trivial⟩, k2⟩)
    · refine go_app 0 (ee_var 8 rfl) (ee_N (en_lst (ea_cons ee_int ea_nil))) rfl (by rw [List.length_map]; omega) ?_
      refine go_drop (Δ' := Δ0) (List.sublist_append_right (_ :: _) Δ0) (go_nil ⟨⟨.inr rfl, .inr rfl, .inr rfl, .inr rfl, .inr rfl, .inr rfl, .inr rfl, .inr rfl, .inl rfl, .inr rfl, .inr rfl, .inr rfl, .inr rfl, .inr rfl, trivial⟩, rfl, trivial⟩)
  show Go _ _ Γ0 Δ0 _ _
  refine go_if (et_cmp cmp_eq (ee_var 1 rfl) ee_int) (fun _ => go_ret ee_bl rfl) (fun hn1 => go_nil ?_)
  have hn1 : (shy.length : Int) ≠ 1 := of_decide_eq_false hn1
  obtain ⟨p1, p2⟩ := pair_lt (p := othP (shy.length : Int)) (by show (0 : Int) < (shy.length : Int) - 1; omega)
  have p1 : pair 0 ((shy.length : Int) - 1) = othP (shy.length : Int) := p1
  have p2 : pair ((shy.length : Int) - 1) 0 = othP (shy.length : Int) := p2
  have e0 : othT (shy.length : Int) ties = if othP (shy.length : Int) ∈ ties then ties.filter (fun q => decide (q ≠ othP (shy.length : Int))) else ties ++ [othP (shy.length : Int)] := by unfold othT; rw [if_neg hn1]
  have tupE : ∀ {X : Cx} {Γ : Gam} {Δ : Del} {a c : Expr} {k : Nat} {q : Pos}, EE X Γ Δ a (I 0) → EE X Γ Δ c (I ((shy.length : Int) - 1)) → (starEach [a, c] X.env = (false, eval a X.env) :: starEach [c] X.env) → (starEach [c] X.env = (false, eval c X.env) :: starEach [] X.env) → EE X Γ Δ (.Tuple [a, c] k q) (N (tP (othP (shy.length : Int)))) := fun h1 h2 h3 h4 => ee_tup (ea_cons h1 (ea_cons h2 ea_nil h4) h3)
  refine go_lcM (lcs (R := tP) (l := ties) 10 (fun q => decide (q ≠ othP (shy.length : Int))) tP 12 sc_law.nd (ef_L (ee_un (ee_var 2 rfl))) (by have := TO.few; omega) (blkOk_by (N := ["script", "many", "ties", "shy", "turns", "yard", "due", "turn", "found", "lamps", "others", "lamp", "tie", "row"]) (sc := defScope s_law) (by decide +kernel)) (fun _ _ _ _ _ => pg_name (i := 12) sc_law.nd rfl (Or.inl rfl)) (fun q _ => fun _ _ _ _ _ => et_cast (et_neD (k := decide (q = othP (shy.length : Int))) (hu64 hr) (edt (ee_var 12 rfl) dat_tP) (edt (tupE ee_int (ee_sub (ee_var 1 rfl) ee_int) rfl rfl) (dat_N dat_tP)) (pD_shaped _) (pD_shaped _) (pD_eqv q _)) (by simp)) (fun _ _ _ => fun _ _ _ _ _ => ee_var 12 rfl)) fun ot hot => ?_
  let Γ2 : Gam := [some (Scr K sc), some (I (shy.length : Int)), some (N (L (ties.map tP))), some (Ref shA), none, some (N (YM CY (shy.length : Int) d l)), none, none, none, none, some (Ref ot), none, none, none]
  refine go_wk (Γ' := Γ2) (by exact ⟨.inr rfl, .inr rfl, .inr rfl, .inr rfl, .inl rfl, .inr rfl, .inl rfl, .inr rfl, .inr rfl, .inr rfl, .inr rfl, .inr rfl, .inr rfl, .inr rfl, trivial⟩) ?_
  show Go _ _ Γ2 [(d, MT ties), (l, ML (shy.map Bo)), (shA, ML (shy.map Bo)), (ot, ML ((ties.filter fun q => decide (q ≠ othP (shy.length : Int))).map tP))] _ _
  have TO3 := othP_no TO (by omega) hfw
  refine go_ifc (fun Γ' Δ' => Wk Γ' Γ2 ∧ Δ' = [(d, MT (othT (shy.length : Int) ties)), (l, ML (shy.map Bo)), (shA, ML (shy.map Bo)), (ot, ML ((othT (shy.length : Int) ties).map tP))]) (et_cmp cmp_eq (ee_len (es_M 3 (ee_var 10 rfl) rfl) rfl b.len) (ee_len (es_L (ee_un (ee_var 2 rfl))) rfl b.len)) (fun h => ?_) (fun h => ?_) (fun Γ' Δ' ⟨wk, eΔ⟩ => go_wk wk ?_)
  · have hin : othP (shy.length : Int) ∉ ties := fun z => by
      rw [List.length_map, List.length_map] at h
      have h2 : ((ties.filter fun q => decide (q ≠ othP (shy.length : Int))).length : Int) = (ties.length : Int) := of_decide_eq_true h
      have := List.length_filter_eq_length_iff.mp (by omega : (ties.filter fun q => decide (q ≠ othP (shy.length : Int))).length = ties.length) _ z
      simp at this
    have ef : ties.filter (fun q => decide (q ≠ othP (shy.length : Int))) = ties := List.filter_eq_self.mpr fun q hq => decide_eq_true fun z => hin (z ▸ hq)
    rw [ef]
    rw [if_neg hin] at e0
    refine go_app 3 (ee_var 10 rfl) (ee_un (tupE ee_int (ee_sub (ee_var 1 rfl) ee_int) rfl rfl)) rfl (by rw [List.length_map]; have := TO.few; omega) ?_
    refine go_exprM (yl_tieX 0 Mti hr (by decide) (ee_un (ee_var 5 rfl)) ee_int (ee_sub (ee_var 1 rfl) ee_int) rfl (by have := TO.few; omega)) (fun v Δ' ⟨q, e⟩ => ?_) fun P' Δ' ⟨_, e⟩ => ?_
    · rcases q with (⟨_, q⟩ | ⟨_, _, q⟩) | ⟨_, _, q⟩
      · exact absurd ⟨⟨by omega, by omega⟩, ⟨by omega, by omega⟩⟩ q
      · omega
      · rw [p1] at q
        exact absurd q hin
    · subst e
      rw [p1]
      have em : ties.map tP ++ [tP (othP (shy.length : Int))] = (ties ++ [othP (shy.length : Int)]).map tP := by rw [List.map_append]; rfl
      refine go_nil ⟨Wk.refl _, ?_⟩
      rw [e0, ← em]; rfl
  · have hin : othP (shy.length : Int) ∈ ties := Classical.byContradiction fun z => by
      have ef : ties.filter (fun q => decide (q ≠ othP (shy.length : Int))) = ties := List.filter_eq_self.mpr fun q hq => decide_eq_true fun y => z (y ▸ hq)
      rw [ef] at h
      simp at h
    rw [if_pos hin] at e0
    refine go_exprM (yl_untieX 0 Mu hr (by decide) (ee_un (ee_var 5 rfl)) (ee_sub (ee_var 1 rfl) ee_int) ee_int rfl) (fun v Δ' ⟨q, e⟩ => ?_) fun P' Δ' ⟨_, e⟩ => ?_
    · rcases q with (⟨_, q⟩ | ⟨_, _, q⟩) | ⟨_, _, q⟩
      · exact absurd ⟨⟨by omega, by omega⟩, ⟨by omega, by omega⟩⟩ q
      · omega
      · rw [p2] at q
        exact absurd hin q
    · subst e
      rw [p2]
      refine go_nil ⟨Wk.refl _, ?_⟩
      rw [e0]; rfl
  subst eΔ
  clear e0
  generalize othT (shy.length : Int) ties = ti3 at TO3
  refine go_frz 3 10 rfl hot rfl ?_
  obtain ⟨k, hk⟩ : ∃ k : Nat, cellAt sc 11 % (shy.length : Int) = (k : Int) := ⟨(cellAt sc 11 % (shy.length : Int)).toNat, by have := Int.emod_nonneg (cellAt sc 11) (by omega : (shy.length : Int) ≠ 0); omega⟩
  have hkl : k < shy.length := by have := Int.emod_lt_of_pos (cellAt sc 11) hn0; omega
  let Γ3 : Gam := [some (Scr K sc), some (I (shy.length : Int)), some (N (L (ties.map tP))), some (Ref shA), none, some (N (YM CY (shy.length : Int) d l)), none, none, none, none, some (N (L (ti3.map tP))), none, none, none]
  show Go _ _ Γ3 [(d, MT ti3), (l, ML (shy.map Bo)), (shA, ML (shy.map Bo))] _ _
  refine go_forR 7 (fun _ => Γ3) (fun i => [(d, MT ti3), (l, ML ((flipN k shy i).map Bo)), (shA, ML ((flipN k shy i).map Bo))]) (fun _ => True) (passes_of rfl) sc_law.nd ee_int (by decide) (by decide) ⟨Wk.refl _, rfl, trivial⟩ rfl b.range (fun i hi _ => ?_) (fun _ => go_ret ee_bl rfl)
  have ef : flipN k shy (i + 1) = (flipN k shy i).set k (!(flipN k shy i).getD k false) := rfl
  have lo := flipN_len k shy i
  rw [ef]
  generalize flipN k shy i = sh at lo
  have TO4 : TiesOk (sh.length : Int) ti3 := by rw [lo]; exact TO3
  have hs24 : sh.length ≤ 24 := by omega
  have hs1 : 0 < sh.length := by omega
  obtain ⟨q2, hq2⟩ : ∃ q2, q2 = quietF sh ti3 := ⟨_, rfl⟩
  show Go _ _ [some (Scr K sc), some (I (shy.length : Int)), some (N (L (ties.map tP))), some (Ref shA), none, some (N (YM CY (shy.length : Int) d l)), none, some (I (i : Int)), none, none, some (N (L (ti3.map tP))), none, none, none] [(d, MT ti3), (l, ML (sh.map Bo)), (shA, ML (sh.map Bo))] _ _
  refine go_set 4 (ee_callB (P := N (trnsNP sh ti3)) (cj_fn0 Mt hr (by decide) rfl (ea_cons (ee_cast (P' := I (sh.length : Int)) (ee_var 1 rfl) (by rw [lo])) (ea_cons (ee_un (ee_var 10 rfl)) (ea_cons (ee_var 3 rfl) ea_nil)))) (c_lturns ti3 sh) ⟨ti3, sh, TO4, hs24, rfl⟩ (bc br_ (bc br_ (bc (br_L 2 rfl) Yb.bn))) (sb_trnsN _ _) (ho := fun _ _ q => q)) sc_law.nd ?_
  refine go_set 6 (ee_cast (P' := In q2.length) (ee_sub (ee_cast (P' := I (sh.length : Int)) (ee_var 1 rfl) (by rw [lo])) (ee_call (P := In (Lm.rank (rowsF sh ti3))) (cj_fn0 Mrk hr (by decide) rfl (ea_cons (ee_imp (ee_un (ee_N (en_lc (R := fun i => N (L ((trn sh ti3 i).map In))) (l := List.range sh.length) (fun _ => true) (fun i => N (rwP (bitsF sh.length (trn sh ti3 i)))) 13 sc_law.nd (ef_L (ee_un (ee_var 4 rfl))) (by rw [List.length_range]; omega) (blkOk_by (N := ["script", "many", "ties", "shy", "turns", "yard", "due", "turn", "found", "lamps", "others", "lamp", "tie", "row"]) (sc := defScope s_law) (by decide +kernel)) (fun _ _ _ _ _ => pg_name (i := 13) sc_law.nd rfl (Or.inl rfl)) (fun _ _ => rfl) (fun i _ _ => fun _ _ _ _ _ => ee_call (P := N (rwP (bitsF sh.length (trn sh ti3 i)))) (cj_fn0 Mbi hr (by decide) rfl (ea_cons (ee_un (ee_var 13 rfl)) (ea_cons (ee_cast (P' := I (sh.length : Int)) (ee_var 1 rfl) (by rw [lo])) ea_nil))) (c_bits sh.length (trn sh ti3 i)) ⟨_, _, by omega, rfl⟩ (ho := fun _ _ q => q))))) (P' := L ((rowsF sh ti3).map rwP)) (by
    unfold rowsF
    rw [filt_true, List.map_map]
    exact imp_L (imps_map (R := fun i => N (rwP (bitsF sh.length (trn sh ti3 i)))) (R' := fun i => rwP (bitsF sh.length (trn sh ti3 i))) (fun _ => imp_N _) _))) ea_nil)) (c_rank (rowsF sh ti3)) ⟨_, _, _, rows_ok sh ti3, by omega, by omega, rfl⟩ (ho := fun _ _ q => q))) (due_cast hs1 hq2)) sc_law.nd ?_
  show Go _ _ [some (Scr K sc), some (I (shy.length : Int)), some (N (L (ties.map tP))), some (Ref shA), some (N (trnsNP sh ti3)), some (N (YM CY (shy.length : Int) d l)), some (In q2.length), some (I (i : Int)), none, none, some (N (L (ti3.map tP))), none, none, none] [(d, MT ti3), (l, ML (sh.map Bo)), (shA, ML (sh.map Bo))] _ _
  refine go_if (et_not (et_val (ee_call (P := Bo true) (cj_fn0 Mrt hr (by decide) (by rfl) (ea_cons (ee_imp (ee_callB (P := N (qlP q2)) (cj_fn0 Mq hr (by decide) (by rfl) (ea_cons (ee_cast (P' := YM CY (sh.length : Int) d l) (ee_un (ee_var 5 rfl)) (by rw [lo])) ea_nil)) (c_quiet CY sh ti3 q2) ⟨sh, ti3, q2, hs24, hq2, rfl⟩ (bc (br_I (bc br_ (bc (br_D 0 rfl) (bc (br_L 1 rfl) Yb.bn)))) Yb.bn) (hi_qlP q2) (ho := fun _ _ q => q)) (imp_qlP q2)) (ea_cons (ee_imp (ee_var 4 rfl) (imp_trns sh ti3)) (ea_cons (ee_var 6 rfl) ea_nil)))) (c_right sh ti3 q2) ⟨sh, ti3, q2, hs24, hq2, rfl⟩ (ho := fun _ _ q => q)))) (fun h => nomatch h) (fun _ => go_nil ?_)
  refine go_set 11 (ee_cast (P' := I (k : Int)) (ee_mod (ee_cell 11 Mc hr (by decide) (ee_var 0 rfl) ee_int) (ee_var 1 rfl) hn0) (by rw [hk])) sc_law.nd ?_
  show Go _ _ [some (Scr K sc), some (I (shy.length : Int)), some (N (L (ties.map tP))), some (Ref shA), some (N (trnsNP sh ti3)), some (N (YM CY (shy.length : Int) d l)), some (In q2.length), some (I (i : Int)), none, none, some (N (L (ti3.map tP))), some (I (k : Int)), none, none] [(d, MT ti3), (l, ML (sh.map Bo)), (shA, ML (sh.map Bo))] _ _
  have hok : okL (sh.length : Int) (k : Int) := natP (by rw [lo]; exact hkl)
  refine go_ix 2 (ee_not (ee_ix (es_M 2 (ee_var 3 rfl) rfl) (ee_var 11 rfl) (atI_map false hok))) (ee_var 3 rfl) (ee_var 11 rfl) rfl (by rw [List.length_map]; exact ixN_ok hok) ?_
  have lo2 : (sh.set k (!sh.getD k false)).length = sh.length := List.length_set
  have eS : (sh.map Bo).set (k : Int).toNat (Bo (!sh.getD (k : Int).toNat false)) = (sh.set k (!sh.getD k false)).map Bo := List.map_set.symm
  show Go _ _ _ [(d, MT ti3), (l, ML (sh.map Bo)), (shA, ML ((sh.map Bo).set (k : Int).toNat (Bo (!sh.getD (k : Int).toNat false))))] _ _
  rw [eS]
  have hg : (sh.set k (!sh.getD k false)).getD k false = !sh.getD k false := by
    rw [List.getD_eq_getElem?_getD, List.getElem?_set_self (by rw [lo]; exact hkl)]; rfl
  have hat : atI ((sh.set k (!sh.getD k false)).map Bo) (k : Int) = some (Bo (!sh.getD k false)) := by
    rw [atI_map false (by rw [lo2]; exact hok), Int.toNat_natCast, hg]
  refine go_exprM (yl_setshyX 1 (hs := sh) Ms hr (by decide) (ee_cast (P' := YM CY (sh.length : Int) d l) (ee_un (ee_var 5 rfl)) (by rw [lo])) (ee_var 11 rfl) (ee_ix (es_M 2 (ee_var 3 rfl) rfl) (ee_var 11 rfl) hat) rfl) (fun v Δ' ⟨⟨_, q⟩, _⟩ => absurd hok q) fun P' Δ' ⟨_, e⟩ => ?_
  subst e
  exact go_nil ⟨⟨.inr rfl, .inr rfl, .inr rfl, .inr rfl, .inl rfl, .inr rfl, .inl rfl, .inl rfl, .inr rfl, .inr rfl, .inr rfl, .inl rfl, .inr rfl, .inr rfl, trivial⟩, rfl, trivial⟩
end
def d_Yard_ask : He.DefD := ⟨("Yard", some "ask"), "ask", "Yard.ask", defArgs s_Yard_ask, defBody s_Yard_ask, defScope s_Yard_ask, [], []⟩
def d_Yard_ask_two : He.DefD := ⟨("Yard", some "ask_two"), "ask_two", "Yard.ask_two", defArgs s_Yard_ask_two, defBody s_Yard_ask_two, defScope s_Yard_ask_two, [], []⟩
def d_Yard_is_tied : He.DefD := ⟨("Yard", some "is_tied"), "is_tied", "Yard.is_tied", defArgs s_Yard_is_tied, defBody s_Yard_is_tied, defScope s_Yard_is_tied, [], []⟩
def d_Yard_tie : He.DefD := ⟨("Yard", some "tie"), "tie", "Yard.tie", defArgs s_Yard_tie, defBody s_Yard_tie, defScope s_Yard_tie, [], []⟩
def d_Yard_untie : He.DefD := ⟨("Yard", some "untie"), "untie", "Yard.untie", defArgs s_Yard_untie, defBody s_Yard_untie, defScope s_Yard_untie, [], []⟩
def d_Yard_set_shy : He.DefD := ⟨("Yard", some "set_shy"), "set_shy", "Yard.set_shy", defArgs s_Yard_set_shy, defBody s_Yard_set_shy, defScope s_Yard_set_shy, [.bl true], []⟩
def d_Yard_turns : He.DefD := ⟨("Yard", some "turns"), "turns", "Yard.turns", defArgs s_Yard_turns, defBody s_Yard_turns, defScope s_Yard_turns, [], []⟩
def d_Yard_init : He.DefD := ⟨("Yard", some "__init__"), "__init__", "Yard.__init__", defArgs s_Yard_init, defBody s_Yard_init, defScope s_Yard_init, [], []⟩
def d__law_cell_at : He.DefD := ⟨("_law_cell_at", none), "_law_cell_at", "_law_cell_at", defArgs s__law_cell_at, defBody s__law_cell_at, defScope s__law_cell_at, [], []⟩
def d__law_mix : He.DefD := ⟨("_law_mix", none), "_law_mix", "_law_mix", defArgs s__law_mix, defBody s__law_mix, defScope s__law_mix, [], []⟩
def d__law_many : He.DefD := ⟨("_law_many", none), "_law_many", "_law_many", defArgs s__law_many, defBody s__law_many, defScope s__law_many, [], []⟩
def d__law_drawn : He.DefD := ⟨("_law_drawn", none), "_law_drawn", "_law_drawn", defArgs s__law_drawn, defBody s__law_drawn, defScope s__law_drawn, [], []⟩
def d__law_built : He.DefD := ⟨("_law_built", none), "_law_built", "_law_built", defArgs s__law_built, defBody s__law_built, defScope s__law_built, [], []⟩
def d__law_turns : He.DefD := ⟨("_law_turns", none), "_law_turns", "_law_turns", defArgs s__law_turns, defBody s__law_turns, defScope s__law_turns, [], []⟩
def d__law_pressed : He.DefD := ⟨("_law_pressed", none), "_law_pressed", "_law_pressed", defArgs s__law_pressed, defBody s__law_pressed, defScope s__law_pressed, [], []⟩
def d_mixed : He.DefD := ⟨("mixed", none), "mixed", "mixed", defArgs s_mixed, defBody s_mixed, defScope s_mixed, [], []⟩
def d_together : He.DefD := ⟨("together", none), "together", "together", defArgs s_together, defBody s_together, defScope s_together, [], []⟩
def d_leader : He.DefD := ⟨("leader", none), "leader", "leader", defArgs s_leader, defBody s_leader, defScope s_leader, [], []⟩
def d_cleared : He.DefD := ⟨("cleared", none), "cleared", "cleared", defArgs s_cleared, defBody s_cleared, defScope s_cleared, [], []⟩
def d_equations : He.DefD := ⟨("equations", none), "equations", "equations", defArgs s_equations, defBody s_equations, defScope s_equations, [], []⟩
def d_quiet : He.DefD := ⟨("quiet", none), "quiet", "quiet", defArgs s_quiet, defBody s_quiet, defScope s_quiet, [], []⟩
def d__law_whole : He.DefD := ⟨("_law_whole", none), "_law_whole", "_law_whole", defArgs s__law_whole, defBody s__law_whole, defScope s__law_whole, [], []⟩
def d__law_lamps : He.DefD := ⟨("_law_lamps", none), "_law_lamps", "_law_lamps", defArgs s__law_lamps, defBody s__law_lamps, defScope s__law_lamps, [], []⟩
def d__law_bits : He.DefD := ⟨("_law_bits", none), "_law_bits", "_law_bits", defArgs s__law_bits, defBody s__law_bits, defScope s__law_bits, [], []⟩
def d__law_rank : He.DefD := ⟨("_law_rank", none), "_law_rank", "_law_rank", defArgs s__law_rank, defBody s__law_rank, defScope s__law_rank, [], []⟩
def d__law_right : He.DefD := ⟨("_law_right", none), "_law_right", "_law_right", defArgs s__law_right, defBody s__law_right, defScope s__law_right, [], []⟩
def d_law : He.DefD := ⟨("law", none), "law", "law", defArgs s_law, defBody s_law, defScope s_law, [], []⟩
def fns : List He.DefD := [d_Yard_ask, d_Yard_ask_two, d_Yard_is_tied, d_Yard_tie, d_Yard_untie, d_Yard_set_shy, d_Yard_turns, d_Yard_init, d__law_cell_at, d__law_mix, d__law_many, d__law_drawn, d__law_built, d__law_turns, d__law_pressed, d_mixed, d_together, d_leader, d_cleared, d_equations, d_quiet, d__law_whole, d__law_lamps, d__law_bits, d__law_rank, d__law_right, d_law]
def fas : List He.Fa := ([.cls "Yard", .noat "Yard" "many", .noat "Yard" "ties", .noat "Yard" "hides", .mkr "Yard", .glo "Yard", .glo "NoYard", .glo "NoLamp", .glo "Alone", .glo "Tied", .glo "Untied", .glo "LampError", .exc "NoYard", .exc "NoLamp", .exc "Alone", .exc "Tied", .exc "Untied", .meth "Yard" "ask", .meth "Yard" "ask_two", .meth "Yard" "is_tied", .meth "Yard" "tie", .meth "Yard" "untie", .meth "Yard" "set_shy", .meth "Yard" "turns", .glo "_law_cell_at", .glo "_law_mix", .glo "_law_many", .glo "_law_drawn", .glo "_law_built", .glo "_law_turns", .glo "_law_pressed", .glo "mixed", .glo "together", .glo "leader", .glo "cleared", .glo "equations", .glo "quiet", .glo "_law_whole", .glo "_law_lamps", .glo "_law_bits", .glo "_law_rank", .glo "_law_right", .glo "law", .int "MOST" 24, .free "len", .free "list", .free "range", .free "min", .free "max", .free "str"] : List He.Fa) ++ ([.free "int", .free "bool", .free "tuple", .free "all", .free "any", .free "sorted", .free "isinstance", .free "reversed", .free "ValueError"] : List He.Fa)
def fxs : List Fx := []
abbrev hk : PySem.W.Hook := hookX 6 fxs fas fns
def ob (s : PySem.W.SharedT) : AlX := obsXG 6 fxs fas fns (HandSHeadRun.getT s)
theorem ob_eq (s : PySem.W.SharedT) : ob s = hk.obs s.abs := obsXG_eq (HandSHeadRun.getT_eq s)
def lst : List PySem.Str := (["_wall", "LampError", "NoYard", "NoLamp", "Alone", "Tied", "Untied", "mixed", "equations", "together", "leader", "cleared", "quiet", "MOST", "Yard", "_law_cell_at", "_law_mix", "_law_many", "_law_drawn", "_law_built"] : List PySem.Str) ++ (["_law_turns", "_law_pressed", "_law_whole", "_law_lamps", "_law_bits", "_law_rank", "_law_right"] : List PySem.Str)
theorem run (w : World) : HandSHeadRun.RunEq (PySem.W.OpenLaw.row PySem.Challenge.rw_lampyard_k11_whole_quiet_sets) (PySem.W.view (PySem.W.OpenLaw.row PySem.Challenge.rw_lampyard_k11_whole_quiet_sets).prog [31]) hk ob 4000 lst w := by
  intro os
  kernel_rfl
theorem facts {P : Program} {w : World} {K : PySem.W.Frag} {h : Heap} {mg : Str → Option Value} {f : Addr} (X : K.In h) (G : h.Ns mainGlobals mg) (hfa : mg ("law" : Str) = some (.ref f)) (c0 : SaysX fxs fas fns K) :
    ∃ fd : FuncData, (∀ (s : Shared) (v : Value), BindsTo s fd ⟨[v], []⟩ [("script", v)]) ∧ ∀ base : Heap, K.In base → base.Ns mainGlobals mg → FnOk P w K mg base CX0 6 f fd ["script"] (fun vs H Q _ => spC (C_law K) vs H Q E0) := by
  have c := c0.d
  have bl : Bl mg := ⟨(He.free_ok X G (c.fact 44 (f := .free "len") rfl)), (He.free_ok X G (c.fact 45 (f := .free "list") rfl)), (He.free_ok X G (c.fact 46 (f := .free "range") rfl)), (He.free_ok X G (c.fact 47 (f := .free "min") rfl)), (He.free_ok X G (c.fact 48 (f := .free "max") rfl)), (He.free_ok X G (c.fact 49 (f := .free "str") rfl)), (He.free_ok X G (c.fact 50 (f := .free "int") rfl)), (He.free_ok X G (c.fact 51 (f := .free "bool") rfl)), (He.free_ok X G (c.fact 52 (f := .free "tuple") rfl)), (He.free_ok X G (c.fact 53 (f := .free "all") rfl)), (He.free_ok X G (c.fact 54 (f := .free "any") rfl)), (He.free_ok X G (c.fact 55 (f := .free "sorted") rfl)), (He.free_ok X G (c.fact 56 (f := .free "isinstance") rfl)), (He.free_ok X G (c.fact 57 (f := .free "reversed") rfl)), (He.free_ok X G (c.fact 58 (f := .free "ValueError") rfl))⟩
  have e_NoYard : ExcT K mg "NoYard" (He.ga K "NoYard") := let q := He.exc_ok (c.fact 12 (f := .exc "NoYard") rfl); ⟨(He.glo_ok X G (c.fact 6 (f := .glo "NoYard") rfl)), q.2.1, q.1, q.2.2.1, q.2.2.2⟩
  have e_NoLamp : ExcT K mg "NoLamp" (He.ga K "NoLamp") := let q := He.exc_ok (c.fact 13 (f := .exc "NoLamp") rfl); ⟨(He.glo_ok X G (c.fact 7 (f := .glo "NoLamp") rfl)), q.2.1, q.1, q.2.2.1, q.2.2.2⟩
  have e_Alone : ExcT K mg "Alone" (He.ga K "Alone") := let q := He.exc_ok (c.fact 14 (f := .exc "Alone") rfl); ⟨(He.glo_ok X G (c.fact 8 (f := .glo "Alone") rfl)), q.2.1, q.1, q.2.2.1, q.2.2.2⟩
  have e_Tied : ExcT K mg "Tied" (He.ga K "Tied") := let q := He.exc_ok (c.fact 15 (f := .exc "Tied") rfl); ⟨(He.glo_ok X G (c.fact 9 (f := .glo "Tied") rfl)), q.2.1, q.1, q.2.2.1, q.2.2.2⟩
  have e_Untied : ExcT K mg "Untied" (He.ga K "Untied") := let q := He.exc_ok (c.fact 16 (f := .exc "Untied") rfl); ⟨(He.glo_ok X G (c.fact 10 (f := .glo "Untied") rfl)), q.2.1, q.1, q.2.2.1, q.2.2.2⟩
  have T : Yt K mg (He.ga K "Yard") (He.ga K "NoYard") (He.ga K "NoLamp") (He.ga K "Alone") (He.ga K "Tied") (He.ga K "Untied") := ⟨He.cls_ok (c.fact 0 (f := .cls "Yard") rfl), He.noat_ok (c.fact 1 (f := .noat "Yard" "many") rfl), He.noat_ok (c.fact 2 (f := .noat "Yard" "ties") rfl), He.noat_ok (c.fact 3 (f := .noat "Yard" "hides") rfl), He.int_ok X G (c.fact 43 (f := .int "MOST" 24) rfl), e_NoYard, e_NoLamp, e_Alone, e_Tied, e_Untied⟩
  have yard_cls := T.cl
  obtain ⟨fd_0, F_0⟩ := c.def_ 0 (d := d_Yard_ask) rfl
  have b_0 : Binds K fd_0 ["self", "lamp"] [] := F_0.bindsN fun _ _ _ _ _ _ us hl => match us, hl with | [_, _], _ => rfl
  obtain ⟨fd_1, F_1⟩ := c.def_ 1 (d := d_Yard_ask_two) rfl
  have b_1 : Binds K fd_1 ["self", "one", "other"] [] := F_1.bindsN fun _ _ _ _ _ _ us hl => match us, hl with | [_, _, _], _ => rfl
  obtain ⟨fd_2, F_2⟩ := c.def_ 2 (d := d_Yard_is_tied) rfl
  have b_2 : Binds K fd_2 ["self", "one", "other"] [] := F_2.bindsN fun _ _ _ _ _ _ us hl => match us, hl with | [_, _, _], _ => rfl
  obtain ⟨fd_3, F_3⟩ := c.def_ 3 (d := d_Yard_tie) rfl
  have b_3 : Binds K fd_3 ["self", "one", "other"] [] := F_3.bindsN fun _ _ _ _ _ _ us hl => match us, hl with | [_, _, _], _ => rfl
  obtain ⟨fd_4, F_4⟩ := c.def_ 4 (d := d_Yard_untie) rfl
  have b_4 : Binds K fd_4 ["self", "one", "other"] [] := F_4.bindsN fun _ _ _ _ _ _ us hl => match us, hl with | [_, _, _], _ => rfl
  obtain ⟨fd_5, F_5⟩ := c.def_ 5 (d := d_Yard_set_shy) rfl
  obtain ⟨b_5, ds_5, hd_5, bd_5⟩ := setshy_b F_5
  obtain ⟨fd_6, F_6⟩ := c.def_ 6 (d := d_Yard_turns) rfl
  have b_6 : Binds K fd_6 ["self", "lamp"] [] := F_6.bindsN fun _ _ _ _ _ _ us hl => match us, hl with | [_, _], _ => rfl
  obtain ⟨fd_7, F_7⟩ := c.def_ 7 (d := d_Yard_init) rfl
  have b_7 : Binds K fd_7 ["self", "many"] [] := F_7.bindsN fun _ _ _ _ _ _ us hl => match us, hl with | [_, _], _ => rfl
  obtain ⟨fd_8, F_8⟩ := c.def_ 8 (d := d__law_cell_at) rfl
  have b_8 : Binds K fd_8 ["script", "k"] [] := F_8.bindsN fun _ _ _ _ _ _ us hl => match us, hl with | [_, _], _ => rfl
  obtain ⟨fd_9, F_9⟩ := c.def_ 9 (d := d__law_mix) rfl
  have b_9 : Binds K fd_9 ["cell", "k"] [] := F_9.bindsN fun _ _ _ _ _ _ us hl => match us, hl with | [_, _], _ => rfl
  obtain ⟨fd_10, F_10⟩ := c.def_ 10 (d := d__law_many) rfl
  have b_10 : Binds K fd_10 ["cell"] [] := F_10.bindsN fun _ _ _ _ _ _ us hl => match us, hl with | [_], _ => rfl
  obtain ⟨fd_11, F_11⟩ := c.def_ 11 (d := d__law_drawn) rfl
  have b_11 : Binds K fd_11 ["script"] [] := F_11.bindsN fun _ _ _ _ _ _ us hl => match us, hl with | [_], _ => rfl
  obtain ⟨fd_12, F_12⟩ := c.def_ 12 (d := d__law_built) rfl
  have b_12 : Binds K fd_12 ["many", "ties", "shy"] [] := F_12.bindsN fun _ _ _ _ _ _ us hl => match us, hl with | [_, _, _], _ => rfl
  obtain ⟨fd_13, F_13⟩ := c.def_ 13 (d := d__law_turns) rfl
  have b_13 : Binds K fd_13 ["many", "ties", "shy"] [] := F_13.bindsN fun _ _ _ _ _ _ us hl => match us, hl with | [_, _, _], _ => rfl
  obtain ⟨fd_14, F_14⟩ := c.def_ 14 (d := d__law_pressed) rfl
  have b_14 : Binds K fd_14 ["light", "turns", "presses"] [] := F_14.bindsN fun _ _ _ _ _ _ us hl => match us, hl with | [_, _, _], _ => rfl
  obtain ⟨fd_15, F_15⟩ := c.def_ 15 (d := d_mixed) rfl
  have b_15 : Binds K fd_15 ["one", "other"] [] := F_15.bindsN fun _ _ _ _ _ _ us hl => match us, hl with | [_, _], _ => rfl
  obtain ⟨fd_16, F_16⟩ := c.def_ 16 (d := d_together) rfl
  have b_16 : Binds K fd_16 ["one", "other"] [] := F_16.bindsN fun _ _ _ _ _ _ us hl => match us, hl with | [_, _], _ => rfl
  obtain ⟨fd_17, F_17⟩ := c.def_ 17 (d := d_leader) rfl
  have b_17 : Binds K fd_17 ["rows", "done", "column"] [] := F_17.bindsN fun _ _ _ _ _ _ us hl => match us, hl with | [_, _, _], _ => rfl
  obtain ⟨fd_18, F_18⟩ := c.def_ 18 (d := d_cleared) rfl
  have b_18 : Binds K fd_18 ["rows"] [] := F_18.bindsN fun _ _ _ _ _ _ us hl => match us, hl with | [_], _ => rfl
  obtain ⟨fd_19, F_19⟩ := c.def_ 19 (d := d_equations) rfl
  have b_19 : Binds K fd_19 ["yard", "wanted"] [] := F_19.bindsN fun _ _ _ _ _ _ us hl => match us, hl with | [_, _], _ => rfl
  obtain ⟨fd_20, F_20⟩ := c.def_ 20 (d := d_quiet) rfl
  have b_20 : Binds K fd_20 ["yard"] [] := F_20.bindsN fun _ _ _ _ _ _ us hl => match us, hl with | [_], _ => rfl
  obtain ⟨fd_21, F_21⟩ := c.def_ 21 (d := d__law_whole) rfl
  have b_21 : Binds K fd_21 ["found"] [] := F_21.bindsN fun _ _ _ _ _ _ us hl => match us, hl with | [_], _ => rfl
  obtain ⟨fd_22, F_22⟩ := c.def_ 22 (d := d__law_lamps) rfl
  have b_22 : Binds K fd_22 ["found", "many"] [] := F_22.bindsN fun _ _ _ _ _ _ us hl => match us, hl with | [_, _], _ => rfl
  obtain ⟨fd_23, F_23⟩ := c.def_ 23 (d := d__law_bits) rfl
  have b_23 : Binds K fd_23 ["lamps", "many"] [] := F_23.bindsN fun _ _ _ _ _ _ us hl => match us, hl with | [_, _], _ => rfl
  obtain ⟨fd_24, F_24⟩ := c.def_ 24 (d := d__law_rank) rfl
  have b_24 : Binds K fd_24 ["rows"] [] := F_24.bindsN fun _ _ _ _ _ _ us hl => match us, hl with | [_], _ => rfl
  obtain ⟨fd_25, F_25⟩ := c.def_ 25 (d := d__law_right) rfl
  have b_25 : Binds K fd_25 ["found", "turns", "due"] [] := F_25.bindsN fun _ _ _ _ _ _ us hl => match us, hl with | [_, _, _], _ => rfl
  obtain ⟨fd_26, F_26⟩ := c.def_ 26 (d := d_law) rfl
  have b_26 : Binds K fd_26 ["script"] [] := F_26.bindsN fun _ _ _ _ _ _ us hl => match us, hl with | [_], _ => rfl
  have e := hfa.symm.trans (He.glo_ok X G (c.fact 42 (f := .glo "law") rfl))
  cases e
  refine ⟨fd_26, fun s v => ?_, fun base _ _ => ?_⟩
  · have bb := FunD.bindsA (ps := ["script"]) F_26 fun _ _ _ _ _ _ us hl => match us, hl with | [_], _ => rfl
    exact bb s [v] rfl
  · have g_0 := ok_ask (P := P) (w := w) (K := K) (mg := mg) (base := base)  F_0 ‹_›
    have m_0 := mtc_mk T.cl g_0 (He.meth_ok (c.fact 17 (f := .meth "Yard" "ask") rfl)) b_0
    have g_1 := ok_two (P := P) (w := w) (K := K) (mg := mg) (base := base)  F_1 ‹_› ‹_›
    have m_1 := mtc_mk T.cl g_1 (He.meth_ok (c.fact 18 (f := .meth "Yard" "ask_two") rfl)) b_1
    have g_2 := ok_istied (P := P) (w := w) (K := K) (mg := mg) (base := base)  F_2 ‹_› ‹_› ‹_›
    have m_2 := mtc_mk T.cl g_2 (He.meth_ok (c.fact 19 (f := .meth "Yard" "is_tied") rfl)) b_2
    have g_3 := ok_tie (P := P) (w := w) (K := K) (mg := mg) (base := base)  F_3 ‹_› ‹_› ‹_›
    have m_3 := mtc_mk T.cl g_3 (He.meth_ok (c.fact 20 (f := .meth "Yard" "tie") rfl)) b_3
    have g_4 := ok_untie (P := P) (w := w) (K := K) (mg := mg) (base := base)  F_4 ‹_› ‹_› ‹_›
    have m_4 := mtc_mk T.cl g_4 (He.meth_ok (c.fact 21 (f := .meth "Yard" "untie") rfl)) b_4
    have g_5 := ok_setshy (P := P) (w := w) (K := K) (mg := mg) (base := base)  F_5 ‹_› ‹_›
    have m_5 := mtc_mk T.cl g_5 (He.meth_ok (c.fact 22 (f := .meth "Yard" "set_shy") rfl)) b_5
    have md_5 := mtcD_mk T.cl g_5 (He.meth_ok (c.fact 22 (f := .meth "Yard" "set_shy") rfl)) bd_5 hd_5
    have g_6 := ok_turns (P := P) (w := w) (K := K) (mg := mg) (base := base)  F_6 ‹_› ‹_› ‹_›
    have m_6 := mtc_mk T.cl g_6 (He.meth_ok (c.fact 23 (f := .meth "Yard" "turns") rfl)) b_6
    have g_7 := ok_init (P := P) (w := w) (K := K) (mg := mg) (base := base)  F_7 ‹_› ‹_›
    have m_7 := mkc_mk g_7 (He.mkr_ok (c.fact 4 (f := .mkr "Yard") rfl)) (He.glo_ok X G (c.fact 5 (f := .glo "Yard") rfl)) b_7
    have g_8 := ok_cell (P := P) (w := w) (K := K) (mg := mg) (base := base)  F_8 ‹_›
    have m_8 := fnc_mk g_8 (He.glo_ok X G (c.fact 24 (f := .glo "_law_cell_at") rfl)) F_8.kp b_8
    have g_9 := ok_mix (P := P) (w := w) (K := K) (mg := mg) (base := base)  F_9 
    have m_9 := fnc_mk g_9 (He.glo_ok X G (c.fact 25 (f := .glo "_law_mix") rfl)) F_9.kp b_9
    have g_10 := ok_many (P := P) (w := w) (K := K) (mg := mg) (base := base)  F_10 
    have m_10 := fnc_mk g_10 (He.glo_ok X G (c.fact 26 (f := .glo "_law_many") rfl)) F_10.kp b_10
    have g_11 := ok_drawn (P := P) (w := w) (K := K) (mg := mg) (base := base)  F_11 ‹_› ‹_› ‹_› ‹_›
    have m_11 := fnc_mk g_11 (He.glo_ok X G (c.fact 27 (f := .glo "_law_drawn") rfl)) F_11.kp b_11
    have g_12 := ok_built (P := P) (w := w) (K := K) (mg := mg) (base := base)  F_12 ‹_› ‹_› ‹_› ‹_› ‹_› ‹_›
    have m_12 := fnc_mk g_12 (He.glo_ok X G (c.fact 28 (f := .glo "_law_built") rfl)) F_12.kp b_12
    have g_13 := ok_lturns (P := P) (w := w) (K := K) (mg := mg) (base := base)  F_13 ‹_›
    have m_13 := fnc_mk g_13 (He.glo_ok X G (c.fact 29 (f := .glo "_law_turns") rfl)) F_13.kp b_13
    have g_14 := ok_lpressed (P := P) (w := w) (K := K) (mg := mg) (base := base)  F_14 ‹_›
    have m_14 := fnc_mk g_14 (He.glo_ok X G (c.fact 30 (f := .glo "_law_pressed") rfl)) F_14.kp b_14
    have g_15 := ok_mixed (P := P) (w := w) (K := K) (mg := mg) (base := base)  F_15 ‹_›
    have m_15 := fnc_mk g_15 (He.glo_ok X G (c.fact 31 (f := .glo "mixed") rfl)) F_15.kp b_15
    have g_16 := ok_together (P := P) (w := w) (K := K) (mg := mg) (base := base)  F_16 ‹_›
    have m_16 := fnc_mk g_16 (He.glo_ok X G (c.fact 32 (f := .glo "together") rfl)) F_16.kp b_16
    have g_17 := ok_leader (P := P) (w := w) (K := K) (mg := mg) (base := base)  F_17 ‹_›
    have m_17 := fnc_mk g_17 (He.glo_ok X G (c.fact 33 (f := .glo "leader") rfl)) F_17.kp b_17
    have g_18 := ok_cleared (P := P) (w := w) (K := K) (mg := mg) (base := base)  F_18 ‹_› ‹_› ‹_›
    have m_18 := fnc_mk g_18 (He.glo_ok X G (c.fact 34 (f := .glo "cleared") rfl)) F_18.kp b_18
    have g_19 := ok_eqs (P := P) (w := w) (K := K) (mg := mg) (base := base)  F_19 ‹_› ‹_› ‹_›
    have m_19 := fnc_mk g_19 (He.glo_ok X G (c.fact 35 (f := .glo "equations") rfl)) F_19.kp b_19
    have g_20 := ok_quiet (P := P) (w := w) (K := K) (mg := mg) (base := base)  F_20 ‹_› ‹_› ‹_› ‹_›
    have m_20 := fnc_mk g_20 (He.glo_ok X G (c.fact 36 (f := .glo "quiet") rfl)) F_20.kp b_20
    have g_21 := ok_whole' (P := P) (w := w) (K := K) (mg := mg) (base := base)  F_21 ‹_›
    have m_21 := fnc_mk g_21 (He.glo_ok X G (c.fact 37 (f := .glo "_law_whole") rfl)) F_21.kp b_21
    have g_22 := ok_lamps (P := P) (w := w) (K := K) (mg := mg) (base := base)  F_22 ‹_› ‹_›
    have m_22 := fnc_mk g_22 (He.glo_ok X G (c.fact 38 (f := .glo "_law_lamps") rfl)) F_22.kp b_22
    have g_23 := ok_bits (P := P) (w := w) (K := K) (mg := mg) (base := base)  F_23 ‹_›
    have m_23 := fnc_mk g_23 (He.glo_ok X G (c.fact 39 (f := .glo "_law_bits") rfl)) F_23.kp b_23
    have g_24 := ok_rank (P := P) (w := w) (K := K) (mg := mg) (base := base)  F_24 ‹_›
    have m_24 := fnc_mk g_24 (He.glo_ok X G (c.fact 40 (f := .glo "_law_rank") rfl)) F_24.kp b_24
    have g_25 := ok_right (P := P) (w := w) (K := K) (mg := mg) (base := base)  F_25 ‹_› ‹_› ‹_› ‹_› ‹_›
    have m_25 := fnc_mk g_25 (He.glo_ok X G (c.fact 41 (f := .glo "_law_right") rfl)) F_25.kp b_25
    have g_26 := ok_quietM (P := P) (w := w) (K := K) (mg := mg) (base := base)  F_20 ‹_› ‹_› ‹_› ‹_›
    have m_26 := fnc_mk g_26 (He.glo_ok X G (c.fact 36 (f := .glo "quiet") rfl)) F_20.kp b_20
    exact fnok0 (ok_law F_26 ‹_› ‹_› ‹_› ‹_› ‹_› ‹_› ‹_› ‹_› ‹_› ‹_› ‹_› ‹_› ‹_›)
end Lp
open PySem PySem.W PySem.Calls PyProof.Rows
theorem PySem.Challenge.cw_lampyard_k11_whole_quiet_sets_holds : PySem.Challenge.rw_lampyard_k11_whole_quiet_sets.Holds := by
  w_on; o_law
  refine HandSHeadRun.head_any (r := OpenLaw.row PySem.Challenge.rw_lampyard_k11_whole_quiet_sets) (q := view (OpenLaw.row PySem.Challenge.rw_lampyard_k11_whole_quiet_sets).prog [31]) (H := Lp.hk) (ob := Lp.ob) (M := 4000) (loose := Lp.lst) (d := HandSHeadRun.topDef (OpenLaw.row PySem.Challenge.rw_lampyard_k11_whole_quiet_sets).prog 31) (kwd := []) Lp.ob_eq
    (by kernel_rfl) (fun s => by kernel_rfl) Lp.run (by kernel_rfl) (by kernel_rfl) (by kernel_rfl) (by rfl) (by first | assumption | decide +kernel) (by decide +kernel) ⟨rfl, rfl, rfl, rfl, rfl, by decide +kernel⟩ ?hw ?hc
  case hw => w_witness2
  case hc =>
    refine L2.walk_ofE (l := PySem.Challenge.rw_lampyard_k11_whole_quiet_sets) (n := 63) (k := 6) (x := "script") (CX := L2.CX0) rfl (by decide) (by kernel_rfl) ⟨rfl, by decide, by decide⟩ ?F (fun _ _ _ _ z => z)
    intro w mg fa h Y G hmg0
    obtain ⟨K, KX, c⟩ := Y
    have hmg : mg ("law" : PySem.Str) = some (.ref fa) := by
      have e : (HandSHeadRun.topDef (OpenLaw.row PySem.Challenge.rw_lampyard_k11_whole_quiet_sets).prog 31).name = ("law" : PySem.Str) := by kernel_rfl
      rw [← e]
      exact hmg0
    obtain ⟨fd, hb, hF⟩ := Lp.facts (P := (PySem.Challenge.rw_lampyard_k11_whole_quiet_sets).prog) (w := w) KX G hmg c
    exact ⟨K, fd, (fun vs H Q _ => Yb.spC (Yb.C_law K) vs H Q L2.E0), KX, hb, fun H a ns hl _ hS => Yb.law_sp hl hS, hF⟩

