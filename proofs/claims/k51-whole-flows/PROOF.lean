import PyProof.Rows.All
import Wide.All
import OpenK.AllK
import Wide.FinOn
import HandS.ForMost
import HandS.Zip
import HandS.Walk
import HandS.IsInst
import HandS.TupAny
import HandS.TupMul
import HandS.Conv
import HandS.More
import KE.GoesMore
import KE.GoesEnum
import HandS.Codes
import PySem.Challenge.RW_neverflows_k51_whole_flows_looked_at
-- text NfMath
set_option Elab.async false
/-! Numbers on ties: what comes into a place, ways of turned ties, and why turning them ends. Plain Lean. -/
namespace Nf
abbrev Ties := List (Nat × Nat)

/-- what comes into p less what goes out, tie by tie -/
def net : Ties → List Int → Nat → Int
  | (a, b) :: ts, n :: ns, p => (if b = p then n else 0) - (if a = p then n else 0) + net ts ns p
  | _, _, _ => 0

/-- one tie's number laid onto the list of places -/
def lay (found : List Int) (n : Int) (t : Nat × Nat) : List Int :=
  (found.set t.1 (found.getD t.1 0 - n)).set t.2 ((found.set t.1 (found.getD t.1 0 - n)).getD t.2 0 + n)
/-- .. by rests of k -/
def layR (k : Int) (found : List Int) (n : Int) (t : Nat × Nat) : List Int :=
  (found.set t.1 ((found.getD t.1 0 - n) % k)).set t.2 (((found.set t.1 ((found.getD t.1 0 - n) % k)).getD t.2 0 + n) % k)
def comeF : List (Int × (Nat × Nat)) → List Int → List Int
  | [], acc => acc
  | (n, t) :: r, acc => comeF r (lay acc n t)
def restF (k : Int) : List (Int × (Nat × Nat)) → List Int → List Int
  | [], acc => acc
  | (n, t) :: r, acc => restF k r (layR k acc n t)
def come (m : Nat) (ties : Ties) (row : List Int) : List Int := comeF (row.zip ties) (List.replicate m 0)
def rest (m : Nat) (k : Int) (ties : Ties) (row : List Int) : List Int := restF k (row.zip ties) (List.replicate m 0)

theorem lay_length (found : List Int) (n : Int) (t : Nat × Nat) : (lay found n t).length = found.length := by
  unfold lay; rw [List.length_set, List.length_set]
theorem layR_length (k : Int) (found : List Int) (n : Int) (t : Nat × Nat) : (layR k found n t).length = found.length := by
  unfold layR; rw [List.length_set, List.length_set]
theorem comeF_length : ∀ (l : List (Int × (Nat × Nat))) (acc : List Int), (comeF l acc).length = acc.length
  | [], _ => rfl
  | (n, t) :: r, acc => by
    show (comeF r (lay acc n t)).length = acc.length
    rw [comeF_length r, lay_length]
theorem restF_length (k : Int) : ∀ (l : List (Int × (Nat × Nat))) (acc : List Int), (restF k l acc).length = acc.length
  | [], _ => rfl
  | (n, t) :: r, acc => by
    show (restF k r (layR k acc n t)).length = acc.length
    rw [restF_length k r, layR_length]
theorem come_length (m : Nat) (ties : Ties) (row : List Int) : (come m ties row).length = m := by
  unfold come; rw [comeF_length, List.length_replicate]
theorem rest_length (m : Nat) (k : Int) (ties : Ties) (row : List Int) : (rest m k ties row).length = m := by
  unfold rest; rw [restF_length, List.length_replicate]

theorem getD_set (l : List Int) (i j : Nat) (x : Int) (hi : i < l.length) : (l.set i x).getD j 0 = if i = j then x else l.getD j 0 := by
  by_cases e : i = j
  · subst e
    rw [if_pos rfl, List.getD_eq_getElem?_getD, List.getElem?_set_self hi]
    rfl
  · rw [if_neg e, List.getD_eq_getElem?_getD, List.getElem?_set_ne e, List.getD_eq_getElem?_getD]

/-- a web's ties: the lesser place first, all below m -/
def Fine (m : Nat) (ties : Ties) : Prop := ∀ t ∈ ties, t.1 < t.2 ∧ t.2 < m

theorem Fine.tail {m : Nat} {t : Nat × Nat} {ts : Ties} (h : Fine m (t :: ts)) : Fine m ts := fun x hx => h x (List.mem_cons_of_mem _ hx)
theorem Fine.head {m : Nat} {t : Nat × Nat} {ts : Ties} (h : Fine m (t :: ts)) : t.1 < t.2 ∧ t.2 < m := h t (List.mem_cons_self ..)

theorem comeF_getD {m : Nat} : ∀ (ties : Ties) (row acc : List Int) (p : Nat), Fine m ties → acc.length = m → (comeF (row.zip ties) acc).getD p 0 = acc.getD p 0 + net ties row p
  | [], row, acc, p, _, _ => by
    have e : row.zip ([] : Ties) = [] := by cases row <;> rfl
    rw [e]
    show acc.getD p 0 = acc.getD p 0 + 0
    omega
  | t :: ts, [], acc, p, _, _ => by
    show acc.getD p 0 = acc.getD p 0 + 0
    omega
  | (a, b) :: ts, n :: ns, acc, p, hf, hl => by
    show (comeF (ns.zip ts) (lay acc n (a, b))).getD p 0 = acc.getD p 0 + ((if b = p then n else 0) - (if a = p then n else 0) + net ts ns p)
    obtain ⟨h1, h2⟩ := hf.head
    have h1 : a < b := h1
    have h2 : b < m := h2
    rw [comeF_getD ts ns _ p hf.tail (by rw [lay_length, hl])]
    unfold lay
    show ((acc.set a (acc.getD a 0 - n)).set b ((acc.set a (acc.getD a 0 - n)).getD b 0 + n)).getD p 0 + _ = _
    rw [getD_set _ _ _ _ (by rw [List.length_set]; omega), getD_set _ _ _ _ (by omega), getD_set _ _ _ _ (by omega), if_neg (show ¬ a = b by omega)]
    by_cases e1 : b = p
    · subst e1
      rw [if_pos rfl, if_pos rfl, if_neg (show ¬ a = b by omega)]
      omega
    · rw [if_neg e1, if_neg e1]
      by_cases e2 : a = p
      · subst e2
        rw [if_pos rfl, if_pos rfl]
        omega
      · rw [if_neg e2, if_neg e2]
        omega

theorem come_getD {m : Nat} {ties : Ties} (hf : Fine m ties) (row : List Int) (p : Nat) : (come m ties row).getD p 0 = net ties row p := by
  unfold come
  rw [comeF_getD ties row _ p hf (by rw [List.length_replicate])]
  have e : (List.replicate m (0 : Int)).getD p 0 = 0 := by
    rw [List.getD_eq_getElem?_getD]
    by_cases h : p < m
    · rw [List.getElem?_replicate, if_pos h]; rfl
    · rw [List.getElem?_replicate, if_neg h]; rfl
  rw [e]
  omega

theorem come_get {m : Nat} {ties : Ties} (hf : Fine m ties) (row : List Int) {p : Nat} (hp : p < m) : (come m ties row)[p]? = some (net ties row p) := by
  have h : p < (come m ties row).length := by rw [come_length]; exact hp
  rw [List.getElem?_eq_getElem h]
  have := come_getD hf row p
  rw [List.getD_eq_getElem?_getD, List.getElem?_eq_getElem h] at this
  exact congrArg some this

/-- the rests are the same by rests -/
theorem restF_getD {m : Nat} {k : Int} : ∀ (ties : Ties) (row acc : List Int) (p : Nat), Fine m ties → acc.length = m → (restF k (row.zip ties) acc).getD p 0 % k = (acc.getD p 0 + net ties row p) % k
  | [], row, acc, p, _, _ => by
    have e : row.zip ([] : Ties) = [] := by cases row <;> rfl
    rw [e]
    show acc.getD p 0 % k = (acc.getD p 0 + 0) % k
    rw [Int.add_zero]
  | t :: ts, [], acc, p, _, _ => by
    show acc.getD p 0 % k = (acc.getD p 0 + 0) % k
    rw [Int.add_zero]
  | (a, b) :: ts, n :: ns, acc, p, hf, hl => by
    show (restF k (ns.zip ts) (layR k acc n (a, b))).getD p 0 % k = (acc.getD p 0 + ((if b = p then n else 0) - (if a = p then n else 0) + net ts ns p)) % k
    obtain ⟨h1, h2⟩ := hf.head
    have h1 : a < b := h1
    have h2 : b < m := h2
    rw [restF_getD ts ns _ p hf.tail (by rw [layR_length, hl])]
    unfold layR
    show (((acc.set a ((acc.getD a 0 - n) % k)).set b (((acc.set a ((acc.getD a 0 - n) % k)).getD b 0 + n) % k)).getD p 0 + _) % k = _
    rw [getD_set _ _ _ _ (by rw [List.length_set]; omega), getD_set _ _ _ _ (by omega), getD_set _ _ _ _ (by omega), if_neg (show ¬ a = b by omega)]
    by_cases e1 : b = p
    · subst e1
      rw [if_pos rfl, if_pos rfl, if_neg (show ¬ a = b by omega), Int.emod_add_emod]
      congr 1
      omega
    · rw [if_neg e1, if_neg e1]
      by_cases e2 : a = p
      · subst e2
        rw [if_pos rfl, if_pos rfl, Int.emod_add_emod]
        congr 1
        omega
      · rw [if_neg e2, if_neg e2]
        congr 1
        omega

theorem rest_dvd {m : Nat} {k : Int} {ties : Ties} (hf : Fine m ties) (row : List Int) (h : ∀ x ∈ rest m k ties row, x = 0) (p : Nat) : k ∣ net ties row p := by
  have q := restF_getD (k := k) ties row (List.replicate m 0) p hf (by rw [List.length_replicate])
  have e : (List.replicate m (0 : Int)).getD p 0 = 0 := by
    rw [List.getD_eq_getElem?_getD]
    by_cases h : p < m
    · rw [List.getElem?_replicate, if_pos h]; rfl
    · rw [List.getElem?_replicate, if_neg h]; rfl
  have z : (restF k (row.zip ties) (List.replicate m 0)).getD p 0 = 0 := by
    rw [List.getD_eq_getElem?_getD]
    cases c : (restF k (row.zip ties) (List.replicate m 0))[p]? with
    | none => rfl
    | some x => exact h x (List.mem_of_getElem? c)
  rw [z, e, Int.zero_add, Int.zero_emod] at q
  exact Int.dvd_of_emod_eq_zero q.symm

/-! ### ways -/
/-- tie t leads from u to v by the numbers of the row: it can be turned so -/
def Edge (ties : Ties) (row : List Int) (u t v : Nat) : Prop :=
  ∃ n : Int, row[t]? = some n ∧ ((ties[t]? = some (u, v) ∧ n < 0) ∨ (ties[t]? = some (v, u) ∧ 0 < n))

theorem Edge.same {ties : Ties} {row : List Int} {u t v u' v' : Nat} (h : Edge ties row u t v) (h' : Edge ties row u' t v') : v = v' := by
  obtain ⟨n, hn, h⟩ := h
  obtain ⟨n', hn', h'⟩ := h'
  rw [hn] at hn'
  cases hn'
  rcases h with ⟨e, l⟩ | ⟨e, l⟩ <;> rcases h' with ⟨e', l'⟩ | ⟨e', l'⟩
  · rw [e] at e'; cases e'; rfl
  · omega
  · omega
  · rw [e] at e'; cases e'; rfl

/-- a way from a place to another one; its ties from the end back -/
inductive Way (ties : Ties) (row : List Int) (tgt : Nat) : Nat → List Nat → Prop
  | stop : Way ties row tgt tgt []
  | step {u t v : Nat} {l : List Nat} (e : Edge ties row u t v) (n : t ∉ l) (w : Way ties row tgt v l) : Way ties row tgt u (l ++ [t])

/-- a tie's number turned -/
def turnAt (k : Int) (row : List Int) (t : Nat) : List Int := row.set t (if 0 < row.getD t 0 then row.getD t 0 - k else row.getD t 0 + k)
def turnAll (k : Int) (row : List Int) (l : List Nat) : List Int := l.foldl (turnAt k) row

theorem turnAt_length (k : Int) (row : List Int) (t : Nat) : (turnAt k row t).length = row.length := by unfold turnAt; rw [List.length_set]
theorem turnAll_length (k : Int) : ∀ (l : List Nat) (row : List Int), (turnAll k row l).length = row.length
  | [], _ => rfl
  | t :: l, row => by
    show (turnAll k (turnAt k row t) l).length = row.length
    rw [turnAll_length k l, turnAt_length]
theorem turnAll_snoc (k : Int) (row : List Int) (l : List Nat) (t : Nat) : turnAll k row (l ++ [t]) = turnAt k (turnAll k row l) t := by
  unfold turnAll; rw [List.foldl_append]; rfl
theorem turnAt_other (k : Int) (row : List Int) (t i : Nat) (h : t ≠ i) : (turnAt k row t)[i]? = row[i]? := by
  unfold turnAt; rw [List.getElem?_set_ne h]
theorem turnAll_other (k : Int) : ∀ (l : List Nat) (row : List Int) (i : Nat), i ∉ l → (turnAll k row l)[i]? = row[i]?
  | [], _, _, _ => rfl
  | t :: l, row, i, h => by
    show (turnAll k (turnAt k row t) l)[i]? = row[i]?
    rw [turnAll_other k l _ i (fun z => h (List.mem_cons_of_mem _ z)), turnAt_other k row t i (fun z => h (z ▸ List.mem_cons_self ..))]

theorem net_set : ∀ (ties : Ties) (row : List Int) (t : Nat) (x y : Int) (a b p : Nat), ties[t]? = some (a, b) → row[t]? = some x →
    net ties (row.set t y) p = net ties row p + ((if b = p then y - x else 0) - (if a = p then y - x else 0))
  | [], _, t, _, _, _, _, _, h, _ => by simp at h
  | _ :: _, [], t, _, _, _, _, _, _, h => by simp at h
  | (c, d) :: ts, n :: ns, 0, x, y, a, b, p, h, h' => by
    have e : (c, d) = (a, b) := Option.some.inj h
    have e' : n = x := Option.some.inj h'
    cases e
    cases e'
    show (if d = p then y else 0) - (if c = p then y else 0) + net ts ns p = (if d = p then n else 0) - (if c = p then n else 0) + net ts ns p + _
    by_cases q1 : d = p <;> by_cases q2 : c = p <;> simp only [q1, q2, if_true, if_false] <;> omega
  | (c, d) :: ts, n :: ns, t + 1, x, y, a, b, p, h, h' => by
    have ih := net_set ts ns t x y a b p (by simpa using h) (by simpa using h')
    show (if d = p then n else 0) - (if c = p then n else 0) + net ts (ns.set t y) p = (if d = p then n else 0) - (if c = p then n else 0) + net ts ns p + _
    rw [ih]
    omega

/-- turning a way moves k from its begin to its end -/
theorem Way.net {ties : Ties} {row : List Int} {tgt : Nat} {k : Int} {u : Nat} {l : List Nat} (w : Way ties row tgt u l) (p : Nat) :
    net ties (turnAll k row l) p = net ties row p + (if tgt = p then k else 0) - (if u = p then k else 0) := by
  induction w with
  | stop =>
    show Nf.net ties row p = _
    omega
  | @step u t v l e n w ih =>
    obtain ⟨x, hx, h⟩ := e
    have hx' : (turnAll k row l)[t]? = some x := by rw [turnAll_other k l row t n]; exact hx
    have gd : (turnAll k row l).getD t 0 = x := by rw [List.getD_eq_getElem?_getD, hx']; rfl
    rw [turnAll_snoc]
    unfold turnAt
    rw [gd]
    rcases h with ⟨ht, hl⟩ | ⟨ht, hl⟩
    · rw [if_neg (by omega), net_set _ _ _ _ _ _ _ p ht hx', ih]
      by_cases q1 : v = p <;> by_cases q2 : u = p <;> simp only [q1, q2, if_true, if_false] <;> omega
    · rw [if_pos hl, net_set _ _ _ _ _ _ _ p ht hx', ih]
      by_cases q1 : v = p <;> by_cases q2 : u = p <;> simp only [q1, q2, if_true, if_false] <;> omega

theorem Way.inside {ties : Ties} {row : List Int} {tgt : Nat} {u : Nat} {l : List Nat} (w : Way ties row tgt u l) : ∀ t ∈ l, t < row.length := by
  induction w with
  | stop => intro t h; cases h
  | @step u t v l e n w ih =>
    intro i hi
    rcases List.mem_append.mp hi with h | h
    · exact ih i h
    · have : i = t := by simpa using h
      subst this
      obtain ⟨x, hx, _⟩ := e
      exact (List.getElem?_eq_some_iff.mp hx).1

/-! ### the measure -/
/-- all that is too much, together -/
def much (m : Nat) (ties : Ties) (row : List Int) : Nat := ((List.range m).map fun p => (net ties row p).toNat).sum

theorem sum_le_of : ∀ (l : List Nat) (f g : Nat → Nat), (∀ p ∈ l, f p ≤ g p) → (l.map f).sum ≤ (l.map g).sum
  | [], _, _, _ => Nat.le_refl _
  | a :: l, f, g, h => by
    rw [List.map_cons, List.map_cons, List.sum_cons, List.sum_cons]
    have h1 := h a (List.mem_cons_self ..)
    have h2 := sum_le_of l f g fun p hp => h p (List.mem_cons_of_mem _ hp)
    omega
theorem sum_lt_of : ∀ (l : List Nat) (f g : Nat → Nat) (q : Nat), (∀ p ∈ l, f p ≤ g p) → q ∈ l → f q < g q → (l.map f).sum < (l.map g).sum
  | [], _, _, _, _, h, _ => by cases h
  | a :: l, f, g, q, h, hq, hlt => by
    rw [List.map_cons, List.map_cons, List.sum_cons, List.sum_cons]
    have h1 := h a (List.mem_cons_self ..)
    have h2 := sum_le_of l f g fun p hp => h p (List.mem_cons_of_mem _ hp)
    rcases List.mem_cons.mp hq with e | e
    · subst e; omega
    · have h3 := sum_lt_of l f g q (fun p hp => h p (List.mem_cons_of_mem _ hp)) e hlt
      omega

theorem much_less {m : Nat} {ties : Ties} {row : List Int} {k : Int} {u tgt : Nat} {l : List Nat} (w : Way ties row tgt u l) (hk : 0 < k) (hu : u < m) (h1 : 0 < net ties row u) (h2 : net ties row tgt < 0) (hd : k ∣ net ties row tgt) :
    much m ties (turnAll k row l) < much m ties row := by
  have hle : net ties row tgt + k ≤ 0 := by
    obtain ⟨c, hc⟩ := hd
    rw [hc] at h2 ⊢
    have hc0 : c < 0 := by
      rcases Int.lt_or_le c 0 with h | h
      · exact h
      · have := Int.mul_nonneg (Int.le_of_lt hk) h
        omega
    have : k * c ≤ k * (-1) := Int.mul_le_mul_of_nonneg_left (by omega) (Int.le_of_lt hk)
    omega
  have hne : tgt ≠ u := fun e => by rw [e] at h2; omega
  unfold much
  refine sum_lt_of _ _ _ u (fun p _ => ?_) (List.mem_range.mpr hu) ?_
  · show (net ties (turnAll k row l) p).toNat ≤ (net ties row p).toNat
    rw [w.net p]
    by_cases q1 : tgt = p
    · subst q1
      rw [if_pos rfl, if_neg (Ne.symm hne)]
      omega
    · rw [if_neg q1]
      by_cases q2 : u = p
      · rw [if_pos q2]; omega
      · rw [if_neg q2]; omega
  · show (net ties (turnAll k row l) u).toNat < (net ties row u).toNat
    rw [w.net u, if_neg hne, if_pos rfl]
    omega

theorem turn_dvd {ties : Ties} {row : List Int} {k : Int} {u tgt : Nat} {l : List Nat} (w : Way ties row tgt u l) (hd : ∀ p, k ∣ net ties row p) (p : Nat) : k ∣ net ties (turnAll k row l) p := by
  rw [w.net p]
  have hz : k ∣ (0 : Int) := ⟨0, by omega⟩
  have hk : k ∣ k := ⟨1, by omega⟩
  refine Int.dvd_sub (Int.dvd_add (hd p) ?_) ?_
  · by_cases q : tgt = p
    · rw [if_pos q]; exact hk
    · rw [if_neg q]; exact hz
  · by_cases q : u = p
    · rw [if_pos q]; exact hk
    · rw [if_neg q]; exact hz

/-! ### the cut: places from which no tie leads out have not more than nothing together -/
def sumOn (ties : Ties) (row : List Int) : List Nat → Int
  | [] => 0
  | p :: r => net ties row p + sumOn ties row r

theorem sumOn_nil (row : List Int) : ∀ S : List Nat, sumOn [] row S = 0
  | [] => rfl
  | p :: r => by
    show net [] row p + sumOn [] row r = 0
    rw [sumOn_nil row r]
    cases row <;> rfl
theorem sumOn_nil2 (ties : Ties) : ∀ S : List Nat, sumOn ties [] S = 0
  | [] => rfl
  | p :: r => by
    show net ties [] p + sumOn ties [] r = 0
    rw [sumOn_nil2 ties r]
    cases ties with
    | nil => rfl
    | cons t ts => rfl
theorem sumOn_cons (a b : Nat) (ts : Ties) (n : Int) (ns : List Int) : ∀ S : List Nat, S.Nodup →
    sumOn ((a, b) :: ts) (n :: ns) S = (if b ∈ S then n else 0) - (if a ∈ S then n else 0) + sumOn ts ns S
  | [], _ => by
    show (0 : Int) = (if b ∈ ([] : List Nat) then n else 0) - (if a ∈ ([] : List Nat) then n else 0) + 0
    rw [if_neg (by simp), if_neg (by simp)]
    omega
  | p :: r, hn => by
    obtain ⟨hp, hr⟩ := List.nodup_cons.mp hn
    show net ((a, b) :: ts) (n :: ns) p + sumOn ((a, b) :: ts) (n :: ns) r = _ - _ + (net ts ns p + sumOn ts ns r)
    rw [sumOn_cons a b ts n ns r hr]
    show (if b = p then n else 0) - (if a = p then n else 0) + net ts ns p + _ = _
    have e : ∀ c : Nat, (if c ∈ p :: r then n else 0) = (if c = p then n else 0) + (if c ∈ r then n else 0) := fun c => by
      by_cases q : c = p
      · subst q
        rw [if_pos (List.mem_cons_self ..), if_pos rfl, if_neg hp]
        omega
      · rw [if_neg q]
        by_cases q2 : c ∈ r
        · rw [if_pos q2, if_pos (List.mem_cons_of_mem _ q2)]; omega
        · rw [if_neg q2, if_neg (fun z => (List.mem_cons.mp z).elim q q2)]; omega
    rw [e a, e b]
    omega

/-- S is shut: no tie leads out of it -/
def Shut (ties : Ties) (row : List Int) (S : List Nat) : Prop := ∀ u t v, u ∈ S → Edge ties row u t v → v ∈ S

theorem Shut.tail {a b : Nat} {ts : Ties} {n : Int} {ns : List Int} {S : List Nat} (h : Shut ((a, b) :: ts) (n :: ns) S) : Shut ts ns S := fun u t v hu ⟨x, hx, e⟩ =>
  h u (t + 1) v hu ⟨x, by simpa using hx, by simpa using e⟩
theorem shut_le : ∀ (ties : Ties) (row : List Int) (S : List Nat), S.Nodup → Shut ties row S → sumOn ties row S ≤ 0
  | [], row, S, _, _ => by rw [sumOn_nil]; exact Int.le_refl _
  | _ :: _, [], S, _, _ => by rw [sumOn_nil2]; exact Int.le_refl _
  | (a, b) :: ts, n :: ns, S, hn, hs => by
    rw [sumOn_cons a b ts n ns S hn]
    have ih := shut_le ts ns S hn hs.tail
    have h1 : b ∈ S → ¬ a ∈ S → n ≤ 0 := fun hb ha => by
      rcases Int.lt_or_le 0 n with h | h
      · exact absurd (hs b 0 a hb ⟨n, rfl, .inr ⟨rfl, h⟩⟩) ha
      · exact h
    have h2 : a ∈ S → ¬ b ∈ S → 0 ≤ n := fun ha hb => by
      rcases Int.lt_or_le n 0 with h | h
      · exact absurd (hs a 0 b ha ⟨n, rfl, .inl ⟨rfl, h⟩⟩) hb
      · exact h
    by_cases qa : a ∈ S <;> by_cases qb : b ∈ S
    · rw [if_pos qa, if_pos qb]; omega
    · rw [if_pos qa, if_neg qb]; have := h2 qa qb; omega
    · rw [if_neg qa, if_pos qb]; have := h1 qb qa; omega
    · rw [if_neg qa, if_neg qb]; omega
theorem sumOn_nonneg {ties : Ties} {row : List Int} : ∀ (S : List Nat), (∀ p ∈ S, 0 ≤ net ties row p) → 0 ≤ sumOn ties row S
  | [], _ => Int.le_refl _
  | p :: r, h => by
    show 0 ≤ net ties row p + sumOn ties row r
    have h1 := h p (List.mem_cons_self ..)
    have h2 := sumOn_nonneg r fun q hq => h q (List.mem_cons_of_mem _ hq)
    omega
theorem sumOn_pos {ties : Ties} {row : List Int} : ∀ (S : List Nat) (q : Nat), (∀ p ∈ S, 0 ≤ net ties row p) → q ∈ S → 0 < net ties row q → 0 < sumOn ties row S
  | [], _, _, h, _ => by cases h
  | p :: r, q, h, hq, hp => by
    show 0 < net ties row p + sumOn ties row r
    have h1 := h p (List.mem_cons_self ..)
    have h2 := sumOn_nonneg r fun q hq => h q (List.mem_cons_of_mem _ hq)
    rcases List.mem_cons.mp hq with e | e
    · subst e; omega
    · have := sumOn_pos r q (fun p hp => h p (List.mem_cons_of_mem _ hp)) e hp
      omega
/-- where one place of a shut lot has too much, another one has too little -/
theorem shut_has {ties : Ties} {row : List Int} {S : List Nat} {q : Nat} (hn : S.Nodup) (hs : Shut ties row S) (hq : q ∈ S) (hp : 0 < net ties row q) (h : ∀ p ∈ S, 0 ≤ net ties row p) : False := by
  have h1 := shut_le ties row S hn hs
  have h2 := sumOn_pos S q h hq hp
  omega

/-! ### the search -/
/-- the ties out of a place, as next_places tells them: (there, tie), from the tie numbered i on -/
def nexts (u : Nat) : Nat → Ties → List Int → List (Nat × Nat)
  | i, (a, b) :: ts, n :: ns => (if a = u ∧ n < 0 then [(b, i)] else []) ++ (if b = u ∧ 0 < n then [(a, i)] else []) ++ nexts u (i + 1) ts ns
  | _, _, _ => []

theorem nexts_mem {u v t : Nat} : ∀ (i : Nat) (ties : Ties) (row : List Int), (v, t) ∈ nexts u i ties row ↔ ∃ j, t = i + j ∧ Edge ties row u j v
  | i, [], row => by
    refine ⟨fun h => (by cases row <;> cases h), fun ⟨j, _, n, _, h⟩ => (by rcases h with ⟨h, _⟩ | ⟨h, _⟩ <;> simp at h)⟩
  | i, _ :: _, [] => by
    refine ⟨fun h => (by cases h), fun ⟨j, _, n, h, _⟩ => (by simp at h)⟩
  | i, (a, b) :: ts, n :: ns => by
    have ih := nexts_mem (u := u) (v := v) (t := t) (i + 1) ts ns
    show (v, t) ∈ (if a = u ∧ n < 0 then [(b, i)] else []) ++ (if b = u ∧ 0 < n then [(a, i)] else []) ++ nexts u (i + 1) ts ns ↔ _
    rw [List.mem_append, List.mem_append, ih]
    constructor
    · rintro ((h | h) | ⟨j, e, x, hx, h⟩)
      · by_cases c : a = u ∧ n < 0
        · rw [if_pos c] at h
          have e : (v, t) = (b, i) := by simpa using h
          cases e
          exact ⟨0, rfl, n, rfl, .inl ⟨by rw [← c.1]; rfl, c.2⟩⟩
        · rw [if_neg c] at h; cases h
      · by_cases c : b = u ∧ 0 < n
        · rw [if_pos c] at h
          have e : (v, t) = (a, i) := by simpa using h
          cases e
          exact ⟨0, rfl, n, rfl, .inr ⟨by rw [← c.1]; rfl, c.2⟩⟩
        · rw [if_neg c] at h; cases h
      · exact ⟨j + 1, by omega, x, by simpa using hx, by simpa using h⟩
    · rintro ⟨j, e, x, hx, h⟩
      cases j with
      | zero =>
        have ex : n = x := Option.some.inj hx
        subst ex
        rcases h with ⟨h, hl⟩ | ⟨h, hl⟩
        · have e2 : (a, b) = (u, v) := Option.some.inj h
          cases e2
          left; left
          rw [if_pos ⟨rfl, hl⟩, e]
          exact List.mem_singleton.mpr rfl
        · have e2 : (a, b) = (v, u) := Option.some.inj h
          cases e2
          left; right
          rw [if_pos ⟨rfl, hl⟩, e]
          exact List.mem_singleton.mpr rfl
      | succ j =>
        right
        exact ⟨j, by omega, x, by simpa using hx, by simpa using h⟩

/-- an entry of the search: the place, and whence it was met by which tie -/
abbrev Met := List (Nat × Option (Nat × Nat))
/-- one place more, where it is not met yet -/
def meet (L : Met) (u v t : Nat) : Met := if v ∈ L.map (·.1) then L else L ++ [(v, some (u, t))]
/-- what the search has met: the first one is begin, each other one was met from an earlier one; no place twice; all below m -/
structure Sound (m : Nat) (ties : Ties) (row : List Int) (begin : Nat) (L : Met) : Prop where
  nd : (L.map (·.1)).Nodup
  lt : ∀ e ∈ L, e.1 < m
  first : L[0]? = some (begin, none)
  later : ∀ j v o, L[j]? = some (v, o) → 0 < j → ∃ u t i o', o = some (u, t) ∧ i < j ∧ L[i]? = some (u, o') ∧ Edge ties row u t v

theorem edge_lt {m : Nat} {ties : Ties} {row : List Int} {u t v : Nat} (hf : Fine m ties) (h : Edge ties row u t v) : v < m := by
  obtain ⟨n, _, h⟩ := h
  rcases h with ⟨h, _⟩ | ⟨h, _⟩
  · have := hf _ (List.mem_of_getElem? h); exact this.2
  · have := hf _ (List.mem_of_getElem? h); exact Nat.lt_trans this.1 this.2

theorem Sound.start {m : Nat} {ties : Ties} {row : List Int} {begin : Nat} (h : begin < m) : Sound m ties row begin [(begin, none)] where
  nd := by simp
  lt := fun e he => by
    have : e = (begin, none) := by simpa using he
    rw [this]; exact h
  first := rfl
  later := fun j v o hj h0 => by
    cases j with
    | zero => omega
    | succ j => simp at hj

theorem Sound.meet {m : Nat} {ties : Ties} {row : List Int} {begin : Nat} {L : Met} (s : Sound m ties row begin L) (hf : Fine m ties) {i u v t : Nat} {o : Option (Nat × Nat)} (hi : L[i]? = some (u, o)) (e : Edge ties row u t v) :
    Sound m ties row begin (meet L u v t) := by
  unfold Nf.meet
  by_cases c : v ∈ L.map (·.1)
  · rw [if_pos c]; exact s
  · rw [if_neg c]
    have il : i < L.length := (List.getElem?_eq_some_iff.mp hi).1
    refine ⟨?_, ?_, ?_, ?_⟩
    · rw [List.map_append]
      refine List.nodup_append.mpr ⟨s.nd, by simp, fun x hx y hy q => ?_⟩
      have : y = v := by simpa using hy
      rw [q, this] at hx
      exact c hx
    · intro x hx
      rcases List.mem_append.mp hx with h | h
      · exact s.lt x h
      · have : x = (v, some (u, t)) := by simpa using h
        rw [this]; exact edge_lt hf e
    · have h0 : 0 < L.length := by omega
      rw [List.getElem?_append_left h0]; exact s.first
    · intro j w p hj h0
      by_cases q : j < L.length
      · rw [List.getElem?_append_left q] at hj
        obtain ⟨u', t', i', o', h1, h2, h3, h4⟩ := s.later j w p hj h0
        exact ⟨u', t', i', o', h1, h2, by rw [List.getElem?_append_left (by omega)]; exact h3, h4⟩
      · have hl : j < (L ++ [(v, some (u, t))]).length := (List.getElem?_eq_some_iff.mp hj).1
        rw [List.length_append, List.length_singleton] at hl
        have ej : j = L.length := by omega
        subst ej
        rw [List.getElem?_append_right (Nat.le_refl _), Nat.sub_self] at hj
        have e2 : (v, some (u, t)) = (w, p) := Option.some.inj hj
        cases e2
        exact ⟨u, t, i, o, rfl, il, by rw [List.getElem?_append_left il]; exact hi, e⟩

theorem meet_keep {L : Met} {u v t j : Nat} {x : Nat × Option (Nat × Nat)} (h : L[j]? = some x) : (meet L u v t)[j]? = some x := by
  unfold meet
  by_cases c : v ∈ L.map (·.1)
  · rw [if_pos c]; exact h
  · rw [if_neg c, List.getElem?_append_left (List.getElem?_eq_some_iff.mp h).1]; exact h
theorem meet_mem {L : Met} {u v t : Nat} : v ∈ (meet L u v t).map (·.1) := by
  unfold meet
  by_cases c : v ∈ L.map (·.1)
  · rw [if_pos c]; exact c
  · rw [if_neg c, List.map_append]; exact List.mem_append_right _ (by simp)
theorem meet_sub {L : Met} {u v t x : Nat} (h : x ∈ L.map (·.1)) : x ∈ (meet L u v t).map (·.1) := by
  unfold meet
  by_cases c : v ∈ L.map (·.1)
  · rw [if_pos c]; exact h
  · rw [if_neg c, List.map_append]; exact List.mem_append_left _ h
theorem meet_len {L : Met} {u v t : Nat} : L.length ≤ (meet L u v t).length := by
  unfold meet
  by_cases c : v ∈ L.map (·.1)
  · rw [if_pos c]; exact Nat.le_refl _
  · rw [if_neg c, List.length_append]; omega

theorem nodup_len {m : Nat} : ∀ {l : List Nat}, l.Nodup → (∀ x ∈ l, x < m) → l.length ≤ m := fun {l} hn hl => by
  have h1 : l.length ≤ (List.range m).length := by
    refine List.Nodup.length_le_of_subset hn fun x hx => List.mem_range.mpr (hl x hx)
  rwa [List.length_range] at h1
theorem Sound.len {m : Nat} {ties : Ties} {row : List Int} {begin : Nat} {L : Met} (s : Sound m ties row begin L) : L.length ≤ m := by
  have := nodup_len s.nd (fun x hx => by
    obtain ⟨e, he, q⟩ := List.mem_map.mp hx
    rw [← q]; exact s.lt e he)
  rwa [List.length_map] at this

/-- the first `met` places are done: they have not too little, and all that their ties lead to is met -/
def Done (ties : Ties) (row : List Int) (L : Met) (met : Nat) : Prop :=
  ∀ j u o, j < met → L[j]? = some (u, o) → 0 ≤ net ties row u ∧ ∀ t v, Edge ties row u t v → v ∈ L.map (·.1)

theorem Done.meet {ties : Ties} {row : List Int} {L : Met} {n u v t : Nat} (d : Done ties row L n) (hn : n ≤ L.length) : Done ties row (meet L u v t) n := fun j w o hj h => by
  have hl : j < L.length := by omega
  have e : L[j]? = some (w, o) := by
    have q := meet_keep (u := u) (v := v) (t := t) (List.getElem?_eq_getElem hl)
    rw [q] at h
    rw [List.getElem?_eq_getElem hl]; exact h
  obtain ⟨h1, h2⟩ := d j w o hj e
  exact ⟨h1, fun t' v' e' => meet_sub (h2 t' v' e')⟩

/-- the search never ends without a place that has too little -/
theorem search_goes {m : Nat} {ties : Ties} {row : List Int} {begin : Nat} {L : Met} {met : Nat} (s : Sound m ties row begin L) (d : Done ties row L met) (hb : 0 < net ties row begin) : met < L.length := by
  rcases Nat.lt_or_ge met L.length with h | h
  · exact h
  · exfalso
    refine shut_has (S := L.map (·.1)) (q := begin) (row := row) (ties := ties) s.nd (fun u t v hu e => ?_) ?_ hb fun p hp => ?_
    · obtain ⟨j, hj⟩ := List.mem_iff_getElem?.mp hu
      rw [List.getElem?_map] at hj
      cases c : L[j]? with
      | none => rw [c] at hj; cases hj
      | some x =>
        rw [c] at hj
        have ex : x.1 = u := Option.some.inj hj
        have jl := (List.getElem?_eq_some_iff.mp c).1
        exact (d j u x.2 (by omega) (by rw [c, ← ex])).2 t v e
    · exact List.mem_map.mpr ⟨(begin, none), List.mem_of_getElem? s.first, rfl⟩
    · obtain ⟨j, hj⟩ := List.mem_iff_getElem?.mp hp
      rw [List.getElem?_map] at hj
      cases c : L[j]? with
      | none => rw [c] at hj; cases hj
      | some x =>
        rw [c] at hj
        have ex : x.1 = p := Option.some.inj hj
        have jl := (List.getElem?_eq_some_iff.mp c).1
        exact (d j p x.2 (by omega) (by rw [c, ← ex])).1

/-- the way back: from the place at j the ties of `back` lead to tgt, all of them met behind j -/
def Back (ties : Ties) (row : List Int) (L : Met) (tgt j : Nat) (back : List Nat) : Prop :=
  (∃ v o, L[j]? = some (v, o) ∧ Way ties row tgt v back) ∧ ∀ t ∈ back, ∃ i v u o, j < i ∧ L[i]? = some (v, o) ∧ Edge ties row u t v

theorem Back.start {ties : Ties} {row : List Int} {L : Met} {tgt j : Nat} {o : Option (Nat × Nat)} (h : L[j]? = some (tgt, o)) : Back ties row L tgt j [] :=
  ⟨⟨tgt, o, h, .stop⟩, fun t ht => by cases ht⟩
theorem Back.step {m : Nat} {ties : Ties} {row : List Int} {begin : Nat} {L : Met} {tgt j v u t : Nat} {back : List Nat} (s : Sound m ties row begin L) (b : Back ties row L tgt j back) (h : L[j]? = some (v, some (u, t))) :
    ∃ i o, i < j ∧ L[i]? = some (u, o) ∧ Back ties row L tgt i (back ++ [t]) := by
  have h0 : 0 < j := by
    rcases Nat.eq_zero_or_pos j with e | e
    · subst e; rw [s.first] at h; cases h
    · exact e
  obtain ⟨u', t', i, o', e1, hi, hu, ed⟩ := s.later j v _ h h0
  cases e1
  obtain ⟨⟨v', o, hv, w⟩, hb⟩ := b
  rw [h] at hv
  cases hv
  have nb : t ∉ back := fun ht => by
    obtain ⟨i2, v2, u2, o2, hj2, h2, ed2⟩ := hb t ht
    have ev : v = v2 := ed.same ed2
    subst ev
    have hl := (List.getElem?_eq_some_iff.mp h).1
    have hl2 := (List.getElem?_eq_some_iff.mp h2).1
    have q1 : (L.map (·.1))[j]? = some v := by rw [List.getElem?_map, h]; rfl
    have q2 : (L.map (·.1))[i2]? = some v := by rw [List.getElem?_map, h2]; rfl
    have m1 : j < (L.map (·.1)).length := by rw [List.length_map]; exact hl
    have m2 : i2 < (L.map (·.1)).length := by rw [List.length_map]; exact hl2
    rw [List.getElem?_eq_getElem m1] at q1
    rw [List.getElem?_eq_getElem m2] at q2
    have := (List.getElem_inj s.nd).mp ((Option.some.inj q1).trans (Option.some.inj q2).symm)
    omega
  refine ⟨i, o', hi, hu, ⟨u, o', hu, .step ed nb w⟩, fun x hx => ?_⟩
  rcases List.mem_append.mp hx with q | q
  · obtain ⟨i2, v2, u2, o2, hj2, h2, ed2⟩ := hb x q
    exact ⟨i2, v2, u2, o2, by omega, h2, ed2⟩
  · have : x = t := by simpa using q
    subst this
    exact ⟨j, v, u, _, hi, h, ed⟩
theorem Back.way {m : Nat} {ties : Ties} {row : List Int} {begin : Nat} {L : Met} {tgt j v : Nat} {back : List Nat} (s : Sound m ties row begin L) (b : Back ties row L tgt j back) (h : L[j]? = some (v, none)) : Way ties row tgt begin back := by
  have h0 : j = 0 := by
    rcases Nat.eq_zero_or_pos j with e | e
    · exact e
    · obtain ⟨u, t, i, o', e1, _⟩ := s.later j v _ h e
      cases e1
  subst h0
  obtain ⟨⟨v', o, hv, w⟩, _⟩ := b
  rw [s.first] at hv
  cases hv
  exact w
end Nf
-- text NfRules
set_option Elab.async false
set_option linter.all false
set_option maxRecDepth 100000
set_option maxHeartbeats 400000
/-! Rules of our own: zip and enumerate over lists and tuples in any mix, a tuple taken nought times or once. -/
namespace NfR
open PySem PySem.Spec PyProof.Rows L2

/-- a tuple (true) or a list (false) is read at a -/
def SqX (t : Bool) (K : PySem.W.Frag) (H : Hp) (a : Addr) (xs : List V) : Prop := match t with
  | true => SqT K H a xs
  | false => SqL K H a xs
def HSq (t : Bool) (h : Heap) (a : Addr) (items : Array Value) : Prop := match t with
  | true => h.IsTuple a items
  | false => h.IsList a items
def HIt (t : Bool) (h : Heap) (I a : Addr) (i : Nat) : Prop := match t with
  | true => h.IsTupleIter I a i
  | false => h.IsListIter I a i
def itOb (t : Bool) (a : Addr) : Obj := match t with
  | true => { cls := .type "tuple_iterator", data := .fields #[.ref a, .int 0 0] }
  | false => { cls := .type "list_iterator", data := .fields #[.ref a, .int 0 0] }

section
variable {X : Cx} {pins : List (Addr × Obj)} {σ : L2.St} {H : Hp} {s : Shared} {a : Addr} {xs ys : List V}
theorem sq_have {t : Bool} (I : Inv X pins σ H s) (h : SqX t X.K H a xs) : ∃ its : List Value, Vals xs its ∧ HSq t s.heap a its.toArray ∧ a < s.heap.objs.size := by
  cases t with
  | true =>
    obtain ⟨its, rv, ht, _⟩ := I.tuple h
    obtain ⟨o, ho, _⟩ := id ht
    exact ⟨its, rv, ht, Heap.lt_size ho⟩
  | false =>
    obtain ⟨its, rv, hl, _⟩ := I.list h
    exact ⟨its, rv, hl.isList, hl.lt⟩
theorem sq_one {t : Bool} (I : Inv X pins σ H s) (h : SqX t X.K H a xs) (h' : SqX t X.K H a ys) : xs = ys := by
  cases t with
  | true => exact I.tuple_inj h h'
  | false => exact I.list_inj h h'
end
theorem hit_ob {t : Bool} {h : Heap} {I a : Addr} {i : Nat} (st : HIt t h I a i) : ∃ o vs, h.get? I = some o ∧ o.data = .fields vs := by
  cases t with
  | true => obtain ⟨o, e, _, d⟩ := st; exact ⟨o, _, e, d⟩
  | false => obtain ⟨o, e, _, d⟩ := st; exact ⟨o, _, e, d⟩
theorem hit_at {t : Bool} {h h' : Heap} {I a : Addr} {i : Nat} (st : HIt t h I a i) (k : ∀ o, h.get? I = some o → h'.get? I = some o) : HIt t h' I a i := by
  cases t with
  | true => exact Heap.IsTupleIter.at st k
  | false => exact Heap.IsListIter.at st k
theorem hit_new {t : Bool} {h : Heap} {I a : Addr} (e : h.get? I = some (itOb t a)) : HIt t h I a 0 := by
  cases t with
  | true => exact ⟨_, e, rfl, rfl⟩
  | false => exact ⟨_, e, rfl, rfl⟩
theorem sq_draws {P : Program} {w : World} {A : Around} (t : Bool) (hh : A.handled = none) (it a : Addr) (hne : a ≠ it) (items : Array Value) :
    Draws P w A it [it, a] items.size (fun i v => items[i]? = some v) (fun i h => HIt t h it a i ∧ HSq t h a items) := by
  cases t with
  | true => exact Draws.tuple hh it a hne items
  | false => exact Draws.list hh it a hne items
theorem sq_begins (t : Bool) (a : Addr) (items : Array Value) : Begins (.ref a) (itOb t a) fun h => HSq t h a items := by
  cases t with
  | true => exact begins_tuple a items
  | false => exact begins_list a items

/-! ### zip -/
/-- what stands at a and b at each turn, the two items in a new pair -/
def ItzX (t u : Bool) (K : PySem.W.Frag) (a b : Addr) : It where
  go := fun i H => ∃ (xs ys : List V) (x y : V), SqX t K H a xs ∧ SqX u K H b ys ∧ xs[i]? = some x ∧ ys[i]? = some y
  yld := fun i H v H' => ∃ T x y, v = .ref T ∧ H T = none ∧ H' = upd H T (.tup [x, y]) ∧ (∀ xs, SqX t K H a xs → xs[i]? = some x) ∧ ∀ ys, SqX u K H b ys → ys[i]? = some y
  stop := fun i H => ∃ xs ys : List V, SqX t K H a xs ∧ SqX u K H b ys ∧ i = min xs.length ys.length

theorem turn_zipX {t u : Bool} {P : Program} {w : World} {K : PySem.W.Frag} {elts : List Expr} {kk : Nat} {tpos : Pos} {a b z TI TO i1 i2 : Addr} (S : ZipSep2 z TI TO i1 i2 [i1, a] [i2, b]) (na : a ≠ i1) (nb : b ≠ i2) :
    Turn P w K (.Tuple elts kk tpos) (ItzX t u K a b) [z, TI, TO, i1, i2] z (fun i h => IsZip h z TI TO .none ∧ IsTupOf2 h TI (.ref i1) (.ref i2) ∧ (∃ x y, IsTupOf2 h TO x y) ∧ HIt t h i1 a i ∧ HIt u h i2 b i) where
  mem := List.mem_cons_self ..
  obj := by
    rintro i h ⟨hz, hI, ⟨x, y, hO⟩, s1, s2⟩ c hc
    simp only [List.mem_cons, List.not_mem_nil, or_false] at hc
    have nofields : ∀ {o : Obj} {vs : Array Value}, o.data = .fields vs → ∀ v, o.data ≠ .cell v := fun d v q => by rw [d] at q; cases q
    rcases hc with rfl | rfl | rfl | rfl | rfl
    · exact ⟨_, hz, nofields rfl⟩
    · exact ⟨_, hI, fun v q => by cases q⟩
    · exact ⟨_, hO, fun v q => by cases q⟩
    · obtain ⟨o, vs, e, d⟩ := hit_ob s1; exact ⟨o, e, nofields d⟩
    · obtain ⟨o, vs, e, d⟩ := hit_ob s2; exact ⟨o, e, nofields d⟩
  keep := by
    rintro i h h' ⟨hz, hI, ⟨x, y, hO⟩, s1, s2⟩ k
    exact ⟨k z (by simp) _ hz, k TI (by simp) _ hI, ⟨x, y, k TO (by simp) _ hO⟩, hit_at s1 (k i1 (by simp)), hit_at s2 (k i2 (by simp))⟩
  item := by
    rintro X rfl rfl rfl hc i pins s σ H E I hf ⟨hz, hI, ⟨x0, y0, hO⟩, s1, s2⟩ ⟨xs, ys, x, y, qx, qy, hx, hy⟩
    obtain ⟨is1, r1, p1, _⟩ := sq_have I qx
    obtain ⟨is2, r2, p2, _⟩ := sq_have I qy
    obtain ⟨v1, g1, e1⟩ := r1.get hx
    obtain ⟨v2, g2, e2⟩ := r2.get hy
    have hh : X.A.in1.handled = none := I.ok.hd hc
    have l1 : i < is1.toArray.size := by rw [List.size_toArray]; exact (List.getElem?_eq_some_iff.mp g1).1
    have l2 : i < is2.toArray.size := by rw [List.size_toArray]; exact (List.getElem?_eq_some_iff.mp g2).1
    refine wpAny_pyNext_zipD2_item S (sq_draws t hh i1 a na is1.toArray) (sq_draws u hh i2 b nb is2.toArray) hz hI hO ⟨s1, p1⟩ ⟨s2, p2⟩ l1 l2 fun z1 z2 h' tk k1 k2 hz' hO' st1 st2 hT hsz hk => ?_
    have q1 : z1 = v1 := by
      have : is1[i]? = some z1 := by simpa using k1
      rw [g1] at this; exact (Option.some.inj this).symm
    have q2 : z2 = v2 := by
      have : is2[i]? = some z2 := by simpa using k2
      rw [g2] at this; exact (Option.some.inj this).symm
    subst q1 q2
    have old : ∀ {c o}, s.heap.get? c = some o → c ≠ s.heap.objs.size := fun e => Nat.ne_of_lt (Heap.lt_size e)
    have o1 : i1 ≠ s.heap.objs.size := by obtain ⟨_, _, e, _⟩ := hit_ob s1; exact old e
    have o2 : i2 ≠ s.heap.objs.size := by obtain ⟨_, _, e, _⟩ := hit_ob s2; exact old e
    refine ⟨_, rfl, wpAny_letOwnedTupleGo_zip (s := { s with heap := h', toks := tk }) hz' fun h2 hz2 sb => ?_⟩
    have same : ∀ c o, c ∉ [z, TI, TO, i1, i2] → s.heap.get? c = some o → h2.get? c = some o := fun c o hn e => by
      simp only [List.mem_cons, List.not_mem_nil, or_false, not_or] at hn
      obtain ⟨n1, n2, n3, n4, n5⟩ := hn
      exact (sb.2 c n1).trans (hk c o n1 n3 n4 n5 e)
    have hT2 : h2.get? s.heap.objs.size = some { cls := .type "tuple", data := .seq #[z1, z2] } := (sb.2 _ (Ne.symm (old hz))).trans hT
    have laid : ObjOk X.prog X.w (upd H s.heap.objs.size (.tup [x, y])) h2 s.heap.objs.size (.tup [x, y]) :=
      ⟨(by decide : 2 ≤ sizeLine), [z1, z2], .cons e1 (.cons e2 .nil), ⟨_, hT2, rfl, _, rfl⟩⟩
    refine ⟨.ref s.heap.objs.size, _, I.turnedNew same hf (Nat.le_refl _) laid, rfl, ⟨_, x, y, rfl, I.hok.fresh (Nat.le_refl _), rfl, fun l hl => ?_, fun l hl => ?_⟩, ⟨hz2, ?_, ⟨z1, z2, ?_⟩, ?_, ?_⟩, fun c hcm => ?_⟩
    · rw [sq_one I hl qx]; exact hx
    · rw [sq_one I hl qy]; exact hy
    · exact (sb.2 _ S.TIz).trans (hk _ _ S.TIz S.TITO S.TIi1 S.TIi2 hI)
    · exact (sb.2 _ S.TOz).trans hO'
    · exact hit_at st1.1 fun o q => (sb.2 _ (Ne.symm S.zi1)).trans q
    · exact hit_at st2.1 fun o q => (sb.2 _ (Ne.symm S.zi2)).trans q
    · have : c ≠ s.heap.objs.size := by
        simp only [List.mem_cons, List.not_mem_nil, or_false] at hcm
        rcases hcm with rfl | rfl | rfl | rfl | rfl
        · exact old hz
        · exact old hI
        · exact old hO
        · exact o1
        · exact o2
      rw [upd_ne this]
      exact (hf c hcm).1
  done := by
    rintro X rfl rfl rfl hc i pins s σ H E I hf ⟨hz, hI, ⟨x0, y0, hO⟩, s1, s2⟩ ⟨xs, ys, qx, qy, he⟩
    obtain ⟨is1, r1, p1, _⟩ := sq_have I qx
    obtain ⟨is2, r2, p2, _⟩ := sq_have I qy
    have hh : X.A.in1.handled = none := I.ok.hd hc
    have n1 : is1.toArray.size = xs.length := by rw [List.size_toArray]; exact r1.length.symm
    have n2 : is2.toArray.size = ys.length := by rw [List.size_toArray]; exact r2.length.symm
    refine wpAny_pyNext_zipD2_end S (sq_draws t hh i1 a na is1.toArray) (sq_draws u hh i2 b nb is2.toArray) hz hI hO ⟨s1, p1⟩ ⟨s2, p2⟩ (by omega) (by omega) (by omega) fun h' tk hk => ⟨rfl, ?_⟩
    refine I.turnedL (t' := tk) (ch := [z, TI, TO, i1, i2]) (fun c o hn e => ?_) hf
    simp only [List.mem_cons, List.not_mem_nil, or_false, not_or] at hn
    exact hk c o hn.1 hn.2.2.1 hn.2.2.2.1 hn.2.2.2.2 e
  self := fun A i s Q E st h => wpAny_pyIter_zip st.1 h

def iZipX (t u : Bool) (K : PySem.W.Frag) (ta : TA) : TI := fun σ H R => ta σ H fun vs H1 => ∃ a b xs ys, vs = [.ref a, .ref b] ∧ SqX t K H1 a xs ∧ SqX u K H1 b ys ∧ R (ItzX t u K a b) H1
theorem pi_zipX (t u : Bool) {X : Cx} {e e2 : Expr} {ta : TA} {p pos tpos : Pos} {elts : List Expr} {kk : Nat} (hg : Gl X "zip") (hm : X.mg "zip" = none) (ha : PA X [e, e2] ta)
    (hs : starEach [e, e2] X.env = (false, eval e X.env) :: starEach [e2] X.env := by rfl) (hpl : (backTo pos (starEach [e2] X.env)).any (·.1) = false := by rfl) :
    PI X (.Tuple elts kk tpos) (.Call (.Name "zip" p) [e, e2] [] pos) (iZipX t u X.K ta) where
  run := fun pins s σ H R I h => by
    refine Call_ (ld_blt I hg hm boot_zip (callWith_type1 (thn (ha.run pos pins s σ H _ I h) ?_) hs hpl))
    rintro us s1 ⟨vs, H1, I1, rv, q1⟩
    obtain ⟨a, b, xs, ys, ev, qx, qy, q⟩ := q1
    subst ev
    cases rv with
    | cons ra rr =>
      cases rr with
      | cons rb rr =>
        cases rr
        cases ra
        cases rb
        obtain ⟨is1, r1, p1, la⟩ := sq_have I1 qx
        obtain ⟨is2, r2, p2, lb⟩ := sq_have I1 qy
        refine zip_begins2 (sq_begins t a is1.toArray) (sq_begins u b is2.toArray) p1 p2 ?_
        intro h' hz hI hO o1 o2 hsz hk
        refine wpAny_pyIter_zip hz ?_
        have I2 : Inv X pins σ H1 { s1 with heap := h' } := I1.kept (t' := s1.toks) hk
        have S := zip_sep2 (N := s1.heap.objs.size) (fp1 := [a]) (fp2 := [b]) (by simpa using la) (by simpa using lb)
        have T := turn_zipX (t := t) (u := u) (P := X.prog) (w := X.w) (K := X.K) (elts := elts) (kk := kk) (tpos := tpos) S (Nat.ne_of_lt la) (Nat.ne_of_lt (Nat.lt_succ_of_lt lb))
        refine ⟨s1.heap.objs.size + 4, [s1.heap.objs.size + 4, s1.heap.objs.size + 2, s1.heap.objs.size + 3, s1.heap.objs.size, s1.heap.objs.size + 1], _, _, H1, rfl, I2, T, ⟨hz, hI, ⟨_, _, hO⟩, hit_new o1, hit_new o2⟩, ?_, q⟩
        intro c hc
        have hle : s1.heap.objs.size ≤ c := by
          simp only [List.mem_cons, List.not_mem_nil, or_false] at hc
          rcases hc with e | e | e | e | e
          · rw [e]; exact Nat.le_add_right _ _
          · rw [e]; exact Nat.le_add_right _ _
          · rw [e]; exact Nat.le_add_right _ _
          · rw [e]; exact Nat.le_refl _
          · rw [e]; exact Nat.le_add_right _ _
        exact I1.fpOk hle (I1.hok.fresh hle)

theorem walk_zipX {t u : Bool} {K : PySem.W.Frag} {a b : Addr} {xs ys : List V} {n : Nat} (hn : n = min xs.length ys.length) :
    Walk (ItzX t u K a b) n (fun H => (SqX t K H a xs ∧ SqX u K H b ys)) (YPair (fun i => xs[i]?) (fun i => ys[i]?)) where
  goes := fun i H hi q => by
    have h1 : i < xs.length := by omega
    have h2 : i < ys.length := by omega
    exact ⟨xs, ys, xs[i], ys[i], q.1, q.2, List.getElem?_eq_getElem h1, List.getElem?_eq_getElem h2⟩
  stops := fun H q => ⟨xs, ys, q.1, q.2, hn⟩
  yields := fun i H v H' _ q ⟨T, x, y, h1, h2, h3, h4, h5⟩ => ⟨T, x, y, h1, h2, h3, h4 xs q.1, h5 ys q.2⟩

/-! ### enumerate -/
def IteX (t : Bool) (K : PySem.W.Frag) (a : Addr) : It where
  go := fun i H => ∃ (xs : List V) (x : V), SqX t K H a xs ∧ xs[i]? = some x
  yld := fun i H v H' => ∃ T x, v = .ref T ∧ H T = none ∧ H' = upd H T (.tup [.int (i : Nat), x]) ∧ ∀ xs, SqX t K H a xs → xs[i]? = some x
  stop := fun i H => ∃ xs : List V, SqX t K H a xs ∧ i = xs.length

theorem meets_enum1 {v : Value} {o : Obj} {G : Heap → Prop} (B : Begins v o G) :
    Meets (Builtin.«enumerate.__new__» ⟨[.type "enumerate", v], []⟩) (fun _ R s => G s.heap ∧
      R (.ok (.ret (.ref (s.heap.push o).objs.size))) { s with heap := (s.heap.push o).push { cls := .type "enumerate", data := .fields #[.none, .bool false, .ref s.heap.objs.size, rawInt 0, .none, .none] } }) :=
  .of_wp fun prog w A R s h => by
    obtain ⟨hp, g, d, tk, os⟩ := s
    obtain ⟨h1, h⟩ := h
    have isE := sub_enumerate
    have qi : ∀ {A' : Around} {E : Value → Shared → Prop} {Q : Value → Shared → Prop}, Q (.ref hp.objs.size) ⟨hp.push o, g, d, tk, os⟩ → wpAny (model prog w) A' (pyIter v) Q E ⟨hp, g, d, tk, os⟩ :=
      fun hq => B.iter prog w _ _ _ _ h1 hq
    wp_walk using qi
    refine wpAny_stack_any fun st => wpAny_pure ?_
    split
    · rename_i c _ _ _ _ _
      cases (c == Value.type "enumerate") <;> (wp_walk using qi; exact ⟨_, rfl, h⟩)
    · wp_walk using qi
      exact ⟨_, rfl, h⟩
theorem enum_begins1 {prog : Program} {w : World} {A : Around} {E : Value → Shared → Prop} {s : Shared} {v : Value} {o : Obj} {G : Heap → Prop} {Q : Value → Shared → Prop} (B : Begins v o G) (h1 : G s.heap)
    (h : ∀ h', IsEnum h' (s.heap.objs.size + 1) s.heap.objs.size 0 .none → h'.get? s.heap.objs.size = some o → (∀ b ob, s.heap.get? b = some ob → h'.get? b = some ob) → Q (.ref (s.heap.objs.size + 1)) { s with heap := h' }) :
    wpAny (model prog w) A (call (.type "enumerate") [v]) Q E s := by
  have z1 : (s.heap.push o).objs.size = s.heap.objs.size + 1 := Heap.size_push ..
  refine callType_new F.called_enumerate (by decide) (F.typeCall_enumerate_1 _) (F.newCall_enumerate_1 _) (fun obj => F.args_object_init_2 obj _) F.entry_enumerate_new (meets_enum1 B) ⟨h1, ?_⟩
  rw [z1]
  have he : IsEnum ((s.heap.push o).push { cls := .type "enumerate", data := .fields #[.none, .bool false, .ref s.heap.objs.size, rawInt 0, .none, .none] }) (s.heap.objs.size + 1) s.heap.objs.size 0 .none := by
    have q := Heap.get?_push_size (s.heap.push o) (o := { cls := .type "enumerate", data := .fields #[.none, .bool false, .ref s.heap.objs.size, rawInt 0, .none, .none] }) rfl
    rw [z1] at q
    exact q
  exact ⟨⟨_, he, rfl⟩, h _ he (Heap.get?_push_of_some _ (Heap.get?_push_size _ B.free)) fun b ob q => Heap.get?_push_of_some _ (Heap.get?_push_of_some _ q)⟩

theorem turn_enumX {t : Bool} {P : Program} {w : World} {K : PySem.W.Frag} {elts : List Expr} {kk : Nat} {tpos : Pos} {a e it : Addr} (na : a ≠ it) (ne : e ≠ it) (ea : e ≠ a) :
    Turn P w K (.Tuple elts kk tpos) (IteX t K a) [e, it] e (fun i h => (∃ old, IsEnum h e it ((i : Nat) : Int) old) ∧ HIt t h it a i) where
  mem := List.mem_cons_self ..
  obj := by
    rintro i h ⟨⟨old, he⟩, st⟩ c hc
    simp only [List.mem_cons, List.not_mem_nil, or_false] at hc
    rcases hc with rfl | rfl
    · exact ⟨_, he, fun v q => by cases q⟩
    · obtain ⟨o, vs, g, d⟩ := hit_ob st
      exact ⟨o, g, fun v q => by rw [d] at q; cases q⟩
  keep := by
    rintro i h h' ⟨⟨old, he⟩, st⟩ k
    exact ⟨⟨old, k e (by simp) _ he⟩, hit_at st (k it (by simp))⟩
  item := by
    rintro X rfl rfl rfl hc i pins s σ H E I hf ⟨⟨old, he⟩, st⟩ ⟨xs, x, qx, hx⟩
    obtain ⟨is1, r1, p1, _⟩ := sq_have I qx
    obtain ⟨v1, g1, e1⟩ := r1.get hx
    have hh : X.A.in1.handled = none := I.ok.hd hc
    have l1 : i < is1.toArray.size := by rw [List.size_toArray]; exact (List.getElem?_eq_some_iff.mp g1).1
    have nef : e ∉ [it, a] := by simp [ne, ea]
    refine wpAny_pyNext_enum_itemC (sq_draws t hh it a na is1.toArray) he ⟨st, p1⟩ l1 ne nef fun z1 h' tk k1 ho st' hT hsz hk => ?_
    have q1 : z1 = v1 := by
      have : is1[i]? = some z1 := by simpa using k1
      rw [g1] at this; exact (Option.some.inj this).symm
    subst q1
    have old : ∀ {c o}, s.heap.get? c = some o → c ≠ s.heap.objs.size := fun e => Nat.ne_of_lt (Heap.lt_size e)
    have oi : it ≠ s.heap.objs.size := by obtain ⟨_, _, g, _⟩ := hit_ob st; exact old g
    refine ⟨_, rfl, wpAny_letOwnedTupleGo_enum (s := { s with heap := h', toks := tk + 1 }) ho fun h2 he2 sb => ?_⟩
    have hT2 : h2.get? s.heap.objs.size = some { cls := .type "tuple", data := .seq #[.int (i : Nat) tk, z1] } := (sb.2 _ (Ne.symm (old he))).trans hT
    have laid : ObjOk X.prog X.w (upd H s.heap.objs.size (.tup [.int (i : Nat), x])) h2 s.heap.objs.size (.tup [.int (i : Nat), x]) :=
      ⟨(by decide : 2 ≤ sizeLine), [.int (i : Nat) tk, z1], .cons ⟨_, rfl⟩ (.cons e1 .nil), ⟨_, hT2, rfl, _, rfl⟩⟩
    have same : ∀ c o, c ∉ [e, it] → s.heap.get? c = some o → h2.get? c = some o := fun c o hn q => by
      simp only [List.mem_cons, List.not_mem_nil, or_false, not_or] at hn
      exact (sb.2 c hn.1).trans (hk c o hn.1 hn.2 q)
    refine ⟨.ref s.heap.objs.size, _, I.turnedNew same hf (Nat.le_refl _) laid, rfl, ⟨_, x, rfl, I.hok.fresh (Nat.le_refl _), rfl, fun l hl => ?_⟩, ⟨⟨z1, ?_⟩, ?_⟩, fun c hcm => ?_⟩
    · rw [sq_one I hl qx]; exact hx
    · have e3 : ((i + 1 : Nat) : Int) = (i : Int) + 1 := by omega
      rw [e3]; exact he2
    · exact hit_at st'.1 fun o q => (sb.2 _ (Ne.symm ne)).trans q
    · have : c ≠ s.heap.objs.size := by
        simp only [List.mem_cons, List.not_mem_nil, or_false] at hcm
        rcases hcm with rfl | rfl
        · exact old he
        · exact oi
      rw [upd_ne this]
      exact (hf c hcm).1
  done := by
    rintro X rfl rfl rfl hc i pins s σ H E I hf ⟨⟨old, he⟩, st⟩ ⟨xs, qx, hi⟩
    obtain ⟨is1, r1, p1, _⟩ := sq_have I qx
    have hh : X.A.in1.handled = none := I.ok.hd hc
    have n1 : i = is1.toArray.size := by rw [List.size_toArray, hi]; exact r1.length
    subst n1
    obtain ⟨f0, f1, f2, f3, f4, f5⟩ := hf it (by simp)
    exact wpAny_pyNext_enum_endD (sq_draws t hh it a na is1.toArray) he ⟨st, p1⟩ fun h' eb => ⟨rfl, I.turned (t' := s.toks) (fun b o hb q => eb b o hb q) f0 f1 f3 f4 f5⟩
  self := fun A i s Q E st h => by
    obtain ⟨⟨old, he⟩, _⟩ := st
    exact wpAny_pyIter_enum he h

def iEnumX (t : Bool) (K : PySem.W.Frag) (ta : TA) : TI := fun σ H R => ta σ H fun vs H1 => ∃ a xs, vs = [.ref a] ∧ SqX t K H1 a xs ∧ R (IteX t K a) H1
theorem pi_enumX (t : Bool) {X : Cx} {e : Expr} {ta : TA} {p pos tpos : Pos} {elts : List Expr} {kk : Nat} (hg : Gl X "enumerate") (hm : X.mg "enumerate" = none) (ha : PA X [e] ta) (hs : starEach [e] X.env = [(false, eval e X.env)] := by rfl) :
    PI X (.Tuple elts kk tpos) (.Call (.Name "enumerate" p) [e] [] pos) (iEnumX t X.K ta) where
  run := fun pins s σ H R I h => by
    refine Call_ (ld_blt I hg hm boot_enumerate (callWith_type1 (thn (ha.run pos pins s σ H _ I h) ?_) hs rfl))
    rintro us s1 ⟨vs, H1, I1, rv, q1⟩
    obtain ⟨a, xs, ev, qx, q⟩ := q1
    subst ev
    cases rv with
    | cons ra rr =>
      cases rr
      cases ra
      obtain ⟨is1, r1, p1, la⟩ := sq_have I1 qx
      refine enum_begins1 (sq_begins t a is1.toArray) p1 ?_
      intro h' he ho hk
      refine wpAny_pyIter_enum he ?_
      have I2 : Inv X pins σ H1 { s1 with heap := h' } := I1.kept (t' := s1.toks) hk
      have T := turn_enumX (t := t) (P := X.prog) (w := X.w) (K := X.K) (elts := elts) (kk := kk) (tpos := tpos) (Nat.ne_of_lt la) (Nat.succ_ne_self s1.heap.objs.size) (Nat.ne_of_gt (Nat.lt_succ_of_lt la))
      refine ⟨s1.heap.objs.size + 1, [s1.heap.objs.size + 1, s1.heap.objs.size], _, _, H1, rfl, I2, T, ⟨⟨.none, he⟩, hit_new ho⟩, ?_, q⟩
      intro c hc
      have hle : s1.heap.objs.size ≤ c := by
        simp only [List.mem_cons, List.not_mem_nil, or_false] at hc
        rcases hc with e | e
        · rw [e]; exact Nat.le_add_right _ _
        · rw [e]; exact Nat.le_refl _
      exact I1.fpOk hle (I1.hok.fresh hle)
theorem walk_enumX {t : Bool} {K : PySem.W.Frag} {a : Addr} {xs : List V} : Walk (IteX t K a) xs.length (fun H => SqX t K H a xs) (YPair (fun i => some (.int (i : Nat))) (fun i => xs[i]?)) where
  goes := fun i H hi q => ⟨xs, xs[i], q, List.getElem?_eq_getElem hi⟩
  stops := fun H q => ⟨xs, q, rfl⟩
  yields := fun i H v H' _ q ⟨T, x, h1, h2, h3, h4⟩ => ⟨T, .int (i : Nat), x, h1, h2, h3, rfl, h4 xs q⟩

/-! ### a tuple taken nought times, once, or more -/
theorem tup_once (l : Addr) (items : Array Value) (n : Nat) (dd : Option Addr) (sl : Array (Option Value)) (u : Tok) :
    Meets (Builtin.«tuple.__mul__» ⟨[.ref l, .int 1 u], []⟩) (fun _ R s => s.heap.get? l = some { cls := .type "tuple", dict := dd, data := .seq items n, slots := sl } ∧ R (.ok (.ret (Value.ref l))) s) :=
  .of_wp fun prog w A R s h => by
    obtain ⟨hp, g, d, tk, os⟩ := s
    obtain ⟨hl, h⟩ := h
    have f1 := AutoSeq1.idx_int
    wp_walk using wpAny_loadPart' hl
    exact ⟨_, rfl, h⟩
theorem tup_never (l : Addr) (items : Array Value) (n : Nat) (dd : Option Addr) (sl : Array (Option Value)) (u : Tok) (hi : items.isEmpty = false) :
    Meets (Builtin.«tuple.__mul__» ⟨[.ref l, .int 0 u], []⟩) (fun _ R s => s.heap.get? l = some { cls := .type "tuple", dict := dd, data := .seq items n, slots := sl } ∧
      R (.ok (.ret (Value.ref s.heap.objs.size))) { s with heap := s.heap.push { cls := Value.type "tuple", data := Data.seq #[] }, toks := s.toks }) :=
  .of_wp fun prog w A R s h => by
    obtain ⟨hp, g, d, tk, os⟩ := s
    obtain ⟨hl, h⟩ := h
    have f1 := AutoSeq1.idx_int
    wp_walk using wpAny_loadPart' hl
    exact ⟨_, rfl, h⟩
def rRepA (K : PySem.W.Frag) : R2 := fun x y H Q => ∃ l k xs, x = .ref l ∧ y = .int k ∧ SqT K H l xs ∧ xs ≠ [] ∧ 0 ≤ k ∧ k ≤ 1000 ∧ xs.length ≤ 1000 ∧
  (k = 1 → Q (.ref l) H) ∧ (k ≠ 1 → ∀ p, H p = none → Q (.ref p) (upd H p (.tup (List.replicate k.toNat xs).flatten)))
theorem op_repA {X : Cx} : OpR X (binaryOp .Mult) (rRepA X.K) := by
  intro pins s σ H x y v u Q I rx ry h
  obtain ⟨l, k, xs, rfl, rfl, hT, hne, h0, h1, hz, q1, q2⟩ := h
  by_cases hk : 2 ≤ k
  · exact op_repT pins s σ H _ _ v u Q I rx ry ⟨l, k, xs, rfl, rfl, hT, hne, hk, h1, hz, q2 (by omega)⟩
  · cases rx
    obtain ⟨t, rfl⟩ := ry
    obtain ⟨its, r, ⟨⟨cls, dd, data, sl⟩, ho, hc, n, hd⟩, hs⟩ := I.tuple hT
    simp only at hc hd
    subst hc hd
    have hi : its.toArray.isEmpty = false := by
      cases its with
      | nil => cases r; exact absurd rfl hne
      | cons a b => rfl
    by_cases e1 : k = 1
    · subst e1
      refine wpAny_binaryOp_repeat_ref (T := "tuple") (U := "int") (by decide) ⟨_, ho, rfl⟩ (fun s' => typeIs_int s' 1 t) noFill_tuple_mul F.fills_int_mul F.slot_int_rmul repeat_tuple F.slot_int_index.lookup
        (call_meets F.slot_int_rmul (typeIs_int s 1 t) F.entry_int_rmul (F.args_int_rmul_2 _ _) (int_rmul_tuple 1 t l its.toArray n dd sl)
          ⟨ho, rfl, ⟨_, ho, rfl⟩, call_meets F.slot_tuple_mul ⟨_, ho, rfl⟩ F.entry_tuple_mul (F.args_tuple_mul_2 _ _) (tup_once l its.toArray n dd sl t) ⟨ho, ?_⟩⟩)
      exact ⟨.ref l, H, I, rfl, q1 rfl⟩
    · have e0 : k = 0 := by omega
      subst e0
      refine wpAny_binaryOp_repeat_ref (T := "tuple") (U := "int") (by decide) ⟨_, ho, rfl⟩ (fun s' => typeIs_int s' 0 t) noFill_tuple_mul F.fills_int_mul F.slot_int_rmul repeat_tuple F.slot_int_index.lookup
        (call_meets F.slot_int_rmul (typeIs_int s 0 t) F.entry_int_rmul (F.args_int_rmul_2 _ _) (int_rmul_tuple 0 t l its.toArray n dd sl)
          ⟨ho, rfl, ⟨_, ho, rfl⟩, call_meets F.slot_tuple_mul ⟨_, ho, rfl⟩ F.entry_tuple_mul (F.args_tuple_mul_2 _ _) (tup_never l its.toArray n dd sl t hi) ⟨ho, ?_⟩⟩)
      refine ⟨.ref s.heap.objs.size, _, I.laid (t' := s.toks) (o := .tup []) (fun b ob q => Heap.get?_push_of_some _ q) (Nat.le_refl _) ⟨Nat.zero_le _, [], .nil, IsTup.new _ _⟩, rfl, ?_⟩
      exact q2 (by decide) _ (I.hok.fresh (Nat.le_refl _))
end NfR
-- text NfBase
set_option Elab.async false
set_option linter.all false
set_option maxRecDepth 100000
set_option maxHeartbeats 400000
/-! The text by places, what stands in the heap, and how a def is called. -/
namespace Nf
open PySem PySem.Spec PyProof.Rows L2 NfR
def top (i : Nat) : Stmt := PySem.Challenge.pw_neverflows_k51_whole_flows_looked_at.main.body.getD i (.Pass ⟨0, 0, 0, 0⟩)

/-! ### defs that stand in the text, and that may be called -/
structure Stands (K : PySem.W.Frag) (mg : Str → Option Value) (x : Str) (st : Stmt) (ps : List Str) : Prop where
  ex : ∃ f fd, Fun K x x st f fd ∧ mg x = some (.ref f) ∧ Binds K fd ps []
structure Can (P : Program) (w : World) (K : PySem.W.Frag) (mg : Str → Option Value) (base : Heap) (k : Nat) (x : Str) (sp : Sp) : Prop where
  ex : ∃ f fd ps, FnOk P w K mg base CX0 k f fd ps sp ∧ mg x = some (.ref f) ∧ PySem.W.keepIn K (.ref f) = true ∧ Binds K fd ps []
section
variable {P : Program} {w : World} {K : PySem.W.Frag} {mg : Str → Option Value} {base : Heap}
theorem Stands.can {x : Str} {st : Stmt} {N ps : List Str} {k : Nat} {sp : Sp} (D : Stands K mg x st ps) (S : FnScope N ps (defScope st)) (len : ∀ vs H Q E, sp vs H Q E → vs.length = ps.length)
    (body : ∀ (f : Addr) (cdv : Value) (A : Around) (outer : List Env) (s : Shared) (H : Hp) (vs : List V) (Q : VK) (E : XK), Room k (A.deeper (envOfC x (defScope st) s.heap.objs.size f cdv)) → sp vs H Q E →
      ∃ t, PSs (cxOf CX0 P w K mg base N x (defScope st) f cdv A outer s H E).nox (defBody st) t ∧ t { nx := fun _ H' => Q .non H', rt := Q } (start N vs) H) : Can P w K mg base (k + 1) x sp := by
  obtain ⟨f, fd, F, m, b⟩ := D.ex
  exact ⟨f, fd, ps, F.ok S len fun cdv A outer s H vs Q E hr h => body f cdv A outer s H vs Q E hr h, m, F.kp, b⟩
theorem Can.mono {x : Str} {sp : Sp} {j k : Nat} (c : Can P w K mg base j x sp) (h : j ≤ k) : Can P w K mg base k x sp := by
  obtain ⟨f, fd, ps, F, m, kp, b⟩ := c.ex
  exact ⟨f, fd, ps, F.mono h, m, kp, b⟩
end
/-- a call of such a def by its name -/
theorem pcall {X : Cx} {k : Nat} {x : Str} {sp : Sp} {p pos : Pos} {e : Expr} {es : List Expr} {t : TA} (c : Can X.prog X.w X.K X.mg X.base k x sp) (hr : Room k X.A) (ha : PA X (e :: es) t) (hg : Gl X x := by rfl)
    (hdb : (x == ("__debug__" : Str)) = false := by decide) (he : starEach (e :: es) X.env = (false, eval e X.env) :: starEach es X.env := by rfl) (hpl : (backTo pos (starEach es X.env)).any (·.1) = false := by rfl) :
    PE X (.Call (.Name x p) (e :: es) [] pos) (tCall sp [] E0 t) := by
  obtain ⟨f, fd, ps, F, hm, kp, b⟩ := c.ex
  exact pe_call F hr hg hm kp b .nil pass0 ha hdb he hpl

/-- the built-in names are the built-ins -/
structure Blt (mg : Str → Option Value) : Prop where
  isinstance : mg "isinstance" = none
  int : mg "int" = none
  bool : mg "bool" = none
  tuple : mg "tuple" = none
  list : mg "list" = none
  len : mg "len" = none
  all : mg "all" = none
  any : mg "any" = none
  zip : mg "zip" = none
  enumerate : mg "enumerate" = none
  range : mg "range" = none
  max : mg "max" = none
  min : mg "min" = none

/-! ### what stands in the heap -/
theorem same_new {H : Hp} {p : Addr} {o : HO} (h : H p = none) : Same H (upd H p o) := fun b u q => by rw [upd_ne (ne_of_none q h)]; exact q

/-- a value as an item: an int, or something that is none -/
inductive Item (H : Hp) : V → Option Int → Prop
  | int (i : Int) : Item H (.int i) (some i)
  | bl (b : Bool) : Item H (.bl b) none
  | non : Item H .non none
  | str (x : Str) : Item H (.str x) none
  | lst {a : Addr} {xs : List V} (e : H a = some (.lst xs)) : Item H (.ref a) none
  | tup {a : Addr} {xs : List V} (e : H a = some (.tup xs)) : Item H (.ref a) none
  | dK {a : Addr} {kvs : List (Key × V)} (e : H a = some (.dK kvs)) : Item H (.ref a) none
/-- the items of a tuple -/
structure Items (H : Hp) (xs : List V) (l : List (Option Int)) : Prop where
  len : xs.length = l.length
  few : xs.length ≤ 100
  it : ∀ (i : Nat) (x : V), xs[i]? = some x → ∃ o, l[i]? = some o ∧ Item H x o
/-- a value as a thing that is handed in: a tuple of items, or no tuple -/
inductive Thing (H : Hp) : V → Option (List (Option Int)) → Prop
  | tup {a : Addr} {xs : List V} {l : List (Option Int)} (e : H a = some (.tup xs)) (h : Items H xs l) : Thing H (.ref a) (some l)
  | non : Thing H .non none
  | str (x : Str) : Thing H (.str x) none
  | lst {a : Addr} {xs : List V} (e : H a = some (.lst xs)) : Thing H (.ref a) none
  | dK {a : Addr} {kvs : List (Key × V)} (e : H a = some (.dK kvs)) : Thing H (.ref a) none

theorem Item.same {H H' : Hp} (s : Same H H') {v : V} {o : Option Int} (h : Item H v o) : Item H' v o := by
  cases h with
  | int i => exact .int i
  | bl b => exact .bl b
  | non => exact .non
  | str x => exact .str x
  | lst e => exact .lst (s _ _ e)
  | tup e => exact .tup (s _ _ e)
  | dK e => exact .dK (s _ _ e)
theorem Items.same {H H' : Hp} (s : Same H H') {xs : List V} {l : List (Option Int)} (h : Items H xs l) : Items H' xs l :=
  ⟨h.len, h.few, fun i x e => let ⟨o, h1, h2⟩ := h.it i x e; ⟨o, h1, h2.same s⟩⟩
theorem Thing.same {H H' : Hp} (s : Same H H') {v : V} {d : Option (List (Option Int))} (h : Thing H v d) : Thing H' v d := by
  cases h with
  | tup e h => exact .tup (s _ _ e) (h.same s)
  | non => exact .non
  | str x => exact .str x
  | lst e => exact .lst (s _ _ e)
  | dK e => exact .dK (s _ _ e)
theorem items_ints {H : Hp} (ns : List Int) (hf : ns.length ≤ 100) : Items H (ns.map V.int) (ns.map some) := by
  refine ⟨by rw [List.length_map, List.length_map], by rw [List.length_map]; exact hf, fun i x e => ?_⟩
  rw [List.getElem?_map] at e
  cases c : ns[i]? with
  | none => rw [c] at e; cases e
  | some n =>
    rw [c] at e
    have ex : V.int n = x := Option.some.inj e
    subst ex
    exact ⟨some n, by rw [List.getElem?_map, c]; rfl, .int n⟩

/-- isinstance(x, int) and isinstance(x, bool), by the item's kind -/
theorem Item.isInt {K : PySem.W.Frag} {H : Hp} {v : V} {o : Option Int} (h : Item H v o) :
    ∃ (t : Value) (b c : Bool), TyX K H v t ∧ PySem.W.kitOne K t (.type "int") = some b ∧ PySem.W.kitOne K t (.type "bool") = some c ∧ (b && !c) = o.isSome := by
  cases h with
  | int i => exact ⟨_, true, false, .base (.int i), kit_ty (by decide +kernel), kit_ty (by decide +kernel), rfl⟩
  | bl b => exact ⟨_, true, true, .base (.bl b), kit_ty (by decide +kernel), kit_ty (by decide +kernel), rfl⟩
  | non => exact ⟨_, false, false, .base .non, kit_ty (by decide +kernel), kit_ty (by decide +kernel), rfl⟩
  | str x => exact ⟨_, false, false, .base (.str x), kit_ty (by decide +kernel), kit_ty (by decide +kernel), rfl⟩
  | lst e => exact ⟨_, false, false, .base (.lst e), kit_ty (by decide +kernel), kit_ty (by decide +kernel), rfl⟩
  | tup e => exact ⟨_, false, false, .base (.tup e), kit_ty (by decide +kernel), kit_ty (by decide +kernel), rfl⟩
  | dK e => exact ⟨_, false, false, .base (.dK e), kit_ty (by decide +kernel), kit_ty (by decide +kernel), rfl⟩
theorem Thing.isTuple {K : PySem.W.Frag} {H : Hp} {v : V} {d : Option (List (Option Int))} (h : Thing H v d) :
    ∃ t : Value, TyX K H v t ∧ PySem.W.kitOne K t (.type "tuple") = some d.isSome := by
  cases h with
  | tup e _ => exact ⟨_, .base (.tup e), kit_ty (r := true) (by decide +kernel)⟩
  | non => exact ⟨_, .base .non, kit_ty (r := false) (by decide +kernel)⟩
  | str x => exact ⟨_, .base (.str x), kit_ty (r := false) (by decide +kernel)⟩
  | lst e => exact ⟨_, .base (.lst e), kit_ty (r := false) (by decide +kernel)⟩
  | dK e => exact ⟨_, .base (.dK e), kit_ty (r := false) (by decide +kernel)⟩

/-- the tie tuples at vs hold the ties -/
def TiesAt (H : Hp) (vs : List V) (ties : Ties) : Prop := vs.length = ties.length ∧ ∀ (i a b : Nat), ties[i]? = some (a, b) → ∃ r, vs[i]? = some (.ref r) ∧ H r = some (.tup [.int (a : Nat), .int (b : Nat)])
/-- the web: (many, ties) -/
def WebAt (H : Hp) (p : Addr) (m : Nat) (ties : Ties) : Prop := ∃ tt vs, H p = some (.tup [.int (m : Nat), .ref tt]) ∧ H tt = some (.tup vs) ∧ TiesAt H vs ties
theorem TiesAt.same {H H' : Hp} (s : Same H H') {vs : List V} {ties : Ties} (h : TiesAt H vs ties) : TiesAt H' vs ties :=
  ⟨h.1, fun i a b e => let ⟨r, h1, h2⟩ := h.2 i a b e; ⟨r, h1, s _ _ h2⟩⟩
theorem WebAt.same {H H' : Hp} (s : Same H H') {p : Addr} {m : Nat} {ties : Ties} (h : WebAt H p m ties) : WebAt H' p m ties :=
  let ⟨tt, vs, h1, h2, h3⟩ := h; ⟨tt, vs, s _ _ h1, s _ _ h2, h3.same s⟩
/-- a web as the law makes them -/
structure Web (m : Nat) (ties : Ties) : Prop where
  m1 : 1 ≤ m
  m5 : m ≤ 5
  few : ties.length ≤ 8
  fine : Fine m ties

theorem len5 {m : Nat} (h : m ≤ 5) : m ≤ sizeLine := Nat.le_of_lt (small1000 (by omega))
theorem atI0 {x : V} {r : List V} : atI (x :: r) 0 = some x := atI_nat (j := 0) rfl
theorem atI1 {x y : V} {r : List V} : atI (x :: y :: r) 1 = some y := atI_nat (j := 1) rfl
theorem ints_get {ns : List Int} {i : Nat} {n : Int} (h : ns[i]? = some n) : (ns.map V.int)[i]? = some (.int n) := by rw [List.getElem?_map, h]; rfl
theorem ints_of {ns : List Int} {i : Nat} {v : V} (h : (ns.map V.int)[i]? = some v) : ∃ n, ns[i]? = some n ∧ v = .int n := by
  rw [List.getElem?_map] at h
  cases c : ns[i]? with
  | none => rw [c] at h; cases h
  | some n => rw [c] at h; exact ⟨n, rfl, (Option.some.inj h).symm⟩
end Nf
-- text NfA
set_option Elab.async false
set_option linter.all false
set_option maxRecDepth 100000
set_option maxHeartbeats 400000
namespace Nf
open PySem PySem.Spec PyProof.Rows L2 NfR
abbrev sWhole : Stmt := top 5
abbrev sUpto : Stmt := top 6
abbrev sClock : Stmt := top 10
abbrev sRowOf : Stmt := top 11
abbrev sRow : Stmt := top 12
abbrev sLWhole : Stmt := top 26
abbrev sLRow : Stmt := top 32

def spWhole : Sp := fun vs H Q _ => ∃ v o, vs = [v] ∧ Item H v o ∧ Q (.bl o.isSome) H
def okIn (lo hi : Int) (o : Option Int) : Bool := match o with
  | some i => decide (lo ≤ i) && decide (i ≤ hi)
  | none => false
def spUpto : Sp := fun vs H Q _ => ∃ v o lo hi, vs = [v, .int lo, .int hi] ∧ Item H v o ∧ Q (.bl (okIn lo hi o)) H
def spClock : Sp := fun vs H Q _ => ∃ k : Int, vs = [.int k] ∧ 2 ≤ k ∧ k ≤ 6 ∧ Q .non H
def okRow (n : Int) (lo hi : Int) (d : Option (List (Option Int))) : Bool := match d with
  | some l => decide ((l.length : Int) = n) && l.all (okIn lo hi)
  | none => false
def spRowOf : Sp := fun vs H Q _ => ∃ v d n lo hi, vs = [v, .int n, .int lo, .int hi] ∧ Thing H v d ∧ ∀ H', Same H H' → Q (.bl (okRow n lo hi d)) H'
def spRow : Sp := fun vs H Q _ => ∃ p m ties k v d, vs = [.ref p, .int k, v] ∧ WebAt H p m ties ∧ Thing H v d ∧ ∀ H', Same H H' → Q (.bl (okRow ties.length 0 (k - 1) d)) H'

theorem okIn_none (lo hi : Int) : okIn lo hi none = false := rfl
theorem scWhole : FnScope ["thing"] ["thing"] (defScope sWhole) := ⟨rfl, rfl, rfl, by decide +kernel, rfl, by decide +kernel, by decide +kernel⟩
theorem scLWhole : FnScope ["_law_found"] ["_law_found"] (defScope sLWhole) := ⟨rfl, rfl, rfl, by decide +kernel, rfl, by decide +kernel, by decide +kernel⟩
theorem scUpto : FnScope ["thing", "least", "most"] ["thing", "least", "most"] (defScope sUpto) := ⟨rfl, rfl, rfl, by decide +kernel, rfl, by decide +kernel, by decide +kernel⟩
theorem scClock : FnScope ["k"] ["k"] (defScope sClock) := ⟨rfl, rfl, rfl, by decide +kernel, rfl, by decide +kernel, by decide +kernel⟩
theorem scRowOf : FnScope ["thing", "many", "least", "most", "one"] ["thing", "many", "least", "most"] (defScope sRowOf) := ⟨rfl, rfl, rfl, by decide +kernel, rfl, by decide +kernel, by decide +kernel⟩
theorem scRow : FnScope ["web", "k", "thing"] ["web", "k", "thing"] (defScope sRow) := ⟨rfl, rfl, rfl, by decide +kernel, rfl, by decide +kernel, by decide +kernel⟩
theorem scLRow : FnScope ["_law_thing", "_law_many", "_law_least", "_law_most", "_law_one"] ["_law_thing", "_law_many", "_law_least", "_law_most"] (defScope sLRow) := ⟨rfl, rfl, rfl, by decide +kernel, rfl, by decide +kernel, by decide +kernel⟩

section
variable {P : Program} {w : World} {K : PySem.W.Frag} {mg : Str → Option Value} {base : Heap}
theorem can_whole (D : Stands K mg "is_whole" sWhole ["thing"]) (B : Blt mg) : Can P w K mg base 1 "is_whole" spWhole := by
  refine D.can scWhole (fun vs H Q E h => ?_) (fun f cdv A outer s H vs Q E hr h => ?_)
  · obtain ⟨v, o, rfl, _⟩ := h
    rfl
  · obtain ⟨v, o, rfl, hI, q⟩ := h
    refine ⟨_, pss_one (ps_ret (pe_and (pe_callB call_isi (by rfl) B.isinstance (by decide +kernel) (pa_cons (pv 0) (pa_cons (pe_bltn (v := .ty "int") (by rfl) B.int (by decide +kernel) rfl) pa_nil)))
      (pe_one (pe_not (pe_callB call_isi (by rfl) B.isinstance (by decide +kernel) (pa_cons (pv 0) (pa_cons (pe_bltn (v := .ty "bool") (by rfl) B.bool (by decide +kernel) rfl) pa_nil))))))), ?_⟩
    obtain ⟨t, b, c, ty, k1, k2, e⟩ := hI.isInt (K := K)
    refine ⟨_, rfl, _, _, _, _, b, rfl, .ty _, ty, k1, b, rfl, ite2 (fun hb => ?_) (fun hb => ?_)⟩
    · subst hb
      refine ⟨_, rfl, _, _, _, _, c, rfl, .ty _, ty, k2, c, rfl, ?_⟩
      rw [← e] at q
      exact q
    · have hb : b = false := Bool.eq_false_iff.mpr hb
      subst hb
      rw [← e] at q
      exact q
theorem can_lwhole (D : Stands K mg "_law_whole" sLWhole ["_law_found"]) (B : Blt mg) : Can P w K mg base 1 "_law_whole" spWhole := by
  refine D.can scLWhole (fun vs H Q E h => ?_) (fun f cdv A outer s H vs Q E hr h => ?_)
  · obtain ⟨v, o, rfl, _⟩ := h
    rfl
  · obtain ⟨v, o, rfl, hI, q⟩ := h
    refine ⟨_, pss_one (ps_ret (pe_and (pe_callB call_isi (by rfl) B.isinstance (by decide +kernel) (pa_cons (pv 0) (pa_cons (pe_bltn (v := .ty "int") (by rfl) B.int (by decide +kernel) rfl) pa_nil)))
      (pe_one (pe_not (pe_callB call_isi (by rfl) B.isinstance (by decide +kernel) (pa_cons (pv 0) (pa_cons (pe_bltn (v := .ty "bool") (by rfl) B.bool (by decide +kernel) rfl) pa_nil))))))), ?_⟩
    obtain ⟨t, b, c, ty, k1, k2, e⟩ := hI.isInt (K := K)
    refine ⟨_, rfl, _, _, _, _, b, rfl, .ty _, ty, k1, b, rfl, ite2 (fun hb => ?_) (fun hb => ?_)⟩
    · subst hb
      refine ⟨_, rfl, _, _, _, _, c, rfl, .ty _, ty, k2, c, rfl, ?_⟩
      rw [← e] at q
      exact q
    · have hb : b = false := Bool.eq_false_iff.mpr hb
      subst hb
      rw [← e] at q
      exact q
theorem can_upto (D : Stands K mg "is_upto" sUpto ["thing", "least", "most"]) (cW : Can P w K mg base 1 "is_whole" spWhole) : Can P w K mg base 2 "is_upto" spUpto := by
  refine D.can scUpto (fun vs H Q E h => ?_) (fun f cdv A outer s H vs Q E hr h => ?_)
  · obtain ⟨v, o, lo, hi, rfl, _⟩ := h
    rfl
  · obtain ⟨v, o, lo, hi, rfl, hI, q⟩ := h
    refine ⟨_, pss_one (ps_ret (pe_and (pcall cW hr (pa_cons (pv 0) pa_nil)) (pe_one (pe_chain op_le op_le (pv 1) (pv 0) (pv 2))))), ?_⟩
    refine ⟨_, rfl, v, o, rfl, hI, o.isSome, rfl, ite2 (fun ho => ?_) (fun ho => ?_)⟩
    · cases o with
      | none => cases ho
      | some i =>
        cases hI
        refine ⟨_, rfl, _, rfl, _, _, rfl, rfl, _, rfl, ite2 (fun hl => ?_) (fun hl => ?_)⟩
        · refine ⟨_, rfl, _, _, rfl, rfl, ?_⟩
          have e : okIn lo hi (some i) = decide (i ≤ hi) := by
            show (decide (lo ≤ i) && decide (i ≤ hi)) = decide (i ≤ hi)
            rw [hl, Bool.true_and]
          rw [e] at q
          exact q
        · have e : okIn lo hi (some i) = false := by
            show (decide (lo ≤ i) && decide (i ≤ hi)) = false
            rw [Bool.eq_false_iff.mpr hl, Bool.false_and]
          rw [e] at q
          exact q
    · cases o with
      | none => exact q
      | some i => exact absurd rfl ho
theorem can_clock (D : Stands K mg "check_clock" sClock ["k"]) (cU : Can P w K mg base 2 "is_upto" spUpto) (m2 : ∃ t, mg "LEAST_CLOCK" = some (.int 2 t)) (m6 : ∃ t, mg "MOST_CLOCK" = some (.int 6 t)) : Can P w K mg base 3 "check_clock" spClock := by
  obtain ⟨t2, m2⟩ := m2
  obtain ⟨t6, m6⟩ := m6
  refine D.can scClock (fun vs H Q E h => ?_) (fun f cdv A outer s H vs Q E hr h => ?_)
  · obtain ⟨k, rfl, _⟩ := h
    rfl
  · obtain ⟨k, rfl, h1, h2, q⟩ := h
    refine ⟨_, pss_one (ps_if (pt_not (pt_val (pcall cU hr (pa_cons (pv 0) (pa_cons (pe_glob (v := .int 2) rfl m2 ⟨_, rfl⟩) (pa_cons (pe_glob (v := .int 6) rfl m6 ⟨_, rfl⟩) pa_nil)))))) pss_never pss_nil), ?_⟩
    refine ⟨_, rfl, _, some k, 2, 6, rfl, .int k, _, rfl, ?_⟩
    have e : okIn 2 6 (some k) = true := by
      show (decide (2 ≤ k) && decide (k ≤ 6)) = true
      rw [decide_eq_true h1, decide_eq_true h2]
      rfl
    rw [e]
    exact iteF q
theorem take_snoc {α β : Type} (f : α → β) {l : List α} {i : Nat} {o : α} (h : l[i]? = some o) : (l.take (i + 1)).map f = (l.take i).map f ++ [f o] := by
  rw [List.take_add_one, h, List.map_append]
  rfl
theorem small8 {n : Nat} (h : n ≤ 8) : n < sizeLine := small1000 (by omega)
theorem all_id {α : Type} (f : α → Bool) (l : List α) : (l.map f).all id = l.all f := by rw [List.all_map]; rfl

theorem can_rowof (D : Stands K mg "is_row_of" sRowOf ["thing", "many", "least", "most"]) (B : Blt mg) (cU : Can P w K mg base 2 "is_upto" spUpto) : Can P w K mg base 3 "is_row_of" spRowOf := by
  refine D.can scRowOf (fun vs H Q E h => ?_) (fun f cdv A outer s H vs Q E hr h => ?_)
  · obtain ⟨v, d, n, lo, hi, rfl, _⟩ := h
    rfl
  · obtain ⟨v, d, n, lo, hi, rfl, hT, q⟩ := h
    refine ⟨_, pss_cons (ps_if (PW.pt (pw_or (pt_not (pt_val (pe_callB call_isi (by rfl) B.isinstance (by decide +kernel) (pa_cons (pv 0) (pa_cons (pe_bltn (v := .ty "tuple") (by rfl) B.tuple (by decide +kernel) rfl) pa_nil)))))
        (pw_or1 (pt_cmpR op_ne (pe_callB call_len_seq (by rfl) B.len PySem.boot_len (pa_cons (pv 0) pa_nil)) (pv 1) (nomark _))))) (pss_one (ps_ret pe_bl)) pss_nil)
      (pss_one (ps_ret (pe_callB (cr_all rfl) (by rfl) B.all (by decide +kernel) (pa_cons (pe_lc (own := [("one", 4)]) (g := gName 4) (tt := tYes) rfl scRowOf.nd (pi_tup (pv 0)) (blkOk_by (N := ["thing", "many", "least", "most", "one"]) (sc := defScope sRowOf) (by decide +kernel))
        (fun _ _ _ _ _ => pg_name (i := 4) scRowOf.nd rfl (Or.inl rfl)) (fun _ _ _ _ _ => pts_nil) (fun _ _ _ _ _ => pcall cU hr (pa_cons (pv 4) (pa_cons (pv 2) (pa_cons (pv 3) pa_nil))))) pa_nil)))), ?_⟩
    obtain ⟨t, ty, k⟩ := hT.isTuple (K := K)
    refine ⟨_, rfl, _, _, _, _, d.isSome, rfl, .ty _, ty, k, d.isSome, rfl, ite2 (fun hd => ?_) (fun hd => ?_)⟩
    · cases d with
      | none => exact iteT (q H (Same.refl H))
      | some l => cases hd
    · cases hT with
      | @tup a xs l e hl =>
        refine ⟨_, rfl, a, xs, rfl, .inr (SqT.of e), _, rfl, rfl, _, rfl, ite2 (fun hn => ?_) (fun hn => ?_)⟩
        · have ne : ¬ (xs.length : Int) = n := fun z => by
            subst z
            rw [decide_eq_true rfl] at hn
            cases hn
          have ee : okRow n lo hi (some l) = false := by
            show (decide ((l.length : Int) = n) && _) = false
            rw [decide_eq_false (by rw [← hl.len]; exact ne), Bool.false_and]
          rw [ee] at q
          exact q H (Same.refl H)
        · have en : (xs.length : Int) = n := by
            refine Decidable.byContradiction fun z => hn ?_
            rw [decide_eq_false (fun y => z (V.int.inj y))]
            rfl
          have ee : okRow n lo hi (some l) = l.all (okIn lo hi) := by
            show (decide ((l.length : Int) = n) && l.all (okIn lo hi)) = _
            rw [decide_eq_true (by rw [← hl.len]; exact en), Bool.true_and]
          rw [ee] at q
          refine ⟨_, rfl, a, rfl, ⟨_, SqT.of e⟩, fun Da hD => lc_tup (K := K) (a := a) (xs := xs) (fun i H' => Same H H' ∧ H' Da = some (.lst (((l.take i).map (okIn lo hi)).map V.bl)))
            ⟨same_new hD, upd_same⟩ (fun i H' _ ⟨sm, _⟩ => SqT.of (sm _ _ e)) ?_ ?_⟩
          · rintro i x H' hx ⟨sm, hDa⟩
            obtain ⟨o, ho, hI⟩ := hl.it i x hx
            refine ⟨rfl, _, rfl, _, rfl, _, rfl, x, o, lo, hi, rfl, hI.same sm, _, hDa, ?_, ?_, ?_⟩
            · rw [List.length_map, List.length_map, List.length_take]
              exact small1000 (by have := hl.few; have := hl.len; omega)
            · intro b ob eb
              rw [upd_ne (ne_of_none eb hD)]
              exact sm _ _ eb
            · rw [upd_same, take_snoc (okIn lo hi) ho, List.map_append]
              rfl
          · rintro H' ⟨sm, hDa⟩
            refine ⟨Da, l.map (okIn lo hi), rfl, .inl (.inl ?_), ?_⟩
            · rw [hDa, hl.len, List.take_length]
            · rw [all_id]
              exact q H' sm
      | _ => exact absurd rfl hd
end
end Nf
-- text NfB
set_option Elab.async false
set_option linter.all false
set_option maxRecDepth 100000
set_option maxHeartbeats 400000
namespace Nf
open PySem PySem.Spec PyProof.Rows L2 NfR
section
variable {P : Program} {w : World} {K : PySem.W.Frag} {mg : Str → Option Value} {base : Heap}
theorem can_row (D : Stands K mg "is_row" sRow ["web", "k", "thing"]) (B : Blt mg) (cR : Can P w K mg base 3 "is_row_of" spRowOf) : Can P w K mg base 4 "is_row" spRow := by
  refine D.can scRow (fun vs H Q E h => ?_) (fun f cdv A outer s H vs Q E hr h => ?_)
  · obtain ⟨p, m, ties, k, v, d, rfl, _⟩ := h
    rfl
  · obtain ⟨p, m, ties, k, v, d, rfl, ⟨tt, ts, h1, h2, h3⟩, hT, q⟩ := h
    refine ⟨_, pss_one (ps_ret (pcall cR hr (pa_cons (pv 2) (pa_cons (pe_callB call_len_seq (by rfl) B.len PySem.boot_len (pa_cons (pe_ix ix_tup (pv 0) pe_int (fun _ _ => rfl)) pa_nil)) (pa_cons pe_int (pa_cons (pe_op op_sub (pv 1) pe_int) pa_nil)))))), ?_⟩
    refine ⟨_, rfl, _, rfl, p, _, _, _, rfl, rfl, SqT.of h1, atI1, tt, ts, rfl, .inr (SqT.of h2), _, rfl, _, _, rfl, rfl, v, d, _, _, _, rfl, hT, fun H' sm => ?_⟩
    rw [h3.1]
    exact q H' sm
theorem can_lrow (D : Stands K mg "_law_is_row" sLRow ["_law_thing", "_law_many", "_law_least", "_law_most"]) (B : Blt mg) (cW : Can P w K mg base 1 "_law_whole" spWhole) : Can P w K mg base 2 "_law_is_row" spRowOf := by
  refine D.can scLRow (fun vs H Q E h => ?_) (fun f cdv A outer s H vs Q E hr h => ?_)
  · obtain ⟨v, d, n, lo, hi, rfl, _⟩ := h
    rfl
  · obtain ⟨v, d, n, lo, hi, rfl, hT, q⟩ := h
    refine ⟨_, pss_cons (ps_if (PW.pt (pw_or (pt_not (pt_val (pe_callB call_isi (by rfl) B.isinstance (by decide +kernel) (pa_cons (pv 0) (pa_cons (pe_bltn (v := .ty "tuple") (by rfl) B.tuple (by decide +kernel) rfl) pa_nil)))))
        (pw_or1 (pt_cmpR op_ne (pe_callB call_len_seq (by rfl) B.len PySem.boot_len (pa_cons (pv 0) pa_nil)) (pv 1) (nomark _))))) (pss_one (ps_ret pe_bl)) pss_nil)
      (pss_one (ps_ret (pe_callB (cr_all rfl) (by rfl) B.all (by decide +kernel) (pa_cons (pe_lc (own := [("_law_one", 4)]) (g := gName 4) (tt := tYes) rfl scLRow.nd (pi_tup (pv 0)) (blkOk_by (N := ["_law_thing", "_law_many", "_law_least", "_law_most", "_law_one"]) (sc := defScope sLRow) (by decide +kernel))
        (fun _ _ _ _ _ => pg_name (i := 4) scLRow.nd rfl (Or.inl rfl)) (fun _ _ _ _ _ => pts_nil) (fun _ _ _ _ _ => pe_and (pcall cW hr (pa_cons (pv 4) pa_nil)) (pe_one (pe_chain op_le op_le (pv 2) (pv 4) (pv 3))))) pa_nil)))), ?_⟩
    obtain ⟨t, ty, k⟩ := hT.isTuple (K := K)
    refine ⟨_, rfl, _, _, _, _, d.isSome, rfl, .ty _, ty, k, d.isSome, rfl, ite2 (fun hd => ?_) (fun hd => ?_)⟩
    · cases d with
      | none => exact iteT (q H (Same.refl H))
      | some l => cases hd
    · cases hT with
      | @tup a xs l e hl =>
        refine ⟨_, rfl, a, xs, rfl, .inr (SqT.of e), _, rfl, rfl, _, rfl, ite2 (fun hn => ?_) (fun hn => ?_)⟩
        · have ne : ¬ (xs.length : Int) = n := fun z => by
            subst z
            rw [decide_eq_true rfl] at hn
            cases hn
          have ee : okRow n lo hi (some l) = false := by
            show (decide ((l.length : Int) = n) && _) = false
            rw [decide_eq_false (by rw [← hl.len]; exact ne), Bool.false_and]
          rw [ee] at q
          exact q H (Same.refl H)
        · have en : (xs.length : Int) = n := by
            refine Decidable.byContradiction fun z => hn ?_
            rw [decide_eq_false (fun y => z (V.int.inj y))]
            rfl
          have ee : okRow n lo hi (some l) = l.all (okIn lo hi) := by
            show (decide ((l.length : Int) = n) && l.all (okIn lo hi)) = _
            rw [decide_eq_true (by rw [← hl.len]; exact en), Bool.true_and]
          rw [ee] at q
          refine ⟨_, rfl, a, rfl, ⟨_, SqT.of e⟩, fun Da hD => lc_tup (K := K) (a := a) (xs := xs) (fun i H' => Same H H' ∧ H' Da = some (.lst (((l.take i).map (okIn lo hi)).map V.bl)))
            ⟨same_new hD, upd_same⟩ (fun i H' _ ⟨sm, _⟩ => SqT.of (sm _ _ e)) ?_ ?_⟩
          · rintro i x H' hx ⟨sm, hDa⟩
            obtain ⟨o, ho, hI⟩ := hl.it i x hx
            have last : ∀ y, y = V.bl (okIn lo hi o) → ∃ acc, H' Da = some (.lst acc) ∧ acc.length < sizeLine ∧ Same H (upd H' Da (.lst (acc ++ [y]))) ∧ upd H' Da (.lst (acc ++ [y])) Da = some (.lst (((l.take (i + 1)).map (okIn lo hi)).map V.bl)) := by
              rintro y rfl
              refine ⟨_, hDa, ?_, ?_, ?_⟩
              · rw [List.length_map, List.length_map, List.length_take]
                exact small1000 (by have := hl.few; have := hl.len; omega)
              · intro b ob eb
                rw [upd_ne (ne_of_none eb hD)]
                exact sm _ _ eb
              · rw [upd_same, take_snoc (okIn lo hi) ho, List.map_append]
                rfl
            refine ⟨rfl, _, rfl, x, o, rfl, hI.same sm, o.isSome, rfl, ite2 (fun ho => ?_) (fun ho => ?_)⟩
            · cases o with
              | none => cases ho
              | some j =>
                cases hI
                refine ⟨_, rfl, _, rfl, _, _, rfl, rfl, _, rfl, ite2 (fun hlo => ?_) (fun hlo => ?_)⟩
                · refine ⟨_, rfl, _, _, rfl, rfl, last _ ?_⟩
                  show V.bl (decide (j ≤ hi)) = V.bl (decide (lo ≤ j) && decide (j ≤ hi))
                  rw [hlo, Bool.true_and]
                · refine last _ ?_
                  show V.bl false = V.bl (decide (lo ≤ j) && decide (j ≤ hi))
                  rw [Bool.eq_false_iff.mpr hlo, Bool.false_and]
            · cases o with
              | none => exact last _ rfl
              | some j => exact absurd rfl ho
          · rintro H' ⟨sm, hDa⟩
            refine ⟨Da, l.map (okIn lo hi), rfl, .inl (.inl ?_), ?_⟩
            · rw [hDa, hl.len, List.take_length]
            · rw [all_id]
              exact q H' sm
      | _ => exact absurd rfl hd
end
end Nf
-- text NfC
set_option Elab.async false
set_option linter.all false
set_option maxRecDepth 100000
set_option maxHeartbeats 400000
namespace Nf
open PySem PySem.Spec PyProof.Rows L2 NfR
abbrev sCome : Stmt := top 17
theorem scCome : FnScope ["web", "row", "found", "number", "one", "other"] ["web", "row"] (defScope sCome) := ⟨rfl, rfl, rfl, by decide +kernel, rfl, by decide +kernel, by decide +kernel⟩

theorem comeF_snoc (n : Int) (t : Nat × Nat) : ∀ (l : List (Int × (Nat × Nat))) (acc : List Int), comeF (l ++ [(n, t)]) acc = lay (comeF l acc) n t
  | [], _ => rfl
  | (n', t') :: r, acc => comeF_snoc n t r (lay acc n' t')
theorem restF_snoc (k : Int) (n : Int) (t : Nat × Nat) : ∀ (l : List (Int × (Nat × Nat))) (acc : List Int), restF k (l ++ [(n, t)]) acc = layR k (restF k l acc) n t
  | [], _ => rfl
  | (n', t') :: r, acc => restF_snoc k n t r (layR k acc n' t')
theorem zip_get {ns : List Int} {ties : Ties} {i : Nat} {n : Int} {t : Nat × Nat} (h1 : ns[i]? = some n) (h2 : ties[i]? = some t) : (ns.zip ties)[i]? = some (n, t) := List.getElem?_zip_eq_some.mpr ⟨h1, h2⟩
theorem ixN_nat {n a : Nat} (h : a < n) : ixN n ((a : Nat) : Int) = some a := by
  unfold ixN
  rw [if_pos (by omega), if_pos (by omega)]
  rfl
theorem zeros (m : Nat) : (List.replicate ((m : Nat) : Int).toNat [V.int 0]).flatten = (List.replicate m (0 : Int)).map V.int := by
  rw [Int.toNat_natCast]
  induction m with
  | zero => rfl
  | succ m ih =>
    rw [List.replicate_succ, List.flatten_cons, ih, List.replicate_succ, List.map_cons]
    rfl
theorem at_ints {acc : List Int} {a : Nat} (h : a < acc.length) : atI (acc.map V.int) ((a : Nat) : Int) = some (V.int (acc.getD a 0)) :=
  atI_nat (by rw [List.getElem?_map, List.getElem?_eq_getElem h, List.getD_eq_getElem?_getD, List.getElem?_eq_getElem h]; rfl)
theorem set_ints (acc : List Int) (a : Nat) (x : Int) : (acc.map V.int).set a (.int x) = (acc.set a x).map V.int := by rw [List.map_set]
theorem tie_in {m : Nat} {ties : Ties} (hf : Fine m ties) {i a b : Nat} (h : ties[i]? = some (a, b)) : a < b ∧ b < m := hf (a, b) (List.mem_of_getElem? h)
/-- the tie that the i-th tie tuple holds -/
theorem TiesAt.get {H : Hp} {vs : List V} {ties : Ties} (h : TiesAt H vs ties) {i : Nat} {v : V} (e : vs[i]? = some v) : ∃ r a b, v = .ref r ∧ ties[i]? = some (a, b) ∧ H r = some (.tup [.int (a : Nat), .int (b : Nat)]) := by
  have hl : i < ties.length := by rw [← h.1]; exact (List.getElem?_eq_some_iff.mp e).1
  obtain ⟨r, h1, h2⟩ := h.2 i ties[i].1 ties[i].2 (List.getElem?_eq_getElem hl)
  rw [e] at h1
  exact ⟨r, _, _, Option.some.inj h1, List.getElem?_eq_getElem hl, h2⟩

/-- web, row (a list or a tuple of ints): a new list, the numbers f of what comes in -/
def spCome (K : PySem.W.Frag) : Sp := fun vs H Q _ => ∃ p m ties r t ns, vs = [.ref p, .ref r] ∧ WebAt H p m ties ∧ Web m ties ∧ SqX t K H r (ns.map V.int) ∧
  ∀ H' l, Same H H' → H l = none → H' l = some (.lst ((come m ties ns).map V.int)) → Q (.ref l) H'
theorem SqX.same {t : Bool} {K : PySem.W.Frag} {H H' : Hp} (s : Same H H') {a : Addr} {xs : List V} (h : SqX t K H a xs) : SqX t K H' a xs := by
  cases t with
  | false => exact Same.seq s h
  | true =>
    have h : SqT K H a xs := h
    show SqT K H' a xs
    rcases h with (h | ⟨o, h⟩) | h
    · exact .inl (.inl (s _ _ h))
    · exact .inl (.inr ⟨o, s _ _ h⟩)
    · exact .inr h

section
variable {P : Program} {w : World} {K : PySem.W.Frag} {mg : Str → Option Value} {base : Heap}
theorem can_come (D : Stands K mg "come_in" sCome ["web", "row"]) (B : Blt mg) : Can P w K mg base 1 "come_in" (spCome K) := by
  refine D.can scCome (fun vs H Q E h => ?_) (fun f cdv A outer s H vs Q E hr h => ?_)
  · obtain ⟨p, m, ties, r, t, ns, rfl, _⟩ := h
    rfl
  · obtain ⟨p, m, ties, r, t, ns, rfl, ⟨tt, ts, h1, h2, h3⟩, W, hrow, q⟩ := h
    refine ⟨_, pss_cons (ps_set (i := 2) scCome.nd rfl (Or.inl rfl) (pe_op op_rep (pe_lst (pa_cons pe_int pa_nil)) (pe_ix ix_tup (pv 0) pe_int (fun _ _ => rfl))))
      (pss_cons (ps_for PassesOwn.never rfl (pi_zipX t true (by rfl) B.zip (pa_cons (pv 1) (pa_cons (pe_ix ix_tup (pv 0) pe_int (fun _ _ => rfl)) pa_nil)))
          (pg_tup rfl (pgs_cons (pg_name (i := 3) scCome.nd rfl (.inl rfl)) (pgs_cons (pg_tup rfl (pgs_cons (pg_name (i := 4) scCome.nd rfl (.inl rfl)) (pgs_cons (pg_name (i := 5) scCome.nd rfl (.inl rfl)) pgs_nil))) pgs_nil)))
        (pss_cons (ps_asg (pe_op op_sub (pe_ix ix_list (pv 2) (pv 4) (fun _ _ => rfl)) (pv 3)) (pg_sub (pv 2) (pv 4) set_list))
          (pss_one (ps_asg (pe_op op_add (pe_ix ix_list (pv 2) (pv 5) (fun _ _ => rfl)) (pv 3)) (pg_sub (pv 2) (pv 5) set_list)))))
      (pss_one (ps_ret (pv 2)))), ?_⟩
    refine ⟨(by show 1 ≤ sizeLine; decide), fun z hz => ?_⟩
    refine ⟨_, rfl, p, _, _, _, rfl, rfl, SqT.of (same_new hz _ _ h1), atI0, z, _, _, rfl, rfl, upd_same, by omega, by have := W.m5; omega, ?_, fun l hl => ?_⟩
    · rw [Int.toNat_natCast]
      show 1 * m ≤ sizeLine
      rw [Nat.one_mul]
      exact len5 W.m5
    · have hl0 : H l = none := (same_new hz).free hl
      have s0 : Same H (upd (upd H z (.lst [.int 0])) l (.lst (List.replicate ((m : Nat) : Int).toNat [V.int 0]).flatten)) := (same_new hz).trans (same_new hl)
      refine ⟨_, rfl, _, rfl, p, _, _, _, rfl, rfl, SqT.of (s0 _ _ h1), atI1, r, tt, ns.map V.int, ts, rfl, SqX.same (t := t) s0 hrow, SqT.of (s0 _ _ h2), ?_⟩
      refine for_it (walk_zipX (xs := ns.map V.int) (ys := ts) rfl) (fun i σ H' => ∃ y3 y4 y5, σ = [some (.ref p), some (.ref r), some (.ref l), y3, y4, y5] ∧ Same H H' ∧ H' l = some (.lst ((comeF ((ns.zip ties).take i) (List.replicate m 0)).map V.int)))
        ⟨none, none, none, rfl, s0, ?_⟩ (fun i σ H' _ ⟨_, _, _, _, sm, _⟩ => ⟨SqX.same (t := t) sm hrow, SqT.of (sm _ _ h2)⟩) ?_ ?_
      · rw [upd_same, zeros]
        rfl
      · rintro i x σ H' H2 hi ⟨y3, y4, y5, rfl, sm, hf⟩ ⟨T, x1, x2, rfl, hT, rfl, e1, e2⟩
        obtain ⟨n, hn, rfl⟩ := ints_of e1
        obtain ⟨rr, a, b, rfl, ht, hrr⟩ := h3.get e2
        obtain ⟨hab, hbm⟩ := tie_in W.fine ht
        have smT : Same H (upd H' T (.tup [.int n, .ref rr])) := sm.trans (same_new hT)
        have nlT : l ≠ T := ne_of_none hf hT
        have hlen : (comeF ((ns.zip ties).take i) (List.replicate m 0)).length = m := by rw [comeF_length, List.length_replicate]
        generalize hacc : comeF ((ns.zip ties).take i) (List.replicate m 0) = acc at hf hlen
        have hfT : (upd H' T (.tup [.int n, .ref rr])) l = some (.lst (acc.map V.int)) := by rw [upd_ne nlT]; exact hf
        refine ⟨T, [.int n, .ref rr], rfl, SqT.of upd_same, rfl, _, _, rfl, _, _, rfl, rr, [.int (a : Nat), .int (b : Nat)], rfl, SqT.of (smT _ _ hrr), rfl, _, _, rfl, _, _, rfl, rfl, rfl, ?_⟩
        refine ⟨_, rfl, _, rfl, l, _, _, _, rfl, rfl, SqL.of hfT, at_ints (by omega), _, rfl, _, _, rfl, rfl, _, rfl, _, rfl, l, _, _, a, rfl, rfl, hfT, ixN_nat (by rw [List.length_map]; omega), ?_⟩
        rw [set_ints]
        refine ⟨_, rfl, _, rfl, l, _, _, _, rfl, rfl, SqL.of upd_same, at_ints (by rw [List.length_set]; omega), _, rfl, _, _, rfl, rfl, _, rfl, _, rfl, l, _, _, b, rfl, rfl, upd_same, ixN_nat (by rw [List.length_map, List.length_set]; omega), ?_⟩
        rw [set_ints, upd_upd]
        refine ⟨_, _, _, rfl, fun c o e => ?_, ?_⟩
        · rw [upd_ne (ne_of_none e hl0)]
          exact smT _ _ e
        · rw [upd_same, List.take_add_one, zip_get hn ht]
          show _ = some (HO.lst ((comeF (List.take i (ns.zip ties) ++ [(n, (a, b))]) (List.replicate m 0)).map V.int))
          rw [comeF_snoc, hacc]
          rfl
      · rintro σ H' ⟨y3, y4, y5, rfl, sm, hf⟩
        refine ⟨_, rfl, q H' l sm hl0 ?_⟩
        rw [hf]
        have e : (ns.zip ties).take (min (ns.map V.int).length ts.length) = ns.zip ties := List.take_of_length_le (by rw [List.length_zip, List.length_map, h3.1]; exact Nat.le_refl _)
        rw [e]
        rfl
end
end Nf
-- text NfD
set_option Elab.async false
set_option linter.all false
set_option maxRecDepth 100000
set_option maxHeartbeats 400000
namespace Nf
open PySem PySem.Spec PyProof.Rows L2 NfR
abbrev sLCome : Stmt := top 35
abbrev sRests : Stmt := top 13
abbrev sLRests : Stmt := top 31
theorem scLCome : FnScope ["_law_web_here", "_law_row", "_law_found", "_law_number", "_law_one", "_law_other"] ["_law_web_here", "_law_row"] (defScope sLCome) := ⟨rfl, rfl, rfl, by decide +kernel, rfl, by decide +kernel, by decide +kernel⟩
theorem scRests : FnScope ["web", "k", "row", "found", "number", "one", "other"] ["web", "k", "row"] (defScope sRests) := ⟨rfl, rfl, rfl, by decide +kernel, rfl, by decide +kernel, by decide +kernel⟩
theorem scLRests : FnScope ["_law_web_here", "_law_k", "_law_row", "_law_found", "_law_number", "_law_one", "_law_other"] ["_law_web_here", "_law_k", "_law_row"] (defScope sLRests) := ⟨rfl, rfl, rfl, by decide +kernel, rfl, by decide +kernel, by decide +kernel⟩
/-- web, k, row: a new list, the rests -/
def spRests (K : PySem.W.Frag) : Sp := fun vs H Q _ => ∃ p m ties r t ns k, vs = [.ref p, .int k, .ref r] ∧ 0 < k ∧ WebAt H p m ties ∧ Web m ties ∧ SqX t K H r (ns.map V.int) ∧
  ∀ H' l, Same H H' → H l = none → H' l = some (.lst ((rest m k ties ns).map V.int)) → Q (.ref l) H'
section
variable {P : Program} {w : World} {K : PySem.W.Frag} {mg : Str → Option Value} {base : Heap}
theorem can_lcome (D : Stands K mg "_law_come" sLCome ["_law_web_here", "_law_row"]) (B : Blt mg) : Can P w K mg base 1 "_law_come" (spCome K) := by
  refine D.can scLCome (fun vs H Q E h => ?_) (fun f cdv A outer s H vs Q E hr h => ?_)
  · obtain ⟨p, m, ties, r, t, ns, rfl, _⟩ := h
    rfl
  · obtain ⟨p, m, ties, r, t, ns, rfl, ⟨tt, ts, h1, h2, h3⟩, W, hrow, q⟩ := h
    refine ⟨_, pss_cons (ps_set (i := 2) scLCome.nd rfl (Or.inl rfl) (pe_op op_rep (pe_lst (pa_cons pe_int pa_nil)) (pe_ix ix_tup (pv 0) pe_int (fun _ _ => rfl))))
      (pss_cons (ps_for PassesOwn.never rfl (pi_zipX t true (by rfl) B.zip (pa_cons (pv 1) (pa_cons (pe_ix ix_tup (pv 0) pe_int (fun _ _ => rfl)) pa_nil)))
          (pg_tup rfl (pgs_cons (pg_name (i := 3) scLCome.nd rfl (.inl rfl)) (pgs_cons (pg_tup rfl (pgs_cons (pg_name (i := 4) scLCome.nd rfl (.inl rfl)) (pgs_cons (pg_name (i := 5) scLCome.nd rfl (.inl rfl)) pgs_nil))) pgs_nil)))
        (pss_cons (ps_asg (pe_op op_sub (pe_ix ix_list (pv 2) (pv 4) (fun _ _ => rfl)) (pv 3)) (pg_sub (pv 2) (pv 4) set_list))
          (pss_one (ps_asg (pe_op op_add (pe_ix ix_list (pv 2) (pv 5) (fun _ _ => rfl)) (pv 3)) (pg_sub (pv 2) (pv 5) set_list)))))
      (pss_one (ps_ret (pv 2)))), ?_⟩
    refine ⟨(by show 1 ≤ sizeLine; decide), fun z hz => ?_⟩
    refine ⟨_, rfl, p, _, _, _, rfl, rfl, SqT.of (same_new hz _ _ h1), atI0, z, _, _, rfl, rfl, upd_same, by omega, by have := W.m5; omega, ?_, fun l hl => ?_⟩
    · rw [Int.toNat_natCast]
      show 1 * m ≤ sizeLine
      rw [Nat.one_mul]
      exact len5 W.m5
    · have hl0 : H l = none := (same_new hz).free hl
      have s0 : Same H (upd (upd H z (.lst [.int 0])) l (.lst (List.replicate ((m : Nat) : Int).toNat [V.int 0]).flatten)) := (same_new hz).trans (same_new hl)
      refine ⟨_, rfl, _, rfl, p, _, _, _, rfl, rfl, SqT.of (s0 _ _ h1), atI1, r, tt, ns.map V.int, ts, rfl, SqX.same (t := t) s0 hrow, SqT.of (s0 _ _ h2), ?_⟩
      refine for_it (walk_zipX (xs := ns.map V.int) (ys := ts) rfl) (fun i σ H' => ∃ y3 y4 y5, σ = [some (.ref p), some (.ref r), some (.ref l), y3, y4, y5] ∧ Same H H' ∧ H' l = some (.lst ((comeF ((ns.zip ties).take i) (List.replicate m 0)).map V.int)))
        ⟨none, none, none, rfl, s0, ?_⟩ (fun i σ H' _ ⟨_, _, _, _, sm, _⟩ => ⟨SqX.same (t := t) sm hrow, SqT.of (sm _ _ h2)⟩) ?_ ?_
      · rw [upd_same, zeros]
        rfl
      · rintro i x σ H' H2 hi ⟨y3, y4, y5, rfl, sm, hf⟩ ⟨T, x1, x2, rfl, hT, rfl, e1, e2⟩
        obtain ⟨n, hn, rfl⟩ := ints_of e1
        obtain ⟨rr, a, b, rfl, ht, hrr⟩ := h3.get e2
        obtain ⟨hab, hbm⟩ := tie_in W.fine ht
        have smT : Same H (upd H' T (.tup [.int n, .ref rr])) := sm.trans (same_new hT)
        have nlT : l ≠ T := ne_of_none hf hT
        have hlen : (comeF ((ns.zip ties).take i) (List.replicate m 0)).length = m := by rw [comeF_length, List.length_replicate]
        generalize hacc : comeF ((ns.zip ties).take i) (List.replicate m 0) = acc at hf hlen
        have hfT : (upd H' T (.tup [.int n, .ref rr])) l = some (.lst (acc.map V.int)) := by rw [upd_ne nlT]; exact hf
        refine ⟨T, [.int n, .ref rr], rfl, SqT.of upd_same, rfl, _, _, rfl, _, _, rfl, rr, [.int (a : Nat), .int (b : Nat)], rfl, SqT.of (smT _ _ hrr), rfl, _, _, rfl, _, _, rfl, rfl, rfl, ?_⟩
        refine ⟨_, rfl, _, rfl, l, _, _, _, rfl, rfl, SqL.of hfT, at_ints (by omega), _, rfl, _, _, rfl, rfl, _, rfl, _, rfl, l, _, _, a, rfl, rfl, hfT, ixN_nat (by rw [List.length_map]; omega), ?_⟩
        rw [set_ints]
        refine ⟨_, rfl, _, rfl, l, _, _, _, rfl, rfl, SqL.of upd_same, at_ints (by rw [List.length_set]; omega), _, rfl, _, _, rfl, rfl, _, rfl, _, rfl, l, _, _, b, rfl, rfl, upd_same, ixN_nat (by rw [List.length_map, List.length_set]; omega), ?_⟩
        rw [set_ints, upd_upd]
        refine ⟨_, _, _, rfl, fun c o e => ?_, ?_⟩
        · rw [upd_ne (ne_of_none e hl0)]
          exact smT _ _ e
        · rw [upd_same, List.take_add_one, zip_get hn ht]
          show _ = some (HO.lst ((comeF (List.take i (ns.zip ties) ++ [(n, (a, b))]) (List.replicate m 0)).map V.int))
          rw [comeF_snoc, hacc]
          rfl
      · rintro σ H' ⟨y3, y4, y5, rfl, sm, hf⟩
        refine ⟨_, rfl, q H' l sm hl0 ?_⟩
        rw [hf]
        have e : (ns.zip ties).take (min (ns.map V.int).length ts.length) = ns.zip ties := List.take_of_length_le (by rw [List.length_zip, List.length_map, h3.1]; exact Nat.le_refl _)
        rw [e]
        rfl
theorem can_rests (D : Stands K mg "rests_of" sRests ["web", "k", "row"]) (B : Blt mg) : Can P w K mg base 1 "rests_of" (spRests K) := by
  refine D.can scRests (fun vs H Q E h => ?_) (fun f cdv A outer s H vs Q E hr h => ?_)
  · obtain ⟨p, m, ties, r, t, ns, k, rfl, _⟩ := h
    rfl
  · obtain ⟨p, m, ties, r, t, ns, k, rfl, k0, ⟨tt, ts, h1, h2, h3⟩, W, hrow, q⟩ := h
    refine ⟨_, pss_cons (ps_set (i := 3) scRests.nd rfl (Or.inl rfl) (pe_op op_rep (pe_lst (pa_cons pe_int pa_nil)) (pe_ix ix_tup (pv 0) pe_int (fun _ _ => rfl))))
      (pss_cons (ps_for PassesOwn.never rfl (pi_zipX t true (by rfl) B.zip (pa_cons (pv 2) (pa_cons (pe_ix ix_tup (pv 0) pe_int (fun _ _ => rfl)) pa_nil)))
          (pg_tup rfl (pgs_cons (pg_name (i := 4) scRests.nd rfl (.inl rfl)) (pgs_cons (pg_tup rfl (pgs_cons (pg_name (i := 5) scRests.nd rfl (.inl rfl)) (pgs_cons (pg_name (i := 6) scRests.nd rfl (.inl rfl)) pgs_nil))) pgs_nil)))
        (pss_cons (ps_asg (pe_op op_mod (pe_op op_sub (pe_ix ix_list (pv 3) (pv 5) (fun _ _ => rfl)) (pv 4)) (pv 1)) (pg_sub (pv 3) (pv 5) set_list))
          (pss_one (ps_asg (pe_op op_mod (pe_op op_add (pe_ix ix_list (pv 3) (pv 6) (fun _ _ => rfl)) (pv 4)) (pv 1)) (pg_sub (pv 3) (pv 6) set_list)))))
      (pss_one (ps_ret (pv 3)))), ?_⟩
    refine ⟨(by show 1 ≤ sizeLine; decide), fun z hz => ?_⟩
    refine ⟨_, rfl, p, _, _, _, rfl, rfl, SqT.of (same_new hz _ _ h1), atI0, z, _, _, rfl, rfl, upd_same, by omega, by have := W.m5; omega, ?_, fun l hl => ?_⟩
    · rw [Int.toNat_natCast]
      show 1 * m ≤ sizeLine
      rw [Nat.one_mul]
      exact len5 W.m5
    · have hl0 : H l = none := (same_new hz).free hl
      have s0 : Same H (upd (upd H z (.lst [.int 0])) l (.lst (List.replicate ((m : Nat) : Int).toNat [V.int 0]).flatten)) := (same_new hz).trans (same_new hl)
      refine ⟨_, rfl, _, rfl, p, _, _, _, rfl, rfl, SqT.of (s0 _ _ h1), atI1, r, tt, ns.map V.int, ts, rfl, SqX.same (t := t) s0 hrow, SqT.of (s0 _ _ h2), ?_⟩
      refine for_it (walk_zipX (xs := ns.map V.int) (ys := ts) rfl) (fun i σ H' => ∃ y3 y4 y5, σ = [some (.ref p), some (.int k), some (.ref r), some (.ref l), y3, y4, y5] ∧ Same H H' ∧ H' l = some (.lst ((restF k ((ns.zip ties).take i) (List.replicate m 0)).map V.int)))
        ⟨none, none, none, rfl, s0, ?_⟩ (fun i σ H' _ ⟨_, _, _, _, sm, _⟩ => ⟨SqX.same (t := t) sm hrow, SqT.of (sm _ _ h2)⟩) ?_ ?_
      · rw [upd_same, zeros]
        rfl
      · rintro i x σ H' H2 hi ⟨y3, y4, y5, rfl, sm, hf⟩ ⟨T, x1, x2, rfl, hT, rfl, e1, e2⟩
        obtain ⟨n, hn, rfl⟩ := ints_of e1
        obtain ⟨rr, a, b, rfl, ht, hrr⟩ := h3.get e2
        obtain ⟨hab, hbm⟩ := tie_in W.fine ht
        have smT : Same H (upd H' T (.tup [.int n, .ref rr])) := sm.trans (same_new hT)
        have nlT : l ≠ T := ne_of_none hf hT
        have hlen : (restF k ((ns.zip ties).take i) (List.replicate m 0)).length = m := by rw [restF_length, List.length_replicate]
        generalize hacc : restF k ((ns.zip ties).take i) (List.replicate m 0) = acc at hf hlen
        have hfT : (upd H' T (.tup [.int n, .ref rr])) l = some (.lst (acc.map V.int)) := by rw [upd_ne nlT]; exact hf
        refine ⟨T, [.int n, .ref rr], rfl, SqT.of upd_same, rfl, _, _, rfl, _, _, rfl, rr, [.int (a : Nat), .int (b : Nat)], rfl, SqT.of (smT _ _ hrr), rfl, _, _, rfl, _, _, rfl, rfl, rfl, ?_⟩
        refine ⟨_, rfl, _, rfl, l, _, _, _, rfl, rfl, SqL.of hfT, at_ints (by omega), _, rfl, _, _, rfl, rfl, _, rfl, _, _, rfl, rfl, k0, _, rfl, _, rfl, l, _, _, a, rfl, rfl, hfT, ixN_nat (by rw [List.length_map]; omega), ?_⟩
        rw [set_ints]
        refine ⟨_, rfl, _, rfl, l, _, _, _, rfl, rfl, SqL.of upd_same, at_ints (by rw [List.length_set]; omega), _, rfl, _, _, rfl, rfl, _, rfl, _, _, rfl, rfl, k0, _, rfl, _, rfl, l, _, _, b, rfl, rfl, upd_same, ixN_nat (by rw [List.length_map, List.length_set]; omega), ?_⟩
        rw [set_ints, upd_upd]
        refine ⟨_, _, _, rfl, fun c o e => ?_, ?_⟩
        · rw [upd_ne (ne_of_none e hl0)]
          exact smT _ _ e
        · rw [upd_same, List.take_add_one, zip_get hn ht]
          show _ = some (HO.lst ((restF k (List.take i (ns.zip ties) ++ [(n, (a, b))]) (List.replicate m 0)).map V.int))
          rw [restF_snoc, hacc]
          rfl
      · rintro σ H' ⟨y3, y4, y5, rfl, sm, hf⟩
        refine ⟨_, rfl, q H' l sm hl0 ?_⟩
        rw [hf]
        have e : (ns.zip ties).take (min (ns.map V.int).length ts.length) = ns.zip ties := List.take_of_length_le (by rw [List.length_zip, List.length_map, h3.1]; exact Nat.le_refl _)
        rw [e]
        rfl
theorem can_lrests (D : Stands K mg "_law_rests" sLRests ["_law_web_here", "_law_k", "_law_row"]) (B : Blt mg) : Can P w K mg base 1 "_law_rests" (spRests K) := by
  refine D.can scLRests (fun vs H Q E h => ?_) (fun f cdv A outer s H vs Q E hr h => ?_)
  · obtain ⟨p, m, ties, r, t, ns, k, rfl, _⟩ := h
    rfl
  · obtain ⟨p, m, ties, r, t, ns, k, rfl, k0, ⟨tt, ts, h1, h2, h3⟩, W, hrow, q⟩ := h
    refine ⟨_, pss_cons (ps_set (i := 3) scLRests.nd rfl (Or.inl rfl) (pe_op op_rep (pe_lst (pa_cons pe_int pa_nil)) (pe_ix ix_tup (pv 0) pe_int (fun _ _ => rfl))))
      (pss_cons (ps_for PassesOwn.never rfl (pi_zipX t true (by rfl) B.zip (pa_cons (pv 2) (pa_cons (pe_ix ix_tup (pv 0) pe_int (fun _ _ => rfl)) pa_nil)))
          (pg_tup rfl (pgs_cons (pg_name (i := 4) scLRests.nd rfl (.inl rfl)) (pgs_cons (pg_tup rfl (pgs_cons (pg_name (i := 5) scLRests.nd rfl (.inl rfl)) (pgs_cons (pg_name (i := 6) scLRests.nd rfl (.inl rfl)) pgs_nil))) pgs_nil)))
        (pss_cons (ps_asg (pe_op op_mod (pe_op op_sub (pe_ix ix_list (pv 3) (pv 5) (fun _ _ => rfl)) (pv 4)) (pv 1)) (pg_sub (pv 3) (pv 5) set_list))
          (pss_one (ps_asg (pe_op op_mod (pe_op op_add (pe_ix ix_list (pv 3) (pv 6) (fun _ _ => rfl)) (pv 4)) (pv 1)) (pg_sub (pv 3) (pv 6) set_list)))))
      (pss_one (ps_ret (pv 3)))), ?_⟩
    refine ⟨(by show 1 ≤ sizeLine; decide), fun z hz => ?_⟩
    refine ⟨_, rfl, p, _, _, _, rfl, rfl, SqT.of (same_new hz _ _ h1), atI0, z, _, _, rfl, rfl, upd_same, by omega, by have := W.m5; omega, ?_, fun l hl => ?_⟩
    · rw [Int.toNat_natCast]
      show 1 * m ≤ sizeLine
      rw [Nat.one_mul]
      exact len5 W.m5
    · have hl0 : H l = none := (same_new hz).free hl
      have s0 : Same H (upd (upd H z (.lst [.int 0])) l (.lst (List.replicate ((m : Nat) : Int).toNat [V.int 0]).flatten)) := (same_new hz).trans (same_new hl)
      refine ⟨_, rfl, _, rfl, p, _, _, _, rfl, rfl, SqT.of (s0 _ _ h1), atI1, r, tt, ns.map V.int, ts, rfl, SqX.same (t := t) s0 hrow, SqT.of (s0 _ _ h2), ?_⟩
      refine for_it (walk_zipX (xs := ns.map V.int) (ys := ts) rfl) (fun i σ H' => ∃ y3 y4 y5, σ = [some (.ref p), some (.int k), some (.ref r), some (.ref l), y3, y4, y5] ∧ Same H H' ∧ H' l = some (.lst ((restF k ((ns.zip ties).take i) (List.replicate m 0)).map V.int)))
        ⟨none, none, none, rfl, s0, ?_⟩ (fun i σ H' _ ⟨_, _, _, _, sm, _⟩ => ⟨SqX.same (t := t) sm hrow, SqT.of (sm _ _ h2)⟩) ?_ ?_
      · rw [upd_same, zeros]
        rfl
      · rintro i x σ H' H2 hi ⟨y3, y4, y5, rfl, sm, hf⟩ ⟨T, x1, x2, rfl, hT, rfl, e1, e2⟩
        obtain ⟨n, hn, rfl⟩ := ints_of e1
        obtain ⟨rr, a, b, rfl, ht, hrr⟩ := h3.get e2
        obtain ⟨hab, hbm⟩ := tie_in W.fine ht
        have smT : Same H (upd H' T (.tup [.int n, .ref rr])) := sm.trans (same_new hT)
        have nlT : l ≠ T := ne_of_none hf hT
        have hlen : (restF k ((ns.zip ties).take i) (List.replicate m 0)).length = m := by rw [restF_length, List.length_replicate]
        generalize hacc : restF k ((ns.zip ties).take i) (List.replicate m 0) = acc at hf hlen
        have hfT : (upd H' T (.tup [.int n, .ref rr])) l = some (.lst (acc.map V.int)) := by rw [upd_ne nlT]; exact hf
        refine ⟨T, [.int n, .ref rr], rfl, SqT.of upd_same, rfl, _, _, rfl, _, _, rfl, rr, [.int (a : Nat), .int (b : Nat)], rfl, SqT.of (smT _ _ hrr), rfl, _, _, rfl, _, _, rfl, rfl, rfl, ?_⟩
        refine ⟨_, rfl, _, rfl, l, _, _, _, rfl, rfl, SqL.of hfT, at_ints (by omega), _, rfl, _, _, rfl, rfl, _, rfl, _, _, rfl, rfl, k0, _, rfl, _, rfl, l, _, _, a, rfl, rfl, hfT, ixN_nat (by rw [List.length_map]; omega), ?_⟩
        rw [set_ints]
        refine ⟨_, rfl, _, rfl, l, _, _, _, rfl, rfl, SqL.of upd_same, at_ints (by rw [List.length_set]; omega), _, rfl, _, _, rfl, rfl, _, rfl, _, _, rfl, rfl, k0, _, rfl, _, rfl, l, _, _, b, rfl, rfl, upd_same, ixN_nat (by rw [List.length_map, List.length_set]; omega), ?_⟩
        rw [set_ints, upd_upd]
        refine ⟨_, _, _, rfl, fun c o e => ?_, ?_⟩
        · rw [upd_ne (ne_of_none e hl0)]
          exact smT _ _ e
        · rw [upd_same, List.take_add_one, zip_get hn ht]
          show _ = some (HO.lst ((restF k (List.take i (ns.zip ties) ++ [(n, (a, b))]) (List.replicate m 0)).map V.int))
          rw [restF_snoc, hacc]
          rfl
      · rintro σ H' ⟨y3, y4, y5, rfl, sm, hf⟩
        refine ⟨_, rfl, q H' l sm hl0 ?_⟩
        rw [hf]
        have e : (ns.zip ties).take (min (ns.map V.int).length ts.length) = ns.zip ties := List.take_of_length_le (by rw [List.length_zip, List.length_map, h3.1]; exact Nat.le_refl _)
        rw [e]
        rfl
end
end Nf
-- text NfE
set_option Elab.async false
set_option linter.all false
set_option maxRecDepth 100000
set_option maxHeartbeats 400000
namespace Nf
open PySem PySem.Spec PyProof.Rows L2 NfR
abbrev sEven : Stmt := top 14
abbrev sFlow : Stmt := top 15
abbrev sWF : Stmt := top 18
abbrev sLWF : Stmt := top 36
theorem scEven : FnScope ["web", "k", "thing"] ["web", "k", "thing"] (defScope sEven) := ⟨rfl, rfl, rfl, by decide +kernel, rfl, by decide +kernel, by decide +kernel⟩
theorem scFlow : FnScope ["web", "k", "thing"] ["web", "k", "thing"] (defScope sFlow) := ⟨rfl, rfl, rfl, by decide +kernel, rfl, by decide +kernel, by decide +kernel⟩
theorem scWF : FnScope ["web", "k", "thing"] ["web", "k", "thing"] (defScope sWF) := ⟨rfl, rfl, rfl, by decide +kernel, rfl, by decide +kernel, by decide +kernel⟩
theorem scLWF : FnScope ["_law_web_here", "_law_k", "_law_thing"] ["_law_web_here", "_law_k", "_law_thing"] (defScope sLWF) := ⟨rfl, rfl, rfl, by decide +kernel, rfl, by decide +kernel, by decide +kernel⟩

/-- a flow: numbers from 1 to k - 1, at each place no rest -/
structure FlowOk (m : Nat) (ties : Ties) (k : Int) (ns : List Int) : Prop where
  len : ns.length = ties.length
  num : ∀ x ∈ ns, 1 ≤ x ∧ x ≤ k - 1
  even : ∀ x ∈ rest m k ties ns, x = 0
def spFlow : Sp := fun vs H Q _ => ∃ p m ties k r ns, vs = [.ref p, .int k, .ref r] ∧ 2 ≤ k ∧ k ≤ 6 ∧ WebAt H p m ties ∧ Web m ties ∧ H r = some (.tup (ns.map V.int)) ∧ FlowOk m ties k ns ∧ ∀ H', Same H H' → Q (.bl true) H'

theorem flow_row {m : Nat} {ties : Ties} {k : Int} {ns : List Int} (F : FlowOk m ties k ns) : okRow ties.length 0 (k - 1) (some (ns.map some)) = true := by
  show (decide (((ns.map some).length : Int) = ties.length) && (ns.map some).all (okIn 0 (k - 1))) = true
  rw [decide_eq_true (by rw [List.length_map, F.len]), Bool.true_and, List.all_eq_true]
  intro o ho
  obtain ⟨x, hx, rfl⟩ := List.mem_map.mp ho
  obtain ⟨h1, h2⟩ := F.num x hx
  show (decide (0 ≤ x) && decide (x ≤ k - 1)) = true
  rw [decide_eq_true (by omega), decide_eq_true h2]
  rfl
theorem ints_flat (ns : List Int) : (ns.map V.int).all flatV = true := by
  rw [List.all_eq_true]
  intro v hv
  obtain ⟨x, _, rfl⟩ := List.mem_map.mp hv
  rfl
theorem no_nought {ns : List Int} (h : ∀ x ∈ ns, 1 ≤ x) : inV (.int 0) (ns.map V.int) = false := by
  unfold inV
  rw [List.any_eq_false]
  intro v hv
  obtain ⟨x, hx, rfl⟩ := List.mem_map.mp hv
  have := h x hx
  show ¬ ((x == 0) = true)
  rw [beq_iff_eq]
  omega

/-! ### what is_whole_flow reckons -/
def intsOf (d : Option (List (Option Int))) : List Int := match d with
  | some l => l.filterMap id
  | none => []
theorem intsOf_some (ns : List Int) : intsOf (some (ns.map some)) = ns := by
  show (ns.map some).filterMap id = ns
  rw [List.filterMap_map]
  exact List.filterMap_some
def allNought (ns : List Int) : Bool := ns.all fun x => decide (x = 0)
def wf (m : Nat) (ties : Ties) (k : Int) (d : Option (List (Option Int))) : Bool :=
  okRow ties.length (1 - k) (k - 1) d && (!inV (.int 0) ((intsOf d).map V.int)) && allNought (come m ties (intsOf d))
def spWF : Sp := fun vs H Q _ => ∃ p m ties k v d, vs = [.ref p, .int k, v] ∧ 2 ≤ k ∧ k ≤ 6 ∧ WebAt H p m ties ∧ Web m ties ∧ Thing H v d ∧ ∀ H', Same H H' → Q (.bl (wf m ties k d)) H'

theorem all_some {lo hi : Int} : ∀ l : List (Option Int), (∀ x ∈ l, okIn lo hi x = true) → l = (l.filterMap id).map some ∧ (l.filterMap id).length = l.length
  | [], _ => ⟨rfl, rfl⟩
  | none :: r, h => absurd (h none (List.mem_cons_self ..)) Bool.false_ne_true
  | some i :: r, h => by
    obtain ⟨h1, h2⟩ := all_some r fun x hx => h x (List.mem_cons_of_mem _ hx)
    refine ⟨?_, ?_⟩
    · show some i :: r = some i :: (r.filterMap id).map some
      rw [← h1]
    · show (r.filterMap id).length + 1 = r.length + 1
      rw [h2]
theorem okRow_ints {n lo hi : Int} {d : Option (List (Option Int))} (h : okRow n lo hi d = true) : ∃ ns : List Int, d = some (ns.map some) ∧ (ns.length : Int) = n := by
  cases d with
  | none => cases h
  | some l =>
    have h : (decide ((l.length : Int) = n) && l.all (okIn lo hi)) = true := h
    rw [Bool.and_eq_true, List.all_eq_true] at h
    obtain ⟨h1, h2⟩ := h
    obtain ⟨e1, e2⟩ := all_some l h2
    exact ⟨l.filterMap id, congrArg some e1, by rw [e2]; exact of_decide_eq_true h1⟩
theorem Items.ints {H : Hp} {xs : List V} {ns : List Int} (h : Items H xs (ns.map some)) : xs = ns.map V.int := by
  refine List.ext_getElem? fun i => ?_
  cases c : xs[i]? with
  | none =>
    have q := List.getElem?_eq_none_iff.mp c
    rw [List.getElem?_eq_none (by rw [List.length_map]; have := h.len; rw [List.length_map] at this; omega)]
  | some x =>
    obtain ⟨o, ho, hI⟩ := h.it i x c
    rw [List.getElem?_map] at ho ⊢
    cases e : ns[i]? with
    | none => rw [e] at ho; cases ho
    | some n =>
      rw [e] at ho
      cases ho
      cases hI
      rfl
theorem eqAll_zero : ∀ ns : List Int, PyData.eqvAll (ns.map PyData.int) ((List.replicate ns.length (0 : Int)).map PyData.int) = allNought ns
  | [] => rfl
  | n :: r => by
    show ((n == 0) && PyData.eqvAll (r.map PyData.int) ((List.replicate r.length (0 : Int)).map PyData.int)) = (decide (n = 0) && allNought r)
    rw [eqAll_zero r]
    rfl
theorem ints_dp {K : PySem.W.Frag} {H : Hp} : ∀ ns : List Int, DpAll K H (ns.map V.int) (ns.map PyData.int)
  | [] => .nil
  | n :: r => .cons (.int n) (ints_dp r)
theorem ints_lay : ∀ ns : List Int, PyData.canLayAll0 (ns.map PyData.int) = true ∧ PyData.depthAll (ns.map PyData.int) = 0
  | [] => ⟨rfl, rfl⟩
  | n :: r => by
    obtain ⟨h1, h2⟩ := ints_lay r
    refine ⟨?_, ?_⟩
    · show (_ && PyData.canLayAll0 (r.map PyData.int)) = true
      rw [h1]
      rfl
    · show max 0 (PyData.depthAll (r.map PyData.int)) = 0
      rw [h2]
      rfl
theorem list_shaped (ns : List Int) : SeqAt.shaped (.list (ns.map PyData.int)) = true := by
  obtain ⟨h1, h2⟩ := ints_lay ns
  show (PyData.canLayAll0 (ns.map PyData.int) && decide (PyData.depthAll (ns.map PyData.int) + 1 ≤ 64)) = true
  rw [h1, h2]
  rfl
section
variable {P : Program} {w : World} {K : PySem.W.Frag} {mg : Str → Option Value} {base : Heap}
theorem can_even (D : Stands K mg "is_even" sEven ["web", "k", "thing"]) (B : Blt mg) (cC : Can P w K mg base 3 "check_clock" spClock) (cR : Can P w K mg base 4 "is_row" spRow) (cS : Can P w K mg base 1 "rests_of" (spRests K)) :
    Can P w K mg base 5 "is_even" spFlow := by
  refine D.can scEven (fun vs H Q E h => ?_) (fun f cdv A outer s H vs Q E hr h => ?_)
  · obtain ⟨p, m, ties, k, r, ns, rfl, _⟩ := h
    rfl
  · obtain ⟨p, m, ties, k, r, ns, rfl, k2, k6, hW, W, hR, F, q⟩ := h
    refine ⟨_, pss_cons (ps_expr (pcall (cC.mono (by decide)) hr (pa_cons (pv 1) pa_nil)))
      (pss_one (ps_ret (pe_and (pcall cR hr (pa_cons (pv 0) (pa_cons (pv 1) (pa_cons (pv 2) pa_nil))))
        (pe_one (pe_cmpR op_eq (pe_callB (cr_max rfl) (by rfl) B.max (by decide +kernel) (pa_cons (pcall (cS.mono (by decide)) hr (pa_cons (pv 0) (pa_cons (pv 1) (pa_cons (pv 2) pa_nil)))) pa_nil)) pe_int (nomark _)))))), ?_⟩
    have hns : ns.length ≤ 100 := by rw [F.len]; have := W.few; omega
    refine ⟨_, rfl, k, rfl, k2, k6, _, rfl, _, rfl, _, rfl, p, m, ties, k, _, some (ns.map some), rfl, hW, .tup hR (items_ints ns hns), fun H1 s1 => ?_⟩
    rw [flow_row F]
    refine ⟨true, rfl, iteT ?_⟩
    refine ⟨_, rfl, _, rfl, _, rfl, p, m, ties, r, true, ns, k, rfl, by omega, hW.same s1, W, SqT.of (s1 _ _ hR), fun H2 l s2 hl hL => ?_⟩
    refine ⟨l, _, rfl, SqL.of hL, by rw [rest_length]; exact W.m1, fun M hM _ => ⟨rfl, ?_⟩⟩
    rw [F.even M hM]
    exact q H2 (s1.trans s2)
theorem can_flow (D : Stands K mg "is_flow" sFlow ["web", "k", "thing"]) (cE : Can P w K mg base 5 "is_even" spFlow) : Can P w K mg base 6 "is_flow" spFlow := by
  refine D.can scFlow (fun vs H Q E h => ?_) (fun f cdv A outer s H vs Q E hr h => ?_)
  · obtain ⟨p, m, ties, k, r, ns, rfl, _⟩ := h
    rfl
  · obtain ⟨p, m, ties, k, r, ns, rfl, k2, k6, hW, W, hR, F, q⟩ := h
    refine ⟨_, pss_one (ps_ret (pe_and (pcall cE hr (pa_cons (pv 0) (pa_cons (pv 1) (pa_cons (pv 2) pa_nil)))) (pe_one (pe_cmpR op_notIn_seq pe_int (pv 2) (by rfl))))), ?_⟩
    refine ⟨_, rfl, _, rfl, _, rfl, p, m, ties, k, r, ns, rfl, k2, k6, hW, W, hR, F, fun H1 s1 => ⟨true, rfl, iteT ?_⟩⟩
    refine ⟨_, rfl, r, _, rfl, .inr (SqT.of (s1 _ _ hR)), rfl, ints_flat ns, ?_⟩
    rw [if_pos rfl, no_nought fun x hx => (F.num x hx).1]
    exact q H1 s1
theorem wf_no_row {m : Nat} {ties : Ties} {k : Int} {d : Option (List (Option Int))} (h : ¬ okRow ties.length (1 - k) (k - 1) d = true) : wf m ties k d = false := by
  unfold wf
  rw [Bool.eq_false_iff.mpr h]
  rfl
theorem wf_nought {m : Nat} {ties : Ties} {k : Int} {ns : List Int} (h : inV (.int 0) (ns.map V.int) = true) : wf m ties k (some (ns.map some)) = false := by
  unfold wf
  rw [intsOf_some, h]
  show (_ && false && _) = false
  rw [Bool.and_false, Bool.false_and]
theorem wf_come {m : Nat} {ties : Ties} {k : Int} {ns : List Int} (h1 : okRow ties.length (1 - k) (k - 1) (some (ns.map some)) = true) (h2 : ¬ inV (.int 0) (ns.map V.int) = true) : wf m ties k (some (ns.map some)) = allNought (come m ties ns) := by
  unfold wf
  rw [intsOf_some, h1, Bool.eq_false_iff.mpr h2]
  rfl
theorem least_most {ns : List Int} {M N : Int} (hM : M ∈ ns) (hle : ∀ y ∈ ns, y ≤ M) (hN : N ∈ ns) (hge : ∀ y ∈ ns, N ≤ y) : (decide (M = 0) && decide (N = 0)) = allNought ns := by
  rw [Bool.eq_iff_iff, Bool.and_eq_true]
  unfold allNought
  rw [List.all_eq_true, decide_eq_true_eq, decide_eq_true_eq]
  constructor
  · rintro ⟨h1, h2⟩ x hx
    have := hle x hx
    have := hge x hx
    exact decide_eq_true (by omega)
  · intro h
    exact ⟨of_decide_eq_true (h M hM), of_decide_eq_true (h N hN)⟩
theorem can_wf (D : Stands K mg "is_whole_flow" sWF ["web", "k", "thing"]) (B : Blt mg) (cC : Can P w K mg base 3 "check_clock" spClock) (cR : Can P w K mg base 3 "is_row_of" spRowOf) (cS : Can P w K mg base 1 "come_in" (spCome K)) :
    Can P w K mg base 4 "is_whole_flow" spWF := by
  refine D.can scWF (fun vs H Q E h => ?_) (fun f cdv A outer s H vs Q E hr h => ?_)
  · obtain ⟨p, m, ties, k, v, d, rfl, _⟩ := h
    rfl
  · obtain ⟨p, m, ties, k, v, d, rfl, k2, k6, hW, W, hT, q⟩ := h
    refine ⟨_, pss_cons (ps_expr (pcall cC hr (pa_cons (pv 1) pa_nil)))
      (pss_cons (ps_if (PW.pt (pw_or (pt_not (pt_val (pcall cR hr (pa_cons (pv 2) (pa_cons (pe_callB call_len_seq (by rfl) B.len PySem.boot_len (pa_cons (pe_ix ix_tup (pv 0) pe_int (fun _ _ => rfl)) pa_nil)) (pa_cons (pe_op op_sub pe_int (pv 1)) (pa_cons (pe_op op_sub (pv 1) pe_int) pa_nil)))))))
          (pw_or1 (pt_cmpR op_in_seq pe_int (pv 2) (by rfl))))) (pss_one (ps_ret pe_bl)) pss_nil)
      (pss_one (ps_ret (pe_and (pe_cmpR op_eq (pe_callB (cr_max rfl) (by rfl) B.max (by decide +kernel) (pa_cons (pcall (cS.mono (by decide)) hr (pa_cons (pv 0) (pa_cons (pv 2) pa_nil))) pa_nil)) pe_int (nomark _))
        (pe_one (pe_cmpR op_eq (pe_callB (cr_min rfl) (by rfl) B.min (by decide +kernel) (pa_cons (pcall (cS.mono (by decide)) hr (pa_cons (pv 0) (pa_cons (pv 2) pa_nil))) pa_nil)) pe_int (nomark _))))))), ?_⟩
    obtain ⟨tt, ts, h1, h2, h3⟩ := id hW
    refine ⟨_, rfl, k, rfl, k2, k6, _, rfl, _, rfl, p, _, _, _, rfl, rfl, SqT.of h1, atI1, tt, ts, rfl, .inr (SqT.of h2), _, rfl, _, _, rfl, rfl, _, rfl, _, _, rfl, rfl, v, d, _, _, _, rfl, hT, fun H1 s1 => ?_⟩
    rw [h3.1]
    refine ⟨_, rfl, ite2 (fun hn => ?_) (fun hn => ?_)⟩
    · have hn : ¬ okRow ties.length (1 - k) (k - 1) d = true := by
        rw [Bool.not_eq_true'] at hn
        rw [hn]
        exact Bool.false_ne_true
      rw [wf_no_row hn] at q
      exact iteT (q H1 s1)
    · have hn : okRow ties.length (1 - k) (k - 1) d = true := by
        rw [Bool.not_eq_true', Bool.not_eq_false] at hn
        exact hn
      obtain ⟨ns, rfl, hl⟩ := okRow_ints hn
      cases hT with
      | @tup a xs _ e hI =>
        have ex := hI.ints
        subst ex
        refine ⟨_, rfl, a, _, rfl, .inr (SqT.of (s1 _ _ e)), rfl, ints_flat ns, _, rfl, ite2 (fun h0 => ?_) (fun h0 => ?_)⟩
        · rw [wf_nought h0] at q
          exact q H1 s1
        · rw [wf_come hn h0] at q
          refine ⟨_, rfl, _, rfl, p, m, ties, a, true, ns, rfl, hW.same s1, W, SqT.of (s1 _ _ e), fun H2 l s2 hl hL => ?_⟩
          refine ⟨l, _, rfl, SqL.of hL, by rw [come_length]; exact W.m1, fun M hM hMle => ⟨rfl, _, rfl, ?_⟩⟩
          have s12 := s1.trans s2
          have em : decide (V.int M = V.int 0) = decide (M = 0) := by
            by_cases z : M = 0
            · rw [decide_eq_true z, decide_eq_true (by rw [z])]
            · rw [decide_eq_false z, decide_eq_false fun y => z (V.int.inj y)]
          rw [em]
          refine ite2 (fun hz => ?_) (fun hz => ?_)
          · refine ⟨_, rfl, _, rfl, p, m, ties, a, true, ns, rfl, hW.same s12, W, SqT.of (s12 _ _ e), fun H3 l' s3 hl' hL' => ?_⟩
            refine ⟨l', _, rfl, SqL.of hL', by rw [come_length]; exact W.m1, fun N hN hNge => ⟨rfl, ?_⟩⟩
            have en : decide (V.int N = V.int 0) = decide (N = 0) := by
              by_cases z : N = 0
              · rw [decide_eq_true z, decide_eq_true (by rw [z])]
              · rw [decide_eq_false z, decide_eq_false fun y => z (V.int.inj y)]
            rw [← least_most hM hMle hN hNge, hz, Bool.true_and] at q
            rw [en]
            exact q H3 (s12.trans s3)
          · have z : allNought (come m ties ns) = false := by
              refine Bool.eq_false_iff.mpr fun y => hz ?_
              unfold allNought at y
              exact List.all_eq_true.mp y M hM
            rw [z] at q
            exact q H2 s12
theorem can_lwf (D : Stands K mg "_law_is_whole_flow" sLWF ["_law_web_here", "_law_k", "_law_thing"]) (B : Blt mg) (cR : Can P w K mg base 2 "_law_is_row" spRowOf) (cS : Can P w K mg base 1 "_law_come" (spCome K)) :
    Can P w K mg base 3 "_law_is_whole_flow" spWF := by
  refine D.can scLWF (fun vs H Q E h => ?_) (fun f cdv A outer s H vs Q E hr h => ?_)
  · obtain ⟨p, m, ties, k, v, d, rfl, _⟩ := h
    rfl
  · obtain ⟨p, m, ties, k, v, d, rfl, k2, k6, hW, W, hT, q⟩ := h
    refine ⟨_, (pss_cons (ps_if (PW.pt (pw_or (pt_not (pt_val (pcall cR hr (pa_cons (pv 2) (pa_cons (pe_callB call_len_seq (by rfl) B.len PySem.boot_len (pa_cons (pe_ix ix_tup (pv 0) pe_int (fun _ _ => rfl)) pa_nil)) (pa_cons (pe_op op_sub pe_int (pv 1)) (pa_cons (pe_op op_sub (pv 1) pe_int) pa_nil)))))))
          (pw_or1 (pt_cmpR op_in_seq pe_int (pv 2) (by rfl))))) (pss_one (ps_ret pe_bl)) pss_nil)
      (pss_one (ps_ret (pe_cmpR (op_eqD hr.units) (pcall (cS.mono (by decide)) hr (pa_cons (pv 0) (pa_cons (pv 2) pa_nil))) (pe_op op_rep (pe_lst (pa_cons pe_int pa_nil)) (pe_ix ix_tup (pv 0) pe_int (fun _ _ => rfl))) (nomark _))))), ?_⟩
    obtain ⟨tt, ts, h1, h2, h3⟩ := id hW
    refine ⟨_, rfl, _, rfl, p, _, _, _, rfl, rfl, SqT.of h1, atI1, tt, ts, rfl, .inr (SqT.of h2), _, rfl, _, _, rfl, rfl, _, rfl, _, _, rfl, rfl, v, d, _, _, _, rfl, hT, fun H1 s1 => ?_⟩
    rw [h3.1]
    refine ⟨_, rfl, ite2 (fun hn => ?_) (fun hn => ?_)⟩
    · have hn : ¬ okRow ties.length (1 - k) (k - 1) d = true := by
        rw [Bool.not_eq_true'] at hn
        rw [hn]
        exact Bool.false_ne_true
      rw [wf_no_row hn] at q
      exact iteT (q H1 s1)
    · have hn : okRow ties.length (1 - k) (k - 1) d = true := by
        rw [Bool.not_eq_true', Bool.not_eq_false] at hn
        exact hn
      obtain ⟨ns, rfl, hl⟩ := okRow_ints hn
      cases hT with
      | @tup a xs _ e hI =>
        have ex := hI.ints
        subst ex
        refine ⟨_, rfl, a, _, rfl, .inr (SqT.of (s1 _ _ e)), rfl, ints_flat ns, _, rfl, ite2 (fun h0 => ?_) (fun h0 => ?_)⟩
        · rw [wf_nought h0] at q
          exact q H1 s1
        · rw [wf_come hn h0] at q
          refine ⟨_, rfl, _, rfl, p, m, ties, a, true, ns, rfl, hW.same s1, W, SqT.of (s1 _ _ e), fun H2 l s2 hl hL => ?_⟩
          have s12 := s1.trans s2
          refine ⟨(by show 1 ≤ sizeLine; decide), fun z hz => ?_⟩
          have s3 : Same H (upd H2 z (.lst [.int 0])) := s12.trans (same_new hz)
          refine ⟨_, rfl, p, _, _, _, rfl, rfl, SqT.of (s3 _ _ h1), atI0, z, _, _, rfl, rfl, upd_same, by omega, by have := W.m5; omega, ?_, fun l2 hl2 => ?_⟩
          · rw [Int.toNat_natCast]
            show 1 * m ≤ sizeLine
            rw [Nat.one_mul]
            exact len5 W.m5
          · rw [zeros]
            have s4 : Same H (upd (upd H2 z (.lst [.int 0])) l2 (.lst ((List.replicate m (0 : Int)).map V.int))) := s3.trans (same_new hl2)
            have hL4 : (upd (upd H2 z (.lst [.int 0])) l2 (.lst ((List.replicate m (0 : Int)).map V.int))) l = some (.lst ((come m ties ns).map V.int)) := ((same_new hz).trans (same_new hl2)) _ _ hL
            refine ⟨.list ((come m ties ns).map PyData.int), .list ((List.replicate m (0 : Int)).map PyData.int), .lst (SqL.of hL4) (ints_dp _), .lst (SqL.of upd_same) (ints_dp _), list_shaped _, list_shaped _, ?_⟩
            have ee : PyData.eqv (.list ((come m ties ns).map PyData.int)) (.list ((List.replicate m (0 : Int)).map PyData.int)) = allNought (come m ties ns) := by
              have := eqAll_zero (come m ties ns)
              rw [come_length] at this
              exact this
            rw [ee]
            exact q _ s4
end
end Nf
-- text NfF
set_option Elab.async false
set_option linter.all false
set_option maxRecDepth 100000
set_option maxHeartbeats 400000
namespace Nf
open PySem PySem.Spec PyProof.Rows L2 NfR
abbrev sNext : Stmt := top 19
theorem scNext : FnScope ["web", "row", "place", "found", "tie", "one", "other"] ["web", "row", "place"] (defScope sNext) := ⟨rfl, rfl, rfl, by decide +kernel, rfl, by decide +kernel, by decide +kernel⟩

theorem nexts_snoc (u a b : Nat) (n : Int) : ∀ (i : Nat) (ts : Ties) (ns : List Int), ts.length = ns.length →
    nexts u i (ts ++ [(a, b)]) (ns ++ [n]) = nexts u i ts ns ++ (if a = u ∧ n < 0 then [(b, i + ts.length)] else []) ++ (if b = u ∧ 0 < n then [(a, i + ts.length)] else [])
  | i, [], [], _ => by
    show _ ++ _ ++ [] = [] ++ _ ++ _
    rw [List.append_nil, List.nil_append]
    rfl
  | i, [], _ :: _, h => by cases h
  | i, _ :: _, [], h => by cases h
  | i, (c, d) :: ts, x :: ns, h => by
    have ih := nexts_snoc u a b n (i + 1) ts ns (Nat.succ.inj h)
    show _ ++ _ ++ nexts u (i + 1) (ts ++ [(a, b)]) (ns ++ [n]) = (_ ++ _ ++ nexts u (i + 1) ts ns) ++ _ ++ _
    rw [ih, show i + 1 + ts.length = i + (ts.length + 1) by omega]
    simp only [List.append_assoc]
    rfl
theorem nexts_take (u : Nat) {ties : Ties} {ns : List Int} {i a b : Nat} {n : Int} (h1 : ties[i]? = some (a, b)) (h2 : ns[i]? = some n) :
    nexts u 0 (ties.take (i + 1)) (ns.take (i + 1)) = nexts u 0 (ties.take i) (ns.take i) ++ (if a = u ∧ n < 0 then [(b, i)] else []) ++ (if b = u ∧ 0 < n then [(a, i)] else []) := by
  have l1 : i < ties.length := (List.getElem?_eq_some_iff.mp h1).1
  have l2 : i < ns.length := (List.getElem?_eq_some_iff.mp h2).1
  rw [List.take_add_one, List.take_add_one, h1, h2]
  show nexts u 0 (List.take i ties ++ [(a, b)]) (List.take i ns ++ [n]) = _
  have e1 : (ties.take i).length = i := by rw [List.length_take]; omega
  have e2 : (ns.take i).length = i := by rw [List.length_take]; omega
  rw [nexts_snoc u a b n 0 _ _ (by rw [e1, e2]), e1, Nat.zero_add]
theorem TiesAt.snoc {H : Hp} {vs : List V} {L : Ties} {r a b : Nat} (h : TiesAt H vs L) (e : H r = some (.tup [.int (a : Nat), .int (b : Nat)])) : TiesAt H (vs ++ [.ref r]) (L ++ [(a, b)]) := by
  refine ⟨by rw [List.length_append, List.length_append, h.1]; rfl, fun i x y g => ?_⟩
  by_cases c : i < L.length
  · rw [List.getElem?_append_left c] at g
    obtain ⟨q, q1, q2⟩ := h.2 i x y g
    exact ⟨q, by rw [List.getElem?_append_left (by rw [h.1]; exact c)]; exact q1, q2⟩
  · have l : i < (L ++ [(a, b)]).length := (List.getElem?_eq_some_iff.mp g).1
    rw [List.length_append, List.length_singleton] at l
    have ei : i = L.length := by omega
    subst ei
    rw [List.getElem?_append_right (Nat.le_refl _), Nat.sub_self] at g
    have e2 : (a, b) = (x, y) := Option.some.inj g
    cases e2
    refine ⟨r, ?_, e⟩
    rw [List.getElem?_append_right (by rw [h.1]; exact Nat.le_refl _), h.1, Nat.sub_self]
    rfl
theorem TiesAt.nil {H : Hp} : TiesAt H [] [] := ⟨rfl, fun i a b e => by simp at e⟩

/-- web, row (a list), place: a new list of new pairs, nexts -/
def spNext (K : PySem.W.Frag) : Sp := fun vs H Q _ => ∃ p m ties r ns u, vs = [.ref p, .ref r, .int (u : Nat)] ∧ WebAt H p m ties ∧ Web m ties ∧ H r = some (.lst (ns.map V.int)) ∧ ns.length = ties.length ∧
  ∀ H' l vs', Same H H' → H l = none → H' l = some (.lst vs') → TiesAt H' vs' (nexts u 0 ties ns) → Q (.ref l) H'

theorem int_eq (a b : Nat) : (decide (V.int (a : Nat) = V.int (b : Nat)) = true) ↔ a = b := by
  rw [decide_eq_true_eq]
  exact ⟨fun h => by have := V.int.inj h; omega, fun h => by rw [h]⟩
section
variable {P : Program} {w : World} {K : PySem.W.Frag} {mg : Str → Option Value} {base : Heap}
theorem can_next (D : Stands K mg "next_places" sNext ["web", "row", "place"]) (B : Blt mg) : Can P w K mg base 1 "next_places" (spNext K) := by
  refine D.can scNext (fun vs H Q E h => ?_) (fun f cdv A outer s H vs Q E hr h => ?_)
  · obtain ⟨p, m, ties, r, ns, u, rfl, _⟩ := h
    rfl
  · obtain ⟨p, m, ties, r, ns, u, rfl, ⟨tt, ts, h1, h2, h3⟩, W, hrow, hlen, q⟩ := h
    refine ⟨_, pss_cons (ps_set (i := 3) scNext.nd rfl (Or.inl rfl) (pe_lst pa_nil))
      (pss_cons (ps_for PassesOwn.never rfl (pi_enumX true (by rfl) B.enumerate (pa_cons (pe_ix ix_tup (pv 0) pe_int (fun _ _ => rfl)) pa_nil))
          (pg_tup rfl (pgs_cons (pg_name (i := 4) scNext.nd rfl (.inl rfl)) (pgs_cons (pg_tup rfl (pgs_cons (pg_name (i := 5) scNext.nd rfl (.inl rfl)) (pgs_cons (pg_name (i := 6) scNext.nd rfl (.inl rfl)) pgs_nil))) pgs_nil)))
        (C8.pss_cut (ps_if (PW.pt (pw_and (pt_cmpR op_eq (pv 5) (pv 2) (nomark _)) (pw_and1 (pt_cmpR op_lt (pe_ix ix_list (pv 1) (pv 4) (fun _ _ => rfl)) pe_int (nomark _)))))
            (pss_one (ps_expr (pe_bm PySem.F.plainAttrs_list PySem.F.slot_list_append PySem.F.type_list_append mt_append (pv 3) (pa_cons (pe_tup (pa_cons (pv 6) (pa_cons (pv 4) pa_nil))) pa_nil)))) pss_nil)
          (pss_one (ps_if (PW.pt (pw_and (pt_cmpR op_eq (pv 6) (pv 2) (nomark _)) (pw_and1 (pt_cmpR op_gt (pe_ix ix_list (pv 1) (pv 4) (fun _ _ => rfl)) pe_int (nomark _)))))
            (pss_one (ps_expr (pe_bm PySem.F.plainAttrs_list PySem.F.slot_list_append PySem.F.type_list_append mt_append (pv 3) (pa_cons (pe_tup (pa_cons (pv 5) (pa_cons (pv 4) pa_nil))) pa_nil)))) pss_nil))))
      (pss_one (ps_ret (pv 3)))), ?_⟩
    refine ⟨Nat.zero_le _, fun l hl => ?_⟩
    have s0 : Same H (upd H l (.lst [])) := same_new hl
    refine ⟨_, rfl, p, _, _, _, rfl, rfl, SqT.of (s0 _ _ h1), atI1, tt, ts, rfl, SqT.of (s0 _ _ h2), ?_⟩
    refine for_it (walk_enumX (t := true) (xs := ts)) (fun i σ H' => ∃ y4 y5 y6 vs', σ = [some (.ref p), some (.ref r), some (.int (u : Nat)), some (.ref l), y4, y5, y6] ∧ Same H H' ∧ H' l = some (.lst vs') ∧ TiesAt H' vs' (nexts u 0 (ties.take i) (ns.take i)) ∧ vs'.length ≤ 2 * i)
      ⟨none, none, none, [], rfl, s0, upd_same, ?_, Nat.le_refl _⟩ (fun i σ H' _ ⟨_, _, _, _, _, sm, _⟩ => SqT.of (sm _ _ h2)) ?_ ?_
    · rw [List.take_zero]
      exact TiesAt.nil
    · rintro i x σ H' H2 hi ⟨y4, y5, y6, vs', rfl, sm, hf, hp, hb⟩ ⟨T, x1, x2, rfl, hT, rfl, e1, e2⟩
      have e1 : V.int (i : Nat) = x1 := Option.some.inj e1
      subst e1
      obtain ⟨rr, a, b, rfl, ht, hrr⟩ := h3.get e2
      have hi8 : i < ties.length := (List.getElem?_eq_some_iff.mp ht).1
      have few := W.few
      obtain ⟨n, hn⟩ : ∃ n, ns[i]? = some n := ⟨_, List.getElem?_eq_getElem (by omega)⟩
      have smT : Same H' (upd H' T (.tup [.int (i : Nat), .ref rr])) := same_new hT
      have sm1 : Same H (upd H' T (.tup [.int (i : Nat), .ref rr])) := sm.trans smT
      refine ⟨T, [.int (i : Nat), .ref rr], rfl, SqT.of upd_same, rfl, _, _, rfl, _, _, rfl, rr, [.int (a : Nat), .int (b : Nat)], rfl, SqT.of (sm1 _ _ hrr), rfl, _, _, rfl, _, _, rfl, rfl, rfl, ?_⟩
      have hf1 := smT _ _ hf
      have hp1 := hp.same smT
      generalize upd H' T (.tup [.int (i : Nat), .ref rr]) = H1 at hf1 hp1 sm1
      clear hT smT hf hp sm
      rw [nexts_take u ht hn]
      generalize nexts u 0 (ties.take i) (ns.take i) = L at hp1
      refine ⟨fun σ G => ∃ vs2, σ = [some (.ref p), some (.ref r), some (.int (u : Nat)), some (.ref l), some (.int (i : Nat)), some (.int (a : Nat)), some (.int (b : Nat))] ∧ Same H G ∧ G l = some (.lst vs2) ∧ TiesAt G vs2 (L ++ (if a = u ∧ n < 0 then [(b, i)] else [])) ∧ vs2.length ≤ 2 * i + 1, ?_, ?_⟩
      · refine ⟨_, rfl, _, rfl, rfl, _, rfl, ite2 (fun c1 => ?_) (fun c1 => ?_)⟩
        · have c1 := (int_eq _ _).mp c1
          refine ⟨_, rfl, _, rfl, r, _, _, _, rfl, rfl, SqL.of (sm1 _ _ hrow), atI_nat (ints_get hn), _, _, rfl, rfl, _, rfl, ite2 (fun c2 => ?_) (fun c2 => ?_)⟩
          · have c2 := of_decide_eq_true c2
            refine ⟨_, rfl, .inl ⟨rfl, _, SqL.of hf1⟩, _, rfl, _, rfl, (by show 2 ≤ sizeLine; decide), fun z hz => ?_⟩
            have nlz : l ≠ z := ne_of_none hf1 hz
            refine ⟨l, _, _, rfl, rfl, by rw [upd_ne nlz]; exact hf1, small1000 (by omega), vs' ++ [.ref z], rfl, fun c o e => ?_, upd_same, ?_, ?_⟩
            · rw [upd_ne (ne_of_none e hl), upd_ne (ne_of_none (sm1 _ _ e) hz)]
              exact sm1 _ _ e
            · rw [if_pos ⟨c1, c2⟩]
              have q1 : TiesAt (upd (upd H1 z (.tup [.int (b : Nat), .int (i : Nat)])) l (.lst (vs' ++ [.ref z]))) vs' L := ⟨hp1.1, fun j x y e => by
                obtain ⟨w1, w2, w3⟩ := hp1.2 j x y e
                refine ⟨w1, w2, ?_⟩
                rw [upd_ne (ne_of w3 hf1 (by intro z; cases z)), upd_ne (ne_of_none w3 hz)]
                exact w3⟩
              exact q1.snoc (by rw [upd_ne (Ne.symm nlz), upd_same])
            · rw [List.length_append, List.length_singleton]
              omega
          · refine ⟨vs', rfl, sm1, hf1, ?_, by omega⟩
            rw [if_neg (fun z => c2 (decide_eq_true z.2)), List.append_nil]
            exact hp1
        · refine ⟨vs', rfl, sm1, hf1, ?_, by omega⟩
          rw [if_neg (fun z => c1 ((int_eq _ _).mpr z.1)), List.append_nil]
          exact hp1
      · clear hf1 hp1 sm1 H1
        rintro σ H1 ⟨vs2, rfl, sm1, hf1, hp1, hb1⟩
        generalize L ++ (if a = u ∧ n < 0 then [(b, i)] else []) = L2 at hp1
        refine ⟨_, rfl, _, rfl, rfl, _, rfl, ite2 (fun c1 => ?_) (fun c1 => ?_)⟩
        · have c1 := (int_eq _ _).mp c1
          refine ⟨_, rfl, _, rfl, r, _, _, _, rfl, rfl, SqL.of (sm1 _ _ hrow), atI_nat (ints_get hn), _, _, rfl, rfl, _, rfl, ite2 (fun c2 => ?_) (fun c2 => ?_)⟩
          · have c2 := of_decide_eq_true c2
            refine ⟨_, rfl, .inl ⟨rfl, _, SqL.of hf1⟩, _, rfl, _, rfl, (by show 2 ≤ sizeLine; decide), fun z hz => ?_⟩
            have nlz : l ≠ z := ne_of_none hf1 hz
            refine ⟨l, _, _, rfl, rfl, by rw [upd_ne nlz]; exact hf1, small1000 (by omega), _, _, _, vs2 ++ [.ref z], rfl, fun c o e => ?_, upd_same, ?_, ?_⟩
            · rw [upd_ne (ne_of_none e hl), upd_ne (ne_of_none (sm1 _ _ e) hz)]
              exact sm1 _ _ e
            · rw [if_pos ⟨c1, c2⟩]
              have q1 : TiesAt (upd (upd H1 z (.tup [.int (a : Nat), .int (i : Nat)])) l (.lst (vs2 ++ [.ref z]))) vs2 L2 := ⟨hp1.1, fun j x y e => by
                obtain ⟨w1, w2, w3⟩ := hp1.2 j x y e
                refine ⟨w1, w2, ?_⟩
                rw [upd_ne (ne_of w3 hf1 (by intro z; cases z)), upd_ne (ne_of_none w3 hz)]
                exact w3⟩
              exact q1.snoc (by rw [upd_ne (Ne.symm nlz), upd_same])
            · rw [List.length_append, List.length_singleton]
              omega
          · refine ⟨_, _, _, vs2, rfl, sm1, hf1, ?_, by omega⟩
            rw [if_neg (fun z => c2 (decide_eq_true z.2)), List.append_nil]
            exact hp1
        · refine ⟨_, _, _, vs2, rfl, sm1, hf1, ?_, by omega⟩
          rw [if_neg (fun z => c1 ((int_eq _ _).mpr z.1)), List.append_nil]
          exact hp1
    · rintro σ H' ⟨y4, y5, y6, vs', rfl, sm, hf, hp, _⟩
      refine ⟨_, rfl, q H' l vs' sm hl hf ?_⟩
      rw [List.take_of_length_le (by rw [h3.1]; exact Nat.le_refl _), List.take_of_length_le (by rw [h3.1, hlen]; exact Nat.le_refl _)] at hp
      exact hp
end
end Nf
-- text NfG
set_option Elab.async false
set_option linter.all false
set_option maxRecDepth 100000
set_option maxHeartbeats 400000
namespace Nf
open PySem PySem.Spec PyProof.Rows L2 NfR
abbrev sLess : Stmt := top 20
theorem scLess : FnScope ["web", "row", "begin", "over", "came", "fresh", "met", "there", "tie", "found", "step"] ["web", "row", "begin", "over"] (defScope sLess) := ⟨rfl, rfl, rfl, by decide +kernel, rfl, by decide +kernel, by decide +kernel⟩

/-! ### the dict of what was met -/
abbrev natV (n : Nat) : V := .int (n : Int)
def StepV (H : Hp) (x : V) : Option (Nat × Nat) → Prop
  | none => x = .non
  | some (u, t) => ∃ q, x = .ref q ∧ H q = some (.tup [natV u, natV t])
inductive CameAt (H : Hp) : List (Key × V) → Met → Prop
  | nil : CameAt H [] []
  | cons {k : Key} {x : V} {v : Nat} {o : Option (Nat × Nat)} {kvs : List (Key × V)} {L : Met} (e : k = .inl (v : Int)) (s : StepV H x o) (r : CameAt H kvs L) : CameAt H ((k, x) :: kvs) ((v, o) :: L)
def look (L : Met) (v : Nat) : Option (Option (Nat × Nat)) := (L.find? fun e => decide (e.1 = v)).map (·.2)
def Tups (H H' : Hp) : Prop := ∀ q xs, H q = some (.tup xs) → H' q = some (.tup xs)
theorem StepV.tups {H H' : Hp} (s : Tups H H') {x : V} {o : Option (Nat × Nat)} (h : StepV H x o) : StepV H' x o := by
  cases o with
  | none => exact h
  | some ut => obtain ⟨u, t⟩ := ut; obtain ⟨q, e, g⟩ := h; exact ⟨q, e, s _ _ g⟩
theorem CameAt.tups {H H' : Hp} (s : Tups H H') {kvs : List (Key × V)} {L : Met} (h : CameAt H kvs L) : CameAt H' kvs L := by
  induction h with
  | nil => exact .nil
  | cons e g r ih => exact .cons e (g.tups s) ih
theorem CameAt.snoc {H : Hp} {kvs : List (Key × V)} {L : Met} {x : V} {v : Nat} {o : Option (Nat × Nat)} (h : CameAt H kvs L) (s : StepV H x o) : CameAt H (kvs ++ [(.inl (v : Int), x)]) (L ++ [(v, o)]) := by
  induction h with
  | nil => exact .cons rfl s .nil
  | cons e g r ih => exact .cons e g ih
theorem CameAt.len {H : Hp} {kvs : List (Key × V)} {L : Met} (h : CameAt H kvs L) : kvs.length = L.length := by
  induction h with
  | nil => rfl
  | cons e g r ih => rw [List.length_cons, List.length_cons, ih]
theorem key_nat (a b : Nat) : ((Sum.inl (a : Int) : Key) = Sum.inl (b : Int)) ↔ a = b := by
  constructor
  · intro h
    have := Sum.inl.inj h
    omega
  · intro h
    rw [h]
theorem CameAt.val {H : Hp} {kvs : List (Key × V)} {L : Met} (h : CameAt H kvs L) (v : Nat) :
    (look L v = none → valV kvs (.inl (v : Int)) = none) ∧ ∀ o, look L v = some o → ∃ x, valV kvs (.inl (v : Int)) = some x ∧ StepV H x o := by
  induction h with
  | nil => exact ⟨fun _ => rfl, fun o e => (by cases e)⟩
  | @cons k x w p kvs L e g r ih =>
    subst e
    by_cases c : w = v
    · subst c
      have e1 : look ((w, p) :: L) w = some p := by
        unfold look
        rw [List.find?_cons_of_pos (by simp)]
        rfl
      have e2 : valV ((Sum.inl (w : Int), x) :: kvs) (.inl (w : Int)) = some x := valV_pos (p := ((Sum.inl (w : Int) : Key), x)) rfl
      rw [e1, e2]
      exact ⟨fun z => (by cases z), fun o z => (by cases z; exact ⟨x, rfl, g⟩)⟩
    · have e1 : look ((w, p) :: L) v = look L v := by
        unfold look
        rw [List.find?_cons_of_neg (by simp [c])]
      have e2 : valV ((Sum.inl (w : Int), x) :: kvs) (.inl (v : Int)) = valV kvs (.inl (v : Int)) := valV_neg (p := ((Sum.inl (w : Int) : Key), x)) fun z => c ((key_nat _ _).mp z)
      rw [e1, e2]
      exact ih
theorem look_none {v : Nat} : ∀ {L : Met}, v ∉ L.map (·.1) → look L v = none
  | [], _ => rfl
  | (w, p) :: L, h => by
    have h1 : ¬ w = v := fun z => h (by rw [← z]; exact List.mem_cons_self ..)
    unfold look
    rw [List.find?_cons_of_neg (by simp [h1])]
    exact look_none (L := L) fun z => h (List.mem_cons_of_mem _ z)
theorem look_mem {v : Nat} : ∀ {L : Met}, v ∈ L.map (·.1) → ∃ o, look L v = some o
  | [], h => by cases h
  | (w, p) :: L, h => by
    by_cases c : w = v
    · refine ⟨p, ?_⟩
      unfold look
      rw [List.find?_cons_of_pos (by simp [c])]
      rfl
    · have h2 : v ∈ L.map (·.1) := (List.mem_cons.mp h).elim (fun z => absurd z.symm c) id
      obtain ⟨o, e⟩ := look_mem (L := L) h2
      refine ⟨o, ?_⟩
      unfold look
      rw [List.find?_cons_of_neg (by simp [c])]
      exact e
theorem look_at {v : Nat} {o : Option (Nat × Nat)} : ∀ {L : Met} {j : Nat}, (L.map (·.1)).Nodup → L[j]? = some (v, o) → look L v = some o
  | [], j, _, h => by simp at h
  | (w, p) :: L, 0, _, h => by
    have e : (w, p) = (v, o) := Option.some.inj h
    cases e
    unfold look
    rw [List.find?_cons_of_pos (by simp)]
    rfl
  | (w, p) :: L, j + 1, hn, h => by
    obtain ⟨h1, h2⟩ := List.nodup_cons.mp (show (w :: L.map (·.1)).Nodup from hn)
    have h3 : L[j]? = some (v, o) := by simpa using h
    have c : ¬ w = v := fun z => h1 (by rw [z]; exact List.mem_map.mpr ⟨(v, o), List.mem_of_getElem? h3, rfl⟩)
    unfold look
    rw [List.find?_cons_of_neg (by simp [c])]
    exact look_at (L := L) h2 h3
theorem meet_old {L : Met} {u v t : Nat} (h : v ∈ L.map (·.1)) : meet L u v t = L := by unfold meet; rw [if_pos h]
theorem meet_fresh {L : Met} {u v t : Nat} (h : v ∉ L.map (·.1)) : meet L u v t = L ++ [(v, some (u, t))] := by unfold meet; rw [if_neg h]

/-- what stands: the dict at c, the list at f -/
structure Stand (H : Hp) (c f : Addr) (L : Met) : Prop where
  ct : ∃ kvs, H c = some (.dK kvs) ∧ CameAt H kvs L
  fr : H f = some (.lst (L.map fun e => natV e.1))
theorem fresh_at {L : Met} {j v : Nat} {o : Option (Nat × Nat)} (h : L[j]? = some (v, o)) : (L.map fun e => natV e.1)[j]? = some (natV v) := by rw [List.getElem?_map, h]; rfl
theorem Stand.same {H H' : Hp} {c f : Addr} {L : Met} (s : Same H H') (h : Stand H c f L) : Stand H' c f L := by
  obtain ⟨⟨kvs, h1, h2⟩, h3⟩ := h
  exact ⟨⟨kvs, s _ _ h1, h2.tups fun q xs e => s _ _ e⟩, s _ _ h3⟩
/-- one place more -/
theorem Stand.more {H : Hp} {c f q : Addr} {L : Met} {kvs : List (Key × V)} {u v t : Nat} (hc : H c = some (.dK kvs)) (hk : CameAt H kvs L) (hf : H f = some (.lst (L.map fun e => natV e.1))) (hq : H q = none) :
    Stand (upd (upd (upd H q (.tup [natV u, natV t])) c (.dK (kvs ++ [(.inl (v : Int), .ref q)]))) f (.lst ((L.map fun e => natV e.1) ++ [natV v]))) c f (L ++ [(v, some (u, t))]) := by
  have ncf : c ≠ f := ne_of hc hf (by intro z; cases z)
  have ncq : c ≠ q := ne_of_none hc hq
  have nfq : f ≠ q := ne_of_none hf hq
  refine ⟨⟨kvs ++ [(.inl (v : Int), .ref q)], ?_, ?_⟩, ?_⟩
  · rw [upd_ne ncf, upd_same]
  · have tu : Tups H (upd (upd (upd H q (.tup [natV u, natV t])) c (.dK (kvs ++ [(.inl (v : Int), .ref q)]))) f (.lst ((L.map fun e => natV e.1) ++ [natV v]))) := fun b xs e => by
      rw [upd_ne (ne_of e hf (by intro z; cases z)), upd_ne (ne_of e hc (by intro z; cases z)), upd_ne (ne_of_none e hq)]
      exact e
    refine (hk.tups tu).snoc ⟨q, rfl, ?_⟩
    rw [upd_ne (Ne.symm nfq), upd_ne (Ne.symm ncq), upd_same]
  · rw [upd_same, List.map_append]
    rfl
/-- all but c and f stands as it stood -/
def Keep2 (c f : Addr) (H H' : Hp) : Prop := ∀ b o, b ≠ c → b ≠ f → H b = some o → H' b = some o

def spLess (K : PySem.W.Frag) : Sp := fun vs H Q _ => ∃ p m ties r ns u ov, vs = [.ref p, .ref r, .int (u : Nat), .ref ov] ∧ WebAt H p m ties ∧ Web m ties ∧ H r = some (.lst (ns.map V.int)) ∧ ns.length = ties.length ∧ H ov = some (.lst ((come m ties ns).map V.int)) ∧ u < m ∧ 0 < net ties ns u ∧
  ∀ H' l back tgt, Same H H' → H l = none → H' l = some (.lst (back.map natV)) → Way ties ns tgt u back → net ties ns tgt < 0 → Q (.ref l) H'

theorem nexts_at {u i a b : Nat} {ties : Ties} {ns : List Int} (h : (nexts u 0 ties ns)[i]? = some (a, b)) : Edge ties ns u b a := by
  obtain ⟨j, e, h⟩ := (nexts_mem 0 ties ns).mp (List.mem_of_getElem? h)
  rw [e, Nat.zero_add]
  exact h
section
variable {P : Program} {w : World} {K : PySem.W.Frag} {mg : Str → Option Value} {base : Heap}
theorem can_less (D : Stands K mg "ties_to_less" sLess ["web", "row", "begin", "over"]) (B : Blt mg) (cN : Can P w K mg base 1 "next_places" (spNext K)) : Can P w K mg base 2 "ties_to_less" (spLess K) := by
  refine D.can scLess (fun vs H Q E h => ?_) (fun f cdv A outer s H vs Q E hr h => ?_)
  · obtain ⟨p, m, ties, r, ns, u, ov, rfl, _⟩ := h
    rfl
  · obtain ⟨p, m, ties, r, ns, u, ov, rfl, hW, W, hrow, hlen, hov, um, upos, q⟩ := h
    have hu := hu_of hr
    have m5 := W.m5
    refine ⟨_, pss_cons (ps_set (i := 4) scLess.nd rfl (Or.inl rfl) (pe_disp (pps_cons (pv 2) pe_non pps_nil) (by rfl) (by rfl) (fun z => by cases z) (by decide)))
      (pss_cons (ps_set (i := 5) scLess.nd rfl (Or.inl rfl) (pe_lst (pa_cons (pv 2) pa_nil)))
      (pss_cons (ps_set (i := 6) scLess.nd rfl (Or.inl rfl) pe_int)
      (pss_cons (ps_while PassesOwn.never (pt_cmpR op_ge (pe_ix ix_list (pv 3) (pe_ix ix_list (pv 5) (pv 6) (fun _ _ => rfl)) (fun _ _ => rfl)) pe_int (nomark _))
        (pss_cons (ps_for PassesOwn.never rfl (pi_list (pcall cN hr (pa_cons (pv 0) (pa_cons (pv 1) (pa_cons (pe_ix ix_list (pv 5) (pv 6) (fun _ _ => rfl)) pa_nil)))))
            (pg_tup rfl (pgs_cons (pg_name (i := 7) scLess.nd rfl (.inl rfl)) (pgs_cons (pg_name (i := 8) scLess.nd rfl (.inl rfl)) pgs_nil)))
          (pss_one (ps_if (pt_cmp (pc_dnotin hu (pv 7) (pv 4)))
            (pss_cons (ps_dput hu (pv 4) (pv 7) (pe_tup (pa_cons (pe_ix ix_list (pv 5) (pv 6) (fun _ _ => rfl)) (pa_cons (pv 8) pa_nil))) rfl)
              (pss_one (ps_expr (pe_bm PySem.F.plainAttrs_list PySem.F.slot_list_append PySem.F.type_list_append mt_append (pv 5) (pa_cons (pv 7) pa_nil))))) pss_nil)))
          (pss_one (ps_set (i := 6) scLess.nd rfl (Or.inl rfl) (pe_op op_add (pv 6) pe_int)))))
      (pss_cons (ps_set (i := 9) scLess.nd rfl (Or.inl rfl) (pe_lst pa_nil))
      (pss_cons (ps_set (i := 10) scLess.nd rfl (Or.inl rfl) (pe_dget hu (pv 4) (pe_ix ix_list (pv 5) (pv 6) (fun _ _ => rfl)) (fun _ _ => rfl)))
      (pss_cons (ps_while PassesOwn.never (pt_cmp (pc_notN (pv 10)))
        (pss_cons (ps_expr (pe_bm PySem.F.plainAttrs_list PySem.F.slot_list_append PySem.F.type_list_append mt_append (pv 9) (pa_cons (pe_ix ix_tup (pv 10) pe_int (fun _ _ => rfl)) pa_nil)))
          (pss_one (ps_set (i := 10) scLess.nd rfl (Or.inl rfl) (pe_dget hu (pv 4) (pe_ix ix_tup (pv 10) pe_int (fun _ _ => rfl)) (fun _ _ => rfl))))))
      (pss_one (ps_ret (pv 9))))))))), ?_⟩
    -- came = {begin: None}; fresh = [begin]; met = 0
    refine fun c hc => ⟨_, rfl, upd_same, [(.inl (u : Int), .non)], rfl, (by show 1 ≤ 15; decide), ?_⟩
    rw [upd_upd]
    have hc0 : Same H (upd H c (.dK (mergeK [] [(.inl (u : Int), .non)]))) := same_new hc
    refine ⟨_, rfl, (by show 1 ≤ sizeLine; decide), fun fa hf => ?_⟩
    have hfa : H fa = none := hc0.free hf
    have s0 : Same H (upd (upd H c (.dK (mergeK [] [(.inl (u : Int), .non)]))) fa (.lst [natV u])) := hc0.trans (same_new hf)
    have st0 : Stand (upd (upd H c (.dK (mergeK [] [(.inl (u : Int), .non)]))) fa (.lst [natV u])) c fa [(u, none)] :=
      ⟨⟨_, same_new hf _ _ upd_same, .cons rfl rfl .nil⟩, upd_same⟩
    generalize upd (upd H c (.dK (mergeK [] [(.inl (u : Int), .non)]))) fa (.lst [natV u]) = H0 at s0 st0
    clear hc0 hf
    have ovat : ∀ {v : Nat}, v < m → atI ((come m ties ns).map V.int) (v : Int) = some (.int (net ties ns v)) := fun hv => atI_nat (ints_get (come_get W.fine ns hv))
    -- while over[fresh[met]] >= 0
    refine ⟨fun k σ H1 => ∃ L met y7 y8, k = m - met ∧ σ = [some (.ref p), some (.ref r), some (natV u), some (.ref ov), some (.ref c), some (.ref fa), some (natV met), y7, y8, none, none] ∧ Same H H1 ∧ Stand H1 c fa L ∧ Sound m ties ns u L ∧ Done ties ns L met,
      ⟨m - 0, [(u, none)], 0, none, none, rfl, rfl, s0, st0, Sound.start um, fun j _ _ hj _ => by omega⟩, ?_⟩
    rintro k σ H1 ⟨L, met, y7, y8, rfl, rfl, sm, st, so, dn⟩
    have ml := search_goes so dn upos
    obtain ⟨⟨v, o⟩, hv⟩ : ∃ e, L[met]? = some e := ⟨_, List.getElem?_eq_getElem ml⟩
    have vm : v < m := so.lt (v, o) (List.mem_of_getElem? hv)
    have Lm := so.len
    refine ⟨_, rfl, _, rfl, _, rfl, fa, _, _, _, rfl, rfl, SqL.of st.fr, atI_nat (fresh_at hv), ov, _, _, _, rfl, rfl, SqL.of (sm _ _ hov), ovat vm, _, _, rfl, rfl, _, rfl, ite2 (fun h0 => ?_) (fun h0 => ?_)⟩
    · have h0 := of_decide_eq_true h0
      refine ⟨fun σ' H' => ∃ L' y7 y8, σ' = [some (.ref p), some (.ref r), some (natV u), some (.ref ov), some (.ref c), some (.ref fa), some (natV (met + 1)), y7, y8, none, none] ∧ Same H H' ∧ Stand H' c fa L' ∧ Sound m ties ns u L' ∧ Done ties ns L' (met + 1), ?_, ?_⟩
      · rintro σ' H' ⟨L', z7, z8, e, x1, x2, x3, x4⟩
        exact ⟨m - (met + 1), by omega, L', met + 1, z7, z8, rfl, e, x1, x2, x3, x4⟩
      · -- for there, tie in next_places(web, row, fresh[met])
        refine ⟨_, rfl, _, rfl, _, rfl, _, rfl, fa, _, _, _, rfl, rfl, SqL.of st.fr, atI_nat (fresh_at hv), p, m, ties, r, ns, v, rfl, hW.same sm, W, sm _ _ hrow, hlen, fun H2 lv ts s2 hlv hL ht => ?_⟩
        have st2 := st.same s2
        have sm2 := sm.trans s2
        have lvf : lv ≠ fa := fun z => by rw [z, st.fr] at hlv; cases hlv
        have lvc : lv ≠ c := fun z => by obtain ⟨⟨kvs, g, _⟩, _⟩ := st; rw [z, g] at hlv; cases hlv
        refine ⟨lv, rfl, ⟨ts, SqL.of hL⟩, for_list (K := K) (a := lv) (xs := ts) (fun i σ' H' => ∃ L' y7 y8, σ' = [some (.ref p), some (.ref r), some (natV u), some (.ref ov), some (.ref c), some (.ref fa), some (natV met), y7, y8, none, none] ∧
            Same H H' ∧ Keep2 c fa H2 H' ∧ Stand H' c fa L' ∧ Sound m ties ns u L' ∧ Done ties ns L' met ∧ L'[met]? = some (v, o) ∧ ∀ j a b, j < i → (nexts v 0 ties ns)[j]? = some (a, b) → a ∈ L'.map (·.1))
          ⟨L, y7, y8, rfl, sm2, fun _ _ _ _ e => e, st2, so, dn, hv, fun j _ _ hj _ => by omega⟩ (fun i σ' H' _ ⟨_, _, _, _, _, kp, _⟩ => SqL.of (kp _ _ lvc lvf hL)) ?_ ?_⟩
        · rintro i x σ' H' hx ⟨L', z7, z8, rfl, sm', kp, st', so', dn', hv', all⟩
          obtain ⟨rr, a, b, rfl, hn, hrr⟩ := ht.get hx
          have ed : Edge ties ns v b a := nexts_at hn
          have hrr' : H' rr = some (.tup [natV a, natV b]) := kp _ _ (by obtain ⟨⟨kvs, g, _⟩, _⟩ := st2; exact ne_of hrr g (by intro z; cases z)) (ne_of hrr st2.fr (by intro z; cases z)) hrr
          obtain ⟨⟨kvs, hck, hkl⟩, hfr⟩ := id st'
          have val := hkl.val a
          refine ⟨rr, [natV a, natV b], rfl, SqT.of hrr', rfl, _, _, rfl, _, _, rfl, rfl, ?_⟩
          refine ⟨_, rfl, _, rfl, c, _, rfl, DGet.k (k := Sum.inl (a : Int)) hck, _, rfl, ?_⟩
          by_cases am : a ∈ L'.map (·.1)
          · obtain ⟨o', eo⟩ := look_mem am
            obtain ⟨x', ex', _⟩ := val.2 o' eo
            rw [ex']
            refine iteF ⟨L', _, _, rfl, sm', kp, st', so', dn', hv', fun j a' b' hj e => ?_⟩
            by_cases q1 : j = i
            · subst q1
              rw [hn] at e
              cases e
              exact am
            · exact all j a' b' (by omega) e
          · have vn := val.1 (look_none am)
            rw [vn]
            have Lm' := so'.len
            have so2 := so'.meet W.fine hv' ed
            have lm2 := so2.len
            rw [meet_fresh am] at so2
            refine iteT ⟨_, rfl, _, rfl, fa, _, _, _, rfl, rfl, SqL.of hfr, atI_nat (fresh_at hv'), _, rfl, (by show 2 ≤ sizeLine; decide), fun z hz => ?_⟩
            have zc : c ≠ z := ne_of_none hck hz
            have zf : fa ≠ z := ne_of_none hfr hz
            have cf : c ≠ fa := ne_of hck hfr (by intro y; cases y)
            have hcz : (upd H' z (.tup [natV v, natV b])) c = some (.dK kvs) := by rw [upd_ne zc]; exact hck
            refine ⟨_, rfl, _, rfl, c, _, rfl, DPut.k (k := Sum.inl (a : Int)) hcz (by rw [hkl.len]; exact small1000 (by omega)), ?_⟩
            rw [putK_new _ vn]
            have hfz : (upd (upd H' z (.tup [natV v, natV b])) c (.dK (kvs ++ [(Sum.inl (a : Int), .ref z)]))) fa = some (.lst (L'.map fun e => natV e.1)) := by rw [upd_ne (Ne.symm cf), upd_ne zf]; exact hfr
            refine ⟨_, rfl, .inl ⟨rfl, _, SqL.of hfz⟩, _, rfl, fa, _, _, rfl, rfl, hfz, by rw [List.length_map]; exact small1000 (by omega), ?_⟩
            refine ⟨L' ++ [(a, some (v, b))], _, _, rfl, fun b' ob e => ?_, fun b' ob nc nf e => ?_, Stand.more hck hkl hfr hz, so2, ?_, ?_, fun j a' b' hj e => ?_⟩
            · rw [upd_ne (ne_of_none e hfa), upd_ne (ne_of_none e hc), upd_ne (ne_of_none (sm' _ _ e) hz)]
              exact sm' _ _ e
            · rw [upd_ne nf, upd_ne nc, upd_ne (ne_of_none (kp _ _ nc nf e) hz)]
              exact kp _ _ nc nf e
            · have := dn'.meet (u := v) (v := a) (t := b) (Nat.le_of_lt (List.getElem?_eq_some_iff.mp hv').1)
              rw [meet_fresh am] at this
              exact this
            · have := meet_keep (u := v) (v := a) (t := b) hv'
              rw [meet_fresh am] at this
              exact this
            · rw [List.map_append]
              by_cases q1 : j = i
              · subst q1
                rw [hn] at e
                cases e
                exact List.mem_append_right _ (List.mem_singleton.mpr rfl)
              · exact List.mem_append_left _ (all j a' b' (by omega) e)
        · -- met = met + 1
          rintro σ' H' ⟨L', z7, z8, rfl, sm', kp, st', so', dn', hv', all⟩
          refine ⟨_, rfl, _, _, rfl, rfl, L', z7, z8, rfl, sm', st', so', fun j w' o' hj hw => ?_⟩
          by_cases q1 : j < met
          · exact dn' j w' o' q1 hw
          · have q2 : j = met := by omega
            subst q2
            rw [hv'] at hw
            cases hw
            refine ⟨h0, fun t' v' ed => ?_⟩
            have mem : (v', t') ∈ nexts v 0 ties ns := (nexts_mem 0 ties ns).mpr ⟨t', by omega, ed⟩
            obtain ⟨j, hj⟩ := List.mem_iff_getElem?.mp mem
            exact all j v' t' (by rw [ht.1]; exact (List.getElem?_eq_some_iff.mp hj).1) hj
    · -- found = []; step = came[fresh[met]]
      have h0 : net ties ns v < 0 := Int.not_le.mp fun z => h0 (decide_eq_true z)
      refine ⟨Nat.zero_le _, fun l hl => ?_⟩
      have st1 := st.same (same_new (o := .lst []) hl)
      have sm1 := sm.trans (same_new (o := .lst []) hl)
      have lH : H l = none := sm.free hl
      have lf : fa ≠ l := ne_of_none st.fr hl
      have lc : c ≠ l := by obtain ⟨⟨kvs, g, _⟩, _⟩ := st; exact ne_of_none g hl
      have hl1 : (upd H1 l (.lst [])) l = some (.lst []) := upd_same
      generalize upd H1 l (.lst []) = H2 at st1 sm1 hl1
      obtain ⟨⟨kvs, hck, hkl⟩, hfr⟩ := st1
      obtain ⟨x, hx, hxs⟩ := (hkl.val v).2 o (look_at so.nd hv)
      have dg : DGet H2 c (natV v) (some x) := by
        rw [← hx]
        exact DGet.k (k := Sum.inl (v : Int)) hck
      refine ⟨_, rfl, _, rfl, _, rfl, fa, _, _, _, rfl, rfl, SqL.of hfr, atI_nat (fresh_at hv), c, x, rfl, dg, ?_⟩
      -- while step is not None
      refine ⟨fun j σ' H' => ∃ v' o' back x', σ' = [some (.ref p), some (.ref r), some (natV u), some (.ref ov), some (.ref c), some (.ref fa), some (natV met), y7, y8, some (.ref l), some x'] ∧
          Same H H' ∧ (∀ b ob, b ≠ l → H2 b = some ob → H' b = some ob) ∧ H' l = some (.lst (back.map natV)) ∧ L[j]? = some (v', o') ∧ StepV H2 x' o' ∧ Back ties ns L v j back ∧ back.length + j ≤ L.length,
        ⟨met, v, o, [], x, rfl, sm1, fun _ _ _ e => e, hl1, hv, hxs, Back.start hv, (by show 0 + met ≤ L.length; omega)⟩, ?_⟩
      rintro j σ' H' ⟨v', o', back, x', rfl, sm', kp, hl', hj, hxs', bk, bl⟩
      refine ⟨_, rfl, _, rfl, ite2 (fun hne => ?_) (fun hne => ?_)⟩
      · cases o' with
        | none =>
          have e : x' = .non := hxs'
          subst e
          cases hne
        | some ut =>
          obtain ⟨u', t'⟩ := ut
          obtain ⟨z, rfl, hz⟩ := hxs'
          have zl : z ≠ l := ne_of hz hl1 (by intro y; cases y)
          have hz' := kp _ _ zl hz
          obtain ⟨i, oi, hij, hi, bk2⟩ := bk.step so hj
          obtain ⟨y, hy, hys⟩ := (hkl.val u').2 oi (look_at so.nd hi)
          refine ⟨fun σ2 G2 => ∃ v' o' back x', σ2 = [some (.ref p), some (.ref r), some (natV u), some (.ref ov), some (.ref c), some (.ref fa), some (natV met), y7, y8, some (.ref l), some x'] ∧
              Same H G2 ∧ (∀ b ob, b ≠ l → H2 b = some ob → G2 b = some ob) ∧ G2 l = some (.lst (back.map natV)) ∧ L[i]? = some (v', o') ∧ StepV H2 x' o' ∧ Back ties ns L v i back ∧ back.length + i ≤ L.length,
            fun σ2 G2 e => ⟨i, hij, e⟩, ?_⟩
          refine ⟨_, rfl, .inl ⟨rfl, _, SqL.of hl'⟩, _, rfl, z, _, _, _, rfl, rfl, SqT.of hz', atI1, l, _, _, rfl, rfl, hl', by rw [List.length_map]; exact small1000 (by omega), ?_⟩
          have dg2 : DGet (upd H' l (.lst (back.map natV ++ [natV t']))) c (natV u') (some y) := by
            rw [← hy]
            exact DGet.k (k := Sum.inl (u' : Int)) (by rw [upd_ne lc]; exact kp _ _ lc hck)
          refine ⟨_, rfl, _, rfl, z, _, _, _, rfl, rfl, SqT.of (by rw [upd_ne zl]; exact hz'), atI0, c, y, rfl, dg2, ?_⟩
          refine ⟨u', oi, back ++ [t'], y, rfl, fun b ob e => ?_, fun b ob nb e => ?_, ?_, hi, hys, bk2, ?_⟩
          · rw [upd_ne (ne_of_none e lH)]
            exact sm' _ _ e
          · rw [upd_ne nb]
            exact kp _ _ nb e
          · rw [upd_same, List.map_append]
            rfl
          · rw [List.length_append, List.length_singleton]
            omega
      · cases o' with
        | none => exact ⟨_, rfl, q H' l back v sm' lH hl' (bk.way so hj) h0⟩
        | some ut =>
          obtain ⟨u', t'⟩ := ut
          obtain ⟨z, rfl, hz⟩ := hxs'
          exact absurd rfl hne
end
end Nf
-- text NfH
set_option Elab.async false
set_option linter.all false
set_option maxRecDepth 100000
set_option maxHeartbeats 400000
namespace Nf
open PySem PySem.Spec PyProof.Rows L2 NfR
abbrev sWholeOf : Stmt := top 21
theorem scWholeOf : FnScope ["web", "k", "flow", "row", "over", "tie"] ["web", "k", "flow"] (defScope sWholeOf) := ⟨rfl, rfl, rfl, by decide +kernel, rfl, by decide +kernel, by decide +kernel⟩
def spWholeOf : Sp := fun vs H Q _ => ∃ p m ties k r ns, vs = [.ref p, .int k, .ref r] ∧ 2 ≤ k ∧ k ≤ 6 ∧ WebAt H p m ties ∧ Web m ties ∧ H r = some (.tup (ns.map V.int)) ∧ FlowOk m ties k ns ∧
  ∀ (H' : Hp) (l : Addr) (ns' : List Int), Same H H' → H l = none → H' l = some (.tup (ns'.map V.int)) → ns'.length = ties.length → Q (.ref l) H'

theorem first_at {M : Int} : ∀ {l : List Int}, M ∈ l → ∃ j : Nat, l[j]? = some M ∧ ∀ (i : Nat) (z : Int), i < j → l[i]? = some z → z ≠ M
  | [], h => by cases h
  | x :: r, h => by
    by_cases c : x = M
    · exact ⟨0, by rw [c]; rfl, fun i z hi _ => by omega⟩
    · have h2 : M ∈ r := (List.mem_cons.mp h).elim (fun z => absurd z.symm c) id
      obtain ⟨j, hj, hn⟩ := first_at h2
      refine ⟨j + 1, by simpa using hj, fun i z hi hz => ?_⟩
      cases i with
      | zero =>
        have : x = z := Option.some.inj hz
        rw [← this]
        exact c
      | succ i => exact hn i z (by omega) (by simpa using hz)
theorem turn_snoc (k : Int) (row : List Int) {l : List Nat} {i t : Nat} (h : l[i]? = some t) : turnAll k row (l.take (i + 1)) = turnAt k (turnAll k row (l.take i)) t := by
  rw [List.take_add_one, h]
  exact turnAll_snoc k row (l.take i) t

section
variable {P : Program} {w : World} {K : PySem.W.Frag} {mg : Str → Option Value} {base : Heap}
theorem can_wholeof (D : Stands K mg "whole_of" sWholeOf ["web", "k", "flow"]) (B : Blt mg) (cF : Can P w K mg base 6 "is_flow" spFlow) (cL : Can P w K mg base 2 "ties_to_less" (spLess K)) (cC : Can P w K mg base 1 "come_in" (spCome K)) :
    Can P w K mg base 7 "whole_of" spWholeOf := by
  refine D.can scWholeOf (fun vs H Q E h => ?_) (fun f cdv A outer s H vs Q E hr h => ?_)
  · obtain ⟨p, m, ties, k, r, ns, rfl, _⟩ := h
    rfl
  · obtain ⟨p, m, ties, k, r, ns, rfl, k2, k6, hW, W, hR, F, q⟩ := h
    have m1 := W.m1
    refine ⟨_, pss_cons (ps_if (pt_not (pt_val (pcall cF hr (pa_cons (pv 0) (pa_cons (pv 1) (pa_cons (pv 2) pa_nil)))))) pss_never pss_nil)
      (pss_cons (ps_set (i := 3) scWholeOf.nd rfl (Or.inl rfl) (pe_callTy call_list_of (by rfl) B.list (by decide +kernel) (pa_cons (pv 2) pa_nil)))
      (pss_cons (ps_set (i := 4) scWholeOf.nd rfl (Or.inl rfl) (pcall (cC.mono (by decide)) hr (pa_cons (pv 0) (pa_cons (pv 3) pa_nil))))
      (pss_cons (ps_while PassesOwn.never (pt_cmpR op_gt (pe_callB (cr_max rfl) (by rfl) B.max (by decide +kernel) (pa_cons (pv 4) pa_nil)) pe_int (nomark _))
        (pss_cons (ps_for PassesOwn.never rfl (pi_list (pcall (cL.mono (by decide)) hr (pa_cons (pv 0) (pa_cons (pv 3) (pa_cons (pe_bm PySem.F.plainAttrs_list PySem.F.slot_list_index PySem.F.type_list_index mt_index (pv 4) (pa_cons (pe_callB (cr_max rfl) (by rfl) B.max (by decide +kernel) (pa_cons (pv 4) pa_nil)) pa_nil)) (pa_cons (pv 4) pa_nil))))))
            (pg_name (i := 5) scWholeOf.nd rfl (.inl rfl))
          (pss_one (ps_if (pt_cmpR op_gt (pe_ix ix_list (pv 3) (pv 5) (fun _ _ => rfl)) pe_int (nomark _))
            (pss_one (ps_asg (pe_op op_sub (pe_ix ix_list (pv 3) (pv 5) (fun _ _ => rfl)) (pv 1)) (pg_sub (pv 3) (pv 5) set_list)))
            (pss_one (ps_asg (pe_op op_add (pe_ix ix_list (pv 3) (pv 5) (fun _ _ => rfl)) (pv 1)) (pg_sub (pv 3) (pv 5) set_list))))))
          (pss_one (ps_set (i := 4) scWholeOf.nd rfl (Or.inl rfl) (pcall (cC.mono (by decide)) hr (pa_cons (pv 0) (pa_cons (pv 3) pa_nil)))))))
      (pss_one (ps_ret (pe_callTy call_tuple_of (by rfl) B.tuple (by decide +kernel) (pa_cons (pv 3) pa_nil))))))), ?_⟩
    refine ⟨_, rfl, _, rfl, _, rfl, p, m, ties, k, r, ns, rfl, k2, k6, hW, W, hR, F, fun H1 s1 => ⟨true, rfl, iteF ?_⟩⟩
    -- row = list(flow); over = come_in(web, row)
    refine ⟨_, rfl, r, _, rfl, .inr (SqT.of (s1 _ _ hR)), fun row hrow => ?_⟩
    have s2 : Same H (upd H1 row (.lst (ns.map V.int))) := s1.trans (same_new hrow)
    have r0 : H row = none := s1.free hrow
    refine ⟨_, rfl, _, rfl, p, m, ties, row, false, ns, rfl, hW.same s2, W, SqL.of upd_same, fun H2 ov s3 hov hL => ?_⟩
    have s23 := s2.trans s3
    have hrow2 : H2 row = some (.lst (ns.map V.int)) := s3 _ _ upd_same
    -- while max(over) > 0
    refine ⟨fun μ σ G => ∃ (ns' : List Int) (o : Addr) (y5 : Option V), μ = much m ties ns' ∧ σ = [some (.ref p), some (.int k), some (.ref r), some (.ref row), some (.ref o), y5] ∧ Same H G ∧ G row = some (.lst (ns'.map V.int)) ∧ G o = some (.lst ((come m ties ns').map V.int)) ∧ ns'.length = ties.length ∧ ∀ x, k ∣ net ties ns' x,
      ⟨_, ns, ov, none, rfl, rfl, s23, hrow2, hL, F.len, fun x => rest_dvd W.fine ns F.even x⟩, ?_⟩
    rintro μ σ G ⟨ns', o, y5, rfl, rfl, sm, hg, ho, hlen, hd⟩
    refine ⟨_, rfl, o, _, rfl, SqL.of ho, by rw [come_length]; exact m1, fun M hM hle => ⟨_, _, rfl, rfl, _, rfl, ite2 (fun h0 => ?_) (fun h0 => ?_)⟩⟩
    · have h0 := of_decide_eq_true h0
      refine ⟨fun σ' G' => ∃ (ns2 : List Int) (o : Addr) (y5 : Option V), much m ties ns2 < much m ties ns' ∧ σ' = [some (.ref p), some (.int k), some (.ref r), some (.ref row), some (.ref o), y5] ∧ Same H G' ∧ G' row = some (.lst (ns2.map V.int)) ∧ G' o = some (.lst ((come m ties ns2).map V.int)) ∧ ns2.length = ties.length ∧ ∀ x, k ∣ net ties ns2 x, ?_, ?_⟩
      · rintro σ' G' ⟨ns2, o2, z5, lt, e⟩
        exact ⟨_, lt, ns2, o2, z5, rfl, e⟩
      · refine ⟨_, rfl, _, rfl, _, rfl, .inl ⟨rfl, _, SqL.of ho⟩, _, rfl, o, _, rfl, SqL.of ho, by rw [come_length]; exact m1, fun M2 hM2 hle2 => ?_⟩
        obtain ⟨j, hj, hfirst⟩ := first_at hM2
        have jm : j < m := by
          have := (List.getElem?_eq_some_iff.mp hj).1
          rwa [come_length] at this
        have ej : net ties ns' j = M2 := by
          rw [come_get W.fine ns' jm] at hj
          exact Option.some.inj hj
        have pos : 0 < net ties ns' j := by
          have := hle2 M hM
          omega
        refine ⟨o, _, _, j, .int M2, rfl, rfl, SqL.of ho, rfl, ints_flat _, ints_get hj, by show (M2 == M2) = true; exact beq_self_eq_true _, fun i z hi hz => ?_, ?_⟩
        · obtain ⟨n, hn, rfl⟩ := ints_of hz
          show (n == M2) = false
          exact beq_eq_false_iff_ne.mpr (hfirst i n hi hn)
        · refine ⟨_, rfl, p, m, ties, row, ns', j, o, rfl, hW.same sm, W, hg, hlen, ho, jm, pos, fun G1 lp back tgt sg hlp hLp way neg => ?_⟩
          have nrl : lp ≠ row := fun z => by rw [z, hg] at hlp; cases hlp
          have smg := sm.trans sg
          refine ⟨lp, rfl, ⟨_, SqL.of hLp⟩, for_list (K := K) (a := lp) (xs := back.map natV) (fun i σ' G' => ∃ y5, σ' = [some (.ref p), some (.int k), some (.ref r), some (.ref row), some (.ref o), y5] ∧ Same H G' ∧ G' lp = some (.lst (back.map natV)) ∧ G' row = some (.lst ((turnAll k ns' (back.take i)).map V.int)))
            ⟨y5, rfl, smg, hLp, sg _ _ hg⟩ (fun i σ' G' _ ⟨_, _, _, hl, _⟩ => SqL.of hl) ?_ ?_⟩
          · rintro i x σ' G' hx ⟨z5, rfl, sm', hl', hr'⟩
            rw [List.getElem?_map] at hx
            cases hb : back[i]? with
            | none => rw [hb] at hx; cases hx
            | some t =>
              rw [hb] at hx
              have ex : natV t = x := Option.some.inj hx
              subst ex
              have tl := way.inside t (List.mem_of_getElem? hb)
              have tl2 : t < (turnAll k ns' (back.take i)).length := by rw [turnAll_length]; exact tl
              rw [turn_snoc k ns' hb]
              generalize turnAll k ns' (back.take i) = rw' at hr' tl2
              have fin : ∀ (y : Int), y = (if 0 < rw'.getD t 0 then rw'.getD t 0 - k else rw'.getD t 0 + k) → ∃ y5, ([some (.ref p), some (.int k), some (.ref r), some (.ref row), some (.ref o), some (natV t)] : L2.St) = [some (.ref p), some (.int k), some (.ref r), some (.ref row), some (.ref o), y5] ∧
                  Same H (upd G' row (.lst ((rw'.map V.int).set t (.int y)))) ∧ (upd G' row (.lst ((rw'.map V.int).set t (.int y)))) lp = some (.lst (back.map natV)) ∧ (upd G' row (.lst ((rw'.map V.int).set t (.int y)))) row = some (.lst ((turnAt k rw' t).map V.int)) := by
                rintro y rfl
                refine ⟨_, rfl, fun b ob e => ?_, ?_, ?_⟩
                · rw [upd_ne (ne_of_none e r0)]
                  exact sm' _ _ e
                · rw [upd_ne nrl]
                  exact hl'
                · rw [upd_same, set_ints]
                  rfl
              refine ⟨_, rfl, _, rfl, row, _, _, _, rfl, rfl, SqL.of hr', at_ints tl2, _, _, rfl, rfl, _, rfl, ite2 (fun hp => ?_) (fun hp => ?_)⟩
              · have hp := of_decide_eq_true hp
                exact ⟨_, rfl, _, rfl, row, _, _, _, rfl, rfl, SqL.of hr', at_ints tl2, _, rfl, _, _, rfl, rfl, _, rfl, _, rfl, row, _, _, t, rfl, rfl, hr', ixN_nat (by rw [List.length_map]; exact tl2), fin _ (by rw [if_pos hp])⟩
              · have hp := fun z => hp (decide_eq_true z)
                exact ⟨_, rfl, _, rfl, row, _, _, _, rfl, rfl, SqL.of hr', at_ints tl2, _, rfl, _, _, rfl, rfl, _, rfl, _, rfl, row, _, _, t, rfl, rfl, hr', ixN_nat (by rw [List.length_map]; exact tl2), fin _ (by rw [if_neg hp])⟩
          · rintro σ' G' ⟨z5, rfl, sm', hl', hr'⟩
            rw [List.length_map, List.take_length] at hr'
            refine ⟨_, rfl, _, rfl, p, m, ties, row, false, turnAll k ns' back, rfl, hW.same sm', W, SqL.of hr', fun G2 o2 s4 ho2 hL2 => ?_⟩
            exact ⟨turnAll k ns' back, o2, z5, much_less way (by omega) jm pos neg (hd tgt), rfl, sm'.trans s4, s4 _ _ hr', hL2, by rw [turnAll_length]; exact hlen, turn_dvd way hd⟩
    · refine ⟨_, rfl, row, _, rfl, .inl ⟨SqL.of hg, fun l hl => ?_⟩⟩
      exact q _ l ns' (sm.trans (same_new hl)) (sm.free hl) upd_same hlen
end
end Nf
-- text NfI
set_option Elab.async false
set_option linter.all false
set_option maxRecDepth 100000
set_option maxHeartbeats 400000
namespace Nf
open PySem PySem.Spec PyProof.Rows L2 NfR
abbrev sCell : Stmt := top 23
abbrev sPot : Stmt := top 24
abbrev sTake : Stmt := top 25
abbrev sPair : Stmt := top 27
theorem scCell : FnScope ["_law_script", "_law_k"] ["_law_script", "_law_k"] (defScope sCell) := ⟨rfl, rfl, rfl, by decide +kernel, rfl, by decide +kernel, by decide +kernel⟩
theorem scPot : FnScope ["_law_cell", "_law_number", "_law_j", "_law_more"] ["_law_cell"] (defScope sPot) := ⟨rfl, rfl, rfl, by decide +kernel, rfl, by decide +kernel, by decide +kernel⟩
theorem scTake : FnScope ["_law_pot_here", "_law_far", "_law_found"] ["_law_pot_here", "_law_far"] (defScope sTake) := ⟨rfl, rfl, rfl, by decide +kernel, rfl, by decide +kernel, by decide +kernel⟩
theorem scPair : FnScope ["_law_pot_here", "_law_many", "_law_one", "_law_other"] ["_law_pot_here", "_law_many"] (defScope sPair) := ⟨rfl, rfl, rfl, by decide +kernel, rfl, by decide +kernel, by decide +kernel⟩

/-! ### the pot, and what stays while it is drawn from -/
def PotAt (H : Hp) (pot : Addr) : Prop := ∃ n : Int, H pot = some (.lst [.int n])
structure Move (pot : Addr) (H H' : Hp) : Prop where
  keep : ∀ b o, b ≠ pot → H b = some o → H' b = some o
  pot : PotAt H' pot
theorem Move.refl {pot : Addr} {H : Hp} (p : PotAt H pot) : Move pot H H := ⟨fun _ _ _ e => e, p⟩
theorem Move.trans {pot : Addr} {H H1 H2 : Hp} (a : Move pot H H1) (b : Move pot H1 H2) : Move pot H H2 := ⟨fun c o n e => b.keep c o n (a.keep c o n e), b.pot⟩
theorem Move.then {pot : Addr} {H H1 H2 : Hp} (a : Move pot H H1) (b : Same H1 H2) : Move pot H H2 := ⟨fun c o n e => b _ _ (a.keep c o n e), let ⟨n, e⟩ := a.pot; ⟨n, b _ _ e⟩⟩
theorem Move.of {pot : Addr} {H H1 : Hp} (p : PotAt H pot) (b : Same H H1) : Move pot H H1 := (Move.refl p).then b
/-- what is free behind was free ahead -/
theorem Move.free {pot : Addr} {H H1 : Hp} (p : PotAt H pot) (a : Move pot H H1) {l : Addr} (h : H1 l = none) : H l = none := by
  cases c : H l with
  | none => rfl
  | some o =>
    by_cases e : l = pot
    · subst e
      obtain ⟨n, g⟩ := a.pot
      rw [g] at h
      cases h
    · rw [a.keep l o e c] at h
      cases h
/-- tuples and dicts stand, lists are lists -/
structure Weak (H H' : Hp) : Prop where
  tup : ∀ b xs, H b = some (.tup xs) → H' b = some (.tup xs)
  lst : ∀ b xs, H b = some (.lst xs) → ∃ ys, H' b = some (.lst ys)
  dK : ∀ b kvs, H b = some (.dK kvs) → H' b = some (.dK kvs)
theorem Weak.trans {H H1 H2 : Hp} (a : Weak H H1) (b : Weak H1 H2) : Weak H H2 :=
  ⟨fun c xs e => b.tup c xs (a.tup c xs e), fun c xs e => let ⟨ys, g⟩ := a.lst c xs e; b.lst c ys g, fun c kvs e => b.dK c kvs (a.dK c kvs e)⟩
theorem Same.weak {H H' : Hp} (s : Same H H') : Weak H H' := ⟨fun b xs e => s _ _ e, fun b xs e => ⟨xs, s _ _ e⟩, fun b kvs e => s _ _ e⟩
theorem Move.weak {pot : Addr} {H H' : Hp} (p : PotAt H pot) (a : Move pot H H') : Weak H H' := by
  obtain ⟨n, hn⟩ := p
  refine ⟨fun b xs e => a.keep b _ (ne_of e hn (by intro z; cases z)) e, fun b xs e => ?_, fun b kvs e => a.keep b _ (ne_of e hn (by intro z; cases z)) e⟩
  by_cases c : b = pot
  · subst c
    obtain ⟨k, hk⟩ := a.pot
    exact ⟨_, hk⟩
  · exact ⟨xs, a.keep b _ c e⟩
/-- a list is written: all else stands -/
theorem weak_upd {H : Hp} {l : Addr} {xs ys : List V} (h : H l = some (.lst xs)) : Weak H (upd H l (.lst ys)) := by
  refine ⟨fun b zs e => ?_, fun b zs e => ?_, fun b kvs e => ?_⟩
  · rw [upd_ne (ne_of e h (by intro z; cases z))]; exact e
  · by_cases c : b = l
    · subst c; exact ⟨ys, upd_same⟩
    · exact ⟨zs, by rw [upd_ne c]; exact e⟩
  · rw [upd_ne (ne_of e h (by intro z; cases z))]; exact e
theorem Item.weak {H H' : Hp} (s : Weak H H') {v : V} {o : Option Int} (h : Item H v o) : Item H' v o := by
  cases h with
  | int i => exact .int i
  | bl b => exact .bl b
  | non => exact .non
  | str x => exact .str x
  | lst e => obtain ⟨ys, g⟩ := s.lst _ _ e; exact .lst g
  | tup e => exact .tup (s.tup _ _ e)
  | dK e => exact .dK (s.dK _ _ e)
theorem Items.weak {H H' : Hp} (s : Weak H H') {xs : List V} {l : List (Option Int)} (h : Items H xs l) : Items H' xs l :=
  ⟨h.len, h.few, fun i x e => let ⟨o, h1, h2⟩ := h.it i x e; ⟨o, h1, h2.weak s⟩⟩
theorem Thing.weak {H H' : Hp} (s : Weak H H') {v : V} {d : Option (List (Option Int))} (h : Thing H v d) : Thing H' v d := by
  cases h with
  | tup e h => exact .tup (s.tup _ _ e) (h.weak s)
  | non => exact .non
  | str x => exact .str x
  | lst e => obtain ⟨ys, g⟩ := s.lst _ _ e; exact .lst g
  | dK e => exact .dK (s.dK _ _ e)
theorem TiesAt.weak {H H' : Hp} (s : Weak H H') {vs : List V} {ties : Ties} (h : TiesAt H vs ties) : TiesAt H' vs ties :=
  ⟨h.1, fun i a b e => let ⟨r, h1, h2⟩ := h.2 i a b e; ⟨r, h1, s.tup _ _ h2⟩⟩
theorem WebAt.weak {H H' : Hp} (s : Weak H H') {p : Addr} {m : Nat} {ties : Ties} (h : WebAt H p m ties) : WebAt H' p m ties :=
  let ⟨tt, vs, h1, h2, h3⟩ := h; ⟨tt, vs, s.tup _ _ h1, s.tup _ _ h2, h3.weak s⟩

/-! ### what the law's small defs promise -/
def spCell (K : PySem.W.Frag) : Sp := fun vs H Q _ => ∃ (a : Addr) (ns : List Int) (k : Int), vs = [.ref a, .int k] ∧ 0 ≤ k ∧ SqL K H a (ns.map V.int) ∧ ∀ n : Int, Q (.int n) H
def spPot : Sp := fun vs H Q _ => ∃ c : Int, vs = [.int c] ∧ ∀ (H' : Hp) (p : Addr) (n : Int), Same H H' → H p = none → H' p = some (.lst [.int n]) → Q (.ref p) H'
def spTake : Sp := fun vs H Q _ => ∃ (pot : Addr) (far : Int), vs = [.ref pot, .int far] ∧ PotAt H pot ∧ 0 < far ∧ far ≤ 1000 ∧ ∀ (H' : Hp) (x : Int), Move pot H H' → 0 ≤ x → x < far → Q (.int x) H'
def spPair : Sp := fun vs H Q _ => ∃ (pot : Addr) (m : Nat), vs = [.ref pot, .int (m : Int)] ∧ PotAt H pot ∧ 2 ≤ m ∧ m ≤ 5 ∧ ∀ (H' : Hp) (p : Addr) (a b : Nat), Move pot H H' → H p = none → H' p = some (.tup [.int (a : Int), .int (b : Int)]) → a < b → b < m → Q (.ref p) H'

section
variable {P : Program} {w : World} {K : PySem.W.Frag} {mg : Str → Option Value} {base : Heap}
theorem can_take (D : Stands K mg "_law_take" sTake ["_law_pot_here", "_law_far"]) : Can P w K mg base 1 "_law_take" spTake := by
  refine D.can scTake (fun vs H Q E h => ?_) (fun f cdv A outer s H vs Q E hr h => ?_)
  · obtain ⟨pot, far, rfl, _⟩ := h
    rfl
  · obtain ⟨pot, far, rfl, ⟨n, hn⟩, f0, f1, q⟩ := h
    refine ⟨_, pss_cons (ps_set (i := 2) scTake.nd rfl (Or.inl rfl) (pe_op op_mod (pe_ix ix_list (pv 0) pe_int (fun _ _ => rfl)) (pv 1)))
      (pss_cons (ps_asg (pe_op op_fdiv (pe_ix ix_list (pv 0) pe_int (fun _ _ => rfl)) (pv 1)) (pg_sub (pv 0) pe_int set_list)) (pss_one (ps_ret (pv 2)))), ?_⟩
    refine ⟨_, rfl, pot, _, _, _, rfl, rfl, SqL.of hn, atI0, _, rfl, _, _, rfl, rfl, f0, ?_⟩
    refine ⟨_, rfl, pot, _, _, _, rfl, rfl, SqL.of hn, atI0, _, rfl, _, _, rfl, rfl, ⟨f0, by omega⟩, _, rfl, pot, _, _, 0, rfl, rfl, hn, rfl, ?_⟩
    refine ⟨_, rfl, q _ _ ⟨fun b o nb e => by rw [upd_ne nb]; exact e, n / far, upd_same⟩ (Int.emod_nonneg _ (by omega)) (Int.emod_lt_of_pos _ f0)⟩
theorem can_cell (D : Stands K mg "_law_cell_at" sCell ["_law_script", "_law_k"]) (B : Blt mg) : Can P w K mg base 1 "_law_cell_at" (spCell K) := by
  refine D.can scCell (fun vs H Q E h => ?_) (fun f cdv A outer s H vs Q E hr h => ?_)
  · obtain ⟨a, ns, k, rfl, _⟩ := h
    rfl
  · obtain ⟨a, ns, k, rfl, k0, hS, q⟩ := h
    refine ⟨_, pss_cons (ps_if (pt_cmpR op_lt (pv 1) (pe_callB call_len_seq (by rfl) B.len PySem.boot_len (pa_cons (pv 0) pa_nil)) (nomark _)) (pss_one (ps_ret (pe_ix ix_list (pv 0) (pv 1) (fun _ _ => rfl)))) pss_nil) (pss_one (ps_ret pe_int)), ?_⟩
    refine ⟨_, rfl, _, rfl, a, _, rfl, .inl hS, _, _, rfl, rfl, _, rfl, ite2 (fun c => ?_) (fun c => q 0)⟩
    have c : k < ((ns.map V.int).length : Nat) := of_decide_eq_true c
    rw [List.length_map] at c
    have c : k.toNat < ns.length := by omega
    have g := atI_nat (ints_get (List.getElem?_eq_getElem c))
    rw [Int.toNat_of_nonneg k0] at g
    exact ⟨_, rfl, _, rfl, a, _, _, _, rfl, rfl, hS, g, q _⟩
theorem can_pot (D : Stands K mg "_law_pot" sPot ["_law_cell"]) (B : Blt mg) : Can P w K mg base 1 "_law_pot" spPot := by
  refine D.can scPot (fun vs H Q E h => ?_) (fun f cdv A outer s H vs Q E hr h => ?_)
  · obtain ⟨c, rfl, _⟩ := h
    rfl
  · obtain ⟨c, rfl, q⟩ := h
    refine ⟨_, pss_cons (ps_if (pt_cmpR op_ge (pv 0) (pe_op op_pow pe_int pe_int) (nomark _)) (pss_one (ps_ret (pe_lst (pa_cons (pe_op op_sub (pv 0) (pe_op op_pow pe_int pe_int)) pa_nil)))) pss_nil)
      (pss_cons (ps_set (i := 1) scPot.nd rfl (Or.inl rfl) pe_int)
      (pss_cons (ps_for PassesOwn.never rfl (pi_range1 rfl B.range (pa_cons pe_int pa_nil)) (pg_name (i := 2) scPot.nd rfl (.inl rfl))
        (pss_cons (ps_set (i := 3) scPot.nd rfl (Or.inl rfl) (pe_op op_mod (pe_op op_mul (pe_op op_add (pe_op op_add (pe_op op_mod (pv 0) pe_int) (pe_op op_mul pe_int (pv 2))) pe_int) pe_int) pe_int))
        (pss_cons (ps_set (i := 3) scPot.nd rfl (Or.inl rfl) (pe_op op_mod (pe_op op_add (pe_op op_add (pe_op op_mul (pv 3) (pv 3)) (pe_op op_mul pe_int (pv 2))) pe_int) pe_int))
        (pss_one (ps_set (i := 1) scPot.nd rfl (Or.inl rfl) (pe_op op_add (pe_op op_mul (pv 1) pe_int) (pv 3)))))))
      (pss_one (ps_ret (pe_lst (pa_cons (pv 1) pa_nil)))))), ?_⟩
    refine ⟨_, rfl, _, _, rfl, rfl, ⟨by decide, by decide, by decide⟩, _, _, rfl, rfl, _, rfl, ite2 (fun hc => ?_) (fun hc => ?_)⟩
    · refine ⟨_, rfl, _, _, rfl, rfl, ⟨by decide, by decide, by decide⟩, _, _, rfl, rfl, (by show 1 ≤ sizeLine; decide), fun z hz => q _ z _ (same_new hz) hz upd_same⟩
    · refine ⟨64, rfl, by decide, by decide, for_range (n := 64) (fun i σ H' => H' = H ∧ ∃ (n : Int) (y2 y3 : Option V), σ = [some (.int c), some (.int n), y2, y3]) ⟨rfl, 0, none, none, rfl⟩ ?_ ?_⟩
      · rintro i σ H' hi ⟨rfl, n, y2, y3, rfl⟩
        refine ⟨_, rfl, _, _, rfl, rfl, (by show (0 : Int) < 2147483629; decide), _, rfl, _, _, rfl, rfl, .inl ⟨by decide, by decide⟩, _, _, rfl, rfl, _, _, rfl, rfl, _, _, rfl, rfl, .inr ⟨by decide, by decide⟩, _, _, rfl, rfl, (by show (0 : Int) < 2147483647; decide), ?_⟩
        generalize hg : ((c % 2147483629 + 7919 * (0 + (i : Int)) + 1) * 48271) % 2147483647 = g
        have g0 : 0 ≤ g := by rw [← hg]; exact Int.emod_nonneg _ (by decide)
        have g1 : g < 2147483647 := by rw [← hg]; exact Int.emod_lt_of_pos _ (by decide)
        refine ⟨_, rfl, _, rfl, _, _, rfl, rfl, .inl ⟨by omega, by omega⟩, _, rfl, _, _, rfl, rfl, .inl ⟨by decide, by decide⟩, _, _, rfl, rfl, _, _, rfl, rfl, _, _, rfl, rfl, (by show (0 : Int) < 2147483587; decide), ?_⟩
        refine ⟨_, rfl, _, _, rfl, rfl, .inr ⟨by decide, by decide⟩, _, rfl, _, _, rfl, rfl, rfl, _, _, _, rfl⟩
      · rintro σ H' ⟨rfl, n, y2, y3, rfl⟩
        exact ⟨_, rfl, (by show 1 ≤ sizeLine; decide), fun z hz => q _ z _ (same_new hz) hz upd_same⟩
theorem pair_lt {x y m : Int} (hx : 0 ≤ x) (hx2 : x < m) (hy : 0 ≤ y) (hy2 : y < m - 1) : (x + 1 + y) % m ≠ x ∧ 0 ≤ (x + 1 + y) % m ∧ (x + 1 + y) % m < m := by
  refine ⟨?_, Int.emod_nonneg _ (by omega), Int.emod_lt_of_pos _ (by omega)⟩
  by_cases c : x + 1 + y < m
  · rw [Int.emod_eq_of_lt (by omega) c]
    omega
  · have e : (x + 1 + y) % m = x + 1 + y - m := by
      rw [← Int.sub_emod_right, Int.emod_eq_of_lt (by omega) (by omega)]
    rw [e]
    omega
theorem can_pair (D : Stands K mg "_law_pair" sPair ["_law_pot_here", "_law_many"]) (B : Blt mg) (cT : Can P w K mg base 1 "_law_take" spTake) : Can P w K mg base 2 "_law_pair" spPair := by
  refine D.can scPair (fun vs H Q E h => ?_) (fun f cdv A outer s H vs Q E hr h => ?_)
  · obtain ⟨pot, m, rfl, _⟩ := h
    rfl
  · obtain ⟨pot, m, rfl, hp, m2, m5, q⟩ := h
    refine ⟨_, pss_cons (ps_set (i := 2) scPair.nd rfl (Or.inl rfl) (pcall cT hr (pa_cons (pv 0) (pa_cons (pv 1) pa_nil))))
      (pss_cons (ps_set (i := 3) scPair.nd rfl (Or.inl rfl) (pe_op op_mod (pe_op op_add (pe_op op_add (pv 2) pe_int) (pcall cT hr (pa_cons (pv 0) (pa_cons (pe_op op_sub (pv 1) pe_int) pa_nil)))) (pv 1)))
      (pss_one (ps_ret (pe_tup (pa_cons (pe_callB (call_min2 rfl) (by rfl) B.min (by decide +kernel) (pa_cons (pv 2) (pa_cons (pv 3) pa_nil))) (pa_cons (pe_callB (call_max2 rfl) (by rfl) B.max (by decide +kernel) (pa_cons (pv 2) (pa_cons (pv 3) pa_nil))) pa_nil)))))), ?_⟩
    refine ⟨_, rfl, _, rfl, pot, m, rfl, hp, by omega, by omega, fun H1 x v1 x0 xm => ?_⟩
    refine ⟨_, rfl, _, _, rfl, rfl, _, rfl, _, rfl, _, _, rfl, rfl, pot, _, rfl, v1.pot, by omega, by omega, fun H2 y v2 y0 ym => ⟨_, _, rfl, rfl, _, rfl, _, _, rfl, rfl, by omega, ?_⟩⟩
    obtain ⟨ne, z0, zm⟩ := pair_lt x0 xm y0 ym
    generalize hz : (x + 1 + y) % (m : Int) = z at ne z0 zm
    refine ⟨_, rfl, _, rfl, _, _, rfl, _, rfl, _, rfl, _, _, rfl, (by show 2 ≤ sizeLine; decide), fun p hp2 => ?_⟩
    have v := v1.trans v2
    by_cases c : z < x
    · refine q _ p z.toNat x.toNat (v.then (same_new hp2)) (v.free hp hp2) ?_ (by omega) (by omega)
      rw [upd_same, hz, if_pos c, if_neg (by omega), Int.toNat_of_nonneg z0, Int.toNat_of_nonneg x0]
    · refine q _ p x.toNat z.toNat (v.then (same_new hp2)) (v.free hp hp2) ?_ (by omega) (by omega)
      rw [upd_same, hz, if_neg c, if_pos (by omega), Int.toNat_of_nonneg z0, Int.toNat_of_nonneg x0]
end
end Nf
-- text NfJ
set_option Elab.async false
set_option linter.all false
set_option maxRecDepth 100000
set_option maxHeartbeats 400000
namespace Nf
open PySem PySem.Spec PyProof.Rows L2 NfR
abbrev sWeb : Stmt := top 28
theorem scWeb : FnScope ["_law_pot_here", "_law_most_places", "_law_most_ties", "_law_many", "_law_way", "_law_ties", "_law_turn", "_law_k"] ["_law_pot_here", "_law_most_places", "_law_most_ties"] (defScope sWeb) := ⟨rfl, rfl, rfl, by decide +kernel, rfl, by decide +kernel, by decide +kernel⟩

def TieV (m : Nat) (H : Hp) (v : V) : Prop := ∃ r a b, v = .ref r ∧ H r = some (.tup [.int (a : Nat), .int (b : Nat)]) ∧ a < b ∧ b < m
def TiesV (m : Nat) (H : Hp) (vs : List V) : Prop := ∀ v ∈ vs, TieV m H v
theorem TieV.weak {m : Nat} {H H' : Hp} (s : Weak H H') {v : V} (h : TieV m H v) : TieV m H' v := let ⟨r, a, b, e, g, x, y⟩ := h; ⟨r, a, b, e, s.tup _ _ g, x, y⟩
theorem TiesV.weak {m : Nat} {H H' : Hp} (s : Weak H H') {vs : List V} (h : TiesV m H vs) : TiesV m H' vs := fun v hv => (h v hv).weak s
theorem TiesV.sub {m : Nat} {H : Hp} {vs ws : List V} (h : TiesV m H vs) (s : ∀ v ∈ ws, v ∈ vs) : TiesV m H ws := fun v hv => h v (s v hv)
theorem TiesV.ties {m : Nat} {H : Hp} : ∀ {vs : List V}, TiesV m H vs → ∃ ties : Ties, TiesAt H vs ties ∧ Fine m ties
  | [], _ => ⟨[], TiesAt.nil, fun t h => by cases h⟩
  | v :: vs, h => by
    obtain ⟨r, a, b, rfl, g, hab, hb⟩ := h v (List.mem_cons_self ..)
    obtain ⟨ties, ht, hf⟩ := TiesV.ties (vs := vs) fun x hx => h x (List.mem_cons_of_mem _ hx)
    refine ⟨(a, b) :: ties, ⟨by rw [List.length_cons, List.length_cons, ht.1], fun i x y e => ?_⟩, fun t ht' => ?_⟩
    · cases i with
      | zero =>
        have : (a, b) = (x, y) := Option.some.inj e
        cases this
        exact ⟨r, rfl, g⟩
      | succ i => exact ht.2 i x y (by simpa using e)
    · rcases List.mem_cons.mp ht' with rfl | q
      · exact ⟨hab, hb⟩
      · exact hf t q
theorem cut_sub (vs : List V) (lo hi : Option Int) : ∀ v ∈ cutV vs lo hi, v ∈ vs := fun v h => List.mem_of_mem_drop (List.mem_of_mem_take h)
def spWeb : Sp := fun vs H Q _ => ∃ pot : Addr, vs = [.ref pot, .int 5, .int 8] ∧ PotAt H pot ∧ ∀ (H' : Hp) (p : Addr) (m : Nat) (ties : Ties), Move pot H H' → H p = none → WebAt H' p m ties → Web m ties → Q (.ref p) H'

/-- the list of ties so far -/
structure Mid (H : Hp) (pot : Addr) (m : Nat) (b : Nat) (H' : Hp) (l : Addr) (vs : List V) : Prop where
  mv : Move pot H H'
  l0 : H l = none
  at_ : H' l = some (.lst vs)
  tv : TiesV m H' vs
  few : vs.length ≤ b
theorem Mid.np {H H' : Hp} {pot l : Addr} {m b : Nat} {vs : List V} (p : PotAt H pot) (h : Mid H pot m b H' l vs) : l ≠ pot := fun e => by
  obtain ⟨n, g⟩ := p
  have := h.l0
  rw [e, g] at this
  cases this
theorem Mid.move {H H' H2 : Hp} {pot l : Addr} {m b : Nat} {vs : List V} (p : PotAt H pot) (h : Mid H pot m b H' l vs) (v : Move pot H' H2) : Mid H pot m b H2 l vs :=
  ⟨h.mv.trans v, h.l0, v.keep _ _ (h.np p) h.at_, h.tv.weak (v.weak h.mv.pot), h.few⟩
theorem Mid.same {H H' H2 : Hp} {pot l : Addr} {m b : Nat} {vs : List V} (h : Mid H pot m b H' l vs) (v : Same H' H2) : Mid H pot m b H2 l vs :=
  ⟨h.mv.then v, h.l0, v _ _ h.at_, h.tv.weak (Nf.Same.weak v), h.few⟩
theorem Mid.write {H H' : Hp} {pot l : Addr} {m b c : Nat} {vs ws : List V} (p : PotAt H pot) (h : Mid H pot m b H' l vs) (tv : TiesV m H' ws) (few : ws.length ≤ c) : Mid H pot m c (upd H' l (.lst ws)) l ws := by
  refine ⟨⟨fun d o n e => ?_, ?_⟩, h.l0, upd_same, tv.weak (weak_upd h.at_), few⟩
  · rw [upd_ne (ne_of_none e h.l0)]
    exact h.mv.keep d o n e
  · obtain ⟨n, g⟩ := h.mv.pot
    exact ⟨n, by rw [upd_ne (Ne.symm (h.np p))]; exact g⟩
theorem Mid.fresh {H H' : Hp} {pot l : Addr} {m b : Nat} {vs : List V} (mv : Move pot H H') (p : PotAt H pot) (hl : H' l = none) (tv : TiesV m H' vs) (few : vs.length ≤ b) : Mid H pot m b (upd H' l (.lst vs)) l vs :=
  ⟨mv.then (same_new hl), mv.free p hl, upd_same, tv.weak (Nf.Same.weak (same_new hl)), few⟩
theorem ring_ne {i m : Nat} (hi : i < m) (hm : 1 < m) : ((0 + (i : Int)) + 1) % (m : Int) ≠ (0 + (i : Int)) ∧ 0 ≤ ((0 + (i : Int)) + 1) % (m : Int) ∧ ((0 + (i : Int)) + 1) % (m : Int) < m := by
  have := pair_lt (x := 0 + (i : Int)) (y := 0) (m := (m : Int)) (by omega) (by omega) (by omega) (by omega)
  rw [Int.add_zero] at this
  exact this

section
variable {P : Program} {w : World} {K : PySem.W.Frag} {mg : Str → Option Value} {base : Heap}
theorem can_web (D : Stands K mg "_law_web" sWeb ["_law_pot_here", "_law_most_places", "_law_most_ties"]) (B : Blt mg) (cT : Can P w K mg base 1 "_law_take" spTake) (cP : Can P w K mg base 2 "_law_pair" spPair) :
    Can P w K mg base 3 "_law_web" spWeb := by
  refine D.can scWeb (fun vs H Q E h => ?_) (fun f cdv A outer s H vs Q E hr h => ?_)
  · obtain ⟨pot, rfl, _⟩ := h
    rfl
  · obtain ⟨pot, rfl, hp, q⟩ := h
    have cT := cT.mono (by decide : 1 ≤ 2)
    refine ⟨_, pss_cons (ps_set (i := 3) scWeb.nd rfl (Or.inr rfl) (pe_op op_add pe_int (pcall cT hr (pa_cons (pv 0) (pa_cons (pv 1) pa_nil)))))
      (pss_cons (ps_set (i := 4) scWeb.nd rfl (Or.inl rfl) (pcall cT hr (pa_cons (pv 0) (pa_cons pe_int pa_nil))))
      (pss_cons (ps_set (i := 5) scWeb.nd rfl (Or.inl rfl) (pe_lst pa_nil))
      (C8.pss_cut (ps_if (pt_cmpR op_gt (pv 3) pe_int (nomark _))
        (C8.pss_cut (ps_if (pt_cmpR op_gt (pv 4) pe_int (nomark _))
            (pss_one (ps_setLc (i := 5) (own := [("_law_k", 7)]) (g := gName 7) (tt := tYes) rfl scWeb.nd rfl rfl (sw_true rfl rfl rfl (by decide +kernel)) (pi_range1 rfl B.range (pa_cons (pv 3) pa_nil))
              (blkOk_by (N := ["_law_pot_here", "_law_most_places", "_law_most_ties", "_law_many", "_law_way", "_law_ties", "_law_turn", "_law_k"]) (sc := defScope sWeb) (by decide +kernel))
              (fun _ _ _ _ _ => pg_name (i := 7) scWeb.nd rfl (Or.inl rfl)) (fun _ _ _ _ _ => pts_nil)
              (fun _ _ _ _ _ => pe_tup (pa_cons (pe_callB (call_min2 rfl) (by rfl) B.min (by decide +kernel) (pa_cons (pv 7) (pa_cons (pe_op op_mod (pe_op op_add (pv 7) pe_int) (pv 3)) pa_nil)))
                (pa_cons (pe_callB (call_max2 rfl) (by rfl) B.max (by decide +kernel) (pa_cons (pv 7) (pa_cons (pe_op op_mod (pe_op op_add (pv 7) pe_int) (pv 3)) pa_nil))) pa_nil))))) pss_nil)
        (C8.pss_cut (ps_if (pt_cmpR op_eq (pv 4) pe_int (nomark _)) (pss_one (ps_set (i := 5) scWeb.nd rfl (Or.inl rfl) (pe_op op_cat (pv 5) (pe_slice sl_list (pv 5) po_none (po_some (pcall cT hr (pa_cons (pv 0) (pa_cons (pv 3) pa_nil)))))))) pss_nil)
        (C8.pss_cut (ps_while PassesOwn.never (pt_cmpR op_gt (pe_callB call_len_seq (by rfl) B.len PySem.boot_len (pa_cons (pv 5) pa_nil)) (pv 2) (nomark _)) (pss_one (ps_expr (pe_bm0 PySem.F.plainAttrs_list PySem.F.slot_list_pop PySem.F.type_list_pop mt_pop (pv 5)))))
        (pss_one (ps_for PassesOwn.never rfl (pi_range1 rfl B.range (pa_cons (pcall cT hr (pa_cons (pv 0) (pa_cons (pe_op op_sub (pe_op op_add (pv 2) pe_int) (pe_callB call_len_seq (by rfl) B.len PySem.boot_len (pa_cons (pv 5) pa_nil))) pa_nil))) pa_nil)) (pg_name (i := 6) scWeb.nd rfl (.inl rfl))
          (pss_one (ps_expr (pe_bm PySem.F.plainAttrs_list PySem.F.slot_list_insert PySem.F.type_list_insert mt_insert (pv 5)
            (pa_cons (pcall cT hr (pa_cons (pv 0) (pa_cons (pe_op op_add (pe_callB call_len_seq (by rfl) B.len PySem.boot_len (pa_cons (pv 5) pa_nil)) pe_int) pa_nil))) (pa_cons (pcall cP hr (pa_cons (pv 0) (pa_cons (pv 3) pa_nil))) pa_nil)))))))))) pss_nil)
      (pss_one (ps_ret (pe_tup (pa_cons (pv 3) (pa_cons (pe_callTy call_tuple_of (by rfl) B.tuple (by decide +kernel) (pa_cons (pv 5) pa_nil)) pa_nil)))))))), ?_⟩
    -- many, way, ties = []
    refine ⟨_, rfl, _, rfl, pot, 5, rfl, hp, by decide, by decide, fun H1 x v1 x0 x5 => ⟨_, _, rfl, rfl, ?_⟩⟩
    obtain ⟨m, hm⟩ : ∃ m : Nat, 1 + x = (m : Int) := ⟨(1 + x).toNat, (Int.toNat_of_nonneg (by omega)).symm⟩
    have m1 : 1 ≤ m := by omega
    have m5 : m ≤ 5 := by omega
    show gName 3 (V.int (1 + x)) _ H1 _
    rw [hm]
    refine ⟨_, rfl, pot, 4, rfl, v1.pot, by decide, by decide, fun H2 y v2 y0 y4 => ⟨Nat.zero_le _, fun l hl => ?_⟩⟩
    have v12 := v1.trans v2
    have mid0 : Mid H pot m 5 (upd H2 l (.lst [])) l [] := Mid.fresh v12 hp hl (fun v h => by cases h) (Nat.zero_le _)
    generalize upd H2 l (.lst []) = H3 at mid0
    clear v1 v2 v12 hl x0 x5 hm
    refine ⟨fun σ H' => ∃ l vs y6, σ = [some (.ref pot), some (.int 5), some (.int 8), some (.int (m : Int)), some (.int y), some (.ref l), y6, none] ∧ Mid H pot m 8 H' l vs, ?_, ?_⟩
    · refine ⟨_, rfl, _, _, rfl, rfl, _, rfl, ite2 (fun hm => ?_) (fun hm => ?_)⟩
      · have hm : 1 < m := by have := of_decide_eq_true hm; omega
        refine ⟨fun σ H' => ∃ l vs, σ = [some (.ref pot), some (.int 5), some (.int 8), some (.int (m : Int)), some (.int y), some (.ref l), none, none] ∧ Mid H pot m 5 H' l vs, ?_, ?_⟩
        · refine ⟨_, rfl, _, _, rfl, rfl, _, rfl, ite2 (fun hw => ?_) (fun hw => ⟨l, [], rfl, mid0⟩)⟩
          refine ⟨_, rfl, _, rfl, by omega, by omega, fun Da hD => lc_range (lo := 0) (n := ((m : Nat) : Int).toNat) (fun i H' => Same H3 H' ∧ ∃ vs, H' Da = some (.lst vs) ∧ TiesV m H' vs ∧ vs.length = i)
            ⟨same_new hD, [], upd_same, fun v h => (by cases h), rfl⟩ ?_ ?_⟩
          · rintro i H' hi ⟨sm, vs, hDa, tv, hlen⟩
            have hi : i < m := by omega
            obtain ⟨zne, z0, zm⟩ := ring_ne hi hm
            have mpos : (0 : Int) < (m : Int) := by omega
            refine ⟨rfl, _, rfl, _, rfl, _, _, rfl, rfl, _, rfl, _, _, rfl, rfl, mpos, _, _, rfl, _, rfl, _, rfl, _, _, rfl, rfl, _, rfl, _, _, rfl, rfl, mpos, _, _, rfl, (by show 2 ≤ sizeLine; decide), fun p hp2 => ?_⟩
            generalize hz : ((0 + (i : Int)) + 1) % (m : Int) = z at zne z0 zm
            have nDp : Da ≠ p := ne_of_none hDa hp2
            have last : ∀ (a b : Nat) (xs : List V), xs = [.int (a : Int), .int (b : Int)] → a < b → b < m → ∃ acc, (upd H' p (.tup xs)) Da = some (.lst acc) ∧ acc.length < sizeLine ∧ Same H3 (upd (upd H' p (.tup xs)) Da (.lst (acc ++ [.ref p]))) ∧
                ∃ vs, (upd (upd H' p (.tup xs)) Da (.lst (acc ++ [.ref p]))) Da = some (.lst vs) ∧ TiesV m (upd (upd H' p (.tup xs)) Da (.lst (acc ++ [.ref p]))) vs ∧ vs.length = i + 1 := by
              rintro a b xs rfl hab hbm
              have hD2 : (upd H' p (.tup [.int (a : Int), .int (b : Int)])) Da = some (.lst vs) := by rw [upd_ne nDp]; exact hDa
              refine ⟨vs, hD2, small1000 (by omega), fun c o e => ?_, vs ++ [.ref p], upd_same, fun v hv => ?_, by rw [List.length_append, hlen]; rfl⟩
              · rw [upd_ne (ne_of_none e hD), upd_ne (ne_of_none (sm _ _ e) hp2)]
                exact sm _ _ e
              · rcases List.mem_append.mp hv with g | g
                · exact ((tv v g).weak (Nf.Same.weak (same_new hp2))).weak (weak_upd hD2)
                · have : v = .ref p := by simpa using g
                  subst this
                  exact ⟨p, a, b, rfl, by rw [upd_ne (Ne.symm nDp), upd_same], hab, hbm⟩
            by_cases c : z < 0 + (i : Int)
            · refine last z.toNat i _ ?_ (by omega) (by omega)
              rw [if_pos c, if_neg (by omega), Int.toNat_of_nonneg z0, Int.zero_add]
            · refine last i z.toNat _ ?_ (by omega) (by omega)
              rw [if_neg c, if_pos (by omega), Int.toNat_of_nonneg z0, Int.zero_add]
          · rintro H' ⟨sm, vs, hDa, tv, hlen⟩
            exact ⟨Da, vs, rfl, ⟨mid0.mv.then sm, mid0.mv.free hp hD, hDa, tv, by omega⟩⟩
        · -- if way == 2
          clear mid0 H3 l H1 H2
          rintro σ H3 ⟨l, vs, rfl, mid⟩
          refine ⟨fun σ H' => ∃ l vs, σ = [some (.ref pot), some (.int 5), some (.int 8), some (.int (m : Int)), some (.int y), some (.ref l), none, none] ∧ Mid H pot m 10 H' l vs, ?_, ?_⟩
          · refine ⟨_, rfl, rfl, _, rfl, ite2 (fun hw => ?_) (fun hw => ⟨l, vs, rfl, ⟨mid.mv, mid.l0, mid.at_, mid.tv, by have := mid.few; omega⟩⟩)⟩
            refine ⟨_, rfl, _, rfl, _, rfl, _, rfl, pot, _, rfl, mid.mv.pot, by omega, by omega, fun H4 x v x0 xm => ⟨_, rfl, l, vs, rfl, SqL.of (mid.move hp v).at_, fun p2 hp2 => ?_⟩⟩
            have mid2 := (mid.move hp v).same (same_new (o := .lst (cutV vs none (some x))) hp2)
            have tv2 := mid2.tv.sub (cut_sub vs none (some x))
            have le2 := cutV_length vs none (some x)
            have few := mid.few
            refine ⟨l, p2, _, _, rfl, rfl, mid2.at_, upd_same, Nat.le_of_lt (small1000 (by omega)), fun p3 hp3 => ⟨p3, _, rfl, Mid.fresh mid2.mv hp hp3 (fun v hv => ?_) ?_⟩⟩
            · exact (List.mem_append.mp hv).elim (mid2.tv v) (tv2 v)
            · rw [List.length_append]
              omega
          · -- while len(ties) > most_ties
            clear mid H3 l vs
            rintro σ H3 ⟨l, vs, rfl, mid⟩
            refine ⟨fun σ H' => ∃ l vs, σ = [some (.ref pot), some (.int 5), some (.int 8), some (.int (m : Int)), some (.int y), some (.ref l), none, none] ∧ Mid H pot m 8 H' l vs, ?_, ?_⟩
            · refine ⟨fun k σ H' => ∃ vs, k = vs.length ∧ σ = [some (.ref pot), some (.int 5), some (.int 8), some (.int (m : Int)), some (.int y), some (.ref l), none, none] ∧ Mid H pot m 10 H' l vs, ⟨_, vs, rfl, rfl, mid⟩, ?_⟩
              clear mid vs H3
              rintro k σ H3 ⟨vs, rfl, rfl, mid⟩
              refine ⟨_, rfl, l, vs, rfl, .inl (SqL.of mid.at_), _, rfl, _, _, rfl, rfl, _, rfl, ite2 (fun hc => ?_) (fun hc => ?_)⟩
              · have hc : 8 < vs.length := by have := of_decide_eq_true hc; omega
                refine ⟨fun σ' H' => ∃ ws, ws.length < vs.length ∧ σ' = [some (.ref pot), some (.int 5), some (.int 8), some (.int (m : Int)), some (.int y), some (.ref l), none, none] ∧ Mid H pot m 10 H' l ws, ?_, ?_⟩
                · rintro σ' H' ⟨ws, lt, e, mid'⟩
                  exact ⟨_, lt, ws, rfl, e, mid'⟩
                · have hl : vs.length - 1 < vs.length := by omega
                  refine ⟨_, rfl, .inl ⟨rfl, _, SqL.of mid.at_⟩, l, vs, _, rfl, rfl, mid.at_, List.getElem?_eq_getElem hl, vs.dropLast, ?_, rfl, mid.write hp (mid.tv.sub fun v hv => List.dropLast_subset _ hv) ?_⟩
                  · rw [List.length_dropLast]
                    omega
                  · rw [List.length_dropLast]
                    have := mid.few
                    omega
              · have hc : ¬ ((8 : Int) < (vs.length : Nat)) := fun z => hc (decide_eq_true z)
                exact ⟨l, vs, rfl, ⟨mid.mv, mid.l0, mid.at_, mid.tv, by omega⟩⟩
            · -- for turn in range(..)
              clear mid H3 l vs
              rintro σ H3 ⟨l, vs, rfl, mid⟩
              have few := mid.few
              refine ⟨_, rfl, _, rfl, _, _, rfl, rfl, _, rfl, l, vs, rfl, .inl (SqL.of mid.at_), _, _, rfl, rfl, pot, _, rfl, mid.mv.pot, by omega, by omega, fun H4 x v x0 xm => ?_⟩
              refine ⟨_, rfl, by omega, by omega, for_range (lo := 0) (n := x.toNat) (fun i σ H' => ∃ ws y6, σ = [some (.ref pot), some (.int 5), some (.int 8), some (.int (m : Int)), some (.int y), some (.ref l), y6, none] ∧ Mid H pot m (vs.length + i) H' l ws)
                ⟨vs, none, rfl, ⟨(mid.move hp v).mv, mid.l0, (mid.move hp v).at_, (mid.move hp v).tv, Nat.le_refl _⟩⟩ ?_ ?_⟩
              · rintro i σ H' hi ⟨ws, y6, rfl, mid'⟩
                have few' := mid'.few
                refine ⟨_, rfl, .inl ⟨rfl, _, SqL.of mid'.at_⟩, _, rfl, _, rfl, l, ws, rfl, .inl (SqL.of mid'.at_), _, _, rfl, rfl, pot, _, rfl, mid'.mv.pot, by omega, by omega, fun H5 z v5 z0 zl => ?_⟩
                have mid5 := mid'.move hp v5
                refine ⟨_, rfl, _, rfl, pot, m, rfl, mid5.mv.pot, by omega, m5, fun H6 p6 a b v6 hp6 e6 hab hbm => ?_⟩
                have mid6 := mid5.move hp v6
                refine ⟨l, ws, z, _, rfl, rfl, mid6.at_, small1000 (by omega), z0, by omega, _, some (.int (0 + (i : Int))), rfl, mid6.write hp (fun u hu => ?_) ?_⟩
                · rcases List.mem_append.mp hu with g | g
                  · rcases List.mem_append.mp g with g | g
                    · exact mid6.tv u (List.mem_of_mem_take g)
                    · have : u = .ref p6 := by simpa using g
                      subst this
                      exact ⟨p6, a, b, rfl, e6, hab, hbm⟩
                  · exact mid6.tv u (List.mem_of_mem_drop g)
                · rw [List.length_append, List.length_append, List.length_take, List.length_drop, List.length_singleton]
                  omega
              · rintro σ H' ⟨ws, y6, rfl, mid'⟩
                exact ⟨l, ws, y6, rfl, ⟨mid'.mv, mid'.l0, mid'.at_, mid'.tv, by have := mid'.few; omega⟩⟩
      · exact ⟨l, [], none, rfl, ⟨mid0.mv, mid0.l0, mid0.at_, mid0.tv, Nat.zero_le _⟩⟩
    · -- return (many, tuple(ties))
      clear mid0 H3 l H1 H2
      rintro σ H3 ⟨l, vs, y6, rfl, mid⟩
      refine ⟨_, rfl, _, rfl, l, vs, rfl, .inl ⟨SqL.of mid.at_, fun tt htt => ⟨(by show 2 ≤ sizeLine; decide), fun p hp2 => ?_⟩⟩⟩
      have mid2 := (mid.same (same_new (o := .tup vs) htt))
      have mid3 := mid2.same (same_new (o := .tup [.int (m : Int), .ref tt]) hp2)
      obtain ⟨ties, ht, hf⟩ := mid3.tv.ties
      refine q _ p m ties mid3.mv (mid2.mv.free hp hp2) ⟨tt, vs, upd_same, ?_, ht⟩ ⟨m1, m5, by have := ht.1; have := mid.few; omega, hf⟩
      exact same_new hp2 _ _ upd_same
end
end Nf
-- text NfK
set_option Elab.async false
set_option linter.all false
set_option maxRecDepth 100000
set_option maxHeartbeats 400000
namespace Nf
open PySem PySem.Spec PyProof.Rows L2 NfR
/-! ### tuples glued and cut, whatever their sizes -/
def rCatB : R2 := fun x y H Q => ∃ a b xs ys, x = .ref a ∧ y = .ref b ∧ H a = some (.tup xs) ∧ H b = some (.tup ys) ∧ xs.length + ys.length ≤ sizeLine ∧ ∀ q H', Same H H' → H' q = some (.tup (xs ++ ys)) → Q (.ref q) H'
theorem op_catB {X : Cx} : OpR X (binaryOp .Add) rCatB := by
  intro pins s σ H x y v u Q I rx ry h
  obtain ⟨a, b, xs, ys, rfl, rfl, ha, hb, hz, q⟩ := h
  refine op_catA pins s σ H _ _ v u Q I rx ry ⟨a, b, xs, ys, rfl, rfl, SqT.of ha, SqT.of hb, hz, fun e => ?_, fun _ e => ?_, fun _ _ p hp => ?_⟩
  · subst e; exact q b H (Same.refl H) hb
  · subst e; exact q a H (Same.refl H) (by rw [List.append_nil]; exact ha)
  · exact q p _ (same_new hp) upd_same
def rSlB : V → Option Int → Option Int → Hp → VK → Prop := fun x lo hi H Q => ∃ a xs, x = .ref a ∧ H a = some (.tup xs) ∧ ∀ q H', Same H H' → H' q = some (.tup (cutV xs lo hi)) → Q (.ref q) H'
theorem sl_tupB {X : Cx} : SlR X rSlB := by
  intro pins s σ H x v vl vu lo hi sl Q I rx hs pl pu h
  obtain ⟨a, xs, rfl, ha, q⟩ := h
  refine sl_tupA pins s σ H _ v vl vu lo hi sl Q I rx hs pl pu ⟨a, xs, rfl, SqT.of ha, fun e => q a H (Same.refl H) ?_, fun _ p hp => q p _ (same_new hp) upd_same⟩
  have : cutV xs lo hi = xs := by
    unfold cutV
    rw [e.1, e.2]
    exact List.take_length
  rw [this]
  exact ha
theorem cut_le (vs : List V) (lo hi : Option Int) : (cutV vs lo hi).length ≤ vs.length := cutV_length vs lo hi
theorem cut_end (vs : List V) : cutV vs (some ((vs.length : Nat) : Int)) none = [] := by
  unfold cutV
  rw [show HT.sIx vs.length 0 (some ((vs.length : Nat) : Int)) = min vs.length vs.length from HT.sIx_nat vs.length 0 vs.length, Nat.min_self, List.drop_length]
  exact List.take_nil
theorem WebAt.ties {H : Hp} {p : Addr} {m : Nat} {ties : Ties} (h : WebAt H p m ties) (hf : Fine m ties) : ∃ tt vs, H p = some (.tup [.int (m : Nat), .ref tt]) ∧ H tt = some (.tup vs) ∧ TiesAt H vs ties ∧ TiesV m H vs := by
  obtain ⟨tt, vs, h1, h2, h3⟩ := h
  refine ⟨tt, vs, h1, h2, h3, fun v hv => ?_⟩
  obtain ⟨i, hi⟩ := List.mem_iff_getElem?.mp hv
  obtain ⟨r, a, b, rfl, ht, hr⟩ := h3.get hi
  obtain ⟨x, y⟩ := tie_in hf ht
  exact ⟨r, a, b, rfl, hr, x, y⟩

abbrev sMarks : Stmt := top 29
abbrev sLone : Stmt := top 30
theorem scMarks : FnScope ["_law_many", "_law_ties", "_law_marks_here", "_law_one", "_law_other", "_law_early", "_law_late", "_law_mark"] ["_law_many", "_law_ties"] (defScope sMarks) := ⟨rfl, rfl, rfl, by decide +kernel, rfl, by decide +kernel, by decide +kernel⟩
theorem scLone : FnScope ["_law_web_here", "_law_found", "_law_tie", "_law_marks_here"] ["_law_web_here"] (defScope sLone) := ⟨rfl, rfl, rfl, by decide +kernel, rfl, by decide +kernel, by decide +kernel⟩
def spMarks : Sp := fun vs H Q _ => ∃ (m : Nat) (tt : Addr) (ts : List V), vs = [.int (m : Int), .ref tt] ∧ m ≤ 5 ∧ H tt = some (.tup ts) ∧ TiesV m H ts ∧
  ∀ (H' : Hp) (l : Addr) (ns : List Int), Same H H' → H l = none → H' l = some (.lst (ns.map V.int)) → ns.length = m → Q (.ref l) H'
def spLone : Sp := fun vs H Q _ => ∃ (p : Addr) (m : Nat) (ties : Ties), vs = [.ref p] ∧ WebAt H p m ties ∧ Web m ties ∧
  ∀ (H' : Hp) (l : Addr) (ns : List Int), Same H H' → H l = none → H' l = some (.lst (ns.map V.int)) → Q (.ref l) H'
theorem rg_ints (m : Nat) : rgV 0 (m : Int) = ((List.range m).map fun i => ((i : Nat) : Int)).map V.int := by
  unfold rgV
  rw [Int.sub_zero, Int.toNat_natCast, List.map_map]
  congr 1
  funext i
  show V.int (0 + (i : Int)) = V.int (i : Int)
  rw [Int.zero_add]

section
variable {P : Program} {w : World} {K : PySem.W.Frag} {mg : Str → Option Value} {base : Heap}
theorem can_marks (D : Stands K mg "_law_marks" sMarks ["_law_many", "_law_ties"]) (B : Blt mg) : Can P w K mg base 1 "_law_marks" spMarks := by
  refine D.can scMarks (fun vs H Q E h => ?_) (fun f cdv A outer s H vs Q E hr h => ?_)
  · obtain ⟨m, tt, ts, rfl, _⟩ := h
    rfl
  · obtain ⟨m, tt, ts, rfl, m5, ht, tv, q⟩ := h
    refine ⟨_, pss_cons (ps_set (i := 2) scMarks.nd rfl (Or.inl rfl) (pe_listRg rfl (by rfl) B.list (prg_1 (by rfl) B.range (pv 0))))
      (pss_cons (ps_for PassesOwn.never rfl (pi_tup (pv 1)) (pg_tup rfl (pgs_cons (pg_name (i := 3) scMarks.nd rfl (.inl rfl)) (pgs_cons (pg_name (i := 4) scMarks.nd rfl (.inl rfl)) pgs_nil)))
        (pss_cons (ps_asg (pe_tup (pa_cons (pe_callB (call_min2 rfl) (by rfl) B.min (by decide +kernel) (pa_cons (pe_ix ix_list (pv 2) (pv 3) (fun _ _ => rfl)) (pa_cons (pe_ix ix_list (pv 2) (pv 4) (fun _ _ => rfl)) pa_nil)))
            (pa_cons (pe_callB (call_max2 rfl) (by rfl) B.max (by decide +kernel) (pa_cons (pe_ix ix_list (pv 2) (pv 3) (fun _ _ => rfl)) (pa_cons (pe_ix ix_list (pv 2) (pv 4) (fun _ _ => rfl)) pa_nil))) pa_nil)))
            (pg_tup rfl (pgs_cons (pg_name (i := 5) scMarks.nd rfl (.inr rfl)) (pgs_cons (pg_name (i := 6) scMarks.nd rfl (.inr rfl)) pgs_nil))))
          (pss_one (ps_setLc (i := 2) (own := [("_law_mark", 7)]) (g := gName 7) (tt := tYes) rfl scMarks.nd rfl rfl (sw_true rfl rfl rfl (by decide +kernel)) (pi_list (pv 2))
              (blkOk_by (N := ["_law_many", "_law_ties", "_law_marks_here", "_law_one", "_law_other", "_law_early", "_law_late", "_law_mark"]) (sc := defScope sMarks) (by decide +kernel))
              (fun _ _ _ _ _ => pg_name (i := 7) scMarks.nd rfl (Or.inl rfl)) (fun _ _ _ _ _ => pts_nil)
              (fun _ _ _ _ _ => pe_ifExp (pt_cmpR op_eq (pv 7) (pv 6) (nomark _)) (pv 5) (pv 7))))))
      (pss_one (ps_ret (pv 2)))), ?_⟩
    refine ⟨_, rfl, (m : Int), rfl, RgOk.of_le (by decide) (by omega) (by decide) (by omega), fun l hl => ?_⟩
    rw [rg_ints]
    refine ⟨_, rfl, tt, rfl, ⟨_, SqT.of (same_new hl _ _ ht)⟩, for_tup (K := K) (a := tt) (xs := ts) (fun i σ H' => ∃ l y3 y4 y5 y6, σ = [some (.int (m : Int)), some (.ref tt), some (.ref l), y3, y4, y5, y6, none] ∧ Same H H' ∧ H l = none ∧ ∃ ns : List Int, H' l = some (.lst (ns.map V.int)) ∧ ns.length = m)
      ⟨l, none, none, none, none, rfl, same_new hl, hl, _, upd_same, by rw [List.length_map, List.length_range]⟩ (fun i σ H' _ ⟨_, _, _, _, _, _, sm, _⟩ => SqT.of (sm _ _ ht)) ?_ ?_⟩
    · rintro i x σ H' hx ⟨l, y3, y4, y5, y6, rfl, sm, l0, ns, hL, hlen⟩
      obtain ⟨r, a, b, rfl, hr, hab, hb⟩ := tv x (List.mem_of_getElem? hx)
      have la : a < ns.length := by omega
      have lb : b < ns.length := by omega
      refine ⟨r, [.int (a : Nat), .int (b : Nat)], rfl, SqT.of (sm _ _ hr), rfl, _, _, rfl, _, _, rfl, rfl, ?_⟩
      refine ⟨_, rfl, _, rfl, l, _, _, _, rfl, rfl, SqL.of hL, at_ints la, _, rfl, _, rfl, l, _, _, _, rfl, rfl, SqL.of hL, at_ints lb, _, _, rfl, ?_⟩
      refine ⟨_, rfl, _, rfl, l, _, _, _, rfl, rfl, SqL.of hL, at_ints la, _, rfl, _, rfl, l, _, _, _, rfl, rfl, SqL.of hL, at_ints lb, _, _, rfl, ?_⟩
      refine ⟨(by show 2 ≤ sizeLine; decide), fun T hT => ⟨T, _, rfl, SqT.of upd_same, rfl, _, _, rfl, _, _, rfl, rfl, ?_⟩⟩
      have smT : Same H (upd H' T (.tup [.int (if ns.getD b 0 < ns.getD a 0 then ns.getD b 0 else ns.getD a 0), .int (if ns.getD b 0 > ns.getD a 0 then ns.getD b 0 else ns.getD a 0)])) := sm.trans (same_new hT)
      have hLT := same_new (o := .tup [.int (if ns.getD b 0 < ns.getD a 0 then ns.getD b 0 else ns.getD a 0), .int (if ns.getD b 0 > ns.getD a 0 then ns.getD b 0 else ns.getD a 0)]) hT _ _ hL
      generalize upd H' T (.tup [.int (if ns.getD b 0 < ns.getD a 0 then ns.getD b 0 else ns.getD a 0), .int (if ns.getD b 0 > ns.getD a 0 then ns.getD b 0 else ns.getD a 0)]) = H2 at smT hLT
      generalize (if ns.getD b 0 < ns.getD a 0 then ns.getD b 0 else ns.getD a 0) = early
      generalize (if ns.getD b 0 > ns.getD a 0 then ns.getD b 0 else ns.getD a 0) = late
      refine ⟨_, rfl, l, rfl, ⟨_, SqL.of hLT⟩, fun Da hD => lc_list (K := K) (a := l) (xs := ns.map V.int) (fun i H' => Same H2 H' ∧ ∃ ms : List Int, H' Da = some (.lst (ms.map V.int)) ∧ ms.length = i)
        ⟨same_new hD, [], upd_same, rfl⟩ (fun i H' _ ⟨s2, _⟩ => SqL.of (s2 _ _ hLT)) ?_ ?_⟩
      · rintro i x H' hx ⟨s2, ms, hDa, hm⟩
        obtain ⟨n, hn, rfl⟩ := ints_of hx
        have il : i < ns.length := (List.getElem?_eq_some_iff.mp hn).1
        have last : ∀ z : Int, ∃ acc, H' Da = some (.lst acc) ∧ acc.length < sizeLine ∧ Same H2 (upd H' Da (.lst (acc ++ [.int z]))) ∧ ∃ ms : List Int, (upd H' Da (.lst (acc ++ [.int z]))) Da = some (.lst (ms.map V.int)) ∧ ms.length = i + 1 := fun z => by
          refine ⟨_, hDa, by rw [List.length_map]; exact small1000 (by omega), fun c o e => ?_, ms ++ [z], ?_, by rw [List.length_append, hm]; rfl⟩
          · rw [upd_ne (ne_of_none e hD)]
            exact s2 _ _ e
          · rw [upd_same, List.map_append]
            rfl
        refine ⟨rfl, _, rfl, _, rfl, rfl, _, rfl, ite2 (fun c => ⟨_, rfl, last _⟩) (fun c => ⟨_, rfl, last _⟩)⟩
      · rintro H' ⟨s2, ms, hDa, hm⟩
        rw [List.length_map] at hm
        exact ⟨Da, _, _, _, _, rfl, smT.trans s2, smT.free hD, ms, hDa, by omega⟩
    · rintro σ H' ⟨l, y3, y4, y5, y6, rfl, sm, l0, ns, hL, hlen⟩
      exact ⟨_, rfl, q H' l ns sm l0 hL hlen⟩

theorem can_lone (D : Stands K mg "_law_lone" sLone ["_law_web_here"]) (B : Blt mg) (cM : Can P w K mg base 1 "_law_marks" spMarks) : Can P w K mg base 2 "_law_lone" spLone := by
  refine D.can scLone (fun vs H Q E h => ?_) (fun f cdv A outer s H vs Q E hr h => ?_)
  · obtain ⟨p, m, ties, rfl, _⟩ := h
    rfl
  · obtain ⟨p, m, ties, rfl, hW, W, q⟩ := h
    obtain ⟨tt, ts, h1, h2, h3, tv⟩ := hW.ties W.fine
    have few := W.few
    have m5 := W.m5
    have tl := h3.1
    refine ⟨_, pss_cons (ps_set (i := 1) scLone.nd rfl (Or.inl rfl) (pe_lst pa_nil))
      (pss_cons (ps_for PassesOwn.never rfl (pi_range1 rfl B.range (pa_cons (pe_callB call_len_seq (by rfl) B.len PySem.boot_len (pa_cons (pe_ix ix_tup (pv 0) pe_int (fun _ _ => rfl)) pa_nil)) pa_nil)) (pg_name (i := 2) scLone.nd rfl (.inl rfl))
        (pss_cons (ps_set (i := 3) scLone.nd rfl (Or.inl rfl) (pcall cM hr (pa_cons (pe_ix ix_tup (pv 0) pe_int (fun _ _ => rfl)) (pa_cons (pe_op op_catB (pe_slice sl_tupB (pe_ix ix_tup (pv 0) pe_int (fun _ _ => rfl)) po_none (po_some (pv 2))) (pe_slice sl_tupB (pe_ix ix_tup (pv 0) pe_int (fun _ _ => rfl)) (po_some (pe_op op_add (pv 2) pe_int)) po_none)) pa_nil))))
          (pss_one (ps_if (pt_cmpR op_ne (pe_ix ix_list (pv 3) (pe_ix ix_tup (pe_ix ix_tup (pe_ix ix_tup (pv 0) pe_int (fun _ _ => rfl)) (pv 2) (fun _ _ => rfl)) pe_int (fun _ _ => rfl)) (fun _ _ => rfl)) (pe_ix ix_list (pv 3) (pe_ix ix_tup (pe_ix ix_tup (pe_ix ix_tup (pv 0) pe_int (fun _ _ => rfl)) (pv 2) (fun _ _ => rfl)) pe_int (fun _ _ => rfl)) (fun _ _ => rfl)) (nomark _))
            (pss_one (ps_expr (pe_bm PySem.F.plainAttrs_list PySem.F.slot_list_append PySem.F.type_list_append mt_append (pv 1) (pa_cons (pv 2) pa_nil)))) pss_nil))))
      (pss_one (ps_ret (pv 1)))), ?_⟩
    refine ⟨Nat.zero_le _, fun l hl => ?_⟩
    have s0 : Same H (upd H l (.lst [])) := same_new hl
    refine ⟨_, rfl, p, _, _, _, rfl, rfl, SqT.of (s0 _ _ h1), atI1, tt, ts, rfl, .inr (SqT.of (s0 _ _ h2)), _, rfl, by omega, by omega, ?_⟩
    refine for_range (lo := 0) (n := ((ts.length : Nat) : Int).toNat) (fun i σ H' => ∃ y2 y3, σ = [some (.ref p), some (.ref l), y2, y3] ∧ Same H H' ∧ ∃ ns : List Int, H' l = some (.lst (ns.map V.int)) ∧ ns.length ≤ i)
      ⟨none, none, rfl, s0, [], upd_same, Nat.le_refl _⟩ ?_ ?_
    · rintro i σ H' hi ⟨y2, y3, rfl, sm, ns, hL, hlen⟩
      have hi : i < ts.length := by omega
      have e0 : (0 : Int) + (i : Nat) = ((i : Nat) : Int) := Int.zero_add _
      refine ⟨_, rfl, p, _, _, _, rfl, rfl, SqT.of (sm _ _ h1), atI0, _, rfl, p, _, _, _, rfl, rfl, SqT.of (sm _ _ h1), atI1, _, rfl, _, rfl, tt, ts, rfl, sm _ _ h2, fun q1 H1 s1 hq1 => ?_⟩
      have sm1 := sm.trans s1
      refine ⟨_, rfl, p, _, _, _, rfl, rfl, SqT.of (sm1 _ _ h1), atI1, _, rfl, _, _, rfl, rfl, _, rfl, tt, ts, rfl, sm1 _ _ h2, fun q2 H2 s2 hq2 => ?_⟩
      have sm2 := sm1.trans s2
      refine ⟨q1, q2, _, _, rfl, rfl, s2 _ _ hq1, hq2, Nat.le_of_lt (small1000 (by have := cut_le ts none (some ((0 : Int) + (i : Nat))); have := cut_le ts (some ((0 : Int) + (i : Nat) + 1)) none; omega)), fun q3 H3 s3 hq3 => ?_⟩
      have sm3 := sm2.trans s3
      refine ⟨m, q3, _, rfl, m5, hq3, fun v hv => ?_, fun H4 lm ms s4 hlm hM hml => ?_⟩
      · exact (tv v ((List.mem_append.mp hv).elim (cut_sub _ _ _ v) (cut_sub _ _ _ v))).weak (Nf.Same.weak sm3)
      · have sm4 := sm3.trans s4
        have hL4 := (s1.trans (s2.trans (s3.trans s4))) _ _ hL
        obtain ⟨r, a, b, hv, hr, hab, hb⟩ := tv ts[i] (List.getElem_mem hi)
        have gt : ts[i]? = some (.ref r) := by rw [List.getElem?_eq_getElem hi, hv]
        have gi : atI ts ((0 : Int) + (i : Nat)) = some (.ref r) := by rw [e0]; exact atI_nat gt
        refine ⟨_, rfl, _, rfl, p, _, _, _, rfl, rfl, SqT.of (sm4 _ _ h1), atI1, _, rfl, tt, _, _, _, rfl, rfl, SqT.of (sm4 _ _ h2), gi, r, _, _, _, rfl, rfl, SqT.of (sm4 _ _ hr), atI0, lm, _, _, _, rfl, rfl, SqL.of hM, at_ints (by omega), ?_⟩
        refine ⟨_, rfl, _, rfl, p, _, _, _, rfl, rfl, SqT.of (sm4 _ _ h1), atI1, _, rfl, tt, _, _, _, rfl, rfl, SqT.of (sm4 _ _ h2), gi, r, _, _, _, rfl, rfl, SqT.of (sm4 _ _ hr), atI1, lm, _, _, _, rfl, rfl, SqL.of hM, at_ints (by omega), rfl, _, rfl, ite2 (fun c => ?_) (fun c => ?_)⟩
        · refine ⟨_, rfl, .inl ⟨rfl, _, SqL.of hL4⟩, _, rfl, l, _, _, rfl, rfl, hL4, by rw [List.length_map]; exact small1000 (by omega), _, _, rfl, fun c o e => ?_, ns ++ [(0 : Int) + (i : Nat)], ?_, by rw [List.length_append, List.length_singleton]; omega⟩
          · rw [upd_ne (ne_of_none e hl)]
            exact sm4 _ _ e
          · rw [upd_same, List.map_append]
            rfl
        · exact ⟨_, _, rfl, sm4, ns, hL4, by omega⟩
    · rintro σ H' ⟨y2, y3, rfl, sm, ns, hL, hlen⟩
      exact ⟨_, rfl, q H' l ns sm hl hL⟩
end
end Nf
-- text NfL
set_option Elab.async false
set_option linter.all false
set_option maxRecDepth 100000
set_option maxHeartbeats 400000
namespace Nf
open PySem PySem.Spec PyProof.Rows L2 NfR
abbrev sShut : Stmt := top 33
abbrev sSome : Stmt := top 34
theorem scShut : FnScope ["_law_web_here", "_law_k", "_law_begun", "_law_found", "_law_sums", "_law_place", "_law_tie"] ["_law_web_here", "_law_k", "_law_begun"] (defScope sShut) := ⟨rfl, rfl, rfl, by decide +kernel, rfl, by decide +kernel, by decide +kernel⟩
theorem scSome : FnScope ["_law_pot_here", "_law_web_here", "_law_k", "_law_begun", "_law_start", "_law_turn", "_law_found"] ["_law_pot_here", "_law_web_here", "_law_k", "_law_begun"] (defScope sSome) := ⟨rfl, rfl, rfl, by decide +kernel, rfl, by decide +kernel, by decide +kernel⟩
def spShut : Sp := fun vs H Q _ => ∃ (p : Addr) (m : Nat) (ties : Ties) (k : Int) (r : Addr) (ns : List Int), vs = [.ref p, .int k, .ref r] ∧ 0 < k ∧ WebAt H p m ties ∧ Web m ties ∧ H r = some (.tup (ns.map V.int)) ∧
  ∀ (H' : Hp) (l : Addr) (js : List Int), Same H H' → H l = none → H' l = some (.lst (js.map V.int)) → (ns.length = ties.length → js = [] → ∀ x ∈ rest m k ties ns, x = 0) → Q (.ref l) H'
/-- at most n numbers are left to be put behind what is begun -/
def spSome (n : Nat) : Sp := fun vs H Q _ => ∃ (d : Nat) (pot p : Addr) (m : Nat) (ties : Ties) (k : Int) (r : Addr) (ns : List Int), vs = [.ref pot, .ref p, .int k, .ref r] ∧ PotAt H pot ∧ 2 ≤ k ∧ k ≤ 6 ∧ WebAt H p m ties ∧ Web m ties ∧ H r = some (.tup (ns.map V.int)) ∧ (∀ x ∈ ns, 1 ≤ x ∧ x ≤ k - 1) ∧ ns.length + d = ties.length ∧ d ≤ n ∧
  (∀ H' : Hp, Move pot H H' → Q .non H') ∧ ∀ (H' : Hp) (q : Addr) (fs : List Int), Move pot H H' → H' q = some (.tup (fs.map V.int)) → FlowOk m ties k fs → Q (.ref q) H'

/-- x in t, the written part named -/
theorem op_inK {X : Cx} (K : PySem.W.Frag) (h : X.K = K := by rfl) : OpR X (compareOp .In) (rIn K false) := by
  subst h
  exact op_in_seq
theorem ne_nil (js : List Int) : PyData.eqv (.list (js.map PyData.int)) (.list []) = js.isEmpty := by
  cases js with
  | nil => rfl
  | cons a r => rfl
theorem nil_shaped : SeqAt.shaped (.list []) = true := list_shaped []
section
variable {P : Program} {w : World} {K : PySem.W.Frag} {mg : Str → Option Value} {base : Heap}
theorem can_shut (D : Stands K mg "_law_shut" sShut ["_law_web_here", "_law_k", "_law_begun"]) (B : Blt mg) (cR : Can P w K mg base 1 "_law_rests" (spRests K)) : Can P w K mg base 2 "_law_shut" spShut := by
  refine D.can scShut (fun vs H Q E h => ?_) (fun f cdv A outer s H vs Q E hr h => ?_)
  · obtain ⟨p, m, ties, k, r, ns, rfl, _⟩ := h
    rfl
  · obtain ⟨p, m, ties, k, r, ns, rfl, k0, hW, W, hR, q⟩ := h
    obtain ⟨tt, ts, h1, h2, h3, tv⟩ := hW.ties W.fine
    have few := W.few
    have m5 := W.m5
    have tl := h3.1
    refine ⟨_, pss_cons (ps_set (i := 3) scShut.nd rfl (Or.inl rfl) (pe_lst pa_nil))
      (pss_cons (ps_set (i := 4) scShut.nd rfl (Or.inl rfl) (pcall cR hr (pa_cons (pv 0) (pa_cons (pv 1) (pa_cons (pv 2) pa_nil)))))
      (pss_cons (ps_for PassesOwn.never rfl (pi_range1 rfl B.range (pa_cons (pe_ix ix_tup (pv 0) pe_int (fun _ _ => rfl)) pa_nil)) (pg_name (i := 5) scShut.nd rfl (.inr rfl))
        (pss_one (ps_if (PW.pt (pw_and (pt_cmpR op_ne (pe_ix ix_list (pv 4) (pv 5) (fun _ _ => rfl)) pe_int (nomark _))
            (pw_and1 (pt_not (pt_val (pe_callB (cr_any rfl) (by rfl) B.any (by decide +kernel) (pa_cons (pe_lc (own := [("_law_tie", 6)]) (g := gName 6) (tt := tYes) rfl scShut.nd
              (pi_tup (pe_slice sl_tupB (pe_ix ix_tup (pv 0) pe_int (fun _ _ => rfl)) (po_some (pe_callB call_len_seq (by rfl) B.len PySem.boot_len (pa_cons (pv 2) pa_nil))) po_none))
              (blkOk_by (N := ["_law_web_here", "_law_k", "_law_begun", "_law_found", "_law_sums", "_law_place", "_law_tie"]) (sc := defScope sShut) (by decide +kernel))
              (fun _ _ _ _ _ => pg_name (i := 6) scShut.nd rfl (Or.inl rfl)) (fun _ _ _ _ _ => pts_nil) (fun _ _ _ _ _ => pe_cmpR (op_inK K) (pv 5) (pv 6) (by rfl))) pa_nil)))))))
          (pss_one (ps_expr (pe_bm PySem.F.plainAttrs_list PySem.F.slot_list_append PySem.F.type_list_append mt_append (pv 3) (pa_cons (pv 5) pa_nil)))) pss_nil)))
      (pss_one (ps_ret (pv 3))))), ?_⟩
    refine ⟨Nat.zero_le _, fun l hl => ?_⟩
    have s0 : Same H (upd H l (.lst [])) := same_new hl
    refine ⟨_, rfl, _, rfl, _, rfl, p, m, ties, r, true, ns, k, rfl, k0, hW.same s0, W, SqT.of (s0 _ _ hR), fun H1 sl s1 hsl hS => ?_⟩
    have s01 := s0.trans s1
    have nsl : sl ≠ l := fun z => by rw [z, upd_same] at hsl; cases hsl
    refine ⟨_, rfl, p, _, _, _, rfl, rfl, SqT.of (s01 _ _ h1), atI0, _, rfl, by omega, by omega, ?_⟩
    refine for_range (lo := 0) (n := ((m : Nat) : Int).toNat) (fun i σ H' => ∃ y5, σ = [some (.ref p), some (.int k), some (.ref r), some (.ref l), some (.ref sl), y5, none] ∧ Same H H' ∧ H' sl = some (.lst ((rest m k ties ns).map V.int)) ∧
        ∃ js : List Int, H' l = some (.lst (js.map V.int)) ∧ js.length ≤ i ∧ (ns.length = ties.length → js = [] → ∀ (j : Nat) (x : Int), j < i → (rest m k ties ns)[j]? = some x → x = 0))
      ⟨none, rfl, s01, hS, [], s1 _ _ upd_same, Nat.le_refl _, fun _ _ j x hj => by omega⟩ ?_ ?_
    · rintro i σ H' hi ⟨y5, rfl, sm, hS', js, hL, hlen, all⟩
      have hi : i < m := by omega
      have e0 : (0 : Int) + (i : Nat) = ((i : Nat) : Int) := Int.zero_add _
      have il : i < (rest m k ties ns).length := by rw [rest_length]; exact hi
      have gi : atI ((rest m k ties ns).map V.int) ((0 : Int) + (i : Nat)) = some (V.int (rest m k ties ns)[i]) := by rw [e0]; exact atI_nat (ints_get (List.getElem?_eq_getElem il))
      refine ⟨_, rfl, _, rfl, sl, _, _, _, rfl, rfl, SqL.of hS', gi, rfl, _, rfl, ite2 (fun c => ?_) (fun c => ?_)⟩
      · refine ⟨_, rfl, p, _, _, _, rfl, rfl, SqT.of (sm _ _ h1), atI1, _, rfl, r, _, rfl, .inr (SqT.of (sm _ _ hR)), _, rfl, tt, ts, rfl, sm _ _ h2, fun q1 H2 s2 hq1 => ?_⟩
        have sm2 := sm.trans s2
        refine ⟨q1, rfl, ⟨_, SqT.of hq1⟩, fun Da hD => lc_tup (K := K) (a := q1) (xs := cutV ts (some ((ns.map V.int).length : Nat)) none) (fun j H3 => Same H2 H3 ∧ ∃ bs : List Bool, H3 Da = some (.lst (bs.map V.bl)) ∧ bs.length = j)
          ⟨same_new hD, [], upd_same, rfl⟩ (fun j H3 _ ⟨s3, _⟩ => SqT.of (s3 _ _ hq1)) ?_ ?_⟩
        · rintro j x H3 hx ⟨s3, bs, hDa, hb⟩
          obtain ⟨rr, a, b, rfl, hrr, _, _⟩ := tv x (cut_sub _ _ _ x (List.mem_of_getElem? hx))
          have jl : j < (cutV ts (some ((ns.map V.int).length : Nat)) none).length := (List.getElem?_eq_some_iff.mp hx).1
          have cl := cut_le ts (some ((ns.map V.int).length : Nat)) none
          refine ⟨rfl, _, rfl, _, rfl, rr, _, rfl, .inr (SqT.of ((sm2.trans s3) _ _ hrr)), rfl, rfl, _, hDa, by rw [List.length_map]; exact small1000 (by omega), fun c o e => ?_, bs ++ [inV (.int ((0 : Int) + (i : Nat))) [.int (a : Nat), .int (b : Nat)]], ?_, by rw [List.length_append, hb]; rfl⟩
          · rw [upd_ne (ne_of_none e hD)]
            exact s3 _ _ e
          · rw [upd_same, List.map_append]
            rfl
        · rintro H3 ⟨s3, bs, hDa, hb⟩
          have sm3 := sm2.trans s3
          have hL3 := (s2.trans s3) _ _ hL
          have hS3 := (s2.trans s3) _ _ hS'
          refine ⟨Da, bs, rfl, SqL.of hDa, _, rfl, ite2 (fun c2 => ?_) (fun c2 => ?_)⟩
          · refine ⟨_, rfl, .inl ⟨rfl, _, SqL.of hL3⟩, _, rfl, l, _, _, rfl, rfl, hL3, by rw [List.length_map]; exact small1000 (by omega), _, rfl, fun c o e => ?_, ?_, js ++ [(0 : Int) + (i : Nat)], ?_, by rw [List.length_append, List.length_singleton]; omega, fun _ z => absurd z (by simp)⟩
            · rw [upd_ne (ne_of_none e hl)]
              exact sm3 _ _ e
            · rw [upd_ne nsl]
              exact hS3
            · rw [upd_same, List.map_append]
              rfl
          · refine ⟨_, rfl, sm3, hS3, js, hL3, by omega, fun full z j x hj hx => ?_⟩
            by_cases e : j < i
            · exact all full z j x e hx
            · exfalso
              apply c2
              have eb : bs = [] := by
                rw [List.length_map, full, ← tl, cut_end] at hb
                exact List.eq_nil_of_length_eq_zero hb
              rw [eb]
              rfl
      · refine ⟨_, rfl, sm, hS', js, hL, by omega, fun full z j x hj hx => ?_⟩
        by_cases e : j < i
        · exact all full z j x e hx
        · have ej : j = i := by omega
          subst ej
          rw [List.getElem?_eq_getElem il] at hx
          have ex := Option.some.inj hx
          refine Decidable.byContradiction fun ne => c ?_
          rw [ex, decide_eq_false (fun y => ne (V.int.inj y))]
          rfl
    · rintro σ H' ⟨y5, rfl, sm, hS', js, hL, hlen, all⟩
      refine ⟨_, rfl, q H' l js sm hl hL fun full z x hx => ?_⟩
      obtain ⟨j, hj⟩ := List.mem_iff_getElem?.mp hx
      have jl := (List.getElem?_eq_some_iff.mp hj).1
      rw [rest_length] at jl
      exact all full z j x (by omega) hj

/-- nothing is left: the last look -/
theorem can_some0 (D : Stands K mg "_law_some_flow" sSome ["_law_pot_here", "_law_web_here", "_law_k", "_law_begun"]) (B : Blt mg) (cS : Can P w K mg base 2 "_law_shut" spShut) : Can P w K mg base 3 "_law_some_flow" (spSome 0) := by
  refine D.can scSome (fun vs H Q E h => ?_) (fun f cdv A outer s H vs Q E hr h => ?_)
  · obtain ⟨d, pot, p, m, ties, k, r, ns, rfl, _⟩ := h
    rfl
  · obtain ⟨d, pot, p, m, ties, k, r, ns, rfl, hp, k2, k6, hW, W, hR, num, left, hd, qn, qf⟩ := h
    obtain ⟨tt, ts, h1, h2, h3, tv⟩ := hW.ties W.fine
    refine ⟨_, pss_cons (ps_if (pt_cmpR (op_neD hr.units) (pcall cS hr (pa_cons (pv 1) (pa_cons (pv 2) (pa_cons (pv 3) pa_nil)))) (pe_lst pa_nil) (nomark _)) (pss_one (ps_ret pe_non)) pss_nil)
      (pss_cons (ps_if (pt_cmpR op_eq (pe_callB call_len_seq (by rfl) B.len PySem.boot_len (pa_cons (pv 3) pa_nil)) (pe_callB call_len_seq (by rfl) B.len PySem.boot_len (pa_cons (pe_ix ix_tup (pv 1) pe_int (fun _ _ => rfl)) pa_nil)) (nomark _)) (pss_one (ps_ret (pv 3))) pss_nil)
      pss_never), ?_⟩
    refine ⟨_, rfl, _, rfl, _, rfl, p, m, ties, k, r, ns, rfl, by omega, hW, W, hR, fun H1 l js s1 hl hL ev => ⟨Nat.zero_le _, fun z hz => ?_⟩⟩
    have s2 := s1.trans (same_new (o := .lst []) hz)
    have mv : Move pot H (upd H1 z (.lst [])) := Move.of hp s2
    refine ⟨.list (js.map PyData.int), .list [], .lst (SqL.of (same_new hz _ _ hL)) (ints_dp js), .lst (SqL.of upd_same) .nil, list_shaped js, nil_shaped, _, rfl, ite2 (fun c => ?_) (fun c => ?_)⟩
    · exact qn _ mv
    · rw [ne_nil] at c
      have ej : js = [] := by
        cases js with
        | nil => rfl
        | cons a b => exact absurd rfl c
      have full : ns.length = ties.length := by omega
      refine ⟨_, rfl, r, _, rfl, .inr (SqT.of (s2 _ _ hR)), _, rfl, p, _, _, _, rfl, rfl, SqT.of (s2 _ _ h1), atI1, tt, ts, rfl, .inr (SqT.of (s2 _ _ h2)), rfl, _, rfl, ite2 (fun c2 => ?_) (fun c2 => ?_)⟩
      · exact ⟨_, rfl, qf _ r ns mv (s2 _ _ hR) ⟨full, num, ev full ej⟩⟩
      · refine absurd (decide_eq_true ?_) c2
        rw [List.length_map, full, h3.1]
theorem can_some1 {n : Nat} (D : Stands K mg "_law_some_flow" sSome ["_law_pot_here", "_law_web_here", "_law_k", "_law_begun"]) (B : Blt mg) (cS : Can P w K mg base 2 "_law_shut" spShut) (cT : Can P w K mg base 1 "_law_take" spTake) (cF : Can P w K mg base (n + 3) "_law_some_flow" (spSome n)) :
    Can P w K mg base (n + 4) "_law_some_flow" (spSome (n + 1)) := by
  refine D.can scSome (fun vs H Q E h => ?_) (fun f cdv A outer s H vs Q E hr h => ?_)
  · obtain ⟨d, pot, p, m, ties, k, r, ns, rfl, _⟩ := h
    rfl
  · obtain ⟨d, pot, p, m, ties, k, r, ns, rfl, hp, k2, k6, hW, W, hR, num, left, hd, qn, qf⟩ := h
    obtain ⟨tt, ts, h1, h2, h3, tv⟩ := hW.ties W.fine
    have few := W.few
    refine ⟨_, pss_cons (ps_if (pt_cmpR (op_neD hr.units) (pcall (cS.mono (by omega)) hr (pa_cons (pv 1) (pa_cons (pv 2) (pa_cons (pv 3) pa_nil)))) (pe_lst pa_nil) (nomark _)) (pss_one (ps_ret pe_non)) pss_nil)
      (pss_cons (ps_if (pt_cmpR op_eq (pe_callB call_len_seq (by rfl) B.len PySem.boot_len (pa_cons (pv 3) pa_nil)) (pe_callB call_len_seq (by rfl) B.len PySem.boot_len (pa_cons (pe_ix ix_tup (pv 1) pe_int (fun _ _ => rfl)) pa_nil)) (nomark _)) (pss_one (ps_ret (pv 3))) pss_nil)
      (pss_cons (ps_set (i := 4) scSome.nd rfl (Or.inl rfl) (pcall (cT.mono (by omega)) hr (pa_cons (pv 0) (pa_cons (pe_op op_sub (pv 2) pe_int) pa_nil))))
      (pss_cons (ps_for PassesOwn.never rfl (pi_range1 rfl B.range (pa_cons (pe_op op_sub (pv 2) pe_int) pa_nil)) (pg_name (i := 5) scSome.nd rfl (.inl rfl))
        (pss_cons (ps_set (i := 6) scSome.nd rfl (Or.inl rfl) (pcall cF hr (pa_cons (pv 0) (pa_cons (pv 1) (pa_cons (pv 2) (pa_cons (pe_op op_catB (pv 3) (pe_tup (pa_cons (pe_op op_add pe_int (pe_op op_mod (pe_op op_add (pv 4) (pv 5)) (pe_op op_sub (pv 2) pe_int))) pa_nil))) pa_nil))))))
          (pss_one (ps_if (pt_cmp (pc_notN (pv 6))) (pss_one (ps_ret (pv 6))) pss_nil))))
      (pss_one (ps_ret pe_non))))), ?_⟩
    refine ⟨_, rfl, _, rfl, _, rfl, p, m, ties, k, r, ns, rfl, by omega, hW, W, hR, fun H1 l js s1 hl hL ev => ⟨Nat.zero_le _, fun z hz => ?_⟩⟩
    have s2 := s1.trans (same_new (o := .lst []) hz)
    have mv : Move pot H (upd H1 z (.lst [])) := Move.of hp s2
    refine ⟨.list (js.map PyData.int), .list [], .lst (SqL.of (same_new hz _ _ hL)) (ints_dp js), .lst (SqL.of upd_same) .nil, list_shaped js, nil_shaped, _, rfl, ite2 (fun c => ?_) (fun c => ?_)⟩
    · exact qn _ mv
    · rw [ne_nil] at c
      have ej : js = [] := by
        cases js with
        | nil => rfl
        | cons a b => exact absurd rfl c
      clear c hL
      generalize upd H1 z (.lst []) = H2 at s2 mv
      refine ⟨_, rfl, r, _, rfl, .inr (SqT.of (s2 _ _ hR)), _, rfl, p, _, _, _, rfl, rfl, SqT.of (s2 _ _ h1), atI1, tt, ts, rfl, .inr (SqT.of (s2 _ _ h2)), rfl, _, rfl, ite2 (fun c2 => ?_) (fun c2 => ?_)⟩
      · have c2 := V.int.inj (of_decide_eq_true c2)
        rw [List.length_map, h3.1] at c2
        have full : ns.length = ties.length := by omega
        exact ⟨_, rfl, qf _ r ns mv (s2 _ _ hR) ⟨full, num, ev full ej⟩⟩
      · obtain ⟨e, rfl⟩ : ∃ e, d = e + 1 := by
          cases d with
          | zero =>
            refine absurd (decide_eq_true ?_) c2
            rw [List.length_map, h3.1, ← left, Nat.add_zero]
          | succ e => exact ⟨e, rfl⟩
        refine ⟨_, rfl, _, rfl, _, _, rfl, rfl, pot, _, rfl, mv.pot, by omega, by omega, fun H3 st v3 st0 st1 => ?_⟩
        have mv3 := mv.trans v3
        refine ⟨_, rfl, _, _, rfl, rfl, _, rfl, by omega, by omega, ?_⟩
        refine for_range (lo := 0) (n := (k - 1).toNat) (fun i σ H' => ∃ y5 y6, σ = [some (.ref pot), some (.ref p), some (.int k), some (.ref r), some (.int st), y5, y6] ∧ Move pot H H') ⟨none, none, rfl, mv3⟩ ?_ ?_
        · rintro i σ H' hi ⟨y5, y6, rfl, mv'⟩
          have wk := mv'.weak hp
          have x0 := Int.emod_nonneg (st + (0 + (i : Nat))) (show k - 1 ≠ 0 by omega)
          have x1 := Int.emod_lt_of_pos (st + (0 + (i : Nat))) (show 0 < k - 1 by omega)
          refine ⟨_, rfl, _, rfl, _, rfl, _, rfl, _, rfl, _, rfl, _, _, rfl, rfl, _, rfl, _, _, rfl, rfl, _, _, rfl, rfl, (by show 0 < k - 1; omega), _, _, rfl, rfl, (by show 1 ≤ sizeLine; decide), fun t ht => ?_⟩
          refine ⟨r, t, _, _, rfl, rfl, same_new ht _ _ (wk.tup _ _ hR), upd_same, ?_, fun b H4 s4 hb => ?_⟩
          · rw [List.length_map]
            exact Nat.le_of_lt (small1000 (by show ns.length + 1 ≤ 1000; omega))
          · have mv4 := (mv'.then (same_new (o := .tup [.int (1 + (st + (0 + (i : Nat))) % (k - 1))]) ht)).then s4
            have wk4 := mv4.weak hp
            refine ⟨e, pot, p, m, ties, k, b, ns ++ [1 + (st + (0 + (i : Nat))) % (k - 1)], rfl, mv4.pot, k2, k6, hW.weak wk4, W, ?_, fun x hx => ?_, ?_, by omega, fun H5 v5 => ?_, fun H5 q5 fs v5 hq hF => ?_⟩
            · rw [hb, List.map_append]
              rfl
            · rcases List.mem_append.mp hx with g | g
              · exact num x g
              · have : x = 1 + (st + (0 + (i : Nat))) % (k - 1) := by simpa using g
                omega
            · rw [List.length_append, List.length_singleton]
              omega
            · exact ⟨_, rfl, _, rfl, iteF ⟨_, _, rfl, mv4.trans v5⟩⟩
            · exact ⟨_, rfl, _, rfl, iteT ⟨_, rfl, qf H5 q5 fs (mv4.trans v5) hq hF⟩⟩
        · rintro σ H' ⟨y5, y6, rfl, mv'⟩
          exact qn H' mv'
theorem can_some (D : Stands K mg "_law_some_flow" sSome ["_law_pot_here", "_law_web_here", "_law_k", "_law_begun"]) (B : Blt mg) (cS : Can P w K mg base 2 "_law_shut" spShut) (cT : Can P w K mg base 1 "_law_take" spTake) : ∀ d : Nat, Can P w K mg base (d + 3) "_law_some_flow" (spSome d)
  | 0 => can_some0 D B cS
  | d + 1 => can_some1 D B cS cT (can_some D B cS cT d)
end
end Nf
-- text NfM
set_option Elab.async false
set_option linter.all false
set_option maxRecDepth 100000
set_option maxHeartbeats 400000
namespace Nf
open PySem PySem.Spec PyProof.Rows L2 NfR
def rRepB : R2 := fun x y H Q => ∃ l k xs, x = .ref l ∧ y = .int k ∧ H l = some (.tup xs) ∧ xs ≠ [] ∧ 0 ≤ k ∧ k ≤ 1000 ∧ xs.length ≤ 1000 ∧ ∀ q H', Same H H' → H' q = some (.tup (List.replicate k.toNat xs).flatten) → Q (.ref q) H'
theorem op_repB {X : Cx} : OpR X (binaryOp .Mult) rRepB := by
  intro pins s σ H x y v u Q I rx ry h
  obtain ⟨l, k, xs, rfl, rfl, hT, hne, h0, h1, hz, q⟩ := h
  refine op_repA pins s σ H _ _ v u Q I rx ry ⟨l, k, xs, rfl, rfl, SqT.of hT, hne, h0, h1, hz, fun e => ?_, fun _ p hp => q p _ (same_new hp) upd_same⟩
  subst e
  refine q l H (Same.refl H) ?_
  rw [hT]
  show some (HO.tup xs) = some (HO.tup (List.replicate 1 xs).flatten)
  rw [List.replicate_one, List.flatten_singleton]
abbrev sBent : Stmt := top 37
theorem scBent : FnScope ["_law_pot_here", "_law_row", "_law_at", "_law_odd", "_law_some"] ["_law_pot_here", "_law_row"] (defScope sBent) := ⟨rfl, rfl, rfl, by decide +kernel, rfl, by decide +kernel, by decide +kernel⟩

/-- what may be handed in -/
def Known (H : Hp) (v : V) : Prop := ∃ d, Thing H v d
def AnyIt (H : Hp) (v : V) : Prop := ∃ o, Item H v o
theorem Known.weak {H H' : Hp} (s : Weak H H') {v : V} (h : Known H v) : Known H' v := let ⟨d, t⟩ := h; ⟨d, t.weak s⟩
theorem AnyIt.weak {H H' : Hp} (s : Weak H H') {v : V} (h : AnyIt H v) : AnyIt H' v := let ⟨d, t⟩ := h; ⟨d, t.weak s⟩
theorem items_any {H : Hp} : ∀ {xs : List V}, (∀ x ∈ xs, AnyIt H x) → ∃ l : List (Option Int), xs.length = l.length ∧ ∀ (i : Nat) (x : V), xs[i]? = some x → ∃ o, l[i]? = some o ∧ Item H x o
  | [], _ => ⟨[], rfl, fun i x e => by simp at e⟩
  | x :: xs, h => by
    obtain ⟨o, ho⟩ := h x (List.mem_cons_self ..)
    obtain ⟨l, h1, h2⟩ := items_any (xs := xs) fun y hy => h y (List.mem_cons_of_mem _ hy)
    refine ⟨o :: l, by rw [List.length_cons, List.length_cons, h1], fun i y e => ?_⟩
    cases i with
    | zero =>
      have : x = y := Option.some.inj e
      subst this
      exact ⟨o, rfl, ho⟩
    | succ i => exact h2 i y (by simpa using e)
theorem known_tup {H : Hp} {q : Addr} {xs : List V} (e : H q = some (.tup xs)) (few : xs.length ≤ 100) (h : ∀ x ∈ xs, AnyIt H x) : Known H (.ref q) := by
  obtain ⟨l, h1, h2⟩ := items_any h
  exact ⟨some l, .tup e ⟨h1, few, h2⟩⟩
theorem any_ints {H : Hp} (ns : List Int) : ∀ x ∈ ns.map V.int, AnyIt H x := fun x hx => by
  obtain ⟨n, _, rfl⟩ := List.mem_map.mp hx
  exact ⟨_, .int n⟩
theorem known_ints {H : Hp} {q : Addr} {ns : List Int} (e : H q = some (.tup (ns.map V.int))) (few : ns.length ≤ 100) : Known H (.ref q) :=
  known_tup e (by rw [List.length_map]; exact few) (any_ints ns)
/-- an item at a place in bounds is one of them -/
theorem atI_in {xs : List V} {i : Int} (h0 : 0 ≤ i) (h1 : i < (xs.length : Int)) : ∃ v, atI xs i = some v ∧ v ∈ xs := by
  have hi : i.toNat < xs.length := by omega
  refine ⟨xs[i.toNat], ?_, List.getElem_mem hi⟩
  have := atI_nat (List.getElem?_eq_getElem hi)
  rw [Int.toNat_of_nonneg h0] at this
  exact this
def spBent : Sp := fun vs H Q _ => ∃ (pot r : Addr) (ns : List Int), vs = [.ref pot, .ref r] ∧ PotAt H pot ∧ H r = some (.tup (ns.map V.int)) ∧ ns ≠ [] ∧ ns.length ≤ 8 ∧ ∀ (H' : Hp) (v : V), Move pot H H' → Known H' v → Q v H'

section
variable {P : Program} {w : World} {K : PySem.W.Frag} {mg : Str → Option Value} {base : Heap}
theorem can_bent (D : Stands K mg "_law_bent" sBent ["_law_pot_here", "_law_row"]) (B : Blt mg) (cT : Can P w K mg base 1 "_law_take" spTake) : Can P w K mg base 2 "_law_bent" spBent := by
  refine D.can scBent (fun vs H Q E h => ?_) (fun f cdv A outer s H vs Q E hr h => ?_)
  · obtain ⟨pot, r, ns, rfl, _⟩ := h
    rfl
  · obtain ⟨pot, r, ns, rfl, hp, hR, hne, few, q⟩ := h
    have npos : 0 < ns.length := by
      cases ns with
      | nil => exact absurd rfl hne
      | cons a b => exact Nat.succ_pos _
    have lenm : (ns.map V.int).length = ns.length := List.length_map ..
    refine ⟨_, pss_cons (ps_set (i := 2) scBent.nd rfl (Or.inl rfl) (pcall cT hr (pa_cons (pv 0) (pa_cons (pe_callB call_len_seq (by rfl) B.len PySem.boot_len (pa_cons (pv 1) pa_nil)) pa_nil))))
      (pss_cons (ps_set (i := 3) scBent.nd rfl (Or.inl rfl) (pe_ix ix_list (pe_lst (pa_cons pe_int (pa_cons (pe_op op_add (pe_ix ix_tup (pv 1) (pv 2) (fun _ _ => rfl)) pe_int) (pa_cons (pe_op op_sub pe_int (pe_ix ix_tup (pv 1) (pv 2) (fun _ _ => rfl))) (pa_cons pe_bl (pa_cons pe_non (pa_cons pe_str
          (pa_cons (pe_op op_pow pe_int pe_int) (pa_cons (pe_tup (pa_cons pe_int pa_nil)) (pa_cons (pe_op op_sub pe_int (pe_op op_pow pe_int pe_int)) (pa_cons pe_int pa_nil)))))))))))
          (pcall cT hr (pa_cons (pv 0) (pa_cons pe_int pa_nil))) (fun _ _ => rfl)))
      (pss_cons (ps_set (i := 4) scBent.nd rfl (Or.inl rfl) (pe_lst (pa_cons (pe_op op_catB (pe_op op_catB (pe_slice sl_tupB (pv 1) po_none (po_some (pv 2))) (pe_tup (pa_cons (pv 3) pa_nil))) (pe_slice sl_tupB (pv 1) (po_some (pe_op op_add (pv 2) pe_int)) po_none))
          (pa_cons (pe_op op_catB (pv 1) (pe_tup (pa_cons pe_int pa_nil))) (pa_cons (pe_slice sl_tupB (pv 1) (po_some pe_int) po_none) (pa_cons (pe_callTy call_list_of (by rfl) B.list (by decide +kernel) (pa_cons (pv 1) pa_nil))
          (pa_cons (pe_tup (pa_cons (pv 1) pa_nil)) (pa_cons pe_non (pa_cons pe_str (pa_cons pe_dnewK pa_nil))))))))))
      (pss_one (ps_ret (pe_ix ix_list (pv 4) (pcall cT hr (pa_cons (pv 0) (pa_cons pe_int pa_nil))) (fun _ _ => rfl)))))), ?_⟩
    -- at
    refine ⟨_, rfl, _, rfl, r, _, rfl, .inr (SqT.of hR), pot, _, rfl, hp, by omega, by omega, fun H1 x v1 x0 x1 => ?_⟩
    rw [lenm] at x1
    have w1 := v1.weak hp
    obtain ⟨n, hn⟩ : ∃ n, ns[x.toNat]? = some n := ⟨_, List.getElem?_eq_getElem (by omega)⟩
    have gx : atI (ns.map V.int) x = some (.int n) := by
      have := atI_nat (ints_get hn)
      rw [Int.toNat_of_nonneg x0] at this
      exact this
    have r1 := w1.tup _ _ hR
    -- odd
    refine ⟨_, rfl, _, rfl, r, _, _, _, rfl, rfl, SqT.of r1, gx, _, _, rfl, rfl, _, rfl, _, rfl, r, _, _, _, rfl, rfl, SqT.of r1, gx, _, _, rfl, rfl, _, _, rfl, rfl, ⟨by decide, by decide, by decide⟩, (by show 1 ≤ sizeLine; decide), fun t1 ht1 => ?_⟩
    have s1 : Same H1 (upd H1 t1 (.tup [.int 1])) := same_new ht1
    refine ⟨_, _, rfl, rfl, ⟨by decide, by decide, by decide⟩, _, _, rfl, rfl, (by show 10 ≤ sizeLine; decide), fun lo hlo => ?_⟩
    have s2 := same_new (o := .lst [.int 0, .int (n + 1), .int (0 - n), .bl true, .non, .str "1", .int (10 ^ (30 : Int).toNat), .ref t1, .int (0 - 10 ^ (30 : Int).toNat), .int 7]) hlo
    have m2 := (v1.then s1).then s2
    have nlo : lo ≠ pot := fun e => by
      obtain ⟨c, hc⟩ := (v1.then s1).pot
      rw [e, hc] at hlo
      cases hlo
    have hlo2 : (upd (upd H1 t1 (.tup [.int 1])) lo (.lst [.int 0, .int (n + 1), .int (0 - n), .bl true, .non, .str "1", .int (10 ^ (30 : Int).toNat), .ref t1, .int (0 - 10 ^ (30 : Int).toNat), .int 7])) lo = some (.lst [.int 0, .int (n + 1), .int (0 - n), .bl true, .non, .str "1", .int (10 ^ (30 : Int).toNat), .ref t1, .int (0 - 10 ^ (30 : Int).toNat), .int 7]) := upd_same
    have ht2 : (upd (upd H1 t1 (.tup [.int 1])) lo (.lst [.int 0, .int (n + 1), .int (0 - n), .bl true, .non, .str "1", .int (10 ^ (30 : Int).toNat), .ref t1, .int (0 - 10 ^ (30 : Int).toNat), .int 7])) t1 = some (.tup [.int 1]) := s2 _ _ upd_same
    refine ⟨_, rfl, pot, 10, rfl, m2.pot, by decide, by decide, fun H2 i v2 i0 i1 => ?_⟩
    have mv2 := m2.trans v2
    have any : ∀ v ∈ ([.int 0, .int (n + 1), .int (0 - n), .bl true, .non, .str "1", .int (10 ^ (30 : Int).toNat), .ref t1, .int (0 - 10 ^ (30 : Int).toNat), .int 7] : List V), AnyIt H2 v := fun v hv => by
      have ht3 := (v2.weak m2.pot).tup _ _ ht2
      simp only [List.mem_cons, List.not_mem_nil, or_false] at hv
      rcases hv with rfl | rfl | rfl | rfl | rfl | rfl | rfl | rfl | rfl | rfl
      · exact ⟨_, .int _⟩
      · exact ⟨_, .int _⟩
      · exact ⟨_, .int _⟩
      · exact ⟨_, .bl _⟩
      · exact ⟨_, .non⟩
      · exact ⟨_, .str _⟩
      · exact ⟨_, .int _⟩
      · exact ⟨_, .tup ht3⟩
      · exact ⟨_, .int _⟩
      · exact ⟨_, .int _⟩
    have hlo3 := v2.keep _ _ nlo hlo2
    obtain ⟨odd, go, om⟩ := atI_in (xs := [.int 0, .int (n + 1), .int (0 - n), .bl true, .non, .str "1", .int (10 ^ (30 : Int).toNat), .ref t1, .int (0 - 10 ^ (30 : Int).toNat), .int 7]) i0 i1
    refine ⟨lo, _, i, odd, rfl, rfl, SqL.of hlo3, go, ?_⟩
    have hodd := any odd om
    have r2 := (mv2.weak hp).tup _ _ hR
    clear any go om hlo3 hlo2 ht2 nlo s1 s2 ht1 hlo m2 v2 r1 w1 v1 gx hn i0 i1
    -- some
    refine ⟨_, rfl, _, rfl, _, rfl, r, _, rfl, r2, fun q1 H3 s3 hq1 => ⟨_, rfl, (by show 1 ≤ sizeLine; decide), fun q2 hq2 => ?_⟩⟩
    have s4 : Same H3 (upd H3 q2 (.tup [odd])) := same_new hq2
    refine ⟨q1, q2, _, _, rfl, rfl, s4 _ _ hq1, upd_same, Nat.le_of_lt (small1000 (by have := cut_le (ns.map V.int) none (some x); show _ + 1 ≤ 1000; omega)), fun q3 H5 s5 hq3 => ?_⟩
    have s35 := s3.trans (s4.trans s5)
    refine ⟨_, rfl, _, rfl, _, _, rfl, rfl, _, rfl, r, _, rfl, s35 _ _ r2, fun q4 H6 s6 hq4 => ?_⟩
    have s36 := s35.trans s6
    refine ⟨q3, q4, _, _, rfl, rfl, s6 _ _ hq3, hq4, Nat.le_of_lt (small1000 (by
      have := cut_le (ns.map V.int) none (some x)
      have := cut_le (ns.map V.int) (some (x + 1)) none
      rw [List.length_append]
      show _ + 1 + _ ≤ 1000
      omega)), fun q5 H7 s7 hq5 => ?_⟩
    have s37 := s36.trans s7
    have k1 : Known H7 (.ref q5) := by
      refine known_tup hq5 ?_ fun y hy => ?_
      · have := cut_le (ns.map V.int) none (some x)
        have := cut_le (ns.map V.int) (some (x + 1)) none
        rw [List.length_append, List.length_append]
        show _ + 1 + _ ≤ 100
        omega
      · rcases List.mem_append.mp hy with g | g
        · rcases List.mem_append.mp g with g | g
          · exact any_ints ns y (cut_sub _ _ _ y g)
          · have : y = odd := by simpa using g
            subst this
            exact hodd.weak (Nf.Same.weak s37)
        · exact any_ints ns y (cut_sub _ _ _ y g)
    -- row + (1,)
    refine ⟨_, rfl, (by show 1 ≤ sizeLine; decide), fun q6 hq6 => ?_⟩
    have s8 : Same H7 (upd H7 q6 (.tup [.int 1])) := same_new hq6
    refine ⟨r, q6, _, _, rfl, rfl, (s37.trans s8) _ _ r2, upd_same, Nat.le_of_lt (small1000 (by show _ + 1 ≤ 1000; omega)), fun q7 H8 s9 hq7 => ?_⟩
    have k2 : Known H8 (.ref q7) := by
      refine known_tup hq7 ?_ fun y hy => ?_
      · rw [List.length_append]
        show _ + 1 ≤ 100
        omega
      · rcases List.mem_append.mp hy with g | g
        · exact any_ints ns y g
        · have : y = .int 1 := by simpa using g
          subst this
          exact ⟨_, .int 1⟩
    have s78 := s8.trans s9
    have s38 := s37.trans s78
    -- row[1:], list(row)
    refine ⟨_, rfl, _, rfl, r, _, rfl, s38 _ _ r2, fun q8 H9 s10 hq8 => ?_⟩
    have s39 := s38.trans s10
    have k3 : Known H9 (.ref q8) := known_tup hq8 (by have := cut_le (ns.map V.int) (some 1) none; omega) fun y hy => any_ints ns y (cut_sub _ _ _ y hy)
    refine ⟨_, rfl, r, _, rfl, .inr (SqT.of (s39 _ _ r2)), fun q9 hq9 => ?_⟩
    have s11 : Same H9 (upd H9 q9 (.lst (ns.map V.int))) := same_new hq9
    -- (row,), {}
    refine ⟨_, rfl, (by show 1 ≤ sizeLine; decide), fun q10 hq10 => ?_⟩
    have s12 : Same (upd H9 q9 (.lst (ns.map V.int))) (upd (upd H9 q9 (.lst (ns.map V.int))) q10 (.tup [.ref r])) := same_new hq10
    intro q11 hq11
    have s13 := same_new (o := .dK []) hq11
    refine ⟨(by show 8 ≤ sizeLine; decide), fun ls hls => ?_⟩
    have s14 := same_new (o := .lst [.ref q5, .ref q7, .ref q8, .ref q9, .ref q10, .non, .str "", .ref q11]) hls
    have all := s10.trans (s11.trans (s12.trans (s13.trans s14)))
    have hat : (upd (upd (upd (upd H9 q9 (.lst (ns.map V.int))) q10 (.tup [.ref r])) q11 (.dK [])) ls (.lst [.ref q5, .ref q7, .ref q8, .ref q9, .ref q10, .non, .str "", .ref q11])) ls = some (.lst [.ref q5, .ref q7, .ref q8, .ref q9, .ref q10, .non, .str "", .ref q11]) := upd_same
    have hq9' := (s12.trans (s13.trans s14)) _ _ upd_same
    have hq10' := (s13.trans s14) _ _ upd_same
    have hq11' := s14 _ _ upd_same
    have rr := (s39.trans (s11.trans (s12.trans (s13.trans s14)))) _ _ r2
    have mvE := mv2.then (s38.trans all)
    have nls : ls ≠ pot := fun e => by
      obtain ⟨c, hc⟩ := (mv2.then (s38.trans (s10.trans (s11.trans (s12.trans s13))))).pot
      rw [e, hc] at hls
      cases hls
    have k1' := k1.weak (Nf.Same.weak (s78.trans all))
    have k2' := k2.weak (Nf.Same.weak all)
    have k3' := k3.weak (Nf.Same.weak (s11.trans (s12.trans (s13.trans s14))))
    generalize (upd (upd (upd (upd H9 q9 (.lst (ns.map V.int))) q10 (.tup [.ref r])) q11 (.dK [])) ls (.lst [.ref q5, .ref q7, .ref q8, .ref q9, .ref q10, .non, .str "", .ref q11])) = G at hat hq9' hq10' hq11' rr mvE k1' k2' k3'
    refine ⟨_, rfl, _, rfl, pot, 8, rfl, mvE.pot, by decide, by decide, fun G2 j v3 j0 j1 => ?_⟩
    have w3 := v3.weak mvE.pot
    have known : ∀ v ∈ ([.ref q5, .ref q7, .ref q8, .ref q9, .ref q10, .non, .str "", .ref q11] : List V), Known G v := fun v hv => by
      simp only [List.mem_cons, List.not_mem_nil, or_false] at hv
      rcases hv with rfl | rfl | rfl | rfl | rfl | rfl | rfl | rfl
      · exact k1'
      · exact k2'
      · exact k3'
      · exact ⟨_, .lst hq9'⟩
      · exact known_tup hq10' (by show 1 ≤ 100; decide) fun y hy => by
          have : y = .ref r := by simpa using hy
          subst this
          exact ⟨_, .tup rr⟩
      · exact ⟨_, .non⟩
      · exact ⟨_, .str _⟩
      · exact ⟨_, .dK hq11'⟩
    obtain ⟨v, gv, vm⟩ := atI_in (xs := [.ref q5, .ref q7, .ref q8, .ref q9, .ref q10, .non, .str "", .ref q11]) j0 j1
    exact ⟨ls, _, j, v, rfl, rfl, SqL.of (v3.keep _ _ nls hat), gv, q G2 v (mvE.trans v3) ((known v vm).weak w3)⟩
end
end Nf
-- text NfN
set_option Elab.async false
set_option linter.all false
set_option maxRecDepth 100000
set_option maxHeartbeats 1000000
namespace Nf
open PySem PySem.Spec PyProof.Rows L2 NfR
abbrev sLaw : Stmt := top 38
theorem scLaw : FnScope ["_law_script", "_law_at", "_law_pot_here", "_law_web_here", "_law_k", "_law_things", "_law_flow", "_law_whole_here", "_law_drawn", "_law_thing", "_law_found", "_law_tie", "_law_number", "_law_one"] ["_law_script"] (defScope sLaw) := ⟨rfl, rfl, rfl, by decide +kernel, rfl, by decide +kernel, by decide +kernel⟩
def spLaw (K : PySem.W.Frag) : Sp := fun vs H Q _ => ∃ (a : Addr) (ns : List Int), vs = [.ref a] ∧ SqL K H a (ns.map V.int) ∧ ns.length ≤ 63 ∧ ∀ H', Q (.bl true) H'

/-- behind the pot's making all that stood stands -/
theorem Move.since {pot : Addr} {H0 H1 H2 : Hp} (n : H0 pot = none) (s : Same H0 H1) (v : Move pot H1 H2) : Same H0 H2 := fun b o e => v.keep b o (ne_of_none e n) (s _ _ e)
/-- a new thing at p, and the list l filled with known things -/
structure Things (H : Hp) (pot l : Addr) (H' : Hp) (xs : List V) : Prop where
  mv : Move pot H H'
  at_ : H' l = some (.lst xs)
  nl : l ≠ pot
  kn : ∀ x ∈ xs, Known H' x
  few : xs.length ≤ 100
theorem Things.move {H H1 H2 : Hp} {pot l : Addr} {xs : List V} (t : Things H pot l H1 xs) (v : Move pot H1 H2) : Things H pot l H2 xs :=
  ⟨t.mv.trans v, v.keep _ _ t.nl t.at_, t.nl, fun x hx => (t.kn x hx).weak (v.weak t.mv.pot), t.few⟩
theorem Things.same {H H1 H2 : Hp} {pot l : Addr} {xs : List V} (t : Things H pot l H1 xs) (s : Same H1 H2) : Things H pot l H2 xs := t.move (Move.of t.mv.pot s)
theorem Things.fresh {H H1 : Hp} {pot l : Addr} {xs : List V} (mv : Move pot H H1) (hl : H1 l = none) (kn : ∀ x ∈ xs, Known H1 x) (few : xs.length ≤ 100) : Things H pot l (upd H1 l (.lst xs)) xs := by
  refine ⟨mv.then (same_new hl), upd_same, fun e => ?_, fun x hx => (kn x hx).weak (Nf.Same.weak (same_new hl)), few⟩
  obtain ⟨c, hc⟩ := mv.pot
  rw [e, hc] at hl
  cases hl
theorem eq_tup_nil (ns : List Int) : PyData.eqv (.tuple (ns.map PyData.int)) (.tuple []) = ns.isEmpty := by
  cases ns with
  | nil => rfl
  | cons a r => rfl
theorem tup_shaped (ns : List Int) : SeqAt.shaped (.tuple (ns.map PyData.int)) = true := by
  obtain ⟨h1, h2⟩ := ints_lay ns
  show (PyData.canLayAll0 (ns.map PyData.int) && decide (PyData.depthAll (ns.map PyData.int) + 1 ≤ 64)) = true
  rw [h1, h2]
  rfl
theorem turns_le (n : Nat) : 0 ≤ (if (if (5 : Int) < (n : Int) then 5 else (n : Int)) > 1 then (if (5 : Int) < (n : Int) then 5 else (n : Int)) else 1) ∧ (if (if (5 : Int) < (n : Int) then 5 else (n : Int)) > 1 then (if (5 : Int) < (n : Int) then 5 else (n : Int)) else 1) ≤ 5 := by
  by_cases h : (5 : Int) < (n : Int)
  · rw [if_pos h, if_pos (by omega)]
    omega
  · rw [if_neg h]
    by_cases h2 : (n : Int) > 1
    · rw [if_pos h2]
      omega
    · rw [if_neg h2]
      omega
theorem zeros_tup (n : Nat) : (List.replicate ((n : Nat) : Int).toNat [V.int 0]).flatten = (List.replicate n (0 : Int)).map V.int := zeros n

section
variable {P : Program} {w : World} {K : PySem.W.Frag} {mg : Str → Option Value} {base : Heap}
theorem fn_law {f : Addr} {fd : FuncData} (F : Fun K "law" "law" sLaw f fd) (B : Blt mg) (cCell : Can P w K mg base 1 "_law_cell_at" (spCell K)) (cPot : Can P w K mg base 1 "_law_pot" spPot) (cWeb : Can P w K mg base 3 "_law_web" spWeb) (cT : Can P w K mg base 1 "_law_take" spTake)
    (cLone : Can P w K mg base 2 "_law_lone" spLone) (cSome : Can P w K mg base 11 "_law_some_flow" (spSome 8)) (cOf : Can P w K mg base 7 "whole_of" spWholeOf) (cBent : Can P w K mg base 2 "_law_bent" spBent) (cWF : Can P w K mg base 4 "is_whole_flow" spWF) (cLWF : Can P w K mg base 3 "_law_is_whole_flow" spWF) :
    FnOk P w K mg base CX0 12 f fd ["_law_script"] (spLaw K) := by
  refine F.ok scLaw (fun vs H Q E h => ?_) (fun cdv A outer s H vs Q E hr h => ?_)
  · obtain ⟨a, ns, rfl, _⟩ := h
    rfl
  · obtain ⟨a, ns, rfl, hS, hlen, q⟩ := h
    have cCell := cCell.mono (by decide : 1 ≤ 11)
    have cPot := cPot.mono (by decide : 1 ≤ 11)
    have cWeb := cWeb.mono (by decide : 3 ≤ 11)
    have cT := cT.mono (by decide : 1 ≤ 11)
    have cLone := cLone.mono (by decide : 2 ≤ 11)
    have cOf := cOf.mono (by decide : 7 ≤ 11)
    have cBent := cBent.mono (by decide : 2 ≤ 11)
    have cWF := cWF.mono (by decide : 4 ≤ 11)
    have cLWF := cLWF.mono (by decide : 3 ≤ 11)
    refine ⟨_, pss_cons (ps_for PassesOwn.never rfl (pi_range1 rfl B.range (pa_cons (pe_callB (call_max2 rfl) (by rfl) B.max (by decide +kernel) (pa_cons pe_int (pa_cons (pe_callB (call_min2 rfl) (by rfl) B.min (by decide +kernel) (pa_cons (pe_callB call_len_seq (by rfl) B.len PySem.boot_len (pa_cons (pv 0) pa_nil)) (pa_cons pe_int pa_nil))) pa_nil))) pa_nil)) (pg_name (i := 1) scLaw.nd rfl (.inl rfl))
        (pss_cons (ps_set (i := 2) scLaw.nd rfl (Or.inr rfl) (pcall cPot hr (pa_cons (pcall cCell hr (pa_cons (pv 0) (pa_cons (pv 1) pa_nil))) pa_nil)))
        (pss_cons (ps_set (i := 3) scLaw.nd rfl (Or.inl rfl) (pcall cWeb hr (pa_cons (pv 2) (pa_cons pe_int (pa_cons pe_int pa_nil)))))
        (pss_cons (ps_set (i := 4) scLaw.nd rfl (Or.inr rfl) (pe_op op_add pe_int (pcall cT hr (pa_cons (pv 2) (pa_cons pe_int pa_nil)))))
        (pss_cons (ps_set (i := 5) scLaw.nd rfl (Or.inl rfl) (pe_lst (pa_cons (pe_tup pa_nil) (pa_cons (pe_op op_repB (pe_tup (pa_cons pe_int pa_nil)) (pe_callB call_len_seq (by rfl) B.len PySem.boot_len (pa_cons (pe_ix ix_tup (pv 3) pe_int (fun _ _ => rfl)) pa_nil)))
          (pa_cons (pe_callTy call_tuple_of (by rfl) B.tuple (by decide +kernel) (pa_cons (pe_lc (own := [("_law_tie", 11)]) (g := gName 11) (tt := tYes) rfl scLaw.nd (pi_tup (pe_ix ix_tup (pv 3) pe_int (fun _ _ => rfl)))
              (blkOk_by (N := ["_law_script", "_law_at", "_law_pot_here", "_law_web_here", "_law_k", "_law_things", "_law_flow", "_law_whole_here", "_law_drawn", "_law_thing", "_law_found", "_law_tie", "_law_number", "_law_one"]) (sc := defScope sLaw) (by decide +kernel))
              (fun _ _ _ _ _ => pg_name (i := 11) scLaw.nd rfl (Or.inl rfl)) (fun _ _ _ _ _ => pts_nil)
              (fun _ _ _ _ _ => pe_op op_sub (pcall cT hr (pa_cons (pv 2) (pa_cons (pe_op op_add (pe_op op_mul pe_int (pv 4)) pe_int) pa_nil))) (pv 4))) pa_nil)) pa_nil)))))
        (pss_cons (ps_set (i := 6) scLaw.nd rfl (Or.inl rfl) pe_non)
        (C8.pss_cut (ps_if (pt_cmpR (op_eqD hr.units) (pcall cLone hr (pa_cons (pv 3) pa_nil)) (pe_lst pa_nil) (nomark _)) (pss_one (ps_set (i := 6) scLaw.nd rfl (Or.inl rfl) (pcall cSome hr (pa_cons (pv 2) (pa_cons (pv 3) (pa_cons (pv 4) (pa_cons (pe_tup pa_nil) pa_nil))))))) pss_nil)
        (C8.pss_cut (ps_if (pt_cmp (pc_notN (pv 6)))
          (pss_cons (ps_set (i := 7) scLaw.nd rfl (Or.inl rfl) (pcall cOf hr (pa_cons (pv 3) (pa_cons (pv 4) (pa_cons (pv 6) pa_nil)))))
          (pss_cons (ps_set (i := 8) scLaw.nd rfl (Or.inl rfl) (pe_callTy call_tuple_of (by rfl) B.tuple (by decide +kernel) (pa_cons (pe_lc (own := [("_law_number", 12)]) (g := gName 12) (tt := tYes) rfl scLaw.nd (pi_tup (pv 6))
              (blkOk_by (N := ["_law_script", "_law_at", "_law_pot_here", "_law_web_here", "_law_k", "_law_things", "_law_flow", "_law_whole_here", "_law_drawn", "_law_thing", "_law_found", "_law_tie", "_law_number", "_law_one"]) (sc := defScope sLaw) (by decide +kernel))
              (fun _ _ _ _ _ => pg_name (i := 12) scLaw.nd rfl (Or.inl rfl)) (fun _ _ _ _ _ => pts_nil)
              (fun _ _ _ _ _ => pe_op op_sub (pv 12) (pe_op op_mul (pv 4) (pcall cT hr (pa_cons (pv 2) (pa_cons pe_int pa_nil)))))) pa_nil)))
          (pss_cons (ps_set (i := 5) scLaw.nd rfl (Or.inl rfl) (pe_op op_cat (pv 5) (pe_lst (pa_cons (pv 6) (pa_cons (pv 8) (pa_cons (pv 7)
            (pa_cons (pe_callTy call_tuple_of (by rfl) B.tuple (by decide +kernel) (pa_cons (pe_lc (own := [("_law_one", 13)]) (g := gName 13) (tt := tYes) rfl scLaw.nd (pi_tup (pv 7))
                (blkOk_by (N := ["_law_script", "_law_at", "_law_pot_here", "_law_web_here", "_law_k", "_law_things", "_law_flow", "_law_whole_here", "_law_drawn", "_law_thing", "_law_found", "_law_tie", "_law_number", "_law_one"]) (sc := defScope sLaw) (by decide +kernel))
                (fun _ _ _ _ _ => pg_name (i := 13) scLaw.nd rfl (Or.inl rfl)) (fun _ _ _ _ _ => pts_nil) (fun _ _ _ _ _ => pe_op op_sub pe_int (pv 13))) pa_nil))
            (pa_cons (pe_callTy call_tuple_of (by rfl) B.tuple (by decide +kernel) (pa_cons (pe_lc (own := [("_law_one", 13)]) (g := gName 13) (tt := tYes) rfl scLaw.nd (pi_tup (pv 7))
                (blkOk_by (N := ["_law_script", "_law_at", "_law_pot_here", "_law_web_here", "_law_k", "_law_things", "_law_flow", "_law_whole_here", "_law_drawn", "_law_thing", "_law_found", "_law_tie", "_law_number", "_law_one"]) (sc := defScope sLaw) (by decide +kernel))
                (fun _ _ _ _ _ => pg_name (i := 13) scLaw.nd rfl (Or.inl rfl)) (fun _ _ _ _ _ => pts_nil) (fun _ _ _ _ _ => pe_op op_mul pe_int (pv 13))) pa_nil)) pa_nil))))))))
          (pss_one (ps_if (pt_cmpR (op_neD hr.units) (pv 7) (pe_tup pa_nil) (nomark _))
            (pss_one (ps_set (i := 5) scLaw.nd rfl (Or.inl rfl) (pe_op op_cat (pv 5) (pe_lst (pa_cons (pcall cBent hr (pa_cons (pv 2) (pa_cons (pv 7) pa_nil))) (pa_cons (pcall cBent hr (pa_cons (pv 2) (pa_cons (pv 7) pa_nil))) (pa_cons (pcall cBent hr (pa_cons (pv 2) (pa_cons (pv 6) pa_nil))) (pa_cons (pv 7) pa_nil)))))))) pss_nil))))) pss_nil)
        (pss_one (ps_for PassesOwn.never rfl (pi_list (pv 5)) (pg_name (i := 9) scLaw.nd rfl (.inl rfl))
          (pss_cons (ps_set (i := 10) scLaw.nd rfl (Or.inl rfl) (pcall cWF hr (pa_cons (pv 3) (pa_cons (pv 4) (pa_cons (pv 9) pa_nil)))))
          (pss_one (ps_if (PW.pt (pw_or (pt_not (pt_val (pe_callB call_isi (by rfl) B.isinstance (by decide +kernel) (pa_cons (pv 10) (pa_cons (pe_bltn (v := .ty "bool") (by rfl) B.bool (by decide +kernel) rfl) pa_nil)))))
              (pw_or1 (pt_cmpR op_ne (pv 10) (pcall cLWF hr (pa_cons (pv 3) (pa_cons (pv 4) (pa_cons (pv 9) pa_nil)))) (nomark _))))) (pss_one (ps_ret pe_bl)) pss_nil)))))))))))))
      (pss_one (ps_ret pe_bl)), ?_⟩
    refine ⟨_, rfl, a, _, rfl, .inl hS, _, _, rfl, _, _, rfl, ?_⟩
    have tle := turns_le (ns.map V.int).length
    generalize (if (if (5 : Int) < ((ns.map V.int).length : Int) then 5 else ((ns.map V.int).length : Int)) > 1 then (if (5 : Int) < ((ns.map V.int).length : Int) then 5 else ((ns.map V.int).length : Int)) else 1) = turns at tle
    refine ⟨_, rfl, by omega, by omega, for_range (lo := 0) (n := turns.toNat) (fun i σ H' => ∃ y1 y2 y3 y4 y5 y6 y7 y8 y9 y10, σ = [some (.ref a), y1, y2, y3, y4, y5, y6, y7, y8, y9, y10, none, none, none] ∧ Same H H')
      ⟨_, _, _, _, _, _, _, _, _, _, rfl, Same.refl H⟩ ?_ (fun σ H' ⟨_, _, _, _, _, _, _, _, _, _, e, _⟩ => q H')⟩
    rintro i σ H0 hi ⟨y1, y2, y3, y4, y5, y6, y7, y8, y9, y10, rfl, sm⟩
    have i0 : (0 : Int) ≤ 0 + (i : Nat) := by omega
    generalize (0 : Int) + (i : Nat) = at_ at i0
    -- pot, web, k
    refine ⟨_, rfl, _, rfl, a, ns, at_, rfl, i0, sm.seq hS, fun cell => ⟨cell, rfl, fun H1 pot pn s1 hpot hP => ?_⟩⟩
    have P1 : PotAt H1 pot := ⟨pn, hP⟩
    refine ⟨_, rfl, pot, rfl, P1, fun H2 p m ties v2 _ hW2 W => ?_⟩
    refine ⟨_, rfl, pot, 5, rfl, v2.pot, by decide, by decide, fun H3 x v3 x0 x5 => ⟨_, _, rfl, rfl, ?_⟩⟩
    show gName 4 (V.int (2 + x)) _ H3 _
    obtain ⟨k, hk⟩ : ∃ k : Int, 2 + x = k := ⟨_, rfl⟩
    rw [hk]
    have k2 : 2 ≤ k := by omega
    have k6 : k ≤ 6 := by omega
    clear hk x0 x5
    have mv3 := v2.trans v3
    have hW3 := hW2.weak (v3.weak v2.pot)
    have few := W.few
    clear v2 v3 hW2
    have hW3' := hW3
    obtain ⟨tt, ts, h1, h2, h3⟩ := hW3'
    -- things
    refine ⟨Nat.zero_le _, fun t0 ht0 => ⟨(by show 1 ≤ sizeLine; decide), fun t1 ht1 => ?_⟩⟩
    have s4 : Same H3 (upd H3 t0 (.tup [])) := same_new ht0
    have s5 : Same (upd H3 t0 (.tup [])) (upd (upd H3 t0 (.tup [])) t1 (.tup [.int 0])) := same_new ht1
    have s45 := s4.trans s5
    refine ⟨_, rfl, p, _, _, _, rfl, rfl, SqT.of (s45 _ _ h1), atI1, tt, ts, rfl, .inr (SqT.of (s45 _ _ h2)), t1, _, _, rfl, rfl, upd_same, (by intro z; cases z), by omega, by rw [h3.1]; omega, (by decide), fun q2 H6 s6 hq2 => ?_⟩
    have s36 := s45.trans s6
    have mv6 := mv3.then s36
    have ht0' : H6 t0 = some (.tup []) := (s5.trans s6) _ _ upd_same
    have h16 := s36 _ _ h1
    have h26 := s36 _ _ h2
    rw [zeros_tup] at hq2
    have hW6 := hW3.same s36
    clear s36 s45 s5 s4 s6 ht1 ht0 hW3 h1 h2
    refine ⟨_, rfl, p, _, _, _, rfl, rfl, SqT.of h16, atI1, tt, rfl, ⟨_, SqT.of h26⟩, fun Da hD => lc_tup (K := K) (a := tt) (xs := ts) (fun i H' => Move pot H6 H' ∧ ∃ ms : List Int, H' Da = some (.lst (ms.map V.int)) ∧ ms.length = i)
      ⟨Move.of mv6.pot (same_new hD), [], upd_same, rfl⟩ (fun i H' _ ⟨mv, _⟩ => SqT.of ((mv.weak mv6.pot).tup _ _ h26)) ?_ ?_⟩
    · rintro i x H' hx ⟨mv, ms, hDa, hl⟩
      have nD : Da ≠ pot := fun e => by
        obtain ⟨c, hc⟩ := mv6.pot
        rw [e, hc] at hD
        cases hD
      have il : i < ts.length := (List.getElem?_eq_some_iff.mp hx).1
      refine ⟨rfl, _, rfl, _, rfl, _, _, rfl, rfl, .inl ⟨by decide, by decide⟩, _, _, rfl, rfl, pot, _, rfl, mv.pot, by omega, by omega, fun H'' y vv y0 y1 => ?_⟩
      have hD2 := vv.keep _ _ nD hDa
      refine ⟨_, rfl, _, _, rfl, rfl, _, hD2, by rw [List.length_map]; exact small1000 (by have := h3.1; omega), ⟨fun b o nb e => ?_, ?_⟩, ms ++ [y - k], ?_, by rw [List.length_append, hl]; rfl⟩
      · rw [upd_ne (ne_of_none e hD)]
        exact (mv.trans vv).keep _ _ nb e
      · obtain ⟨c, hc⟩ := vv.pot
        exact ⟨c, by rw [upd_ne (Ne.symm nD)]; exact hc⟩
      · rw [upd_same, List.map_append]
        rfl
    · rintro H7 ⟨mv7, ms, hDa, hml⟩
      refine ⟨Da, _, rfl, .inl ⟨SqL.of hDa, fun t3 ht3 => ⟨(by show 3 ≤ sizeLine; decide), fun l hl => ?_⟩⟩⟩
      have sA : Same H7 (upd H7 t3 (.tup (ms.map V.int))) := same_new ht3
      have sB := same_new (o := .lst [.ref t0, .ref q2, .ref t3]) hl
      have wk := ((mv7.weak mv6.pot).trans (Nf.Same.weak (sA.trans sB)))
      have mvG := (mv6.trans mv7).then (sA.trans sB)
      have hWG := hW6.weak wk
      have th : Things H1 pot l (upd (upd H7 t3 (.tup (ms.map V.int))) l (.lst [.ref t0, .ref q2, .ref t3])) [.ref t0, .ref q2, .ref t3] := by
        refine ⟨mvG, upd_same, fun e => ?_, fun y hy => ?_, (by show 3 ≤ 100; decide)⟩
        · obtain ⟨c, hc⟩ := ((mv6.trans mv7).then sA).pot
          rw [e, hc] at hl
          cases hl
        · simp only [List.mem_cons, List.not_mem_nil, or_false] at hy
          rcases hy with rfl | rfl | rfl
          · exact known_ints (ns := []) (wk.tup _ _ ht0') (by decide)
          · exact known_ints (wk.tup _ _ hq2) (by rw [List.length_replicate, h3.1]; omega)
          · exact known_ints (sB _ _ upd_same) (by have := h3.1; omega)
      generalize upd (upd H7 t3 (.tup (ms.map V.int))) l (.lst [.ref t0, .ref q2, .ref t3]) = G at th hWG
      have x3 : ([.ref t0, .ref q2, .ref t3] : List V).length = 3 := rfl
      generalize ([.ref t0, .ref q2, .ref t3] : List V) = xs0 at th x3
      clear wk mvG sA sB hl ht3 hDa hml mv7 hD hq2 h16 h26 ht0' hW6 mv6 mv3 h3
      clear H7 ms t3 Da H6 q2 t1 t0 H3 H2 tt ts
      -- if lone(web) == []
      refine ⟨fun σ G' => ∃ v6, σ = [some (.ref a), some (.int at_), some (.ref pot), some (.ref p), some (.int k), some (.ref l), some v6, y7, y8, y9, y10, none, none, none] ∧ Things H1 pot l G' xs0 ∧ WebAt G' p m ties ∧ (v6 = .non ∨ ∃ (q : Addr) (fs : List Int), v6 = .ref q ∧ G' q = some (.tup (fs.map V.int)) ∧ FlowOk m ties k fs), ?_, ?_⟩
      · refine ⟨_, rfl, p, m, ties, rfl, hWG, W, fun G1 lz js sz hlz hL => ⟨Nat.zero_le _, fun z hz => ?_⟩⟩
        have sz2 := sz.trans (same_new (o := .lst []) hz)
        refine ⟨.list (js.map PyData.int), .list [], .lst (SqL.of (same_new hz _ _ hL)) (ints_dp js), .lst (SqL.of upd_same) .nil, list_shaped js, nil_shaped, _, rfl, ite2 (fun c => ?_) (fun c => ?_)⟩
        · have th2 := th.same sz2
          have hW2 := hWG.same sz2
          refine ⟨_, rfl, _, rfl, _, rfl, Nat.zero_le _, fun tb htb => ?_⟩
          have sb : Same (upd G1 z (.lst [])) (upd (upd G1 z (.lst [])) tb (.tup [])) := same_new htb
          have th3 := th2.same sb
          have hW3 := hW2.same sb
          refine ⟨ties.length, pot, p, m, ties, k, tb, [], rfl, th3.mv.pot, k2, k6, hW3, W, upd_same, fun x hx => (by cases hx), Nat.zero_add _, few, fun G2 vv => ?_, fun G2 q fs vv hq F2 => ?_⟩
          · exact ⟨.non, rfl, th3.move vv, hW3.weak (vv.weak th3.mv.pot), .inl rfl⟩
          · exact ⟨.ref q, rfl, th3.move vv, hW3.weak (vv.weak th3.mv.pot), .inr ⟨q, fs, rfl, hq, F2⟩⟩
        · exact ⟨.non, rfl, th.same sz2, hWG.same sz2, .inl rfl⟩
      · -- if flow is not None
        clear th hWG G
        rintro σ G ⟨v6, rfl, th, hW, hv6⟩
        refine ⟨fun σ G' => ∃ l xs v6 y7 y8, σ = [some (.ref a), some (.int at_), some (.ref pot), some (.ref p), some (.int k), some (.ref l), some v6, y7, y8, y9, y10, none, none, none] ∧ Things H1 pot l G' xs ∧ WebAt G' p m ties, ?_, ?_⟩
        · rcases hv6 with rfl | ⟨qf, fs, rfl, hq, F2⟩
          · exact ⟨_, rfl, _, rfl, iteF ⟨l, xs0, .non, y7, y8, rfl, th, hW⟩⟩
          · refine ⟨_, rfl, _, rfl, iteT ?_⟩
            -- whole
            refine ⟨_, rfl, _, rfl, _, rfl, p, m, ties, k, qf, fs, rfl, k2, k6, hW, W, hq, F2, fun G1 wh ws sw hwh hWh hwl => ?_⟩
            have th1 := th.same sw
            have hW1 := hW.same sw
            have hq1 := sw _ _ hq
            have fl := F2.len
            clear th hW hq
            -- drawn
            refine ⟨_, rfl, qf, rfl, ⟨_, SqT.of hq1⟩, fun Da hD => lc_tup (K := K) (a := qf) (xs := fs.map V.int) (fun i H' => Move pot G1 H' ∧ ∃ ms : List Int, H' Da = some (.lst (ms.map V.int)) ∧ ms.length = i)
              ⟨Move.of th1.mv.pot (same_new hD), [], upd_same, rfl⟩ (fun i H' _ ⟨mv, _⟩ => SqT.of ((mv.weak th1.mv.pot).tup _ _ hq1)) ?_ ?_⟩
            · rintro i x H' hx ⟨mv, ms, hDa, hl⟩
              obtain ⟨n, hn, rfl⟩ := ints_of hx
              have nD : Da ≠ pot := fun e => by
                obtain ⟨c, hc⟩ := th1.mv.pot
                rw [e, hc] at hD
                cases hD
              have il : i < fs.length := (List.getElem?_eq_some_iff.mp hn).1
              refine ⟨rfl, _, rfl, _, rfl, _, rfl, pot, 2, rfl, mv.pot, by decide, by decide, fun H'' y vv y0 y1 => ?_⟩
              have hD2 := vv.keep _ _ nD hDa
              refine ⟨_, _, rfl, rfl, .inl ⟨by omega, by omega⟩, _, _, rfl, rfl, _, hD2, by rw [List.length_map]; exact small1000 (by omega), ⟨fun b o nb e => ?_, ?_⟩, ms ++ [n - k * y], ?_, by rw [List.length_append, hl]; rfl⟩
              · rw [upd_ne (ne_of_none e hD)]
                exact (mv.trans vv).keep _ _ nb e
              · obtain ⟨c, hc⟩ := vv.pot
                exact ⟨c, by rw [upd_ne (Ne.symm nD)]; exact hc⟩
              · rw [upd_same, List.map_append]
                rfl
            · rintro G2 ⟨mv2, ms, hDa, hml⟩
              rw [List.length_map] at hml
              refine ⟨Da, _, rfl, .inl ⟨SqL.of hDa, fun t8 ht8 => ?_⟩⟩
              have s3 : Same G2 (upd G2 t8 (.tup (ms.map V.int))) := same_new ht8
              have th3 := (th1.move mv2).same s3
              have wk3 := (mv2.weak th1.mv.pot).trans (Nf.Same.weak s3)
              have hW3 := hW1.weak wk3
              have hq3 := wk3.tup _ _ hq1
              have hWh3 := wk3.tup _ _ hWh
              have ht3 : (upd G2 t8 (.tup (ms.map V.int))) t8 = some (.tup (ms.map V.int)) := upd_same
              generalize upd G2 t8 (.tup (ms.map V.int)) = G3 at th3 hW3 hq3 hWh3 ht3
              clear wk3 s3 ht8 hDa mv2 hD th1 hW1 hq1 hWh G2 Da
              -- things + [..]
              refine ⟨_, rfl, _, rfl, _, rfl, _, rfl, _, rfl, wh, rfl, ⟨_, SqT.of hWh3⟩, fun Db hDb => lc_tup (K := K) (a := wh) (xs := ws.map V.int) (fun i H' => Same G3 H' ∧ ∃ zs : List Int, H' Db = some (.lst (zs.map V.int)) ∧ zs.length = i)
                ⟨same_new hDb, [], upd_same, rfl⟩ (fun i H' _ ⟨sm, _⟩ => SqT.of (sm _ _ hWh3)) ?_ ?_⟩
              · rintro i x H' hx ⟨sm, zs, hDa, hl⟩
                obtain ⟨n, hn, rfl⟩ := ints_of hx
                have il : i < ws.length := (List.getElem?_eq_some_iff.mp hn).1
                refine ⟨rfl, _, rfl, _, _, rfl, rfl, _, hDa, by rw [List.length_map]; exact small1000 (by omega), fun b o e => ?_, zs ++ [0 - n], ?_, by rw [List.length_append, hl]; rfl⟩
                · rw [upd_ne (ne_of_none e hDb)]
                  exact sm _ _ e
                · rw [upd_same, List.map_append]
                  rfl
              · rintro G4 ⟨s4, zs, hDa, hzl⟩
                rw [List.length_map] at hzl
                refine ⟨Db, _, rfl, .inl ⟨SqL.of hDa, fun t9 ht9 => ?_⟩⟩
                have s5 := s4.trans (same_new (o := .tup (zs.map V.int)) ht9)
                have ht5 : (upd G4 t9 (.tup (zs.map V.int))) t9 = some (.tup (zs.map V.int)) := upd_same
                have hWh5 := s5 _ _ hWh3
                generalize upd G4 t9 (.tup (zs.map V.int)) = G5 at s5 ht5 hWh5
                clear ht9 hDa s4 hDb G4 Db
                refine ⟨_, rfl, wh, rfl, ⟨_, SqT.of hWh5⟩, fun Db hDb => lc_tup (K := K) (a := wh) (xs := ws.map V.int) (fun i H' => Same G5 H' ∧ ∃ zs : List Int, H' Db = some (.lst (zs.map V.int)) ∧ zs.length = i)
                  ⟨same_new hDb, [], upd_same, rfl⟩ (fun i H' _ ⟨sm, _⟩ => SqT.of (sm _ _ hWh5)) ?_ ?_⟩
                · rintro i x H' hx ⟨sm, zs2, hDa, hl⟩
                  obtain ⟨n, hn, rfl⟩ := ints_of hx
                  have il : i < ws.length := (List.getElem?_eq_some_iff.mp hn).1
                  refine ⟨rfl, _, rfl, _, _, rfl, rfl, .inl ⟨by decide, by decide⟩, _, hDa, by rw [List.length_map]; exact small1000 (by omega), fun b o e => ?_, zs2 ++ [2 * n], ?_, by rw [List.length_append, hl]; rfl⟩
                  · rw [upd_ne (ne_of_none e hDb)]
                    exact sm _ _ e
                  · rw [upd_same, List.map_append]
                    rfl
                · rintro G6 ⟨s6, zs2, hDa, hzl2⟩
                  rw [List.length_map] at hzl2
                  refine ⟨Db, _, rfl, .inl ⟨SqL.of hDa, fun t10 ht10 => ⟨(by show 5 ≤ sizeLine; decide), fun lz hlz => ?_⟩⟩⟩
                  have sA : Same G6 (upd G6 t10 (.tup (zs2.map V.int))) := same_new ht10
                  have sB := same_new (o := .lst [.ref qf, .ref t8, .ref wh, .ref t9, .ref t10]) hlz
                  have s3E := s5.trans (s6.trans (sA.trans sB))
                  have thE := th3.same s3E
                  have kE : ∀ y ∈ ([.ref qf, .ref t8, .ref wh, .ref t9, .ref t10] : List V), Known (upd (upd G6 t10 (.tup (zs2.map V.int))) lz (.lst [.ref qf, .ref t8, .ref wh, .ref t9, .ref t10])) y := fun y hy => by
                    simp only [List.mem_cons, List.not_mem_nil, or_false] at hy
                    rcases hy with rfl | rfl | rfl | rfl | rfl
                    · exact known_ints (s3E _ _ hq3) (by omega)
                    · exact known_ints (s3E _ _ ht3) (by omega)
                    · exact known_ints (s3E _ _ hWh3) (by omega)
                    · exact known_ints ((s6.trans (sA.trans sB)) _ _ ht5) (by omega)
                    · exact known_ints (sB _ _ upd_same) (by omega)
                  have hzE : (upd (upd G6 t10 (.tup (zs2.map V.int))) lz (.lst [.ref qf, .ref t8, .ref wh, .ref t9, .ref t10])) lz = some (.lst [.ref qf, .ref t8, .ref wh, .ref t9, .ref t10]) := upd_same
                  have hWE := hW3.same s3E
                  have hqE := s3E _ _ hq3
                  have hwE := s3E _ _ hWh3
                  generalize upd (upd G6 t10 (.tup (zs2.map V.int))) lz (.lst [.ref qf, .ref t8, .ref wh, .ref t9, .ref t10]) = GE at thE kE hzE hWE hqE hwE
                  refine ⟨l, lz, _, _, rfl, rfl, thE.at_, hzE, Nat.le_of_lt (small1000 (by rw [x3]; show 3 + 5 ≤ 1000; decide)), fun l2 hl2 => ?_⟩
                  have kn2 : ∀ y ∈ xs0 ++ ([.ref qf, .ref t8, .ref wh, .ref t9, .ref t10] : List V), Known GE y := fun y hy => (List.mem_append.mp hy).elim (thE.kn y) (kE y)
                  have x8 : (xs0 ++ ([.ref qf, .ref t8, .ref wh, .ref t9, .ref t10] : List V)).length = 8 := by rw [List.length_append, x3]; rfl
                  have th6 := Things.fresh thE.mv hl2 kn2 (by omega)
                  have s7 := same_new (o := .lst (xs0 ++ [.ref qf, .ref t8, .ref wh, .ref t9, .ref t10])) hl2
                  have hW6 := hWE.same s7
                  have hq6 := s7 _ _ hqE
                  have hw6 := s7 _ _ hwE
                  generalize upd GE l2 (.lst (xs0 ++ [.ref qf, .ref t8, .ref wh, .ref t9, .ref t10])) = G7 at th6 hW6 hq6 hw6
                  generalize xs0 ++ ([.ref qf, .ref t8, .ref wh, .ref t9, .ref t10] : List V) = xs1 at th6 x8
                  -- if whole != ()
                  refine ⟨_, rfl, Nat.zero_le _, fun z hz => ?_⟩
                  have s8 : Same G7 (upd G7 z (.tup [])) := same_new hz
                  have th8 := th6.same s8
                  have hW8 := hW6.same s8
                  refine ⟨.tuple (ws.map PyData.int), .tuple [], .tup (SqT.of (s8 _ _ hw6)) (ints_dp ws), .tup (SqT.of upd_same) .nil, tup_shaped ws, tup_shaped [], _, rfl, ite2 (fun c => ?_) (fun c => ?_)⟩
                  · rw [eq_tup_nil] at c
                    have wne : ws ≠ [] := fun e => by
                      rw [e] at c
                      cases c
                    have fne : fs ≠ [] := fun e => wne (List.eq_nil_of_length_eq_zero (by rw [hwl, ← fl, e]; rfl))
                    have hq8 := s8 _ _ hq6
                    have hw8 := s8 _ _ hw6
                    refine ⟨_, rfl, _, rfl, _, rfl, pot, wh, ws, rfl, th8.mv.pot, hw8, wne, by omega, fun Ga va mva ka => ?_⟩
                    have tha := th8.move mva
                    have wka := mva.weak th8.mv.pot
                    refine ⟨_, rfl, _, rfl, pot, wh, ws, rfl, tha.mv.pot, wka.tup _ _ hw8, wne, by omega, fun Gb vb mvb kb => ?_⟩
                    have thb := tha.move mvb
                    have wkb := mvb.weak tha.mv.pot
                    refine ⟨_, rfl, _, rfl, pot, qf, fs, rfl, thb.mv.pot, (wka.trans wkb).tup _ _ hq8, fne, by omega, fun Gc vc mvc kc => ?_⟩
                    have thc := thb.move mvc
                    have wkc := mvc.weak thb.mv.pot
                    have wall := wka.trans (wkb.trans wkc)
                    refine ⟨_, rfl, (by show 4 ≤ sizeLine; decide), fun lz2 hlz2 => ?_⟩
                    have s9 : Same Gc (upd Gc lz2 (.lst [va, vb, vc, .ref wh])) := same_new hlz2
                    have thd := thc.same s9
                    refine ⟨l2, lz2, _, _, rfl, rfl, thd.at_, upd_same, Nat.le_of_lt (small1000 (by rw [x8]; show 8 + 4 ≤ 1000; decide)), fun l3 hl3 => ?_⟩
                    refine ⟨l3, _, _, _, _, rfl, Things.fresh thd.mv hl3 (fun y hy => ?_) (by rw [List.length_append, x8]; show 8 + 4 ≤ 100; decide), (hW8.weak wall).same (s9.trans (same_new hl3))⟩
                    rcases List.mem_append.mp hy with g | g
                    · exact thd.kn y g
                    · have ks : Known Gc y := by
                        simp only [List.mem_cons, List.not_mem_nil, or_false] at g
                        rcases g with rfl | rfl | rfl | rfl
                        · exact ka.weak (wkb.trans wkc)
                        · exact kb.weak wkc
                        · exact kc
                        · exact known_ints (wall.tup _ _ hw8) (by omega)
                      exact ks.weak (Nf.Same.weak s9)
                  · exact ⟨l2, xs1, _, _, _, rfl, th8, hW8⟩
        · -- for thing in things
          clear th hW hv6 G v6 xs0 x3 l
          rintro σ G ⟨l, xs, v6, z7, z8, rfl, th, hW⟩
          refine ⟨_, rfl, l, rfl, ⟨_, SqL.of th.at_⟩, for_list (K := K) (a := l) (xs := xs) (fun i σ G' => ∃ z9 z10, σ = [some (.ref a), some (.int at_), some (.ref pot), some (.ref p), some (.int k), some (.ref l), some v6, z7, z8, z9, z10, none, none, none] ∧ Things H1 pot l G' xs ∧ WebAt G' p m ties)
            ⟨y9, y10, rfl, th, hW⟩ (fun i σ G' _ ⟨_, _, _, t, _⟩ => SqL.of t.at_) ?_ ?_⟩
          · rintro i x σ G' hx ⟨z9, z10, rfl, t, hW'⟩
            obtain ⟨d, hT⟩ := t.kn x (List.mem_of_getElem? hx)
            refine ⟨_, rfl, _, rfl, _, rfl, p, m, ties, k, x, d, rfl, k2, k6, hW', W, hT, fun G2 s2 => ?_⟩
            refine ⟨_, rfl, _, _, _, _, true, rfl, .ty _, .base (.bl _), kit_ty (by decide +kernel), true, rfl, iteF ?_⟩
            refine ⟨_, rfl, _, rfl, _, rfl, _, rfl, p, m, ties, k, x, d, rfl, k2, k6, hW'.same s2, W, hT.same s2, fun G3 s3 => ⟨rfl, _, rfl, iteNS rfl ?_⟩⟩
            exact ⟨_, _, rfl, t.same (s2.trans s3), hW'.same (s2.trans s3)⟩
          · rintro σ G' ⟨z9, z10, rfl, t, hW'⟩
            exact ⟨_, _, _, _, _, _, _, _, _, _, rfl, sm.trans (t.mv.since hpot s1)⟩
end
end Nf
-- text NfO
set_option Elab.async false
set_option linter.all false
set_option maxRecDepth 100000
set_option maxHeartbeats 1000000
namespace Nf
open PySem PySem.Spec PyProof.Rows L2 NfR
/-! ### what the top has left -/
theorem stands_mk {K : PySem.W.Frag} {h : Heap} {mg : Str → Option Value} {x : Str} {st : Stmt} {ps : List Str} {f : Addr} {od an : Option Addr} {sl : Array (Option Value)} {oc kV dc pm cd ct : Value} (X : K.In h) (G : h.Ns mainGlobals mg)
    (b : ∀ (kV doc pm : Value) (an : Option Addr) (cdv ct : Value) (us : List Value), us.length = ps.length → bindArgs (PySem.W.fnOf x x (defArgs st) (defBody st) (defScope st) .none kV doc pm an cdv ct) ⟨us, []⟩ = pure (ps.zip us))
    (a : PySem.W.nsIn K mainGlobals x = some (some (.ref f))) (l : K.lookup f = some ⟨oc, od, .func (PySem.W.fnOf x x (defArgs st) (defBody st) (defScope st) .none kV dc pm an cd ct), sl⟩) (c : PySem.W.codeIn K cd x = true) (k : PySem.W.keepIn K (.ref f) = true) : Stands K mg x st ps := by
  have F := fun_mk (st := st) l c k
  exact ⟨f, _, F, PySem.W.mg_of X G a, F.binds b⟩
theorem blt_mk {K : PySem.W.Frag} {h : Heap} {mg : Str → Option Value} (X : K.In h) (G : h.Ns mainGlobals mg)
    (n1 : PySem.W.nsIn K mainGlobals "isinstance" = some none) (n2 : PySem.W.nsIn K mainGlobals "int" = some none) (n3 : PySem.W.nsIn K mainGlobals "bool" = some none) (n4 : PySem.W.nsIn K mainGlobals "tuple" = some none) (n5 : PySem.W.nsIn K mainGlobals "list" = some none)
    (n6 : PySem.W.nsIn K mainGlobals "len" = some none) (n7 : PySem.W.nsIn K mainGlobals "all" = some none) (n8 : PySem.W.nsIn K mainGlobals "any" = some none) (n9 : PySem.W.nsIn K mainGlobals "zip" = some none) (n10 : PySem.W.nsIn K mainGlobals "enumerate" = some none)
    (n11 : PySem.W.nsIn K mainGlobals "range" = some none) (n12 : PySem.W.nsIn K mainGlobals "max" = some none) (n13 : PySem.W.nsIn K mainGlobals "min" = some none) : Blt mg :=
  ⟨PySem.W.mg_none_of X G n1, PySem.W.mg_none_of X G n2, PySem.W.mg_none_of X G n3, PySem.W.mg_none_of X G n4, PySem.W.mg_none_of X G n5, PySem.W.mg_none_of X G n6, PySem.W.mg_none_of X G n7, PySem.W.mg_none_of X G n8, PySem.W.mg_none_of X G n9, PySem.W.mg_none_of X G n10, PySem.W.mg_none_of X G n11, PySem.W.mg_none_of X G n12, PySem.W.mg_none_of X G n13⟩
theorem const_mk {K : PySem.W.Frag} {h : Heap} {mg : Str → Option Value} {x : Str} {n : Int} {t : Tok} (X : K.In h) (G : h.Ns mainGlobals mg) (a : PySem.W.nsIn K mainGlobals x = some (some (.int n t))) : ∃ t, mg x = some (.int n t) := ⟨t, PySem.W.mg_of X G a⟩

/-- every def but the law itself -/
structure AllStand (K : PySem.W.Frag) (mg : Str → Option Value) : Prop where
  blt : Blt mg
  c2 : ∃ t, mg "LEAST_CLOCK" = some (.int 2 t)
  c6 : ∃ t, mg "MOST_CLOCK" = some (.int 6 t)
  d5 : Stands K mg "is_whole" sWhole ["thing"]
  d6 : Stands K mg "is_upto" sUpto ["thing", "least", "most"]
  d10 : Stands K mg "check_clock" sClock ["k"]
  d11 : Stands K mg "is_row_of" sRowOf ["thing", "many", "least", "most"]
  d12 : Stands K mg "is_row" sRow ["web", "k", "thing"]
  d13 : Stands K mg "rests_of" sRests ["web", "k", "row"]
  d14 : Stands K mg "is_even" sEven ["web", "k", "thing"]
  d15 : Stands K mg "is_flow" sFlow ["web", "k", "thing"]
  d17 : Stands K mg "come_in" sCome ["web", "row"]
  d18 : Stands K mg "is_whole_flow" sWF ["web", "k", "thing"]
  d19 : Stands K mg "next_places" sNext ["web", "row", "place"]
  d20 : Stands K mg "ties_to_less" sLess ["web", "row", "begin", "over"]
  d21 : Stands K mg "whole_of" sWholeOf ["web", "k", "flow"]
  d23 : Stands K mg "_law_cell_at" sCell ["_law_script", "_law_k"]
  d24 : Stands K mg "_law_pot" sPot ["_law_cell"]
  d25 : Stands K mg "_law_take" sTake ["_law_pot_here", "_law_far"]
  d26 : Stands K mg "_law_whole" sLWhole ["_law_found"]
  d27 : Stands K mg "_law_pair" sPair ["_law_pot_here", "_law_many"]
  d28 : Stands K mg "_law_web" sWeb ["_law_pot_here", "_law_most_places", "_law_most_ties"]
  d29 : Stands K mg "_law_marks" sMarks ["_law_many", "_law_ties"]
  d30 : Stands K mg "_law_lone" sLone ["_law_web_here"]
  d31 : Stands K mg "_law_rests" sLRests ["_law_web_here", "_law_k", "_law_row"]
  d32 : Stands K mg "_law_is_row" sLRow ["_law_thing", "_law_many", "_law_least", "_law_most"]
  d33 : Stands K mg "_law_shut" sShut ["_law_web_here", "_law_k", "_law_begun"]
  d34 : Stands K mg "_law_some_flow" sSome ["_law_pot_here", "_law_web_here", "_law_k", "_law_begun"]
  d35 : Stands K mg "_law_come" sLCome ["_law_web_here", "_law_row"]
  d36 : Stands K mg "_law_is_whole_flow" sLWF ["_law_web_here", "_law_k", "_law_thing"]
  d37 : Stands K mg "_law_bent" sBent ["_law_pot_here", "_law_row"]
theorem AllStand.law {P : Program} {w : World} {K : PySem.W.Frag} {mg : Str → Option Value} {base : Heap} {f : Addr} {fd : FuncData} (A : AllStand K mg) (F : Fun K "law" "law" sLaw f fd) : FnOk P w K mg base CX0 12 f fd ["_law_script"] (spLaw K) := by
  have cW : Can P w K mg base 1 "is_whole" spWhole := can_whole A.d5 A.blt
  have cU : Can P w K mg base 2 "is_upto" spUpto := can_upto A.d6 cW
  have cC : Can P w K mg base 3 "check_clock" spClock := can_clock A.d10 cU A.c2 A.c6
  have cRO : Can P w K mg base 3 "is_row_of" spRowOf := can_rowof A.d11 A.blt cU
  have cR : Can P w K mg base 4 "is_row" spRow := can_row A.d12 A.blt cRO
  have cRs : Can P w K mg base 1 "rests_of" (spRests K) := can_rests A.d13 A.blt
  have cE : Can P w K mg base 5 "is_even" spFlow := can_even A.d14 A.blt cC cR cRs
  have cF : Can P w K mg base 6 "is_flow" spFlow := can_flow A.d15 cE
  have cCo : Can P w K mg base 1 "come_in" (spCome K) := can_come A.d17 A.blt
  have cWF : Can P w K mg base 4 "is_whole_flow" spWF := can_wf A.d18 A.blt cC cRO cCo
  have cN : Can P w K mg base 1 "next_places" (spNext K) := can_next A.d19 A.blt
  have cL : Can P w K mg base 2 "ties_to_less" (spLess K) := can_less A.d20 A.blt cN
  have cOf : Can P w K mg base 7 "whole_of" spWholeOf := can_wholeof A.d21 A.blt cF cL cCo
  have cT : Can P w K mg base 1 "_law_take" spTake := can_take A.d25
  have cLW : Can P w K mg base 1 "_law_whole" spWhole := can_lwhole A.d26 A.blt
  have cP : Can P w K mg base 2 "_law_pair" spPair := can_pair A.d27 A.blt cT
  have cM : Can P w K mg base 1 "_law_marks" spMarks := can_marks A.d29 A.blt
  have cLR : Can P w K mg base 2 "_law_is_row" spRowOf := can_lrow A.d32 A.blt cLW
  have cSh : Can P w K mg base 2 "_law_shut" spShut := can_shut A.d33 A.blt (can_lrests A.d31 A.blt)
  exact fn_law F A.blt (can_cell A.d23 A.blt) (can_pot A.d24 A.blt) (can_web A.d28 A.blt cT cP) cT (can_lone A.d30 A.blt cM) (can_some A.d34 A.blt cSh cT 8) cOf (can_bent A.d37 A.blt cT) cWF (can_lwf A.d36 A.blt cLR (can_lcome A.d35 A.blt))
theorem law_mk {l : PySem.W.OpenLaw} {w : World} {K : PySem.W.Frag} {h : Heap} {mg : Str → Option Value} {fa f : Addr} {od an : Option Addr} {sl : Array (Option Value)} {oc kV dc pm cd ct : Value} (X : K.In h) (G : h.Ns mainGlobals mg) (hfa : mg "law" = some (.ref fa)) (A : AllStand K mg)
    (a : PySem.W.nsIn K mainGlobals "law" = some (some (.ref f))) (lk : K.lookup f = some ⟨oc, od, .func (PySem.W.fnOf "law" "law" (defArgs sLaw) (defBody sLaw) (defScope sLaw) .none kV dc pm an cd ct), sl⟩) (c : PySem.W.codeIn K cd "law" = true) (k : PySem.W.keepIn K (.ref f) = true) :
    ∃ fd : FuncData, (∀ (s : Shared) (v : Value), BindsTo s fd ⟨[v], []⟩ [("_law_script", v)]) ∧ ∀ base : Heap, K.In base → base.Ns mainGlobals mg → FnOk l.prog w K mg base CX0 12 fa fd ["_law_script"] (spLaw K) := by
  have e := hfa.symm.trans (PySem.W.mg_of X G a)
  cases e
  exact ⟨PySem.W.fnOf "law" "law" (defArgs sLaw) (defBody sLaw) (defScope sLaw) .none kV dc pm an cd ct, fun s v => .of_eq rfl, fun base _ _ => A.law (fun_mk (st := sLaw) lk c k)⟩
theorem walk {l : PySem.W.OpenLaw} {q : Program} {loose : List Str} {XP : (Str → Option Value) → Heap → Prop} {YP : World → Heap → Prop} {d : DefRec} {K : Params → PySem.W.Frag} (hn : l.most = some 63) (hdf : d.params.defaults = [])
    (hY : ∀ (w : World) (h : Heap), YP w h → (K w.params).In h)
    (F : ∀ (w : World) (mg : Str → Option Value) (fa : Addr) (h : Heap), (K w.params).In h → h.Ns mainGlobals mg → mg d.name = some (.ref fa) →
      ∃ fd : FuncData, (∀ (s : Shared) (u : Value), BindsTo s fd ⟨[u], []⟩ [("_law_script", u)]) ∧ ∀ base : Heap, (K w.params).In base → base.Ns mainGlobals mg → FnOk l.prog w (K w.params) mg base CX0 12 fa fd ["_law_script"] (spLaw (K w.params))) :
    PySem.W.WalkO q loose XP YP l.row.toRowW d [] (fun f vs => PySem.call f vs) :=
  L2.walk_of (n := 63) (k := 12) (x := "_law_script") (CX := fun _ => CX0) (sp := fun w => spLaw (K w.params)) hn (by decide) hdf ⟨rfl, by decide, by decide⟩ hY F (fun _ _ a ns hl _ hS => ⟨a, ns, rfl, hS, hl, fun _ => rfl⟩) fun _ _ _ _ _ z => z
end Nf
-- text NfZ
set_option Elab.async false
set_option maxRecDepth 100000
open PySem L2

open PySem PySem.W PyProof.Rows in
set_option maxRecDepth 100000 in
set_option maxHeartbeats 0 in
theorem PySem.Challenge.cw_neverflows_k51_whole_flows_looked_at_holds : PySem.Challenge.rw_neverflows_k51_whole_flows_looked_at.Holds := by
  w_on; o_law; k_head; (case hw => w_witness2)
  k_fill
  refine Nf.walk (l := PySem.Challenge.rw_neverflows_k51_whole_flows_looked_at) rfl rfl (fun w h Y => PySem.W.kIn_of Y) ?F
  case F =>
    intro w mg fa h KX G hmg
    refine' Nf.law_mk KX G hmg ?S ?la ?ll ?lc ?lk
    case S =>
      refine ⟨?blt, ?c2, ?c6, ?d5, ?d6, ?d10, ?d11, ?d12, ?d13, ?d14, ?d15, ?d17, ?d18, ?d19, ?d20, ?d21, ?d23, ?d24, ?d25, ?d26, ?d27, ?d28, ?d29, ?d30, ?d31, ?d32, ?d33, ?d34, ?d35, ?d36, ?d37⟩
      case blt =>
        refine' Nf.blt_mk KX G ?n1 ?n2 ?n3 ?n4 ?n5 ?n6 ?n7 ?n8 ?n9 ?n10 ?n11 ?n12 ?n13
        all_goals k_is
      case c2 =>
        refine' Nf.const_mk KX G ?x2
        (case x2 => k_is)
      case c6 =>
        refine' Nf.const_mk KX G ?x6
        (case x6 => k_is)
      case d5 =>
        refine' Nf.stands_mk KX G (fun _ _ _ _ _ _ us hl => match us, hl with | [_], _ => rfl) ?a5 ?l5 ?c5 ?k5
        (case a5 => k_is)
        (case l5 => k_is)
        (case c5 => k_is)
        (case k5 => k_is)
      case d6 =>
        refine' Nf.stands_mk KX G (fun _ _ _ _ _ _ us hl => match us, hl with | [_, _, _], _ => rfl) ?a6 ?l6 ?c6 ?k6
        (case a6 => k_is)
        (case l6 => k_is)
        (case c6 => k_is)
        (case k6 => k_is)
      case d10 =>
        refine' Nf.stands_mk KX G (fun _ _ _ _ _ _ us hl => match us, hl with | [_], _ => rfl) ?a10 ?l10 ?c10 ?k10
        (case a10 => k_is)
        (case l10 => k_is)
        (case c10 => k_is)
        (case k10 => k_is)
      case d11 =>
        refine' Nf.stands_mk KX G (fun _ _ _ _ _ _ us hl => match us, hl with | [_, _, _, _], _ => rfl) ?a11 ?l11 ?c11 ?k11
        (case a11 => k_is)
        (case l11 => k_is)
        (case c11 => k_is)
        (case k11 => k_is)
      case d12 =>
        refine' Nf.stands_mk KX G (fun _ _ _ _ _ _ us hl => match us, hl with | [_, _, _], _ => rfl) ?a12 ?l12 ?c12 ?k12
        (case a12 => k_is)
        (case l12 => k_is)
        (case c12 => k_is)
        (case k12 => k_is)
      case d13 =>
        refine' Nf.stands_mk KX G (fun _ _ _ _ _ _ us hl => match us, hl with | [_, _, _], _ => rfl) ?a13 ?l13 ?c13 ?k13
        (case a13 => k_is)
        (case l13 => k_is)
        (case c13 => k_is)
        (case k13 => k_is)
      case d14 =>
        refine' Nf.stands_mk KX G (fun _ _ _ _ _ _ us hl => match us, hl with | [_, _, _], _ => rfl) ?a14 ?l14 ?c14 ?k14
        (case a14 => k_is)
        (case l14 => k_is)
        (case c14 => k_is)
        (case k14 => k_is)
      case d15 =>
        refine' Nf.stands_mk KX G (fun _ _ _ _ _ _ us hl => match us, hl with | [_, _, _], _ => rfl) ?a15 ?l15 ?c15 ?k15
        (case a15 => k_is)
        (case l15 => k_is)
        (case c15 => k_is)
        (case k15 => k_is)
      case d17 =>
        refine' Nf.stands_mk KX G (fun _ _ _ _ _ _ us hl => match us, hl with | [_, _], _ => rfl) ?a17 ?l17 ?c17 ?k17
        (case a17 => k_is)
        (case l17 => k_is)
        (case c17 => k_is)
        (case k17 => k_is)
      case d18 =>
        refine' Nf.stands_mk KX G (fun _ _ _ _ _ _ us hl => match us, hl with | [_, _, _], _ => rfl) ?a18 ?l18 ?c18 ?k18
        (case a18 => k_is)
        (case l18 => k_is)
        (case c18 => k_is)
        (case k18 => k_is)
      case d19 =>
        refine' Nf.stands_mk KX G (fun _ _ _ _ _ _ us hl => match us, hl with | [_, _, _], _ => rfl) ?a19 ?l19 ?c19 ?k19
        (case a19 => k_is)
        (case l19 => k_is)
        (case c19 => k_is)
        (case k19 => k_is)
      case d20 =>
        refine' Nf.stands_mk KX G (fun _ _ _ _ _ _ us hl => match us, hl with | [_, _, _, _], _ => rfl) ?a20 ?l20 ?c20 ?k20
        (case a20 => k_is)
        (case l20 => k_is)
        (case c20 => k_is)
        (case k20 => k_is)
      case d21 =>
        refine' Nf.stands_mk KX G (fun _ _ _ _ _ _ us hl => match us, hl with | [_, _, _], _ => rfl) ?a21 ?l21 ?c21 ?k21
        (case a21 => k_is)
        (case l21 => k_is)
        (case c21 => k_is)
        (case k21 => k_is)
      case d23 =>
        refine' Nf.stands_mk KX G (fun _ _ _ _ _ _ us hl => match us, hl with | [_, _], _ => rfl) ?a23 ?l23 ?c23 ?k23
        (case a23 => k_is)
        (case l23 => k_is)
        (case c23 => k_is)
        (case k23 => k_is)
      case d24 =>
        refine' Nf.stands_mk KX G (fun _ _ _ _ _ _ us hl => match us, hl with | [_], _ => rfl) ?a24 ?l24 ?c24 ?k24
        (case a24 => k_is)
        (case l24 => k_is)
        (case c24 => k_is)
        (case k24 => k_is)
      case d25 =>
        refine' Nf.stands_mk KX G (fun _ _ _ _ _ _ us hl => match us, hl with | [_, _], _ => rfl) ?a25 ?l25 ?c25 ?k25
        (case a25 => k_is)
        (case l25 => k_is)
        (case c25 => k_is)
        (case k25 => k_is)
      case d26 =>
        refine' Nf.stands_mk KX G (fun _ _ _ _ _ _ us hl => match us, hl with | [_], _ => rfl) ?a26 ?l26 ?c26 ?k26
        (case a26 => k_is)
        (case l26 => k_is)
        (case c26 => k_is)
        (case k26 => k_is)
      case d27 =>
        refine' Nf.stands_mk KX G (fun _ _ _ _ _ _ us hl => match us, hl with | [_, _], _ => rfl) ?a27 ?l27 ?c27 ?k27
        (case a27 => k_is)
        (case l27 => k_is)
        (case c27 => k_is)
        (case k27 => k_is)
      case d28 =>
        refine' Nf.stands_mk KX G (fun _ _ _ _ _ _ us hl => match us, hl with | [_, _, _], _ => rfl) ?a28 ?l28 ?c28 ?k28
        (case a28 => k_is)
        (case l28 => k_is)
        (case c28 => k_is)
        (case k28 => k_is)
      case d29 =>
        refine' Nf.stands_mk KX G (fun _ _ _ _ _ _ us hl => match us, hl with | [_, _], _ => rfl) ?a29 ?l29 ?c29 ?k29
        (case a29 => k_is)
        (case l29 => k_is)
        (case c29 => k_is)
        (case k29 => k_is)
      case d30 =>
        refine' Nf.stands_mk KX G (fun _ _ _ _ _ _ us hl => match us, hl with | [_], _ => rfl) ?a30 ?l30 ?c30 ?k30
        (case a30 => k_is)
        (case l30 => k_is)
        (case c30 => k_is)
        (case k30 => k_is)
      case d31 =>
        refine' Nf.stands_mk KX G (fun _ _ _ _ _ _ us hl => match us, hl with | [_, _, _], _ => rfl) ?a31 ?l31 ?c31 ?k31
        (case a31 => k_is)
        (case l31 => k_is)
        (case c31 => k_is)
        (case k31 => k_is)
      case d32 =>
        refine' Nf.stands_mk KX G (fun _ _ _ _ _ _ us hl => match us, hl with | [_, _, _, _], _ => rfl) ?a32 ?l32 ?c32 ?k32
        (case a32 => k_is)
        (case l32 => k_is)
        (case c32 => k_is)
        (case k32 => k_is)
      case d33 =>
        refine' Nf.stands_mk KX G (fun _ _ _ _ _ _ us hl => match us, hl with | [_, _, _], _ => rfl) ?a33 ?l33 ?c33 ?k33
        (case a33 => k_is)
        (case l33 => k_is)
        (case c33 => k_is)
        (case k33 => k_is)
      case d34 =>
        refine' Nf.stands_mk KX G (fun _ _ _ _ _ _ us hl => match us, hl with | [_, _, _, _], _ => rfl) ?a34 ?l34 ?c34 ?k34
        (case a34 => k_is)
        (case l34 => k_is)
        (case c34 => k_is)
        (case k34 => k_is)
      case d35 =>
        refine' Nf.stands_mk KX G (fun _ _ _ _ _ _ us hl => match us, hl with | [_, _], _ => rfl) ?a35 ?l35 ?c35 ?k35
        (case a35 => k_is)
        (case l35 => k_is)
        (case c35 => k_is)
        (case k35 => k_is)
      case d36 =>
        refine' Nf.stands_mk KX G (fun _ _ _ _ _ _ us hl => match us, hl with | [_, _, _], _ => rfl) ?a36 ?l36 ?c36 ?k36
        (case a36 => k_is)
        (case l36 => k_is)
        (case c36 => k_is)
        (case k36 => k_is)
      case d37 =>
        refine' Nf.stands_mk KX G (fun _ _ _ _ _ _ us hl => match us, hl with | [_, _], _ => rfl) ?a37 ?l37 ?c37 ?k37
        (case a37 => k_is)
        (case l37 => k_is)
        (case c37 => k_is)
        (case k37 => k_is)
    (case la => k_is)
    (case ll => k_is)
    (case lc => k_is)
    (case lk => k_is)
#print axioms PySem.Challenge.cw_neverflows_k51_whole_flows_looked_at_holds
