import PyProof.Rows.All
import Wide.All
import OpenK.AllK
import Wide.FinOn
import HandS.ForMost
import HandS.More
import HandS.TupMul
import HandS.TupAny
import HandS.SortInts
import HandS.Defaults
import HandS.Codes
import PySem.Challenge.RW_tacet_k34_whole_loops_never_stop
set_option Elab.async false
set_option linter.all false
set_option maxRecDepth 100000
set_option maxHeartbeats 4000000
namespace Tac
abbrev Ru := Int × Int × Int
abbrev Mach := List (List Ru)
def noRu : Ru := (0, 0, -1)
def rl (M : Mach) (s x : Int) : Ru := (M.getD s.toNat []).getD x.toNat noRu
structure Cf where
  st : Int
  pl : Int
  tp : Int → Int
def stp (M : Mach) (c : Cf) : Cf :=
  if c.st = -1 then c else ⟨(rl M c.st (c.tp c.pl)).2.2, c.pl + (rl M c.st (c.tp c.pl)).2.1, fun y => if y = c.pl then (rl M c.st (c.tp c.pl)).1 else c.tp y⟩
def cf (M : Mach) : Nat → Cf
  | 0 => ⟨0, 0, fun _ => 0⟩
  | n + 1 => stp M (cf M n)
theorem cf_stop {M : Mach} {n : Nat} (h : (cf M n).st = -1) : ∀ k, cf M (n + k) = cf M n
  | 0 => rfl
  | k + 1 => by
    show stp M (cf M (n + k)) = cf M n
    rw [cf_stop h k]
    unfold stp
    rw [if_pos h]
theorem cf_going {M : Mach} {j n : Nat} (hj : j ≤ n) (h : (cf M n).st ≠ -1) : (cf M j).st ≠ -1 := by
  intro e
  obtain ⟨k, rfl⟩ := Nat.exists_eq_add_of_le hj
  rw [cf_stop e k] at h
  exact h e
theorem cf_succ {M : Mach} {n : Nat} (h : (cf M n).st ≠ -1) : cf M (n + 1) = ⟨(rl M (cf M n).st ((cf M n).tp (cf M n).pl)).2.2, (cf M n).pl + (rl M (cf M n).st ((cf M n).tp (cf M n).pl)).2.1, fun y => if y = (cf M n).pl then (rl M (cf M n).st ((cf M n).tp (cf M n).pl)).1 else (cf M n).tp y⟩ := by
  show stp M (cf M n) = _
  unfold stp
  rw [if_neg h]

/-- m is the least place from a to b -/
def Least (M : Mach) (a b : Nat) (m : Int) : Prop := (∀ k, a ≤ k → k ≤ b → m ≤ (cf M k).pl) ∧ ∃ k, a ≤ k ∧ k ≤ b ∧ (cf M k).pl = m
theorem Least.uniq {M : Mach} {a b : Nat} {m m' : Int} (h : Least M a b m) (h' : Least M a b m') : m = m' := by
  obtain ⟨h1, k, k1, k2, e⟩ := h
  obtain ⟨h1', k', k1', k2', e'⟩ := h'
  have := h1 k' k1' k2'
  have := h1' k k1 k2
  omega
theorem Least.one (M : Mach) (a : Nat) : Least M a a (cf M a).pl :=
  ⟨fun k h1 h2 => by
    have : k = a := by omega
    subst this
    exact Int.le_refl _, a, Nat.le_refl _, Nat.le_refl _, rfl⟩
theorem Least.up {M : Mach} {a b : Nat} {m : Int} (h : Least M a b m) (hab : a ≤ b) : Least M a (b + 1) (if (cf M (b + 1)).pl < m then (cf M (b + 1)).pl else m) := by
  obtain ⟨h1, k, k1, k2, e⟩ := h
  split
  · refine ⟨fun j j1 j2 => ?_, b + 1, by omega, by omega, rfl⟩
    by_cases hj : j = b + 1
    · subst hj
      exact Int.le_refl _
    · have := h1 j j1 (by omega)
      omega
  · refine ⟨fun j j1 j2 => ?_, k, k1, by omega, e⟩
    by_cases hj : j = b + 1
    · subst hj
      omega
    · exact h1 j j1 (by omega)
theorem Least.down {M : Mach} {a b : Nat} {m : Int} (h : Least M (a + 1) b m) (hab : a + 1 ≤ b) : Least M a b (if (cf M a).pl < m then (cf M a).pl else m) := by
  obtain ⟨h1, k, k1, k2, e⟩ := h
  split
  · refine ⟨fun j j1 j2 => ?_, a, by omega, by omega, rfl⟩
    by_cases hj : j = a
    · subst hj
      exact Int.le_refl _
    · have := h1 j (by omega) j2
      omega
  · refine ⟨fun j j1 j2 => ?_, k, by omega, k2, e⟩
    by_cases hj : j = a
    · subst hj
      omega
    · exact h1 j (by omega) j2
theorem Least.ex (M : Mach) (a : Nat) : ∀ n, ∃ m, Least M a (a + n) m
  | 0 => ⟨_, Least.one M a⟩
  | n + 1 => by
    obtain ⟨m, h⟩ := Least.ex M a n
    exact ⟨_, h.up (by omega)⟩

/-- the loop on the right side -/
structure Loop (M : Mach) (a b : Nat) : Prop where
  lt : a < b
  go : (cf M b).st ≠ -1
  st : (cf M b).st = (cf M a).st
  dd : (cf M a).pl ≤ (cf M b).pl
  tp : ∀ m, Least M a b m → ∀ x, m ≤ x → (cf M b).tp (x + ((cf M b).pl - (cf M a).pl)) = (cf M a).tp x
/-- what a loop gives for each later step, with one m -/
structure Rep (M : Mach) (a b : Nat) (m d : Int) (i : Nat) : Prop where
  go : (cf M (b + i)).st ≠ -1
  st : (cf M (b + i)).st = (cf M (a + i)).st
  pl : (cf M (b + i)).pl = (cf M (a + i)).pl + d
  le : m ≤ (cf M (a + i)).pl
  tp : ∀ x, m ≤ x → (cf M (b + i)).tp (x + d) = (cf M (a + i)).tp x
theorem Loop.rep {M : Mach} {a b : Nat} {m : Int} (h : Loop M a b) (hm : Least M a b m) : ∀ i, Rep M a b m ((cf M b).pl - (cf M a).pl) i ∧ ∀ j, j ≤ b + i → a ≤ j → m ≤ (cf M j).pl
  | 0 => ⟨⟨h.go, h.st, by show (cf M b).pl = (cf M a).pl + _; omega, hm.1 a (Nat.le_refl _) (Nat.le_of_lt h.lt), h.tp m hm⟩, fun j j1 j2 => hm.1 j j2 j1⟩
  | i + 1 => by
    obtain ⟨⟨go, st, pl, le, tp⟩, all⟩ := Loop.rep h hm i
    have dd := h.dd
    have lt := h.lt
    have ga : (cf M (a + i)).st ≠ -1 := by rw [← st]; exact go
    have e : rl M (cf M (b + i)).st ((cf M (b + i)).tp (cf M (b + i)).pl) = rl M (cf M (a + i)).st ((cf M (a + i)).tp (cf M (a + i)).pl) := by
      rw [st, pl, tp _ le]
    have ha := cf_succ ga
    have hb := cf_succ go
    rw [e] at hb
    have ha1 : a + i + 1 = a + (i + 1) := by omega
    have hb1 : b + i + 1 = b + (i + 1) := by omega
    rw [ha1] at ha
    rw [hb1] at hb
    have p1 : (cf M (b + (i + 1))).pl = (cf M (a + (i + 1))).pl + ((cf M b).pl - (cf M a).pl) := by
      rw [ha, hb]
      show (cf M (b + i)).pl + _ = (cf M (a + i)).pl + _ + _
      omega
    have s1 : (cf M (b + (i + 1))).st = (cf M (a + (i + 1))).st := by rw [ha, hb]
    have lea : m ≤ (cf M (a + (i + 1))).pl := all _ (by omega) (by omega)
    have ga1 : (cf M (a + (i + 1))).st ≠ -1 := cf_going (n := b + i) (by omega) go
    refine ⟨⟨by rw [s1]; exact ga1, s1, p1, lea, fun x hx => ?_⟩, fun j j1 j2 => ?_⟩
    · rw [ha, hb]
      show (if x + _ = (cf M (b + i)).pl then _ else _) = (if x = (cf M (a + i)).pl then _ else _)
      by_cases hxe : x = (cf M (a + i)).pl
      · rw [if_pos hxe, if_pos (by rw [pl, hxe])]
      · rw [if_neg hxe, if_neg (by rw [pl]; omega)]
        exact tp x hx
    · by_cases hj : j = b + (i + 1)
      · subst hj
        rw [p1]
        omega
      · exact all j (by omega) j2
theorem Loop.least {M : Mach} {a b : Nat} (h : Loop M a b) : ∃ m, Least M a b m := by
  obtain ⟨n, rfl⟩ := Nat.exists_eq_add_of_le (Nat.le_of_lt h.lt)
  exact Least.ex M a n
theorem Loop.shift {M : Mach} {a b : Nat} (h : Loop M a b) (i : Nat) : Loop M (a + i) (b + i) := by
  obtain ⟨m, hm⟩ := h.least
  obtain ⟨⟨go, st, pl, le, tp⟩, all⟩ := h.rep hm i
  have lt := h.lt
  have dd := h.dd
  refine ⟨by omega, go, st, by omega, fun m' hm' x hx => ?_⟩
  have e : (cf M (b + i)).pl - (cf M (a + i)).pl = (cf M b).pl - (cf M a).pl := by omega
  rw [e]
  refine tp x ?_
  obtain ⟨k, k1, k2, e⟩ := hm'.2
  have := all k k2 (by omega)
  omega
theorem Loop.runs {M : Mach} {a b : Nat} (h : Loop M a b) (n : Nat) : (cf M n).st ≠ -1 := by
  obtain ⟨m, hm⟩ := h.least
  obtain ⟨⟨go, _, _, _, _⟩, _⟩ := h.rep hm n
  exact cf_going (by omega) go
theorem Loop.times {M : Mach} {a n : Nat} (h : Loop M a (a + n)) : ∀ j, Loop M a (a + (j + 1) * n) := by
  obtain ⟨m, hm⟩ := h.least
  have lt := h.lt
  have dd := h.dd
  have key : ∀ j, (cf M (a + j * n)).st = (cf M a).st ∧ (cf M (a + j * n)).pl = (cf M a).pl + j * ((cf M (a + n)).pl - (cf M a).pl) ∧
      ∀ x, m ≤ x → (cf M (a + j * n)).tp (x + j * ((cf M (a + n)).pl - (cf M a).pl)) = (cf M a).tp x := by
    intro j
    induction j with
    | zero =>
      rw [Nat.zero_mul, Nat.add_zero]
      refine ⟨rfl, by simp, fun x _ => by simp⟩
    | succ j ih =>
      obtain ⟨i1, i2, i3⟩ := ih
      obtain ⟨⟨go, st, pl, le, tp⟩, all⟩ := h.rep hm (j * n)
      have e : a + n + j * n = a + (j + 1) * n := by rw [Nat.add_mul, Nat.one_mul]; omega
      rw [e] at st pl tp go
      generalize hd : (cf M (a + n)).pl - (cf M a).pl = d at *
      have ej : ((j + 1 : Nat) : Int) * d = j * d + d := by
        rw [Int.natCast_add, Int.add_mul]
        simp
      have nn : 0 ≤ (j : Int) * d := Int.mul_nonneg (Int.natCast_nonneg _) (by omega)
      refine ⟨by rw [st, i1], by rw [pl, i2, ej]; omega, fun x hx => ?_⟩
      rw [ej, ← Int.add_assoc, tp _ (by omega)]
      exact i3 x hx
  intro j
  obtain ⟨k1, k2, k3⟩ := key (j + 1)
  obtain ⟨_, all⟩ := h.rep hm ((j + 1) * n)
  have hpos : 0 < (j + 1) * n := Nat.mul_pos (by omega) (by omega)
  refine ⟨by omega, h.runs _, k1, ?_, fun m' hm' x hx => ?_⟩
  · rw [k2]
    have : 0 ≤ ((j + 1 : Nat) : Int) * ((cf M (a + n)).pl - (cf M a).pl) := Int.mul_nonneg (Int.natCast_nonneg _) (by omega)
    omega
  · have hx' : m ≤ x := by
      obtain ⟨k, q1, q2, e⟩ := hm'.2
      have := all k (by omega) q1
      omega
    have := k3 x hx'
    rw [k2]
    have e : (cf M a).pl + ((j + 1 : Nat) : Int) * ((cf M (a + n)).pl - (cf M a).pl) - (cf M a).pl = ((j + 1 : Nat) : Int) * ((cf M (a + n)).pl - (cf M a).pl) := by omega
    rw [e]
    exact this

/-! ### the mirrored machine -/
def mirR (r : Ru) : Ru := (r.1, -r.2.1, r.2.2)
def mir (M : Mach) : Mach := M.map (·.map mirR)
theorem mirR_mirR (r : Ru) : mirR (mirR r) = r := by
  obtain ⟨a, b, c⟩ := r
  simp [mirR]
theorem mir_mir (M : Mach) : mir (mir M) = M := by
  unfold mir
  rw [List.map_map]
  have : ∀ row : List Ru, ((fun x => List.map mirR x) ∘ fun x => List.map mirR x) row = row := fun row => by
    show List.map mirR (List.map mirR row) = row
    rw [List.map_map]
    have : (mirR ∘ mirR) = id := by funext r; exact mirR_mirR r
    rw [this, List.map_id]
  rw [show ((fun x => List.map mirR x) ∘ fun x => List.map mirR x) = (id : List Ru → List Ru) from funext this, List.map_id]
theorem getD_map {α β : Type} (f : α → β) : ∀ (l : List α) (i : Nat) (d : α), (l.map f).getD i (f d) = f (l.getD i d)
  | [], _, _ => rfl
  | _ :: _, 0, _ => rfl
  | _ :: r, i + 1, d => by
    rw [List.map_cons, List.getD_cons_succ, List.getD_cons_succ]
    exact getD_map f r i d
theorem rl_mir (M : Mach) (s x : Int) : rl (mir M) s x = mirR (rl M s x) := by
  unfold rl mir
  have h1 : (M.map (·.map mirR)).getD s.toNat [] = (M.getD s.toNat []).map mirR := getD_map (fun r : List Ru => r.map mirR) M s.toNat []
  rw [h1]
  exact getD_map mirR _ _ noRu
theorem cf_mir (M : Mach) : ∀ n, cf (mir M) n = ⟨(cf M n).st, -(cf M n).pl, fun x => (cf M n).tp (-x)⟩
  | 0 => rfl
  | n + 1 => by
    show stp (mir M) (cf (mir M) n) = ⟨(stp M (cf M n)).st, -(stp M (cf M n)).pl, fun x => (stp M (cf M n)).tp (-x)⟩
    rw [cf_mir M n]
    unfold stp
    by_cases h : (cf M n).st = -1
    · simp [h]
    · simp only [h, if_false, Int.neg_neg]
      rw [rl_mir]
      simp only [mirR]
      refine congr (congr (congrArg _ rfl) (by omega)) (funext fun y => ?_)
      by_cases hy : y = -(cf M n).pl
      · rw [if_pos hy, if_pos (by omega)]
      · rw [if_neg hy, if_neg (by omega)]
theorem cf_mir_st (M : Mach) (n : Nat) : (cf (mir M) n).st = (cf M n).st := by rw [cf_mir]
/-- the machine of a side -/
def sided (M : Mach) (r : Bool) : Mach := if r = true then M else mir M
theorem sided_mir (M : Mach) (r : Bool) : sided (mir M) (!r) = sided M r := by
  cases r
  · rfl
  · exact mir_mir M
theorem sided_st (M : Mach) (r : Bool) (n : Nat) : (cf (sided M r) n).st = (cf M n).st := by
  cases r
  · exact cf_mir_st M n
  · rfl

/-! ### machines in form -/
structure RuOk (ns sy : Int) (r : Ru) : Prop where
  w0 : 0 ≤ r.1
  w1 : r.1 < sy
  mv : r.2.1 = 1 ∨ r.2.1 = -1
  s0 : -1 ≤ r.2.2
  s1 : r.2.2 < ns
structure MOk (ns sy : Nat) (M : Mach) : Prop where
  n1 : 1 ≤ ns
  n4 : ns ≤ 4
  s2 : 2 ≤ sy
  s4 : sy ≤ 4
  len : M.length = ns
  row : ∀ row ∈ M, row.length = sy
  ru : ∀ row ∈ M, ∀ r ∈ row, RuOk ns sy r
theorem RuOk.mir {ns sy : Int} {r : Ru} (h : RuOk ns sy r) : RuOk ns sy (mirR r) := ⟨h.w0, h.w1, by
  show -r.2.1 = 1 ∨ -r.2.1 = -1
  have := h.mv
  omega, h.s0, h.s1⟩
theorem MOk.mir {ns sy : Nat} {M : Mach} (h : MOk ns sy M) : MOk ns sy (mir M) := by
  refine ⟨h.n1, h.n4, h.s2, h.s4, by unfold Tac.mir; rw [List.length_map]; exact h.len, fun row hr => ?_, fun row hr r hq => ?_⟩
  · obtain ⟨row', h1, rfl⟩ := List.mem_map.mp hr
    rw [List.length_map]
    exact h.row _ h1
  · obtain ⟨row', h1, rfl⟩ := List.mem_map.mp hr
    obtain ⟨r', h2, rfl⟩ := List.mem_map.mp hq
    exact (h.ru _ h1 _ h2).mir
theorem MOk.sided {ns sy : Nat} {M : Mach} (h : MOk ns sy M) (r : Bool) : MOk ns sy (sided M r) := by
  cases r
  · exact h.mir
  · exact h
/-- where a rule stands -/
theorem MOk.at_ {ns sy : Nat} {M : Mach} (h : MOk ns sy M) {s x : Int} (s0 : 0 ≤ s) (s1 : s < ns) (x0 : 0 ≤ x) (x1 : x < sy) :
    ∃ row, M[s.toNat]? = some row ∧ row[x.toNat]? = some (rl M s x) ∧ RuOk ns sy (rl M s x) := by
  have hs : s.toNat < M.length := by rw [h.len]; omega
  have e1 : M[s.toNat]? = some M[s.toNat] := List.getElem?_eq_getElem hs
  have hm : M[s.toNat] ∈ M := List.getElem_mem hs
  have hx : x.toNat < (M[s.toNat]).length := by rw [h.row _ hm]; omega
  have e2 : (M[s.toNat])[x.toNat]? = some (M[s.toNat])[x.toNat] := List.getElem?_eq_getElem hx
  have e3 : rl M s x = (M[s.toNat])[x.toNat] := by
    unfold rl
    rw [List.getD_eq_getElem?_getD, List.getD_eq_getElem?_getD, e1]
    show ((M[s.toNat])[x.toNat]?).getD noRu = _
    rw [e2]
    rfl
  exact ⟨_, e1, by rw [e3]; exact e2, by rw [e3]; exact h.ru _ hm _ (List.getElem_mem hx)⟩
structure CfOk (ns sy : Int) (n : Nat) (c : Cf) : Prop where
  s0 : -1 ≤ c.st
  s1 : c.st < ns
  p0 : -(n : Int) ≤ c.pl
  p1 : c.pl ≤ n
  t0 : ∀ x, 0 ≤ c.tp x
  t1 : ∀ x, c.tp x < sy
  far : ∀ x, c.tp x ≠ 0 → -(n : Int) < x ∧ x < n
theorem cf_ok {ns sy : Nat} {M : Mach} (h : MOk ns sy M) : ∀ n, CfOk ns sy n (cf M n)
  | 0 => ⟨by show (-1 : Int) ≤ 0; decide, by show (0 : Int) < ns; have := h.n1; omega, Int.le_refl 0, Int.le_refl 0, fun _ => Int.le_refl 0, fun _ => by show (0 : Int) < sy; have := h.s2; omega, fun _ q => absurd rfl q⟩
  | n + 1 => by
    have ih := cf_ok h n
    obtain ⟨s0, s1, p0, p1, t0, t1, far⟩ := ih
    by_cases e : (cf M n).st = -1
    · have q : cf M (n + 1) = cf M n := cf_stop e 1
      rw [q]
      refine ⟨s0, s1, by omega, by omega, t0, t1, fun x hx => ?_⟩
      have := far x hx
      omega
    · obtain ⟨row, _, _, ro⟩ := h.at_ (s := (cf M n).st) (x := (cf M n).tp (cf M n).pl) (by omega) s1 (t0 _) (t1 _)
      rw [cf_succ e]
      obtain ⟨w0, w1, mv, u0, u1⟩ := ro
      refine ⟨u0, u1, ?_, ?_, fun x => ?_, fun x => ?_, fun x hx => ?_⟩
      · show _ ≤ (cf M n).pl + _
        omega
      · show (cf M n).pl + _ ≤ _
        omega
      · show 0 ≤ (if x = (cf M n).pl then _ else _)
        split
        · exact w0
        · exact t0 x
      · show (if x = (cf M n).pl then _ else _) < _
        split
        · exact w1
        · exact t1 x
      · by_cases hxe : x = (cf M n).pl
        · omega
        · have : (cf M n).tp x ≠ 0 := by
            have q : (if x = (cf M n).pl then (rl M (cf M n).st ((cf M n).tp (cf M n).pl)).1 else (cf M n).tp x) ≠ 0 := hx
            rw [if_neg hxe] at q
            exact q
          have := far x this
          omega

/-! ### the written cells -/
/-- f and zs are the first place that is not blank, and the symbols from there to the last one -/
def Row (tp : Int → Int) (f : Int) (zs : List Int) : Prop :=
  (zs = [] ∧ f = 0 ∧ ∀ x, tp x = 0) ∨
  (zs ≠ [] ∧ tp f ≠ 0 ∧ tp (f + (zs.length : Int) - 1) ≠ 0 ∧ (∀ i : Nat, i < zs.length → zs[i]? = some (tp (f + i))) ∧ ∀ x, (x < f ∨ f + (zs.length : Int) ≤ x) → tp x = 0)
def tailF (f : Int) (zs : List Int) (u : Int) : List Int :=
  if f ≤ u then zs.drop (u - f).toNat else if zs = [] then [] else List.replicate (f - u).toNat 0 ++ zs
/-- what a tail is: the symbols from u to the last one -/
theorem Row.tail {tp : Int → Int} {f : Int} {zs : List Int} (h : Row tp f zs) (u : Int) :
    (∀ i : Nat, i < (tailF f zs u).length → (tailF f zs u)[i]? = some (tp (u + i))) ∧ (∀ i : Nat, (tailF f zs u).length ≤ i → tp (u + i) = 0) ∧ (0 < (tailF f zs u).length → tp (u + (tailF f zs u).length - 1) ≠ 0) := by
  rcases h with ⟨rfl, rfl, h0⟩ | ⟨hne, hf, hl, hz, h0⟩
  · have e : tailF 0 [] u = [] := by
      unfold tailF
      split
      · simp
      · rfl
    rw [e]
    exact ⟨fun i hi => absurd hi (Nat.not_lt_zero _), fun i _ => h0 _, fun q => absurd q (Nat.lt_irrefl _)⟩
  · unfold tailF
    by_cases hu : f ≤ u
    · rw [if_pos hu]
      have el : (zs.drop (u - f).toNat).length = zs.length - (u - f).toNat := List.length_drop
      refine ⟨fun i hi => ?_, fun i hi => ?_, fun q => ?_⟩
      · rw [List.getElem?_drop, hz _ (by omega)]
        congr 2
        omega
      · refine h0 _ (.inr ?_)
        omega
      · rw [el] at q ⊢
        have e : u + ((zs.length - (u - f).toNat : Nat) : Int) - 1 = f + (zs.length : Int) - 1 := by omega
        rw [e]
        exact hl
    · rw [if_neg hu, if_neg hne]
      have el : (List.replicate (f - u).toNat (0 : Int) ++ zs).length = (f - u).toNat + zs.length := by rw [List.length_append, List.length_replicate]
      have hlen : 0 < zs.length := List.length_pos_iff.mpr hne
      refine ⟨fun i hi => ?_, fun i hi => ?_, fun _ => ?_⟩
      · rw [el] at hi
        by_cases hi2 : i < (f - u).toNat
        · rw [List.getElem?_append_left (by rw [List.length_replicate]; exact hi2), List.getElem?_replicate, if_pos hi2, h0 (u + i) (.inl (by omega))]
        · rw [List.getElem?_append_right (by rw [List.length_replicate]; omega), List.length_replicate, hz _ (by omega)]
          congr 2
          omega
      · rw [el] at hi
        exact h0 _ (.inr (by omega))
      · rw [el]
        have e : u + (((f - u).toNat + zs.length : Nat) : Int) - 1 = f + (zs.length : Int) - 1 := by omega
        rw [e]
        exact hl
theorem tail_eq {tp tp' : Int → Int} {f f' : Int} {zs zs' : List Int} (h : Row tp f zs) (h' : Row tp' f' zs') (u u' : Int) :
    tailF f zs u = tailF f' zs' u' ↔ ∀ i : Nat, tp (u + i) = tp' (u' + i) := by
  obtain ⟨a1, a2, a3⟩ := h.tail u
  obtain ⟨b1, b2, b3⟩ := h'.tail u'
  constructor
  · intro e i
    by_cases hi : i < (tailF f zs u).length
    · have q1 := a1 i hi
      rw [e] at q1 hi
      rw [b1 i hi] at q1
      exact (Option.some.inj q1).symm
    · rw [a2 i (by omega), b2 i (by rw [← e]; omega)]
  · intro e
    have ll : (tailF f zs u).length = (tailF f' zs' u').length := by
      generalize (tailF f zs u).length = l at a2 a3
      generalize (tailF f' zs' u').length = l' at b2 b3
      rcases Nat.lt_trichotomy l l' with q | q | q
      · exfalso
        have z := b3 (by omega)
        have e1 : u' + (l' : Int) - 1 = u' + ((l' - 1 : Nat) : Int) := by omega
        rw [e1, ← e, a2 _ (by omega)] at z
        exact z rfl
      · exact q
      · exfalso
        have z := a3 (by omega)
        have e1 : u + (l : Int) - 1 = u + ((l - 1 : Nat) : Int) := by omega
        rw [e1, e, b2 _ (by omega)] at z
        exact z rfl
    refine List.ext_getElem? fun i => ?_
    by_cases hi : i < (tailF f zs u).length
    · rw [a1 i hi, b1 i (by omega), e i]
    · rw [List.getElem?_eq_none (by omega), List.getElem?_eq_none (by omega)]
/-- a loop, by the tails -/
theorem loop_iff {M : Mach} {a b : Nat} {m : Int} {f f' : Int} {zs zs' : List Int} (hab : a < b) (go : (cf M b).st ≠ -1) (hm : Least M a b m) (h : Row (cf M a).tp f zs) (h' : Row (cf M b).tp f' zs') :
    Loop M a b ↔ (cf M b).st = (cf M a).st ∧ (cf M a).pl ≤ (cf M b).pl ∧ tailF f zs m = tailF f' zs' (m + ((cf M b).pl - (cf M a).pl)) := by
  rw [tail_eq h h']
  constructor
  · intro L
    refine ⟨L.st, L.dd, fun i => ?_⟩
    have := L.tp m hm (m + i) (by omega)
    rw [← this]
    congr 1
    omega
  · rintro ⟨e1, e2, e3⟩
    refine ⟨hab, go, e1, e2, fun m' hm' x hx => ?_⟩
    have em := hm.uniq hm'
    subst em
    have q := e3 (x - m).toNat
    have e4 : m + ((x - m).toNat : Int) = x := by omega
    rw [e4] at q
    rw [q]
    congr 1
    omega
end Tac

namespace Tac
open PySem L2

/-! ### the text by places -/
def top (i : Nat) : Stmt := PySem.Challenge.pw_tacet_k34_whole_loops_never_stop.main.body.getD i (.Pass ⟨0, 0, 0, 0⟩)
abbrev sMir : Stmt := top 2
abbrev sRInit : Stmt := inClass (top 4) 0
abbrev sSym : Stmt := inClass (top 4) 1
abbrev sStep : Stmt := inClass (top 4) 2
abbrev sRun : Stmt := inClass (top 4) 3
abbrev sCells : Stmt := inClass (top 4) 4
abbrev sRTail : Stmt := inClass (top 4) 5
abbrev sTail : Stmt := top 5
abbrev sHInit : Stmt := inClass (top 8) 0
abbrev sGrow : Stmt := inClass (top 8) 1
abbrev sRep : Stmt := inClass (top 8) 2
abbrev sIsLoop : Stmt := top 9
abbrev sLast : Stmt := top 10
abbrev sFind : Stmt := top 11
abbrev sStream : Stmt := top 13
abbrev sDraw : Stmt := top 14
abbrev sNeeded : Stmt := top 15
abbrev sGrown : Stmt := top 16
abbrev sMach : Stmt := top 17
abbrev sLMir : Stmt := top 18
abbrev sAfter : Stmt := top 19
abbrev sHist : Stmt := top 20
abbrev sLaw : Stmt := top 21

/-! ### what is kept of the heap: all but the addresses of A -/
structure Kp (A : List Addr) (H H' : Hp) : Prop where
  all : ∀ b o, H b = some o → b ∉ A → H' b = some o
  tup : ∀ b xs, H b = some (.tup xs) → H' b = some (.tup xs)
  frz : ∀ b o u, H b = some (.frz o u) → H' b = some (.frz o u)
  dom : ∀ b, H' b = none → H b = none
theorem Kp.refl (A : List Addr) (H : Hp) : Kp A H H := ⟨fun _ _ e _ => e, fun _ _ e => e, fun _ _ _ e => e, fun _ e => e⟩
theorem Kp.trans {A : List Addr} {H H1 H2 : Hp} (a : Kp A H H1) (b : Kp A H1 H2) : Kp A H H2 :=
  ⟨fun c o e n => b.all c o (a.all c o e n) n, fun c xs e => b.tup c xs (a.tup c xs e), fun c o u e => b.frz c o u (a.frz c o u e), fun c e => a.dom c (b.dom c e)⟩
theorem Kp.mono {A B : List Addr} {H H' : Hp} (a : Kp A H H') (s : ∀ b, b ∈ A → b ∈ B) : Kp B H H' :=
  ⟨fun c o e n => a.all c o e fun z => n (s c z), a.tup, a.frz, a.dom⟩
theorem Kp.nil {A : List Addr} {H H' : Hp} (a : Kp [] H H') : Kp A H H' := a.mono fun _ z => nomatch z
theorem Kp.same {H H' : Hp} (a : Kp [] H H') : Same H H' := fun b o e => a.all b o e fun z => nomatch z
/-- a new object -/
theorem Kp.new (A : List Addr) {H : Hp} {p : Addr} {o : HO} (n : H p = none) : Kp A H (upd H p o) := by
  have ne : ∀ b u, H b = some u → b ≠ p := fun b u e => ne_of_none e n
  refine ⟨fun b u e _ => by rw [upd_ne (ne b _ e)]; exact e, fun b xs e => by rw [upd_ne (ne b _ e)]; exact e, fun b u v e => by rw [upd_ne (ne b _ e)]; exact e, fun b e => ?_⟩
  by_cases hb : b = p
  · rw [hb]
    exact n
  · rw [upd_ne hb] at e
    exact e
/-- an object of A is changed -/
theorem Kp.put {A : List Addr} {H : Hp} {p : Addr} {o u : HO} (hp : p ∈ A) (hu : H p = some u) (mu : Mut (some u)) : Kp A H (upd H p o) := by
  refine ⟨fun b v e n => ?_, fun b xs e => ?_, fun b v w e => ?_, fun b e => ?_⟩
  · rw [upd_ne (fun z => n (by rw [z]; exact hp))]
    exact e
  · rw [upd_ne]
    · exact e
    · intro z
      subst z
      rw [e] at hu
      cases hu
      exact mu
  · rw [upd_ne]
    · exact e
    · intro z
      subst z
      rw [e] at hu
      cases hu
      exact mu
  · by_cases hb : b = p
    · subst hb
      rw [upd_same] at e
      cases e
    · rw [upd_ne hb] at e
      exact e
/-- .. behind what was kept -/
theorem Kp.wr {A : List Addr} {H H1 : Hp} {p : Addr} {o u : HO} (k : Kp A H H1) (hu : H1 p = some u) (mu : Mut (some u) := by exact trivial) (hp : p ∈ A := by simp) : Kp A H (upd H1 p o) := k.trans (Kp.put hp hu mu)
theorem Kp.nw {A : List Addr} {H H1 : Hp} {p : Addr} {o : HO} (k : Kp A H H1) (n : H1 p = none) : Kp A H (upd H1 p o) := k.trans (Kp.new A n)
/-- an address that is new counts as kept -/
theorem Kp.cut {a : Addr} {A : List Addr} {H H' : Hp} (k : Kp (a :: A) H H') (n : H a = none) : Kp A H H' :=
  ⟨fun b o e nb => k.all b o e fun z => by
    rcases List.mem_cons.mp z with z | z
    · subst z
      rw [n] at e
      cases e
    · exact nb z, k.tup, k.frz, k.dom⟩
theorem Kp.sqT {A : List Addr} {K : PySem.W.Frag} {H H' : Hp} {a : Addr} {xs : List V} (k : Kp A H H') (h : SqT K H a xs) : SqT K H' a xs := by
  rcases h with (h | ⟨o, h⟩) | h
  · exact .inl (.inl (k.tup _ _ h))
  · exact .inl (.inr ⟨o, k.frz _ _ _ h⟩)
  · exact .inr h
theorem Kp.lst {A : List Addr} {H H' : Hp} {a : Addr} {o : HO} (k : Kp A H H') (h : H a = some o) (n : a ∉ A) : H' a = some o := k.all _ _ h n

/-! ### machines in the heap -/
section
variable (K : PySem.W.Frag)
def ruV (r : Ru) : List V := [.int r.1, .int r.2.1, .int r.2.2]
def RuAt (H : Hp) (a : Addr) (r : Ru) : Prop := SqT K H a (ruV r)
def RowAt (H : Hp) (a : Addr) (row : List Ru) : Prop := ∃ as : List Addr, SqT K H a (as.map V.ref) ∧ Paired (RuAt K H) as row
def MaAt (H : Hp) (a : Addr) (M : Mach) : Prop := ∃ as : List Addr, SqT K H a (as.map V.ref) ∧ Paired (RowAt K H) as M
end
theorem pair_get {α β : Type} {G : α → β → Prop} {l : List α} {m : List β} (h : Paired G l m) : ∀ {i : Nat} {b : β}, m[i]? = some b → ∃ a, l[i]? = some a ∧ G a b := by
  induction h with
  | nil => intro i b e; simp at e
  | cons r _ ih =>
    intro i b e
    cases i with
    | zero =>
      simp at e
      subst e
      exact ⟨_, rfl, r⟩
    | succ i => exact ih (by simpa using e)
theorem pair_imp {α β : Type} {F G : α → β → Prop} (f : ∀ a b, F a b → G a b) : ∀ {l : List α} {m : List β}, Paired F l m → Paired G l m
  | _, _, .nil => .nil
  | _, _, .cons r t => .cons (f _ _ r) (pair_imp f t)
theorem pair_snoc {α β : Type} {F : α → β → Prop} {a : α} {b : β} (r : F a b) : ∀ {l : List α} {m : List β}, Paired F l m → Paired F (l ++ [a]) (m ++ [b])
  | _, _, .nil => .cons r .nil
  | _, _, .cons q t => .cons q (pair_snoc r t)
section
variable {K : PySem.W.Frag} {A : List Addr} {H H' : Hp} {a : Addr}
theorem RuAt.kp {r : Ru} (k : Kp A H H') (h : RuAt K H a r) : RuAt K H' a r := k.sqT h
theorem RowAt.kp {row : List Ru} (k : Kp A H H') (h : RowAt K H a row) : RowAt K H' a row := by
  obtain ⟨as, h1, h2⟩ := h
  exact ⟨as, k.sqT h1, pair_imp (fun _ _ q => RuAt.kp k q) h2⟩
theorem MaAt.kp {M : Mach} (k : Kp A H H') (h : MaAt K H a M) : MaAt K H' a M := by
  obtain ⟨as, h1, h2⟩ := h
  exact ⟨as, k.sqT h1, pair_imp (fun _ _ q => RowAt.kp k q) h2⟩
/-- machine[s][x] -/
theorem MaAt.rule {ns sy : Nat} {M : Mach} (h : MaAt K H a M) (ok : MOk ns sy M) {s x : Int} (s0 : 0 ≤ s) (s1 : s < ns) (x0 : 0 ≤ x) (x1 : x < sy) :
    ∃ (as : List Addr) (r : Addr) (bs : List Addr) (q : Addr), SqT K H a (as.map V.ref) ∧ atI (as.map V.ref) s = some (V.ref r) ∧ SqT K H r (bs.map V.ref) ∧ atI (bs.map V.ref) x = some (V.ref q) ∧ SqT K H q (ruV (rl M s x)) ∧ RuOk ns sy (rl M s x) := by
  obtain ⟨row, e1, e2, ro⟩ := ok.at_ s0 s1 x0 x1
  obtain ⟨as, h1, h2⟩ := h
  obtain ⟨r, f1, bs, h3, h4⟩ := pair_get h2 e1
  obtain ⟨q, f2, h5⟩ := pair_get h4 e2
  refine ⟨as, r, bs, q, h1, ?_, h3, ?_, h5, ro⟩
  · have e : s = (s.toNat : Int) := by omega
    rw [e]
    exact atI_nat (by rw [List.getElem?_map, f1]; rfl)
  · have e : x = (x.toNat : Int) := by omega
    rw [e]
    exact atI_nat (by rw [List.getElem?_map, f2]; rfl)
end

/-! ### what the top has written -/
structure Txt (K : PySem.W.Frag) (mg : Str → Option Value) (CR CH : Addr) : Prop where
  clR : Cls K CR
  rM : NoAttr K CR "machine"
  rT : NoAttr K CR "tape"
  rP : NoAttr K CR "place"
  rS : NoAttr K CR "state"
  rN : NoAttr K CR "steps"
  mgR : mg "Runner" = some (.ref CR)
  clH : Cls K CH
  hR : NoAttr K CH "runner"
  hS : NoAttr K CH "states"
  hP : NoAttr K CH "places"
  hT : NoAttr K CH "tapes"
  mgH : mg "History" = some (.ref CH)
  stop : ∃ t, mg "STOP" = some (.int (-1) t)
  tuple : mg "tuple" = none
  sorted : mg "sorted" = none
  range : mg "range" = none
  min : mg "min" = none
  int : mg "int" = none
  list : mg "list" = none
  len : mg "len" = none
  abs : mg "abs" = none
  dict : mg "dict" = none

/-! ### the runner's fields -/
def rf (m d : Addr) (pl st n : Int) : List (Str × V) := [("machine", .ref m), ("tape", .ref d), ("place", .int pl), ("state", .int st), ("steps", .int n)]
section
variable (m d : Addr) (pl st n : Int)
theorem rf_machine : (rf m d pl st n).lookup ("machine" : Str) = some (.ref m) := by kernel_rfl
theorem rf_tape : (rf m d pl st n).lookup ("tape" : Str) = some (.ref d) := by kernel_rfl
theorem rf_place : (rf m d pl st n).lookup ("place" : Str) = some (.int pl) := by kernel_rfl
theorem rf_state : (rf m d pl st n).lookup ("state" : Str) = some (.int st) := by kernel_rfl
theorem rf_steps : (rf m d pl st n).lookup ("steps" : Str) = some (.int n) := by kernel_rfl
theorem rf_put_place (v : Int) : putF "place" (.int v) (rf m d pl st n) = rf m d v st n := by kernel_rfl
theorem rf_put_state (v : Int) : putF "state" (.int v) (rf m d pl st n) = rf m d pl v n := by kernel_rfl
theorem rf_put_steps (v : Int) : putF "steps" (.int v) (rf m d pl st n) = rf m d pl st v := by kernel_rfl
theorem rf_new : putF "steps" (.int n) (putF "state" (.int st) (putF "place" (.int pl) (putF "tape" (.ref d) (putF "machine" (.ref m) [])))) = rf m d pl st n := by kernel_rfl
theorem rf_no_symbol : (rf m d pl st n).lookup ("symbol" : Str) = none := by kernel_rfl
theorem rf_no_step : (rf m d pl st n).lookup ("step" : Str) = none := by kernel_rfl
theorem rf_no_run : (rf m d pl st n).lookup ("run" : Str) = none := by kernel_rfl
theorem rf_no_cells : (rf m d pl st n).lookup ("cells" : Str) = none := by kernel_rfl
theorem rf_no_tail : (rf m d pl st n).lookup ("tail" : Str) = none := by kernel_rfl
theorem rf_len : (rf m d pl st n).length = 5 := rfl
end

/-! ### a tape in a dict -/
structure TapeOk (kvs : List (Key × V)) (tp : Int → Int) : Prop where
  val : ∀ x : Int, (valV kvs (Sum.inl x : Key)).getD (.int 0) = .int (tp x)
  key : ∀ p ∈ kvs, ∃ x : Int, p.1 = Sum.inl x
theorem TapeOk.nil : TapeOk [] (fun _ => 0) := ⟨fun _ => rfl, fun _ h => nomatch h⟩
theorem putK_mem {kvs : List (Key × V)} {k : Key} {v : V} {p : Key × V} (h : p ∈ putK kvs k v) : p.1 = k ∨ ∃ q ∈ kvs, q.1 = p.1 := by
  unfold putK at h
  split at h
  · obtain ⟨q, hq, e⟩ := List.mem_map.mp h
    refine .inr ⟨q, hq, ?_⟩
    split at e
    · rw [← e]
    · rw [← e]
  · rcases List.mem_append.mp h with h | h
    · exact .inr ⟨p, h, rfl⟩
    · have e : p = (k, v) := List.mem_singleton.mp h
      exact .inl (by rw [e])
theorem TapeOk.put {kvs : List (Key × V)} {tp : Int → Int} (h : TapeOk kvs tp) (x v : Int) : TapeOk (putK kvs (Sum.inl x : Key) (.int v)) (fun y => if y = x then v else tp y) := by
  refine ⟨fun y => ?_, fun p hp => ?_⟩
  · rw [valV_put]
    by_cases e : y = x
    · subst e
      rw [if_pos rfl, if_pos rfl]
      rfl
    · rw [if_neg (fun z => e (Sum.inl.inj z)), if_neg e]
      exact h.val y
  · rcases putK_mem hp with e | ⟨q, hq, e⟩
    · exact ⟨x, e⟩
    · rw [← e]
      exact h.key q hq
end Tac

namespace Tac
open PySem L2

/-! ### the runner, by its promises -/
/-- the runner at p, its tape the dict at d, its machine at m -/
def RAt (C : Addr) (H : Hp) (p d m : Addr) (kvs : List (Key × V)) (pl st n : Int) : Prop :=
  p ≠ d ∧ (∃ dx, H p = some (.ins C dx (rf m d pl st n))) ∧ H d = some (.dK kvs)
/-- .. after k steps of M from the blank tape -/
def At (K : PySem.W.Frag) (C : Addr) (H : Hp) (p d m : Addr) (M : Mach) (k : Nat) : Prop :=
  ∃ kvs, RAt C H p d m kvs (cf M k).pl (cf M k).st k ∧ TapeOk kvs (cf M k).tp ∧ kvs.length ≤ k ∧ MaAt K H m M
theorem At.kp {K : PySem.W.Frag} {C : Addr} {H H' : Hp} {A : List Addr} {p d m : Addr} {M : Mach} {k : Nat} (h : At K C H p d m M k) (q : Kp A H H') (np : p ∉ A) (nd : d ∉ A) : At K C H' p d m M k := by
  obtain ⟨kvs, ⟨hpd, ⟨dx, h1⟩, h2⟩, t, l, ma⟩ := h
  exact ⟨kvs, ⟨hpd, ⟨dx, q.lst h1 np⟩, q.lst h2 nd⟩, t, l, ma.kp q⟩
def spRInit (C : Addr) : Sp := fun vs H Q _ => ∃ (p m dx : Addr), vs = [.ref p, .ref m] ∧ H p = some (.ins C dx []) ∧
  ∀ d H', H d = none → Kp [p] H H' → RAt C H' p d m [] 0 0 0 → Q .non H'
def spSym (K : PySem.W.Frag) (C : Addr) : Sp := fun vs H Q _ => ∃ (p d m : Addr) (M : Mach) (k : Nat), vs = [.ref p] ∧ At K C H p d m M k ∧ Q (.int ((cf M k).tp (cf M k).pl)) H
def spStep (K : PySem.W.Frag) (C : Addr) : Sp := fun vs H Q _ => ∃ (p d m : Addr) (M : Mach) (ns sy k : Nat), vs = [.ref p] ∧ At K C H p d m M k ∧ MOk ns sy M ∧ (cf M k).st ≠ -1 ∧ k ≤ 1000 ∧
  ∀ H', Kp [p, d] H H' → At K C H' p d m M (k + 1) → Q .non H'
def spRun (K : PySem.W.Frag) (C : Addr) : Sp := fun vs H Q _ => ∃ (p d m : Addr) (M : Mach) (ns sy c : Nat), vs = [.ref p, .int c] ∧ At K C H p d m M 0 ∧ MOk ns sy M ∧ c ≤ 1000 ∧
  ∀ H' k, Kp [p, d] H H' → At K C H' p d m M k → k ≤ c → ((cf M k).st = -1 ∨ k = c) → Q (.bl (decide ((cf M k).st = -1))) H'

section
variable {P : Program} {w : World} {K : PySem.W.Frag} {mg : Str → Option Value} {base : Heap} {CR CH : Addr}
theorem scRI : FnScope ["self", "machine"] ["self", "machine"] (defScope sRInit) := ⟨rfl, rfl, rfl, by decide +kernel, rfl, by decide +kernel, by decide +kernel⟩
theorem ok_rinit {f : Addr} {fd : FuncData} (F : Fun K "__init__" "Runner.__init__" sRInit f fd) (T : Txt K mg CR CH) : FnOk P w K mg base CX0 1 f fd ["self", "machine"] (spRInit CR) := by
  refine F.ok scRI (fun vs H Q E h => ?_) (fun cdv A outer s H vs Q E hr h => ?_)
  · obtain ⟨p, m, dx, rfl, _⟩ := h
    rfl
  · obtain ⟨p, m, dx, rfl, hp, k⟩ := h
    refine ⟨_, pss_cons (ps_fld (pv 0) (pv 1) rfl) (pss_cons (ps_fld (pv 0) pe_dnewK rfl) (pss_cons (ps_fld (pv 0) pe_int rfl) (pss_cons (ps_fld (pv 0) pe_int rfl) (pss_one (ps_fld (pv 0) pe_int rfl))))), ?_⟩
    refine ⟨_, rfl, _, rfl, p, CR, dx, [], rfl, hp, T.clR, T.rM, (by show 0 < 1000; decide), ?_⟩
    intro d hd
    have npd : p ≠ d := fun q => by
      subst q
      rw [upd_same] at hd
      cases hd
    have hd0 : H d = none := by
      rw [upd_ne npd.symm] at hd
      exact hd
    refine ⟨_, rfl, p, CR, dx, _, rfl, (by rw [upd_ne npd]; exact upd_same), T.clR, T.rT, (by show 1 < 1000; decide), ?_⟩
    refine ⟨_, rfl, p, CR, dx, _, rfl, upd_same, T.clR, T.rP, (by show 2 < 1000; decide), ?_⟩
    refine ⟨_, rfl, p, CR, dx, _, rfl, upd_same, T.clR, T.rS, (by show 3 < 1000; decide), ?_⟩
    refine ⟨_, rfl, p, CR, dx, _, rfl, upd_same, T.clR, T.rN, (by show 4 < 1000; decide), ?_⟩
    refine k d _ hd0 ?_ ?_
    · exact .wr (.wr (.wr (.wr (.nw (.wr (.refl _ _) hp) hd) (by rw [upd_ne npd]; exact upd_same)) upd_same) upd_same) upd_same
    · refine ⟨npd, ⟨dx, ?_⟩, ?_⟩
      · rw [upd_same, rf_new]
      · rw [upd_ne npd.symm, upd_ne npd.symm, upd_ne npd.symm, upd_ne npd.symm, upd_same]
theorem scSy : FnScope ["self"] ["self"] (defScope sSym) := ⟨rfl, rfl, rfl, by decide +kernel, rfl, by decide +kernel, by decide +kernel⟩
theorem ok_sym {f : Addr} {fd : FuncData} (F : Fun K "symbol" "Runner.symbol" sSym f fd) (T : Txt K mg CR CH) : FnOk P w K mg base CX0 1 f fd ["self"] (spSym K CR) := by
  refine F.ok scSy (fun vs H Q E h => ?_) (fun cdv A outer s H vs Q E hr h => ?_)
  · obtain ⟨p, d, m, M, k, rfl, _⟩ := h
    rfl
  · obtain ⟨p, d, m, M, k, rfl, ⟨kvs, ⟨npd, ⟨dx, hp⟩, hd⟩, ht, hl, ma⟩, q⟩ := h
    have hu := hu_of hr
    refine ⟨_, pss_one (ps_ret (pe_dget2 hu (pe_fld (pv 0) rfl) (pe_fld (pv 0) rfl) pe_int ⟨rfl, rfl, rfl, rfl⟩)), ?_⟩
    refine ⟨_, rfl, p, CR, dx, _, _, rfl, hp, T.clR, T.rT, rf_tape _ _ _ _ _, d, rfl, .inl ⟨kvs, .inl hd⟩, ?_⟩
    refine ⟨_, rfl, p, CR, dx, _, _, rfl, hp, T.clR, T.rP, rf_place _ _ _ _ _, ?_⟩
    refine ⟨_, DGet.k (k := Sum.inl (cf M k).pl) hd, ?_⟩
    rw [ht.val]
    exact q
theorem scSt : FnScope ["self", "write", "move", "state"] ["self"] (defScope sStep) := ⟨rfl, rfl, rfl, by decide +kernel, rfl, by decide +kernel, by decide +kernel⟩
theorem ok_step {f fS : Addr} {fd fdS : FuncData} (F : Fun K "step" "Runner.step" sStep f fd) (T : Txt K mg CR CH) (FS : Fun K "symbol" "Runner.symbol" sSym fS fdS) (bS : Binds K fdS ["self"] []) (mS : Meth K CR "symbol" fS) :
    FnOk P w K mg base CX0 2 f fd ["self"] (spStep K CR) := by
  have GS : FnOk P w K mg base CX0 1 fS fdS ["self"] (spSym K CR) := ok_sym FS T
  refine F.ok scSt (fun vs H Q E h => ?_) (fun cdv A outer s H vs Q E hr h => ?_)
  · obtain ⟨p, d, m, M, ns, sy, k, rfl, _⟩ := h
    rfl
  · obtain ⟨p, d, m, M, ns, sy, k, rfl, hA, ok, go, hk, q⟩ := h
    obtain ⟨kvs, ⟨npd, ⟨dx, hp⟩, hd⟩, ht, hl, ma⟩ := id hA
    have hu := hu_of hr
    have co := cf_ok ok k
    obtain ⟨as, r, bs, qa, h1, h2, h3, h4, h5, ro⟩ := ma.rule ok (s := (cf M k).st) (x := (cf M k).tp (cf M k).pl) (by have := co.s0; omega) co.s1 (co.t0 _) (co.t1 _)
    have es := cf_succ go
    generalize hru : rl M (cf M k).st ((cf M k).tp (cf M k).pl) = ru at h5 ro es
    refine ⟨_, pss_cons (ps_asg (pe_ix ix_tup (pe_ix ix_tup (pe_fld (pv 0) rfl) (pe_fld (pv 0) rfl) (fun _ _ => rfl)) (pe_meth0 (pv 0) T.clR mS GS hr bS .nil pass0) (fun _ _ => rfl))
        (pg_tup rfl (pgs_cons (pg_name (i := 1) scSt.nd rfl (.inl rfl)) (pgs_cons (pg_name (i := 2) scSt.nd rfl (.inl rfl)) (pgs_cons (pg_name (i := 3) scSt.nd rfl (.inl rfl)) pgs_nil)))))
      (pss_cons (ps_dput hu (pe_fld (pv 0) rfl) (pe_fld (pv 0) rfl) (pv 1) rfl)
      (pss_cons (ps_fldaug (pv 0) (pv 2) in_add)
      (pss_cons (ps_fld (pv 0) (pv 3) rfl)
      (pss_one (ps_fldaug (pv 0) pe_int in_add))))), ?_⟩
    refine ⟨_, rfl, p, CR, dx, _, _, rfl, hp, T.clR, T.rM, rf_machine _ _ _ _ _, _, rfl, p, CR, dx, _, _, rfl, hp, T.clR, T.rS, rf_state _ _ _ _ _, m, _, _, _, rfl, rfl, h1, h2, ?_⟩
    refine ⟨_, rfl, p, dx, _, rfl, hp, rf_no_symbol _ _ _ _ _, p, d, m, M, k, rfl, hA, ?_⟩
    refine ⟨r, _, _, _, rfl, rfl, h3, h4, ?_⟩
    refine ⟨qa, _, rfl, h5, rfl, _, _, rfl, _, _, rfl, _, _, rfl, rfl, ?_⟩
    -- self.tape[self.place] = write
    refine ⟨_, rfl, _, rfl, p, CR, dx, _, _, rfl, hp, T.clR, T.rT, rf_tape _ _ _ _ _, _, rfl, p, CR, dx, _, _, rfl, hp, T.clR, T.rP, rf_place _ _ _ _ _, d, _, rfl, DPut.k (k := Sum.inl (cf M k).pl) hd (small1000 (by omega)), ?_⟩
    have hp1 : ∀ o, (upd H d o) p = some (.ins CR dx (rf m d (cf M k).pl (cf M k).st k)) := fun o => by rw [upd_ne npd]; exact hp
    -- self.place += move
    refine ⟨_, rfl, p, CR, dx, _, _, rfl, hp1 _, T.clR, T.rP, rf_place _ _ _ _ _, _, rfl, _, _, rfl, rfl, dx, _, hp1 _, (by show 5 < 1000; decide), ?_⟩
    rw [rf_put_place]
    -- self.state = state
    refine ⟨_, rfl, _, rfl, p, CR, dx, _, rfl, upd_same, T.clR, T.rS, (by show 5 < 1000; decide), ?_⟩
    rw [rf_put_state]
    -- self.steps += 1
    refine ⟨_, rfl, p, CR, dx, _, _, rfl, upd_same, T.clR, T.rN, rf_steps _ _ _ _ _, _, _, rfl, rfl, dx, _, upd_same, (by show 5 < 1000; decide), ?_⟩
    rw [rf_put_steps]
    have kp : Kp [p, d] H (upd (upd (upd (upd H d (.dK (putK kvs (Sum.inl (cf M k).pl) (.int ru.1)))) p (.ins CR dx (rf m d ((cf M k).pl + ru.2.1) (cf M k).st k))) p (.ins CR dx (rf m d ((cf M k).pl + ru.2.1) ru.2.2 k))) p (.ins CR dx (rf m d ((cf M k).pl + ru.2.1) ru.2.2 (k + 1)))) := by
      exact .wr (.wr (.wr (.wr (.refl _ _) hd) (hp1 _)) upd_same) upd_same
    refine q _ kp ⟨putK kvs (Sum.inl (cf M k).pl : Key) (.int ru.1), ⟨npd, ⟨dx, ?_⟩, ?_⟩, ?_, ?_, ma.kp kp⟩
    · rw [upd_same, es]
      rfl
    · rw [upd_ne npd.symm, upd_ne npd.symm, upd_ne npd.symm, upd_same]
    · rw [es]
      exact ht.put _ _
    · have := length_putK kvs (Sum.inl (cf M k).pl : Key) (.int ru.1)
      omega
end
end Tac

namespace Tac
open PySem L2
theorem decV (i j : Int) : decide (V.int i = V.int j) = decide (i = j) := by
  by_cases e : i = j
  · subst e
    simp
  · rw [decide_eq_false e, decide_eq_false fun z => e (V.int.inj z)]
section
variable {P : Program} {w : World} {K : PySem.W.Frag} {mg : Str → Option Value} {base : Heap} {CR CH : Addr}
theorem scRu : FnScope ["self", "count", "_"] ["self", "count"] (defScope sRun) := ⟨rfl, rfl, rfl, by decide +kernel, rfl, by decide +kernel, by decide +kernel⟩
theorem ok_run {f fS : Addr} {fd fdS : FuncData} (F : Fun K "run" "Runner.run" sRun f fd) (T : Txt K mg CR CH) (GS : FnOk P w K mg base CX0 2 fS fdS ["self"] (spStep K CR)) (bS : Binds K fdS ["self"] []) (mS : Meth K CR "step" fS) :
    FnOk P w K mg base CX0 3 f fd ["self", "count"] (spRun K CR) := by
  refine F.ok scRu (fun vs H Q E h => ?_) (fun cdv A outer s H vs Q E hr h => ?_)
  · obtain ⟨p, d, m, M, ns, sy, c, rfl, _⟩ := h
    rfl
  · obtain ⟨p, d, m, M, ns, sy, c, rfl, hA, ok, hc, q⟩ := h
    obtain ⟨ts, hst⟩ := T.stop
    refine ⟨_, pss_cons (ps_for PassesOwn.never rfl (pi_range1 rfl T.range (pa_cons (pv 1) pa_nil)) (pg_name (i := 2) scRu.nd rfl (.inl rfl))
        (pss_cons (ps_if (pt_cmpR op_eq (pe_fld (pv 0) rfl) (pe_glob (v := .int (-1)) rfl hst ⟨_, rfl⟩) (nomark _)) (pss_one ps_break) pss_nil)
        (pss_one (ps_expr (pe_meth0 (pv 0) T.clR mS GS hr bS .nil pass0)))))
      (pss_one (ps_ret (pe_cmpR op_eq (pe_fld (pv 0) rfl) (pe_glob (v := .int (-1)) rfl hst ⟨_, rfl⟩) (nomark _)))), ?_⟩
    refine ⟨_, rfl, _, rfl, by omega, by omega, for_range (lo := 0) (n := c) (fun i σ H' => ∃ v, σ = [some (.ref p), some (.int c), v] ∧ Kp [p, d] H H' ∧ At K CR H' p d m M i) ⟨none, rfl, Kp.refl _ _, hA⟩ ?_ ?_⟩
    · rintro i σ H' hi ⟨v, rfl, kp, hA'⟩
      obtain ⟨kvs, ⟨npd, ⟨dx, hp⟩, hd⟩, ht, hl, ma⟩ := id hA'
      refine ⟨_, rfl, p, CR, dx, _, _, rfl, hp, T.clR, T.rS, rf_state _ _ _ _ _, rfl, _, rfl, ?_⟩
      rw [decV]
      by_cases hs : (cf M i).st = -1
      · rw [decide_eq_true hs]
        refine iteT ?_
        refine ⟨_, rfl, p, CR, dx, _, _, rfl, hp, T.clR, T.rS, rf_state _ _ _ _ _, rfl, ?_⟩
        rw [decV]
        exact q H' i kp hA' (by omega) (.inl hs)
      · rw [decide_eq_false hs]
        refine iteF ?_
        refine ⟨_, rfl, p, dx, _, rfl, hp, rf_no_step _ _ _ _ _, p, d, m, M, ns, sy, i, rfl, hA', ok, hs, by omega, fun H2 kp2 hA2 => ?_⟩
        exact ⟨_, rfl, kp.trans kp2, hA2⟩
    · rintro σ H' ⟨v, rfl, kp, hA'⟩
      obtain ⟨kvs, ⟨npd, ⟨dx, hp⟩, hd⟩, ht, hl, ma⟩ := id hA'
      refine ⟨_, rfl, p, CR, dx, _, _, rfl, hp, T.clR, T.rS, rf_state _ _ _ _ _, rfl, ?_⟩
      rw [decV]
      exact q H' c kp hA' (Nat.le_refl _) (.inr rfl)
end
end Tac

namespace Tac
open PySem PySem.Spec PyProof.Rows L2
/-- one copy of a tuple is the tuple itself: the branch «same-object» of tuple.__mul__ -/
theorem tuple_mul1 (tp : Addr) (cells : Array Value) (room : Nat) (own : Option Addr) (slo : Array (Option Value)) (k : Int) (tk : Tok) (one : k = 1) :
    Meets (Builtin.«tuple.__mul__» ⟨[.ref tp, .int k tk], []⟩) (fun _ R s =>
      s.heap.get? tp = some { cls := .type "tuple", dict := own, data := .seq cells room, slots := slo } ∧ R (.ok (.ret (Value.ref tp))) s) :=
  .of_wp fun prog wd Ar R st both => by
    obtain ⟨hp0, gens0, dr0, toks0, os0⟩ := st
    obtain ⟨stands, rest⟩ := both
    have ix := AutoSeq1.idx_int
    have small : (decide (k < -(2 ^ 63)) || decide (k ≥ 2 ^ 63)) = false := by
      subst one
      decide
    have same : (cells.isEmpty || k == 1) = true := by
      subst one
      simp
    wp_walk using wpAny_loadPart' stands
    repeat (first
      | (refine wpAny_ite_false (decide_eq_false (by simp [small])) ?_; wp_walk using wpAny_loadPart' stands)
      | (refine wpAny_ite_true (decide_eq_true same) ?_; wp_walk using wpAny_loadPart' stands))
    exact ⟨_, rfl, rest⟩
def rRep1 (K : PySem.W.Frag) : R2 := fun x y H Q => ∃ l xs, x = .ref l ∧ y = .int 1 ∧ SqT K H l xs ∧ Q (.ref l) H
section
variable {X : Cx}
theorem op_rep1 : OpR X (binaryOp .Mult) (rRep1 X.K) := by
  intro pins st slots H x y v u Q I rx ry h
  obtain ⟨tp, xs, rfl, rfl, hT, q⟩ := h
  cases rx
  obtain ⟨tk, rfl⟩ := ry
  obtain ⟨its, rel, tup, _⟩ := I.tuple hT
  obtain ⟨⟨cl, own, dat, slo⟩, ho, hc, room, hd⟩ := tup
  simp only at hc hd
  subst hc hd
  have ty : st.TypeIs (.ref tp) "tuple" := ⟨_, ho, rfl⟩
  refine wpAny_binaryOp_repeat_ref (T := "tuple") (U := "int") (by decide) ty (fun s' => typeIs_int s' 1 tk) noFill_tuple_mul F.fills_int_mul F.slot_int_rmul repeat_tuple F.slot_int_index.lookup
    (call_meets F.slot_int_rmul (typeIs_int st 1 tk) F.entry_int_rmul (F.args_int_rmul_2 _ _) (int_rmul_tuple 1 tk tp its.toArray room own slo) ⟨ho, rfl, ty, ?_⟩)
  exact call_meets F.slot_tuple_mul ty F.entry_tuple_mul (F.args_tuple_mul_2 _ _) (tuple_mul1 tp its.toArray room own slo 1 tk rfl) ⟨ho, .ref tp, H, I, rfl, q⟩
/-- (..) * k, k at least 1 -/
theorem op_repA : OpR X (binaryOp .Mult) (fun x y H Q => rRep1 X.K x y H Q ∨ rRepT X.K x y H Q) := op_rep1.or op_repT
end
end Tac

namespace Tac
open PySem L2
/-- tail(row, start) -/
def spTail (K : PySem.W.Frag) : Sp := fun vs H Q _ => ∃ (t c : Addr) (f u : Int) (zs : List Int), vs = [.ref t, .int u] ∧ SqT K H t [.int f, .ref c] ∧ SqT K H c (zs.map V.int) ∧ zs.length ≤ 1000 ∧ f - u ≤ 1000 ∧
  ∀ q H', Kp [] H H' → SqT K H' q ((tailF f zs u).map V.int) → Q (.ref q) H'
theorem rep_flat (k : Nat) : (List.replicate k [V.int 0]).flatten = (List.replicate k (0 : Int)).map V.int := by
  induction k with
  | zero => rfl
  | succ k ih =>
    rw [List.replicate_succ, List.flatten_cons, ih, List.replicate_succ, List.map_cons]
    rfl
theorem cut_tail {f u : Int} {zs : List Int} (h : f ≤ u) : cutV (zs.map V.int) (some (u - f)) none = (tailF f zs u).map V.int := by
  unfold tailF cutV
  rw [if_pos h, HT.sIx_none]
  have e : u - f = (((u - f).toNat : Nat) : Int) := by omega
  rw [e, HT.sIx_nat, List.length_map, List.map_drop]
  have e2 : ((((u - f).toNat : Nat) : Int)).toNat = (u - f).toNat := by omega
  rw [e2]
  generalize (u - f).toNat = k
  rw [List.take_of_length_le (by rw [List.length_drop, List.length_map]; exact Nat.le_refl _)]
  by_cases hk : k ≤ zs.length
  · rw [Nat.min_eq_left hk]
  · rw [Nat.min_eq_right (by omega), List.drop_of_length_le (by rw [List.length_map]; exact Nat.le_refl _), List.drop_of_length_le (by rw [List.length_map]; omega)]
theorem whole_tail {f u : Int} {zs : List Int} (h : f ≤ u) (hw : HT.sIx (zs.map V.int).length 0 (some (u - f)) = 0) : tailF f zs u = zs := by
  unfold tailF
  rw [if_pos h]
  have e : u - f = (((u - f).toNat : Nat) : Int) := by omega
  rw [e, HT.sIx_nat, List.length_map] at hw
  have e2 : (u - f).toNat = 0 ∨ zs.length = 0 := by omega
  rcases e2 with e2 | e2
  · rw [e2]
    rfl
  · rw [List.length_eq_zero_iff.mp e2]
    simp
section
variable {P : Program} {w : World} {K : PySem.W.Frag} {mg : Str → Option Value} {base : Heap} {CR CH : Addr}
theorem scTa : FnScope ["row", "start", "first", "cells"] ["row", "start"] (defScope sTail) := ⟨rfl, rfl, rfl, by decide +kernel, rfl, by decide +kernel, by decide +kernel⟩
theorem ok_tail {f : Addr} {fd : FuncData} (F : Fun K "tail" "tail" sTail f fd) : FnOk P w K mg base CX0 1 f fd ["row", "start"] (spTail K) := by
  refine F.ok scTa (fun vs H Q E h => ?_) (fun cdv A outer s H vs Q E hr h => ?_)
  · obtain ⟨t, c, f, u, zs, rfl, _⟩ := h
    rfl
  · obtain ⟨t, c, f, u, zs, rfl, h1, h2, hl, hfu, q⟩ := h
    refine ⟨_, pss_cons (ps_asg (pv 0) (pg_tup rfl (pgs_cons (pg_name (i := 2) scTa.nd rfl (.inl rfl)) (pgs_cons (pg_name (i := 3) scTa.nd rfl (.inl rfl)) pgs_nil))))
      (pss_cons (ps_if (pt_cmpR op_ge (pv 1) (pv 2) (nomark _)) (pss_one (ps_ret (pe_slice sl_tupA (pv 3) (po_some (pe_op op_sub (pv 1) (pv 2))) po_none))) pss_nil)
      (pss_cons (ps_if (pt_not (pt_truth (pv 3) (by intro _; rfl))) (pss_one (ps_ret (pe_tup pa_nil))) pss_nil)
      (pss_one (ps_ret (pe_op op_catA (pe_op op_repA (pe_tup (pa_cons pe_int pa_nil)) (pe_op op_sub (pv 2) (pv 1))) (pv 3)))))), ?_⟩
    refine ⟨_, rfl, t, _, rfl, h1, rfl, _, _, rfl, _, _, rfl, rfl, ?_⟩
    refine ⟨_, rfl, _, rfl, _, _, rfl, rfl, _, rfl, ?_⟩
    refine ite2 (fun hge => ?_) (fun hge => ?_)
    · have hge : f ≤ u := of_decide_eq_true hge
      refine ⟨_, rfl, _, rfl, _, rfl, _, _, rfl, rfl, _, rfl, c, _, rfl, h2, fun hw => ?_, fun hw p hp => ?_⟩
      · refine q c H (Kp.refl _ _) ?_
        rw [whole_tail hge hw.1]
        exact h2
      · refine q p _ (Kp.new _ hp) (.inl (.inl ?_))
        rw [upd_same, cut_tail hge]
    · have hge : ¬ f ≤ u := fun z => hge (decide_eq_true z)
      refine ⟨_, rfl, ?_⟩
      by_cases hz : zs = []
      · subst hz
        refine ⟨false, .inr (.inl ⟨_, h2, rfl⟩), iteT ?_⟩
        refine ⟨Nat.zero_le _, fun p hp => ?_⟩
        refine q p _ (Kp.new _ hp) (.inl (.inl ?_))
        rw [upd_same]
        unfold tailF
        rw [if_neg hge, if_pos rfl]
        rfl
      · have e : true = (!(zs.map V.int).isEmpty) := by
          cases zs with
          | nil => exact absurd rfl hz
          | cons a b => rfl
        refine ⟨true, .inr (.inl ⟨_, h2, e⟩), iteF ?_⟩
        have et : tailF f zs u = List.replicate (f - u).toNat 0 ++ zs := by
          unfold tailF
          rw [if_neg hge, if_neg hz]
        have hzm : zs.map V.int ≠ [] := fun z => hz (List.map_eq_nil_iff.mp z)
        have fin : ∀ (q0 : Addr) (H1 : Hp), Kp [] H H1 → SqT K H1 q0 ((List.replicate (f - u).toNat (0 : Int)).map V.int) →
            rCatA K (.ref q0) (.ref c) H1 Q := fun q0 H1 k1 s1 => by
          refine ⟨q0, c, _, _, rfl, rfl, s1, k1.sqT h2, ?_, fun z => ?_, fun _ z => absurd z hzm, fun _ _ p hp => ?_⟩
          · rw [List.length_map, List.length_map, List.length_replicate]
            have : (2000 : Nat) ≤ sizeLine := by decide
            omega
          · exfalso
            have := congrArg List.length z
            rw [List.length_map, List.length_replicate] at this
            have : (f - u).toNat = 0 := this
            omega
          · refine q p _ (k1.nw hp) (.inl (.inl ?_))
            rw [upd_same, et, List.map_append]
        refine ⟨(by show 1 ≤ sizeLine; decide), fun p hp => ?_⟩
        refine ⟨_, rfl, _, rfl, _, _, rfl, rfl, ?_⟩
        by_cases h1' : f - u = 1
        · refine .inl ⟨p, _, rfl, congrArg V.int h1', .inl (.inl upd_same), _, rfl, ?_⟩
          refine fin p _ (Kp.new _ hp) (.inl (.inl ?_))
          rw [upd_same, h1']
          rfl
        · refine .inr ⟨p, f - u, _, rfl, rfl, .inl (.inl upd_same), (by simp), by omega, by omega, (by show 1 ≤ 1000; decide), fun p2 hp2 => ⟨_, rfl, ?_⟩⟩
          refine fin p2 _ ((Kp.new _ hp).nw hp2) (.inl (.inl ?_))
          rw [upd_same, rep_flat]
end
end Tac

namespace Tac
theorem pw_head : ∀ {ns : List Int} {f : Int}, ns.Pairwise (· ≤ ·) → ns[0]? = some f → ∀ x ∈ ns, f ≤ x
  | [], _, _, h, _, _ => by simp at h
  | a :: r, f, hp, h, x, hx => by
    simp at h
    subst h
    rcases List.mem_cons.mp hx with e | e
    · subst e
      exact Int.le_refl _
    · exact (List.pairwise_cons.mp hp).1 x e
theorem pw_last : ∀ {ns : List Int} {l : Int}, ns.Pairwise (· ≤ ·) → ns[ns.length - 1]? = some l → ∀ x ∈ ns, x ≤ l
  | [], _, _, h, _, _ => by simp at h
  | [a], l, _, h, x, hx => by
    simp at h
    subst h
    have e : x = a := List.mem_singleton.mp hx
    subst e
    exact Int.le_refl _
  | a :: b :: r, l, hp, h, x, hx => by
    have h' : (b :: r)[(b :: r).length - 1]? = some l := by
      simpa using h
    have ih := pw_last (List.pairwise_cons.mp hp).2 h'
    rcases List.mem_cons.mp hx with e | e
    · subst e
      have q := (List.pairwise_cons.mp hp).1 b List.mem_cons_self
      exact Int.le_trans q (ih b List.mem_cons_self)
    · exact ih x e
theorem row_nil {tp : Int → Int} {ns : List Int} (hm : ∀ x, x ∈ ns ↔ tp x ≠ 0) (h : ns = []) : Row tp 0 [] :=
  .inl ⟨rfl, rfl, fun x => Classical.byContradiction fun z => by
    have := (hm x).mpr z
    rw [h] at this
    cases this⟩
theorem row_cons {tp : Int → Int} {ns : List Int} {f l : Int} (hp : ns.Pairwise (· ≤ ·)) (hm : ∀ x, x ∈ ns ↔ tp x ≠ 0) (hf : ns[0]? = some f) (hl : ns[ns.length - 1]? = some l) :
    f ≤ l ∧ tp f ≠ 0 ∧ tp l ≠ 0 ∧ Row tp f ((List.range (l + 1 - f).toNat).map fun i => tp (f + (i : Nat))) := by
  have mf : f ∈ ns := List.mem_of_getElem? hf
  have ml : l ∈ ns := List.mem_of_getElem? hl
  have lf := pw_head hp hf
  have ll := pw_last hp hl
  have fl : f ≤ l := lf l ml
  have len : ((List.range (l + 1 - f).toNat).map fun i => tp (f + (i : Nat))).length = (l + 1 - f).toNat := by rw [List.length_map, List.length_range]
  have tl : tp l ≠ 0 := (hm l).mp ml
  refine ⟨fl, (hm f).mp mf, tl, .inr ⟨?_, (hm f).mp mf, ?_, ?_, ?_⟩⟩
  · intro z
    rw [z] at len
    have : (0 : Nat) = (l + 1 - f).toNat := len
    omega
  · rw [len]
    have e : f + (((l + 1 - f).toNat : Nat) : Int) - 1 = l := by omega
    rw [e]
    exact tl
  · intro i hi
    rw [len] at hi
    rw [List.getElem?_map, List.getElem?_range hi]
    rfl
  · intro x hx
    rw [len] at hx
    refine Classical.byContradiction fun z => ?_
    have m := (hm x).mpr z
    have := lf x m
    have := ll x m
    omega
end Tac

namespace Tac
open PySem L2
/-! ### rules whose reading names K: for a comprehension's block -/
section
variable {X : Cx} {K' : PySem.W.Frag}
theorem pe_fldK {e : Expr} {f : Str} {pos : Pos} {ta : TE} (hK : X.K = K') (he : PE X e ta) (hb : attributeBase e f X.env (eval e X.env) = eval e X.env) : PE X (.Attribute e f pos) (tFld K' ta f) := by
  subst hK
  exact pe_fld he hb
theorem ix_tupK (hK : X.K = K') : IxR X (rIxT K') := by
  subst hK
  exact ix_tup
theorem call_tupK (hK : X.K = K') : CallR X (.type "tuple") (fun xs H Q => ∃ p ys, xs = [.ref p] ∧ ((SqL K' H p ys ∧ ∀ l, H l = none → Q (.ref l) (upd H l (.tup ys))) ∨ (SqT K' H p ys ∧ Q (.ref p) H))) := by
  subst hK
  exact call_tuple_of
theorem pi_tupK {tg l : Expr} {tl : TE} (hK : X.K = K') (hl : PE X l tl) : PI X tg l (iTup K' tl) := by
  subst hK
  exact pi_tup hl
theorem pg_tupK {es : List Expr} {k : Nat} {pos : Pos} {t : TGs} {n : Nat} (hK : X.K = K') (hc : X.calm = true) (h : PGs X es t)
    (hn : (assignEach es X.env).length = n := by rfl) (hst : (assignEach es X.env).findIdx? (·.1) = none := by rfl) : PG X (.Tuple es k pos) (gTup K' n t) := by
  subst hK
  exact pg_tup hc h hn hst
end
/-- one turn of a comprehension's block, from the item x at the heap Hx: what it must reach is Nx -/
abbrev turnE (g : TG) (tt : TT) (te : TE) (vs : List Nat) (σ : St) (D : Addr) (x : V) (Hx : Hp) (Nx : Hp → Prop) : Prop :=
  g x (wipe σ vs) Hx fun σ' Hg => wipe σ' vs = wipe σ vs ∧ tt σ' Hg fun yes Ht =>
    if yes = true then te σ' Ht fun y Hy => ∃ got, Hy D = some (.lst got) ∧ got.length < sizeLine ∧ Nx (upd Hy D (.lst (got ++ [y]))) else Nx Ht
/-- a comprehension over the keys of a locked dict: Pv by the turn and the heap; the measure is the number of turns left -/
theorem lc_keys {d D : Addr} {o : Obj} {kvs : List (Key × V)} {g : TG} {tt : TT} {te : TE} {vs : List Nat} {σ : St} {H1 : Hp} {Qd : Hp → Prop} (Pv : Nat → Hp → Prop)
    (begins : Pv 0 (upd H1 D (.lst []))) (locked : ∀ i Hi, i ≤ kvs.length → Pv i Hi → Hi d = some (.frz o (.dK kvs)))
    (turns : ∀ i k v Hi, kvs[i]? = some (k, v) → Pv i Hi → turnE g tt te vs σ D (kV k) Hi (Pv (i + 1))) (ends : ∀ Hi, Pv kvs.length Hi → Qd Hi) :
    ∃ Wd : Nat → Nat → Hp → Prop, (∃ left, Wd 0 left (upd H1 D (.lst []))) ∧ ∀ i left Hi, Wd i left Hi → ((Itk d o kvs).stop i Hi ∧ Qd Hi) ∨
      ((Itk d o kvs).go i Hi ∧ ∃ Nx : Hp → Prop, (∀ Hn, Nx Hn → ∃ left', left' < left ∧ Wd (i + 1) left' Hn) ∧ ∀ x Hx, (Itk d o kvs).yld i Hi x Hx → turnE g tt te vs σ D x Hx Nx) := by
  refine ⟨fun i left Hi => left + i = kvs.length ∧ Pv i Hi, ⟨kvs.length, rfl, begins⟩, fun i left Hi hW => ?_⟩
  obtain ⟨hsum, hP⟩ := hW
  have hlock := locked i Hi (by omega) hP
  cases left with
  | zero =>
    have ei : i = kvs.length := by omega
    subst ei
    exact .inl ⟨⟨hlock, Nat.le_refl _⟩, ends Hi hP⟩
  | succ left' =>
    refine .inr ⟨⟨hlock, by omega⟩, Pv (i + 1), fun Hn hn => ⟨left', Nat.lt_succ_self _, by omega, hn⟩, ?_⟩
    rintro x Hx ⟨rfl, k, v, hk, rfl⟩
    exact turns i k v Hx hk hP
/-- locked, a new object laid, unlocked -/
theorem Kp.lock {H : Hp} {d D : Addr} {u f o : HO} (hd : H d = some u) (hD : (upd H d f) D = none) : Kp [] H (upd (upd (upd H d f) D o) d u) := by
  have nDd : D ≠ d := fun z => by
    subst z
    rw [upd_same] at hD
    cases hD
  have hD0 : H D = none := by
    rw [upd_ne nDd] at hD
    exact hD
  have key : ∀ b v, H b = some v → (upd (upd (upd H d f) D o) d u) b = some v := fun b v e => by
    by_cases hb : b = d
    · subst hb
      rw [upd_same]
      rw [hd] at e
      exact e
    · rw [upd_ne hb, upd_ne (ne_of_none e hD0), upd_ne hb]
      exact e
  refine ⟨fun b v e _ => key b v e, fun b xs e => key b _ e, fun b v w e => key b _ e, fun b e => ?_⟩
  cases hq : H b with
  | none => rfl
  | some v =>
    rw [key b v hq] at e
    cases e
def spCells (K : PySem.W.Frag) (C : Addr) : Sp := fun vs H Q _ => ∃ (p d m : Addr) (M : Mach) (ns sy k : Nat), vs = [.ref p] ∧ At K C H p d m M k ∧ MOk ns sy M ∧ k ≤ 1000 ∧
  ∀ t c f zs H', Kp [] H H' → SqT K H' t [.int f, .ref c] → SqT K H' c (zs.map V.int) → Row (cf M k).tp f zs → zs.length ≤ 2 * k → -(k : Int) ≤ f → f ≤ k → Q (.ref t) H'
section
variable {P : Program} {w : World} {K : PySem.W.Frag} {mg : Str → Option Value} {base : Heap} {CR CH : Addr}
theorem scCe : FnScope ["self", "places", "place"] ["self"] (defScope sCells) := ⟨rfl, rfl, rfl, by decide +kernel, rfl, by decide +kernel, by decide +kernel⟩
theorem ok_cells {f : Addr} {fd : FuncData} (F : Fun K "cells" "Runner.cells" sCells f fd) (T : Txt K mg CR CH) : FnOk P w K mg base CX0 1 f fd ["self"] (spCells K CR) := by
  refine F.ok scCe (fun vs H Q E h => ?_) (fun cdv A outer s H vs Q E hr h => ?_)
  · obtain ⟨p, d, m, M, ns, sy, k, rfl, _⟩ := h
    rfl
  · obtain ⟨p, d, m, M, ns, sy, k, rfl, hA, ok, hk, q⟩ := h
    obtain ⟨kvs, ⟨npd, ⟨dx, hp⟩, hd⟩, ht, hl, ma⟩ := id hA
    have hu := hu_of hr
    have co := cf_ok ok k
    refine ⟨_, pss_cons (ps_set (i := 1) scCe.nd rfl (.inl rfl) (pe_callB cr_sortedI rfl T.sorted (by decide +kernel) (pa_cons
        (pe_lock (pe_lc (own := [("place", 2)]) (g := gName 2) rfl scCe.nd (pi_keys (pe_fld (pv 0) rfl)) (blkOk_by (own := [("place", 2)]) (N := ["self", "places", "place"]) (sc := defScope sCells) (by decide +kernel))
          (fun _ _ _ _ _ => pg_name (i := 2) scCe.nd rfl (.inl rfl)) (fun _ _ _ _ _ => pts_one (pt_cmpR op_ne (pe_dget hu (pe_fldK (K' := K) rfl (pv 0) rfl) (pv 2) (fun _ _ => rfl)) pe_int (nomark _))) (fun _ _ _ _ _ => pv 2))) pa_nil)))
      (pss_cons (ps_if (pt_not (pt_truth (pv 1) (by intro _; rfl))) (pss_one (ps_ret (pe_tup (pa_cons pe_int (pa_cons (pe_tup pa_nil) pa_nil))))) pss_nil)
      (pss_one (ps_ret (pe_tup (pa_cons (pe_ix ix_list (pv 1) pe_int (fun _ _ => rfl)) (pa_cons (pe_callTy call_tuple_of rfl T.tuple (by decide +kernel) (pa_cons
        (pe_lc (own := [("place", 2)]) (g := gName 2) rfl scCe.nd (pi_range2 rfl T.range (pa_cons (pe_ix ix_list (pv 1) pe_int (fun _ _ => rfl)) (pa_cons (pe_op op_add (pe_ix ix_list (pv 1) (pe_un un_neg pe_int) (fun _ _ => rfl)) pe_int) pa_nil)))
          (blkOk_by (own := [("place", 2)]) (N := ["self", "places", "place"]) (sc := defScope sCells) (by decide +kernel))
          (fun _ _ _ _ _ => pg_name (i := 2) scCe.nd rfl (.inl rfl)) (fun _ _ _ _ _ => pts_nil) (fun _ _ _ _ _ => pe_dget2 hu (pe_fldK (K' := K) rfl (pv 0) rfl) (pv 2) pe_int ⟨rfl, rfl, rfl, rfl⟩)) pa_nil)) pa_nil)))))), ?_⟩
    -- places = sorted([..])
    refine ⟨d, .dK kvs, hd, trivial, fun od => ?_⟩
    have hp0 : (upd H d (.frz od (.dK kvs))) p = some (.ins CR dx (rf m d (cf M k).pl (cf M k).st k)) := by rw [upd_ne npd]; exact hp
    refine ⟨_, rfl, p, CR, dx, _, _, rfl, hp0, T.clR, T.rT, rf_tape _ _ _ _ _, d, od, rfl, .inl ⟨kvs, upd_same, fun D hD => ?_⟩⟩
    have nDd : D ≠ d := fun z => by
      subst z
      rw [upd_same] at hD
      cases hD
    have nDp : p ≠ D := ne_of_none hp0 hD
    refine lc_keys (d := d) (o := od) (kvs := kvs) (fun i H' => ∃ ns : List Int, H' = upd (upd H d (.frz od (.dK kvs))) D (.lst (ns.map V.int)) ∧ ns.length ≤ i ∧ (∀ x ∈ ns, (cf M k).tp x ≠ 0) ∧ (∀ (j : Nat) (x : Int) (v : V), j < i → kvs[j]? = some (Sum.inl x, v) → (cf M k).tp x ≠ 0 → x ∈ ns))
      ⟨[], rfl, Nat.le_refl _, (fun _ z => nomatch z), fun _ _ _ z => absurd z (Nat.not_lt_zero _)⟩ ?_ ?_ ?_
    · rintro i H' _ ⟨ns, rfl, _⟩
      rw [upd_ne nDd.symm, upd_same]
    · rintro i ky v H' hi ⟨ns, rfl, hln, n1, n2⟩
      obtain ⟨x, hx⟩ := ht.key _ (List.mem_of_getElem? hi)
      have hx : ky = Sum.inl x := hx
      subst hx
      have hil : i < kvs.length := (List.getElem?_eq_some_iff.mp hi).1
      have hv : valV kvs (Sum.inl x : Key) = some (.int ((cf M k).tp x)) := by
        cases e : valV kvs (Sum.inl x : Key) with
        | none => exact absurd (List.mem_map.mpr ⟨_, List.mem_of_getElem? hi, rfl⟩) (valV_not e)
        | some y =>
          have q0 := ht.val x
          rw [e] at q0
          exact congrArg some q0
      have hp1 : (upd (upd H d (.frz od (.dK kvs))) D (.lst (ns.map V.int))) p = some (.ins CR dx (rf m d (cf M k).pl (cf M k).st k)) := by rw [upd_ne nDp]; exact hp0
      have hd1 : (upd (upd H d (.frz od (.dK kvs))) D (.lst (ns.map V.int))) d = some (.frz od (.dK kvs)) := by rw [upd_ne nDd.symm, upd_same]
      refine ⟨rfl, _, rfl, p, CR, dx, _, _, rfl, hp1, T.clR, T.rT, rf_tape _ _ _ _ _, _, rfl, d, _, rfl, .inl ⟨kvs, Sum.inl x, .inr ⟨od, hd1⟩, rfl, hv.symm⟩, rfl, _, rfl, ?_⟩
      rw [decV]
      have old : ∀ (ms : List Int), (∀ y, y ∈ ns → y ∈ ms) → ((cf M k).tp x ≠ 0 → x ∈ ms) → ∀ (j : Nat) (y : Int) (v : V), j < i + 1 → kvs[j]? = some (Sum.inl y, v) → (cf M k).tp y ≠ 0 → y ∈ ms := fun ms m1 m2 j y v' hj e hy => by
        by_cases hji : j = i
        · subst hji
          rw [hi] at e
          cases e
          exact m2 hy
        · exact m1 _ (n2 j y v' (by omega) e hy)
      by_cases h0 : (cf M k).tp x = 0
      · rw [decide_eq_true h0]
        refine iteF ?_
        exact ⟨ns, rfl, by omega, n1, old ns (fun _ z => z) (fun z => absurd h0 z)⟩
      · rw [decide_eq_false h0]
        refine iteT ?_
        refine ⟨_, rfl, _, upd_same, ?_, ns ++ [x], ?_, ?_, ?_, ?_⟩
        · rw [List.length_map]
          exact small1000 (by omega)
        · rw [upd_upd, List.map_append]
          rfl
        · rw [List.length_append, List.length_singleton]
          omega
        · intro y hy
          rcases List.mem_append.mp hy with z | z
          · exact n1 y z
          · rw [List.mem_singleton.mp z]
            exact h0
        · exact old _ (fun y z => List.mem_append_left _ z) (fun _ => List.mem_append_right _ (List.mem_singleton.mpr rfl))
    rintro H' ⟨ns, rfl, hln, n1, n2⟩
    refine ⟨by rw [upd_ne nDd.symm, upd_same], ?_⟩
    -- behind the lock
    have kp1 := Kp.lock (o := .lst (ns.map V.int)) hd hD
    have hL : (upd (upd (upd H d (.frz od (.dK kvs))) D (.lst (ns.map V.int))) d (.dK kvs)) D = some (.lst (ns.map V.int)) := by rw [upd_ne nDd, upd_same]
    generalize hH1 : upd (upd (upd H d (.frz od (.dK kvs))) D (.lst (ns.map V.int))) d (.dK kvs) = H1 at kp1 hL
    refine ⟨D, ns, rfl, SqL.of hL, fun ms q0 perm srt hq0 => ?_⟩
    have hm : ∀ x, x ∈ ms ↔ (cf M k).tp x ≠ 0 := fun x => by
      rw [perm.mem_iff]
      refine ⟨n1 x, fun hx => ?_⟩
      cases e : valV kvs (Sum.inl x : Key) with
      | none =>
        have q1 := ht.val x
        rw [e] at q1
        exact absurd (V.int.inj q1).symm hx
      | some y =>
        obtain ⟨⟨ky, v⟩, hmem, ek⟩ := List.mem_map.mp (valV_in e)
        have ek : ky = Sum.inl x := ek
        subst ek
        obtain ⟨j, hj⟩ := List.mem_iff_getElem?.mp hmem
        exact n2 j x v (List.getElem?_eq_some_iff.mp hj).1 hj hx
    have kp2 : Kp [] H (upd H1 q0 (.lst (ms.map V.int))) := kp1.nw hq0
    have hq : (upd H1 q0 (.lst (ms.map V.int))) q0 = some (.lst (ms.map V.int)) := upd_same
    generalize hH2 : upd H1 q0 (.lst (ms.map V.int)) = H2 at kp2 hq
    have hp2 : H2 p = some (.ins CR dx (rf m d (cf M k).pl (cf M k).st k)) := kp2.lst hp (fun z => nomatch z)
    have hd2 : H2 d = some (.dK kvs) := kp2.lst hd (fun z => nomatch z)
    refine ⟨_, rfl, ?_⟩
    by_cases hms : ms = []
    · -- no cell is written
      refine ⟨false, .inl ⟨_, SqL.of hq, by rw [hms]; rfl⟩, iteT ?_⟩
      refine ⟨Nat.zero_le _, fun c hc => ⟨(by show 2 ≤ sizeLine; decide), fun t htn => ?_⟩⟩
      have nct : c ≠ t := ne_of_none upd_same htn
      refine q t c 0 [] _ ((kp2.nw hc).nw htn) (.inl (.inl upd_same)) (.inl (.inl ?_)) (row_nil hm hms) (Nat.zero_le _) (by omega) (by omega)
      rw [upd_ne nct, upd_same]
      rfl
    · have hlen : 0 < ms.length := List.length_pos_iff.mpr hms
      obtain ⟨f0, hf0⟩ : ∃ f0, ms[0]? = some f0 := ⟨_, List.getElem?_eq_getElem hlen⟩
      obtain ⟨l0, hl0⟩ : ∃ l0, ms[ms.length - 1]? = some l0 := ⟨_, List.getElem?_eq_getElem (by omega)⟩
      obtain ⟨fl, tf, tl, row⟩ := row_cons srt hm hf0 hl0
      have bf := co.far f0 tf
      have bl := co.far l0 tl
      have e : true = (!(ms.map V.int).isEmpty) := by
        cases ms with
        | nil => exact absurd rfl hms
        | cons a b => rfl
      have at0 : atI (ms.map V.int) 0 = some (V.int f0) := atI_nat (j := 0) (by rw [List.getElem?_map, hf0]; rfl)
      have atL : atI (ms.map V.int) (-1) = some (V.int l0) := by
        unfold atI ixN
        rw [List.length_map, if_neg (by omega), if_pos (by omega)]
        show (ms.map V.int)[((-1 : Int) + (ms.length : Int)).toNat]? = _
        have e1 : ((-1 : Int) + (ms.length : Int)).toNat = ms.length - 1 := by omega
        rw [e1, List.getElem?_map, hl0]
        rfl
      refine ⟨true, .inl ⟨_, SqL.of hq, e⟩, iteF ?_⟩
      -- (places[0], tuple([..]))
      refine ⟨_, rfl, q0, _, _, _, rfl, rfl, SqL.of hq, at0, ?_⟩
      refine ⟨_, rfl, q0, _, _, _, rfl, rfl, SqL.of hq, at0, _, rfl, _, rfl, q0, _, _, _, rfl, rfl, SqL.of hq, atL, _, _, rfl, rfl, _, _, rfl, ⟨by omega, by omega, by omega, by omega⟩, fun D2 hD2 => ?_⟩
      have nD2p : p ≠ D2 := ne_of_none hp2 hD2
      have nD2d : d ≠ D2 := ne_of_none hd2 hD2
      refine lc_range (lo := f0) (n := (l0 + 1 - f0).toNat) (fun i H' => H' = upd H2 D2 (.lst (((List.range i).map fun j => (cf M k).tp (f0 + (j : Nat))).map V.int))) rfl ?_ ?_
      · rintro i H' hi rfl
        refine ⟨rfl, ?_⟩
        refine ⟨_, rfl, p, CR, dx, _, _, rfl, (by rw [upd_ne nD2p]; exact hp2), T.clR, T.rT, rf_tape _ _ _ _ _, d, rfl, .inl ⟨kvs, .inl (by rw [upd_ne nD2d]; exact hd2)⟩, _, rfl, _, DGet.k (k := Sum.inl (f0 + (i : Nat))) (by rw [upd_ne nD2d]; exact hd2), _, upd_same, ?_, ?_⟩
        · rw [List.length_map, List.length_map, List.length_range]
          have : (4000 : Nat) ≤ sizeLine := by decide
          omega
        · rw [upd_upd, ht.val, List.range_succ, List.map_append, List.map_append]
          rfl
      · rintro H' rfl
        refine ⟨D2, _, rfl, .inl ⟨SqL.of upd_same, fun c hc => ⟨(by show 2 ≤ sizeLine; decide), fun t htn => ?_⟩⟩⟩
        have nct : c ≠ t := ne_of_none upd_same htn
        refine q t c f0 _ _ (((kp2.nw hD2).nw hc).nw htn) (.inl (.inl upd_same)) (.inl (.inl ?_)) row ?_ (by omega) (by omega)
        · rw [upd_ne nct, upd_same]
        · rw [List.length_map, List.length_range]
          omega
end
end Tac

namespace Tac
open PySem L2
def lcScope : Expr → Scope
  | .ListComp _ _ sc _ => sc
  | _ => { names := [], kind := .function, isCoroutine := false, isGenerator := false }
def retE : Stmt → Expr
  | .Return (some e) _ => e
  | _ => .Tuple [] 0 ⟨0, 0, 0, 0⟩
def arg0 : Expr → Expr
  | .Call _ (a :: _) _ _ => a
  | e => e
def body0 (s : Stmt) : Stmt := (defBody s).getD 0 (.Pass ⟨0, 0, 0, 0⟩)
/-- mirrored(machine) -/
def spMir (K : PySem.W.Frag) : Sp := fun vs H Q _ => ∃ (m : Addr) (M : Mach) (ns sy : Nat), vs = [.ref m] ∧ MaAt K H m M ∧ MOk ns sy M ∧
  ∀ m' H', Kp [] H H' → MaAt K H' m' (mir M) → Q (.ref m') H'
theorem take_snoc {α : Type} {l : List α} {i : Nat} {x : α} (h : l[i]? = some x) : l.take (i + 1) = l.take i ++ [x] := by
  rw [List.take_add_one, h]
  rfl
theorem pair_len {α β : Type} {G : α → β → Prop} : ∀ {l : List α} {m : List β}, Paired G l m → l.length = m.length
  | _, _, .nil => rfl
  | _, _, .cons _ t => by rw [List.length_cons, List.length_cons, pair_len t]
theorem pair_getL {α β : Type} {G : α → β → Prop} {l : List α} {m : List β} (h : Paired G l m) : ∀ {i : Nat} {a : α}, l[i]? = some a → ∃ b, m[i]? = some b ∧ G a b := by
  induction h with
  | nil => intro i b e; simp at e
  | cons r _ ih =>
    intro i b e
    cases i with
    | zero =>
      simp at e
      subst e
      exact ⟨_, rfl, r⟩
    | succ i => exact ih (by simpa using e)
theorem ref_at {as : List Addr} {i : Nat} {x : V} (h : (as.map V.ref)[i]? = some x) : ∃ a, as[i]? = some a ∧ x = .ref a := by
  rw [List.getElem?_map] at h
  cases e : as[i]? with
  | none =>
    rw [e] at h
    cases h
  | some a =>
    rw [e] at h
    exact ⟨a, rfl, (Option.some.inj h).symm⟩
section
variable {P : Program} {w : World} {K : PySem.W.Frag} {mg : Str → Option Value} {base : Heap} {CR CH : Addr}
abbrev nMir : List Str := ["machine", "row", "write", "move", "state"]
theorem scMi : FnScope nMir ["machine"] (defScope sMir) := ⟨rfl, rfl, rfl, by decide +kernel, rfl, by decide +kernel, by decide +kernel⟩
theorem ok_mir {f : Addr} {fd : FuncData} (F : Fun K "mirrored" "mirrored" sMir f fd) (T : Txt K mg CR CH) : FnOk P w K mg base CX0 1 f fd ["machine"] (spMir K) := by
  refine F.ok scMi (fun vs H Q E h => ?_) (fun cdv A outer s H vs Q E hr h => ?_)
  · obtain ⟨m, M, ns, sy, rfl, _⟩ := h
    rfl
  · obtain ⟨m, M, ns, sy, rfl, ma, ok, q⟩ := h
    refine ⟨_, pss_one (ps_ret (pe_callTy call_tuple_of rfl T.tuple (by decide +kernel) (pa_cons
      (pe_lc (own := [("row", 1)]) (g := gName 1) rfl scMi.nd (pi_tup (pv 0)) (blkOk_by (own := [("row", 1)]) (N := nMir) (sc := defScope sMir) (by decide +kernel))
        (fun _ _ _ _ _ => pg_name (i := 1) scMi.nd rfl (.inl rfl)) (fun _ _ _ _ _ => pts_nil)
        (fun _ _ _ _ _ => pe_callTy (call_tupK (K' := K) rfl) rfl T.tuple (by decide +kernel) (pa_cons
          (pe_lc (own := [("write", 2), ("move", 3), ("state", 4)]) (g := gTup K 3 (gCons (gName 2) (gCons (gName 3) (gCons (gName 4) gNil)))) rfl scMi.nd (pi_tupK (K' := K) rfl (pv 1))
            (blkOk_by (own := [("write", 2), ("move", 3), ("state", 4)]) (N := nMir) (sc := relS (lcScope (arg0 (retE (body0 sMir)))) (defScope sMir)) (by decide +kernel))
            (fun _ _ _ _ _ => pg_tupK (K' := K) rfl rfl (pgs_cons (pg_name (i := 2) scMi.nd rfl (.inl rfl)) (pgs_cons (pg_name (i := 3) scMi.nd rfl (.inl rfl)) (pgs_cons (pg_name (i := 4) scMi.nd rfl (.inl rfl)) pgs_nil))))
            (fun _ _ _ _ _ => pts_nil)
            (fun _ _ _ _ _ => pe_tup (pa_cons (pv 2) (pa_cons (pe_un un_neg (pv 3)) (pa_cons (pv 4) pa_nil)))))
          pa_nil)))
      pa_nil))), ?_⟩
    obtain ⟨as, h1, h2⟩ := id ma
    have las : as.length = ns := by rw [pair_len h2]; exact ok.len
    refine ⟨_, rfl, m, rfl, ⟨_, h1⟩, fun D hD => ?_⟩
    refine lc_tup (K := K) (a := m) (xs := as.map V.ref) (fun i H' => Kp [D] H H' ∧ ∃ bs : List Addr, H' D = some (.lst (bs.map V.ref)) ∧ Paired (RowAt K H') bs ((M.take i).map (·.map mirR)))
      ⟨Kp.new _ hD, [], upd_same, .nil⟩ (fun i H' _ ⟨k1, _⟩ => k1.sqT h1) ?_ ?_
    · rintro i x H' hi ⟨k1, bs, hDs, hps⟩
      obtain ⟨r, hr0, rfl⟩ := ref_at hi
      obtain ⟨row, hrow, hra⟩ := pair_getL h2 hr0
      obtain ⟨as2, g1, g2⟩ := RowAt.kp k1 hra
      have lrow : row.length = sy := ok.row _ (List.mem_of_getElem? hrow)
      have las2 : as2.length = sy := by rw [pair_len g2]; exact lrow
      have hiM : i < M.length := (List.getElem?_eq_some_iff.mp hrow).1
      have lM : M.length = ns := ok.len
      have n4 := ok.n4
      have s4 := ok.s4
      have lbs : bs.length = i := by
        rw [pair_len hps, List.length_map, List.length_take]
        omega
      refine ⟨rfl, ?_⟩
      refine ⟨_, rfl, r, rfl, ⟨_, g1⟩, fun D2 hD2 => ?_⟩
      have nDD : D ≠ D2 := ne_of_none hDs hD2
      refine lc_tup (K := K) (a := r) (xs := as2.map V.ref) (fun j H2 => Kp [D2] H' H2 ∧ ∃ cs : List Addr, H2 D2 = some (.lst (cs.map V.ref)) ∧ Paired (RuAt K H2) cs ((row.take j).map mirR))
        ⟨Kp.new _ hD2, [], upd_same, .nil⟩ (fun j H2 _ ⟨k2, _⟩ => k2.sqT g1) ?_ ?_
      · rintro j y H2 hj ⟨k2, cs, hcs, hpc⟩
        obtain ⟨b, hb, rfl⟩ := ref_at hj
        obtain ⟨ru, hru, hrb⟩ := pair_getL g2 hb
        have hjr : j < row.length := (List.getElem?_eq_some_iff.mp hru).1
        have lcs : cs.length = j := by
          rw [pair_len hpc, List.length_map, List.length_take]
          omega
        refine ⟨b, _, rfl, k2.sqT hrb, rfl, _, _, rfl, _, _, rfl, _, _, rfl, rfl, rfl, ?_⟩
        refine ⟨_, rfl, _, rfl, _, rfl, _, rfl, (by show 3 ≤ sizeLine; decide), fun t ht => ?_⟩
        have ntD : D2 ≠ t := ne_of_none hcs ht
        refine ⟨_, by rw [upd_ne ntD]; exact hcs, by rw [List.length_map]; exact small1000 (by omega), .wr (.nw k2 ht) (by rw [upd_ne ntD]; exact hcs), cs ++ [t], ?_, ?_⟩
        · rw [upd_same, List.map_append]
          rfl
        · rw [take_snoc hru, List.map_append]
          have k3 : Kp [D2] H2 (upd (upd H2 t (.tup [V.int ru.1, V.int (-ru.2.1), V.int ru.2.2])) D2 (.lst (cs.map V.ref ++ [V.ref t]))) :=
            .wr (.nw (.refl _ _) ht) (by rw [upd_ne ntD]; exact hcs)
          refine pair_snoc ?_ (pair_imp (fun _ _ z => RuAt.kp k3 z) hpc)
          refine .inl (.inl ?_)
          rw [upd_ne ntD.symm, upd_same]
          rfl
      · rintro H2 ⟨k2, cs, hcs, hpc⟩
        rw [List.length_map, las2, ← lrow, List.take_length] at hpc
        refine ⟨D2, _, rfl, .inl ⟨SqL.of hcs, fun t ht => ?_⟩⟩
        have nDt : D ≠ t := ne_of_none (k2.lst hDs (by simp [nDD])) ht
        have hD2' : H2 D = some (.lst (bs.map V.ref)) := k2.lst hDs (by simp [nDD])
        have k2' : Kp [] H' H2 := k2.cut hD2
        refine ⟨_, by rw [upd_ne nDt]; exact hD2', by rw [List.length_map]; exact small1000 (by omega), .wr (.nw (k1.trans k2'.nil) ht) (by rw [upd_ne nDt]; exact hD2'), bs ++ [t], ?_, ?_⟩
        · rw [upd_same, List.map_append]
          rfl
        · rw [take_snoc hrow, List.map_append]
          have k3 : Kp [D] H2 (upd (upd H2 t (.tup (cs.map V.ref))) D (.lst (bs.map V.ref ++ [V.ref t]))) :=
            .wr (.nw (.refl _ _) ht) (by rw [upd_ne nDt]; exact hD2')
          refine pair_snoc ?_ (pair_imp (fun _ _ z => RowAt.kp k3 (RowAt.kp k2' z)) hps)
          refine ⟨cs, .inl (.inl ?_), pair_imp (fun _ _ z => RuAt.kp k3 z) hpc⟩
          rw [upd_ne nDt.symm, upd_same]
    · rintro H' ⟨k1, bs, hDs, hps⟩
      rw [List.length_map, las, ← ok.len, List.take_length] at hps
      refine ⟨D, _, rfl, .inl ⟨SqL.of hDs, fun t ht => ?_⟩⟩
      have k4 : Kp [] H' (upd H' t (.tup (bs.map V.ref))) := Kp.new _ ht
      refine q t _ ((k1.cut hD).trans k4) ⟨bs, .inl (.inl upd_same), pair_imp (fun _ _ z => RowAt.kp k4 z) hps⟩
end
end Tac

namespace Tac
open PySem L2
section
variable {P : Program} {w : World} {K : PySem.W.Frag} {mg : Str → Option Value} {base : Heap} {CR CH : Addr}
abbrev nLMir : List Str := ["_law_machine_here", "_law_row", "_law_rule"]
theorem scLM : FnScope nLMir ["_law_machine_here"] (defScope sLMir) := ⟨rfl, rfl, rfl, by decide +kernel, rfl, by decide +kernel, by decide +kernel⟩
theorem ok_lmir {f : Addr} {fd : FuncData} (F : Fun K "_law_mirrored" "_law_mirrored" sLMir f fd) (T : Txt K mg CR CH) : FnOk P w K mg base CX0 1 f fd ["_law_machine_here"] (spMir K) := by
  refine F.ok scLM (fun vs H Q E h => ?_) (fun cdv A outer s H vs Q E hr h => ?_)
  · obtain ⟨m, M, ns, sy, rfl, _⟩ := h
    rfl
  · obtain ⟨m, M, ns, sy, rfl, ma, ok, q⟩ := h
    refine ⟨_, pss_one (ps_ret (pe_callTy call_tuple_of rfl T.tuple (by decide +kernel) (pa_cons
      (pe_lc (own := [("_law_row", 1)]) (g := gName 1) rfl scLM.nd (pi_tup (pv 0)) (blkOk_by (own := [("_law_row", 1)]) (N := nLMir) (sc := defScope sLMir) (by decide +kernel))
        (fun _ _ _ _ _ => pg_name (i := 1) scLM.nd rfl (.inl rfl)) (fun _ _ _ _ _ => pts_nil)
        (fun _ _ _ _ _ => pe_callTy (call_tupK (K' := K) rfl) rfl T.tuple (by decide +kernel) (pa_cons
          (pe_lc (own := [("_law_rule", 2)]) (g := gName 2) rfl scLM.nd (pi_tupK (K' := K) rfl (pv 1))
            (blkOk_by (own := [("_law_rule", 2)]) (N := nLMir) (sc := relS (lcScope (arg0 (retE (body0 sLMir)))) (defScope sLMir)) (by decide +kernel))
            (fun _ _ _ _ _ => pg_name (i := 2) scLM.nd rfl (.inl rfl))
            (fun _ _ _ _ _ => pts_nil)
            (fun _ _ _ _ _ => pe_tup (pa_cons (pe_ix (ix_tupK (K' := K) rfl) (pv 2) pe_int (fun _ _ => rfl)) (pa_cons (pe_op op_sub pe_int (pe_ix (ix_tupK (K' := K) rfl) (pv 2) pe_int (fun _ _ => rfl))) (pa_cons (pe_ix (ix_tupK (K' := K) rfl) (pv 2) pe_int (fun _ _ => rfl)) pa_nil)))))
          pa_nil)))
      pa_nil))), ?_⟩
    obtain ⟨as, h1, h2⟩ := id ma
    have las : as.length = ns := by rw [pair_len h2]; exact ok.len
    refine ⟨_, rfl, m, rfl, ⟨_, h1⟩, fun D hD => ?_⟩
    refine lc_tup (K := K) (a := m) (xs := as.map V.ref) (fun i H' => Kp [D] H H' ∧ ∃ bs : List Addr, H' D = some (.lst (bs.map V.ref)) ∧ Paired (RowAt K H') bs ((M.take i).map (·.map mirR)))
      ⟨Kp.new _ hD, [], upd_same, .nil⟩ (fun i H' _ ⟨k1, _⟩ => k1.sqT h1) ?_ ?_
    · rintro i x H' hi ⟨k1, bs, hDs, hps⟩
      obtain ⟨r, hr0, rfl⟩ := ref_at hi
      obtain ⟨row, hrow, hra⟩ := pair_getL h2 hr0
      obtain ⟨as2, g1, g2⟩ := RowAt.kp k1 hra
      have lrow : row.length = sy := ok.row _ (List.mem_of_getElem? hrow)
      have las2 : as2.length = sy := by rw [pair_len g2]; exact lrow
      have hiM : i < M.length := (List.getElem?_eq_some_iff.mp hrow).1
      have lM : M.length = ns := ok.len
      have n4 := ok.n4
      have s4 := ok.s4
      have lbs : bs.length = i := by
        rw [pair_len hps, List.length_map, List.length_take]
        omega
      refine ⟨rfl, ?_⟩
      refine ⟨_, rfl, r, rfl, ⟨_, g1⟩, fun D2 hD2 => ?_⟩
      have nDD : D ≠ D2 := ne_of_none hDs hD2
      refine lc_tup (K := K) (a := r) (xs := as2.map V.ref) (fun j H2 => Kp [D2] H' H2 ∧ ∃ cs : List Addr, H2 D2 = some (.lst (cs.map V.ref)) ∧ Paired (RuAt K H2) cs ((row.take j).map mirR))
        ⟨Kp.new _ hD2, [], upd_same, .nil⟩ (fun j H2 _ ⟨k2, _⟩ => k2.sqT g1) ?_ ?_
      · rintro j y H2 hj ⟨k2, cs, hcs, hpc⟩
        obtain ⟨b, hb, rfl⟩ := ref_at hj
        obtain ⟨ru, hru, hrb⟩ := pair_getL g2 hb
        have hjr : j < row.length := (List.getElem?_eq_some_iff.mp hru).1
        have lcs : cs.length = j := by
          rw [pair_len hpc, List.length_map, List.length_take]
          omega
        have hq : SqT K H2 b (ruV ru) := k2.sqT hrb
        refine ⟨rfl, _, rfl, b, _, _, _, rfl, rfl, hq, rfl, _, rfl, b, _, _, _, rfl, rfl, hq, rfl, _, _, rfl, rfl, ?_⟩
        refine ⟨_, rfl, b, _, _, _, rfl, rfl, hq, rfl, (by show 3 ≤ sizeLine; decide), fun t ht => ?_⟩
        have ntD : D2 ≠ t := ne_of_none hcs ht
        refine ⟨_, by rw [upd_ne ntD]; exact hcs, by rw [List.length_map]; exact small1000 (by omega), .wr (.nw k2 ht) (by rw [upd_ne ntD]; exact hcs), cs ++ [t], ?_, ?_⟩
        · rw [upd_same, List.map_append]
          rfl
        · rw [take_snoc hru, List.map_append]
          have k3 : Kp [D2] H2 (upd (upd H2 t (.tup [V.int ru.1, V.int (0 - ru.2.1), V.int ru.2.2])) D2 (.lst (cs.map V.ref ++ [V.ref t]))) :=
            .wr (.nw (.refl _ _) ht) (by rw [upd_ne ntD]; exact hcs)
          refine pair_snoc ?_ (pair_imp (fun _ _ z => RuAt.kp k3 z) hpc)
          refine .inl (.inl ?_)
          rw [upd_ne ntD.symm, upd_same]
          show some (HO.tup [V.int ru.1, V.int (0 - ru.2.1), V.int ru.2.2]) = some (HO.tup [V.int ru.1, V.int (-ru.2.1), V.int ru.2.2])
          rw [Int.zero_sub]
      · rintro H2 ⟨k2, cs, hcs, hpc⟩
        rw [List.length_map, las2, ← lrow, List.take_length] at hpc
        refine ⟨D2, _, rfl, .inl ⟨SqL.of hcs, fun t ht => ?_⟩⟩
        have nDt : D ≠ t := ne_of_none (k2.lst hDs (by simp [nDD])) ht
        have hD2' : H2 D = some (.lst (bs.map V.ref)) := k2.lst hDs (by simp [nDD])
        have k2' : Kp [] H' H2 := k2.cut hD2
        refine ⟨_, by rw [upd_ne nDt]; exact hD2', by rw [List.length_map]; exact small1000 (by omega), .wr (.nw (k1.trans k2'.nil) ht) (by rw [upd_ne nDt]; exact hD2'), bs ++ [t], ?_, ?_⟩
        · rw [upd_same, List.map_append]
          rfl
        · rw [take_snoc hrow, List.map_append]
          have k3 : Kp [D] H2 (upd (upd H2 t (.tup (cs.map V.ref))) D (.lst (bs.map V.ref ++ [V.ref t]))) :=
            .wr (.nw (.refl _ _) ht) (by rw [upd_ne nDt]; exact hD2')
          refine pair_snoc ?_ (pair_imp (fun _ _ z => RowAt.kp k3 (RowAt.kp k2' z)) hps)
          refine ⟨cs, .inl (.inl ?_), pair_imp (fun _ _ z => RuAt.kp k3 z) hpc⟩
          rw [upd_ne nDt.symm, upd_same]
    · rintro H' ⟨k1, bs, hDs, hps⟩
      rw [List.length_map, las, ← ok.len, List.take_length] at hps
      refine ⟨D, _, rfl, .inl ⟨SqL.of hDs, fun t ht => ?_⟩⟩
      have k4 : Kp [] H' (upd H' t (.tup (bs.map V.ref))) := Kp.new _ ht
      refine q t _ ((k1.cut hD).trans k4) ⟨bs, .inl (.inl upd_same), pair_imp (fun _ _ z => RowAt.kp k4 z) hps⟩
end
end Tac

namespace Tac
open PySem L2
def tupI (zs : List Int) : PyData := .tuple (zs.map PyData.int)
theorem eqv_ints : ∀ a b : List Int, PyData.eqvAll (a.map PyData.int) (b.map PyData.int) = decide (a = b)
  | [], [] => by simp [PyData.eqvAll]
  | [], _ :: _ => by simp [PyData.eqvAll]
  | _ :: _, [] => by simp [PyData.eqvAll]
  | x :: xs, y :: ys => by
    rw [List.map_cons, List.map_cons, PyData.eqvAll, eqv_ints xs ys, PyData.eqv]
    by_cases h : x = y
    · subst h
      simp
    · simp [h]
theorem eqv_tup (a b : List Int) : PyData.eqv (tupI a) (tupI b) = decide (a = b) := by
  unfold tupI
  rw [PyData.eqv]
  exact eqv_ints a b
theorem lay_ints : ∀ a : List Int, PyData.canLayAll0 (a.map PyData.int) = true
  | [] => by simp [PyData.canLayAll0]
  | x :: xs => by
    rw [List.map_cons, PyData.canLayAll0, lay_ints xs]
    simp [PyData.canLay0]
theorem depth_ints : ∀ a : List Int, PyData.depthAll (a.map PyData.int) ≤ 1
  | [] => by simp [PyData.depthAll]
  | x :: xs => by
    have ih := depth_ints xs
    rw [List.map_cons, PyData.depthAll]
    simp only [PyData.depth]
    omega
theorem shaped_tup (a : List Int) : SeqAt.shaped (tupI a) = true := by
  unfold SeqAt.shaped tupI
  have h := depth_ints a
  rw [PyData.canLay0, lay_ints, PyData.depth]
  simp
  omega
theorem dp_ints (K : PySem.W.Frag) (H : Hp) : ∀ a : List Int, DpAll K H (a.map V.int) (a.map PyData.int)
  | [] => .nil
  | x :: xs => .cons (.int x) (dp_ints K H xs)
theorem dp_tup {K : PySem.W.Frag} {H : Hp} {q : Addr} {zs : List Int} (h : SqT K H q (zs.map V.int)) : Dp K H (.ref q) (tupI zs) := .tup h (dp_ints K H zs)
end Tac

namespace Tac
open PySem L2
/-! ### Runner.tail -/
def spRTail (K : PySem.W.Frag) (C : Addr) : Sp := fun vs H Q _ => ∃ (p d m : Addr) (M : Mach) (ns sy k : Nat) (u : Int), vs = [.ref p, .int u] ∧ At K C H p d m M k ∧ MOk ns sy M ∧ k ≤ 400 ∧ -500 ≤ u ∧
  ∀ q f zs H', Kp [] H H' → Row (cf M k).tp f zs → SqT K H' q ((tailF f zs u).map V.int) → Q (.ref q) H'
/-! ### the histories -/
def hf (r ls lp lt : Addr) : List (Str × V) := [("runner", .ref r), ("states", .ref ls), ("places", .ref lp), ("tapes", .ref lt)]
section
variable (r ls lp lt : Addr)
theorem hf_runner : (hf r ls lp lt).lookup ("runner" : Str) = some (.ref r) := by kernel_rfl
theorem hf_states : (hf r ls lp lt).lookup ("states" : Str) = some (.ref ls) := by kernel_rfl
theorem hf_places : (hf r ls lp lt).lookup ("places" : Str) = some (.ref lp) := by kernel_rfl
theorem hf_tapes : (hf r ls lp lt).lookup ("tapes" : Str) = some (.ref lt) := by kernel_rfl
theorem hf_new : putF "tapes" (.ref lt) (putF "places" (.ref lp) (putF "states" (.ref ls) (putF "runner" (.ref r) []))) = hf r ls lp lt := by kernel_rfl
theorem hf_no_grow : (hf r ls lp lt).lookup ("grow" : Str) = none := by kernel_rfl
theorem hf_no_repeats : (hf r ls lp lt).lookup ("repeats" : Str) = none := by kernel_rfl
end
/-- a pair of the first place and the symbols -/
def TapAt (K : PySem.W.Frag) (H : Hp) (t : Addr) (tp : Int → Int) (k : Nat) : Prop :=
  ∃ (c : Addr) (f : Int) (zs : List Int), SqT K H t [.int f, .ref c] ∧ SqT K H c (zs.map V.int) ∧ Row tp f zs ∧ zs.length ≤ 2 * k ∧ -(k : Int) ≤ f ∧ f ≤ k
theorem TapAt.kp {K : PySem.W.Frag} {H H' : Hp} {A : List Addr} {t : Addr} {tp : Int → Int} {k : Nat} (q : Kp A H H') (h : TapAt K H t tp k) : TapAt K H' t tp k := by
  obtain ⟨c, f, zs, h1, h2, h3⟩ := h
  exact ⟨c, f, zs, q.sqT h1, q.sqT h2, h3⟩
def sts (M : Mach) (n : Nat) : List V := (List.range (n + 1)).map fun i => V.int (cf M i).st
def pls (M : Mach) (n : Nat) : List V := (List.range (n + 1)).map fun i => V.int (cf M i).pl
/-- the addresses of a history -/
structure HA where
  h : Addr
  r : Addr
  d : Addr
  ls : Addr
  lp : Addr
  lt : Addr
def HA.ft (a : HA) : List Addr := [a.r, a.d, a.ls, a.lp, a.lt]
structure HAt (K : PySem.W.Frag) (CR CH : Addr) (H : Hp) (a : HA) (m : Addr) (M : Mach) (n : Nat) : Prop where
  ob : ∃ dx, H a.h = some (.ins CH dx (hf a.r a.ls a.lp a.lt))
  run : At K CR H a.r a.d m M n
  ss : H a.ls = some (.lst (sts M n))
  ps : H a.lp = some (.lst (pls M n))
  ts : ∃ ts : List Addr, H a.lt = some (.lst (ts.map V.ref)) ∧ ts.length = n + 1 ∧ ∀ (i : Nat) (t : Addr), ts[i]? = some t → TapAt K H t (cf M i).tp i
  n1 : a.ls ≠ a.lp
  n2 : a.ls ≠ a.lt
  n3 : a.lp ≠ a.lt
  n4 : a.h ≠ a.r
theorem HAt.kp {K : PySem.W.Frag} {CR CH : Addr} {H H' : Hp} {A : List Addr} {a : HA} {m : Addr} {M : Mach} {n : Nat} (q : Kp A H H') (h : HAt K CR CH H a m M n) (h1 : a.h ∉ A) (h2 : ∀ b ∈ a.ft, b ∉ A) : HAt K CR CH H' a m M n := by
  obtain ⟨⟨dx, e⟩, run, ss, ps, ⟨ts, e2, e3, e4⟩, n1, n2, n3, n4⟩ := h
  refine ⟨⟨dx, q.lst e h1⟩, run.kp q (h2 _ (by simp [HA.ft])) (h2 _ (by simp [HA.ft])), q.lst ss (h2 _ (by simp [HA.ft])), q.lst ps (h2 _ (by simp [HA.ft])), ⟨ts, q.lst e2 (h2 _ (by simp [HA.ft])), e3, fun i t ht => TapAt.kp q (e4 i t ht)⟩, n1, n2, n3, n4⟩
def spHInit (K : PySem.W.Frag) (CR CH : Addr) : Sp := fun vs H Q _ => ∃ (h m dx : Addr) (M : Mach), vs = [.ref h, .ref m] ∧ H h = some (.ins CH dx []) ∧ MaAt K H m M ∧
  ∀ (a : HA) H', a.h = h → (∀ b ∈ a.ft, H b = none) → Kp [h] H H' → HAt K CR CH H' a m M 0 → Q .non H'
def spGrow (K : PySem.W.Frag) (CR CH : Addr) : Sp := fun vs H Q _ => ∃ (a : HA) (m : Addr) (M : Mach) (ns sy n : Nat), vs = [.ref a.h] ∧ HAt K CR CH H a m M n ∧ MOk ns sy M ∧ (cf M n).st ≠ -1 ∧ n ≤ 300 ∧
  ∀ H', Kp a.ft H H' → HAt K CR CH H' a m M (n + 1) → Q (.bl (!decide ((cf M (n + 1)).st = -1))) H'
def spRep (K : PySem.W.Frag) (CR CH : Addr) : Sp := fun vs H Q _ => ∃ (a : HA) (m : Addr) (M : Mach) (ns sy n i j : Nat) (l : Int), vs = [.ref a.h, .int i, .int j, .int l] ∧ HAt K CR CH H a m M n ∧ MOk ns sy M ∧ (cf M j).st ≠ -1 ∧ n ≤ 300 ∧ i < j ∧ j ≤ n ∧ Least M i j l ∧
  ∀ H' b, Kp [] H H' → (b = true ↔ Loop M i j) → Q (.bl b) H'

section
variable {P : Program} {w : World} {K : PySem.W.Frag} {mg : Str → Option Value} {base : Heap} {CR CH : Addr}
theorem scRT : FnScope ["self", "start"] ["self", "start"] (defScope sRTail) := ⟨rfl, rfl, rfl, by decide +kernel, rfl, by decide +kernel, by decide +kernel⟩
theorem ok_rtail {f fT fC : Addr} {fd fdT fdC : FuncData} (F : Fun K "tail" "Runner.tail" sRTail f fd) (T : Txt K mg CR CH) (GT : FnOk P w K mg base CX0 1 fT fdT ["row", "start"] (spTail K)) (bT : Binds K fdT ["row", "start"] []) (gT : mg "tail_runner" = some (.ref fT)) (kT : PySem.W.keepIn K (.ref fT) = true)
    (GC : FnOk P w K mg base CX0 1 fC fdC ["self"] (spCells K CR)) (bC : Binds K fdC ["self"] []) (mC : Meth K CR "cells" fC) : FnOk P w K mg base CX0 2 f fd ["self", "start"] (spRTail K CR) := by
  refine F.ok scRT (fun vs H Q E h => ?_) (fun cdv A outer s H vs Q E hr h => ?_)
  · obtain ⟨p, d, m, M, ns, sy, k, u, rfl, _⟩ := h
    rfl
  · obtain ⟨p, d, m, M, ns, sy, k, u, rfl, hA, ok, hk, hu, q⟩ := h
    obtain ⟨kvs, ⟨npd, ⟨dx, hp⟩, hd⟩, ht, hl, ma⟩ := id hA
    refine ⟨_, pss_one (ps_ret (pe_call GT hr rfl gT kT bT .nil pass0 (pa_cons (pe_meth0 (pv 0) T.clR mC GC hr bC .nil pass0) (pa_cons (pv 1) pa_nil)))), ?_⟩
    refine ⟨_, rfl, p, dx, _, rfl, hp, rf_no_cells _ _ _ _ _, p, d, m, M, ns, sy, k, rfl, hA, ok, by omega, fun t c f0 zs H' k1 s1 s2 row lz b1 b2 => ?_⟩
    refine ⟨_, rfl, t, c, f0, u, zs, rfl, s1, s2, by omega, by omega, fun q0 H2 k2 s3 => ?_⟩
    exact q q0 f0 zs H2 (k1.trans k2) row s3
theorem scHI : FnScope ["self", "machine"] ["self", "machine"] (defScope sHInit) := ⟨rfl, rfl, rfl, by decide +kernel, rfl, by decide +kernel, by decide +kernel⟩
theorem ok_hinit {f fI : Addr} {fd fdI : FuncData} (F : Fun K "__init__" "History.__init__" sHInit f fd) (T : Txt K mg CR CH) (MR : Mk K CR fI) (GI : FnOk P w K mg base CX0 1 fI fdI ["self", "machine"] (spRInit CR)) (bI : Binds K fdI ["self", "machine"] []) :
    FnOk P w K mg base CX0 3 f fd ["self", "machine"] (spHInit K CR CH) := by
  refine F.ok scHI (fun vs H Q E h => ?_) (fun cdv A outer s H vs Q E hr h => ?_)
  · obtain ⟨p, m, dx, M, rfl, _⟩ := h
    rfl
  · obtain ⟨p, m, dx, M, rfl, hp, ma, q⟩ := h
    refine ⟨_, pss_cons (ps_fld (pv 0) (pe_make MR GI hr rfl T.mgR bI .nil pass0 (pa_cons (pv 1) pa_nil)) rfl)
      (pss_cons (ps_fld (pv 0) (pe_lst (pa_cons pe_int pa_nil)) rfl)
      (pss_cons (ps_fld (pv 0) (pe_lst (pa_cons pe_int pa_nil)) rfl)
      (pss_one (ps_fld (pv 0) (pe_lst (pa_cons (pe_tup (pa_cons pe_int (pa_cons (pe_tup pa_nil) pa_nil))) pa_nil)) rfl)))), ?_⟩
    -- self.runner = Runner(machine)
    refine ⟨_, rfl, fun r rx nr nrx nrr => ⟨r, m, rx, rfl, upd_same, fun d H1 hd0 k1 ra => ⟨rfl, ?_⟩⟩⟩
    have npr : p ≠ r := ne_of_none hp nr
    have k0 : Kp [] H (upd (upd H rx (.own r)) r (.ins CR rx [])) := .nw (.nw (.refl _ _) nrx) (by rw [upd_ne nrr.symm]; exact nr)
    have kk1 : Kp [] H H1 := (k0.nil.trans k1).cut nr
    have hp1 : H1 p = some (.ins CH dx []) := kk1.lst hp (fun z => nomatch z)
    have hd00 : H d = none := k0.dom _ hd0
    have npd : p ≠ d := ne_of_none hp hd00
    refine ⟨_, rfl, p, CH, dx, _, rfl, hp1, T.clH, T.hR, (by show 0 < 1000; decide), ?_⟩
    have k2 : Kp [p] H1 (upd H1 p (.ins CH dx (putF "runner" (.ref r) []))) := .wr (.refl _ _) hp1
    have hp2 : (upd H1 p (.ins CH dx (putF "runner" (.ref r) []))) p = some (.ins CH dx (putF "runner" (.ref r) [])) := upd_same
    generalize upd H1 p (.ins CH dx (putF "runner" (.ref r) [])) = H2 at k2 hp2 ⊢
    -- self.states = [0]
    refine ⟨(by show 1 ≤ sizeLine; decide), fun ls hls => ⟨_, rfl, p, CH, dx, _, rfl, (by rw [upd_ne (ne_of_none hp2 hls)]; exact hp2), T.clH, T.hS, (by show 1 < 1000; decide), ?_⟩⟩
    have nls : p ≠ ls := ne_of_none hp2 hls
    have k3 : Kp [p] H2 (upd (upd H2 ls (.lst [.int 0])) p (.ins CH dx (putF "states" (.ref ls) (putF "runner" (.ref r) [])))) := .wr (.nw (.refl _ _) hls) (by rw [upd_ne nls]; exact hp2)
    have hls3 : (upd (upd H2 ls (.lst [.int 0])) p (.ins CH dx (putF "states" (.ref ls) (putF "runner" (.ref r) [])))) ls = some (.lst [.int 0]) := by rw [upd_ne nls.symm, upd_same]
    have hp3 : (upd (upd H2 ls (.lst [.int 0])) p (.ins CH dx (putF "states" (.ref ls) (putF "runner" (.ref r) [])))) p = some (.ins CH dx (putF "states" (.ref ls) (putF "runner" (.ref r) []))) := upd_same
    generalize upd (upd H2 ls (.lst [.int 0])) p (.ins CH dx (putF "states" (.ref ls) (putF "runner" (.ref r) []))) = H3 at k3 hls3 hp3 ⊢
    -- self.places = [0]
    refine ⟨(by show 1 ≤ sizeLine; decide), fun lp hlp => ⟨_, rfl, p, CH, dx, _, rfl, (by rw [upd_ne (ne_of_none hp3 hlp)]; exact hp3), T.clH, T.hP, (by show 2 < 1000; decide), ?_⟩⟩
    have nlp : p ≠ lp := ne_of_none hp3 hlp
    have k4 : Kp [p] H3 (upd (upd H3 lp (.lst [.int 0])) p (.ins CH dx (putF "places" (.ref lp) (putF "states" (.ref ls) (putF "runner" (.ref r) []))))) := .wr (.nw (.refl _ _) hlp) (by rw [upd_ne nlp]; exact hp3)
    have hlp4 : (upd (upd H3 lp (.lst [.int 0])) p (.ins CH dx (putF "places" (.ref lp) (putF "states" (.ref ls) (putF "runner" (.ref r) []))))) lp = some (.lst [.int 0]) := by rw [upd_ne nlp.symm, upd_same]
    have hp4 : (upd (upd H3 lp (.lst [.int 0])) p (.ins CH dx (putF "places" (.ref lp) (putF "states" (.ref ls) (putF "runner" (.ref r) []))))) p = some (.ins CH dx (putF "places" (.ref lp) (putF "states" (.ref ls) (putF "runner" (.ref r) [])))) := upd_same
    generalize upd (upd H3 lp (.lst [.int 0])) p (.ins CH dx (putF "places" (.ref lp) (putF "states" (.ref ls) (putF "runner" (.ref r) [])))) = H4 at k4 hlp4 hp4 ⊢
    -- self.tapes = [(0, ())]
    refine ⟨Nat.zero_le _, fun c hc => ⟨(by show 2 ≤ sizeLine; decide), fun t ht => ⟨(by show 1 ≤ sizeLine; decide), fun lt hlt => ?_⟩⟩⟩
    have nct : c ≠ t := ne_of_none upd_same ht
    have nclt : c ≠ lt := ne_of_none (o := .tup []) (by rw [upd_ne nct, upd_same]) hlt
    have ntlt : t ≠ lt := ne_of_none (o := .tup [.int 0, .ref c]) (by rw [upd_same]) hlt
    have npc : p ≠ c := ne_of_none hp4 hc
    have npt : p ≠ t := ne_of_none (o := .ins CH dx (putF "places" (.ref lp) (putF "states" (.ref ls) (putF "runner" (.ref r) [])))) (by rw [upd_ne npc]; exact hp4) ht
    have nplt : p ≠ lt := ne_of_none (o := .ins CH dx (putF "places" (.ref lp) (putF "states" (.ref ls) (putF "runner" (.ref r) [])))) (by rw [upd_ne npt, upd_ne npc]; exact hp4) hlt
    have hp5 : (upd (upd (upd H4 c (.tup [])) t (.tup [.int 0, .ref c])) lt (.lst [.ref t])) p = some (.ins CH dx (putF "places" (.ref lp) (putF "states" (.ref ls) (putF "runner" (.ref r) [])))) := by rw [upd_ne nplt, upd_ne npt, upd_ne npc]; exact hp4
    refine ⟨_, rfl, p, CH, dx, _, rfl, hp5, T.clH, T.hT, (by show 3 < 1000; decide), ?_⟩
    have k5 : Kp [p] H4 (upd (upd (upd (upd H4 c (.tup [])) t (.tup [.int 0, .ref c])) lt (.lst [.ref t])) p (.ins CH dx (putF "tapes" (.ref lt) (putF "places" (.ref lp) (putF "states" (.ref ls) (putF "runner" (.ref r) [])))))) :=
      .wr (.nw (.nw (.nw (.refl _ _) hc) ht) hlt) hp5
    have f1 : (upd (upd (upd (upd H4 c (.tup [])) t (.tup [.int 0, .ref c])) lt (.lst [.ref t])) p (.ins CH dx (putF "tapes" (.ref lt) (putF "places" (.ref lp) (putF "states" (.ref ls) (putF "runner" (.ref r) [])))))) lt = some (.lst [.ref t]) := by rw [upd_ne nplt.symm, upd_same]
    have f2 : (upd (upd (upd (upd H4 c (.tup [])) t (.tup [.int 0, .ref c])) lt (.lst [.ref t])) p (.ins CH dx (putF "tapes" (.ref lt) (putF "places" (.ref lp) (putF "states" (.ref ls) (putF "runner" (.ref r) [])))))) t = some (.tup [.int 0, .ref c]) := by rw [upd_ne npt.symm, upd_ne ntlt, upd_same]
    have f3 : (upd (upd (upd (upd H4 c (.tup [])) t (.tup [.int 0, .ref c])) lt (.lst [.ref t])) p (.ins CH dx (putF "tapes" (.ref lt) (putF "places" (.ref lp) (putF "states" (.ref ls) (putF "runner" (.ref r) [])))))) c = some (.tup []) := by rw [upd_ne npc.symm, upd_ne nclt, upd_ne nct, upd_same]
    have f4 : (upd (upd (upd (upd H4 c (.tup [])) t (.tup [.int 0, .ref c])) lt (.lst [.ref t])) p (.ins CH dx (putF "tapes" (.ref lt) (putF "places" (.ref lp) (putF "states" (.ref ls) (putF "runner" (.ref r) [])))))) p = some (.ins CH dx (hf r ls lp lt)) := by rw [upd_same, hf_new]
    have hlt4 : H4 lt = none := (Kp.nw (.nw (.refl [] H4) hc) ht).dom _ hlt
    generalize upd (upd (upd (upd H4 c (.tup [])) t (.tup [.int 0, .ref c])) lt (.lst [.ref t])) p (.ins CH dx (putF "tapes" (.ref lt) (putF "places" (.ref lp) (putF "states" (.ref ls) (putF "runner" (.ref r) []))))) = H5 at k5 f1 f2 f3 f4 ⊢
    have k15 : Kp [p] H1 H5 := ((k2.trans k3).trans k4).trans k5
    have nlsp : ls ≠ lp := ne_of_none hls3 hlp
    have hls4 : H4 ls = some (.lst [.int 0]) := k4.lst hls3 (by simp [nls.symm])
    obtain ⟨nrd, ⟨rx', e1⟩, e2⟩ := ra
    refine q ⟨p, r, d, ls, lp, lt⟩ H5 rfl ?_ (kk1.nil.trans k15) ⟨⟨dx, f4⟩, ⟨[], ⟨nrd, ⟨rx', k15.lst e1 (by simp [npr.symm])⟩, k15.lst e2 (by simp [npd.symm])⟩, TapeOk.nil, Nat.le_refl _, ma.kp (kk1.nil.trans k15)⟩, ?_, ?_, ⟨[t], f1, rfl, ?_⟩, nlsp, ne_of_none hls4 hlt4, ne_of_none hlp4 hlt4, npr⟩
    · intro b hb
      simp only [HA.ft, List.mem_cons, List.not_mem_nil, or_false] at hb
      rcases hb with rfl | rfl | rfl | rfl | rfl
      · exact nr
      · exact hd00
      · exact (kk1.nil.trans k2).dom _ hls
      · exact ((kk1.nil.trans k2).trans k3).dom _ hlp
      · exact (((kk1.nil.trans k2).trans k3).trans k4).dom _ hlt4
    · exact k5.lst hls4 (by simp [nls.symm])
    · exact k5.lst hlp4 (by simp [nlp.symm])
    · intro i t' ht'
      cases i with
      | succ i => simp at ht'
      | zero =>
        have e : t = t' := Option.some.inj ht'
        subst e
        exact ⟨c, 0, [], .inl (.inl f2), .inl (.inl f3), .inl ⟨rfl, rfl, fun _ => rfl⟩, Nat.zero_le _, Int.le_refl _, Int.le_refl _⟩
end
end Tac

namespace Tac
open PySem L2
theorem sts_succ (M : Mach) (n : Nat) : sts M (n + 1) = sts M n ++ [V.int (cf M (n + 1)).st] := by
  unfold sts
  rw [List.range_succ (n := n + 1), List.map_append]
  rfl
theorem pls_succ (M : Mach) (n : Nat) : pls M (n + 1) = pls M n ++ [V.int (cf M (n + 1)).pl] := by
  unfold pls
  rw [List.range_succ (n := n + 1), List.map_append]
  rfl
theorem sts_len (M : Mach) (n : Nat) : (sts M n).length = n + 1 := by unfold sts; rw [List.length_map, List.length_range]
theorem pls_len (M : Mach) (n : Nat) : (pls M n).length = n + 1 := by unfold pls; rw [List.length_map, List.length_range]
theorem sts_at {M : Mach} {n i : Nat} (h : i ≤ n) : atI (sts M n) (i : Int) = some (V.int (cf M i).st) := by
  refine atI_nat ?_
  unfold sts
  rw [List.getElem?_map, List.getElem?_range (by omega)]
  rfl
theorem pls_at {M : Mach} {n i : Nat} (h : i ≤ n) : atI (pls M n) (i : Int) = some (V.int (cf M i).pl) := by
  refine atI_nat ?_
  unfold pls
  rw [List.getElem?_map, List.getElem?_range (by omega)]
  rfl
section
variable {P : Program} {w : World} {K : PySem.W.Frag} {mg : Str → Option Value} {base : Heap} {CR CH : Addr}
theorem scGr : FnScope ["self"] ["self"] (defScope sGrow) := ⟨rfl, rfl, rfl, by decide +kernel, rfl, by decide +kernel, by decide +kernel⟩
theorem ok_grow {f fS fC : Addr} {fd fdS fdC : FuncData} (F : Fun K "grow" "History.grow" sGrow f fd) (T : Txt K mg CR CH) (GS : FnOk P w K mg base CX0 2 fS fdS ["self"] (spStep K CR)) (bS : Binds K fdS ["self"] []) (mS : Meth K CR "step" fS)
    (GC : FnOk P w K mg base CX0 1 fC fdC ["self"] (spCells K CR)) (bC : Binds K fdC ["self"] []) (mC : Meth K CR "cells" fC) : FnOk P w K mg base CX0 3 f fd ["self"] (spGrow K CR CH) := by
  refine F.ok scGr (fun vs H Q E h => ?_) (fun cdv A outer s H vs Q E hr h => ?_)
  · obtain ⟨a, m, M, ns, sy, n, rfl, _⟩ := h
    rfl
  · obtain ⟨a, m, M, ns, sy, n, rfl, hA, ok, go, hn, q⟩ := h
    obtain ⟨ts, hst⟩ := T.stop
    have hr1 : Room 1 _ := hr.mono (by decide)
    refine ⟨_, pss_cons (ps_expr (pe_meth0 (pe_fld (pv 0) rfl) T.clR mS GS hr bS .nil pass0))
      (pss_cons (ps_expr (pe_bm PySem.F.plainAttrs_list PySem.F.slot_list_append PySem.F.type_list_append mt_append (pe_fld (pv 0) rfl) (pa_cons (pe_fld (pe_fld (pv 0) rfl) rfl) pa_nil)))
      (pss_cons (ps_expr (pe_bm PySem.F.plainAttrs_list PySem.F.slot_list_append PySem.F.type_list_append mt_append (pe_fld (pv 0) rfl) (pa_cons (pe_fld (pe_fld (pv 0) rfl) rfl) pa_nil)))
      (pss_cons (ps_expr (pe_bm PySem.F.plainAttrs_list PySem.F.slot_list_append PySem.F.type_list_append mt_append (pe_fld (pv 0) rfl) (pa_cons (pe_meth0 (pe_fld (pv 0) rfl) T.clR mC GC hr1 bC .nil pass0) pa_nil)))
      (pss_one (ps_ret (pe_cmpR op_ne (pe_fld (pe_fld (pv 0) rfl) rfl) (pe_glob (v := .int (-1)) rfl hst ⟨_, rfl⟩) (nomark _))))))), ?_⟩
    obtain ⟨⟨dx, hh⟩, hR, hs, hpl, ⟨tt, hts, htl, htt⟩, n1, n2, n3, n4⟩ := hA
    obtain ⟨kvs0, ⟨nrd0, ⟨dr0, er0⟩, ed0⟩, _⟩ := id hR
    -- addresses that differ
    have h_ls : a.h ≠ a.ls := ne_of hh hs (by intro z; cases z)
    have h_lp : a.h ≠ a.lp := ne_of hh hpl (by intro z; cases z)
    have h_lt : a.h ≠ a.lt := ne_of hh hts (by intro z; cases z)
    have h_d : a.h ≠ a.d := ne_of hh ed0 (by intro z; cases z)
    have r_ls : a.r ≠ a.ls := ne_of er0 hs (by intro z; cases z)
    have r_lp : a.r ≠ a.lp := ne_of er0 hpl (by intro z; cases z)
    have r_lt : a.r ≠ a.lt := ne_of er0 hts (by intro z; cases z)
    have d_ls : a.d ≠ a.ls := ne_of ed0 hs (by intro z; cases z)
    have d_lp : a.d ≠ a.lp := ne_of ed0 hpl (by intro z; cases z)
    have d_lt : a.d ≠ a.lt := ne_of ed0 hts (by intro z; cases z)
    -- self.runner.step()
    refine ⟨_, rfl, a.h, CH, dx, _, _, rfl, hh, T.clH, T.hR, hf_runner _ _ _ _, a.r, dr0, _, rfl, er0, rf_no_step _ _ _ _ _, a.r, a.d, m, M, ns, sy, n, rfl, hR, ok, go, by omega, fun H1 k1 hR1 => ?_⟩
    have hh1 : H1 a.h = some (.ins CH dx (hf a.r a.ls a.lp a.lt)) := k1.lst hh (by simp [n4, h_d])
    have hs1 : H1 a.ls = some (.lst (sts M n)) := k1.lst hs (by simp [r_ls.symm, d_ls.symm])
    have hp1 : H1 a.lp = some (.lst (pls M n)) := k1.lst hpl (by simp [r_lp.symm, d_lp.symm])
    have ht1 : H1 a.lt = some (.lst (tt.map V.ref)) := k1.lst hts (by simp [r_lt.symm, d_lt.symm])
    have kt1 : Kp a.ft H H1 := k1.mono (by simp [HA.ft])
    obtain ⟨kvs1, ⟨_, ⟨dr1, er1⟩, ed1⟩, _⟩ := id hR1
    -- self.states.append(self.runner.state)
    refine ⟨_, rfl, a.h, CH, dx, _, _, rfl, hh1, T.clH, T.hS, hf_states _ _ _ _, .inl ⟨rfl, _, SqL.of hs1⟩, _, rfl, a.h, CH, dx, _, _, rfl, hh1, T.clH, T.hR, hf_runner _ _ _ _, a.r, CR, dr1, _, _, rfl, er1, T.clR, T.rS, rf_state _ _ _ _ _, a.ls, _, _, rfl, rfl, hs1, by rw [sts_len]; exact small1000 (by omega), ?_⟩
    rw [← sts_succ]
    have k2 : Kp a.ft H (upd H1 a.ls (.lst (sts M (n + 1)))) := .wr kt1 hs1 (hp := by simp [HA.ft])
    have kr2 : Kp [a.ls] H1 (upd H1 a.ls (.lst (sts M (n + 1)))) := .wr (.refl _ _) hs1
    have hs2 : (upd H1 a.ls (.lst (sts M (n + 1)))) a.ls = some (.lst (sts M (n + 1))) := upd_same
    have hh2 := kr2.lst hh1 (by simp [h_ls])
    have hp2 := kr2.lst hp1 (by simp [n1.symm])
    have ht2 := kr2.lst ht1 (by simp [n2.symm])
    have hR2 := hR1.kp kr2 (by simp [r_ls]) (by simp [d_ls])
    generalize upd H1 a.ls (.lst (sts M (n + 1))) = H2 at k2 kr2 hs2 hh2 hp2 ht2 hR2 ⊢
    obtain ⟨kvs2, ⟨_, ⟨dr2, er2⟩, ed2⟩, _⟩ := id hR2
    -- self.places.append(self.runner.place)
    refine ⟨_, rfl, a.h, CH, dx, _, _, rfl, hh2, T.clH, T.hP, hf_places _ _ _ _, .inl ⟨rfl, _, SqL.of hp2⟩, _, rfl, a.h, CH, dx, _, _, rfl, hh2, T.clH, T.hR, hf_runner _ _ _ _, a.r, CR, dr2, _, _, rfl, er2, T.clR, T.rP, rf_place _ _ _ _ _, a.lp, _, _, rfl, rfl, hp2, by rw [pls_len]; exact small1000 (by omega), ?_⟩
    rw [← pls_succ]
    have k3 : Kp a.ft H (upd H2 a.lp (.lst (pls M (n + 1)))) := .wr k2 hp2 (hp := by simp [HA.ft])
    have kr3 : Kp [a.lp] H2 (upd H2 a.lp (.lst (pls M (n + 1)))) := .wr (.refl _ _) hp2
    have hp3 : (upd H2 a.lp (.lst (pls M (n + 1)))) a.lp = some (.lst (pls M (n + 1))) := upd_same
    have hh3 := kr3.lst hh2 (by simp [h_lp])
    have hs3 := kr3.lst hs2 (by simp [n1])
    have ht3 := kr3.lst ht2 (by simp [n3.symm])
    have hR3 := hR2.kp kr3 (by simp [r_lp]) (by simp [d_lp])
    generalize upd H2 a.lp (.lst (pls M (n + 1))) = H3 at k3 kr3 hp3 hh3 hs3 ht3 hR3 ⊢
    obtain ⟨kvs3, ⟨_, ⟨dr3, er3⟩, ed3⟩, _⟩ := id hR3
    -- self.tapes.append(self.runner.cells())
    refine ⟨_, rfl, a.h, CH, dx, _, _, rfl, hh3, T.clH, T.hT, hf_tapes _ _ _ _, .inl ⟨rfl, _, SqL.of ht3⟩, _, rfl, a.h, CH, dx, _, _, rfl, hh3, T.clH, T.hR, hf_runner _ _ _ _, a.r, dr3, _, rfl, er3, rf_no_cells _ _ _ _ _, a.r, a.d, m, M, ns, sy, n + 1, rfl, hR3, ok, by omega, fun t c f0 zs H4 k4 s1 s2 row lz b1 b2 => ?_⟩
    have ht4 := k4.lst ht3 (fun z => nomatch z)
    refine ⟨a.lt, _, _, rfl, rfl, ht4, by rw [List.length_map]; exact small1000 (by omega), ?_⟩
    have k5 : Kp a.ft H (upd H4 a.lt (.lst (tt.map V.ref ++ [V.ref t]))) := .wr (k3.trans k4.nil) ht4 (hp := by simp [HA.ft])
    have kr5 : Kp [a.lt] H3 (upd H4 a.lt (.lst (tt.map V.ref ++ [V.ref t]))) := .wr k4.nil ht4
    have kr54 : Kp [a.lt] H4 (upd H4 a.lt (.lst (tt.map V.ref ++ [V.ref t]))) := .wr (.refl _ _) ht4
    have ht5 : (upd H4 a.lt (.lst (tt.map V.ref ++ [V.ref t]))) a.lt = some (.lst ((tt ++ [t]).map V.ref)) := by
      rw [upd_same, List.map_append]
      rfl
    generalize upd H4 a.lt (.lst (tt.map V.ref ++ [V.ref t])) = H5 at k5 kr5 kr54 ht5 ⊢
    have hh5 := kr5.lst hh3 (by simp [h_lt])
    have hR5 := hR3.kp kr5 (by simp [r_lt]) (by simp [d_lt])
    have hs5 := kr5.lst hs3 (by simp [n2])
    have hp5 := kr5.lst hp3 (by simp [n3])
    obtain ⟨kvs5, ⟨_, ⟨dr5, er5⟩, ed5⟩, _⟩ := id hR5
    -- return self.runner.state != STOP
    refine ⟨_, rfl, a.h, CH, dx, _, _, rfl, hh5, T.clH, T.hR, hf_runner _ _ _ _, a.r, CR, dr5, _, _, rfl, er5, T.clR, T.rS, rf_state _ _ _ _ _, rfl, ?_⟩
    rw [decV]
    refine q H5 k5 ⟨⟨dx, hh5⟩, hR5, hs5, hp5, ⟨tt ++ [t], ht5, by rw [List.length_append, htl]; rfl, fun i t' hi => ?_⟩, n1, n2, n3, n4⟩
    by_cases hi2 : i < tt.length
    · rw [List.getElem?_append_left hi2] at hi
      exact TapAt.kp k5 (htt i t' hi)
    · have hlt : i < (tt ++ [t]).length := (List.getElem?_eq_some_iff.mp hi).1
      rw [List.length_append, List.length_singleton] at hlt
      have e : i = tt.length := by omega
      subst e
      rw [List.getElem?_append_right (Nat.le_refl _), Nat.sub_self] at hi
      have e : t = t' := Option.some.inj hi
      subst e
      rw [htl]
      exact ⟨c, f0, zs, kr54.sqT s1, kr54.sqT s2, row, lz, b1, b2⟩
theorem scRe : FnScope ["self", "first", "second", "least", "distance"] ["self", "first", "second", "least"] (defScope sRep) := ⟨rfl, rfl, rfl, by decide +kernel, rfl, by decide +kernel, by decide +kernel⟩
theorem ok_rep {f fT : Addr} {fd fdT : FuncData} (F : Fun K "repeats" "History.repeats" sRep f fd) (T : Txt K mg CR CH) (GT : FnOk P w K mg base CX0 1 fT fdT ["row", "start"] (spTail K)) (bT : Binds K fdT ["row", "start"] []) (gT : mg "tail_runner" = some (.ref fT)) (kT : PySem.W.keepIn K (.ref fT) = true) :
    FnOk P w K mg base CX0 2 f fd ["self", "first", "second", "least"] (spRep K CR CH) := by
  refine F.ok scRe (fun vs H Q E h => ?_) (fun cdv A outer s H vs Q E hr h => ?_)
  · obtain ⟨a, m, M, ns, sy, n, i, j, l, rfl, _⟩ := h
    rfl
  · obtain ⟨a, m, M, ns, sy, n, i, j, l, rfl, hA, ok, go, hn, hij, hjn, hl, q⟩ := h
    refine ⟨_, pss_cons (ps_if (pt_cmpR op_ne (pe_ix ix_list (pe_fld (pv 0) rfl) (pv 1) (fun _ _ => rfl)) (pe_ix ix_list (pe_fld (pv 0) rfl) (pv 2) (fun _ _ => rfl)) (nomark _)) (pss_one (ps_ret pe_bl)) pss_nil)
      (pss_cons (ps_set (i := 4) scRe.nd rfl (.inl rfl) (pe_op op_sub (pe_ix ix_list (pe_fld (pv 0) rfl) (pv 2) (fun _ _ => rfl)) (pe_ix ix_list (pe_fld (pv 0) rfl) (pv 1) (fun _ _ => rfl))))
      (pss_cons (ps_if (pt_cmpR op_lt (pv 4) pe_int (nomark _)) (pss_one (ps_ret pe_bl)) pss_nil)
      (pss_one (ps_ret (pe_cmpR (op_eqD hr.units) (pe_call GT hr rfl gT kT bT .nil pass0 (pa_cons (pe_ix ix_list (pe_fld (pv 0) rfl) (pv 1) (fun _ _ => rfl)) (pa_cons (pv 3) pa_nil)))
        (pe_call GT hr rfl gT kT bT .nil pass0 (pa_cons (pe_ix ix_list (pe_fld (pv 0) rfl) (pv 2) (fun _ _ => rfl)) (pa_cons (pe_op op_add (pv 3) (pv 4)) pa_nil))) (nomark _)))))), ?_⟩
    obtain ⟨⟨dx, hh⟩, hR, hs, hpl, ⟨tt, hts, htl, htt⟩, n1, n2, n3, n4⟩ := id hA
    have ci := cf_ok ok i
    have cj := cf_ok ok j
    obtain ⟨tl1, k, kk1, kk2, ek⟩ := id hl
    have ck := cf_ok ok k
    have hc0 := ci.p0; have hc1 := ci.p1; have hj0 := cj.p0; have hj1 := cj.p1; have hk0 := ck.p0; have hk1 := ck.p1
    refine ⟨_, rfl, a.h, CH, dx, _, _, rfl, hh, T.clH, T.hS, hf_states _ _ _ _, _, rfl, a.ls, _, _, _, rfl, rfl, SqL.of hs, sts_at (by omega), ?_⟩
    refine ⟨_, rfl, a.h, CH, dx, _, _, rfl, hh, T.clH, T.hS, hf_states _ _ _ _, _, rfl, a.ls, _, _, _, rfl, rfl, SqL.of hs, sts_at (by omega), ?_⟩
    refine ⟨rfl, _, rfl, ?_⟩
    rw [decV]
    by_cases e1 : (cf M i).st = (cf M j).st
    · rw [decide_eq_true e1]
      refine iteF ?_
      refine ⟨_, rfl, a.h, CH, dx, _, _, rfl, hh, T.clH, T.hP, hf_places _ _ _ _, _, rfl, a.lp, _, _, _, rfl, rfl, SqL.of hpl, pls_at (by omega), ?_⟩
      refine ⟨_, rfl, a.h, CH, dx, _, _, rfl, hh, T.clH, T.hP, hf_places _ _ _ _, _, rfl, a.lp, _, _, _, rfl, rfl, SqL.of hpl, pls_at (by omega), ?_⟩
      refine ⟨_, _, rfl, rfl, _, rfl, _, _, rfl, rfl, _, rfl, ?_⟩
      refine ite2 (fun e2 => ?_) (fun e2 => ?_)
      · have e2 := of_decide_eq_true e2
        refine q H false (Kp.refl _ _) ⟨(fun z => nomatch z), fun L => ?_⟩
        have := L.dd
        omega
      · have e2 : ¬ (cf M j).pl - (cf M i).pl < 0 := fun z => e2 (decide_eq_true z)
        have hti : i < tt.length := by omega
        have htj : j < tt.length := by omega
        obtain ⟨c1, f1, z1, a1, a2, a3, a4, a5, a6⟩ := htt i _ (List.getElem?_eq_getElem hti)
        obtain ⟨c2, f2, z2, b1, b2, b3, b4, b5, b6⟩ := htt j _ (List.getElem?_eq_getElem htj)
        have ati : atI (tt.map V.ref) (i : Int) = some (V.ref tt[i]) := atI_nat (by rw [List.getElem?_map, List.getElem?_eq_getElem hti]; rfl)
        have atj : atI (tt.map V.ref) (j : Int) = some (V.ref tt[j]) := atI_nat (by rw [List.getElem?_map, List.getElem?_eq_getElem htj]; rfl)
        refine ⟨_, rfl, a.h, CH, dx, _, _, rfl, hh, T.clH, T.hT, hf_tapes _ _ _ _, _, rfl, a.lt, _, _, _, rfl, rfl, SqL.of hts, ati, _, rfl, ?_⟩
        refine ⟨tt[i], c1, f1, l, z1, rfl, a1, a2, by omega, by omega, fun q1 H1 k1 s1 => ?_⟩
        have hh1 := k1.lst hh (fun z => nomatch z)
        have hts1 := k1.lst hts (fun z => nomatch z)
        refine ⟨_, rfl, a.h, CH, dx, _, _, rfl, hh1, T.clH, T.hT, hf_tapes _ _ _ _, _, rfl, a.lt, _, _, _, rfl, rfl, SqL.of hts1, atj, _, rfl, _, rfl, _, _, rfl, rfl, ?_⟩
        refine ⟨tt[j], c2, f2, _, z2, rfl, k1.sqT b1, k1.sqT b2, by omega, by omega, fun q2 H2 k2 s2 => ?_⟩
        refine ⟨_, _, dp_tup (k2.sqT s1), dp_tup s2, shaped_tup _, shaped_tup _, ?_⟩
        rw [eqv_tup]
        refine q H2 _ (k1.trans k2) ?_
        rw [loop_iff hij go hl a3 b3, decide_eq_true_iff]
        exact ⟨fun e => ⟨e1.symm, by omega, e⟩, fun e => e.2.2⟩
    · rw [decide_eq_false e1]
      refine iteT ?_
      exact q H false (Kp.refl _ _) ⟨(fun z => nomatch z), fun L => absurd L.st.symm e1⟩
end
end Tac

namespace Tac
open PySem L2
def spLast (K : PySem.W.Frag) (CR CH : Addr) : Sp := fun vs H Q _ => ∃ (a : HA) (m : Addr) (M : Mach) (ns sy n j : Nat), vs = [.ref a.h, .int j] ∧ HAt K CR CH H a m M n ∧ MOk ns sy M ∧ (cf M j).st ≠ -1 ∧ n ≤ 300 ∧ 1 ≤ j ∧ j ≤ n ∧
  ∀ H' v, Kp [] H H' → (v = .non ∨ ∃ i : Nat, i < j ∧ Loop M i j ∧ v = .int i) → Q v H'
section
variable {P : Program} {w : World} {K : PySem.W.Frag} {mg : Str → Option Value} {base : Heap} {CR CH : Addr}
theorem scLa : FnScope ["history", "second", "least", "first"] ["history", "second"] (defScope sLast) := ⟨rfl, rfl, rfl, by decide +kernel, rfl, by decide +kernel, by decide +kernel⟩
theorem ok_last {f fR : Addr} {fd fdR : FuncData} (F : Fun K "last_repeated" "last_repeated" sLast f fd) (T : Txt K mg CR CH) (GR : FnOk P w K mg base CX0 2 fR fdR ["self", "first", "second", "least"] (spRep K CR CH)) (bR : Binds K fdR ["self", "first", "second", "least"] []) (mR : Meth K CH "repeats" fR) :
    FnOk P w K mg base CX0 3 f fd ["history", "second"] (spLast K CR CH) := by
  refine F.ok scLa (fun vs H Q E h => ?_) (fun cdv A outer s H vs Q E hr h => ?_)
  · obtain ⟨a, m, M, ns, sy, n, j, rfl, _⟩ := h
    rfl
  · obtain ⟨a, m, M, ns, sy, n, j, rfl, hA, ok, go, hn, hj1, hjn, q⟩ := h
    refine ⟨_, pss_cons (ps_set (i := 2) scLa.nd rfl (.inl rfl) (pe_ix ix_list (pe_fld (pv 0) rfl) (pv 1) (fun _ _ => rfl)))
      (pss_cons (ps_for PassesOwn.never rfl (pi_range3 rfl T.range (pa_cons (pe_op op_sub (pv 1) pe_int) (pa_cons (pe_un un_neg pe_int) (pa_cons (pe_un un_neg pe_int) pa_nil)))) (pg_name (i := 3) scLa.nd rfl (.inl rfl))
        (pss_cons (ps_set (i := 2) scLa.nd rfl (.inl rfl) (pe_callB (call_min2 rfl) rfl T.min (by decide +kernel) (pa_cons (pv 2) (pa_cons (pe_ix ix_list (pe_fld (pv 0) rfl) (pv 3) (fun _ _ => rfl)) pa_nil))))
        (pss_one (ps_if (pt_val (pe_meth (pv 0) T.clH mR GR hr bR .nil pass0 (pa_cons (pv 3) (pa_cons (pv 1) (pa_cons (pv 2) pa_nil))))) (pss_one (ps_ret (pv 3))) pss_nil))))
      (pss_one (ps_ret pe_non))), ?_⟩
    obtain ⟨⟨dx, hh⟩, hR, hs, hpl, ⟨tt, hts, htl, htt⟩, n1, n2, n3, n4⟩ := id hA
    refine ⟨_, rfl, a.h, CH, dx, _, _, rfl, hh, T.clH, T.hP, hf_places _ _ _ _, _, rfl, a.lp, _, _, _, rfl, rfl, SqL.of hpl, pls_at (by omega), ?_⟩
    refine ⟨_, rfl, _, _, rfl, rfl, _, rfl, _, rfl, _, _, _, _, rfl, RgC.neg (by omega) (by omega) (by decide) (by decide), ?_⟩
    refine for_rangeC (lo := (j : Int) - 1) (c := -1) (n := ((j : Int) - 1 - (-1)).toNat) (fun i σ H' => ∃ l v, σ = [some (.ref a.h), some (.int j), some (.int l), v] ∧ Kp [] H H' ∧ i ≤ j ∧ Least M (j - i) j l)
      ⟨_, none, rfl, Kp.refl _ _, Nat.zero_le _, Least.one M j⟩ ?_ ?_
    · rintro i σ H' hi ⟨l, v, rfl, k1, hij, hl⟩
      have hi : i < j := by omega
      have ei : (j : Int) - 1 + (i : Nat) * (-1) = ((j - 1 - i : Nat) : Int) := by omega
      rw [ei]
      have eji : j - i = j - 1 - i + 1 := by omega
      rw [eji] at hl
      generalize hb : j - 1 - i = b at hl ⊢
      have hbj : b + 1 ≤ j := by
        obtain ⟨_, k, h1, h2, _⟩ := hl
        omega
      have hl' := hl.down (by omega)
      have hA' : HAt K CR CH H' a m M n := hA.kp k1 (fun z => nomatch z) (fun _ _ z => nomatch z)
      obtain ⟨⟨dx', hh'⟩, _, _, hpl', _⟩ := id hA'
      refine ⟨_, rfl, _, rfl, a.h, CH, dx', _, _, rfl, hh', T.clH, T.hP, hf_places _ _ _ _, _, rfl, a.lp, _, _, _, rfl, rfl, SqL.of hpl', pls_at (by omega), _, _, rfl, ?_⟩
      generalize (if (cf M b).pl < l then (cf M b).pl else l) = l' at hl' ⊢
      refine ⟨_, rfl, a.h, dx', _, rfl, hh', hf_no_repeats _ _ _ _, _, rfl, _, rfl, _, rfl, a, m, M, ns, sy, n, b, j, l', rfl, hA', ok, go, hn, by omega, hjn, hl', fun H2 bb k2 hbb => ?_⟩
      refine ⟨bb, rfl, ?_⟩
      cases bb with
      | true =>
        refine iteT ?_
        refine ⟨_, rfl, ?_⟩
        exact q H2 _ (k1.trans k2) (.inr ⟨b, by omega, hbb.mp rfl, rfl⟩)
      | false =>
        refine iteF ?_
        refine ⟨l', _, rfl, k1.trans k2, by omega, ?_⟩
        have e : j - (i + 1) = b := by omega
        rw [e]
        exact hl'
    · rintro σ H' ⟨l, v, rfl, k1, hij, hl⟩
      exact q H' _ k1 (.inl rfl)
def spIsLoop (K : PySem.W.Frag) : Sp := fun vs H Q _ => ∃ (m : Addr) (M : Mach) (ns sy a b : Nat) (rt : Bool), vs = [.ref m, .int a, .int b, .bl rt] ∧ MaAt K H m M ∧ MOk ns sy M ∧ a < b ∧ b ≤ 300 ∧
  ∀ H' bb, Kp [] H H' → (bb = true ↔ Loop (sided M rt) a b) → Q (.bl bb) H'
abbrev nIL : List Str := ["machine", "first", "second", "right", "runner", "state", "place", "before", "least", "_", "distance"]
abbrev pIL : List Str := ["machine", "first", "second", "right"]
theorem scIL : FnScope nIL pIL (defScope sIsLoop) := ⟨rfl, rfl, rfl, by decide +kernel, rfl, by decide +kernel, by decide +kernel⟩
theorem kb_il {f : Addr} {fd : FuncData} (F : Fun K "is_loop" "is_loop" sIsLoop f fd) : KBn K fd pIL 3 ["right"] (fun us ws => us ++ ws) (fun vs zs => vs ++ zs) := by
  obtain ⟨oc, od, kV, doc, pm, an, cdv, ct, osl, rfl, lk, hcd⟩ := F.ex
  exact ⟨fun s us ws _ h1 h2 => match us, h1, ws, h2 with | [_, _, _], _, [_], _ => .of_eq rfl, fun r1 r2 => r1.append r2⟩
theorem ok_isloop {f fM fI fR fS fC fT fU : Addr} {fd fdM fdI fdR fdS fdC fdT fdU : FuncData} (F : Fun K "is_loop" "is_loop" sIsLoop f fd) (T : Txt K mg CR CH)
    (GM : FnOk P w K mg base CX0 1 fM fdM ["machine"] (spMir K)) (bM : Binds K fdM ["machine"] []) (gM : mg "mirrored" = some (.ref fM)) (kM : PySem.W.keepIn K (.ref fM) = true)
    (MR : Mk K CR fI) (GI : FnOk P w K mg base CX0 1 fI fdI ["self", "machine"] (spRInit CR)) (bI : Binds K fdI ["self", "machine"] [])
    (GR : FnOk P w K mg base CX0 3 fR fdR ["self", "count"] (spRun K CR)) (bR : Binds K fdR ["self", "count"] []) (mR : Meth K CR "run" fR)
    (GS : FnOk P w K mg base CX0 2 fS fdS ["self"] (spStep K CR)) (bS : Binds K fdS ["self"] []) (mS : Meth K CR "step" fS)
    (GC : FnOk P w K mg base CX0 1 fC fdC ["self"] (spCells K CR)) (bC : Binds K fdC ["self"] []) (mC : Meth K CR "cells" fC)
    (GT : FnOk P w K mg base CX0 1 fT fdT ["row", "start"] (spTail K)) (bT : Binds K fdT ["row", "start"] []) (gT : mg "tail_runner" = some (.ref fT)) (kT : PySem.W.keepIn K (.ref fT) = true)
    (GU : FnOk P w K mg base CX0 2 fU fdU ["self", "start"] (spRTail K CR)) (bU : Binds K fdU ["self", "start"] []) (mU : Meth K CR "tail" fU) :
    FnOk P w K mg base CX0 4 f fd pIL (spIsLoop K) := by
  refine F.ok scIL (fun vs H Q E h => ?_) (fun cdv A outer s H vs Q E hr h => ?_)
  · obtain ⟨m, M, ns, sy, a, b, rt, rfl, _⟩ := h
    rfl
  · obtain ⟨m, M, ns, sy, a, b, rt, rfl, ma, ok, hab, hb, q⟩ := h
    obtain ⟨ts, hst⟩ := T.stop
    have hr1 : Room 1 _ := hr.mono (by decide)
    have hr2 : Room 2 _ := hr.mono (by decide)
    refine ⟨_, C8.pss_cut (ps_if (pt_not (pt_val (pv 3))) (pss_one (ps_set (i := 0) scIL.nd rfl (.inl rfl) (pe_call GM hr1 rfl gM kM bM .nil pass0 (pa_cons (pv 0) pa_nil)))) pss_nil)
      (pss_cons (ps_set (i := 4) scIL.nd rfl (.inl rfl) (pe_make MR GI hr2 rfl T.mgR bI .nil pass0 (pa_cons (pv 0) pa_nil)))
      (pss_cons (ps_if (pt_val (pe_meth (pv 4) T.clR mR GR hr bR .nil pass0 (pa_cons (pv 1) pa_nil))) (pss_one (ps_ret pe_bl)) pss_nil)
      (pss_cons (ps_set (i := 5) scIL.nd rfl (.inl rfl) (pe_fld (pv 4) rfl))
      (pss_cons (ps_set (i := 6) scIL.nd rfl (.inl rfl) (pe_fld (pv 4) rfl))
      (pss_cons (ps_set (i := 7) scIL.nd rfl (.inl rfl) (pe_meth0 (pv 4) T.clR mC GC hr1 bC .nil pass0))
      (pss_cons (ps_set (i := 8) scIL.nd rfl (.inl rfl) (pv 6))
      (pss_cons (ps_for PassesOwn.never rfl (pi_range1 rfl T.range (pa_cons (pe_op op_sub (pv 2) (pv 1)) pa_nil)) (pg_name (i := 9) scIL.nd rfl (.inl rfl))
        (pss_cons (ps_expr (pe_meth0 (pv 4) T.clR mS GS hr2 bS .nil pass0))
        (pss_cons (ps_if (pt_cmpR op_eq (pe_fld (pv 4) rfl) (pe_glob (v := .int (-1)) rfl hst ⟨_, rfl⟩) (nomark _)) (pss_one (ps_ret pe_bl)) pss_nil)
        (pss_one (ps_set (i := 8) scIL.nd rfl (.inl rfl) (pe_callB (call_min2 rfl) rfl T.min (by decide +kernel) (pa_cons (pv 8) (pa_cons (pe_fld (pv 4) rfl) pa_nil))))))))
      (pss_cons (ps_set (i := 10) scIL.nd rfl (.inl rfl) (pe_op op_sub (pe_fld (pv 4) rfl) (pv 6)))
      (pss_cons (ps_if (PW.pt (pw_or (pt_cmpR op_ne (pe_fld (pv 4) rfl) (pv 5) (nomark _)) (pw_or1 (pt_cmpR op_lt (pv 10) pe_int (nomark _))))) (pss_one (ps_ret pe_bl)) pss_nil)
      (pss_one (ps_ret (pe_cmpR (op_eqD hr.units) (pe_call GT hr1 rfl gT kT bT .nil pass0 (pa_cons (pv 7) (pa_cons (pv 8) pa_nil)))
        (pe_meth (pv 4) T.clR mU GU hr2 bU .nil pass0 (pa_cons (pe_op op_add (pv 8) (pv 10)) pa_nil)) (nomark _))))))))))))), ?_⟩
    refine ⟨fun σ H' => ∃ m1, σ = [some (.ref m1), some (.int a), some (.int b), some (.bl rt), none, none, none, none, none, none, none] ∧ Kp [] H H' ∧ MaAt K H' m1 (sided M rt), ?_, ?_⟩
    · refine ⟨_, rfl, rt, rfl, ?_⟩
      cases rt with
      | true =>
        refine iteF ?_
        exact ⟨m, rfl, Kp.refl _ _, ma⟩
      | false =>
        refine iteT ?_
        refine ⟨_, rfl, m, M, ns, sy, rfl, ma, ok, fun m' H' k1 ma' => ?_⟩
        exact ⟨m', rfl, k1, ma'⟩
    · rintro σ H1 ⟨m1, rfl, k1, ma1⟩
      have ok1 : MOk ns sy (sided M rt) := ok.sided rt
      generalize sided M rt = M' at ma1 ok1 q
      -- runner = Runner(machine)
      refine ⟨_, rfl, fun r rx nr nrx nrr => ⟨r, m1, rx, rfl, upd_same, fun d H2 hd0 k2 ra => ⟨rfl, ?_⟩⟩⟩
      have k0 : Kp [] H1 (upd (upd H1 rx (.own r)) r (.ins CR rx [])) := .nw (.nw (.refl _ _) nrx) (by rw [upd_ne nrr.symm]; exact nr)
      have hd1 : H1 d = none := k0.dom _ hd0
      have kB2 : Kp [] H1 H2 := (k0.nil.trans k2).cut nr
      have fin : ∀ {H'}, Kp [r, d] H1 H' → Kp [] H H' := fun kk => k1.trans ((kk.cut nr).cut hd1)
      have hA2 : At K CR H2 r d m1 M' 0 := ⟨[], ra, TapeOk.nil, Nat.le_refl _, ma1.kp kB2⟩
      obtain ⟨nrd, ⟨rx2, e2⟩, _⟩ := id ra
      -- runner.run(first)
      refine ⟨_, rfl, r, rx2, _, rfl, e2, rf_no_run _ _ _ _ _, _, rfl, r, d, m1, M', ns, sy, a, rfl, hA2, ok1, by omega, fun H3 k kp3 hA3 hka hstop => ⟨_, rfl, ?_⟩⟩
      have kB3 : Kp [r, d] H1 H3 := kB2.nil.trans kp3
      by_cases hs : (cf M' k).st = -1
      · rw [decide_eq_true hs]
        refine iteT ?_
        exact q H3 false (fin kB3) ⟨(fun z => nomatch z), fun L => absurd hs (cf_going (by omega) L.go)⟩
      · rw [decide_eq_false hs]
        refine iteF ?_
        have hk : k = a := hstop.resolve_left hs
        subst hk
        obtain ⟨kvs3, ⟨_, ⟨rx3, e3⟩, _⟩, _⟩ := id hA3
        refine ⟨_, rfl, r, CR, rx3, _, _, rfl, e3, T.clR, T.rS, rf_state _ _ _ _ _, ?_⟩
        refine ⟨_, rfl, r, CR, rx3, _, _, rfl, e3, T.clR, T.rP, rf_place _ _ _ _ _, ?_⟩
        refine ⟨_, rfl, r, rx3, _, rfl, e3, rf_no_cells _ _ _ _ _, r, d, m1, M', ns, sy, k, rfl, hA3, ok1, by omega, fun t c f0 zs H4 k4 s1 s2 row lz b1 b2 => ?_⟩
        have hA4 : At K CR H4 r d m1 M' k := hA3.kp k4 (fun z => nomatch z) (fun z => nomatch z)
        have kB4 : Kp [r, d] H1 H4 := kB3.trans k4.nil
        refine ⟨_, rfl, ?_⟩
        have en : ((b : Int) - (k : Int)).toNat = b - k := by omega
        refine ⟨_, rfl, _, rfl, _, _, rfl, rfl, _, rfl, by omega, by omega, for_range (lo := 0) (n := ((b : Int) - (k : Int)).toNat) (fun i σ H' => ∃ l v, σ = [some (.ref m1), some (.int k), some (.int b), some (.bl rt), some (.ref r), some (.int (cf M' k).st), some (.int (cf M' k).pl), some (.ref t), some (.int l), v, none] ∧
          Kp [r, d] H4 H' ∧ At K CR H' r d m1 M' (k + i) ∧ (cf M' (k + i)).st ≠ -1 ∧ Least M' k (k + i) l) ⟨_, none, rfl, Kp.refl _ _, hA4, hs, Least.one M' k⟩ ?_ ?_⟩
        · rintro i σ H5 hi ⟨l, v, rfl, k5, hA5, go5, hl5⟩
          rw [en] at hi
          obtain ⟨kvs5, ⟨_, ⟨rx5, e5⟩, _⟩, _⟩ := id hA5
          -- runner.step()
          refine ⟨_, rfl, r, rx5, _, rfl, e5, rf_no_step _ _ _ _ _, r, d, m1, M', ns, sy, k + i, rfl, hA5, ok1, go5, by omega, fun H6 k6 hA6 => ?_⟩
          obtain ⟨kvs6, ⟨_, ⟨rx6, e6⟩, _⟩, _⟩ := id hA6
          refine ⟨_, rfl, r, CR, rx6, _, _, rfl, e6, T.clR, T.rS, rf_state _ _ _ _ _, rfl, _, rfl, ?_⟩
          rw [decV]
          by_cases hs6 : (cf M' (k + i + 1)).st = -1
          · rw [decide_eq_true hs6]
            refine iteT ?_
            exact q H6 false (fin ((kB4.trans k5).trans k6)) ⟨(fun z => nomatch z), fun L => absurd hs6 (cf_going (by omega) L.go)⟩
          · rw [decide_eq_false hs6]
            refine iteF ?_
            refine ⟨_, rfl, _, rfl, r, CR, rx6, _, _, rfl, e6, T.clR, T.rP, rf_place _ _ _ _ _, _, _, rfl, ?_⟩
            exact ⟨_, _, rfl, k5.trans k6, hA6, hs6, hl5.up (by omega)⟩
        · rintro σ H5 ⟨l, v, rfl, k5, hA5, go5, hl5⟩
          rw [en] at hA5 go5 hl5
          have ekb : k + (b - k) = b := by omega
          rw [ekb] at hA5 go5 hl5
          obtain ⟨kvs5, ⟨_, ⟨rx5, e5⟩, _⟩, _⟩ := id hA5
          have kB5 : Kp [r, d] H1 H5 := kB4.trans k5
          have ck := cf_ok ok1 k
          have cb := cf_ok ok1 b
          obtain ⟨_, j, j1, j2, ej⟩ := id hl5
          have cj := cf_ok ok1 j
          have hk0 := ck.p0; have hk1 := ck.p1; have hb0 := cb.p0; have hb1 := cb.p1; have hj0 := cj.p0; have hj1 := cj.p1
          -- distance = runner.place - place
          refine ⟨_, rfl, r, CR, rx5, _, _, rfl, e5, T.clR, T.rP, rf_place _ _ _ _ _, _, rfl, _, _, rfl, rfl, ?_⟩
          refine ⟨_, rfl, r, CR, rx5, _, _, rfl, e5, T.clR, T.rS, rf_state _ _ _ _ _, _, rfl, rfl, _, rfl, ?_⟩
          rw [decV]
          by_cases es : (cf M' b).st = (cf M' k).st
          · rw [decide_eq_true es]
            refine iteF ?_
            refine ⟨_, rfl, _, _, rfl, rfl, _, rfl, ?_⟩
            refine ite2 (fun hd => ?_) (fun hd => ?_)
            · have hd := of_decide_eq_true hd
              refine q H5 false (fin kB5) ⟨(fun z => nomatch z), fun L => ?_⟩
              have := L.dd
              omega
            · have hd : ¬ (cf M' b).pl - (cf M' k).pl < 0 := fun z => hd (decide_eq_true z)
              refine ⟨_, rfl, _, rfl, t, c, f0, l, zs, rfl, k5.sqT s1, k5.sqT s2, by omega, by omega, fun q1 H6 k6 s3 => ?_⟩
              have hA6 : At K CR H6 r d m1 M' b := hA5.kp k6 (fun z => nomatch z) (fun z => nomatch z)
              obtain ⟨kvs6, ⟨_, ⟨rx6, e6⟩, _⟩, _⟩ := id hA6
              refine ⟨_, rfl, r, rx6, _, rfl, e6, rf_no_tail _ _ _ _ _, _, rfl, _, rfl, _, _, rfl, rfl, r, d, m1, M', ns, sy, b, _, rfl, hA6, ok1, by omega, by omega, fun q2 f2 z2 H7 k7 row2 s4 => ?_⟩
              refine ⟨_, _, dp_tup (k7.sqT s3), dp_tup s4, shaped_tup _, shaped_tup _, ?_⟩
              rw [eqv_tup]
              refine q H7 _ (fin ((kB5.trans k6.nil).trans k7.nil)) ?_
              rw [loop_iff hab go5 hl5 row row2, decide_eq_true_iff]
              exact ⟨fun e => ⟨es, by omega, e⟩, fun e => e.2.2⟩
          · rw [decide_eq_false es]
            refine iteT (iteT ?_)
            exact q H5 false (fin kB5) ⟨(fun z => nomatch z), fun L => absurd L.st es⟩
end
end Tac

namespace Tac
open PySem L2
theorem Kp.cuts {A : List Addr} {H H' : Hp} (k : Kp A H H') (n : ∀ b ∈ A, H b = none) : Kp [] H H' :=
  ⟨fun b o e _ => k.all b o e (fun z => by
    rw [n b z] at e
    cases e), k.tup, k.frz, k.dom⟩
theorem HAt.there {K : PySem.W.Frag} {CR CH : Addr} {H : Hp} {a : HA} {m : Addr} {M : Mach} {n : Nat} (h : HAt K CR CH H a m M n) : ∀ b ∈ a.h :: a.ft, ∃ o, H b = some o := by
  obtain ⟨⟨dx, e1⟩, ⟨_, ⟨_, ⟨_, e2⟩, e3⟩, _⟩, e4, e5, ⟨_, e6, _⟩, _⟩ := h
  intro b hb
  simp only [HA.ft, List.mem_cons, List.not_mem_nil, or_false] at hb
  rcases hb with rfl | rfl | rfl | rfl | rfl | rfl
  · exact ⟨_, e1⟩
  · exact ⟨_, e2⟩
  · exact ⟨_, e3⟩
  · exact ⟨_, e4⟩
  · exact ⟨_, e5⟩
  · exact ⟨_, e6⟩
/-- a found loop -/
def FOk (K : PySem.W.Frag) (M : Mach) (c : Nat) (H : Hp) (v : V) : Prop :=
  v = .non ∨ ∃ (t : Addr) (a b : Nat) (rt : Bool), v = .ref t ∧ SqT K H t [.int a, .int b, .bl rt] ∧ a < b ∧ b ≤ c ∧ Loop (sided M rt) a b
theorem FOk.kp {K : PySem.W.Frag} {M : Mach} {c : Nat} {H H' : Hp} {A : List Addr} {v : V} (k : Kp A H H') (h : FOk K M c H v) : FOk K M c H' v := by
  rcases h with h | ⟨t, a, b, rt, h1, h2, h3⟩
  · exact .inl h
  · exact .inr ⟨t, a, b, rt, h1, k.sqT h2, h3⟩
def spFind (K : PySem.W.Frag) : Sp := fun vs H Q _ => ∃ (m : Addr) (M : Mach) (ns sy c : Nat), vs = [.ref m, .int c] ∧ MaAt K H m M ∧ MOk ns sy M ∧ c ≤ 290 ∧
  ∀ H' v, Kp [] H H' → FOk K M c H' v → Q v H'
section
variable {P : Program} {w : World} {K : PySem.W.Frag} {mg : Str → Option Value} {base : Heap} {CR CH : Addr}
theorem scFi : FnScope ["machine", "count", "sides", "second", "found", "history", "right", "first"] ["machine", "count"] (defScope sFind) := ⟨rfl, rfl, rfl, by decide +kernel, rfl, by decide +kernel, by decide +kernel⟩
theorem ok_find {f fM fI fG fL : Addr} {fd fdM fdI fdG fdL : FuncData} (F : Fun K "find_loop" "find_loop" sFind f fd) (T : Txt K mg CR CH)
    (GM : FnOk P w K mg base CX0 1 fM fdM ["machine"] (spMir K)) (bM : Binds K fdM ["machine"] []) (gM : mg "mirrored" = some (.ref fM)) (kM : PySem.W.keepIn K (.ref fM) = true)
    (MH : Mk K CH fI) (GI : FnOk P w K mg base CX0 3 fI fdI ["self", "machine"] (spHInit K CR CH)) (bI : Binds K fdI ["self", "machine"] [])
    (GG : FnOk P w K mg base CX0 3 fG fdG ["self"] (spGrow K CR CH)) (bG : Binds K fdG ["self"] []) (mG : Meth K CH "grow" fG)
    (GL : FnOk P w K mg base CX0 3 fL fdL ["history", "second"] (spLast K CR CH)) (bL : Binds K fdL ["history", "second"] []) (gL : mg "last_repeated" = some (.ref fL)) (kL : PySem.W.keepIn K (.ref fL) = true) :
    FnOk P w K mg base CX0 5 f fd ["machine", "count"] (spFind K) := by
  refine F.ok scFi (fun vs H Q E h => ?_) (fun cdv A outer s H vs Q E hr h => ?_)
  · obtain ⟨m, M, ns, sy, c, rfl, _⟩ := h
    rfl
  · obtain ⟨m, M, ns, sy, c, rfl, ma, ok, hc, q⟩ := h
    have hr1 : Room 1 _ := hr.mono (by decide)
    have hr3 : Room 3 _ := hr.mono (by decide)
    refine ⟨_, pss_cons (ps_set (i := 2) scFi.nd rfl (.inl rfl) (pe_lst (pa_cons (pe_tup (pa_cons (pe_make MH GI hr rfl T.mgH bI .nil pass0 (pa_cons (pv 0) pa_nil)) (pa_cons pe_bl pa_nil)))
        (pa_cons (pe_tup (pa_cons (pe_make MH GI hr rfl T.mgH bI .nil pass0 (pa_cons (pe_call GM hr1 rfl gM kM bM .nil pass0 (pa_cons (pv 0) pa_nil)) pa_nil)) (pa_cons pe_bl pa_nil))) pa_nil))))
      (pss_cons (ps_for PassesOwn.never rfl (pi_range2 rfl T.range (pa_cons pe_int (pa_cons (pe_op op_add (pv 1) pe_int) pa_nil))) (pg_name (i := 3) scFi.nd rfl (.inl rfl))
        (pss_cons (ps_set (i := 4) scFi.nd rfl (.inl rfl) pe_non)
        (pss_cons (ps_for PassesOwn.never rfl (pi_list (pv 2)) (pg_tup rfl (pgs_cons (pg_name (i := 5) scFi.nd rfl (.inl rfl)) (pgs_cons (pg_name (i := 6) scFi.nd rfl (.inl rfl)) pgs_nil)))
          (pss_cons (ps_if (pt_not (pt_val (pe_meth0 (pv 5) T.clH mG GG hr3 bG .nil pass0))) (pss_one (ps_ret pe_non)) pss_nil)
          (pss_cons (ps_set (i := 7) scFi.nd rfl (.inl rfl) (pe_call GL hr3 rfl gL kL bL .nil pass0 (pa_cons (pv 5) (pa_cons (pv 3) pa_nil))))
          (pss_one (ps_if (PW.pt (pw_and (pt_cmpR op_notN (pv 7) pe_non (nomark _)) (pw_and1 (PW.pt (pw_or (pt_cmpR op_isN (pv 4) pe_non (nomark _)) (pw_or1 (pt_cmpR op_gt (pv 7) (pe_ix ix_tup (pv 4) pe_int (fun _ _ => rfl)) (nomark _))))))))
            (pss_one (ps_set (i := 4) scFi.nd rfl (.inl rfl) (pe_tup (pa_cons (pv 7) (pa_cons (pv 3) (pa_cons (pv 6) pa_nil)))))) pss_nil)))))
        (pss_one (ps_if (pt_cmpR op_notN (pv 4) pe_non (nomark _)) (pss_one (ps_ret (pv 4))) pss_nil)))))
      (pss_one (ps_ret pe_non))), ?_⟩
    -- the first history
    refine ⟨_, rfl, fun h1 x1 nh1 nx1 nn1 => ⟨h1, m, x1, M, rfl, upd_same, ?_, fun a1 H1 ea1 fr1 k1 hA1 => ⟨rfl, ?_⟩⟩⟩
    · exact ma.kp (.nw (.nw (.refl [] _) nx1) (by rw [upd_ne nn1.symm]; exact nh1))
    have k0 : Kp [] H (upd (upd H x1 (.own h1)) h1 (.ins CH x1 [])) := .nw (.nw (.refl _ _) nx1) (by rw [upd_ne nn1.symm]; exact nh1)
    have kk1 : Kp [] H H1 := (k0.nil.trans k1).cut nh1
    have fr1H : ∀ b ∈ a1.h :: a1.ft, H b = none := fun b hb => by
      rcases List.mem_cons.mp hb with e | e
      · rw [e, ea1]
        exact nh1
      · exact k0.dom _ (fr1 b e)
    refine ⟨(by show 2 ≤ sizeLine; decide), fun t1 ht1 => ?_⟩
    have k2 : Kp [] H1 (upd H1 t1 (.tup [.ref h1, .bl true])) := .nw (.refl _ _) ht1
    have ht1' : (upd H1 t1 (.tup [.ref h1, .bl true])) t1 = some (.tup [.ref h1, .bl true]) := upd_same
    have hA1' := hA1.kp k2 (fun z => nomatch z) (fun _ _ z => nomatch z)
    generalize upd H1 t1 (.tup [.ref h1, .bl true]) = H2 at k2 ht1' hA1' ⊢
    have kk2 : Kp [] H H2 := kk1.trans k2
    -- the second
    refine ⟨_, rfl, m, M, ns, sy, rfl, ma.kp kk2, ok, fun m' H3 k3 ma' => ?_⟩
    have hA1'' := hA1'.kp k3 (fun z => nomatch z) (fun _ _ z => nomatch z)
    have kk3 : Kp [] H H3 := kk2.trans k3
    refine fun h2 x2 nh2 nx2 nn2 => ⟨h2, m', x2, mir M, rfl, upd_same, ?_, fun a2 H4 ea2 fr2 k4 hA2 => ⟨rfl, ?_⟩⟩
    · exact ma'.kp (.nw (.nw (.refl [] _) nx2) (by rw [upd_ne nn2.symm]; exact nh2))
    have k30 : Kp [] H3 (upd (upd H3 x2 (.own h2)) h2 (.ins CH x2 [])) := .nw (.nw (.refl _ _) nx2) (by rw [upd_ne nn2.symm]; exact nh2)
    have k34 : Kp [] H3 H4 := (k30.nil.trans k4).cut nh2
    have fr2H : ∀ b ∈ a2.h :: a2.ft, H3 b = none := fun b hb => by
      rcases List.mem_cons.mp hb with e | e
      · rw [e, ea2]
        exact nh2
      · exact k30.dom _ (fr2 b e)
    have some1 := hA1''.there
    have dj : ∀ b ∈ a1.h :: a1.ft, ∀ e ∈ a2.h :: a2.ft, b ≠ e := fun b hb e he z => by
      obtain ⟨o, ho⟩ := some1 b hb
      rw [z, fr2H e he] at ho
      cases ho
    have some2 := hA2.there
    have hA14 := hA1''.kp k34 (fun z => nomatch z) (fun _ _ z => nomatch z)
    have kk4 : Kp [] H H4 := kk3.trans k34
    refine ⟨(by show 2 ≤ sizeLine; decide), fun t2 ht2 => ⟨(by show 2 ≤ sizeLine; decide), fun L hL => ?_⟩⟩
    have t1e : H4 t1 = some (.tup [.ref h1, .bl true]) := k34.lst (k3.lst ht1' (fun z => nomatch z)) (fun z => nomatch z)
    have k45 : Kp [] H4 (upd (upd H4 t2 (.tup [.ref h2, .bl false])) L (.lst [.ref t1, .ref t2])) := .nw (.nw (.refl _ _) ht2) hL
    have n2L : t2 ≠ L := ne_of_none upd_same hL
    have t2e : (upd (upd H4 t2 (.tup [.ref h2, .bl false])) L (.lst [.ref t1, .ref t2])) t2 = some (.tup [.ref h2, .bl false]) := by rw [upd_ne n2L, upd_same]
    have t1e5 := k45.lst t1e (fun z => nomatch z)
    have hL5 : (upd (upd H4 t2 (.tup [.ref h2, .bl false])) L (.lst [.ref t1, .ref t2])) L = some (.lst [.ref t1, .ref t2]) := upd_same
    have hL4 : H4 L = none := (Kp.nw (.refl [] _) ht2).dom _ hL
    have hA1 := hA14.kp k45 (fun z => nomatch z) (fun _ _ z => nomatch z)
    have hA2 := hA2.kp k45 (fun z => nomatch z) (fun _ _ z => nomatch z)
    have nL : ∀ b ∈ (a1.h :: a1.ft) ++ (a2.h :: a2.ft), b ≠ L := fun b hb z => by
      rcases List.mem_append.mp hb with e | e
      · obtain ⟨o, ho⟩ := some1 b e
        have := k34.lst ho (fun z => nomatch z)
        rw [z, hL4] at this
        cases this
      · obtain ⟨o, ho⟩ := some2 b e
        rw [z, hL4] at ho
        cases ho
    have kk5 : Kp [] H (upd (upd H4 t2 (.tup [.ref h2, .bl false])) L (.lst [.ref t1, .ref t2])) := kk4.trans k45
    generalize upd (upd H4 t2 (.tup [.ref h2, .bl false])) L (.lst [.ref t1, .ref t2]) = H5 at kk5 k45 t2e t1e5 hL5 hA1 hA2 ⊢
    have ok2 : MOk ns sy (mir M) := ok.mir
    have frA : ∀ b ∈ a1.ft ++ a2.ft, H b = none := fun b hb => by
      rcases List.mem_append.mp hb with e | e
      · exact fr1H b (List.mem_cons_of_mem _ e)
      · exact kk3.dom _ (fr2H b (List.mem_cons_of_mem _ e))
    have fin : ∀ {H'}, Kp (a1.ft ++ a2.ft) H5 H' → Kp [] H H' := fun kk => (kk5.nil.trans kk).cuts frA
    have LA : L ∉ a1.ft ++ a2.ft := fun z => by
      rcases List.mem_append.mp z with e | e
      · exact nL L (List.mem_append_left _ (List.mem_cons_of_mem _ e)) rfl
      · exact nL L (List.mem_append_right _ (List.mem_cons_of_mem _ e)) rfl
    have d12 : ∀ {H' H'' : Hp} {k : Nat}, Kp a1.ft H' H'' → HAt K CR CH H' a2 m' (mir M) k → HAt K CR CH H'' a2 m' (mir M) k := fun kk hh =>
      hh.kp kk (fun z => dj _ (List.mem_cons_of_mem _ z) _ List.mem_cons_self rfl) (fun b hb z => dj b (List.mem_cons_of_mem _ z) b (List.mem_cons_of_mem _ hb) rfl)
    have d21 : ∀ {H' H'' : Hp} {k : Nat}, Kp a2.ft H' H'' → HAt K CR CH H' a1 m M k → HAt K CR CH H'' a1 m M k := fun kk hh =>
      hh.kp kk (fun z => dj _ List.mem_cons_self _ (List.mem_cons_of_mem _ z) rfl) (fun b hb z => dj b (List.mem_cons_of_mem _ hb) b (List.mem_cons_of_mem _ z) rfl)
    have ec : ((c : Int) + 1 - 1).toNat = c := by omega
    -- for second in range(1, count + 1)
    refine ⟨_, rfl, _, _, rfl, rfl, _, _, rfl, ⟨by omega, by omega, by omega, by omega⟩, for_range (lo := 1) (n := ((c : Int) + 1 - 1).toNat) (fun i σ H' => ∃ v3 v4 v5 v6 v7, σ = [some (.ref m), some (.int c), some (.ref L), v3, v4, v5, v6, v7] ∧ Kp (a1.ft ++ a2.ft) H5 H' ∧
      HAt K CR CH H' a1 m M i ∧ HAt K CR CH H' a2 m' (mir M) i ∧ (cf M i).st ≠ -1) ⟨none, none, none, none, none, rfl, Kp.refl _ _, hA1, hA2, by show (0 : Int) ≠ -1; decide⟩ ?_ ?_⟩
    · rintro i σ H' hi ⟨v3, v4, v5, v6, v7, rfl, kA, hB1, hB2, go⟩
      rw [ec] at hi
      have e1i : (1 : Int) + (i : Nat) = ((i + 1 : Nat) : Int) := by omega
      rw [e1i]
      refine ⟨_, rfl, L, rfl, ⟨_, SqL.of (kA.lst hL5 LA)⟩, for_list (K := K) (a := L) (xs := [.ref t1, .ref t2]) (fun j σ H' => ∃ fv v5 v6 v7, σ = [some (.ref m), some (.int c), some (.ref L), some (.int ((i + 1 : Nat) : Int)), some fv, v5, v6, v7] ∧ Kp (a1.ft ++ a2.ft) H5 H' ∧ FOk K M c H' fv ∧
        HAt K CR CH H' a1 m M (if 1 ≤ j then i + 1 else i) ∧ HAt K CR CH H' a2 m' (mir M) (if 2 ≤ j then i + 1 else i) ∧ (1 ≤ j → (cf M (i + 1)).st ≠ -1)) ⟨.non, v5, v6, v7, rfl, kA, .inl rfl, hB1, hB2, fun z => absurd z (by decide)⟩
        (fun j σ H' _ ⟨_, _, _, _, _, kA, _⟩ => SqL.of (kA.lst hL5 LA)) ?_ ?_⟩
      · rintro j x σ H' hx ⟨fv, v5, v6, v7, rfl, kA, hf, hC1, hC2, hgo⟩
        have step : ∃ (tt : Addr) (a' : HA) (mm : Addr) (rt : Bool), x = .ref tt ∧ SqT K H' tt [.ref a'.h, .bl rt] ∧ HAt K CR CH H' a' mm (sided M rt) i ∧ (∀ b ∈ a'.ft, b ∈ a1.ft ++ a2.ft) ∧
            ∀ H3, Kp a'.ft H' H3 → HAt K CR CH H3 a' mm (sided M rt) (i + 1) → HAt K CR CH H3 a1 m M (if 1 ≤ j + 1 then i + 1 else i) ∧ HAt K CR CH H3 a2 m' (mir M) (if 2 ≤ j + 1 then i + 1 else i) := by
          match j, hx with
          | 0, hx =>
            have e : V.ref t1 = x := Option.some.inj hx
            refine ⟨t1, a1, m, true, e.symm, .inl (.inl ?_), hC1, fun b hb => List.mem_append_left _ hb, fun H3 k3 h3 => ⟨h3, d12 k3 hC2⟩⟩
            rw [ea1]
            exact kA.tup _ _ t1e5
          | 1, hx =>
            have e : V.ref t2 = x := Option.some.inj hx
            refine ⟨t2, a2, m', false, e.symm, .inl (.inl ?_), hC2, fun b hb => List.mem_append_right _ hb, fun H3 k3 h3 => ⟨d21 k3 hC1, h3⟩⟩
            rw [ea2]
            exact kA.tup _ _ t2e
          | j + 2, hx => simp at hx
        obtain ⟨tt, a', mm, rt, rfl, sq, hA', sub, nxt⟩ := step
        have oks : MOk ns sy (sided M rt) := ok.sided rt
        have gos : (cf (sided M rt) i).st ≠ -1 := by rw [sided_st]; exact go
        obtain ⟨⟨dxa, hh'⟩, _⟩ := id hA'
        refine ⟨tt, _, rfl, sq, rfl, _, _, rfl, _, _, rfl, rfl, ?_⟩
        -- if not history.grow(): return None
        refine ⟨_, rfl, a'.h, dxa, _, rfl, hh', hf_no_grow _ _ _ _, a', mm, sided M rt, ns, sy, i, rfl, hA', oks, gos, by omega, fun H3 k3 hA3 => ⟨_, rfl, ?_⟩⟩
        have kA3 : Kp (a1.ft ++ a2.ft) H5 H3 := kA.trans (k3.mono sub)
        by_cases hs : (cf (sided M rt) (i + 1)).st = -1
        · rw [decide_eq_true hs]
          refine iteT ?_
          exact q H3 _ (fin kA3) (.inl rfl)
        · rw [decide_eq_false hs]
          refine iteF ?_
          have hs' : (cf M (i + 1)).st ≠ -1 := by rw [← sided_st M rt]; exact hs
          -- first = last_repeated(history, second)
          refine ⟨_, rfl, _, rfl, a', mm, sided M rt, ns, sy, i + 1, i + 1, rfl, hA3, oks, hs, by omega, by omega, Nat.le_refl _, fun H4 v k4 hv => ?_⟩
          have kA4 : Kp (a1.ft ++ a2.ft) H5 H4 := kA3.trans k4.nil
          obtain ⟨nx1, nx2⟩ := nxt H3 k3 hA3
          have nx1 := nx1.kp k4 (fun z => nomatch z) (fun _ _ z => nomatch z)
          have nx2 := nx2.kp k4 (fun z => nomatch z) (fun _ _ z => nomatch z)
          have hf4 : FOk K M c H4 fv := (hf.kp (k3.mono (B := a1.ft ++ a2.ft) sub)).kp k4
          refine ⟨_, rfl, rfl, _, rfl, ?_⟩
          rcases hv with rfl | ⟨b, hb, lp, rfl⟩
          · refine iteF ?_
            exact ⟨fv, _, _, _, rfl, kA4, hf4, nx1, nx2, fun _ => hs'⟩
          · refine iteT ?_
            have put : ∀ t, H4 t = none → FOk K M c (upd H4 t (.tup [.int b, .int ((i + 1 : Nat) : Int), .bl rt])) (.ref t) ∧ Kp (a1.ft ++ a2.ft) H5 (upd H4 t (.tup [.int b, .int ((i + 1 : Nat) : Int), .bl rt])) ∧
                HAt K CR CH (upd H4 t (.tup [.int b, .int ((i + 1 : Nat) : Int), .bl rt])) a1 m M (if 1 ≤ j + 1 then i + 1 else i) ∧ HAt K CR CH (upd H4 t (.tup [.int b, .int ((i + 1 : Nat) : Int), .bl rt])) a2 m' (mir M) (if 2 ≤ j + 1 then i + 1 else i) := fun t ht =>
              ⟨.inr ⟨t, b, i + 1, rt, rfl, .inl (.inl upd_same), hb, by omega, lp⟩, .nw kA4 ht, nx1.kp (Kp.new [] ht) (fun z => nomatch z) (fun _ _ z => nomatch z), nx2.kp (Kp.new [] ht) (fun z => nomatch z) (fun _ _ z => nomatch z)⟩
            have yes : ∀ t, H4 t = none → ∃ fv v5 v6 v7, [some (.ref m), some (.int c), some (.ref L), some (.int ((i + 1 : Nat) : Int)), some (V.ref t), some (V.ref a'.h), some (V.bl rt), some (V.int (b : Int))] = [some (.ref m), some (.int c), some (.ref L), some (.int ((i + 1 : Nat) : Int)), some fv, v5, v6, v7] ∧ Kp (a1.ft ++ a2.ft) H5 (upd H4 t (.tup [.int b, .int ((i + 1 : Nat) : Int), .bl rt])) ∧ FOk K M c (upd H4 t (.tup [.int b, .int ((i + 1 : Nat) : Int), .bl rt])) fv ∧
                HAt K CR CH (upd H4 t (.tup [.int b, .int ((i + 1 : Nat) : Int), .bl rt])) a1 m M (if 1 ≤ j + 1 then i + 1 else i) ∧ HAt K CR CH (upd H4 t (.tup [.int b, .int ((i + 1 : Nat) : Int), .bl rt])) a2 m' (mir M) (if 2 ≤ j + 1 then i + 1 else i) ∧ (1 ≤ j + 1 → (cf M (i + 1)).st ≠ -1) := fun t ht =>
              let ⟨p1, p2, p3, p4⟩ := put t ht
              ⟨_, _, _, _, rfl, p2, p1, p3, p4, fun _ => hs'⟩
            refine ⟨_, rfl, rfl, _, rfl, ?_⟩
            rcases hf4 with rfl | ⟨t, a0, b0, rt0, rfl, h2, h3, h4, h5⟩
            · refine iteT (iteT ?_)
              exact ⟨_, rfl, _, rfl, _, rfl, (by show 3 ≤ sizeLine; decide), fun t ht => yes t ht⟩
            · refine iteF ?_
              refine ⟨_, rfl, _, rfl, t, _, _, _, rfl, rfl, h2, rfl, _, _, rfl, rfl, _, rfl, ?_⟩
              refine ite2 (fun _ => ?_) (fun _ => ?_)
              · exact ⟨_, rfl, _, rfl, _, rfl, (by show 3 ≤ sizeLine; decide), fun t ht => yes t ht⟩
              · exact ⟨_, _, _, _, rfl, kA4, .inr ⟨t, a0, b0, rt0, rfl, h2, h3, h4, h5⟩, nx1, nx2, fun _ => hs'⟩
      · rintro σ H' ⟨fv, v5, v6, v7, rfl, kA, hf, hC1, hC2, hgo⟩
        refine ⟨_, rfl, rfl, _, rfl, ?_⟩
        rcases hf with rfl | ⟨t, a0, b0, rt0, rfl, h2, h3, h4, h5⟩
        · refine iteF ?_
          exact ⟨_, _, _, _, _, rfl, kA, hC1, hC2, hgo (by show 1 ≤ 2; decide)⟩
        · refine iteT ?_
          exact ⟨_, rfl, q H' _ (fin kA) (.inr ⟨t, a0, b0, rt0, rfl, h2, h3, h4, h5⟩)⟩
    · rintro σ H' ⟨v3, v4, v5, v6, v7, rfl, kA, _⟩
      exact q H' _ (fin kA) (.inl rfl)
end
end Tac

namespace Tac
open PySem L2
/-- the stream of numbers at s, its script's copy at l -/
def SAt (H : Hp) (s l : Addr) : Prop := s ≠ l ∧ ∃ (ns : List Int) (a b c : Int), H s = some (.lst [.ref l, .int a, .int b, .int c]) ∧ H l = some (.lst (ns.map V.int)) ∧ 0 ≤ a ∧ 0 ≤ b ∧ 0 ≤ c ∧ c < 2147483647
theorem SAt.kp {H H' : Hp} {A : List Addr} {s l : Addr} (h : SAt H s l) (k : Kp A H H') (hs : s ∉ A) (hl : l ∉ A) : SAt H' s l := by
  obtain ⟨n, ns, a, b, c, h1, h2, h3⟩ := h
  exact ⟨n, ns, a, b, c, k.lst h1 hs, k.lst h2 hl, h3⟩
def spStream (K : PySem.W.Frag) : Sp := fun vs H Q _ => ∃ (sc : Addr) (ns : List Int), vs = [.ref sc] ∧ SqL K H sc (ns.map V.int) ∧
  ∀ s l H', H s = none → H l = none → Kp [] H H' → SAt H' s l → Q (.ref s) H'
def spDraw : Sp := fun vs H Q _ => ∃ (s l : Addr) (k : Int), vs = [.ref s, .int k] ∧ SAt H s l ∧ 0 < k ∧ k < 1000000 ∧
  ∀ r H', 0 ≤ r → r < k → Kp [s] H H' → SAt H' s l → Q (.int r) H'
section
variable {P : Program} {w : World} {K : PySem.W.Frag} {mg : Str → Option Value} {base : Heap} {CR CH : Addr}
theorem scSm : FnScope ["_law_script", "_law_mixed", "_law_cell"] ["_law_script"] (defScope sStream) := ⟨rfl, rfl, rfl, by decide +kernel, rfl, by decide +kernel, by decide +kernel⟩
theorem ok_stream {f : Addr} {fd : FuncData} (F : Fun K "_law_stream" "_law_stream" sStream f fd) (T : Txt K mg CR CH) : FnOk P w K mg base CX0 1 f fd ["_law_script"] (spStream K) := by
  refine F.ok scSm (fun vs H Q E h => ?_) (fun cdv A outer s H vs Q E hr h => ?_)
  · obtain ⟨sc, ns, rfl, _⟩ := h
    rfl
  · obtain ⟨sc, ns, rfl, hS, q⟩ := h
    refine ⟨_, pss_cons (ps_set (i := 1) scSm.nd rfl (.inl rfl) pe_int)
      (pss_cons (ps_for PassesOwn.never rfl (pi_list (pv 0)) (pg_name (i := 2) scSm.nd rfl (.inl rfl))
        (pss_one (ps_set (i := 1) scSm.nd rfl (.inl rfl) (pe_op op_mod (pe_callTy call_int1 rfl T.int (by decide +kernel) (pa_cons (pe_op op_add (pe_op op_add (pe_op op_mul (pv 1) pe_int) (pe_op op_mod (pe_callTy call_int1 rfl T.int (by decide +kernel) (pa_cons (pv 2) pa_nil)) pe_int)) pe_int) pa_nil)) pe_int))))
      (pss_one (ps_ret (pe_lst (pa_cons (pe_callTy call_list_of rfl T.list (by decide +kernel) (pa_cons (pv 0) pa_nil)) (pa_cons pe_int (pa_cons pe_int (pa_cons (pv 1) pa_nil)))))))), ?_⟩
    refine ⟨_, rfl, sc, rfl, ⟨_, hS⟩, for_list (K := K) (a := sc) (xs := ns.map V.int) (fun i σ H' => H' = H ∧ ∃ c v, σ = [some (.ref sc), some (.int c), v] ∧ 0 ≤ c ∧ c < 2147483647) ⟨rfl, 17, none, rfl, by decide, by decide⟩ (fun i σ H' _ ⟨e, _⟩ => by rw [e]; exact hS) ?_ ?_⟩
    · rintro i x σ H' hx ⟨rfl, c, v, rfl, c0, c1⟩
      obtain ⟨u, rfl⟩ : ∃ u, x = V.int u := by
        rw [List.getElem?_map] at hx
        cases e : ns[i]? with
        | none =>
          rw [e] at hx
          cases hx
        | some u =>
          rw [e] at hx
          exact ⟨u, (Option.some.inj hx).symm⟩
      refine ⟨_, rfl, _, _, rfl, rfl, .inr ⟨by decide, by decide⟩, ?_⟩
      refine ⟨_, rfl, .inl ⟨_, rfl, _, _, rfl, rfl, (by show (0 : Int) < 65521; decide), _, _, rfl, rfl, _, _, rfl, rfl, .inl ⟨_, rfl, _, _, rfl, rfl, (by show (0 : Int) < 2147483647; decide), ?_⟩⟩⟩
      exact ⟨rfl, _, _, rfl, Int.emod_nonneg _ (by decide), Int.emod_lt_of_pos _ (by decide)⟩
    · rintro σ H' ⟨rfl, c, v, rfl, c0, c1⟩
      refine ⟨_, rfl, sc, _, rfl, .inl hS, fun l hl => ⟨_, rfl, (by show 4 ≤ sizeLine; decide), fun s hs => ?_⟩⟩
      have nls : l ≠ s := ne_of_none upd_same hs
      refine q s l _ ((Kp.nw (.refl [] _) hl).dom _ hs) hl (.nw (.nw (.refl _ _) hl) hs) ⟨nls.symm, ns, 0, 0, c, upd_same, by rw [upd_ne nls, upd_same], Int.le_refl _, Int.le_refl _, c0, c1⟩
theorem scDr : FnScope ["_law_stream_here", "_law_many", "_law_value"] ["_law_stream_here", "_law_many"] (defScope sDraw) := ⟨rfl, rfl, rfl, by decide +kernel, rfl, by decide +kernel, by decide +kernel⟩
theorem ok_draw {f : Addr} {fd : FuncData} (F : Fun K "_law_draw" "_law_draw" sDraw f fd) (T : Txt K mg CR CH) : FnOk P w K mg base CX0 1 f fd ["_law_stream_here", "_law_many"] spDraw := by
  refine F.ok scDr (fun vs H Q E h => ?_) (fun cdv A outer s H vs Q E hr h => ?_)
  · obtain ⟨s, l, k, rfl, _⟩ := h
    rfl
  · obtain ⟨s, l, k, rfl, hS, k0, k1, q⟩ := h
    refine ⟨_, C8.pss_cut (ps_if (PW.pt (pw_and (pt_cmpR op_eq (pe_ix ix_list (pv 0) pe_int (fun _ _ => rfl)) pe_int (nomark _)) (pw_and1 (pt_cmpR op_lt (pe_ix ix_list (pv 0) pe_int (fun _ _ => rfl)) (pe_callB call_len_seq rfl T.len PySem.boot_len (pa_cons (pe_ix ix_list (pv 0) pe_int (fun _ _ => rfl)) pa_nil)) (nomark _)))))
        (pss_cons (ps_asg (pe_callB call_abs rfl T.abs (by decide +kernel) (pa_cons (pe_callTy call_int1 rfl T.int (by decide +kernel) (pa_cons (pe_ix ix_list (pe_ix ix_list (pv 0) pe_int (fun _ _ => rfl)) (pe_ix ix_list (pv 0) pe_int (fun _ _ => rfl)) (fun _ _ => rfl)) pa_nil)) pa_nil)) (pg_sub (pv 0) pe_int set_list))
        (pss_one (ps_asg (pe_op op_add (pe_ix ix_list (pv 0) pe_int (fun _ _ => rfl)) pe_int) (pg_sub (pv 0) pe_int set_list)))) pss_nil)
      (pss_cons (ps_if (pt_cmpR op_eq (pe_ix ix_list (pv 0) pe_int (fun _ _ => rfl)) pe_int (nomark _))
        (pss_cons (ps_asg (pe_op op_mod (pe_callTy call_int1 rfl T.int (by decide +kernel) (pa_cons (pe_op op_add (pe_op op_mul (pe_ix ix_list (pv 0) pe_int (fun _ _ => rfl)) pe_int) pe_int) pa_nil)) pe_int) (pg_sub (pv 0) pe_int set_list))
        (pss_one (ps_ret (pe_op op_mod (pe_callTy call_int1 rfl T.int (by decide +kernel) (pa_cons (pe_op op_fdiv (pe_ix ix_list (pv 0) pe_int (fun _ _ => rfl)) pe_int) pa_nil)) (pv 1))))) pss_nil)
      (pss_cons (ps_set (i := 2) scDr.nd rfl (.inl rfl) (pe_op op_mod (pe_callTy call_int1 rfl T.int (by decide +kernel) (pa_cons (pe_ix ix_list (pv 0) pe_int (fun _ _ => rfl)) pa_nil)) (pv 1)))
      (pss_cons (ps_asg (pe_op op_fdiv (pe_ix ix_list (pv 0) pe_int (fun _ _ => rfl)) (pv 1)) (pg_sub (pv 0) pe_int set_list))
      (pss_one (ps_ret (pv 2)))))), ?_⟩
    refine ⟨fun σ H' => σ = [some (.ref s), some (.int k), none] ∧ Kp [s] H H' ∧ SAt H' s l, ?_, ?_⟩
    · obtain ⟨nsl, ns, a, b, c, h1, h2, a0, b0, c0, c1⟩ := id hS
      refine ⟨_, rfl, s, _, _, _, rfl, rfl, SqL.of h1, rfl, rfl, _, rfl, ?_⟩
      refine ite2 (fun _ => ?_) (fun _ => ?_)
      · refine ⟨_, rfl, s, _, _, _, rfl, rfl, SqL.of h1, rfl, _, rfl, s, _, _, _, rfl, rfl, SqL.of h1, rfl, l, _, rfl, .inl (SqL.of h2), _, _, rfl, rfl, _, rfl, ?_⟩
        refine ite2 (fun hb => ?_) (fun _ => ⟨rfl, Kp.refl _ _, hS⟩)
        have hb := of_decide_eq_true hb
        rw [List.length_map] at hb
        obtain ⟨u, hu⟩ : ∃ u, ns[b.toNat]? = some u := ⟨_, List.getElem?_eq_getElem (by omega)⟩
        have hat : atI (ns.map V.int) b = some (V.int u) := by
          have e : b = ((b.toNat : Nat) : Int) := by omega
          rw [e]
          exact atI_nat (by rw [List.getElem?_map, hu]; rfl)
        refine ⟨_, rfl, s, _, _, _, rfl, rfl, SqL.of h1, rfl, _, rfl, s, _, _, _, rfl, rfl, SqL.of h1, rfl, l, _, _, _, rfl, rfl, SqL.of h2, hat, .inl ⟨_, rfl, _, rfl, ?_⟩⟩
        refine ⟨_, rfl, s, _, _, 1, rfl, rfl, h1, rfl, ?_⟩
        generalize hx : (if u < 0 then -u else u) = x
        have x0 : 0 ≤ x := by
          rw [← hx]
          split <;> omega
        refine ⟨_, rfl, s, _, _, _, rfl, rfl, SqL.of upd_same, rfl, _, _, rfl, rfl, _, rfl, s, _, _, 2, rfl, rfl, upd_same, rfl, ?_⟩
        refine ⟨rfl, .wr (.wr (.refl _ _) h1) upd_same, nsl, ns, x, b + 1, c, upd_same, by rw [upd_ne nsl.symm, upd_ne nsl.symm]; exact h2, x0, by omega, c0, c1⟩
      · exact ⟨rfl, Kp.refl _ _, hS⟩
    · rintro σ H' ⟨rfl, kp, nsl, ns, a, b, c, h1, h2, a0, b0, c0, c1⟩
      refine ⟨_, rfl, s, _, _, _, rfl, rfl, SqL.of h1, rfl, rfl, _, rfl, ?_⟩
      refine ite2 (fun _ => ?_) (fun _ => ?_)
      · refine ⟨_, rfl, s, _, _, _, rfl, rfl, SqL.of h1, rfl, _, _, rfl, rfl, .inr ⟨by decide, by decide⟩, _, _, rfl, rfl, .inl ⟨_, rfl, _, _, rfl, rfl, (by show (0 : Int) < 2147483647; decide), _, rfl, s, _, _, 3, rfl, rfl, h1, rfl, ?_⟩⟩
        refine ⟨_, rfl, s, _, _, _, rfl, rfl, SqL.of upd_same, rfl, _, _, rfl, rfl, ⟨by decide, by decide⟩, .inl ⟨_, rfl, _, rfl, _, _, rfl, rfl, k0, ?_⟩⟩
        exact q _ _ (Int.emod_nonneg _ (by omega)) (Int.emod_lt_of_pos _ k0) (.wr kp h1) ⟨nsl, ns, a, b, _, upd_same, by rw [upd_ne nsl.symm]; exact h2, a0, b0, Int.emod_nonneg _ (by decide), Int.emod_lt_of_pos _ (by decide)⟩
      · refine ⟨_, rfl, s, _, _, _, rfl, rfl, SqL.of h1, rfl, .inl ⟨_, rfl, _, rfl, _, _, rfl, rfl, k0, ?_⟩⟩
        refine ⟨_, rfl, s, _, _, _, rfl, rfl, SqL.of h1, rfl, _, rfl, _, _, rfl, rfl, ⟨k0, by omega⟩, _, rfl, s, _, _, 1, rfl, rfl, h1, rfl, ?_⟩
        refine ⟨_, rfl, ?_⟩
        exact q _ _ (Int.emod_nonneg _ (by omega)) (Int.emod_lt_of_pos _ k0) (.wr kp h1) ⟨nsl, ns, _, b, c, upd_same, by rw [upd_ne nsl.symm]; exact h2, Int.ediv_nonneg a0 (by omega), b0, c0, c1⟩
end
end Tac

namespace Tac
open PySem L2
/-- (state, place, cells) after n steps -/
def NowAt (K : PySem.W.Frag) (H : Hp) (t : Addr) (M : Mach) (n : Nat) : Prop :=
  ∃ (d : Addr) (kvs : List (Key × V)), SqT K H t [.int (cf M n).st, .int (cf M n).pl, .ref d] ∧ H d = some (.dK kvs) ∧ TapeOk kvs (cf M n).tp ∧ kvs.length ≤ n
def spAfter (K : PySem.W.Frag) : Sp := fun vs H Q _ => ∃ (m t : Addr) (M : Mach) (ns sy n : Nat), vs = [.ref m, .ref t] ∧ MaAt K H m M ∧ MOk ns sy M ∧ NowAt K H t M n ∧ (cf M n).st ≠ -1 ∧ n ≤ 900 ∧
  ∀ t' H', Kp [] H H' → NowAt K H' t' M (n + 1) → Q (.ref t') H'
def spHist (K : PySem.W.Frag) : Sp := fun vs H Q _ => ∃ (m : Addr) (M : Mach) (ns sy c : Nat), vs = [.ref m, .int c] ∧ MaAt K H m M ∧ MOk ns sy M ∧ c ≤ 900 ∧
  ∀ L xs t n d H', Kp [] H H' → H' L = some (.lst (xs ++ [V.ref t])) → SqT K H' t [.int (cf M n).st, .int (cf M n).pl, .ref d] → Q (.ref L) H'
theorem NowAt.kp {K : PySem.W.Frag} {H H' : Hp} {A : List Addr} {t : Addr} {M : Mach} {n : Nat} (h : NowAt K H t M n) (k : Kp A H H') (hn : ∀ b kvs, H b = some (.dK kvs) → b ∉ A) : NowAt K H' t M n := by
  obtain ⟨d, kvs, h1, h2, h3⟩ := h
  exact ⟨d, kvs, k.sqT h1, k.lst h2 (hn _ _ h2), h3⟩
section
variable {P : Program} {w : World} {K : PySem.W.Frag} {mg : Str → Option Value} {base : Heap} {CR CH : Addr}
theorem scAf : FnScope ["_law_machine_here", "_law_now", "_law_cells", "_law_rule"] ["_law_machine_here", "_law_now"] (defScope sAfter) := ⟨rfl, rfl, rfl, by decide +kernel, rfl, by decide +kernel, by decide +kernel⟩
theorem ok_after {f : Addr} {fd : FuncData} (F : Fun K "_law_after" "_law_after" sAfter f fd) (T : Txt K mg CR CH) : FnOk P w K mg base CX0 1 f fd ["_law_machine_here", "_law_now"] (spAfter K) := by
  refine F.ok scAf (fun vs H Q E h => ?_) (fun cdv A outer s H vs Q E hr h => ?_)
  · obtain ⟨m, t, M, ns, sy, n, rfl, _⟩ := h
    rfl
  · obtain ⟨m, t, M, ns, sy, n, rfl, ma, ok, ⟨d, kvs, h1, h2, ht, hl⟩, go, hn, q⟩ := h
    have hu := hu_of hr
    have co := cf_ok ok n
    obtain ⟨as, r, bs, qa, g1, g2, g3, g4, g5, ro⟩ := ma.rule ok (s := (cf M n).st) (x := (cf M n).tp (cf M n).pl) (by have := co.s0; omega) co.s1 (co.t0 _) (co.t1 _)
    have es := cf_succ go
    generalize hru : rl M (cf M n).st ((cf M n).tp (cf M n).pl) = ru at g5 ro es
    refine ⟨_, pss_cons (ps_set (i := 2) scAf.nd rfl (.inl rfl) (pe_callTy call_dictD rfl T.dict (by decide +kernel) (pa_cons (pe_ix ix_tup (pv 1) pe_int (fun _ _ => rfl)) pa_nil)))
      (pss_cons (ps_set (i := 3) scAf.nd rfl (.inl rfl) (pe_ix ix_tup (pe_ix ix_tup (pv 0) (pe_ix ix_tup (pv 1) pe_int (fun _ _ => rfl)) (fun _ _ => rfl)) (pe_dget2 hu (pv 2) (pe_ix ix_tup (pv 1) pe_int (fun _ _ => rfl)) pe_int ⟨rfl, rfl, rfl, rfl⟩) (fun _ _ => rfl)))
      (pss_cons (ps_dput hu (pv 2) (pe_ix ix_tup (pv 1) pe_int (fun _ _ => rfl)) (pe_ix ix_tup (pv 3) pe_int (fun _ _ => rfl)) rfl)
      (pss_one (ps_ret (pe_tup (pa_cons (pe_ix ix_tup (pv 3) pe_int (fun _ _ => rfl)) (pa_cons (pe_op op_add (pe_ix ix_tup (pv 1) pe_int (fun _ _ => rfl)) (pe_ix ix_tup (pv 3) pe_int (fun _ _ => rfl))) (pa_cons (pv 2) pa_nil)))))))), ?_⟩
    refine ⟨_, rfl, t, _, _, _, rfl, rfl, h1, rfl, d, kvs, rfl, .inl h2, fun e he => ?_⟩
    have k1 : Kp [] H (upd H e (.dK kvs)) := .new _ he
    have he1 : (upd H e (.dK kvs)) e = some (.dK kvs) := upd_same
    generalize hH1 : upd H e (.dK kvs) = H1 at k1 he1
    have h1' := k1.sqT h1
    refine ⟨_, rfl, _, rfl, t, _, _, _, rfl, rfl, h1', rfl, m, _, _, _, rfl, rfl, k1.sqT g1, g2, ?_⟩
    refine ⟨_, rfl, e, rfl, .inl ⟨kvs, .inl he1⟩, _, rfl, t, _, _, _, rfl, rfl, h1', rfl, _, DGet.k (k := Sum.inl (cf M n).pl) he1, ?_⟩
    rw [ht.val]
    refine ⟨r, _, _, _, rfl, rfl, k1.sqT g3, g4, ?_⟩
    have g5' := k1.sqT g5
    refine ⟨_, rfl, qa, _, _, _, rfl, rfl, g5', rfl, _, rfl, _, rfl, t, _, _, _, rfl, rfl, h1', rfl, e, _, rfl, DPut.k (k := Sum.inl (cf M n).pl) he1 (small1000 (by omega)), ?_⟩
    have k2 : Kp [e] H1 (upd H1 e (.dK (putK kvs (Sum.inl (cf M n).pl) (.int ru.1)))) := .wr (.refl _ _) he1
    have k20 : Kp [] H (upd H1 e (.dK (putK kvs (Sum.inl (cf M n).pl) (.int ru.1)))) := (k1.nil.trans k2).cut he
    have he2 : (upd H1 e (.dK (putK kvs (Sum.inl (cf M n).pl) (.int ru.1)))) e = some (.dK (putK kvs (Sum.inl (cf M n).pl) (.int ru.1))) := upd_same
    generalize hH2 : upd H1 e (.dK (putK kvs (Sum.inl (cf M n).pl) (.int ru.1))) = H2 at k2 k20 he2
    refine ⟨_, rfl, qa, _, _, _, rfl, rfl, k2.sqT g5', rfl, _, rfl, t, _, _, _, rfl, rfl, k2.sqT h1', rfl, _, rfl, qa, _, _, _, rfl, rfl, k2.sqT g5', rfl, _, _, rfl, rfl, _, rfl, (by show 3 ≤ sizeLine; decide), fun t' ht' => ?_⟩
    refine q t' _ (.nw k20 ht') ⟨e, putK kvs (Sum.inl (cf M n).pl : Key) (.int ru.1), .inl (.inl (Eq.trans upd_same ?_)), ?_, ?_, ?_⟩
    · rw [es]
    · rw [upd_ne (ne_of_none he2 ht')]
      exact he2
    · rw [es]
      exact ht.put _ _
    · have := length_putK kvs (Sum.inl (cf M n).pl : Key) (.int ru.1)
      omega
theorem scHs : FnScope ["_law_machine_here", "_law_count", "_law_found", "_law_k", "_law_now"] ["_law_machine_here", "_law_count"] (defScope sHist) := ⟨rfl, rfl, rfl, by decide +kernel, rfl, by decide +kernel, by decide +kernel⟩
theorem ok_hist {f fA : Addr} {fd fdA : FuncData} (F : Fun K "_law_history" "_law_history" sHist f fd) (T : Txt K mg CR CH) (GA : FnOk P w K mg base CX0 1 fA fdA ["_law_machine_here", "_law_now"] (spAfter K)) (bA : Binds K fdA ["_law_machine_here", "_law_now"] []) (gA : mg "_law_after" = some (.ref fA)) (kA : PySem.W.keepIn K (.ref fA) = true) :
    FnOk P w K mg base CX0 2 f fd ["_law_machine_here", "_law_count"] (spHist K) := by
  refine F.ok scHs (fun vs H Q E h => ?_) (fun cdv A outer s H vs Q E hr h => ?_)
  · obtain ⟨m, M, ns, sy, c, rfl, _⟩ := h
    rfl
  · obtain ⟨m, M, ns, sy, c, rfl, ma, ok, hc, q⟩ := h
    refine ⟨_, pss_cons (ps_set (i := 2) scHs.nd rfl (.inl rfl) (pe_lst (pa_cons (pe_tup (pa_cons pe_int (pa_cons pe_int (pa_cons pe_dnewK pa_nil)))) pa_nil)))
      (pss_cons (ps_for PassesOwn.never rfl (pi_range1 rfl T.range (pa_cons (pv 1) pa_nil)) (pg_name (i := 3) scHs.nd rfl (.inl rfl))
        (pss_cons (ps_set (i := 4) scHs.nd rfl (.inl rfl) (pe_ix ix_list (pv 2) (pe_op op_sub (pe_callB call_len_seq rfl T.len PySem.boot_len (pa_cons (pv 2) pa_nil)) pe_int) (fun _ _ => rfl)))
        (pss_cons (ps_if (pt_cmpR op_lt (pe_ix ix_tup (pv 4) pe_int (fun _ _ => rfl)) pe_int (nomark _)) (pss_one (ps_ret (pv 2))) pss_nil)
        (pss_one (ps_expr (pe_bm PySem.F.plainAttrs_list PySem.F.slot_list_append PySem.F.type_list_append mt_append (pv 2) (pa_cons (pe_call GA hr rfl gA kA bA .nil pass0 (pa_cons (pv 0) (pa_cons (pv 4) pa_nil))) pa_nil)))))))
      (pss_one (ps_ret (pv 2)))), ?_⟩
    refine fun d hd => ⟨(by show 3 ≤ sizeLine; decide), fun t ht => ⟨(by show 1 ≤ sizeLine; decide), fun L hL => ?_⟩⟩
    have ndt : d ≠ t := ne_of_none upd_same ht
    have ndL : d ≠ L := ne_of_none (o := .dK []) (by rw [upd_ne ndt, upd_same]) hL
    have ntL : t ≠ L := ne_of_none upd_same hL
    have k0 : Kp [] H (upd (upd (upd H d (.dK [])) t (.tup [.int 0, .int 0, .ref d])) L (.lst [.ref t])) := .nw (.nw (.nw (.refl _ _) hd) ht) hL
    have hL0 : H L = none := (Kp.nw (.nw (.refl [] _) hd) ht).dom _ hL
    have n0 : NowAt K (upd (upd (upd H d (.dK [])) t (.tup [.int 0, .int 0, .ref d])) L (.lst [.ref t])) t M 0 := ⟨d, [], .inl (.inl (by rw [upd_ne ntL, upd_same]; rfl)), by rw [upd_ne ndL, upd_ne ndt, upd_same], TapeOk.nil, Nat.le_refl _⟩
    refine ⟨_, rfl, _, rfl, by omega, by omega, for_range (lo := 0) (n := c) (fun i σ H' => ∃ (v w' : Option V) (xs : List V) (t : Addr), σ = [some (.ref m), some (.int c), some (.ref L), v, w'] ∧ Kp [L] H H' ∧ H' L = some (.lst (xs ++ [.ref t])) ∧ xs.length = i ∧ NowAt K H' t M i)
      ⟨none, none, [], t, rfl, k0.nil, upd_same, rfl, n0⟩ ?_ ?_⟩
    · rintro i σ H' hi ⟨v, w', xs, t, rfl, k1, hL', hxl, hN⟩
      obtain ⟨d, kvs, h1, h2, h3⟩ := id hN
      have co := cf_ok ok i
      have hs0 := co.s0
      have hat : atI (xs ++ [V.ref t]) (((xs ++ [V.ref t]).length : Int) - 1) = some (V.ref t) := by
        have e : ((xs ++ [V.ref t]).length : Int) - 1 = ((xs.length : Nat) : Int) := by
          rw [List.length_append, List.length_singleton]
          omega
        rw [e]
        exact atI_nat (by rw [List.getElem?_append_right (Nat.le_refl _), Nat.sub_self]; rfl)
      refine ⟨_, rfl, _, rfl, L, _, rfl, .inl (SqL.of hL'), _, _, rfl, rfl, L, _, _, _, rfl, rfl, SqL.of hL', hat, ?_⟩
      refine ⟨_, rfl, t, _, _, _, rfl, rfl, h1, rfl, _, _, rfl, rfl, _, rfl, ?_⟩
      refine ite2 (fun hst => ?_) (fun hst => ?_)
      · exact ⟨_, rfl, q L xs t i d H' (k1.cut hL0) hL' h1⟩
      · have hst : ¬ (cf M i).st < 0 := fun z => hst (decide_eq_true z)
        refine ⟨_, rfl, .inl ⟨rfl, _, SqL.of hL'⟩, _, rfl, _, rfl, m, t, M, ns, sy, i, rfl, ma.kp k1, ok, hN, by omega, by omega, fun t' H2 k2 hN2 => ?_⟩
        have hL2 := k2.lst hL' (fun z => nomatch z)
        refine ⟨L, _, _, rfl, rfl, hL2, ?_, ?_⟩
        · rw [List.length_append, List.length_singleton]
          exact small1000 (by omega)
        · have k3 : Kp [L] H2 (upd H2 L (.lst ((xs ++ [V.ref t]) ++ [V.ref t']))) := .wr (.refl _ _) hL2
          refine ⟨_, _, xs ++ [V.ref t], t', rfl, (k1.trans k2.nil).trans k3, upd_same, by rw [List.length_append, hxl]; rfl, hN2.kp k3 fun b kv e z => ?_⟩
          rw [List.mem_singleton.mp z, hL2] at e
          cases e
    · rintro σ H' ⟨v, w', xs, t, rfl, k1, hL', hxl, ⟨d, kvs, h1, h2, h3⟩⟩
      exact ⟨_, rfl, q L xs t c d H' (k1.cut hL0) hL' h1⟩
end
end Tac

namespace Tac
open PySem L2
theorem Kp.cutTo {A B : List Addr} {H H' : Hp} (k : Kp A H H') (n : ∀ b ∈ A, b ∉ B → H b = none) : Kp B H H' :=
  ⟨fun b o e nb => k.all b o e (fun z => by
    rw [n b z nb] at e
    cases e), k.tup, k.frz, k.dom⟩
/-- a row that is still a list -/
def RowL (K : PySem.W.Frag) (H : Hp) (l : Addr) (row : List Ru) : Prop := ∃ qs : List Addr, H l = some (.lst (qs.map V.ref)) ∧ Paired (RuAt K H) qs row
/-- rows that are still lists -/
def GAt (K : PySem.W.Frag) (H : Hp) (R : Addr) (ls : List Addr) (M : Mach) : Prop := H R = some (.lst (ls.map V.ref)) ∧ Paired (RowL K H) ls M ∧ ls.Nodup ∧ R ∉ ls
theorem RowL.kp {K : PySem.W.Frag} {H H' : Hp} {A : List Addr} {l : Addr} {row : List Ru} (k : Kp A H H') (n : l ∉ A) (h : RowL K H l row) : RowL K H' l row := by
  obtain ⟨qs, h1, h2⟩ := h
  exact ⟨qs, k.lst h1 n, pair_imp (fun _ _ z => RuAt.kp k z) h2⟩
theorem pair_imp_mem {α β : Type} {F G : α → β → Prop} : ∀ {l : List α} {m : List β}, (∀ a b, a ∈ l → F a b → G a b) → Paired F l m → Paired G l m
  | _, _, _, .nil => .nil
  | _, _, f, .cons r t => .cons (f _ _ List.mem_cons_self r) (pair_imp_mem (fun a b h => f a b (List.mem_cons_of_mem _ h)) t)
theorem GAt.kp {K : PySem.W.Frag} {H H' : Hp} {A : List Addr} {R : Addr} {ls : List Addr} {M : Mach} (h : GAt K H R ls M) (k : Kp A H H') (hR : R ∉ A) (hl : ∀ l ∈ ls, l ∉ A) : GAt K H' R ls M := by
  obtain ⟨h1, h2, h3⟩ := h
  exact ⟨k.lst h1 hR, pair_imp_mem (fun a b m z => RowL.kp k (hl a m) z) h2, h3⟩
def spNeed (K : PySem.W.Frag) : Sp := fun vs H Q _ => ∃ (R : Addr) (ls : List Addr) (M : Mach) (ns sy c : Nat), vs = [.ref R, .int c] ∧ GAt K H R ls M ∧ MOk ns sy M ∧ c ≤ 900 ∧
  ∀ H' v, Kp [] H H' → (v = .non ∨ ∃ t a b, v = .ref t ∧ SqT K H' t [.int a, .int b] ∧ 0 ≤ a ∧ a < ns ∧ 0 ≤ b ∧ b < sy) → Q v H'
section
variable {P : Program} {w : World} {K : PySem.W.Frag} {mg : Str → Option Value} {base : Heap} {CR CH : Addr}
theorem scNe : FnScope ["_law_rows", "_law_steps", "_law_cells", "_law_place", "_law_state", "_law_k", "_law_symbol", "_law_rule"] ["_law_rows", "_law_steps"] (defScope sNeeded) := ⟨rfl, rfl, rfl, by decide +kernel, rfl, by decide +kernel, by decide +kernel⟩
theorem ok_need {f : Addr} {fd : FuncData} (F : Fun K "_law_needed" "_law_needed" sNeeded f fd) (T : Txt K mg CR CH) : FnOk P w K mg base CX0 1 f fd ["_law_rows", "_law_steps"] (spNeed K) := by
  refine F.ok scNe (fun vs H Q E h => ?_) (fun cdv A outer s H vs Q E hr h => ?_)
  · obtain ⟨R, ls, M, ns, sy, c, rfl, _⟩ := h
    rfl
  · obtain ⟨R, ls, M, ns, sy, c, rfl, hG, ok, hc, q⟩ := h
    have hu := hu_of hr
    refine ⟨_, pss_cons (ps_set (i := 2) scNe.nd rfl (.inl rfl) pe_dnewK) (pss_cons (ps_set (i := 3) scNe.nd rfl (.inl rfl) pe_int) (pss_cons (ps_set (i := 4) scNe.nd rfl (.inl rfl) pe_int)
      (pss_cons (ps_for PassesOwn.never rfl (pi_range1 rfl T.range (pa_cons (pv 1) pa_nil)) (pg_name (i := 5) scNe.nd rfl (.inl rfl))
        (pss_cons (ps_set (i := 6) scNe.nd rfl (.inl rfl) (pe_dget2 hu (pv 2) (pv 3) pe_int ⟨rfl, rfl, rfl, rfl⟩))
        (pss_cons (ps_set (i := 7) scNe.nd rfl (.inl rfl) (pe_ix ix_list (pe_ix ix_list (pv 0) (pv 4) (fun _ _ => rfl)) (pv 6) (fun _ _ => rfl)))
        (pss_cons (ps_if (pt_cmpR op_lt (pe_ix ix_tup (pv 7) pe_int (fun _ _ => rfl)) pe_int (nomark _)) (pss_one (ps_ret (pe_tup (pa_cons (pv 4) (pa_cons (pv 6) pa_nil))))) pss_nil)
        (pss_cons (ps_dput hu (pv 2) (pv 3) (pe_ix ix_tup (pv 7) pe_int (fun _ _ => rfl)) rfl)
        (pss_cons (ps_set (i := 3) scNe.nd rfl (.inl rfl) (pe_op op_add (pv 3) (pe_ix ix_tup (pv 7) pe_int (fun _ _ => rfl))))
        (pss_one (ps_set (i := 4) scNe.nd rfl (.inl rfl) (pe_ix ix_tup (pv 7) pe_int (fun _ _ => rfl))))))))))
      (pss_one (ps_ret pe_non))))), ?_⟩
    intro d hd
    have k0 : Kp [] H (upd H d (.dK [])) := .new _ hd
    have hRd : R ≠ d := ne_of_none hG.1 hd
    have hls : ∀ l ∈ ls, l ≠ d := fun l hl => by
      obtain ⟨i, hi⟩ := List.mem_iff_getElem?.mp hl
      obtain ⟨row, _, qs, h1, _⟩ := pair_getL hG.2.1 hi
      exact ne_of_none h1 hd
    refine ⟨_, rfl, _, rfl, by omega, by omega, for_range (lo := 0) (n := c) (fun i σ H' => ∃ (st pl : Int) (kvs : List (Key × V)) (tp : Int → Int) (v5 v6 v7 : Option V), σ = [some (.ref R), some (.int c), some (.ref d), some (.int pl), some (.int st), v5, v6, v7] ∧ Kp [d] H H' ∧ H' d = some (.dK kvs) ∧ TapeOk kvs tp ∧
      (∀ x, 0 ≤ tp x) ∧ (∀ x, tp x < sy) ∧ kvs.length ≤ i ∧ 0 ≤ st ∧ st < ns) ⟨0, 0, [], _, none, none, none, rfl, k0.nil, upd_same, TapeOk.nil, (fun _ => Int.le_refl _), (fun _ => by have := ok.s2; omega), Nat.le_refl _, Int.le_refl _, by have := ok.n1; omega⟩ ?_ ?_⟩
    · rintro i σ H' hi ⟨st, pl, kvs, tp, v5, v6, v7, rfl, k1, hd1, ht, t0, t1, hl, s0, s1⟩
      have hG' : GAt K H' R ls M := hG.kp k1 (by simp [hRd]) (fun l hl z => hls l hl (List.mem_singleton.mp z))
      obtain ⟨row, e1, e2, ro⟩ := ok.at_ s0 s1 (t0 pl) (t1 pl)
      obtain ⟨l, f1, qs, h3, h4⟩ := pair_get hG'.2.1 e1
      obtain ⟨qa, f2, h5⟩ := pair_get h4 e2
      have a1 : atI (ls.map V.ref) st = some (V.ref l) := by
        have e : st = (st.toNat : Int) := by omega
        rw [e]
        exact atI_nat (by rw [List.getElem?_map, f1]; rfl)
      have a2 : atI (qs.map V.ref) (tp pl) = some (V.ref qa) := by
        have e : tp pl = ((tp pl).toNat : Int) := by have := t0 pl; omega
        rw [e]
        exact atI_nat (by rw [List.getElem?_map, f2]; rfl)
      have h5' : SqT K H' qa (ruV (rl M st (tp pl))) := h5
      generalize rl M st (tp pl) = ru at ro h5'
      refine ⟨_, rfl, d, rfl, .inl ⟨kvs, .inl hd1⟩, _, rfl, _, DGet.k (k := Sum.inl pl) hd1, ?_⟩
      rw [ht.val]
      refine ⟨_, rfl, _, rfl, R, _, _, _, rfl, rfl, SqL.of hG'.1, a1, _, rfl, l, _, _, _, rfl, rfl, SqL.of h3, a2, ?_⟩
      refine ⟨_, rfl, qa, _, _, _, rfl, rfl, h5', rfl, _, _, rfl, rfl, _, rfl, ?_⟩
      refine ite2 (fun _ => ?_) (fun hn => ?_)
      · refine ⟨_, rfl, _, rfl, (by show 2 ≤ sizeLine; decide), fun t htn => ?_⟩
        exact q _ _ (.nw (k1.cut hd) htn) (.inr ⟨t, st, tp pl, rfl, .inl (.inl upd_same), s0, s1, t0 pl, t1 pl⟩)
      · have hn : ¬ ru.2.2 < 0 := fun z => hn (decide_eq_true z)
        refine ⟨_, rfl, qa, _, _, _, rfl, rfl, h5', rfl, _, rfl, _, rfl, d, _, rfl, DPut.k (k := Sum.inl pl) hd1 (small1000 (by omega)), ?_⟩
        have k2 : Kp [d] H' (upd H' d (.dK (putK kvs (Sum.inl pl) (.int ru.1)))) := .wr (.refl _ _) hd1
        have h5'' := k2.sqT h5'
        refine ⟨_, rfl, _, rfl, qa, _, _, _, rfl, rfl, h5'', rfl, _, _, rfl, rfl, ?_⟩
        refine ⟨_, rfl, qa, _, _, _, rfl, rfl, h5'', rfl, ?_⟩
        refine ⟨ru.2.2, pl + ru.2.1, _, _, _, _, _, rfl, k1.trans k2, upd_same, ht.put _ _, fun x => ?_, fun x => ?_, ?_, by omega, ro.s1⟩
        · split
          · exact ro.w0
          · exact t0 x
        · split
          · exact ro.w1
          · exact t1 x
        · have := length_putK kvs (Sum.inl pl : Key) (.int ru.1)
          omega
    · rintro σ H' ⟨st, pl, kvs, tp, v5, v6, v7, rfl, k1, _⟩
      exact q _ _ (k1.cut hd) (.inl rfl)
end
end Tac

namespace Tac
open PySem L2
/-- a machine made from the stream -/
def spMk (K : PySem.W.Frag) : Sp := fun vs H Q _ => ∃ (s l : Addr), vs = [.ref s] ∧ SAt H s l ∧
  ∀ m M ns sy H', Kp [s] H H' → SAt H' s l → MaAt K H' m M → MOk ns sy M → Q (.ref m) H'
def pl0 : Ru := (1, 1, -1)
theorem MOk.first {ns sy : Nat} (n1 : 1 ≤ ns) (n4 : ns ≤ 4) (s2 : 2 ≤ sy) (s4 : sy ≤ 4) : MOk ns sy (List.replicate ns (List.replicate sy pl0)) := by
  refine ⟨n1, n4, s2, s4, List.length_replicate, fun row h => ?_, fun row h r hr => ?_⟩
  · rw [List.eq_of_mem_replicate h, List.length_replicate]
  · rw [List.eq_of_mem_replicate h] at hr
    rw [List.eq_of_mem_replicate hr]
    exact ⟨by decide, by show (1 : Int) < sy; omega, .inl rfl, by decide, by show (-1 : Int) < ns; omega⟩
theorem MOk.put {ns sy : Nat} {M : Mach} (h : MOk ns sy M) {i j : Nat} {row : List Ru} {r : Ru} (hi : M[i]? = some row) (hr : RuOk ns sy r) : MOk ns sy (M.set i (row.set j r)) := by
  have hm : row ∈ M := List.mem_of_getElem? hi
  refine ⟨h.n1, h.n4, h.s2, h.s4, by rw [List.length_set]; exact h.len, fun rw' hw => ?_, fun rw' hw r' hr' => ?_⟩
  · rcases List.mem_or_eq_of_mem_set hw with e | e
    · exact h.row _ e
    · rw [e, List.length_set]
      exact h.row _ hm
  · rcases List.mem_or_eq_of_mem_set hw with e | e
    · exact h.ru _ e _ hr'
    · rw [e] at hr'
      rcases List.mem_or_eq_of_mem_set hr' with e2 | e2
      · exact h.ru _ hm _ e2
      · rw [e2]
        exact hr
theorem pair_upd {α β : Type} {F G : α → β → Prop} {a : α} {b : β} : ∀ {l : List α} {m : List β} {i : Nat}, Paired F l m → l.Nodup → l[i]? = some a → (∀ x y, x ∈ l → x ≠ a → F x y → G x y) → G a b → Paired G l (m.set i b)
  | _, _, _, .nil, _, h, _, _ => by simp at h
  | x :: xs, y :: ys, 0, .cons r t, nd, h, f, q => by
    have e : x = a := by simpa using h
    subst e
    exact .cons q (pair_imp_mem (fun x' y' m z => f x' y' (List.mem_cons_of_mem _ m) (fun e => (List.nodup_cons.mp nd).1 (e ▸ m)) z) t)
  | x :: xs, y :: ys, i + 1, .cons r t, nd, h, f, q => by
    have h : xs[i]? = some a := by simpa using h
    have ne : x ≠ a := fun e => (List.nodup_cons.mp nd).1 (e ▸ List.mem_of_getElem? h)
    exact .cons (f x y List.mem_cons_self ne r) (pair_upd t (List.nodup_cons.mp nd).2 h (fun x' y' m => f x' y' (List.mem_cons_of_mem _ m)) q)
theorem ixN_nat {n : Nat} {b : Int} (h0 : 0 ≤ b) (h1 : b < n) : ixN n b = some b.toNat := by
  unfold ixN
  rw [if_pos h0, if_pos h1]
theorem pair_mem {α β : Type} {F : α → β → Prop} : ∀ {l : List α} {m : List β}, Paired F l m → ∀ a ∈ l, ∃ b ∈ m, F a b
  | _, _, .nil, _, h => nomatch h
  | _, _, .cons r t, a, h => by
    rcases List.mem_cons.mp h with e | e
    · rw [e]
      exact ⟨_, List.mem_cons_self, r⟩
    · obtain ⟨b, hb, z⟩ := pair_mem t a e
      exact ⟨b, List.mem_cons_of_mem _ hb, z⟩
theorem pair_setB {α β : Type} {F : α → β → Prop} {a : α} {b : β} : ∀ {l : List α} {m : List β} {i : Nat}, Paired F l m → F a b → Paired F (l.set i a) (m.set i b)
  | _, _, _, .nil, _ => .nil
  | _, _, 0, .cons _ t, q => .cons q t
  | _, _, _ + 1, .cons r t, q => .cons r (pair_setB t q)
theorem menu5 {r : Int} (h0 : 0 ≤ r) (h1 : r < 5) : ∃ v : Nat, atI [V.int 2, V.int 2, V.int 2, V.int 3, V.int 4] r = some (V.int v) ∧ 2 ≤ v ∧ v ≤ 4 := by
  have e : r = 0 ∨ r = 1 ∨ r = 2 ∨ r = 3 ∨ r = 4 := by omega
  rcases e with rfl | rfl | rfl | rfl | rfl
  · exact ⟨2, rfl, by decide, by decide⟩
  · exact ⟨2, rfl, by decide, by decide⟩
  · exact ⟨2, rfl, by decide, by decide⟩
  · exact ⟨3, rfl, by decide, by decide⟩
  · exact ⟨4, rfl, by decide, by decide⟩
def asgE : Stmt → Expr
  | .Assign _ e _ => e
  | _ => .Tuple [] 0 ⟨0, 0, 0, 0⟩
def bodyN (s : Stmt) (i : Nat) : Stmt := (defBody s).getD i (.Pass ⟨0, 0, 0, 0⟩)
section
variable {P : Program} {w : World} {K : PySem.W.Frag} {mg : Str → Option Value} {base : Heap} {CR CH : Addr}
abbrev nGr : List Str := ["_law_stream_here", "_law_states", "_law_symbols", "_law_rows", "_law_k", "_law_found", "_law_row", "_law_s", "_law_x"]
theorem scGw : FnScope nGr ["_law_stream_here"] (defScope sGrown) := ⟨rfl, rfl, rfl, by decide +kernel, rfl, by decide +kernel, by decide +kernel⟩
theorem ok_grown {f fD fN : Addr} {fd fdD fdN : FuncData} (F : Fun K "_law_grown_machine" "_law_grown_machine" sGrown f fd) (T : Txt K mg CR CH)
    (GD : FnOk P w K mg base CX0 1 fD fdD ["_law_stream_here", "_law_many"] spDraw) (bD : Binds K fdD ["_law_stream_here", "_law_many"] []) (gD : mg "_law_draw" = some (.ref fD)) (kD : PySem.W.keepIn K (.ref fD) = true)
    (GN : FnOk P w K mg base CX0 1 fN fdN ["_law_rows", "_law_steps"] (spNeed K)) (bN : Binds K fdN ["_law_rows", "_law_steps"] []) (gN : mg "_law_needed" = some (.ref fN)) (kN : PySem.W.keepIn K (.ref fN) = true) :
    FnOk P w K mg base CX0 2 f fd ["_law_stream_here"] (spMk K) := by
  refine F.ok scGw (fun vs H Q E h => ?_) (fun cdv A outer s H vs Q E hr h => ?_)
  · obtain ⟨s, l, rfl, _⟩ := h
    rfl
  · obtain ⟨s, l, rfl, hS, q⟩ := h
    refine ⟨_, pss_cons (ps_set (i := 1) scGw.nd rfl (.inl rfl) (pe_op op_add pe_int (pe_call GD hr rfl gD kD bD .nil pass0 (pa_cons (pv 0) (pa_cons pe_int pa_nil)))))
      (pss_cons (ps_set (i := 2) scGw.nd rfl (.inr rfl) (pe_ix ix_list (pe_lst (pa_cons pe_int (pa_cons pe_int (pa_cons pe_int (pa_cons pe_int (pa_cons pe_int pa_nil)))))) (pe_call GD hr rfl gD kD bD .nil pass0 (pa_cons (pv 0) (pa_cons pe_int pa_nil))) (fun _ _ => rfl)))
      (pss_cons (ps_setLc (i := 3) (own := [("_law_s", 7)]) (g := gName 7) rfl scGw.nd rfl rfl (sw_true rfl rfl rfl (by decide +kernel)) (pi_range1 rfl T.range (pa_cons (pv 1) pa_nil)) (blkOk_by (own := [("_law_s", 7)]) (N := nGr) (sc := defScope sGrown) (by decide +kernel))
        (fun _ _ _ _ _ => pg_name (i := 7) scGw.nd rfl (.inl rfl)) (fun _ _ _ _ _ => pts_nil)
        (fun _ _ _ _ _ => pe_lc (own := [("_law_x", 8)]) (g := gName 8) rfl scGw.nd (pi_range1 rfl T.range (pa_cons (pv 2) pa_nil)) (blkOk_by (own := [("_law_x", 8)]) (N := nGr) (sc := relS (lcScope (asgE (bodyN sGrown 2))) (defScope sGrown)) (by decide +kernel))
          (fun _ _ _ _ _ => pg_name (i := 8) scGw.nd rfl (.inl rfl)) (fun _ _ _ _ _ => pts_nil) (fun _ _ _ _ _ => pe_tup (pa_cons pe_int (pa_cons pe_int (pa_cons (pe_un un_neg pe_int) pa_nil))))))
      (C8.pss_cut (ps_for PassesOwn.never rfl (pi_range1 rfl T.range (pa_cons (pe_op op_sub (pe_op op_mul (pv 1) (pv 2)) (pe_call GD hr rfl gD kD bD .nil pass0 (pa_cons (pv 0) (pa_cons pe_int pa_nil)))) pa_nil)) (pg_name (i := 4) scGw.nd rfl (.inl rfl))
        (pss_cons (ps_set (i := 5) scGw.nd rfl (.inl rfl) (pe_call GN hr rfl gN kN bN .nil pass0 (pa_cons (pv 3) (pa_cons pe_int pa_nil))))
        (pss_cons (ps_if (pt_cmpR op_isN (pv 5) pe_non (nomark _)) (pss_one ps_break) pss_nil)
        (pss_cons (ps_set (i := 6) scGw.nd rfl (.inl rfl) (pe_ix ix_list (pv 3) (pe_ix ix_tup (pv 5) pe_int (fun _ _ => rfl)) (fun _ _ => rfl)))
        (pss_one (ps_asg (pe_tup (pa_cons (pe_call GD hr rfl gD kD bD .nil pass0 (pa_cons (pv 0) (pa_cons (pv 2) pa_nil))) (pa_cons (pe_op op_sub (pe_op op_mul pe_int (pe_call GD hr rfl gD kD bD .nil pass0 (pa_cons (pv 0) (pa_cons pe_int pa_nil)))) pe_int)
          (pa_cons (pe_call GD hr rfl gD kD bD .nil pass0 (pa_cons (pv 0) (pa_cons (pv 1) pa_nil))) pa_nil)))) (pg_sub (pv 6) (pe_ix ix_tup (pv 5) pe_int (fun _ _ => rfl)) set_list)))))))
      (pss_one (ps_ret (pe_callTy call_tuple_of rfl T.tuple (by decide +kernel) (pa_cons
        (pe_lc (own := [("_law_row", 6)]) (g := gName 6) rfl scGw.nd (pi_list (pv 3)) (blkOk_by (own := [("_law_row", 6)]) (N := nGr) (sc := defScope sGrown) (by decide +kernel))
          (fun _ _ _ _ _ => pg_name (i := 6) scGw.nd rfl (.inl rfl)) (fun _ _ _ _ _ => pts_nil) (fun _ _ _ _ _ => pe_callTy (call_tupK (K' := K) rfl) rfl T.tuple (by decide +kernel) (pa_cons (pv 6) pa_nil))) pa_nil))))))), ?_⟩
    -- states, symbols
    have nsl := hS.1
    refine ⟨_, rfl, s, l, 4, rfl, hS, by decide, by decide, fun r1 H1 r10 r11 k1 hS1 => ⟨_, _, rfl, rfl, ?_⟩⟩
    obtain ⟨_, ns1, x1, x2, x3, es1, el1, _⟩ := id hS1
    refine ⟨(by show 5 ≤ sizeLine; decide), fun p hp => ?_⟩
    have nps : s ≠ p := ne_of_none es1 hp
    have npl : l ≠ p := ne_of_none el1 hp
    refine ⟨_, rfl, s, l, 5, rfl, hS1.kp (.new [] hp) (fun z => nomatch z) (fun z => nomatch z), by decide, by decide, fun r2 H2 r20 r21 k2 hS2 => ?_⟩
    obtain ⟨sy, hat, s2, s4⟩ := menu5 r20 r21
    refine ⟨p, _, _, _, rfl, rfl, SqL.of (k2.lst upd_same (by simp [nps.symm])), hat, ?_⟩
    have kk2 : Kp [s] H H2 := (k1.nw hp).trans k2
    obtain ⟨_, ns2, y1, y2, y3, es2, el2, _⟩ := id hS2
    -- rows
    refine ⟨_, rfl, _, rfl, by omega, by omega, fun D hD => ?_⟩
    have nDs : s ≠ D := ne_of_none es2 hD
    have nDl : l ≠ D := ne_of_none el2 hD
    refine lc_range (lo := 0) (n := (1 + r1).toNat) (fun i H' => Kp [D] H2 H' ∧ ∃ ls : List Addr, H' D = some (.lst (ls.map V.ref)) ∧ ls.length = i ∧ Paired (RowL K H') ls (List.replicate i (List.replicate sy pl0)) ∧ ls.Nodup ∧ ∀ b ∈ ls, H2 b = none ∧ b ≠ D)
      ⟨.new _ hD, [], upd_same, rfl, .nil, List.nodup_nil, (fun _ z => nomatch z)⟩ ?_ ?_
    · rintro i H' hi ⟨kD, ls, hls, lls, hps, nd, fr⟩
      refine ⟨rfl, _, rfl, _, rfl, by omega, by omega, fun D2 hD2 => ?_⟩
      have nDD : D ≠ D2 := ne_of_none hls hD2
      have nls : ∀ b ∈ ls, b ≠ D2 := fun b hb => by
        obtain ⟨_, _, qs, hq, _⟩ := pair_mem hps b hb
        exact ne_of_none hq hD2
      refine lc_range (lo := 0) (n := sy) (fun j H3 => Kp [D2] H' H3 ∧ ∃ qs : List Addr, H3 D2 = some (.lst (qs.map V.ref)) ∧ Paired (RuAt K H3) qs (List.replicate j pl0))
        ⟨.new _ hD2, [], upd_same, .nil⟩ ?_ ?_
      · rintro j H3 hj ⟨k3, qs, hqs, hpq⟩
        have lqs : qs.length = j := by rw [pair_len hpq, List.length_replicate]
        refine ⟨rfl, _, rfl, (by show 3 ≤ sizeLine; decide), fun t ht => ?_⟩
        have ntD : D2 ≠ t := ne_of_none hqs ht
        refine ⟨_, by rw [upd_ne ntD]; exact hqs, by rw [List.length_map]; exact small1000 (by omega), .wr (.nw k3 ht) (by rw [upd_ne ntD]; exact hqs), qs ++ [t], ?_, ?_⟩
        · rw [upd_same, List.map_append]
          rfl
        · rw [List.replicate_succ']
          have k4 : Kp [D2] H3 (upd (upd H3 t (.tup [V.int 1, V.int 1, V.int (-1)])) D2 (.lst (qs.map V.ref ++ [V.ref t]))) :=
            .wr (.nw (.refl _ _) ht) (by rw [upd_ne ntD]; exact hqs)
          refine pair_snoc ?_ (pair_imp (fun _ _ z => RuAt.kp k4 z) hpq)
          refine .inl (.inl ?_)
          rw [upd_ne ntD.symm, upd_same]
          rfl
      · rintro H3 ⟨k3, qs, hqs, hpq⟩
        have hD3 : H3 D = some (.lst (ls.map V.ref)) := k3.lst hls (by simp [nDD])
        have k3' : Kp [] H' H3 := k3.cut hD2
        have k4 : Kp [D] H3 (upd H3 D (.lst (ls.map V.ref ++ [V.ref D2]))) := .wr (.refl _ _) hD3
        refine ⟨_, hD3, by rw [List.length_map]; exact small1000 (by omega), (kD.trans k3'.nil).trans k4, ls ++ [D2], ?_, ?_, ?_, ?_, ?_⟩
        · rw [upd_same, List.map_append]
          rfl
        · rw [List.length_append, lls]
          rfl
        · rw [List.replicate_succ']
          refine pair_snoc ⟨qs, k4.lst hqs (by simp [nDD.symm]), pair_imp (fun _ _ z => RuAt.kp k4 z) hpq⟩ (pair_imp_mem (fun a b m z => ?_) hps)
          exact RowL.kp k4 (by simp [(fr a m).2]) (RowL.kp k3' (fun z => nomatch z) z)
        · exact nd_snoc nd fun z => nls _ z rfl
        · intro b hb
          rcases List.mem_append.mp hb with e | e
          · exact fr b e
          · rw [List.mem_singleton.mp e]
            exact ⟨kD.dom _ hD2, nDD.symm⟩
    · rintro H3 ⟨kD, ls, hls, lls, hps, nd, fr⟩
      have kk3 : Kp [s] H H3 := kk2.trans (kD.cut hD).nil
      have hS3 : SAt H3 s l := hS2.kp (kD.cut hD) (fun z => nomatch z) (fun z => nomatch z)
      have hG3 : GAt K H3 D ls (List.replicate (1 + r1).toNat (List.replicate sy pl0)) := ⟨hls, hps, nd, fun z => (fr D z).2 rfl⟩
      have frH : ∀ b ∈ ls, H b = none := fun b hb => kk2.dom _ (fr b hb).1
      have nls_s : ∀ b ∈ ls, b ≠ s := fun b hb z => by
        rw [z] at hb
        have := (fr s hb).1
        rw [es2] at this
        cases this
      have nls_l : ∀ b ∈ ls, b ≠ l := fun b hb z => by
        rw [z] at hb
        have := (fr l hb).1
        rw [el2] at this
        cases this
      have ok0 : MOk (1 + r1).toNat sy (List.replicate (1 + r1).toNat (List.replicate sy pl0)) := MOk.first (by omega) (by omega) s2 s4
      have en : (((1 + r1).toNat : Nat) : Int) = 1 + r1 := by omega
      have b1 : 0 ≤ (1 + r1) * (sy : Int) := Int.mul_nonneg (by omega) (by omega)
      have b2 : (1 + r1) * (sy : Int) ≤ 4 * 4 := Int.mul_le_mul (by omega) (by omega) (by omega) (by decide)
      refine ⟨fun σ H' => ∃ (M : Mach) (v4 v5 v6 : Option V), σ = [some (.ref s), some (.int (1 + r1)), some (.int sy), some (.ref D), v4, v5, v6, none, none] ∧ Kp (s :: ls) H H' ∧ SAt H' s l ∧ GAt K H' D ls M ∧ MOk (1 + r1).toNat sy M, ?_, ?_⟩
      · refine ⟨_, rfl, _, rfl, _, _, rfl, rfl, .inl ⟨by omega, by omega⟩, _, rfl, s, l, 2, rfl, hS3, by decide, by decide, fun r3 H4 r30 r31 k4 hS4 => ⟨_, _, rfl, rfl, _, rfl, by omega, by omega, ?_⟩⟩
        refine for_range (lo := 0) (n := ((1 + r1) * (sy : Int) - r3).toNat) (fun _ σ H' => ∃ (M : Mach) (v4 v5 v6 : Option V), σ = [some (.ref s), some (.int (1 + r1)), some (.int sy), some (.ref D), v4, v5, v6, none, none] ∧ Kp (s :: ls) H H' ∧ SAt H' s l ∧ GAt K H' D ls M ∧ MOk (1 + r1).toNat sy M)
          ⟨_, none, none, none, rfl, (kk3.trans k4).mono (by simp), hS4, hG3.kp k4 (by simp [nDs.symm]) (fun b hb z => nls_s b hb (List.mem_singleton.mp z)), ok0⟩ ?_ (fun σ H' h => h)
        rintro i σ H' hi ⟨M, v4, v5, v6, rfl, kA, hSA, hG, ok⟩
        refine ⟨_, rfl, D, ls, M, (1 + r1).toNat, sy, 80, rfl, hG, ok, by decide, fun H5 v k5 hv => ?_⟩
        have hS5 := hSA.kp k5 (fun z => nomatch z) (fun z => nomatch z)
        have hG5 := hG.kp k5 (fun z => nomatch z) (fun _ _ z => nomatch z)
        have kA5 := kA.trans k5.nil
        refine ⟨_, rfl, rfl, _, rfl, ?_⟩
        rcases hv with rfl | ⟨t, a, b, rfl, sq, a0, a1, b0, b1'⟩
        · refine iteT ?_
          exact ⟨M, _, _, _, rfl, kA5, hS5, hG5, ok⟩
        · refine iteF ?_
          obtain ⟨g1, g2, g3, g4⟩ := id hG5
          have hrow : a.toNat < M.length := by rw [ok.len]; omega
          have erow : M[a.toNat]? = some M[a.toNat] := List.getElem?_eq_getElem hrow
          generalize M[a.toNat] = row at erow
          obtain ⟨lr, elr, qs, hqs, hpq⟩ := pair_get g2 erow
          have mlr : lr ∈ ls := List.mem_of_getElem? elr
          have lqs : qs.length = sy := by rw [pair_len hpq]; exact ok.row _ (List.mem_of_getElem? erow)
          have at1 : atI (ls.map V.ref) a = some (V.ref lr) := by
            have e : a = (a.toNat : Int) := by omega
            rw [e]
            exact atI_nat (by rw [List.getElem?_map, elr]; rfl)
          refine ⟨_, rfl, _, rfl, t, _, _, _, rfl, rfl, sq, rfl, D, _, _, _, rfl, rfl, SqL.of g1, at1, ?_⟩
          -- the new rule
          refine ⟨_, rfl, _, rfl, s, l, sy, rfl, hS5, by omega, by omega, fun wv H6 w0 w1 k6 hS6 => ?_⟩
          refine ⟨_, rfl, s, l, 2, rfl, hS6, by decide, by decide, fun uv H7 u0 u1 k7 hS7 => ⟨_, _, rfl, rfl, .inl ⟨by decide, by decide⟩, _, _, rfl, rfl, ?_⟩⟩
          refine ⟨_, rfl, _, rfl, s, l, 1 + r1, rfl, hS7, by omega, by omega, fun zv H8 z0 z1 k8 hS8 => ⟨(by show 3 ≤ sizeLine; decide), fun t2 ht2 => ?_⟩⟩
          have k58 : Kp [s] H5 (upd H8 t2 (.tup [.int wv, .int (2 * uv - 1), .int zv])) := .nw ((k6.trans k7).trans k8) ht2
          have k8n : Kp [] H8 (upd H8 t2 (.tup [.int wv, .int (2 * uv - 1), .int zv])) := .new _ ht2
          have ht2' : (upd H8 t2 (.tup [.int wv, .int (2 * uv - 1), .int zv])) t2 = some (.tup [.int wv, .int (2 * uv - 1), .int zv]) := upd_same
          have hS9 := hS8.kp k8n (fun z => nomatch z) (fun z => nomatch z)
          have sq9 := k58.sqT sq
          have hqs9 := k58.lst hqs (by simp [nls_s lr mlr])
          have hG9 := hG5.kp k58 (by simp [nDs.symm]) (fun b hb z => nls_s b hb (List.mem_singleton.mp z))
          have kA9 : Kp (s :: ls) H (upd H8 t2 (.tup [.int wv, .int (2 * uv - 1), .int zv])) := kA5.trans (k58.mono (by simp))
          have hpq9 := pair_imp (fun _ _ z => RuAt.kp k58 z) hpq
          have nlrD : D ≠ lr := fun z => g4 (by rw [z]; exact mlr)
          generalize upd H8 t2 (.tup [.int wv, .int (2 * uv - 1), .int zv]) = H9 at k58 k8n ht2' hS9 sq9 hqs9 hG9 kA9 hpq9 ⊢
          refine ⟨_, rfl, _, rfl, t, _, _, _, rfl, rfl, sq9, rfl, lr, _, _, b.toNat, rfl, rfl, hqs9, ixN_nat b0 (by rw [List.length_map, lqs]; omega), ?_⟩
          have ru : RuOk (((1 + r1).toNat : Nat) : Int) (sy : Int) (wv, 2 * uv - 1, zv) := ⟨w0, w1, by show 2 * uv - 1 = 1 ∨ 2 * uv - 1 = -1; omega, by show -1 ≤ zv; omega, by show zv < _; omega⟩
          have k9 : Kp [lr] H9 (upd H9 lr (.lst ((qs.map V.ref).set b.toNat (.ref t2)))) := .wr (.refl _ _) hqs9
          have e9 : (upd H9 lr (.lst ((qs.map V.ref).set b.toNat (.ref t2)))) lr = some (.lst ((qs.set b.toNat t2).map V.ref)) := by
            rw [upd_same, List.map_set]
          refine ⟨M.set a.toNat (row.set b.toNat (wv, 2 * uv - 1, zv)), _, _, _, rfl, kA9.trans (k9.mono (by simp [mlr])), hS9.kp k9 (by simp [(nls_s lr mlr).symm]) (by simp [(nls_l lr mlr).symm]), ?_, ok.put erow ru⟩
          obtain ⟨g91, g92, _, _⟩ := hG9
          generalize upd H9 lr (.lst ((qs.map V.ref).set b.toNat (.ref t2))) = H10 at k9 e9
          refine ⟨k9.lst g91 (by simp [nlrD]), ?_, g3, g4⟩
          refine pair_upd g92 g3 elr (fun x y _ ne z => RowL.kp k9 (by simp [ne]) z) ⟨qs.set b.toNat t2, e9, ?_⟩
          refine pair_setB (pair_imp (fun _ _ z => RuAt.kp k9 z) hpq9) ?_
          exact k9.sqT (.inl (.inl ht2'))
      · rintro σ H' ⟨M, v4, v5, v6, rfl, kA, hSA, hG, ok⟩
        obtain ⟨g1, g2, g3, g4⟩ := id hG
        have lls' : ls.length = (1 + r1).toNat := by rw [pair_len g2]; exact ok.len
        have lM : M.length = (1 + r1).toNat := ok.len
        refine ⟨_, rfl, D, rfl, ⟨_, SqL.of g1⟩, fun D3 hD3 => ?_⟩
        have nDD3 : D ≠ D3 := ne_of_none g1 hD3
        refine lc_list (K := K) (a := D) (xs := ls.map V.ref) (fun i H2 => Kp [D3] H' H2 ∧ ∃ bs : List Addr, H2 D3 = some (.lst (bs.map V.ref)) ∧ Paired (RowAt K H2) bs (M.take i))
          ⟨.new _ hD3, [], upd_same, .nil⟩ (fun i H2 _ ⟨k1, _⟩ => SqL.of (k1.lst g1 (by simp [nDD3]))) ?_ ?_
        · rintro i x H2 hx ⟨k1, bs, hbs, hpb⟩
          obtain ⟨lr, elr, rfl⟩ := ref_at hx
          obtain ⟨row, erow, qs, hqs, hpq⟩ := pair_getL g2 elr
          have hiM : i < M.length := (List.getElem?_eq_some_iff.mp erow).1
          have lbs : bs.length = i := by
            rw [pair_len hpb, List.length_take]
            omega
          have nlr : lr ≠ D3 := ne_of_none hqs hD3
          refine ⟨rfl, _, rfl, lr, _, rfl, .inl ⟨SqL.of (k1.lst hqs (by simp [nlr])), fun t ht => ?_⟩⟩
          have nD3t : D3 ≠ t := ne_of_none hbs ht
          refine ⟨_, by rw [upd_ne nD3t]; exact hbs, by rw [List.length_map]; exact small1000 (by omega), .wr (.nw k1 ht) (by rw [upd_ne nD3t]; exact hbs), bs ++ [t], ?_, ?_⟩
          · rw [upd_same, List.map_append]
            rfl
          · rw [take_snoc erow]
            have k3 : Kp [D3] H2 (upd (upd H2 t (.tup (qs.map V.ref))) D3 (.lst (bs.map V.ref ++ [V.ref t]))) :=
              .wr (.nw (.refl _ _) ht) (by rw [upd_ne nD3t]; exact hbs)
            refine pair_snoc ?_ (pair_imp (fun _ _ z => RowAt.kp k3 z) hpb)
            refine ⟨qs, .inl (.inl ?_), pair_imp (fun _ _ z => RuAt.kp k3 (RuAt.kp k1 z)) hpq⟩
            rw [upd_ne nD3t.symm, upd_same]
        · rintro H2 ⟨k1, bs, hbs, hpb⟩
          rw [List.length_map, lls', ← lM, List.take_length] at hpb
          refine ⟨D3, _, rfl, .inl ⟨SqL.of hbs, fun t ht => ?_⟩⟩
          have k4 : Kp [] H2 (upd H2 t (.tup (bs.map V.ref))) := Kp.new _ ht
          have k5 : Kp [] H' (upd H2 t (.tup (bs.map V.ref))) := (k1.cut hD3).trans k4
          have k6 : Kp [s] H (upd H2 t (.tup (bs.map V.ref))) := (kA.trans k5.nil).cutTo fun b hb nb => by
            rcases List.mem_cons.mp hb with e | e
            · exact absurd (by simp [e]) nb
            · exact frH b e
          exact q t M _ sy _ k6 (hSA.kp k5 (fun z => nomatch z) (fun z => nomatch z)) ⟨bs, .inl (.inl upd_same), pair_imp (fun _ _ z => RowAt.kp k4 z) hpb⟩ ok
end
end Tac

namespace Tac
open PySem L2
theorem menu6 {r : Int} (h0 : 0 ≤ r) (h1 : r < 6) : ∃ v : Nat, atI [V.int 2, V.int 3, V.int 2, V.int 3, V.int 1, V.int 4] r = some (V.int v) ∧ 1 ≤ v ∧ v ≤ 4 := by
  have e : r = 0 ∨ r = 1 ∨ r = 2 ∨ r = 3 ∨ r = 4 ∨ r = 5 := by omega
  rcases e with rfl | rfl | rfl | rfl | rfl | rfl
  · exact ⟨2, rfl, by decide, by decide⟩
  · exact ⟨3, rfl, by decide, by decide⟩
  · exact ⟨2, rfl, by decide, by decide⟩
  · exact ⟨3, rfl, by decide, by decide⟩
  · exact ⟨1, rfl, by decide, by decide⟩
  · exact ⟨4, rfl, by decide, by decide⟩
theorem menu3 {r : Int} (h0 : 0 ≤ r) (h1 : r < 3) : ∃ v : Nat, atI [V.int 20, V.int 6, V.int 9] r = some (V.int v) ∧ 1 ≤ v ∧ v ≤ 20 := by
  have e : r = 0 ∨ r = 1 ∨ r = 2 := by omega
  rcases e with rfl | rfl | rfl
  · exact ⟨20, rfl, by decide, by decide⟩
  · exact ⟨6, rfl, by decide, by decide⟩
  · exact ⟨9, rfl, by decide, by decide⟩
section
variable {P : Program} {w : World} {K : PySem.W.Frag} {mg : Str → Option Value} {base : Heap} {CR CH : Addr}
theorem scMa : FnScope ["_law_stream_here", "_law_states", "_law_symbols", "_law_stops", "_law_rows", "_law_s", "_law_rules", "_law_x", "_law_state"] ["_law_stream_here"] (defScope sMach) := ⟨rfl, rfl, rfl, by decide +kernel, rfl, by decide +kernel, by decide +kernel⟩
theorem ok_mach {f fD fG : Addr} {fd fdD fdG : FuncData} (F : Fun K "_law_machine" "_law_machine" sMach f fd) (T : Txt K mg CR CH)
    (GD : FnOk P w K mg base CX0 1 fD fdD ["_law_stream_here", "_law_many"] spDraw) (bD : Binds K fdD ["_law_stream_here", "_law_many"] []) (gD : mg "_law_draw" = some (.ref fD)) (kD : PySem.W.keepIn K (.ref fD) = true)
    (GG : FnOk P w K mg base CX0 2 fG fdG ["_law_stream_here"] (spMk K)) (bG : Binds K fdG ["_law_stream_here"] []) (gG : mg "_law_grown_machine" = some (.ref fG)) (kG : PySem.W.keepIn K (.ref fG) = true) :
    FnOk P w K mg base CX0 3 f fd ["_law_stream_here"] (spMk K) := by
  refine F.ok scMa (fun vs H Q E h => ?_) (fun cdv A outer s H vs Q E hr h => ?_)
  · obtain ⟨s, l, rfl, _⟩ := h
    rfl
  · obtain ⟨s, l, rfl, hS, q⟩ := h
    have hr1 : Room 1 _ := hr.mono (by decide)
    refine ⟨_, pss_cons (ps_if (pt_cmpR op_eq (pe_call GD hr1 rfl gD kD bD .nil pass0 (pa_cons (pv 0) (pa_cons pe_int pa_nil))) pe_int (nomark _)) (pss_one (ps_ret (pe_call GG hr rfl gG kG bG .nil pass0 (pa_cons (pv 0) pa_nil)))) pss_nil)
      (pss_cons (ps_set (i := 1) scMa.nd rfl (.inl rfl) (pe_ix ix_list (pe_lst (pa_cons pe_int (pa_cons pe_int (pa_cons pe_int (pa_cons pe_int (pa_cons pe_int (pa_cons pe_int pa_nil))))))) (pe_call GD hr1 rfl gD kD bD .nil pass0 (pa_cons (pv 0) (pa_cons pe_int pa_nil))) (fun _ _ => rfl)))
      (pss_cons (ps_set (i := 2) scMa.nd rfl (.inl rfl) (pe_ix ix_list (pe_lst (pa_cons pe_int (pa_cons pe_int (pa_cons pe_int (pa_cons pe_int (pa_cons pe_int pa_nil)))))) (pe_call GD hr1 rfl gD kD bD .nil pass0 (pa_cons (pv 0) (pa_cons pe_int pa_nil))) (fun _ _ => rfl)))
      (pss_cons (ps_set (i := 3) scMa.nd rfl (.inl rfl) (pe_ix ix_list (pe_lst (pa_cons pe_int (pa_cons pe_int (pa_cons pe_int pa_nil)))) (pe_call GD hr1 rfl gD kD bD .nil pass0 (pa_cons (pv 0) (pa_cons pe_int pa_nil))) (fun _ _ => rfl)))
      (pss_cons (ps_set (i := 4) scMa.nd rfl (.inl rfl) (pe_lst pa_nil))
      (pss_cons (ps_for PassesOwn.never rfl (pi_range1 rfl T.range (pa_cons (pv 1) pa_nil)) (pg_name (i := 5) scMa.nd rfl (.inl rfl))
        (pss_cons (ps_set (i := 6) scMa.nd rfl (.inl rfl) (pe_lst pa_nil))
        (pss_cons (ps_for PassesOwn.never rfl (pi_range1 rfl T.range (pa_cons (pv 2) pa_nil)) (pg_name (i := 7) scMa.nd rfl (.inl rfl))
          (pss_cons (ps_set (i := 8) scMa.nd rfl (.inl rfl) (pe_call GD hr1 rfl gD kD bD .nil pass0 (pa_cons (pv 0) (pa_cons (pv 1) pa_nil))))
          (C8.pss_cut (ps_if (pt_cmpR op_eq (pe_call GD hr1 rfl gD kD bD .nil pass0 (pa_cons (pv 0) (pa_cons (pv 3) pa_nil))) pe_int (nomark _)) (pss_one (ps_set (i := 8) scMa.nd rfl (.inl rfl) (pe_un un_neg pe_int))) pss_nil)
          (pss_one (ps_expr (pe_bm PySem.F.plainAttrs_list PySem.F.slot_list_append PySem.F.type_list_append mt_append (pv 6) (pa_cons (pe_tup (pa_cons (pe_call GD hr1 rfl gD kD bD .nil pass0 (pa_cons (pv 0) (pa_cons (pv 2) pa_nil)))
            (pa_cons (pe_op op_sub (pe_op op_mul pe_int (pe_call GD hr1 rfl gD kD bD .nil pass0 (pa_cons (pv 0) (pa_cons pe_int pa_nil)))) pe_int) (pa_cons (pv 8) pa_nil)))) pa_nil)))))))
        (pss_one (ps_expr (pe_bm PySem.F.plainAttrs_list PySem.F.slot_list_append PySem.F.type_list_append mt_append (pv 4) (pa_cons (pe_callTy call_tuple_of rfl T.tuple (by decide +kernel) (pa_cons (pv 6) pa_nil)) pa_nil)))))))
      (pss_one (ps_ret (pe_callTy call_tuple_of rfl T.tuple (by decide +kernel) (pa_cons (pv 4) pa_nil))))))))), ?_⟩
    -- which kind
    refine ⟨_, rfl, s, l, 2, rfl, hS, by decide, by decide, fun r0 H1 r00 r01 k1 hS1 => ⟨rfl, _, rfl, ?_⟩⟩
    refine ite2 (fun _ => ?_) (fun _ => ?_)
    · exact ⟨_, rfl, s, l, rfl, hS1, fun m M ns sy H' k h1 h2 h3 => q m M ns sy H' (k1.trans k) h1 h2 h3⟩
    · obtain ⟨nsl, ns1, x1, x2, x3, es1, el1, _⟩ := id hS1
      refine ⟨(by show 6 ≤ sizeLine; decide), fun p1 hp1 => ?_⟩
      have np1 : s ≠ p1 := ne_of_none es1 hp1
      refine ⟨_, rfl, s, l, 6, rfl, hS1.kp (.new [] hp1) (fun z => nomatch z) (fun z => nomatch z), by decide, by decide, fun r1 H2 r10 r11 k2 hS2 => ?_⟩
      obtain ⟨ns, hat1, n1, n4⟩ := menu6 r10 r11
      refine ⟨p1, _, _, _, rfl, rfl, SqL.of (k2.lst upd_same (by simp [np1.symm])), hat1, ?_⟩
      have kk2 : Kp [s] H H2 := (k1.nw hp1).trans k2
      obtain ⟨_, ns2, y1, y2, y3, es2, el2, _⟩ := id hS2
      refine ⟨(by show 5 ≤ sizeLine; decide), fun p2 hp2 => ?_⟩
      have np2 : s ≠ p2 := ne_of_none es2 hp2
      refine ⟨_, rfl, s, l, 5, rfl, hS2.kp (.new [] hp2) (fun z => nomatch z) (fun z => nomatch z), by decide, by decide, fun r2 H3 r20 r21 k3 hS3 => ?_⟩
      obtain ⟨sy, hat2, s2, s4⟩ := menu5 r20 r21
      refine ⟨p2, _, _, _, rfl, rfl, SqL.of (k3.lst upd_same (by simp [np2.symm])), hat2, ?_⟩
      have kk3 : Kp [s] H H3 := (kk2.nw hp2).trans k3
      obtain ⟨_, ns3, z1, z2, z3, es3, el3, _⟩ := id hS3
      refine ⟨(by show 3 ≤ sizeLine; decide), fun p3 hp3 => ?_⟩
      have np3 : s ≠ p3 := ne_of_none es3 hp3
      refine ⟨_, rfl, s, l, 3, rfl, hS3.kp (.new [] hp3) (fun z => nomatch z) (fun z => nomatch z), by decide, by decide, fun r3 H4 r30 r31 k4 hS4 => ?_⟩
      obtain ⟨sp, hat3, t1, t20⟩ := menu3 r30 r31
      refine ⟨p3, _, _, _, rfl, rfl, SqL.of (k4.lst upd_same (by simp [np3.symm])), hat3, ?_⟩
      have kk4 : Kp [s] H H4 := (kk3.nw hp3).trans k4
      obtain ⟨_, ns4, w1, w2, w3, es4, el4, _⟩ := id hS4
      -- rows = []
      refine ⟨Nat.zero_le _, fun R hR => ?_⟩
      have nR : s ≠ R := ne_of_none es4 hR
      have nRl : l ≠ R := ne_of_none el4 hR
      have hRH : H R = none := kk4.dom _ hR
      have fin : ∀ {H'}, Kp [s, R] H H' → Kp [s] H H' := fun kk => kk.cutTo fun b hb nb => by
        simp only [List.mem_cons, List.not_mem_nil, or_false] at hb nb
        rcases hb with e | e
        · exact absurd e nb
        · rw [e]
          exact hRH
      refine ⟨_, rfl, _, rfl, by omega, by omega, for_range (lo := 0) (n := ns) (fun i σ H' => ∃ (v5 v6 v7 v8 : Option V) (bs : List Addr) (M : Mach), σ = [some (.ref s), some (.int ns), some (.int sy), some (.int sp), some (.ref R), v5, v6, v7, v8] ∧ Kp [s, R] H H' ∧ SAt H' s l ∧
        H' R = some (.lst (bs.map V.ref)) ∧ Paired (RowAt K H') bs M ∧ M.length = i ∧ ∀ row ∈ M, row.length = sy ∧ ∀ r ∈ row, RuOk ns sy r)
        ⟨none, none, none, none, [], [], rfl, (kk4.mono (by simp)).nw hR, hS4.kp (.new [] hR) (fun z => nomatch z) (fun z => nomatch z), upd_same, .nil, rfl, (fun _ z => nomatch z)⟩ ?_ ?_⟩
      · rintro i σ H' hi ⟨v5, v6, v7, v8, bs, M, rfl, kA, hSA, hRb, hpb, lM, hM⟩
        obtain ⟨_, ns5, a1, a2, a3, es5, el5, _⟩ := id hSA
        -- rules = []
        refine ⟨Nat.zero_le _, fun L hL => ?_⟩
        have nL : s ≠ L := ne_of_none es5 hL
        have nLl : l ≠ L := ne_of_none el5 hL
        have nRL : R ≠ L := ne_of_none hRb hL
        refine ⟨_, rfl, _, rfl, by omega, by omega, for_range (lo := 0) (n := sy) (fun j σ H2 => ∃ (v7 v8 : Option V) (qs : List Addr) (row : List Ru), σ = [some (.ref s), some (.int ns), some (.int sy), some (.int sp), some (.ref R), some (.int (0 + (i : Nat))), some (.ref L), v7, v8] ∧ Kp [s, L] H' H2 ∧ SAt H2 s l ∧
          H2 L = some (.lst (qs.map V.ref)) ∧ Paired (RuAt K H2) qs row ∧ row.length = j ∧ ∀ r ∈ row, RuOk ns sy r)
          ⟨v7, v8, [], [], rfl, .new _ hL, hSA.kp (.new [] hL) (fun z => nomatch z) (fun z => nomatch z), upd_same, .nil, rfl, (fun _ z => nomatch z)⟩ ?_ ?_⟩
        · rintro j σ H2 hj ⟨v7, v8, qs, row, rfl, kB, hSB, hLq, hpq, lrow, hrow⟩
          refine ⟨_, rfl, _, rfl, s, l, ns, rfl, hSB, by omega, by omega, fun st H3 st0 st1 k5 hS5 => ?_⟩
          refine ⟨fun σ H4 => ∃ (st' : Int), σ = [some (.ref s), some (.int ns), some (.int sy), some (.int sp), some (.ref R), some (.int (0 + (i : Nat))), some (.ref L), some (.int (0 + (j : Nat))), some (.int st')] ∧ -1 ≤ st' ∧ st' < ns ∧ Kp [s] H2 H4 ∧ SAt H4 s l, ?_, ?_⟩
          · refine ⟨_, rfl, _, rfl, s, l, sp, rfl, hS5, by omega, by omega, fun u H4 u0 u1 k6 hS6 => ⟨rfl, _, rfl, ?_⟩⟩
            refine ite2 (fun _ => ?_) (fun _ => ?_)
            · exact ⟨_, rfl, -1, rfl, by decide, by omega, k5.trans k6, hS6⟩
            · exact ⟨st, rfl, by omega, st1, k5.trans k6, hS6⟩
          · rintro σ H4 ⟨st', rfl, st0', st1', k6, hS6⟩
            have hL4 := k6.lst hLq (by simp [nL.symm])
            refine ⟨_, rfl, .inl ⟨rfl, _, SqL.of hL4⟩, ?_⟩
            refine ⟨_, rfl, _, rfl, s, l, sy, rfl, hS6, by omega, by omega, fun wv H5 w0 w1 k7 hS7 => ?_⟩
            refine ⟨_, rfl, s, l, 2, rfl, hS7, by decide, by decide, fun uv H6 u0 u1 k8 hS8 => ⟨_, _, rfl, rfl, .inl ⟨by decide, by decide⟩, _, _, rfl, rfl, ?_⟩⟩
            refine ⟨_, rfl, (by show 3 ≤ sizeLine; decide), fun t ht => ?_⟩
            have k28 : Kp [s] H2 (upd H6 t (.tup [.int wv, .int (2 * uv - 1), .int st'])) := .nw ((k6.trans k7).trans k8) ht
            have k8n : Kp [] H6 (upd H6 t (.tup [.int wv, .int (2 * uv - 1), .int st'])) := .new _ ht
            have ht' : (upd H6 t (.tup [.int wv, .int (2 * uv - 1), .int st'])) t = some (.tup [.int wv, .int (2 * uv - 1), .int st']) := upd_same
            generalize upd H6 t (.tup [.int wv, .int (2 * uv - 1), .int st']) = H7 at k28 k8n ht' ⊢
            have hL7 := k28.lst hLq (by simp [nL.symm])
            have hS7' := hS8.kp k8n (fun z => nomatch z) (fun z => nomatch z)
            have lqs : qs.length = j := by rw [pair_len hpq, lrow]
            refine ⟨L, _, _, rfl, rfl, hL7, by rw [List.length_map]; exact small1000 (by omega), ?_⟩
            have k9 : Kp [L] H7 (upd H7 L (.lst (qs.map V.ref ++ [.ref t]))) := .wr (.refl _ _) hL7
            have ru : RuOk (ns : Int) (sy : Int) (wv, 2 * uv - 1, st') := ⟨w0, w1, by show 2 * uv - 1 = 1 ∨ 2 * uv - 1 = -1; omega, st0', st1'⟩
            refine ⟨_, _, qs ++ [t], row ++ [(wv, 2 * uv - 1, st')], rfl, (kB.trans (k28.mono (by simp))).trans (k9.mono (by simp)), hS7'.kp k9 (by simp [nL]) (by simp [nLl]), ?_, ?_, ?_, ?_⟩
            · rw [upd_same, List.map_append]
              rfl
            · exact pair_snoc (F := RuAt K _) (k9.sqT (.inl (.inl ht'))) (pair_imp (fun _ _ z => RuAt.kp k9 (RuAt.kp k28 z)) hpq)
            · rw [List.length_append, lrow]
              rfl
            · intro r hr
              rcases List.mem_append.mp hr with e | e
              · exact hrow r e
              · rw [List.mem_singleton.mp e]
                exact ru
        · rintro σ H2 ⟨v7, v8, qs, row, rfl, kB, hSB, hLq, hpq, lrow, hrow⟩
          have hR2 := kB.lst hRb (by simp [nR.symm, nRL])
          refine ⟨_, rfl, .inl ⟨rfl, _, SqL.of hR2⟩, _, rfl, L, _, rfl, .inl ⟨SqL.of hLq, fun t ht => ?_⟩⟩
          have nRt : R ≠ t := ne_of_none hR2 ht
          have lbs : bs.length = i := by rw [pair_len hpb, lM]
          have hR3 : (upd H2 t (.tup (qs.map V.ref))) R = some (.lst (bs.map V.ref)) := by rw [upd_ne nRt]; exact hR2
          refine ⟨R, _, _, rfl, rfl, hR3, by rw [List.length_map]; exact small1000 (by omega), ?_⟩
          have k3 : Kp [R] H2 (upd (upd H2 t (.tup (qs.map V.ref))) R (.lst (bs.map V.ref ++ [.ref t]))) := .wr (.nw (.refl _ _) ht) hR3
          have kB' : Kp [s] H' H2 := kB.cutTo fun b hb nb => by
            simp only [List.mem_cons, List.not_mem_nil, or_false] at hb nb
            rcases hb with e | e
            · exact absurd e nb
            · rw [e]
              exact hL
          refine ⟨_, _, _, _, bs ++ [t], M ++ [row], rfl, (kA.trans (kB'.mono (by simp))).trans (k3.mono (by simp)), hSB.kp k3 (by simp [nR]) (by simp [nRl]), ?_, ?_, ?_, ?_⟩
          · rw [upd_same, List.map_append]
            rfl
          · refine pair_snoc ⟨qs, .inl (.inl ?_), pair_imp (fun _ _ z => RuAt.kp k3 z) hpq⟩ (pair_imp (fun _ _ z => RowAt.kp k3 (RowAt.kp kB z)) hpb)
            rw [upd_ne nRt.symm, upd_same]
          · rw [List.length_append, lM]
            rfl
          · intro rw' hr
            rcases List.mem_append.mp hr with e | e
            · exact hM rw' e
            · rw [List.mem_singleton.mp e]
              exact ⟨lrow, hrow⟩
      · rintro σ H' ⟨v5, v6, v7, v8, bs, M, rfl, kA, hSA, hRb, hpb, lM, hM⟩
        refine ⟨_, rfl, R, _, rfl, .inl ⟨SqL.of hRb, fun t ht => ?_⟩⟩
        have k3 : Kp [] H' (upd H' t (.tup (bs.map V.ref))) := .new _ ht
        exact q t M ns sy _ (fin (kA.trans k3.nil)) (hSA.kp k3 (fun z => nomatch z) (fun z => nomatch z)) ⟨bs, .inl (.inl upd_same), pair_imp (fun _ _ z => RowAt.kp k3 z) hpb⟩ ⟨n1, n4, s2, s4, lM, fun row h => (hM row h).1, fun row h => (hM row h).2⟩
end
end Tac

namespace Tac
open PySem L2
def spLaw (K : PySem.W.Frag) : Sp := fun vs H Q _ => ∃ (sc : Addr) (ns : List Int), vs = [.ref sc] ∧ SqL K H sc (ns.map V.int) ∧ ∀ H', Q (.bl true) H'
/-- what the law holds -/
structure LW (K : PySem.W.Frag) (H : Hp) (s l m mo : Addr) (M : Mach) (fv : V) : Prop where
  sa : SAt H s l
  ma : MaAt K H m M
  mo : MaAt K H mo (mir M)
  fo : FOk K M 40 H fv
theorem LW.kp {K : PySem.W.Frag} {H H' : Hp} {A : List Addr} {s l m mo : Addr} {M : Mach} {fv : V} (h : LW K H s l m mo M fv) (k : Kp A H H') (sa : SAt H' s l) : LW K H' s l m mo M fv :=
  ⟨sa, h.ma.kp k, h.mo.kp k, h.fo.kp k⟩
theorem LW.kp0 {K : PySem.W.Frag} {H H' : Hp} {s l m mo : Addr} {M : Mach} {fv : V} (h : LW K H s l m mo M fv) (k : Kp [] H H') : LW K H' s l m mo M fv :=
  h.kp k (h.sa.kp k (fun z => nomatch z) (fun z => nomatch z))
def PairAt (K : PySem.W.Frag) (H : Hp) (p : Addr) : Prop := ∃ (a b : Nat) (rt : Bool), SqT K H p [.int a, .int b, .bl rt] ∧ a < b ∧ b ≤ 40
theorem PairAt.kp {K : PySem.W.Frag} {H H' : Hp} {A : List Addr} {p : Addr} (k : Kp A H H') (h : PairAt K H p) : PairAt K H' p := by
  obtain ⟨a, b, rt, h1, h2⟩ := h
  exact ⟨a, b, rt, k.sqT h1, h2⟩
def PsAt (K : PySem.W.Frag) (H : Hp) (P : Addr) (ps : List Addr) : Prop := H P = some (.lst (ps.map V.ref)) ∧ ∀ p ∈ ps, PairAt K H p
theorem PsAt.kp {K : PySem.W.Frag} {H H' : Hp} {A : List Addr} {P : Addr} {ps : List Addr} (h : PsAt K H P ps) (k : Kp A H H') (n : P ∉ A) : PsAt K H' P ps :=
  ⟨k.lst h.1 n, fun p hp => PairAt.kp k (h.2 p hp)⟩
theorem times_int (a b r : Nat) (h : a ≤ b) : (a : Int) + (1 + (r : Int)) * ((b : Int) - (a : Int)) = ((a + (r + 1) * (b - a) : Nat) : Int) := by
  obtain ⟨n, rfl⟩ := Nat.exists_eq_add_of_le h
  have e : a + n - a = n := by omega
  have e2 : ((a + n : Nat) : Int) - (a : Int) = n := by omega
  rw [e, e2, Int.natCast_add a, Int.natCast_mul, Int.natCast_add r, Int.add_comm 1 (r : Int)]
  rfl
abbrev nLaw : List Str := ["_law_script", "_law_stream_here", "_law_machine_here", "_law_other", "_law_found", "_law_pairs", "_law_k", "_law_second", "_law_history_here", "_law_pair", "_law_said", "_law_more", "_law_times"]
section
variable {P : Program} {w : World} {K : PySem.W.Frag} {mg : Str → Option Value} {base : Heap} {CR CH : Addr}
theorem scLw : FnScope nLaw ["_law_script"] (defScope sLaw) := ⟨rfl, rfl, rfl, by decide +kernel, rfl, by decide +kernel, by decide +kernel⟩
theorem ok_law {f fS fM fO fF fD fH fI : Addr} {fd fdS fdM fdO fdF fdD fdH fdI : FuncData} (F : Fun K "law" "law" sLaw f fd) (T : Txt K mg CR CH)
    (GS : FnOk P w K mg base CX0 1 fS fdS ["_law_script"] (spStream K)) (bS : Binds K fdS ["_law_script"] []) (gS : mg "_law_stream" = some (.ref fS)) (kS : PySem.W.keepIn K (.ref fS) = true)
    (GM : FnOk P w K mg base CX0 3 fM fdM ["_law_stream_here"] (spMk K)) (bM : Binds K fdM ["_law_stream_here"] []) (gM : mg "_law_machine" = some (.ref fM)) (kM : PySem.W.keepIn K (.ref fM) = true)
    (GO : FnOk P w K mg base CX0 1 fO fdO ["_law_machine_here"] (spMir K)) (bO : Binds K fdO ["_law_machine_here"] []) (gO : mg "_law_mirrored" = some (.ref fO)) (kO : PySem.W.keepIn K (.ref fO) = true)
    (GF : FnOk P w K mg base CX0 5 fF fdF ["machine", "count"] (spFind K)) (bF : Binds K fdF ["machine", "count"] []) (gF : mg "find_loop" = some (.ref fF)) (kF : PySem.W.keepIn K (.ref fF) = true)
    (GD : FnOk P w K mg base CX0 1 fD fdD ["_law_stream_here", "_law_many"] spDraw) (bD : Binds K fdD ["_law_stream_here", "_law_many"] []) (gD : mg "_law_draw" = some (.ref fD)) (kD : PySem.W.keepIn K (.ref fD) = true)
    (GH : FnOk P w K mg base CX0 2 fH fdH ["_law_machine_here", "_law_count"] (spHist K)) (bH : Binds K fdH ["_law_machine_here", "_law_count"] []) (gH : mg "_law_history" = some (.ref fH)) (kH : PySem.W.keepIn K (.ref fH) = true)
    (GI : FnOk P w K mg base CX0 4 fI fdI pIL (spIsLoop K)) (bI : KBn K fdI pIL 3 ["right"] (fun us ws => us ++ ws) (fun vs zs => vs ++ zs)) (gI : mg "is_loop" = some (.ref fI)) (kI : PySem.W.keepIn K (.ref fI) = true) :
    FnOk P w K mg base CX0 6 f fd ["_law_script"] (spLaw K) := by
  refine F.ok scLw (fun vs H Q E h => ?_) (fun cdv A outer s H vs Q E hr h => ?_)
  · obtain ⟨sc, ns, rfl, _⟩ := h
    rfl
  · obtain ⟨sc, nums, rfl, hS, q⟩ := h
    have hr1 : Room 1 _ := hr.mono (by decide)
    have hr2 : Room 2 _ := hr.mono (by decide)
    have hr3 : Room 3 _ := hr.mono (by decide)
    have hr4 : Room 4 _ := hr.mono (by decide)
    refine ⟨_, pss_cons (ps_set (i := 1) scLw.nd rfl (.inl rfl) (pe_call GS hr1 rfl gS kS bS .nil pass0 (pa_cons (pv 0) pa_nil)))
      (pss_cons (ps_set (i := 2) scLw.nd rfl (.inl rfl) (pe_call GM hr3 rfl gM kM bM .nil pass0 (pa_cons (pv 1) pa_nil)))
      (pss_cons (ps_set (i := 3) scLw.nd rfl (.inl rfl) (pe_call GO hr1 rfl gO kO bO .nil pass0 (pa_cons (pv 2) pa_nil)))
      (pss_cons (ps_set (i := 4) scLw.nd rfl (.inl rfl) (pe_call GF hr rfl gF kF bF .nil pass0 (pa_cons (pv 2) (pa_cons pe_int pa_nil))))
      (pss_cons (ps_set (i := 5) scLw.nd rfl (.inl rfl) (pe_lst pa_nil))
      (C8.pss_cut (ps_if (pt_cmpR op_notN (pv 4) pe_non (nomark _)) (pss_one (ps_expr (pe_bm PySem.F.plainAttrs_list PySem.F.slot_list_append PySem.F.type_list_append mt_append (pv 5) (pa_cons (pv 4) pa_nil)))) pss_nil)
      (pss_cons (ps_for PassesOwn.never rfl (pi_range1 rfl T.range (pa_cons pe_int pa_nil)) (pg_name (i := 6) scLw.nd rfl (.inl rfl))
        (pss_cons (ps_set (i := 7) scLw.nd rfl (.inl rfl) (pe_op op_add pe_int (pe_call GD hr1 rfl gD kD bD .nil pass0 (pa_cons (pv 1) (pa_cons pe_int pa_nil)))))
        (pss_one (ps_expr (pe_bm PySem.F.plainAttrs_list PySem.F.slot_list_append PySem.F.type_list_append mt_append (pv 5) (pa_cons (pe_tup (pa_cons (pe_call GD hr1 rfl gD kD bD .nil pass0 (pa_cons (pv 1) (pa_cons (pv 7) pa_nil)))
          (pa_cons (pv 7) (pa_cons (pe_cmpR op_eq (pe_call GD hr1 rfl gD kD bD .nil pass0 (pa_cons (pv 1) (pa_cons pe_int pa_nil))) pe_int (nomark _)) pa_nil)))) pa_nil))))))
      (pss_cons (ps_set (i := 8) scLw.nd rfl (.inl rfl) (pe_call GH hr2 rfl gH kH bH .nil pass0 (pa_cons (pv 2) (pa_cons pe_int pa_nil))))
      (pss_cons (ps_for PassesOwn.never rfl (pi_list (pv 5)) (pg_name (i := 9) scLw.nd rfl (.inl rfl))
        (pss_cons (ps_set (i := 10) scLw.nd rfl (.inl rfl) (pe_callN GI hr4 rfl gI kI bI pass0 (pa_cons (pv 2) (pa_cons (pe_ix ix_tup (pv 9) pe_int (fun _ _ => rfl)) (pa_cons (pe_ix ix_tup (pv 9) pe_int (fun _ _ => rfl)) pa_nil))) (pk_cons (pe_ix ix_tup (pv 9) pe_int (fun _ _ => rfl)) pk_nil)))
        (pss_cons (ps_if (pt_cmpR op_ne (pv 10) (pe_callN GI hr4 rfl gI kI bI pass0 (pa_cons (pv 3) (pa_cons (pe_ix ix_tup (pv 9) pe_int (fun _ _ => rfl)) (pa_cons (pe_ix ix_tup (pv 9) pe_int (fun _ _ => rfl)) pa_nil))) (pk_cons (pe_not (pe_ix ix_tup (pv 9) pe_int (fun _ _ => rfl))) pk_nil)) (nomark _)) (pss_one (ps_ret pe_bl)) pss_nil)
        (pss_one (ps_if (pt_val (pv 10))
          (pss_cons (ps_if (pt_cmpR op_lt (pe_ix ix_tup (pe_ix ix_list (pv 8) (pe_op op_sub (pe_callB call_len_seq rfl T.len PySem.boot_len (pa_cons (pv 8) pa_nil)) pe_int) (fun _ _ => rfl)) pe_int (fun _ _ => rfl)) pe_int (nomark _)) (pss_one (ps_ret pe_bl)) pss_nil)
          (pss_cons (ps_set (i := 11) scLw.nd rfl (.inl rfl) (pe_call GD hr1 rfl gD kD bD .nil pass0 (pa_cons (pv 1) (pa_cons pe_int pa_nil))))
          (pss_cons (ps_if (pt_not (pt_val (pe_callN GI hr4 rfl gI kI bI pass0 (pa_cons (pv 2) (pa_cons (pe_op op_add (pe_ix ix_tup (pv 9) pe_int (fun _ _ => rfl)) (pv 11)) (pa_cons (pe_op op_add (pe_ix ix_tup (pv 9) pe_int (fun _ _ => rfl)) (pv 11)) pa_nil))) (pk_cons (pe_ix ix_tup (pv 9) pe_int (fun _ _ => rfl)) pk_nil)))) (pss_one (ps_ret pe_bl)) pss_nil)
          (pss_cons (ps_set (i := 12) scLw.nd rfl (.inl rfl) (pe_op op_add pe_int (pe_call GD hr1 rfl gD kD bD .nil pass0 (pa_cons (pv 1) (pa_cons pe_int pa_nil)))))
          (pss_one (ps_if (pt_not (pt_val (pe_callN GI hr4 rfl gI kI bI pass0 (pa_cons (pv 2) (pa_cons (pe_ix ix_tup (pv 9) pe_int (fun _ _ => rfl)) (pa_cons (pe_op op_add (pe_ix ix_tup (pv 9) pe_int (fun _ _ => rfl)) (pe_op op_mul (pv 12) (pe_op op_sub (pe_ix ix_tup (pv 9) pe_int (fun _ _ => rfl)) (pe_ix ix_tup (pv 9) pe_int (fun _ _ => rfl))))) pa_nil)))
            (pk_cons (pe_ix ix_tup (pv 9) pe_int (fun _ _ => rfl)) pk_nil)))) (pss_one (ps_ret pe_bl)) pss_nil)))))) pss_nil)))))
      (pss_one (ps_ret (pe_or (pe_cmpR op_isN (pv 4) pe_non (nomark _)) (pe_one (pe_cmpR op_eq (pe_callN GI hr4 rfl gI kI bI pass0 (pa_cons (pv 2) (pa_cons (pe_ix ix_tup (pv 4) pe_int (fun _ _ => rfl)) (pa_cons (pe_ix ix_tup (pv 4) pe_int (fun _ _ => rfl)) pa_nil))) (pk_cons (pe_ix ix_tup (pv 4) pe_int (fun _ _ => rfl)) pk_nil)) pe_bl (nomark _)))))))))))))), ?_⟩
    -- the stream
    refine ⟨_, rfl, sc, nums, rfl, hS, fun s l H1 hs0 hl0 k1 hS1 => ?_⟩
    -- the machine
    refine ⟨_, rfl, s, l, rfl, hS1, fun m M ns sy H2 k2 hS2 ma ok => ?_⟩
    -- the mirrored one
    refine ⟨_, rfl, m, M, ns, sy, rfl, ma, ok, fun mo H3 k3 mo3 => ?_⟩
    -- find_loop
    refine ⟨_, rfl, m, M, ns, sy, 40, rfl, ma.kp k3, ok, by decide, fun H4 fv k4 fo => ?_⟩
    have hW4 : LW K H4 s l m mo M fv := ⟨(hS2.kp k3 (fun z => nomatch z) (fun z => nomatch z)).kp k4 (fun z => nomatch z) (fun z => nomatch z), (ma.kp k3).kp k4, mo3.kp k4, fo⟩
    obtain ⟨nsl, ns4, x1, x2, x3, es4, el4, _⟩ := id hW4.sa
    -- pairs = []
    refine ⟨Nat.zero_le _, fun P hP => ?_⟩
    have nPs : s ≠ P := ne_of_none es4 hP
    have nPl : l ≠ P := ne_of_none el4 hP
    have hW5 : LW K (upd H4 P (.lst [])) s l m mo M fv := hW4.kp0 (.new [] hP)
    refine ⟨fun σ H' => ∃ ps : List Addr, σ = [some (.ref sc), some (.ref s), some (.ref m), some (.ref mo), some fv, some (.ref P), none, none, none, none, none, none, none] ∧ LW K H' s l m mo M fv ∧ PsAt K H' P ps ∧ ps.length ≤ 1, ?_, ?_⟩
    · refine ⟨_, rfl, rfl, _, rfl, ?_⟩
      have fo5 := hW5.fo
      rcases fo5 with rfl | ⟨t, a, b, rt, rfl, h1, h2, h3, h4⟩
      · refine iteF ?_
        exact ⟨[], rfl, hW5, ⟨upd_same, fun _ z => nomatch z⟩, Nat.zero_le _⟩
      · refine iteT ?_
        refine ⟨_, rfl, .inl ⟨rfl, _, SqL.of upd_same⟩, _, rfl, P, _, _, rfl, rfl, upd_same, by show 0 < sizeLine; decide, ?_⟩
        have k6 : Kp [P] (upd H4 P (.lst [])) (upd (upd H4 P (.lst [])) P (.lst ([] ++ [.ref t]))) := .wr (.refl _ _) upd_same
        refine ⟨[t], rfl, hW5.kp k6 (hW5.sa.kp k6 (by simp [nPs]) (by simp [nPl])), ⟨upd_same, fun p hp => ?_⟩, Nat.le_refl _⟩
        rw [List.mem_singleton.mp hp]
        exact ⟨a, b, rt, k6.sqT h1, h2, h3⟩
    · rintro σ H5 ⟨ps, rfl, hW, hP5, lps⟩
      -- four more pairs
      refine ⟨_, rfl, by decide, by decide, for_range (lo := 0) (n := 4) (fun i σ H' => ∃ (ps : List Addr) (v6 v7 : Option V), σ = [some (.ref sc), some (.ref s), some (.ref m), some (.ref mo), some fv, some (.ref P), v6, v7, none, none, none, none, none] ∧ LW K H' s l m mo M fv ∧ PsAt K H' P ps ∧ ps.length ≤ 1 + i)
        ⟨ps, none, none, rfl, hW, hP5, lps⟩ ?_ ?_⟩
      · rintro i σ H' hi ⟨ps, v6, v7, rfl, hW, hPs, lps⟩
        refine ⟨_, rfl, s, l, 39, rfl, hW.sa, by decide, by decide, fun r H6 r0 r1 k6 hS6 => ⟨_, _, rfl, rfl, ?_⟩⟩
        have hW6 := hW.kp k6 hS6
        have hPs6 := hPs.kp k6 (by simp [nPs.symm])
        refine ⟨_, rfl, .inl ⟨rfl, _, SqL.of hPs6.1⟩, ?_⟩
        refine ⟨_, rfl, _, rfl, s, l, 1 + r, rfl, hS6, by omega, by omega, fun a H7 a0 a1 k7 hS7 => ?_⟩
        refine ⟨_, rfl, _, rfl, s, l, 2, rfl, hS7, by decide, by decide, fun u H8 u0 u1 k8 hS8 => ⟨rfl, ?_⟩⟩
        refine ⟨(by show 3 ≤ sizeLine; decide), fun t ht => ?_⟩
        have k69 : Kp [s] H6 (upd H8 t (.tup [.int a, .int (1 + r), .bl (decide (V.int u = V.int 0))])) := .nw (k7.trans k8) ht
        have k8n : Kp [] H8 (upd H8 t (.tup [.int a, .int (1 + r), .bl (decide (V.int u = V.int 0))])) := .new _ ht
        have ht' : (upd H8 t (.tup [.int a, .int (1 + r), .bl (decide (V.int u = V.int 0))])) t = some (.tup [.int a, .int (1 + r), .bl (decide (V.int u = V.int 0))]) := upd_same
        have hW9 := hW6.kp k69 (hS8.kp k8n (fun z => nomatch z) (fun z => nomatch z))
        have hPs9 := hPs6.kp k69 (by simp [nPs.symm])
        generalize upd H8 t (.tup [.int a, .int (1 + r), .bl (decide (V.int u = V.int 0))]) = H9 at k69 k8n ht' hW9 hPs9 ⊢
        refine ⟨P, _, _, rfl, rfl, hPs9.1, by rw [List.length_map]; exact small1000 (by omega), ?_⟩
        have k10 : Kp [P] H9 (upd H9 P (.lst (ps.map V.ref ++ [.ref t]))) := .wr (.refl _ _) hPs9.1
        refine ⟨ps ++ [t], _, _, rfl, hW9.kp k10 (hW9.sa.kp k10 (by simp [nPs]) (by simp [nPl])), ⟨by rw [upd_same, List.map_append]; rfl, fun p hp => ?_⟩, by rw [List.length_append, List.length_singleton]; omega⟩
        rcases List.mem_append.mp hp with e | e
        · exact PairAt.kp k10 (hPs9.2 p e)
        · rw [List.mem_singleton.mp e]
          obtain ⟨a', rfl⟩ : ∃ n : Nat, a = n := ⟨a.toNat, by omega⟩
          obtain ⟨r', rfl⟩ : ∃ n : Nat, r = n := ⟨r.toNat, by omega⟩
          have e1 : (1 : Int) + (r' : Int) = ((r' + 1 : Nat) : Int) := by omega
          rw [e1] at ht'
          exact ⟨a', r' + 1, _, k10.sqT (.inl (.inl ht')), by omega, by omega⟩
      · rintro σ H6 ⟨ps, v6, v7, rfl, hW, hPs, lps⟩
        -- the history
        refine ⟨_, rfl, m, M, ns, sy, 300, rfl, hW.ma, ok, by decide, fun L xs tl nn dd H7 k7 hL7 htl => ?_⟩
        have hW7 := hW.kp0 k7
        have hPs7 := hPs.kp k7 (fun z => nomatch z)
        have nLs : L ≠ s := fun z => by
          obtain ⟨_, ns7, y1, y2, y3, es7, _⟩ := hW7.sa
          rw [z, es7] at hL7
          have e := HO.lst.inj (Option.some.inj hL7)
          have e2 := congrArg List.getLast? e
          simp at e2
        have lat : atI (xs ++ [V.ref tl]) (((xs ++ [V.ref tl]).length : Int) - 1) = some (V.ref tl) := by
          have e : ((xs ++ [V.ref tl]).length : Int) - 1 = ((xs.length : Nat) : Int) := by
            rw [List.length_append, List.length_singleton]
            omega
          rw [e]
          exact atI_nat (by rw [List.getElem?_append_right (Nat.le_refl _), Nat.sub_self]; rfl)
        -- the pairs
        refine ⟨_, rfl, P, rfl, ⟨_, SqL.of hPs7.1⟩, for_list (K := K) (a := P) (xs := ps.map V.ref) (fun i σ H' => ∃ (v6 v7 v9 v10 v11 v12 : Option V), σ = [some (.ref sc), some (.ref s), some (.ref m), some (.ref mo), some fv, some (.ref P), v6, v7, some (.ref L), v9, v10, v11, v12] ∧ LW K H' s l m mo M fv ∧ PsAt K H' P ps ∧
          H' L = some (.lst (xs ++ [V.ref tl])) ∧ SqT K H' tl [.int (cf M nn).st, .int (cf M nn).pl, .ref dd]) ⟨v6, v7, none, none, none, none, rfl, hW7, hPs7, hL7, htl⟩ (fun i σ H' _ ⟨_, _, _, _, _, _, _, _, h, _⟩ => SqL.of h.1) ?_ ?_⟩
        · rintro i x σ H8 hx ⟨v6, v7, v9, v10, v11, v12, rfl, hW8, hPs8, hL8, htl8⟩
          obtain ⟨p, hp, rfl⟩ := ref_at hx
          obtain ⟨a, b, rt, sq, hab, hb⟩ := hPs8.2 p (List.mem_of_getElem? hp)
          -- said = is_loop(..)
          refine ⟨_, rfl, _, rfl, p, _, _, _, rfl, rfl, sq, rfl, _, rfl, p, _, _, _, rfl, rfl, sq, rfl, _, rfl, p, _, _, _, rfl, rfl, sq, rfl, rfl, rfl, m, M, ns, sy, a, b, rt, rfl, hW8.ma, ok, hab, by omega, fun H9 said k9 hsaid => ?_⟩
          have hW9 := hW8.kp0 k9
          have sq9 := k9.sqT sq
          -- the mirrored machine
          refine ⟨_, rfl, _, rfl, _, rfl, p, _, _, _, rfl, rfl, sq9, rfl, _, rfl, p, _, _, _, rfl, rfl, sq9, rfl, _, rfl, p, _, _, _, rfl, rfl, sq9, rfl, rt, rfl, rfl, rfl, mo, mir M, ns, sy, a, b, !rt, rfl, hW9.mo, ok.mir, hab, by omega, fun H10 said2 k10 hsaid2 => ?_⟩
          rw [sided_mir] at hsaid2
          have es : said = said2 := by
            cases said <;> cases said2
            · rfl
            · exact absurd (hsaid.mpr (hsaid2.mp rfl)) (by decide)
            · exact absurd (hsaid2.mpr (hsaid.mp rfl)) (by decide)
            · rfl
          refine ⟨rfl, _, rfl, iteNS (by rw [es]) ?_⟩
          have hW10 := hW9.kp0 k10
          have hPs10 := (hPs8.kp k9 (fun z => nomatch z)).kp k10 (fun z => nomatch z)
          have hL10 := k10.lst (k9.lst hL8 (fun z => nomatch z)) (fun z => nomatch z)
          have htl10 := k10.sqT (k9.sqT htl8)
          have sq10 := k10.sqT sq9
          refine ⟨_, rfl, said, rfl, ?_⟩
          cases said with
          | false =>
            refine iteF ?_
            exact ⟨_, _, _, _, _, _, rfl, hW10, hPs10, hL10, htl10⟩
          | true =>
            refine iteT ?_
            have lp := hsaid.mp rfl
            have go : (cf M nn).st ≠ -1 := by
              have := lp.runs nn
              rwa [sided_st] at this
            have gs := (cf_ok ok nn).s0
            -- it has not stopped
            refine ⟨_, rfl, _, rfl, L, _, rfl, .inl (SqL.of hL10), _, _, rfl, rfl, L, _, _, _, rfl, rfl, SqL.of hL10, lat, tl, _, _, _, rfl, rfl, htl10, rfl, _, _, rfl, rfl, _, rfl, ?_⟩
            refine ite2 (fun z => absurd (of_decide_eq_true z) (by omega)) (fun _ => ?_)
            -- later steps
            refine ⟨_, rfl, s, l, 30, rfl, hW10.sa, by decide, by decide, fun r H11 r0 r1 k11 hS11 => ?_⟩
            have hW11 := hW10.kp k11 hS11
            have hPs11 := hPs10.kp k11 (by simp [nPs.symm])
            have hL11 := k11.lst hL10 (by simp [nLs])
            have htl11 := k11.sqT htl10
            have sq11 := k11.sqT sq10
            obtain ⟨r', rfl⟩ : ∃ n : Nat, r = n := ⟨r.toNat, by omega⟩
            refine ⟨_, rfl, _, rfl, p, _, _, _, rfl, rfl, sq11, rfl, _, rfl, _, _, rfl, rfl, _, rfl, p, _, _, _, rfl, rfl, sq11, rfl, _, rfl, _, _, rfl, rfl, _, rfl, p, _, _, _, rfl, rfl, sq11, rfl, rfl, rfl,
              m, M, ns, sy, a + r', b + r', rt, rfl, hW11.ma, ok, by omega, by omega, fun H12 b3 k12 hb3 => ⟨b3, rfl, ?_⟩⟩
            have e3 : b3 = true := hb3.mpr (lp.shift r')
            subst e3
            refine iteF ?_
            have hW12 := hW11.kp0 k12
            have hPs12 := hPs11.kp k12 (fun z => nomatch z)
            have hL12 := k12.lst hL11 (fun z => nomatch z)
            have htl12 := k12.sqT htl11
            have sq12 := k12.sqT sq11
            -- a multiple
            refine ⟨_, rfl, s, l, 5, rfl, hW12.sa, by decide, by decide, fun u H13 u0 u1 k13 hS13 => ⟨_, _, rfl, rfl, ?_⟩⟩
            have hW13 := hW12.kp k13 hS13
            have hPs13 := hPs12.kp k13 (by simp [nPs.symm])
            have hL13 := k13.lst hL12 (by simp [nLs])
            have htl13 := k13.sqT htl12
            have sq13 := k13.sqT sq12
            obtain ⟨u', rfl⟩ : ∃ n : Nat, u = n := ⟨u.toNat, by omega⟩
            obtain ⟨d, rfl⟩ := Nat.exists_eq_add_of_le (Nat.le_of_lt hab)
            have hmul : (u' + 1) * d ≤ 5 * 40 := Nat.mul_le_mul (by omega) (by omega)
            have hpos : 0 < (u' + 1) * d := Nat.mul_pos (by omega) (by omega)
            have et : (a : Int) + (1 + (u' : Int)) * (((a + d : Nat) : Int) - (a : Int)) = ((a + (u' + 1) * d : Nat) : Int) := by
              rw [times_int a (a + d) u' (by omega)]
              have e : a + d - a = d := by omega
              rw [e]
            refine ⟨_, rfl, _, rfl, p, _, _, _, rfl, rfl, sq13, rfl, _, rfl, p, _, _, _, rfl, rfl, sq13, rfl, _, rfl, _, rfl, p, _, _, _, rfl, rfl, sq13, rfl, _, rfl, p, _, _, _, rfl, rfl, sq13, rfl, _, _, rfl, rfl, _, _, rfl, rfl, .inl ⟨by omega, by omega⟩, _, _, rfl, rfl,
              _, rfl, p, _, _, _, rfl, rfl, sq13, rfl, rfl, rfl, m, M, ns, sy, a, a + (u' + 1) * d, rt, ?_, hW13.ma, ok, by omega, by omega, fun H14 b4 k14 hb4 => ⟨b4, rfl, ?_⟩⟩
            · show [V.ref m, V.int a, V.int ((a : Int) + (1 + (u' : Int)) * (((a + d : Nat) : Int) - (a : Int))), V.bl rt] = _
              rw [et]
            · have e4 : b4 = true := hb4.mpr (lp.times u')
              subst e4
              refine iteF ?_
              exact ⟨_, _, _, _, _, _, rfl, hW13.kp0 k14, hPs13.kp k14 (fun z => nomatch z), k14.lst hL13 (fun z => nomatch z), k14.sqT htl13⟩
        · rintro σ H8 ⟨v6, v7, v9, v10, v11, v12, rfl, hW8, hPs8, hL8, htl8⟩
          -- return found is None or ..
          refine ⟨_, rfl, rfl, _, rfl, ?_⟩
          have fo8 := hW8.fo
          rcases fo8 with rfl | ⟨t, a, b, rt, rfl, h1, h2, h3, h4⟩
          · refine iteT ?_
            exact q _
          · refine iteF ?_
            refine ⟨_, rfl, _, rfl, t, _, _, _, rfl, rfl, h1, rfl, _, rfl, t, _, _, _, rfl, rfl, h1, rfl, _, rfl, t, _, _, _, rfl, rfl, h1, rfl, rfl, rfl, m, M, ns, sy, a, b, rt, rfl, hW8.ma, ok, h2, by omega, fun H9 b5 k9 hb5 => ⟨rfl, ?_⟩⟩
            have e5 : b5 = true := hb5.mpr h4
            subst e5
            exact q _
end
end Tac

namespace Tac
open PySem L2
/-! ### what the top has written, the head -/
set_option maxHeartbeats 4000000 in
theorem all_mk {l : PySem.W.OpenLaw} {w : World} {K : PySem.W.Frag} {h : Heap} {mg : Str → Option Value} {fa CR CH f_ri f_sy f_st f_ru f_ce f_rt f_hi f_gr f_re f_mi f_ta f_il f_la f_fi f_sm f_dr f_ne f_gw f_ma f_lm f_af f_hs f_lw : Addr} (X : K.In h) (G : h.Ns mainGlobals mg) (hfa : mg "law" = some (.ref fa)) {tS : Tok}
    {od_ri an_ri : Option Addr} {sl_ri : Array (Option Value)} {oc_ri kV_ri dc_ri pm_ri cd_ri ct_ri : Value}
    {od_sy an_sy : Option Addr} {sl_sy : Array (Option Value)} {oc_sy kV_sy dc_sy pm_sy cd_sy ct_sy : Value}
    {od_st an_st : Option Addr} {sl_st : Array (Option Value)} {oc_st kV_st dc_st pm_st cd_st ct_st : Value}
    {od_ru an_ru : Option Addr} {sl_ru : Array (Option Value)} {oc_ru kV_ru dc_ru pm_ru cd_ru ct_ru : Value}
    {od_ce an_ce : Option Addr} {sl_ce : Array (Option Value)} {oc_ce kV_ce dc_ce pm_ce cd_ce ct_ce : Value}
    {od_rt an_rt : Option Addr} {sl_rt : Array (Option Value)} {oc_rt kV_rt dc_rt pm_rt cd_rt ct_rt : Value}
    {od_hi an_hi : Option Addr} {sl_hi : Array (Option Value)} {oc_hi kV_hi dc_hi pm_hi cd_hi ct_hi : Value}
    {od_gr an_gr : Option Addr} {sl_gr : Array (Option Value)} {oc_gr kV_gr dc_gr pm_gr cd_gr ct_gr : Value}
    {od_re an_re : Option Addr} {sl_re : Array (Option Value)} {oc_re kV_re dc_re pm_re cd_re ct_re : Value}
    {od_mi an_mi : Option Addr} {sl_mi : Array (Option Value)} {oc_mi kV_mi dc_mi pm_mi cd_mi ct_mi : Value}
    {od_ta an_ta : Option Addr} {sl_ta : Array (Option Value)} {oc_ta kV_ta dc_ta pm_ta cd_ta ct_ta : Value}
    {od_il an_il : Option Addr} {sl_il : Array (Option Value)} {oc_il kV_il dc_il pm_il cd_il ct_il : Value}
    {od_la an_la : Option Addr} {sl_la : Array (Option Value)} {oc_la kV_la dc_la pm_la cd_la ct_la : Value}
    {od_fi an_fi : Option Addr} {sl_fi : Array (Option Value)} {oc_fi kV_fi dc_fi pm_fi cd_fi ct_fi : Value}
    {od_sm an_sm : Option Addr} {sl_sm : Array (Option Value)} {oc_sm kV_sm dc_sm pm_sm cd_sm ct_sm : Value}
    {od_dr an_dr : Option Addr} {sl_dr : Array (Option Value)} {oc_dr kV_dr dc_dr pm_dr cd_dr ct_dr : Value}
    {od_ne an_ne : Option Addr} {sl_ne : Array (Option Value)} {oc_ne kV_ne dc_ne pm_ne cd_ne ct_ne : Value}
    {od_gw an_gw : Option Addr} {sl_gw : Array (Option Value)} {oc_gw kV_gw dc_gw pm_gw cd_gw ct_gw : Value}
    {od_ma an_ma : Option Addr} {sl_ma : Array (Option Value)} {oc_ma kV_ma dc_ma pm_ma cd_ma ct_ma : Value}
    {od_lm an_lm : Option Addr} {sl_lm : Array (Option Value)} {oc_lm kV_lm dc_lm pm_lm cd_lm ct_lm : Value}
    {od_af an_af : Option Addr} {sl_af : Array (Option Value)} {oc_af kV_af dc_af pm_af cd_af ct_af : Value}
    {od_hs an_hs : Option Addr} {sl_hs : Array (Option Value)} {oc_hs kV_hs dc_hs pm_hs cd_hs ct_hs : Value}
    {od_lw an_lw : Option Addr} {sl_lw : Array (Option Value)} {oc_lw kV_lw dc_lw pm_lw cd_lw ct_lw : Value}
    (aR : PySem.W.nsIn K mainGlobals "Runner" = some (some (.ref CR)))
    (aH : PySem.W.nsIn K mainGlobals "History" = some (some (.ref CH)))
    (a_ri : PySem.W.findIn K (.ref CR) "__init__" = some (some (.ref f_ri)))
    (i_ri : PySem.W.isFn K (.ref f_ri) = true)
    (l_ri : K.lookup f_ri = some ⟨oc_ri, od_ri, .func (PySem.W.fnOf "__init__" "Runner.__init__" (defArgs sRInit) (defBody sRInit) (defScope sRInit) .none kV_ri dc_ri pm_ri an_ri cd_ri ct_ri), sl_ri⟩)
    (c_ri : PySem.W.codeIn K cd_ri "Runner.__init__" = true)
    (k_ri : PySem.W.keepIn K (.ref f_ri) = true)
    (a_sy : PySem.W.findIn K (.ref CR) "symbol" = some (some (.ref f_sy)))
    (i_sy : PySem.W.isFn K (.ref f_sy) = true)
    (l_sy : K.lookup f_sy = some ⟨oc_sy, od_sy, .func (PySem.W.fnOf "symbol" "Runner.symbol" (defArgs sSym) (defBody sSym) (defScope sSym) .none kV_sy dc_sy pm_sy an_sy cd_sy ct_sy), sl_sy⟩)
    (c_sy : PySem.W.codeIn K cd_sy "Runner.symbol" = true)
    (k_sy : PySem.W.keepIn K (.ref f_sy) = true)
    (a_st : PySem.W.findIn K (.ref CR) "step" = some (some (.ref f_st)))
    (i_st : PySem.W.isFn K (.ref f_st) = true)
    (l_st : K.lookup f_st = some ⟨oc_st, od_st, .func (PySem.W.fnOf "step" "Runner.step" (defArgs sStep) (defBody sStep) (defScope sStep) .none kV_st dc_st pm_st an_st cd_st ct_st), sl_st⟩)
    (c_st : PySem.W.codeIn K cd_st "Runner.step" = true)
    (k_st : PySem.W.keepIn K (.ref f_st) = true)
    (a_ru : PySem.W.findIn K (.ref CR) "run" = some (some (.ref f_ru)))
    (i_ru : PySem.W.isFn K (.ref f_ru) = true)
    (l_ru : K.lookup f_ru = some ⟨oc_ru, od_ru, .func (PySem.W.fnOf "run" "Runner.run" (defArgs sRun) (defBody sRun) (defScope sRun) .none kV_ru dc_ru pm_ru an_ru cd_ru ct_ru), sl_ru⟩)
    (c_ru : PySem.W.codeIn K cd_ru "Runner.run" = true)
    (k_ru : PySem.W.keepIn K (.ref f_ru) = true)
    (a_ce : PySem.W.findIn K (.ref CR) "cells" = some (some (.ref f_ce)))
    (i_ce : PySem.W.isFn K (.ref f_ce) = true)
    (l_ce : K.lookup f_ce = some ⟨oc_ce, od_ce, .func (PySem.W.fnOf "cells" "Runner.cells" (defArgs sCells) (defBody sCells) (defScope sCells) .none kV_ce dc_ce pm_ce an_ce cd_ce ct_ce), sl_ce⟩)
    (c_ce : PySem.W.codeIn K cd_ce "Runner.cells" = true)
    (k_ce : PySem.W.keepIn K (.ref f_ce) = true)
    (a_rt : PySem.W.findIn K (.ref CR) "tail" = some (some (.ref f_rt)))
    (i_rt : PySem.W.isFn K (.ref f_rt) = true)
    (l_rt : K.lookup f_rt = some ⟨oc_rt, od_rt, .func (PySem.W.fnOf "tail" "Runner.tail" (defArgs sRTail) (defBody sRTail) (defScope sRTail) .none kV_rt dc_rt pm_rt an_rt cd_rt ct_rt), sl_rt⟩)
    (c_rt : PySem.W.codeIn K cd_rt "Runner.tail" = true)
    (k_rt : PySem.W.keepIn K (.ref f_rt) = true)
    (a_hi : PySem.W.findIn K (.ref CH) "__init__" = some (some (.ref f_hi)))
    (i_hi : PySem.W.isFn K (.ref f_hi) = true)
    (l_hi : K.lookup f_hi = some ⟨oc_hi, od_hi, .func (PySem.W.fnOf "__init__" "History.__init__" (defArgs sHInit) (defBody sHInit) (defScope sHInit) .none kV_hi dc_hi pm_hi an_hi cd_hi ct_hi), sl_hi⟩)
    (c_hi : PySem.W.codeIn K cd_hi "History.__init__" = true)
    (k_hi : PySem.W.keepIn K (.ref f_hi) = true)
    (a_gr : PySem.W.findIn K (.ref CH) "grow" = some (some (.ref f_gr)))
    (i_gr : PySem.W.isFn K (.ref f_gr) = true)
    (l_gr : K.lookup f_gr = some ⟨oc_gr, od_gr, .func (PySem.W.fnOf "grow" "History.grow" (defArgs sGrow) (defBody sGrow) (defScope sGrow) .none kV_gr dc_gr pm_gr an_gr cd_gr ct_gr), sl_gr⟩)
    (c_gr : PySem.W.codeIn K cd_gr "History.grow" = true)
    (k_gr : PySem.W.keepIn K (.ref f_gr) = true)
    (a_re : PySem.W.findIn K (.ref CH) "repeats" = some (some (.ref f_re)))
    (i_re : PySem.W.isFn K (.ref f_re) = true)
    (l_re : K.lookup f_re = some ⟨oc_re, od_re, .func (PySem.W.fnOf "repeats" "History.repeats" (defArgs sRep) (defBody sRep) (defScope sRep) .none kV_re dc_re pm_re an_re cd_re ct_re), sl_re⟩)
    (c_re : PySem.W.codeIn K cd_re "History.repeats" = true)
    (k_re : PySem.W.keepIn K (.ref f_re) = true)
    (a_mi : PySem.W.nsIn K mainGlobals "mirrored" = some (some (.ref f_mi)))
    (l_mi : K.lookup f_mi = some ⟨oc_mi, od_mi, .func (PySem.W.fnOf "mirrored" "mirrored" (defArgs sMir) (defBody sMir) (defScope sMir) .none kV_mi dc_mi pm_mi an_mi cd_mi ct_mi), sl_mi⟩)
    (c_mi : PySem.W.codeIn K cd_mi "mirrored" = true)
    (k_mi : PySem.W.keepIn K (.ref f_mi) = true)
    (a_ta : PySem.W.nsIn K mainGlobals "tail_runner" = some (some (.ref f_ta)))
    (l_ta : K.lookup f_ta = some ⟨oc_ta, od_ta, .func (PySem.W.fnOf "tail" "tail" (defArgs sTail) (defBody sTail) (defScope sTail) .none kV_ta dc_ta pm_ta an_ta cd_ta ct_ta), sl_ta⟩)
    (c_ta : PySem.W.codeIn K cd_ta "tail" = true)
    (k_ta : PySem.W.keepIn K (.ref f_ta) = true)
    (a_il : PySem.W.nsIn K mainGlobals "is_loop" = some (some (.ref f_il)))
    (l_il : K.lookup f_il = some ⟨oc_il, od_il, .func (PySem.W.fnOf "is_loop" "is_loop" (defArgs sIsLoop) (defBody sIsLoop) (defScope sIsLoop) .none kV_il dc_il pm_il an_il cd_il ct_il), sl_il⟩)
    (c_il : PySem.W.codeIn K cd_il "is_loop" = true)
    (k_il : PySem.W.keepIn K (.ref f_il) = true)
    (a_la : PySem.W.nsIn K mainGlobals "last_repeated" = some (some (.ref f_la)))
    (l_la : K.lookup f_la = some ⟨oc_la, od_la, .func (PySem.W.fnOf "last_repeated" "last_repeated" (defArgs sLast) (defBody sLast) (defScope sLast) .none kV_la dc_la pm_la an_la cd_la ct_la), sl_la⟩)
    (c_la : PySem.W.codeIn K cd_la "last_repeated" = true)
    (k_la : PySem.W.keepIn K (.ref f_la) = true)
    (a_fi : PySem.W.nsIn K mainGlobals "find_loop" = some (some (.ref f_fi)))
    (l_fi : K.lookup f_fi = some ⟨oc_fi, od_fi, .func (PySem.W.fnOf "find_loop" "find_loop" (defArgs sFind) (defBody sFind) (defScope sFind) .none kV_fi dc_fi pm_fi an_fi cd_fi ct_fi), sl_fi⟩)
    (c_fi : PySem.W.codeIn K cd_fi "find_loop" = true)
    (k_fi : PySem.W.keepIn K (.ref f_fi) = true)
    (a_sm : PySem.W.nsIn K mainGlobals "_law_stream" = some (some (.ref f_sm)))
    (l_sm : K.lookup f_sm = some ⟨oc_sm, od_sm, .func (PySem.W.fnOf "_law_stream" "_law_stream" (defArgs sStream) (defBody sStream) (defScope sStream) .none kV_sm dc_sm pm_sm an_sm cd_sm ct_sm), sl_sm⟩)
    (c_sm : PySem.W.codeIn K cd_sm "_law_stream" = true)
    (k_sm : PySem.W.keepIn K (.ref f_sm) = true)
    (a_dr : PySem.W.nsIn K mainGlobals "_law_draw" = some (some (.ref f_dr)))
    (l_dr : K.lookup f_dr = some ⟨oc_dr, od_dr, .func (PySem.W.fnOf "_law_draw" "_law_draw" (defArgs sDraw) (defBody sDraw) (defScope sDraw) .none kV_dr dc_dr pm_dr an_dr cd_dr ct_dr), sl_dr⟩)
    (c_dr : PySem.W.codeIn K cd_dr "_law_draw" = true)
    (k_dr : PySem.W.keepIn K (.ref f_dr) = true)
    (a_ne : PySem.W.nsIn K mainGlobals "_law_needed" = some (some (.ref f_ne)))
    (l_ne : K.lookup f_ne = some ⟨oc_ne, od_ne, .func (PySem.W.fnOf "_law_needed" "_law_needed" (defArgs sNeeded) (defBody sNeeded) (defScope sNeeded) .none kV_ne dc_ne pm_ne an_ne cd_ne ct_ne), sl_ne⟩)
    (c_ne : PySem.W.codeIn K cd_ne "_law_needed" = true)
    (k_ne : PySem.W.keepIn K (.ref f_ne) = true)
    (a_gw : PySem.W.nsIn K mainGlobals "_law_grown_machine" = some (some (.ref f_gw)))
    (l_gw : K.lookup f_gw = some ⟨oc_gw, od_gw, .func (PySem.W.fnOf "_law_grown_machine" "_law_grown_machine" (defArgs sGrown) (defBody sGrown) (defScope sGrown) .none kV_gw dc_gw pm_gw an_gw cd_gw ct_gw), sl_gw⟩)
    (c_gw : PySem.W.codeIn K cd_gw "_law_grown_machine" = true)
    (k_gw : PySem.W.keepIn K (.ref f_gw) = true)
    (a_ma : PySem.W.nsIn K mainGlobals "_law_machine" = some (some (.ref f_ma)))
    (l_ma : K.lookup f_ma = some ⟨oc_ma, od_ma, .func (PySem.W.fnOf "_law_machine" "_law_machine" (defArgs sMach) (defBody sMach) (defScope sMach) .none kV_ma dc_ma pm_ma an_ma cd_ma ct_ma), sl_ma⟩)
    (c_ma : PySem.W.codeIn K cd_ma "_law_machine" = true)
    (k_ma : PySem.W.keepIn K (.ref f_ma) = true)
    (a_lm : PySem.W.nsIn K mainGlobals "_law_mirrored" = some (some (.ref f_lm)))
    (l_lm : K.lookup f_lm = some ⟨oc_lm, od_lm, .func (PySem.W.fnOf "_law_mirrored" "_law_mirrored" (defArgs sLMir) (defBody sLMir) (defScope sLMir) .none kV_lm dc_lm pm_lm an_lm cd_lm ct_lm), sl_lm⟩)
    (c_lm : PySem.W.codeIn K cd_lm "_law_mirrored" = true)
    (k_lm : PySem.W.keepIn K (.ref f_lm) = true)
    (a_af : PySem.W.nsIn K mainGlobals "_law_after" = some (some (.ref f_af)))
    (l_af : K.lookup f_af = some ⟨oc_af, od_af, .func (PySem.W.fnOf "_law_after" "_law_after" (defArgs sAfter) (defBody sAfter) (defScope sAfter) .none kV_af dc_af pm_af an_af cd_af ct_af), sl_af⟩)
    (c_af : PySem.W.codeIn K cd_af "_law_after" = true)
    (k_af : PySem.W.keepIn K (.ref f_af) = true)
    (a_hs : PySem.W.nsIn K mainGlobals "_law_history" = some (some (.ref f_hs)))
    (l_hs : K.lookup f_hs = some ⟨oc_hs, od_hs, .func (PySem.W.fnOf "_law_history" "_law_history" (defArgs sHist) (defBody sHist) (defScope sHist) .none kV_hs dc_hs pm_hs an_hs cd_hs ct_hs), sl_hs⟩)
    (c_hs : PySem.W.codeIn K cd_hs "_law_history" = true)
    (k_hs : PySem.W.keepIn K (.ref f_hs) = true)
    (a_lw : PySem.W.nsIn K mainGlobals "law" = some (some (.ref f_lw)))
    (l_lw : K.lookup f_lw = some ⟨oc_lw, od_lw, .func (PySem.W.fnOf "law" "law" (defArgs sLaw) (defBody sLaw) (defScope sLaw) .none kV_lw dc_lw pm_lw an_lw cd_lw ct_lw), sl_lw⟩)
    (c_lw : PySem.W.codeIn K cd_lw "law" = true)
    (k_lw : PySem.W.keepIn K (.ref f_lw) = true)
    (pgCR : PySem.W.plainGet K CR Str.empty = true)
    (hdCR : PySem.W.hasDictIn K CR = true)
    (poCR : PySem.W.plainOver K CR = true)
    (saCR : PySem.W.findIn K (.ref CR) "__setattr__" = some (some (.builtin "object.__setattr__")))
    (mkCR : PySem.W.makesIn K CR = true)
    (kcCR : PySem.W.keepIn K (.ref CR) = true)
    (n_rM : PySem.W.findIn K (.ref CR) "machine" = some none)
    (n_rT : PySem.W.findIn K (.ref CR) "tape" = some none)
    (n_rP : PySem.W.findIn K (.ref CR) "place" = some none)
    (n_rS : PySem.W.findIn K (.ref CR) "state" = some none)
    (n_rN : PySem.W.findIn K (.ref CR) "steps" = some none)
    (pgCH : PySem.W.plainGet K CH Str.empty = true)
    (hdCH : PySem.W.hasDictIn K CH = true)
    (poCH : PySem.W.plainOver K CH = true)
    (saCH : PySem.W.findIn K (.ref CH) "__setattr__" = some (some (.builtin "object.__setattr__")))
    (mkCH : PySem.W.makesIn K CH = true)
    (kcCH : PySem.W.keepIn K (.ref CH) = true)
    (n_hR : PySem.W.findIn K (.ref CH) "runner" = some none)
    (n_hS : PySem.W.findIn K (.ref CH) "states" = some none)
    (n_hP : PySem.W.findIn K (.ref CH) "places" = some none)
    (n_hT : PySem.W.findIn K (.ref CH) "tapes" = some none)
    (zS : PySem.W.nsIn K mainGlobals "STOP" = some (some (.int (-1) tS)))
    (z_tuple : PySem.W.nsIn K mainGlobals "tuple" = some none)
    (z_sorted : PySem.W.nsIn K mainGlobals "sorted" = some none)
    (z_range : PySem.W.nsIn K mainGlobals "range" = some none)
    (z_min : PySem.W.nsIn K mainGlobals "min" = some none)
    (z_int : PySem.W.nsIn K mainGlobals "int" = some none)
    (z_list : PySem.W.nsIn K mainGlobals "list" = some none)
    (z_len : PySem.W.nsIn K mainGlobals "len" = some none)
    (z_abs : PySem.W.nsIn K mainGlobals "abs" = some none)
    (z_dict : PySem.W.nsIn K mainGlobals "dict" = some none)
    : ∃ fd : FuncData, (∀ (s : Shared) (v : Value), BindsTo s fd ⟨[v], []⟩ [("_law_script", v)]) ∧ ∀ base : Heap, K.In base → base.Ns mainGlobals mg → FnOk l.prog w K mg base CX0 6 fa fd ["_law_script"] (spLaw K) := by
  have e := hfa.symm.trans (PySem.W.mg_of X G a_lw)
  cases e
  have T : Txt K mg CR CH := ⟨⟨pgCR, hdCR, poCR, saCR⟩, n_rM, n_rT, n_rP, n_rS, n_rN, PySem.W.mg_of X G aR, ⟨pgCH, hdCH, poCH, saCH⟩, n_hR, n_hS, n_hP, n_hT, PySem.W.mg_of X G aH, ⟨_, PySem.W.mg_of X G zS⟩, PySem.W.mg_none_of X G z_tuple, PySem.W.mg_none_of X G z_sorted, PySem.W.mg_none_of X G z_range, PySem.W.mg_none_of X G z_min, PySem.W.mg_none_of X G z_int, PySem.W.mg_none_of X G z_list, PySem.W.mg_none_of X G z_len, PySem.W.mg_none_of X G z_abs, PySem.W.mg_none_of X G z_dict⟩
  have F_ri := fun_mk (st := sRInit) l_ri c_ri k_ri
  have b_ri := F_ri.binds (ps := ["self", "machine"]) fun _ _ _ _ _ _ us hl => match us, hl with | [_, _], _ => rfl
  have F_sy := fun_mk (st := sSym) l_sy c_sy k_sy
  have b_sy := F_sy.binds (ps := ["self"]) fun _ _ _ _ _ _ us hl => match us, hl with | [_], _ => rfl
  have F_st := fun_mk (st := sStep) l_st c_st k_st
  have b_st := F_st.binds (ps := ["self"]) fun _ _ _ _ _ _ us hl => match us, hl with | [_], _ => rfl
  have F_ru := fun_mk (st := sRun) l_ru c_ru k_ru
  have b_ru := F_ru.binds (ps := ["self", "count"]) fun _ _ _ _ _ _ us hl => match us, hl with | [_, _], _ => rfl
  have F_ce := fun_mk (st := sCells) l_ce c_ce k_ce
  have b_ce := F_ce.binds (ps := ["self"]) fun _ _ _ _ _ _ us hl => match us, hl with | [_], _ => rfl
  have F_rt := fun_mk (st := sRTail) l_rt c_rt k_rt
  have b_rt := F_rt.binds (ps := ["self", "start"]) fun _ _ _ _ _ _ us hl => match us, hl with | [_, _], _ => rfl
  have F_hi := fun_mk (st := sHInit) l_hi c_hi k_hi
  have b_hi := F_hi.binds (ps := ["self", "machine"]) fun _ _ _ _ _ _ us hl => match us, hl with | [_, _], _ => rfl
  have F_gr := fun_mk (st := sGrow) l_gr c_gr k_gr
  have b_gr := F_gr.binds (ps := ["self"]) fun _ _ _ _ _ _ us hl => match us, hl with | [_], _ => rfl
  have F_re := fun_mk (st := sRep) l_re c_re k_re
  have b_re := F_re.binds (ps := ["self", "first", "second", "least"]) fun _ _ _ _ _ _ us hl => match us, hl with | [_, _, _, _], _ => rfl
  have F_mi := fun_mk (st := sMir) l_mi c_mi k_mi
  have b_mi := F_mi.binds (ps := ["machine"]) fun _ _ _ _ _ _ us hl => match us, hl with | [_], _ => rfl
  have g_mi := PySem.W.mg_of X G a_mi
  have F_ta := fun_mk (st := sTail) l_ta c_ta k_ta
  have b_ta := F_ta.binds (ps := ["row", "start"]) fun _ _ _ _ _ _ us hl => match us, hl with | [_, _], _ => rfl
  have g_ta := PySem.W.mg_of X G a_ta
  have F_il := fun_mk (st := sIsLoop) l_il c_il k_il
  have g_il := PySem.W.mg_of X G a_il
  have F_la := fun_mk (st := sLast) l_la c_la k_la
  have b_la := F_la.binds (ps := ["history", "second"]) fun _ _ _ _ _ _ us hl => match us, hl with | [_, _], _ => rfl
  have g_la := PySem.W.mg_of X G a_la
  have F_fi := fun_mk (st := sFind) l_fi c_fi k_fi
  have b_fi := F_fi.binds (ps := ["machine", "count"]) fun _ _ _ _ _ _ us hl => match us, hl with | [_, _], _ => rfl
  have g_fi := PySem.W.mg_of X G a_fi
  have F_sm := fun_mk (st := sStream) l_sm c_sm k_sm
  have b_sm := F_sm.binds (ps := ["_law_script"]) fun _ _ _ _ _ _ us hl => match us, hl with | [_], _ => rfl
  have g_sm := PySem.W.mg_of X G a_sm
  have F_dr := fun_mk (st := sDraw) l_dr c_dr k_dr
  have b_dr := F_dr.binds (ps := ["_law_stream_here", "_law_many"]) fun _ _ _ _ _ _ us hl => match us, hl with | [_, _], _ => rfl
  have g_dr := PySem.W.mg_of X G a_dr
  have F_ne := fun_mk (st := sNeeded) l_ne c_ne k_ne
  have b_ne := F_ne.binds (ps := ["_law_rows", "_law_steps"]) fun _ _ _ _ _ _ us hl => match us, hl with | [_, _], _ => rfl
  have g_ne := PySem.W.mg_of X G a_ne
  have F_gw := fun_mk (st := sGrown) l_gw c_gw k_gw
  have b_gw := F_gw.binds (ps := ["_law_stream_here"]) fun _ _ _ _ _ _ us hl => match us, hl with | [_], _ => rfl
  have g_gw := PySem.W.mg_of X G a_gw
  have F_ma := fun_mk (st := sMach) l_ma c_ma k_ma
  have b_ma := F_ma.binds (ps := ["_law_stream_here"]) fun _ _ _ _ _ _ us hl => match us, hl with | [_], _ => rfl
  have g_ma := PySem.W.mg_of X G a_ma
  have F_lm := fun_mk (st := sLMir) l_lm c_lm k_lm
  have b_lm := F_lm.binds (ps := ["_law_machine_here"]) fun _ _ _ _ _ _ us hl => match us, hl with | [_], _ => rfl
  have g_lm := PySem.W.mg_of X G a_lm
  have F_af := fun_mk (st := sAfter) l_af c_af k_af
  have b_af := F_af.binds (ps := ["_law_machine_here", "_law_now"]) fun _ _ _ _ _ _ us hl => match us, hl with | [_, _], _ => rfl
  have g_af := PySem.W.mg_of X G a_af
  have F_hs := fun_mk (st := sHist) l_hs c_hs k_hs
  have b_hs := F_hs.binds (ps := ["_law_machine_here", "_law_count"]) fun _ _ _ _ _ _ us hl => match us, hl with | [_, _], _ => rfl
  have g_hs := PySem.W.mg_of X G a_hs
  have F_lw := fun_mk (st := sLaw) l_lw c_lw k_lw
  have b_il := kb_il F_il
  refine ⟨PySem.W.fnOf "law" "law" (defArgs sLaw) (defBody sLaw) (defScope sLaw) .none kV_lw dc_lw pm_lw an_lw cd_lw ct_lw, fun s v => .of_eq rfl, fun base _ _ => ?_⟩
  have G_ri : FnOk l.prog w K mg base CX0 1 f_ri _ ["self", "machine"] (spRInit CR) := ok_rinit F_ri T
  have G_st : FnOk l.prog w K mg base CX0 2 f_st _ ["self"] (spStep K CR) := ok_step F_st T F_sy b_sy ⟨a_sy, i_sy, k_sy⟩
  have G_ru : FnOk l.prog w K mg base CX0 3 f_ru _ ["self", "count"] (spRun K CR) := ok_run F_ru T G_st b_st ⟨a_st, i_st, k_st⟩
  have G_ce : FnOk l.prog w K mg base CX0 1 f_ce _ ["self"] (spCells K CR) := ok_cells F_ce T
  have G_ta : FnOk l.prog w K mg base CX0 1 f_ta _ ["row", "start"] (spTail K) := ok_tail F_ta
  have G_rt : FnOk l.prog w K mg base CX0 2 f_rt _ ["self", "start"] (spRTail K CR) := ok_rtail F_rt T G_ta b_ta g_ta k_ta G_ce b_ce ⟨a_ce, i_ce, k_ce⟩
  have G_hi : FnOk l.prog w K mg base CX0 3 f_hi _ ["self", "machine"] (spHInit K CR CH) := ok_hinit F_hi T ⟨mkCR, a_ri, i_ri, kcCR⟩ G_ri b_ri
  have G_gr : FnOk l.prog w K mg base CX0 3 f_gr _ ["self"] (spGrow K CR CH) := ok_grow F_gr T G_st b_st ⟨a_st, i_st, k_st⟩ G_ce b_ce ⟨a_ce, i_ce, k_ce⟩
  have G_re : FnOk l.prog w K mg base CX0 2 f_re _ ["self", "first", "second", "least"] (spRep K CR CH) := ok_rep F_re T G_ta b_ta g_ta k_ta
  have G_la : FnOk l.prog w K mg base CX0 3 f_la _ ["history", "second"] (spLast K CR CH) := ok_last F_la T G_re b_re ⟨a_re, i_re, k_re⟩
  have G_mi : FnOk l.prog w K mg base CX0 1 f_mi _ ["machine"] (spMir K) := ok_mir F_mi T
  have G_il : FnOk l.prog w K mg base CX0 4 f_il _ pIL (spIsLoop K) := ok_isloop F_il T G_mi b_mi g_mi k_mi ⟨mkCR, a_ri, i_ri, kcCR⟩ G_ri b_ri G_ru b_ru ⟨a_ru, i_ru, k_ru⟩ G_st b_st ⟨a_st, i_st, k_st⟩ G_ce b_ce ⟨a_ce, i_ce, k_ce⟩ G_ta b_ta g_ta k_ta G_rt b_rt ⟨a_rt, i_rt, k_rt⟩
  have G_fi : FnOk l.prog w K mg base CX0 5 f_fi _ ["machine", "count"] (spFind K) := ok_find F_fi T G_mi b_mi g_mi k_mi ⟨mkCH, a_hi, i_hi, kcCH⟩ G_hi b_hi G_gr b_gr ⟨a_gr, i_gr, k_gr⟩ G_la b_la g_la k_la
  have G_sm : FnOk l.prog w K mg base CX0 1 f_sm _ ["_law_script"] (spStream K) := ok_stream F_sm T
  have G_dr : FnOk l.prog w K mg base CX0 1 f_dr _ ["_law_stream_here", "_law_many"] spDraw := ok_draw F_dr T
  have G_ne : FnOk l.prog w K mg base CX0 1 f_ne _ ["_law_rows", "_law_steps"] (spNeed K) := ok_need F_ne T
  have G_gw : FnOk l.prog w K mg base CX0 2 f_gw _ ["_law_stream_here"] (spMk K) := ok_grown F_gw T G_dr b_dr g_dr k_dr G_ne b_ne g_ne k_ne
  have G_ma : FnOk l.prog w K mg base CX0 3 f_ma _ ["_law_stream_here"] (spMk K) := ok_mach F_ma T G_dr b_dr g_dr k_dr G_gw b_gw g_gw k_gw
  have G_lm : FnOk l.prog w K mg base CX0 1 f_lm _ ["_law_machine_here"] (spMir K) := ok_lmir F_lm T
  have G_af : FnOk l.prog w K mg base CX0 1 f_af _ ["_law_machine_here", "_law_now"] (spAfter K) := ok_after F_af T
  have G_hs : FnOk l.prog w K mg base CX0 2 f_hs _ ["_law_machine_here", "_law_count"] (spHist K) := ok_hist F_hs T G_af b_af g_af k_af
  exact ok_law F_lw T G_sm b_sm g_sm k_sm G_ma b_ma g_ma k_ma G_lm b_lm g_lm k_lm G_fi b_fi g_fi k_fi G_dr b_dr g_dr k_dr G_hs b_hs g_hs k_hs G_il b_il g_il k_il
theorem walk {l : PySem.W.OpenLaw} {q : Program} {loose : List Str} {XP : (Str → Option Value) → Heap → Prop} {YP : World → Heap → Prop} {d : DefRec} {K : Params → PySem.W.Frag} (hn : l.most = some 63) (hdf : d.params.defaults = [])
    (hY : ∀ (w : World) (h : Heap), YP w h → (K w.params).In h)
    (F : ∀ (w : World) (mg : Str → Option Value) (fa : Addr) (h : Heap), (K w.params).In h → h.Ns mainGlobals mg → mg d.name = some (.ref fa) →
      ∃ fd : FuncData, (∀ (s : Shared) (u : Value), BindsTo s fd ⟨[u], []⟩ [("_law_script", u)]) ∧ ∀ base : Heap, (K w.params).In base → base.Ns mainGlobals mg → FnOk l.prog w (K w.params) mg base CX0 6 fa fd ["_law_script"] (spLaw (K w.params))) :
    PySem.W.WalkO q loose XP YP l.row.toRowW d [] (fun f vs => PySem.call f vs) :=
  L2.walk_of (n := 63) (k := 6) (x := "_law_script") (CX := fun _ => CX0) (sp := fun w => spLaw (K w.params)) hn (by decide) hdf ⟨rfl, by decide, by decide⟩ hY F (fun _ _ a ns hl _ hS => ⟨a, ns, rfl, hS, fun _ => rfl⟩) fun _ _ _ _ _ z => z
end Tac
open PySem PySem.W PyProof.Rows
set_option maxRecDepth 100000 in
set_option maxHeartbeats 0 in
theorem PySem.Challenge.cw_tacet_k34_whole_loops_never_stop_holds : PySem.Challenge.rw_tacet_k34_whole_loops_never_stop.Holds := by
  w_on; o_law; k_head; (case hw => w_witness2)
  k_fill
  refine Tac.walk (l := PySem.Challenge.rw_tacet_k34_whole_loops_never_stop) rfl rfl (fun w h Y => PySem.W.kIn_of Y) ?F
  case F =>
    intro w mg fa h KX G hmg
    refine' Tac.all_mk KX G hmg ?aR ?aH ?a_ri ?i_ri ?l_ri ?c_ri ?k_ri ?a_sy ?i_sy ?l_sy ?c_sy ?k_sy ?a_st ?i_st ?l_st ?c_st ?k_st ?a_ru ?i_ru ?l_ru ?c_ru ?k_ru ?a_ce ?i_ce ?l_ce ?c_ce ?k_ce ?a_rt ?i_rt ?l_rt ?c_rt ?k_rt ?a_hi ?i_hi ?l_hi ?c_hi ?k_hi ?a_gr ?i_gr ?l_gr ?c_gr ?k_gr ?a_re ?i_re ?l_re ?c_re ?k_re ?a_mi ?l_mi ?c_mi ?k_mi ?a_ta ?l_ta ?c_ta ?k_ta ?a_il ?l_il ?c_il ?k_il ?a_la ?l_la ?c_la ?k_la ?a_fi ?l_fi ?c_fi ?k_fi ?a_sm ?l_sm ?c_sm ?k_sm ?a_dr ?l_dr ?c_dr ?k_dr ?a_ne ?l_ne ?c_ne ?k_ne ?a_gw ?l_gw ?c_gw ?k_gw ?a_ma ?l_ma ?c_ma ?k_ma ?a_lm ?l_lm ?c_lm ?k_lm ?a_af ?l_af ?c_af ?k_af ?a_hs ?l_hs ?c_hs ?k_hs ?a_lw ?l_lw ?c_lw ?k_lw ?pgCR ?hdCR ?poCR ?saCR ?mkCR ?kcCR ?n_rM ?n_rT ?n_rP ?n_rS ?n_rN ?pgCH ?hdCH ?poCH ?saCH ?mkCH ?kcCH ?n_hR ?n_hS ?n_hP ?n_hT ?zS ?z_tuple ?z_sorted ?z_range ?z_min ?z_int ?z_list ?z_len ?z_abs ?z_dict
    (case aR => k_is); (case aH => k_is); (case a_ri => k_is); (case i_ri => k_is); (case l_ri => k_is); (case c_ri => k_is)
    (case k_ri => k_is); (case a_sy => k_is); (case i_sy => k_is); (case l_sy => k_is); (case c_sy => k_is); (case k_sy => k_is)
    (case a_st => k_is); (case i_st => k_is); (case l_st => k_is); (case c_st => k_is); (case k_st => k_is); (case a_ru => k_is)
    (case i_ru => k_is); (case l_ru => k_is); (case c_ru => k_is); (case k_ru => k_is); (case a_ce => k_is); (case i_ce => k_is)
    (case l_ce => k_is); (case c_ce => k_is); (case k_ce => k_is); (case a_rt => k_is); (case i_rt => k_is); (case l_rt => k_is)
    (case c_rt => k_is); (case k_rt => k_is); (case a_hi => k_is); (case i_hi => k_is); (case l_hi => k_is); (case c_hi => k_is)
    (case k_hi => k_is); (case a_gr => k_is); (case i_gr => k_is); (case l_gr => k_is); (case c_gr => k_is); (case k_gr => k_is)
    (case a_re => k_is); (case i_re => k_is); (case l_re => k_is); (case c_re => k_is); (case k_re => k_is); (case a_mi => k_is)
    (case l_mi => k_is); (case c_mi => k_is); (case k_mi => k_is); (case a_ta => k_is); (case l_ta => k_is); (case c_ta => k_is)
    (case k_ta => k_is); (case a_il => k_is); (case l_il => k_is); (case c_il => k_is); (case k_il => k_is); (case a_la => k_is)
    (case l_la => k_is); (case c_la => k_is); (case k_la => k_is); (case a_fi => k_is); (case l_fi => k_is); (case c_fi => k_is)
    (case k_fi => k_is); (case a_sm => k_is); (case l_sm => k_is); (case c_sm => k_is); (case k_sm => k_is); (case a_dr => k_is)
    (case l_dr => k_is); (case c_dr => k_is); (case k_dr => k_is); (case a_ne => k_is); (case l_ne => k_is); (case c_ne => k_is)
    (case k_ne => k_is); (case a_gw => k_is); (case l_gw => k_is); (case c_gw => k_is); (case k_gw => k_is); (case a_ma => k_is)
    (case l_ma => k_is); (case c_ma => k_is); (case k_ma => k_is); (case a_lm => k_is); (case l_lm => k_is); (case c_lm => k_is)
    (case k_lm => k_is); (case a_af => k_is); (case l_af => k_is); (case c_af => k_is); (case k_af => k_is); (case a_hs => k_is)
    (case l_hs => k_is); (case c_hs => k_is); (case k_hs => k_is); (case a_lw => k_is); (case l_lw => k_is); (case c_lw => k_is)
    (case k_lw => k_is); (case pgCR => k_is); (case hdCR => k_is); (case poCR => k_is); (case saCR => k_is); (case mkCR => k_is)
    (case kcCR => k_is); (case n_rM => k_is); (case n_rT => k_is); (case n_rP => k_is); (case n_rS => k_is); (case n_rN => k_is)
    (case pgCH => k_is); (case hdCH => k_is); (case poCH => k_is); (case saCH => k_is); (case mkCH => k_is); (case kcCH => k_is)
    (case n_hR => k_is); (case n_hS => k_is); (case n_hP => k_is); (case n_hT => k_is); (case zS => k_is); (case z_tuple => k_is)
    (case z_sorted => k_is); (case z_range => k_is); (case z_min => k_is); (case z_int => k_is); (case z_list => k_is); (case z_len => k_is)
    (case z_abs => k_is); (case z_dict => k_is)
