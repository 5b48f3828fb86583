import PyProof.Rows.All
import Wide.All
import OpenK.AllK
import Wide.FinOn
import HandS.ForMost
import HandS.Evl
import KE.KDictKeyed
import KE.SortData
import HandS.TupLen
import HandS.DictComp
import KE.KDictDisplayH
import HandS.SetBool
import HandS.Strs
import HandS.Conv
import HandS.AnyAll
import HandS.EndTab
import PyProof.GenCompT
import HandS.Sort
import HandS.ForExc
import HandS.TupAny
import HandS.TupMul
import HandS.Style
import HandS.Flow
import HandS.Wide
import HandS.TryMany
import PySem.Challenge.RW_mostspent_k26_whole_growing_entries_cost
section
set_option autoImplicit false
set_option linter.all false
namespace MS
/-- what runs from one state to another can do at best -/
inductive Val where
  | a2 | a0 | a1 | gr | no
  deriving DecidableEq
namespace Val
def rk : Val → Nat
  | a2 => 0 | a0 => 1 | a1 => 2 | gr => 3 | no => 4
def le (x y : Val) : Bool := decide (x.rk ≤ y.rk)
def bst (x y : Val) : Val := if x.rk ≤ y.rk then x else y
def alo : Val → Val → Val
  | no, _ => no
  | _, no => no
  | gr, _ => gr
  | _, gr => gr
  | a2, _ => a2
  | _, a2 => a2
  | a1, _ => a1
  | _, a1 => a1
  | a0, a0 => a0
def sta : Val → Val
  | a2 => a2 | a0 => a0 | a1 => gr | gr => gr | no => no
theorem le_refl (x : Val) : le x x = true := by cases x <;> rfl
theorem le_trans {x y z : Val} (h : le x y = true) (k : le y z = true) : le x z = true := by
  cases x <;> cases y <;> cases z <;> first | rfl | (cases h; done) | (cases k; done)
theorem le_no (x : Val) : le x no = true := by cases x <;> rfl
theorem bst_l (x y : Val) : le (bst x y) x = true := by cases x <;> cases y <;> rfl
theorem bst_r (x y : Val) : le (bst x y) y = true := by cases x <;> cases y <;> rfl
theorem bst_or (x y : Val) : bst x y = x ∨ bst x y = y := by cases x <;> cases y <;> first | exact .inl rfl | exact .inr rfl
theorem alo_mono {a b c d : Val} (h : le a b = true) (k : le c d = true) : le (alo a c) (alo b d) = true := by
  cases a <;> cases b <;> first | (cases h; done) | (cases c <;> cases d <;> first | (cases k; done) | rfl)
theorem alo_assoc (a b c : Val) : alo (alo a b) c = alo a (alo b c) := by cases a <;> cases b <;> cases c <;> rfl
theorem alo_no {a b : Val} (h : alo a b ≠ no) : a ≠ no ∧ b ≠ no := by
  cases a <;> cases b <;> first | exact ⟨by decide, by decide⟩ | exact absurd rfl h
theorem no_alo {a b : Val} (h : a ≠ no) (k : b ≠ no) : alo a b ≠ no := by
  cases a <;> cases b <;> first | decide | exact absurd rfl h | exact absurd rfl k
theorem sta_no {a : Val} : sta a ≠ no ↔ a ≠ no := by cases a <;> simp [sta]
end Val
open Val

def best (l : List Val) : Val := l.foldr bst .no
theorem best_le : ∀ {l : List Val} {v : Val}, v ∈ l → le (best l) v = true
  | a :: l, v, h => by
    show le (bst a (best l)) v = true
    rcases List.mem_cons.mp h with e | h
    · rw [e]; exact bst_l _ _
    · exact le_trans (bst_r _ _) (best_le h)
theorem best_mem : ∀ {l : List Val}, best l ≠ .no → best l ∈ l
  | [], h => absurd rfl h
  | a :: l, h => by
    show bst a (best l) ∈ a :: l
    rcases bst_or a (best l) with e | e
    · rw [e]; exact List.mem_cons_self
    · rw [e]
      refine List.mem_cons_of_mem _ (best_mem fun z => h ?_)
      show bst a (best l) = .no
      rw [e, z]

/-! ### tables -/
abbrev Tab := List (List Val)
def at2 (T : Tab) (i j : Nat) : Val := (T.getD i []).getD j .no
def mkTab (n : Nat) (f : Nat → Nat → Val) : Tab := (List.range n).map fun i => (List.range n).map fun j => f i j
theorem mkTab_len (n : Nat) (f : Nat → Nat → Val) : (mkTab n f).length = n := by simp [mkTab]
theorem at2_mk {n : Nat} {f : Nat → Nat → Val} {i j : Nat} (hi : i < n) (hj : j < n) : at2 (mkTab n f) i j = f i j := by
  unfold at2 mkTab
  simp [List.getD, hi, hj]
def IsTab (n : Nat) (T : Tab) : Prop := T.length = n ∧ ∀ r ∈ T, r.length = n
theorem mkTab_is (n : Nat) (f : Nat → Nat → Val) : IsTab n (mkTab n f) := by
  refine ⟨mkTab_len n f, fun r h => ?_⟩
  obtain ⟨i, _, rfl⟩ := List.mem_map.mp h
  simp

structure Mach where
  states : Nat
  counters : Nat
  letters : Nat
  steps : List (Nat × Nat × Nat × Nat)
  firsts : List Nat
  lasts : List Nat
structure Mach.WF (m : Mach) : Prop where
  s1 : 1 ≤ m.states
  s3 : m.states ≤ 3
  c2 : m.counters ≤ 2
  l1 : 1 ≤ m.letters
  l2 : m.letters ≤ 2
  st : ∀ s ∈ m.steps, s.1 < m.letters ∧ s.2.1 < m.states ∧ s.2.2.1 < m.states ∧ s.2.2.2 ≤ 2 * m.counters
  sl : m.steps.length ≤ 6
  fi : ∀ s ∈ m.firsts, s < m.states
  la : ∀ s ∈ m.lasts, s < m.states
  fl : m.firsts.length ≤ 3
  ll : m.lasts.length ≤ 3

def act : Nat → Val
  | 0 => .a0
  | 1 => .a1
  | _ => .a2
def letT (m : Mach) (a : Nat) : Tab := mkTab m.states fun i j => best ((m.steps.filter fun s => decide (s.1 = a ∧ s.2.1 = i ∧ s.2.2.1 = j)).map fun s => act s.2.2.2)
def seqT (T U : Tab) : Tab := mkTab T.length fun i j => best ((List.range T.length).map fun k => alo (at2 T i k) (at2 U k j))
def repT (T : Tab) : Tab := mkTab T.length fun i j => best ((List.range T.length).map fun k => alo (alo (at2 T i k) (sta (at2 T k k))) (at2 T k j))
def bestV (m : Mach) (T : Tab) : Val := best (m.firsts.flatMap fun f => m.lasts.map fun l => at2 T f l)

theorem seq_le {n : Nat} {T U : Tab} (hT : IsTab n T) {i j k : Nat} (hi : i < n) (hj : j < n) (hk : k < n) : le (at2 (seqT T U) i j) (alo (at2 T i k) (at2 U k j)) = true := by
  unfold seqT
  rw [hT.1, at2_mk hi hj]
  exact best_le (List.mem_map.mpr ⟨k, List.mem_range.mpr hk, rfl⟩)
theorem seq_ex {n : Nat} {T U : Tab} (hT : IsTab n T) {i j : Nat} (hi : i < n) (hj : j < n) (h : at2 (seqT T U) i j ≠ .no) : ∃ k, k < n ∧ at2 T i k ≠ .no ∧ at2 U k j ≠ .no := by
  unfold seqT at h
  rw [hT.1, at2_mk hi hj] at h
  obtain ⟨k, hk, e⟩ := List.mem_map.mp (best_mem h)
  rw [← e] at h
  obtain ⟨h1, h2⟩ := alo_no h
  exact ⟨k, List.mem_range.mp hk, h1, h2⟩
theorem rep_le {n : Nat} {T : Tab} (hT : IsTab n T) {i j k : Nat} (hi : i < n) (hj : j < n) (hk : k < n) : le (at2 (repT T) i j) (alo (alo (at2 T i k) (sta (at2 T k k))) (at2 T k j)) = true := by
  unfold repT
  rw [hT.1, at2_mk hi hj]
  exact best_le (List.mem_map.mpr ⟨k, List.mem_range.mpr hk, rfl⟩)
theorem rep_ex {n : Nat} {T : Tab} (hT : IsTab n T) {i j : Nat} (hi : i < n) (hj : j < n) (h : at2 (repT T) i j ≠ .no) : ∃ k, k < n ∧ at2 T i k ≠ .no ∧ at2 T k k ≠ .no ∧ at2 T k j ≠ .no := by
  unfold repT at h
  rw [hT.1, at2_mk hi hj] at h
  obtain ⟨k, hk, e⟩ := List.mem_map.mp (best_mem h)
  rw [← e] at h
  obtain ⟨h1, h2⟩ := alo_no h
  obtain ⟨h3, h4⟩ := alo_no h1
  exact ⟨k, List.mem_range.mp hk, h3, sta_no.mp h4, h2⟩

/-! ### runs -/
/-- the counters after an action (at most one counter) -/
def app (x : Nat) (c : List Nat) : List Nat := if x = 0 then c else if x = 1 then [c.headD 0 + 1] else [0]
abbrev Cfg := Nat × List Nat
def Run (m : Mach) (n : Nat) : List Nat → Cfg → List Nat → Cfg → Prop
  | [], p, as, q => as = [] ∧ q = p
  | a :: w, p, as, q => ∃ t x as', (a, p.1, t, x) ∈ m.steps ∧ (app x p.2).headD 0 ≤ n ∧ as = x :: as' ∧ Run m n w (t, app x p.2) as' q
theorem Run.mono {m : Mach} {n n' : Nat} (h : n ≤ n') : ∀ {w : List Nat} {p q : Cfg} {as : List Nat}, Run m n w p as q → Run m n' w p as q
  | [], _, _, _, r => r
  | _ :: _, _, _, _, ⟨t, x, as', h1, h2, h3, r⟩ => ⟨t, x, as', h1, Nat.le_trans h2 h, h3, Run.mono h r⟩
theorem Run.app {m : Mach} {n : Nat} : ∀ {w v : List Nat} {p q r : Cfg} {as bs : List Nat}, Run m n w p as q → Run m n v q bs r → Run m n (w ++ v) p (as ++ bs) r
  | [], _, _, _, _, _, _, h, k => by
    obtain ⟨rfl, rfl⟩ := h
    exact k
  | _ :: _, _, _, _, _, _, _, ⟨t, x, as', h1, h2, rfl, h⟩, k => ⟨t, x, _, h1, h2, rfl, Run.app h k⟩
theorem Run.split {m : Mach} {n : Nat} : ∀ {w v : List Nat} {p r : Cfg} {cs : List Nat}, Run m n (w ++ v) p cs r → ∃ q as bs, cs = as ++ bs ∧ Run m n w p as q ∧ Run m n v q bs r
  | [], _, p, _, cs, h => ⟨p, [], cs, rfl, ⟨rfl, rfl⟩, h⟩
  | _ :: _, _, _, _, _, ⟨t, x, as', h1, h2, rfl, h⟩ => by
    obtain ⟨q, as, bs, rfl, k1, k2⟩ := Run.split h
    exact ⟨q, x :: as, bs, rfl, ⟨t, x, as, h1, h2, rfl, k1⟩, k2⟩
/-- the counters' form -/
def Fine (m : Mach) (p : Cfg) : Prop := p.1 < m.states ∧ p.2.length = m.counters
theorem app_len {m : Mach} (hc : m.counters ≤ 1) {x : Nat} {c : List Nat} (hx : x ≤ 2 * m.counters) (h : c.length = m.counters) : (app x c).length = m.counters := by
  unfold app
  split
  · exact h
  · split <;> simp <;> omega
theorem Run.fine {m : Mach} (W : m.WF) (hc : m.counters ≤ 1) {n : Nat} : ∀ {w : List Nat} {p q : Cfg} {as : List Nat}, Run m n w p as q → Fine m p → Fine m q
  | [], _, _, _, ⟨_, e⟩, h => by rw [e]; exact h
  | _ :: _, _, _, _, ⟨_, _, _, h1, _, _, r⟩, h => Run.fine W hc r ⟨(W.st _ h1).2.2.1, app_len hc (W.st _ h1).2.2.2 h.2⟩
theorem Run.low {m : Mach} {n : Nat} : ∀ {w : List Nat} {p q : Cfg} {as : List Nat}, Run m n w p as q → w ≠ [] → q.2.headD 0 ≤ n
  | [], _, _, _, _, h => absurd rfl h
  | [_], _, _, _, ⟨_, _, _, _, h2, _, _, e⟩, _ => by rw [e]; exact h2
  | _ :: b :: w, _, _, _, ⟨_, _, _, _, _, _, r⟩, _ => Run.low r (List.cons_ne_nil _ _)

def gv (as : List Nat) : Val := as.foldr (fun x v => alo (act x) v) .a0
theorem gv_app (as bs : List Nat) : gv (as ++ bs) = alo (gv as) (gv bs) := by
  induction as with
  | nil =>
    have : ∀ v : Val, (v = .a0 ∨ v = .a1 ∨ v = .a2) → alo .a0 v = v := by
      intro v h; rcases h with h | h | h <;> rw [h] <;> rfl
    have k : ∀ l : List Nat, gv l = .a0 ∨ gv l = .a1 ∨ gv l = .a2 := by
      intro l
      induction l with
      | nil => exact .inl rfl
      | cons x l ih =>
        show alo (act x) (gv l) = _ ∨ alo (act x) (gv l) = _ ∨ alo (act x) (gv l) = _
        have hx : act x = .a0 ∨ act x = .a1 ∨ act x = .a2 := by
          unfold act; split <;> simp
        rcases ih with e | e | e <;> rw [e] <;> rcases hx with e | e | e <;> rw [e] <;> simp [alo]
    exact (this _ (k bs)).symm
  | cons x as ih =>
    show alo (act x) (gv (as ++ bs)) = alo (alo (act x) (gv as)) (gv bs)
    rw [ih, alo_assoc]
theorem gv_cases (l : List Nat) : gv l = .a0 ∨ gv l = .a1 ∨ gv l = .a2 := by
  induction l with
  | nil => exact .inl rfl
  | cons x l ih =>
    show alo (act x) (gv l) = _ ∨ alo (act x) (gv l) = _ ∨ alo (act x) (gv l) = _
    have hx : act x = .a0 ∨ act x = .a1 ∨ act x = .a2 := by
      unfold act; split <;> simp
    rcases ih with e | e | e <;> rw [e] <;> rcases hx with e | e | e <;> rw [e] <;> simp [alo]

/-- with no reset the counter does not fall; with an increment it rises -/
theorem Run.rise {m : Mach} (W : m.WF) (hc : m.counters ≤ 1) {n : Nat} : ∀ {w : List Nat} {p q : Cfg} {as : List Nat}, Run m n w p as q → Fine m p → (gv as = .a0 → q.2 = p.2) ∧ (gv as = .a1 → p.2.headD 0 < q.2.headD 0)
  | [], _, _, _, ⟨e1, e2⟩, h => by
    rw [e1, e2]
    exact ⟨fun _ => rfl, fun e => (by cases e)⟩
  | _ :: w, p, q, _, ⟨t, x, as', h1, h2, rfl, r⟩, h => by
    have hx := W.st _ h1
    have f2 : Fine m (t, MS.app x p.2) := ⟨hx.2.2.1, app_len hc hx.2.2.2 h.2⟩
    obtain ⟨i0, i1⟩ := Run.rise W hc r f2
    have eg : gv (x :: as') = alo (act x) (gv as') := rfl
    rw [eg]
    have hx' : x = 0 ∨ x = 1 ∨ 2 ≤ x := by omega
    rcases hx' with rfl | rfl | hx2
    · have e0 : MS.app 0 p.2 = p.2 := rfl
      rw [e0] at i0 i1
      rcases gv_cases as' with e | e | e
      · rw [e]; exact ⟨fun _ => i0 e, fun z => by cases z⟩
      · rw [e]; exact ⟨fun z => (by cases z), fun _ => i1 e⟩
      · rw [e]; exact ⟨fun z => (by cases z), fun z => by cases z⟩
    · have e0 : MS.app 1 p.2 = [p.2.headD 0 + 1] := rfl
      rw [e0] at i0 i1
      rcases gv_cases as' with e | e | e
      · rw [e]; exact ⟨fun z => (by cases z), fun _ => by rw [i0 e]; exact Nat.lt_succ_self _⟩
      · rw [e]; exact ⟨fun z => (by cases z), fun _ => Nat.lt_trans (Nat.lt_succ_self _) (i1 e)⟩
      · rw [e]; exact ⟨fun z => (by cases z), fun z => by cases z⟩
    · have ea : act x = .a2 := by
        unfold act; split
        · omega
        · omega
        · rfl
      rw [ea]
      rcases gv_cases as' with e | e | e <;> rw [e] <;> exact ⟨fun z => (by cases z), fun z => by cases z⟩
theorem Run.cycle {m : Mach} (W : m.WF) (hc : m.counters ≤ 1) {n : Nat} {w : List Nat} {p q : Cfg} {as : List Nat} (r : Run m n w p as q) (h : Fine m p) (e : q.2 = p.2) : gv as = .a0 ∨ gv as = .a2 := by
  rcases gv_cases as with k | k | k
  · exact .inl k
  · have := (r.rise W hc h).2 k
    rw [e] at this
    omega
  · exact .inr k

/-! ### what a table says of a word -/
/-- cheap runs have values that are no better than the table's -/
def Lower (m : Mach) (n : Nat) (T : Tab) (w : List Nat) : Prop := ∀ p q as, Fine m p → Run m n w p as q → le (at2 T p.1 q.1) (gv as) = true
/-- where the table has a value, there is a run -/
def Upper (m : Mach) (T : Tab) (w : List Nat) : Prop := ∀ i j c, i < m.states → j < m.states → c.length = m.counters → at2 T i j ≠ .no → ∃ n as q, Run m n w (i, c) as q ∧ q.1 = j

theorem lower_let {m : Mach} (W : m.WF) (hc : m.counters ≤ 1) {n a : Nat} : Lower m n (letT m a) [a] := by
  intro p q as hp r
  obtain ⟨t, x, as', h1, h2, rfl, rfl, rfl⟩ := r
  have hx := W.st _ h1
  unfold letT
  rw [at2_mk hp.1 hx.2.2.1]
  have e : gv [x] = act x := by
    show alo (act x) .a0 = act x
    unfold act; split <;> rfl
  rw [e]
  exact best_le (List.mem_map.mpr ⟨_, List.mem_filter.mpr ⟨h1, by simp⟩, rfl⟩)
theorem upper_let {m : Mach} (W : m.WF) {a : Nat} : Upper m (letT m a) [a] := by
  intro i j c hi hj hl h
  unfold letT at h
  rw [at2_mk hi hj] at h
  obtain ⟨s, hs, _⟩ := List.mem_map.mp (best_mem h)
  obtain ⟨h1, h2⟩ := List.mem_filter.mp hs
  obtain ⟨l, b, t, x⟩ := s
  simp at h2
  obtain ⟨rfl, rfl, rfl⟩ := h2
  exact ⟨_, [x], (t, app x c), ⟨t, x, [], h1, Nat.le_refl _, rfl, rfl, rfl⟩, rfl⟩
theorem lower_seq {m : Mach} (W : m.WF) (hc : m.counters ≤ 1) {n : Nat} {T U : Tab} {w v : List Nat} (hT : IsTab m.states T) (h : Lower m n T w) (k : Lower m n U v) : Lower m n (seqT T U) (w ++ v) := by
  intro p r cs hp h2
  obtain ⟨q, as, bs, rfl, r1, r2⟩ := h2.split
  have hq := r1.fine W hc hp
  have hr := r2.fine W hc hq
  rw [gv_app]
  exact le_trans (seq_le hT hp.1 hr.1 hq.1) (alo_mono (h _ _ _ hp r1) (k _ _ _ hq r2))
theorem upper_seq {m : Mach} (W : m.WF) (hc : m.counters ≤ 1) {T U : Tab} {w v : List Nat} (hT : IsTab m.states T) (h : Upper m T w) (k : Upper m U v) : Upper m (seqT T U) (w ++ v) := by
  intro i j c hi hj hl e
  obtain ⟨l, hl2, e1, e2⟩ := seq_ex hT hi hj e
  obtain ⟨n, as, q, r, rfl⟩ := h i l c hi hl2 hl e1
  have fq := r.fine W hc ⟨hi, hl⟩
  obtain ⟨n', bs, q', r', rfl⟩ := k q.1 j q.2 hl2 hj fq.2 e2
  exact ⟨max n n', _, q', (r.mono (Nat.le_max_left _ _)).app (r'.mono (Nat.le_max_right _ _)), rfl⟩

def pow (w : List Nat) : Nat → List Nat
  | 0 => []
  | k + 1 => w ++ pow w k
/-- a chain of runs over w: the places between them -/
theorem pow_chain {m : Mach} {n : Nat} {w : List Nat} : ∀ {k : Nat} {p r : Cfg} {cs : List Nat}, Run m n (pow w k) p cs r →
    ∃ qs : List Cfg, ∃ as : List (List Nat), qs.length = k + 1 ∧ as.length = k ∧ qs[0]? = some p ∧ qs[k]? = some r ∧ cs = as.flatten ∧ ∀ i, i < k → ∃ a b x, qs[i]? = some a ∧ qs[i + 1]? = some b ∧ as[i]? = some x ∧ Run m n w a x b
  | 0, p, r, cs, ⟨e1, e2⟩ => ⟨[p], [], rfl, rfl, rfl, by rw [e2]; rfl, e1, fun i hi => absurd hi (Nat.not_lt_zero _)⟩
  | k + 1, p, r, cs, h => by
    obtain ⟨q, a, b, rfl, h1, h2⟩ := Run.split (w := w) h
    obtain ⟨qs, as, l1, l2, e0, ek, rfl, hh⟩ := pow_chain h2
    refine ⟨p :: qs, a :: as, by simp [l1], by simp [l2], rfl, by simpa using ek, rfl, fun i hi => ?_⟩
    cases i with
    | zero => exact ⟨p, q, a, rfl, by simpa using e0, rfl, h1⟩
    | succ i =>
      obtain ⟨x, y, z, k1, k2, k3, k4⟩ := hh i (by omega)
      exact ⟨x, y, z, by simpa using k1, by simpa using k2, by simpa using k3, k4⟩

/-- a part of the chain, at least one run long: the stable table bounds it -/
theorem part_le {m : Mach} (W : m.WF) (hc : m.counters ≤ 1) {n : Nat} {T : Tab} {w : List Nat} (hT : IsTab m.states T) (st : seqT T T = T) (h : Lower m n T w) {qs : List Cfg} {as : List (List Nat)} :
    ∀ (d a : Nat) (p q : Cfg), Fine m p → (∀ i, a ≤ i → i < a + (d + 1) → ∃ x y z, qs[i]? = some x ∧ qs[i + 1]? = some y ∧ as[i]? = some z ∧ Run m n w x z y) → qs[a]? = some p → qs[a + (d + 1)]? = some q →
      Fine m q ∧ le (at2 T p.1 q.1) (gv ((as.drop a).take (d + 1)).flatten) = true
  | 0, a, p, q, hp, hh, e1, e2 => by
    obtain ⟨x, y, z, k1, k2, k3, k4⟩ := hh a (Nat.le_refl _) (by omega)
    rw [e1] at k1; cases k1
    rw [show a + (0 + 1) = a + 1 from rfl, k2] at e2; cases e2
    refine ⟨k4.fine W hc hp, ?_⟩
    have e : ((as.drop a).take (0 + 1)).flatten = z := by
      have : (as.drop a)[0]? = some z := by rw [List.getElem?_drop]; exact k3
      cases hd : as.drop a with
      | nil => rw [hd] at this; cases this
      | cons b bs => rw [hd] at this; cases this; simp
    rw [e]
    exact h _ _ _ hp k4
  | d + 1, a, p, q, hp, hh, e1, e2 => by
    obtain ⟨x, y, z, k1, k2, k3, k4⟩ := hh a (Nat.le_refl _) (by omega)
    rw [e1] at k1; cases k1
    have hy := k4.fine W hc hp
    obtain ⟨hq, ih⟩ := part_le W hc hT st h d (a + 1) y q hy (fun i h1 h2 => hh i (by omega) (by omega)) k2 (by rw [show a + 1 + (d + 1) = a + (d + 1 + 1) by omega]; exact e2)
    refine ⟨hq, ?_⟩
    have e : ((as.drop a).take (d + 1 + 1)).flatten = z ++ ((as.drop (a + 1)).take (d + 1)).flatten := by
      have : (as.drop a)[0]? = some z := by rw [List.getElem?_drop]; exact k3
      have e3 : as.drop (a + 1) = (as.drop a).drop 1 := by rw [List.drop_drop]
      cases hd : as.drop a with
      | nil => rw [hd] at this; cases this
      | cons b bs =>
        rw [hd] at this; cases this
        rw [e3, hd]; simp
    rw [e, gv_app]
    have k5 := seq_le (U := T) hT hp.1 hq.1 hy.1
    rw [st] at k5
    exact le_trans k5 (alo_mono (h _ _ _ hp k4) ih)

/-- two of many numbers below M are the same -/
theorem pigeon : ∀ (M : Nat) (f : Nat → Nat) (K : Nat), M < K → (∀ i, i < K → f i < M) → ∃ a b, a < b ∧ b < K ∧ f a = f b
  | 0, f, K, h, hf => absurd (hf 0 h) (Nat.not_lt_zero _)
  | M + 1, f, K, h, hf => by
    -- the last place's value is taken out
    by_cases hx : ∃ a, a < K - 1 ∧ f a = f (K - 1)
    · obtain ⟨a, ha, e⟩ := hx
      exact ⟨a, K - 1, ha, by omega, e⟩
    · obtain ⟨a, b, h1, h2, e⟩ := pigeon M (fun i => if f i < f (K - 1) then f i else f i - 1) (K - 1) (by omega) (fun i hi => by
        have h1 := hf i (by omega)
        have h2 := hf (K - 1) (by omega)
        have h3 : f i ≠ f (K - 1) := fun e => hx ⟨i, hi, e⟩
        show (if f i < f (K - 1) then f i else f i - 1) < M
        split <;> omega)
      refine ⟨a, b, h1, by omega, ?_⟩
      have h3 : f a ≠ f (K - 1) := fun e => hx ⟨a, by omega, e⟩
      have h4 : f b ≠ f (K - 1) := fun e => hx ⟨b, h2, e⟩
      have e' : (if f a < f (K - 1) then f a else f a - 1) = (if f b < f (K - 1) then f b else f b - 1) := e
      split at e' <;> split at e' <;> omega

def rng (m : Mach) (n : Nat) : Nat := (n + 1) ^ m.counters
def enough (m : Mach) (n : Nat) : Nat := m.states * rng m n + 2
theorem enough_ge (m : Mach) (n : Nat) : 2 ≤ enough m n := Nat.le_add_left _ _

theorem code_lt {s R st v : Nat} (h1 : st < s) (h2 : v < R) : st * R + v < s * R := by
  have : (st + 1) * R ≤ s * R := Nat.mul_le_mul_right R h1
  rw [Nat.add_mul] at this
  omega
theorem code_inj {R a b c d : Nat} (h1 : b < R) (h2 : d < R) (e : a * R + b = c * R + d) : a = c ∧ b = d := by
  have hR : 0 < R := by omega
  have e1 : (a * R + b) / R = a := by
    rw [Nat.mul_comm, Nat.mul_add_div hR, Nat.div_eq_of_lt h1, Nat.add_zero]
  have e2 : (c * R + d) / R = c := by
    rw [Nat.mul_comm, Nat.mul_add_div hR, Nat.div_eq_of_lt h2, Nat.add_zero]
  have e3 : a = c := by rw [← e1, e, e2]
  subst e3
  exact ⟨rfl, by omega⟩

theorem lower_rep {m : Mach} (W : m.WF) (hc : m.counters ≤ 1) {n : Nat} {T : Tab} {w : List Nat} (hT : IsTab m.states T) (st : seqT T T = T) (hw : w ≠ []) (h : Lower m n T w) : Lower m n (repT T) (pow w (enough m n)) := by
  intro p r cs hp h2
  generalize hN : enough m n = N at h2
  have hN' : N = m.states * rng m n + 2 := hN.symm
  obtain ⟨qs, as, l1, l2, e0, ek, rfl, hh⟩ := pow_chain h2
  -- every place is fine
  have fine : ∀ i, i ≤ N → ∀ q, qs[i]? = some q → Fine m q := by
    intro i
    induction i with
    | zero => intro _ q e; rw [e0] at e; cases e; exact hp
    | succ i ih =>
      intro hi q e
      obtain ⟨x, y, z, k1, k2, _, k4⟩ := hh i (by omega)
      rw [e] at k2; cases k2
      exact k4.fine W hc (ih (by omega) x k1)
  have low : ∀ i, 0 < i → i ≤ N → ∀ q, qs[i]? = some q → q.2.headD 0 ≤ n := by
    intro i h0 hi q e
    obtain ⟨x, y, z, k1, k2, _, k4⟩ := hh (i - 1) (by omega)
    rw [show i - 1 + 1 = i by omega, e] at k2; cases k2
    exact k4.low hw
  have hR : ∀ i, 0 < i → i ≤ N → ∀ q, qs[i]? = some q → q.2.headD 0 < rng m n := by
    intro i h0 hi q e
    have h3 := low i h0 hi q e
    have h4 := (fine i hi q e).2
    unfold rng
    have : m.counters = 0 ∨ m.counters = 1 := by omega
    rcases this with k | k
    · rw [k] at h4 ⊢
      have : q.2 = [] := List.length_eq_zero_iff.mp h4
      rw [this]; simp
    · rw [k, Nat.pow_one]; exact Nat.lt_succ_of_le h3
  -- two inner places are the same
  let f : Nat → Nat := fun i => ((qs.getD (i + 1) (0, [])).1) * rng m n + (qs.getD (i + 1) (0, [])).2.headD 0
  have get : ∀ i, i ≤ N → ∃ q, qs[i]? = some q ∧ qs.getD i (0, []) = q := by
    intro i hi
    have hl : i < qs.length := by omega
    exact ⟨qs[i], by simp [hl], by simp [List.getD, hl]⟩
  obtain ⟨a, b, hab, hb, e⟩ := pigeon (m.states * rng m n) f (m.states * rng m n + 1) (Nat.lt_succ_self _) (fun i hi => by
    obtain ⟨q, e1, e2⟩ := get (i + 1) (by omega)
    show (qs.getD (i + 1) (0, [])).1 * rng m n + (qs.getD (i + 1) (0, [])).2.headD 0 < _
    rw [e2]
    exact code_lt (fine _ (by omega) q e1).1 (hR _ (by omega) (by omega) q e1))
  obtain ⟨qa, ea, ea'⟩ := get (a + 1) (by omega)
  obtain ⟨qb, eb, eb'⟩ := get (b + 1) (by omega)
  have e : (qs.getD (a + 1) (0, [])).1 * rng m n + (qs.getD (a + 1) (0, [])).2.headD 0 = (qs.getD (b + 1) (0, [])).1 * rng m n + (qs.getD (b + 1) (0, [])).2.headD 0 := e
  rw [ea', eb'] at e
  have fa := fine _ (by omega) qa ea
  have fb := fine _ (by omega) qb eb
  obtain ⟨es, ev⟩ := code_inj (hR _ (by omega) (by omega) qa ea) (hR _ (by omega) (by omega) qb eb) e
  have ec : qb.2 = qa.2 := by
    have h5 := fa.2
    have h6 := fb.2
    have : m.counters = 0 ∨ m.counters = 1 := by omega
    rcases this with k | k
    · rw [k] at h5 h6
      rw [List.length_eq_zero_iff.mp h5, List.length_eq_zero_iff.mp h6]
    · rw [k] at h5 h6
      obtain ⟨u, hu⟩ := List.length_eq_one_iff.mp h5
      obtain ⟨v, hv⟩ := List.length_eq_one_iff.mp h6
      rw [hu, hv] at ev ⊢
      simp at ev
      rw [ev]
  -- the three parts
  have all : ∀ i, i < N → ∃ x y z, qs[i]? = some x ∧ qs[i + 1]? = some y ∧ as[i]? = some z ∧ Run m n w x z y := fun i hi => hh i hi
  have p1 := part_le W hc hT st h (qs := qs) (as := as) a 0 p qa hp (fun i _ hi => all i (by omega)) e0 (by rw [Nat.zero_add]; exact ea)
  have p2 := part_le W hc hT st h (qs := qs) (as := as) (b - a - 1) (a + 1) qa qb fa (fun i _ hi => all i (by omega)) ea (by rw [show a + 1 + (b - a - 1 + 1) = b + 1 by omega]; exact eb)
  have p3 := part_le W hc hT st h (qs := qs) (as := as) (N - (b + 1) - 1) (b + 1) qb r fb (fun i _ hi => all i (by omega)) eb (by rw [show b + 1 + (N - (b + 1) - 1 + 1) = N by omega]; exact ek)
  have ecut : as.flatten = ((as.drop 0).take (a + 1)).flatten ++ (((as.drop (a + 1)).take (b - a - 1 + 1)).flatten ++ ((as.drop (b + 1)).take (N - (b + 1) - 1 + 1)).flatten) := by
    rw [← List.flatten_append, ← List.flatten_append]
    congr 1
    rw [List.drop_zero]
    have e3 : (as.drop (b + 1)).take (N - (b + 1) - 1 + 1) = as.drop (b + 1) := List.take_of_length_le (by simp; omega)
    rw [e3]
    have e4 : as.drop (b + 1) = (as.drop (a + 1)).drop (b - a - 1 + 1) := by
      rw [List.drop_drop]; congr 1; omega
    rw [e4, List.take_append_drop, List.take_append_drop]
  -- the middle part is a cycle
  have cyc : ∀ (d x : Nat) (u v : Cfg), qs[x]? = some u → qs[x + (d + 1)]? = some v → x + (d + 1) ≤ N → ∃ wd, Run m n wd u ((as.drop x).take (d + 1)).flatten v := by
    intro d
    induction d with
    | zero =>
      intro x u v e1 e2 hx
      obtain ⟨y, z, t, k1, k2, k3, k4⟩ := all x (by omega)
      rw [e1] at k1; cases k1
      rw [show x + (0 + 1) = x + 1 from rfl, k2] at e2; cases e2
      refine ⟨w, ?_⟩
      have e : ((as.drop x).take (0 + 1)).flatten = t := by
        have : (as.drop x)[0]? = some t := by rw [List.getElem?_drop]; exact k3
        cases hd : as.drop x with
        | nil => rw [hd] at this; cases this
        | cons b bs => rw [hd] at this; cases this; simp
      rw [e]; exact k4
    | succ d ih =>
      intro x u v e1 e2 hx
      obtain ⟨y, z, t, k1, k2, k3, k4⟩ := all x (by omega)
      rw [e1] at k1; cases k1
      obtain ⟨wd, r1⟩ := ih (x + 1) z v k2 (by rw [show x + 1 + (d + 1) = x + (d + 1 + 1) by omega]; exact e2) (by omega)
      refine ⟨w ++ wd, ?_⟩
      have e : ((as.drop x).take (d + 1 + 1)).flatten = t ++ ((as.drop (x + 1)).take (d + 1)).flatten := by
        have : (as.drop x)[0]? = some t := by rw [List.getElem?_drop]; exact k3
        have e3 : as.drop (x + 1) = (as.drop x).drop 1 := by rw [List.drop_drop]
        cases hd : as.drop x with
        | nil => rw [hd] at this; cases this
        | cons b bs =>
          rw [hd] at this; cases this
          rw [e3, hd]; simp
      rw [e]
      exact k4.app r1
  obtain ⟨wd, rc⟩ := cyc (b - a - 1) (a + 1) qa qb ea (by rw [show a + 1 + (b - a - 1 + 1) = b + 1 by omega]; exact eb) (by omega)
  have ge := rc.cycle W hc fa ec
  have fr := p3.1
  rw [ecut, gv_app, gv_app]
  have s2 : le (sta (at2 T qa.1 qa.1)) (gv ((as.drop (a + 1)).take (b - a - 1 + 1)).flatten) = true := by
    have q2 := p2.2
    rw [← es] at q2
    rcases ge with g | g <;> rw [g] at q2 ⊢ <;> revert q2 <;> cases at2 T qa.1 qa.1 <;> intro q2 <;> first | rfl | cases q2
  have q3 := p3.2
  rw [← es] at q3
  refine le_trans (rep_le hT hp.1 fr.1 fa.1) ?_
  rw [← alo_assoc]
  exact alo_mono (alo_mono p1.2 s2) q3

theorem pow_app (w : List Nat) : ∀ a b : Nat, pow w (a + b) = pow w a ++ pow w b
  | 0, b => by rw [Nat.zero_add]; rfl
  | a + 1, b => by
    rw [show a + 1 + b = (a + b) + 1 by omega]
    show w ++ pow w (a + b) = (w ++ pow w a) ++ pow w b
    rw [pow_app w a b, List.append_assoc]
theorem upper_loop {m : Mach} (W : m.WF) (hc : m.counters ≤ 1) {T : Tab} {w : List Nat} (h : Upper m T w) {k : Nat} (hk : k < m.states) (e : at2 T k k ≠ .no) : ∀ (N : Nat) (c : List Nat), c.length = m.counters → ∃ n as q, Run m n (pow w N) (k, c) as q ∧ q.1 = k
  | 0, c, _ => ⟨0, [], (k, c), ⟨rfl, rfl⟩, rfl⟩
  | N + 1, c, hl => by
    obtain ⟨n, as, q, r, rfl⟩ := h k k c hk hk hl e
    have fq := r.fine W hc ⟨hk, hl⟩
    obtain ⟨n', bs, q', r', e'⟩ := upper_loop W hc h hk e N q.2 fq.2
    exact ⟨max n n', _, q', (r.mono (Nat.le_max_left _ _)).app (r'.mono (Nat.le_max_right _ _)), e'⟩
theorem upper_rep {m : Mach} (W : m.WF) (hc : m.counters ≤ 1) {T : Tab} {w : List Nat} (hT : IsTab m.states T) (h : Upper m T w) {N : Nat} (hN : 2 ≤ N) : Upper m (repT T) (pow w N) := by
  intro i j c hi hj hl e
  obtain ⟨k, hk, e1, e2, e3⟩ := rep_ex hT hi hj e
  obtain ⟨M, rfl⟩ : ∃ M, N = M + 2 := ⟨N - 2, by omega⟩
  obtain ⟨n1, as1, q1, r1, x1⟩ := h i k c hi hk hl e1
  have f1 := r1.fine W hc ⟨hi, hl⟩
  obtain ⟨n2, as2, q2, r2, x2⟩ := upper_loop W hc h hk e2 M q1.2 f1.2
  have f2 := r2.fine W hc ⟨hk, f1.2⟩
  obtain ⟨n3, as3, q3, r3, x3⟩ := h k j q2.2 hk hj f2.2 e3
  refine ⟨max n1 (max n2 n3), as1 ++ (as2 ++ as3), q3, ?_, x3⟩
  have ew : pow w (M + 2) = w ++ (pow w M ++ w) := by
    show w ++ pow w (M + 1) = _
    rw [pow_app w M 1]
    show _ ++ (_ ++ (w ++ [])) = _
    rw [List.append_nil]
  rw [ew]
  have z1 : q1 = (k, q1.2) := by rw [← x1]
  have z2 : q2 = (k, q2.2) := by rw [← x2]
  refine (r1.mono (Nat.le_max_left _ _)).app ?_
  rw [z1]
  refine (r2.mono (Nat.le_trans (Nat.le_max_left _ _) (Nat.le_max_right _ _))).app ?_
  rw [z2]
  exact r3.mono (Nat.le_trans (Nat.le_max_right _ _) (Nat.le_max_right _ _))
end MS
end
section
set_option autoImplicit false
set_option linter.all false
namespace MS
open Val

/-! ### recipes -/
inductive Line where
  | letter (a : Nat) | both (i j : Nat) | often (i : Nat)
  deriving DecidableEq
def Line.ok (k : Nat) : Line → Prop
  | .letter _ => True
  | .both i j => i < k ∧ j < k
  | .often i => i < k
def tabOf (m : Mach) (l : Line) (ts : List (Option Tab)) : Option Tab :=
  match l with
  | .letter a => if a < m.letters then some (letT m a) else none
  | .both i j => match ts.getD i none, ts.getD j none with
    | some T, some U => some (seqT T U)
    | _, _ => none
  | .often i => match ts.getD i none with
    | some T => if seqT T T = T then some (repT T) else none
    | none => none
def wordLn (N : Nat) (l : Line) (ws : List (List Nat)) : List Nat :=
  match l with
  | .letter a => [a]
  | .both i j => ws.getD i [] ++ ws.getD j []
  | .often i => pow (ws.getD i []) N
def wordsFrom (N : Nat) : List (List Nat) → List Line → List (List Nat)
  | ws, [] => ws
  | ws, l :: ls => wordsFrom N (ws ++ [wordLn N l ws]) ls
def words (N : Nat) (ls : List Line) : List (List Nat) := wordsFrom N [] ls
def wordOf (N : Nat) (ls : List Line) : List Nat := (words N ls).getD (ls.length - 1) []

theorem wordsFrom_app (N : Nat) : ∀ (ls ks : List Line) (ws : List (List Nat)), wordsFrom N ws (ls ++ ks) = wordsFrom N (wordsFrom N ws ls) ks
  | [], _, _ => rfl
  | _ :: ls, ks, ws => wordsFrom_app N ls ks _
theorem wordsFrom_len (N : Nat) : ∀ (ls : List Line) (ws : List (List Nat)), (wordsFrom N ws ls).length = ws.length + ls.length
  | [], _ => rfl
  | _ :: ls, ws => by
    show (wordsFrom N (ws ++ [_]) ls).length = _
    rw [wordsFrom_len N ls]
    simp; omega
theorem words_len (N : Nat) (ls : List Line) : (words N ls).length = ls.length := by
  unfold words; rw [wordsFrom_len]; simp
theorem words_snoc (N : Nat) (ls : List Line) (l : Line) : words N (ls ++ [l]) = words N ls ++ [wordLn N l (words N ls)] := by
  unfold words
  rw [wordsFrom_app]
  rfl
theorem words_pre (N : Nat) (ls ks : List Line) : ∃ r, words N (ls ++ ks) = words N ls ++ r := by
  induction ks generalizing ls with
  | nil => exact ⟨[], by simp⟩
  | cons k ks ih =>
    obtain ⟨r, e⟩ := ih (ls ++ [k])
    rw [words_snoc] at e
    rw [List.append_assoc] at e
    exact ⟨_, by rw [show ls ++ k :: ks = ls ++ ([k] ++ ks) from rfl, e, List.append_assoc]⟩
theorem words_take (N : Nat) (ls : List Line) (i : Nat) (h : i ≤ ls.length) : (words N ls).take i = words N (ls.take i) := by
  obtain ⟨r, e⟩ := words_pre N (ls.take i) (ls.drop i)
  rw [List.take_append_drop] at e
  rw [e, List.take_append_of_le_length (by rw [words_len]; simp; omega)]
  exact List.take_of_length_le (by rw [words_len]; simp; omega)
theorem words_at (N : Nat) (ls : List Line) (i : Nat) (l : Line) (h : ls[i]? = some l) : (words N ls)[i]? = some (wordLn N l ((words N ls).take i)) := by
  have hi : i < ls.length := (List.getElem?_eq_some_iff.mp h).1
  rw [words_take N ls i (by omega)]
  have e : ls.take (i + 1) = ls.take i ++ [l] := by
    rw [List.take_add_one, h]; rfl
  have e2 := words_take N ls (i + 1) (by omega)
  rw [e, words_snoc] at e2
  have : ((words N ls).take (i + 1))[i]? = (words N ls)[i]? := List.getElem?_take_of_lt (by omega)
  rw [← this, e2, List.getElem?_append_right (by rw [words_len]; simp; omega)]
  rw [words_len]
  simp [Nat.min_eq_left (Nat.le_of_lt hi)]
theorem getD_take {α : Type} (l : List α) (i j : Nat) (d : α) (h : j < i) : (l.take i).getD j d = l.getD j d := by
  simp [List.getD, List.getElem?_take_of_lt h]
theorem wordLn_take (N : Nat) (l : Line) (ws : List (List Nat)) (i : Nat) (h : l.ok i) : wordLn N l (ws.take i) = wordLn N l ws := by
  cases l with
  | letter a => rfl
  | both a b => unfold wordLn; simp only [getD_take _ _ _ _ h.1, getD_take _ _ _ _ h.2]
  | often a => unfold wordLn; simp only [getD_take _ _ _ _ (show a < i from h)]
theorem words_get (N : Nat) (ls : List Line) (i : Nat) (l : Line) (h : ls[i]? = some l) (ok : l.ok i) : (words N ls).getD i [] = wordLn N l (words N ls) := by
  have := words_at N ls i l h
  rw [wordLn_take N l _ i ok] at this
  simp [List.getD, this]
/-- the word of the first t + 1 lines -/
theorem wordOf_take (N : Nat) (ls : List Line) (t : Nat) (h : t < ls.length) : wordOf N (ls.take (t + 1)) = (words N ls).getD t [] := by
  unfold wordOf
  rw [← words_take N ls (t + 1) (by omega)]
  have : (ls.take (t + 1)).length - 1 = t := by simp; omega
  rw [this, getD_take _ _ _ _ (Nat.lt_succ_self t)]

/-! ### what is accepted, by the cost -/
def zeros (m : Mach) : List Nat := List.replicate m.counters 0
def RunTo (m : Mach) (w : List Nat) (k : Nat) (p : Cfg) : Prop := ∃ f as, f ∈ m.firsts ∧ Run m k w (f, zeros m) as p
def Acc (m : Mach) (w : List Nat) (k : Nat) : Prop := ∃ p, RunTo m w k p ∧ p.1 ∈ m.lasts
theorem RunTo.mono {m : Mach} {w : List Nat} {k k' : Nat} {p : Cfg} (h : k ≤ k') (r : RunTo m w k p) : RunTo m w k' p := by
  obtain ⟨f, as, h1, h2⟩ := r
  exact ⟨f, as, h1, h2.mono h⟩
theorem Acc.mono {m : Mach} {w : List Nat} {k k' : Nat} (h : k ≤ k') (r : Acc m w k) : Acc m w k' := by
  obtain ⟨p, h1, h2⟩ := r
  exact ⟨p, h1.mono h, h2⟩
theorem runTo_nil {m : Mach} {k : Nat} {p : Cfg} : RunTo m [] k p ↔ p.1 ∈ m.firsts ∧ p.2 = zeros m := by
  constructor
  · rintro ⟨f, as, h1, _, rfl⟩
    exact ⟨h1, rfl⟩
  · rintro ⟨h1, h2⟩
    exact ⟨p.1, [], h1, rfl, by rw [← h2]⟩
theorem runTo_snoc {m : Mach} {w : List Nat} {a k : Nat} {q : Cfg} : RunTo m (w ++ [a]) k q ↔ ∃ p x, RunTo m w k p ∧ (a, p.1, q.1, x) ∈ m.steps ∧ q.2 = app x p.2 ∧ q.2.headD 0 ≤ k := by
  constructor
  · rintro ⟨f, as, h1, h2⟩
    obtain ⟨p, bs, cs, rfl, r1, r2⟩ := h2.split
    obtain ⟨t, x, as', k1, k2, rfl, rfl, rfl⟩ := r2
    exact ⟨p, x, ⟨f, bs, h1, r1⟩, k1, rfl, k2⟩
  · rintro ⟨p, x, ⟨f, as, h1, r1⟩, k1, k2, k3⟩
    refine ⟨f, as ++ [x], h1, r1.app ⟨q.1, x, [], k1, by rw [← k2]; exact k3, rfl, rfl, by rw [← k2]⟩⟩
theorem runTo_fine {m : Mach} (W : m.WF) (hc : m.counters ≤ 1) {w : List Nat} {k : Nat} {p : Cfg} (r : RunTo m w k p) : Fine m p := by
  obtain ⟨f, as, h1, h2⟩ := r
  exact h2.fine W hc ⟨W.fi _ h1, by simp [zeros]⟩

/-! ### a growing entry -/
theorem word_ne {N : Nat} (hN : 1 ≤ N) {w : List Nat} (h : w ≠ []) : pow w N ≠ [] := by
  cases N with
  | zero => omega
  | succ N =>
    show w ++ pow w N ≠ []
    intro e
    exact h (List.append_eq_nil_iff.mp e).1
/-- lines with their tables: each table is the one that its line says -/
def Cons (m : Mach) (es : List (Line × Tab)) : Prop := ∀ i l T, es[i]? = some (l, T) → tabOf m l ((es.take i).map fun e => some e.2) = some T
def LinesOk (ls : List Line) : Prop := ∀ (i : Nat) (l : Line), ls[i]? = some l → l.ok i
theorem tab_at {es : List (Line × Tab)} {i j : Nat} {T : Tab} (h : ((es.take i).map fun e => some e.2).getD j none = some T) : j < i ∧ ∃ l, es[j]? = some (l, T) := by
  rw [List.getD, List.getElem?_map] at h
  cases e : (es.take i)[j]? with
  | none => rw [e] at h; cases h
  | some p =>
    rw [e] at h
    have hj : j < i := by
      have := (List.getElem?_eq_some_iff.mp e).1
      simp at this; omega
    rw [List.getElem?_take_of_lt hj] at e
    have : p.2 = T := Option.some.inj h
    exact ⟨hj, p.1, by rw [e, ← this]⟩
theorem entry_says {m : Mach} (W : m.WF) (hc : m.counters ≤ 1) {es : List (Line × Tab)} (C : Cons m es) (n : Nat) : ∀ (t : Nat) (l : Line) (T : Tab), es[t]? = some (l, T) →
    IsTab m.states T ∧ Lower m n T ((words (enough m n) (es.map (·.1))).getD t []) ∧ Upper m T ((words (enough m n) (es.map (·.1))).getD t []) ∧ (words (enough m n) (es.map (·.1))).getD t [] ≠ [] := by
  intro t
  induction t using Nat.strongRecOn with
  | _ t ih =>
    intro l T h
    have c := C t l T h
    have hl : (es.map (·.1))[t]? = some l := by rw [List.getElem?_map, h]; rfl
    cases l with
    | letter a =>
      have e := words_get (enough m n) _ t _ hl trivial
      unfold tabOf at c
      simp only at c
      split at c
      · cases c
        rw [e]
        exact ⟨mkTab_is _ _, lower_let W hc, upper_let W, List.cons_ne_nil _ _⟩
      · cases c
    | both i j =>
      unfold tabOf at c
      simp only at c
      split at c
      · rename_i A B hA hB
        cases c
        obtain ⟨hi, l1, e1⟩ := tab_at hA
        obtain ⟨hj, l2, e2⟩ := tab_at hB
        have e := words_get (enough m n) _ t _ hl ⟨hi, hj⟩
        obtain ⟨t1, lo1, up1, ne1⟩ := ih i hi l1 A e1
        obtain ⟨t2, lo2, up2, ne2⟩ := ih j hj l2 B e2
        rw [e]
        have q : IsTab m.states (seqT A B) := by unfold seqT; rw [t1.1]; exact mkTab_is _ _
        exact ⟨q, lower_seq W hc t1 lo1 lo2, upper_seq W hc t1 up1 up2, fun z => ne1 (List.append_eq_nil_iff.mp z).1⟩
      · cases c
    | often i =>
      unfold tabOf at c
      simp only at c
      split at c
      · rename_i A hA
        split at c
        · rename_i st
          cases c
          obtain ⟨hi, l1, e1⟩ := tab_at hA
          have e := words_get (enough m n) _ t (.often i) hl hi
          obtain ⟨t1, lo1, up1, ne1⟩ := ih i hi l1 A e1
          rw [e]
          have q : IsTab m.states (repT A) := by unfold repT; rw [t1.1]; exact mkTab_is _ _
          exact ⟨q, lower_rep W hc t1 st ne1 lo1, upper_rep W hc t1 up1 (enough_ge m n), word_ne (Nat.le_trans (by decide) (enough_ge m n)) ne1⟩
        · cases c
      · cases c
theorem bestV_mem {m : Mach} {T : Tab} (h : bestV m T ≠ .no) : ∃ f l, f ∈ m.firsts ∧ l ∈ m.lasts ∧ at2 T f l = bestV m T := by
  have := best_mem h
  obtain ⟨f, hf, h1⟩ := List.mem_flatMap.mp this
  obtain ⟨l, hl, e⟩ := List.mem_map.mp h1
  exact ⟨f, l, hf, hl, e⟩
theorem bestV_le {m : Mach} {T : Tab} {f l : Nat} (hf : f ∈ m.firsts) (hl : l ∈ m.lasts) : le (bestV m T) (at2 T f l) = true :=
  best_le (List.mem_flatMap.mpr ⟨f, hf, List.mem_map.mpr ⟨l, hl, rfl⟩⟩)
/-- the word of a growing entry is accepted and costs more -/
theorem grows_cost {m : Mach} (W : m.WF) (hc : m.counters ≤ 1) {es : List (Line × Tab)} (C : Cons m es) (n t : Nat) {l : Line} {T : Tab} (h : es[t]? = some (l, T)) (g : bestV m T = .gr) :
    (∃ k, Acc m (wordOf (enough m n) ((es.map (·.1)).take (t + 1))) k) ∧ ¬ Acc m (wordOf (enough m n) ((es.map (·.1)).take (t + 1))) n := by
  have ht : t < (es.map (·.1)).length := by
    have := (List.getElem?_eq_some_iff.mp h).1
    simpa using this
  rw [wordOf_take _ _ _ ht]
  obtain ⟨_, lo, up, _⟩ := entry_says W hc C n t l T h
  constructor
  · obtain ⟨f, q, hf, hq, e⟩ := bestV_mem (m := m) (T := T) (by rw [g]; decide)
    obtain ⟨k, as, p, r, rfl⟩ := up f q (zeros m) (W.fi _ hf) (W.la _ hq) (by simp [zeros]) (by rw [e, g]; decide)
    exact ⟨k, p, ⟨f, as, hf, r⟩, hq⟩
  · rintro ⟨p, ⟨f, as, hf, r⟩, hl⟩
    have h1 := lo (f, zeros m) p as ⟨W.fi _ hf, by simp [zeros]⟩ r
    have h2 : le (bestV m T) (at2 T f p.1) = true := bestV_le hf hl
    rw [g] at h2
    have h3 := le_trans h2 h1
    rcases gv_cases as with e | e | e <;> rw [e] at h3 <;> cases h3

/-! ### the search -/
abbrev Poss := List Nat × List Cfg
def Says (m : Mach) (n : Nat) (w : List Nat) (p : Poss) : Prop := (∀ s, s ∈ p.1 ↔ ∃ k c, RunTo m w k (s, c)) ∧ ∀ q, q ∈ p.2 ↔ RunTo m w n q
/-- p' is what p is behind the letter a -/
def After (m : Mach) (n a : Nat) (p p' : Poss) : Prop :=
  (∀ t, t ∈ p'.1 ↔ ∃ s x, s ∈ p.1 ∧ (a, s, t, x) ∈ m.steps) ∧ ∀ q, q ∈ p'.2 ↔ ∃ r x, r ∈ p.2 ∧ (a, r.1, q.1, x) ∈ m.steps ∧ q.2 = app x r.2 ∧ q.2.headD 0 ≤ n
theorem says_snoc {m : Mach} {n : Nat} {w : List Nat} {a : Nat} {p p' : Poss} (h : Says m n w p) (k : After m n a p p') : Says m n (w ++ [a]) p' := by
  constructor
  · intro t
    rw [k.1 t]
    constructor
    · rintro ⟨s, x, hs, hx⟩
      obtain ⟨i, c, r⟩ := (h.1 s).mp hs
      exact ⟨max i ((app x c).headD 0), app x c, runTo_snoc.mpr ⟨(s, c), x, r.mono (Nat.le_max_left _ _), hx, rfl, Nat.le_max_right _ _⟩⟩
    · rintro ⟨i, c, r⟩
      obtain ⟨q, x, r1, hx, _, _⟩ := runTo_snoc.mp r
      exact ⟨q.1, x, (h.1 q.1).mpr ⟨i, q.2, r1⟩, hx⟩
  · intro q
    rw [k.2 q, runTo_snoc]
    constructor
    · rintro ⟨r, x, hr, h1, h2, h3⟩
      exact ⟨r, x, (h.2 r).mp hr, h1, h2, h3⟩
    · rintro ⟨r, x, hr, h1, h2, h3⟩
      exact ⟨r, x, (h.2 r).mpr hr, h1, h2, h3⟩
def Above (m : Mach) (p : Poss) : Prop := (∃ s, s ∈ p.1 ∧ s ∈ m.lasts) ∧ ¬ ∃ q, q ∈ p.2 ∧ q.1 ∈ m.lasts
/-- all words were looked at: n is a bound -/
theorem search_bound {m : Mach} {n : Nat} {ps : List Poss} {p0 : Poss} (h0 : p0 ∈ ps) (hs : Says m n [] p0) (hn : ∀ p ∈ ps, ¬ Above m p) (hx : ∀ p ∈ ps, ∀ a, a < m.letters → ∃ p' ∈ ps, After m n a p p') :
    ∀ w : List Nat, (∀ a ∈ w, a < m.letters) → (∃ k, Acc m w k) → Acc m w n := by
  have all : ∀ v w : List Nat, (∀ a ∈ v, a < m.letters) → (∃ p ∈ ps, Says m n w p) → ∃ p ∈ ps, Says m n (w ++ v) p := by
    intro v
    induction v with
    | nil => intro w _ h; simpa using h
    | cons a v ih =>
      rintro w hv ⟨p, hp, sp⟩
      obtain ⟨p', hp', ap⟩ := hx p hp a (hv a List.mem_cons_self)
      have := ih (w ++ [a]) (fun b hb => hv b (List.mem_cons_of_mem _ hb)) ⟨p', hp', says_snoc sp ap⟩
      simpa using this
  intro w hw ⟨k, q, hq, hl⟩
  obtain ⟨p, hp, sp⟩ := all w [] hw ⟨p0, h0, hs⟩
  rw [List.nil_append] at sp
  have h1 : q.1 ∈ p.1 := (sp.1 q.1).mpr ⟨k, q.2, hq⟩
  have h2 := hn p hp
  by_cases h3 : ∃ r, r ∈ p.2 ∧ r.1 ∈ m.lasts
  · obtain ⟨r, hr, hl'⟩ := h3
    exact ⟨r, (sp.2 r).mp hr, hl'⟩
  · exact absurd ⟨⟨q.1, h1, hl⟩, h3⟩ h2

/-! ### catalogues -/
def Closed (m : Mach) (ts : List Tab) : Prop := (∀ a, a < m.letters → letT m a ∈ ts) ∧ ∀ T ∈ ts, (seqT T T = T → repT T ∈ ts) ∧ ∀ U ∈ ts, seqT T U ∈ ts
theorem closed_of {m : Mach} {ts : List Tab} (hl : ∀ a, a < m.letters → letT m a ∈ ts) (h : ∀ (k : Nat) (T : Tab), ts[k]? = some T → (seqT T T = T → repT T ∈ ts) ∧ ∀ (i : Nat) (U : Tab), i ≤ k → ts[i]? = some U → seqT T U ∈ ts ∧ seqT U T ∈ ts) : Closed m ts := by
  refine ⟨hl, fun T hT => ?_⟩
  obtain ⟨k, ek⟩ := List.mem_iff_getElem?.mp hT
  refine ⟨(h k T ek).1, fun U hU => ?_⟩
  obtain ⟨i, ei⟩ := List.mem_iff_getElem?.mp hU
  by_cases c : i ≤ k
  · exact ((h k T ek).2 i U c ei).1
  · exact ((h i U ei).2 k T (by omega) ek).2

/-! ### what a word costs -/
/-- the least cost, or none -/
def CostIs (m : Mach) (w : List Nat) : Option Nat → Prop
  | none => ∀ k, ¬ Acc m w k
  | some v => Acc m w v ∧ ∀ k, k < v → ¬ Acc m w k
/-- the places that runs reach, each with its least cost -/
def WaysOk (m : Mach) (w : List Nat) (ws : List (Cfg × Nat)) : Prop := ∀ p k, RunTo m w k p ↔ ∃ v, (p, v) ∈ ws ∧ v ≤ k
end MS
end
section
set_option Elab.async false
set_option linter.all false
set_option maxRecDepth 100000
set_option maxHeartbeats 4000000
namespace MW
open PySem PySem.Spec PyProof.Rows L2 Evl

/-! ### data that never changes: None, ints, texts, tuples of such -/
abbrev D := NestedKey
mutual
inductive Rep (H : Hp) : D → V → Prop
  | none : Rep H .none .non
  | num (i : Int) : Rep H (.num i) (.int i)
  | text (x : PySem.Str) : Rep H (.text x) (.str x)
  | tup {a : Addr} {vs : List V} {ks : List D} : H a = some (.tup vs) → Reps H ks vs → Rep H (.tup ks) (.ref a)
inductive Reps (H : Hp) : List D → List V → Prop
  | nil : Reps H [] []
  | cons {d : D} {v : V} {ds : List D} {vs : List V} : Rep H d v → Reps H ds vs → Reps H (d :: ds) (v :: vs)
end
/-- the tuples stay -/
def TEx (H H' : Hp) : Prop := ∀ a xs, H a = some (.tup xs) → H' a = some (.tup xs)
theorem TEx.refl (H : Hp) : TEx H H := fun _ _ h => h
theorem TEx.trans {H H1 H2 : Hp} (a : TEx H H1) (b : TEx H1 H2) : TEx H H2 := fun x o h => b x o (a x o h)
theorem TEx.of {H H' : Hp} (e : Ex H H') : TEx H H' := fun a xs h => e a _ h
theorem TEx.put {H : Hp} {p : Addr} {o : HO} (h : ∀ xs, H p ≠ some (.tup xs)) : TEx H (upd H p o) := fun a xs e => by
  rw [upd_ne fun z => by subst z; exact h xs e]
  exact e
theorem TEx.lst {H : Hp} {p : Addr} {o : HO} {xs : List V} (h : H p = some (.lst xs)) : TEx H (upd H p o) := TEx.put fun ys e => by rw [h] at e; cases e
theorem TEx.new {H : Hp} {p : Addr} {o : HO} (h : H p = none) : TEx H (upd H p o) := TEx.put fun ys e => by rw [h] at e; cases e
mutual
theorem Rep.mono {H H' : Hp} (t : TEx H H') : ∀ (d : D) (v : V), Rep H d v → Rep H' d v
  | .none, _, h => by cases h; exact .none
  | .num i, _, h => by cases h; exact .num i
  | .text x, _, h => by cases h; exact .text x
  | .tup ks, _, h => by
    cases h with
    | tup e r => exact .tup (t _ _ e) (Reps.mono t ks _ r)
theorem Reps.mono {H H' : Hp} (t : TEx H H') : ∀ (ds : List D) (vs : List V), Reps H ds vs → Reps H' ds vs
  | [], _, h => by cases h; exact .nil
  | d :: ds, _, h => by
    cases h with
    | cons h1 h2 => exact .cons (Rep.mono t d _ h1) (Reps.mono t ds _ h2)
end
theorem Rep.ex {H H' : Hp} {d : D} {v : V} (e : Ex H H') (h : Rep H d v) : Rep H' d v := Rep.mono (TEx.of e) _ _ h
theorem Reps.ex {H H' : Hp} {d : List D} {v : List V} (e : Ex H H') (h : Reps H d v) : Reps H' d v := Reps.mono (TEx.of e) _ _ h
theorem Rep.tx {H H' : Hp} {d : D} {v : V} (e : TEx H H') (h : Rep H d v) : Rep H' d v := Rep.mono e _ _ h
theorem Reps.tx {H H' : Hp} {d : List D} {v : List V} (e : TEx H H') (h : Reps H d v) : Reps H' d v := Reps.mono e _ _ h
theorem Reps.length {H : Hp} : ∀ {ds : List D} {vs : List V}, Reps H ds vs → vs.length = ds.length
  | [], _, h => by cases h; rfl
  | _ :: _, _, h => by
    cases h with
    | cons _ r => simp [Reps.length r]
theorem Reps.app {H : Hp} : ∀ {ds es : List D} {vs us : List V}, Reps H ds vs → Reps H es us → Reps H (ds ++ es) (vs ++ us)
  | [], _, _, _, h, k => by cases h; exact k
  | _ :: _, _, _, _, h, k => by
    cases h with
    | cons h1 h2 => exact .cons h1 (Reps.app h2 k)
theorem Reps.one {H : Hp} {d : D} {v : V} (h : Rep H d v) : Reps H [d] [v] := .cons h .nil
theorem Reps.get {H : Hp} : ∀ {ds : List D} {vs : List V} {i : Nat} {d : D}, Reps H ds vs → ds[i]? = some d → ∃ v, vs[i]? = some v ∧ Rep H d v
  | [], _, _, _, _, e => by simp at e
  | _ :: _, _, 0, _, h, e => by
    cases h with
    | cons h1 _ => simp at e; subst e; exact ⟨_, rfl, h1⟩
  | _ :: ds, _, i + 1, d, h, e => by
    cases h with
    | cons _ h2 =>
      obtain ⟨v, k1, k2⟩ := Reps.get (i := i) (d := d) h2 (by simpa using e)
      exact ⟨v, by simpa using k1, k2⟩
theorem Reps.at {H : Hp} : ∀ {ds : List D} {vs : List V} {i : Nat} {v : V}, Reps H ds vs → vs[i]? = some v → ∃ d, ds[i]? = some d ∧ Rep H d v
  | [], _, _, _, h, e => by cases h; simp at e
  | _ :: _, _, 0, _, h, e => by
    cases h with
    | cons h1 _ => simp at e; subst e; exact ⟨_, rfl, h1⟩
  | _ :: ds, _, i + 1, d, h, e => by
    cases h with
    | cons _ h2 =>
      obtain ⟨v, k1, k2⟩ := Reps.at (i := i) (v := d) h2 (by simpa using e)
      exact ⟨v, by simpa using k1, k2⟩
theorem Reps.take {H : Hp} : ∀ {ds : List D} {vs : List V} (n : Nat), Reps H ds vs → Reps H (ds.take n) (vs.take n)
  | _, _, 0, _ => by simp; exact .nil
  | [], _, _ + 1, h => by cases h; exact .nil
  | _ :: _, _, n + 1, h => by
    cases h with
    | cons h1 h2 => exact .cons h1 (Reps.take n h2)
theorem Reps.drop {H : Hp} : ∀ {ds : List D} {vs : List V} (n : Nat), Reps H ds vs → Reps H (ds.drop n) (vs.drop n)
  | _, _, 0, h => by simpa using h
  | [], _, _ + 1, h => by cases h; exact .nil
  | _ :: _, _, n + 1, h => by
    cases h with
    | cons h1 h2 => exact Reps.drop n h2
theorem Reps.set {H : Hp} {d : D} {v : V} (r : Rep H d v) : ∀ {ds : List D} {vs : List V} (i : Nat), Reps H ds vs → Reps H (ds.set i d) (vs.set i v)
  | [], _, _, h => by cases h; exact .nil
  | _ :: _, _, 0, h => by
    cases h with
    | cons h1 h2 => exact .cons r h2
  | _ :: _, _, i + 1, h => by
    cases h with
    | cons h1 h2 => exact .cons h1 (Reps.set r i h2)
theorem Reps.nums {H : Hp} : ∀ ns : List Int, Reps H (ns.map NestedKey.num) (ns.map V.int)
  | [] => .nil
  | n :: ns => .cons (.num n) (Reps.nums ns)
theorem Reps.nums_eq {H : Hp} : ∀ {ns : List Int} {vs : List V}, Reps H (ns.map NestedKey.num) vs → vs = ns.map V.int
  | [], _, h => by cases h; rfl
  | n :: ns, _, h => by
    cases h with
    | cons h1 h2 =>
      cases h1
      rw [Reps.nums_eq h2]
      rfl
mutual
theorem Rep.inj {H : Hp} : ∀ (d e : D) (v : V), Rep H d v → Rep H e v → d = e
  | .none, _, _, h, k => by cases h; cases k; rfl
  | .num i, _, _, h, k => by cases h; cases k; rfl
  | .text x, _, _, h, k => by cases h; cases k; rfl
  | .tup ks, _, _, h, k => by
    cases h with
    | tup e r =>
      cases k with
      | tup e' r' =>
        rw [e] at e'; cases e'
        rw [Reps.inj ks _ _ r r']
theorem Reps.inj {H : Hp} : ∀ (ds es : List D) (vs : List V), Reps H ds vs → Reps H es vs → ds = es
  | [], _, _, h, k => by cases h; cases k; rfl
  | d :: ds, _, _, h, k => by
    cases h with
    | cons h1 h2 =>
      cases k with
      | cons k1 k2 => rw [Rep.inj d _ _ h1 k1, Reps.inj ds _ _ h2 k2]
end
theorem rep_num {H : Hp} {i : Int} {v : V} (h : Rep H (.num i) v) : v = .int i := by cases h; rfl
theorem rep_none {H : Hp} {v : V} (h : Rep H .none v) : v = .non := by cases h; rfl
theorem rep_text {H : Hp} {x : PySem.Str} {v : V} (h : Rep H (.text x) v) : v = .str x := by cases h; rfl
theorem rep_tup {H : Hp} {ks : List D} {v : V} (h : Rep H (.tup ks) v) : ∃ a vs, v = .ref a ∧ H a = some (.tup vs) ∧ Reps H ks vs := by
  cases h with
  | tup e r => exact ⟨_, _, rfl, e, r⟩
theorem rep_non {H : Hp} {d : D} (h : Rep H d .non) : d = .none := by cases h; rfl

mutual
theorem Rep.dp {K : PySem.W.Frag} {H : Hp} : ∀ (d : D) (v : V), Rep H d v → Dp K H v d.data
  | .none, _, h => by cases h; rw [NestedKey.data]; exact .non
  | .num i, _, h => by cases h; rw [NestedKey.data]; exact .int i
  | .text x, _, h => by cases h; rw [NestedKey.data]; exact .str x
  | .tup ks, _, h => by
    cases h with
    | tup e r => rw [NestedKey.data]; exact .tup (SqT.of e) (Reps.dp ks _ r)
theorem Reps.dp {K : PySem.W.Frag} {H : Hp} : ∀ (ds : List D) (vs : List V), Reps H ds vs → DpAll K H vs (NestedKey.datas ds)
  | [], _, h => by cases h; rw [NestedKey.datas]; exact .nil
  | d :: ds, _, h => by
    cases h with
    | cons h1 h2 => rw [NestedKey.datas]; exact .cons (Rep.dp d _ h1) (Reps.dp ds _ h2)
end
mutual
theorem eqv_data : ∀ a b : D, PyData.eqv a.data b.data = NestedKey.beq a b
  | .none, .none => rfl
  | .num a, .num b => by simp [NestedKey.data, PyData.eqv, NestedKey.beq, Bool.beq_eq_decide_eq]
  | .text a, .text b => by simp [NestedKey.data, PyData.eqv, NestedKey.beq, Bool.beq_eq_decide_eq]
  | .tup a, .tup b => by simp only [NestedKey.data, PyData.eqv, NestedKey.beq]; exact eqv_datas a b
  | .none, .num _ => rfl
  | .none, .text _ => rfl
  | .none, .tup _ => rfl
  | .num _, .none => rfl
  | .num _, .text _ => rfl
  | .num _, .tup _ => rfl
  | .text _, .none => rfl
  | .text _, .num _ => rfl
  | .text _, .tup _ => rfl
  | .tup _, .none => rfl
  | .tup _, .num _ => rfl
  | .tup _, .text _ => rfl
theorem eqv_datas : ∀ a b : List D, PyData.eqvAll (NestedKey.datas a) (NestedKey.datas b) = NestedKey.beqAll a b
  | [], [] => rfl
  | a :: as, b :: bs => by simp only [NestedKey.datas, PyData.eqvAll, NestedKey.beqAll]; rw [eqv_data a b, eqv_datas as bs]
  | [], _ :: _ => rfl
  | _ :: _, [] => rfl
end
theorem eqv_dec (a b : D) : PyData.eqv a.data b.data = decide (a = b) := by rw [eqv_data, NestedKey.decide_eq]
mutual
theorem depth_data : ∀ d : D, d.data.depth = d.depth
  | .none => rfl
  | .num _ => rfl
  | .text _ => rfl
  | .tup ks => by simp only [NestedKey.data, PyData.depth, NestedKey.depth]; rw [depth_datas ks]
theorem depth_datas : ∀ ds : List D, PyData.depthAll (NestedKey.datas ds) = NestedKey.depthAll ds
  | [] => rfl
  | d :: ds => by simp only [NestedKey.datas, PyData.depthAll, NestedKey.depthAll]; rw [depth_data d, depth_datas ds]
end
mutual
def okT : D → Bool
  | .none => true
  | .num _ => true
  | .text x => PyData.strOk x
  | .tup ks => okTs ks
def okTs : List D → Bool
  | [] => true
  | d :: ds => okT d && okTs ds
end
mutual
theorem lay_data : ∀ d : D, d.data.canLay0 = okT d
  | .none => rfl
  | .num _ => rfl
  | .text _ => rfl
  | .tup ks => by simp only [NestedKey.data, PyData.canLay0, okT]; exact lay_datas ks
theorem lay_datas : ∀ ds : List D, PyData.canLayAll0 (NestedKey.datas ds) = okTs ds
  | [] => rfl
  | d :: ds => by simp only [NestedKey.datas, PyData.canLayAll0, okTs]; rw [lay_data d, lay_datas ds]
end
/-- data of little depth with short texts -/
def Fit (d : D) : Prop := okT d = true ∧ d.depth ≤ 8
theorem Fit.shaped {d : D} (h : Fit d) : SeqAt.shaped d.data = true := by
  unfold SeqAt.shaped
  rw [lay_data, h.1, depth_data]
  simp
  have := h.2
  omega
section
variable {X : Cx} {pins : List (Addr × Obj)} {σ : L2.St} {H : Hp} {s : Shared}
mutual
theorem Rep.is (I : Inv X pins σ H s) : ∀ (d : D) (v : V) (u : Value), Rep H d v → RelV v u → NestedIs s.heap d u
  | .none, _, _, h, r => by cases h; cases r; exact .none
  | .num i, _, _, h, r => by cases h; obtain ⟨t, rfl⟩ := r; exact .int i t
  | .text x, _, _, h, r => by cases h; obtain ⟨t, rfl⟩ := r; exact .text x t
  | .tup ks, _, _, h, r => by
    cases h with
    | tup e q =>
      cases r
      obtain ⟨its, rv, ⟨o, ho, hc, n, hd⟩, _⟩ := I.tuple (SqT.of e)
      exact .tup ho hc hd (by simpa using Reps.is I ks _ its q rv)
theorem Reps.is (I : Inv X pins σ H s) : ∀ (ds : List D) (vs : List V) (us : List Value), Reps H ds vs → Vals vs us → NestedAll s.heap ds us
  | [], _, _, h, r => by cases h; cases r; exact .nil
  | d :: ds, _, _, h, r => by
    cases h with
    | cons h1 h2 =>
      cases r with
      | cons r1 r2 => exact .cons (Rep.is I d _ _ h1 r1) (Reps.is I ds _ _ h2 r2)
end
/-- == and != of such data -/
def rEqN : R2 := fun x y H Q => ∃ d e, Rep H d x ∧ Rep H e y ∧ Fit d ∧ Fit e ∧ Q (.bl (decide (d = e))) H
def rNeN : R2 := fun x y H Q => ∃ d e, Rep H d x ∧ Rep H e y ∧ Fit d ∧ Fit e ∧ Q (.bl (!decide (d = e))) H
theorem op_eqN (hu : X.A.units + 64 < cLine) : OpR X (compareOp .Eq) rEqN := by
  intro pins s σ H x y v u Q I rx ry h
  obtain ⟨d, e, hd, he, fd, fe, q⟩ := h
  exact op_eqD hu pins s σ H x y v u Q I rx ry ⟨d.data, e.data, Rep.dp d x hd, Rep.dp e y he, fd.shaped, fe.shaped, by rw [eqv_dec]; exact q⟩
theorem op_neN (hu : X.A.units + 64 < cLine) : OpR X (compareOp .NotEq) rNeN := by
  intro pins s σ H x y v u Q I rx ry h
  obtain ⟨d, e, hd, he, fd, fe, q⟩ := h
  exact op_neD hu pins s σ H x y v u Q I rx ry ⟨d.data, e.data, Rep.dp d x hd, Rep.dp e y he, fd.shaped, fe.shaped, by rw [eqv_dec]; exact q⟩
end
end MW
end
section
set_option Elab.async false
set_option linter.all false
set_option maxRecDepth 100000
set_option maxHeartbeats 4000000
/-! Dicts whose keys are nested tuples. -/
namespace MW
open PySem PySem.Spec PyProof.Rows L2 Evl

/-- an entry: its key, where the key's tuple stands, its value -/
abbrev NE := D × Addr × V
def NT : List NE → List (D × Addr × Value) → Prop := Paired fun p q => p.1 = q.1 ∧ p.2.1 = q.2.1 ∧ RelV p.2.2 q.2.2
def flat (ts : List NE) : List (D × V) := ts.map fun t => (t.1, t.2.2)
def putN (ts : List NE) (k : D) (b : Addr) (v : V) : List NE :=
  if (valV (flat ts) k).isSome then ts.map fun t => if t.1 = k then (t.1, t.2.1, v) else t else ts ++ [(k, b, v)]
theorem valV_flat_cons (t : NE) (ts : List NE) (k : D) : valV (flat (t :: ts)) k = if t.1 = k then some t.2.2 else valV (flat ts) k := by
  by_cases e : t.1 = k
  · rw [if_pos e]
    exact valV_pos (p := (t.1, t.2.2)) (r := flat ts) e
  · rw [if_neg e]
    exact valV_neg (p := (t.1, t.2.2)) (r := flat ts) e
theorem NT.val {ts : List NE} {xs : List (D × Addr × Value)} (r : NT ts xs) (k : D) : RelO (valV (flat ts) k) ((atKey xs k).map (·.2)) := by
  unfold NT at r
  induction r with
  | nil => exact True.intro
  | @cons p q ps qs h _ ih =>
    rw [valV_flat_cons]
    unfold atKey at ih ⊢
    rw [List.find?_cons]
    by_cases e : p.1 = k
    · rw [if_pos e, show decide (q.1 = k) = true from decide_eq_true (h.1 ▸ e)]
      exact h.2.2
    · rw [if_neg e, show decide (q.1 = k) = false from decide_eq_false (h.1 ▸ e)]
      exact ih
theorem flat_put (ts : List NE) (k : D) (b : Addr) (v : V) : flat (putN ts k b v) = putK (flat ts) k v := by
  unfold putN putK
  rw [valV_any]
  split
  · unfold flat
    rw [List.map_map, List.map_map]
    refine List.map_congr_left fun t _ => ?_
    simp only [Function.comp_apply]
    by_cases e : t.1 = k
    · rw [if_pos e, if_pos e]
    · rw [if_neg e, if_neg e]
  · unfold flat
    rw [List.map_append]
    rfl
theorem putN_len (ts : List NE) (k : D) (b : Addr) (v : V) : (putN ts k b v).length ≤ ts.length + 1 := by
  unfold putN
  split <;> simp
theorem putN_mem {ts : List NE} {k : D} {b : Addr} {v : V} {t : NE} (h : t ∈ putN ts k b v) : (∃ u, u ∈ ts ∧ t.1 = u.1 ∧ t.2.1 = u.2.1) ∨ (t.1 = k ∧ t.2.1 = b) := by
  unfold putN at h
  split at h
  · obtain ⟨u, hu, rfl⟩ := List.mem_map.mp h
    refine .inl ⟨u, hu, ?_⟩
    split <;> exact ⟨rfl, rfl⟩
  · rcases List.mem_append.mp h with h | h
    · exact .inl ⟨t, h, rfl, rfl⟩
    · have : t = (k, b, v) := by simpa using h
      subst this
      exact .inr ⟨rfl, rfl⟩
theorem NT.repl {ts : List NE} {xs : List (D × Addr × Value)} (r : NT ts xs) (k : D) {y : V} {u : Value} (ry : RelV y u) : NT (ts.map fun t => if t.1 = k then (t.1, t.2.1, y) else t) (xs.map (putAt k u)) := by
  unfold NT at r
  induction r with
  | nil => exact .nil
  | @cons p q ps qs h _ ih =>
    refine .cons ?_ ih
    unfold putAt
    dsimp only
    by_cases e : p.1 = k
    · rw [if_pos e, if_pos (h.1 ▸ e)]
      exact ⟨h.1, h.2.1, ry⟩
    · rw [if_neg e, if_neg (h.1 ▸ e)]
      exact h
theorem NT.snoc {ts : List NE} {xs : List (D × Addr × Value)} (r : NT ts xs) {k : D} {b : Addr} {y : V} {u : Value} (ry : RelV y u) : NT (ts ++ [(k, b, y)]) (xs ++ [(k, b, u)]) := by
  unfold NT at r
  induction r with
  | nil => exact .cons ⟨rfl, rfl, ry⟩ .nil
  | cons h _ ih => exact .cons h ih
theorem NT.put {ts : List NE} {xs : List (D × Addr × Value)} (r : NT ts xs) (k : D) {b : Addr} {y : V} {u : Value} (ry : RelV y u) : NT (putN ts k b y) (storedH xs k b u) := by
  unfold putN storedH
  have q := (r.val k).isSome_eq
  rw [Option.isSome_map] at q
  rw [q]
  split
  · exact r.repl k ry
  · exact r.snoc ry
theorem NT.length {ts : List NE} {xs : List (D × Addr × Value)} (r : NT ts xs) : ts.length = xs.length := Paired.length r
theorem NT.mem {ts : List NE} {xs : List (D × Addr × Value)} (r : NT ts xs) : ∀ x ∈ xs, ∃ t ∈ ts, t.1 = x.1 ∧ t.2.1 = x.2.1 := by
  unfold NT at r
  induction r with
  | nil => intro x hx; simp at hx
  | @cons p q ps qs h _ ih =>
    intro x hx
    rcases List.mem_cons.mp hx with rfl | hx
    · exact ⟨p, List.mem_cons_self, h.1, h.2.1⟩
    · obtain ⟨t, ht, e⟩ := ih x hx
      exact ⟨t, List.mem_cons_of_mem _ ht, e⟩

/-! ### the object -/
def NDφ (P : Program) (w : World) (a : Addr) (ts : List NE) (h : Heap) : Prop :=
  ts.length ≤ sizeLine ∧ (a == sysModules) = false ∧ ∃ xs, NT ts xs ∧ ∃ o es ep, h.get? a = some o ∧ o.ExactDict ∧ o.data = .dict es ep ∧ es.toList = xs.map (entryOfKey (nestedKind P w)) ∧ (xs.map (·.1)).Nodup
def NDO (P : Program) (w : World) (a : Addr) (ts : List NE) : HO := .ext (NDφ P w a ts)
theorem nd_ok {P : Program} {w : World} {H : Hp} {h : Heap} {a : Addr} {ts : List NE} (x : NDφ P w a ts h) : ObjOk P w H h a (NDO P w a ts) := by
  obtain ⟨z, y, xs, r, o, es, ep, e, c⟩ := id x
  refine ⟨x, ⟨o, e⟩, fun h1 h2 q k => ?_⟩
  obtain ⟨z, y, xs, r, o, es, ep, e, c⟩ := q
  exact ⟨z, y, xs, r, o, es, ep, k _ e, c⟩
def KeysIn (H : Hp) (ts : List NE) : Prop := ∀ t ∈ ts, Rep H t.1 (.ref t.2.1) ∧ t.1.depth ≤ 8
theorem KeysIn.tx {H H' : Hp} {ts : List NE} (h : KeysIn H ts) (t : TEx H H') : KeysIn H' ts := fun x hx => ⟨(h x hx).1.tx t, (h x hx).2⟩
/-- at a a dict with nested keys may be read | stands | is locked -/
def NDR (P : Program) (w : World) (H : Hp) (a : Addr) (kvs : List (D × V)) : Prop := ∃ ts, Rd H a (NDO P w a ts) ∧ flat ts = kvs ∧ KeysIn H ts
def NDS (P : Program) (w : World) (H : Hp) (a : Addr) (kvs : List (D × V)) : Prop := ∃ ts, H a = some (NDO P w a ts) ∧ flat ts = kvs ∧ KeysIn H ts
theorem NDS.r {P : Program} {w : World} {H : Hp} {a : Addr} {kvs : List (D × V)} (h : NDS P w H a kvs) : NDR P w H a kvs := by
  obtain ⟨ts, e, r⟩ := h
  exact ⟨ts, .inl e, r⟩
theorem NDS.ex {P : Program} {w : World} {H H' : Hp} {a : Addr} {kvs : List (D × V)} (h : NDS P w H a kvs) (e : H' a = H a) (t : TEx H H') : NDS P w H' a kvs := by
  obtain ⟨ts, q, f, k⟩ := h
  exact ⟨ts, e.trans q, f, k.tx t⟩
theorem NDR.ex {P : Program} {w : World} {H H' : Hp} {a : Addr} {kvs : List (D × V)} (h : NDR P w H a kvs) (e : Ex H H') : NDR P w H' a kvs := by
  obtain ⟨ts, q, f, k⟩ := h
  exact ⟨ts, ex_rd e q, f, k.tx (TEx.of e)⟩
section
variable {X : Cx} {pins : List (Addr × Obj)} {σ : L2.St} {H : Hp} {s : Shared} {a : Addr} {y v : V} {u r : Value} {A : Around} {E : Value → Shared → Prop} {kvs : List (D × V)} {k : D}
theorem nd_rd (I : Inv X pins σ H s) {ts : List NE} (e : Rd H a (NDO X.prog X.w a ts)) (K : KeysIn H ts) : ts.length ≤ sizeLine ∧ (a == sysModules) = false ∧ ∃ xs, NT ts xs ∧ s.heap.DictOfH (nestedKind X.prog X.w) a xs := by
  obtain ⟨⟨z, y, xs, r, o, es, ep, h1, h2, h3, h4, h5⟩, _⟩ := e.ok I.hok
  refine ⟨z, y, xs, r, o, es, ep, h1, h2, h3, h4, fun x hx => ?_, h5⟩
  obtain ⟨t, ht, e1, e2⟩ := r.mem x hx
  have q := K t ht
  rw [e1, e2] at q
  exact ⟨Rep.is I _ _ _ q.1 rfl, q.2⟩
theorem nk_is (I : Inv X pins σ H s) {ks : List D} (h : Rep H (.tup ks) y) (hd : (NestedKey.tup ks).depth ≤ 8) (ry : RelV y u) : ∃ b, y = .ref b ∧ u = .ref b ∧ (nestedKind X.prog X.w).is s.heap (.tup ks) b := by
  obtain ⟨b, vs, rfl, _, _⟩ := rep_tup h
  cases ry
  exact ⟨b, rfl, rfl, Rep.is I _ _ _ h rfl, hd⟩
theorem nd_room (hu : A.units + 64 < cLine) : (nestedKind X.prog X.w).room A.in1 := by
  show A.units + 1 + 8 < cLine
  omega
/-- k in d -/
theorem nd_in {ks : List D} {Q : Value → Shared → Prop} (hu : A.units + 64 < cLine) (I : Inv X pins σ H s) (g : NDR X.prog X.w H a kvs) (hk : Rep H (.tup ks) y) (hd : (NestedKey.tup ks).depth ≤ 8) (ry : RelV y u) (h : ∀ s', Inv X pins σ H s' → Q (.bool (valV kvs (.tup ks)).isSome) s') :
    wpAny (model X.prog X.w) A (compareOp .In u (.ref a)) Q E s := by
  obtain ⟨ts, e, rfl, K⟩ := g
  obtain ⟨z, hs, xs, rel, dd⟩ := nd_rd I e K
  obtain ⟨b, rfl, rfl, ki⟩ := nk_is I hk hd ry
  refine wpAny_in_heap (nd_room hu) ki hs dd ?_
  have q := (rel.val (.tup ks)).isSome_eq
  rw [Option.isSome_map] at q
  rw [← q]
  exact h _ (I.tok _)
theorem nd_notIn {ks : List D} {Q : Value → Shared → Prop} (hu : A.units + 64 < cLine) (I : Inv X pins σ H s) (g : NDR X.prog X.w H a kvs) (hk : Rep H (.tup ks) y) (hd : (NestedKey.tup ks).depth ≤ 8) (ry : RelV y u) (h : ∀ s', Inv X pins σ H s' → Q (.bool (!(valV kvs (.tup ks)).isSome)) s') :
    wpAny (model X.prog X.w) A (compareOp .NotIn u (.ref a)) Q E s := by
  obtain ⟨ts, e, rfl, K⟩ := g
  obtain ⟨z, hs, xs, rel, dd⟩ := nd_rd I e K
  obtain ⟨b, rfl, rfl, ki⟩ := nk_is I hk hd ry
  refine wpAny_notIn_heap (nd_room hu) ki hs dd ?_
  have q := (rel.val (.tup ks)).isSome_eq
  rw [Option.isSome_map] at q
  rw [← q]
  exact h _ (I.tok _)
/-- d[k], there -/
theorem nd_getItem {ks : List D} {Q : Value → Shared → Prop} (hu : A.units + 64 < cLine) (I : Inv X pins σ H s) (g : NDR X.prog X.w H a kvs) (hk : Rep H (.tup ks) y) (hd : (NestedKey.tup ks).depth ≤ 8) (hv : valV kvs (.tup ks) = some v) (ry : RelV y u) (h : ∀ w' s', Inv X pins σ H s' → RelV v w' → Q w' s') :
    wpAny (model X.prog X.w) A (getItem (.ref a) u) Q E s := by
  obtain ⟨ts, e, rfl, K⟩ := g
  obtain ⟨z, hs, xs, rel, dd⟩ := nd_rd I e K
  obtain ⟨b, rfl, rfl, ki⟩ := nk_is I hk hd ry
  obtain ⟨w', hw, rw'⟩ := RelO.some_of (v := v) (o := (atKey xs (.tup ks)).map (·.2)) (by rw [← hv]; exact rel.val _)
  obtain ⟨p, hp, hp2⟩ := Option.map_eq_some_iff.mp hw
  refine wpAny_getItem_heap (nd_room hu) ki dd hp ?_
  rw [hp2]
  exact h w' _ (I.tok _) rw'
/-- d.get(k, x) -/
theorem nd_get2 {ks : List D} {d : V} {Q : Value → Shared → Prop} (hu : A.units + 64 < cLine) (I : Inv X pins σ H s) (g : NDR X.prog X.w H a kvs) (hk : Rep H (.tup ks) y) (hd : (NestedKey.tup ks).depth ≤ 8) (ry : RelV y u) (rd : RelV d r) (h : ∀ w' s', Inv X pins σ H s' → RelV ((valV kvs (.tup ks)).getD d) w' → Q w' s') :
    wpAny (model X.prog X.w) A (call (.builtin "dict.get") [.ref a, u, r]) Q E s := by
  obtain ⟨ts, e, rfl, K⟩ := g
  obtain ⟨z, hs, xs, rel, dd⟩ := nd_rd I e K
  obtain ⟨b, rfl, rfl, ki⟩ := nk_is I hk hd ry
  refine call_meetsIn PySem.F.slot_dict_get dd.typeIs PySem.F.entry_dict_get (PySem.F.args_dict_get_3 _ _ _) (meetsH_dict_get_default (nestedKind X.prog X.w) a b hs r) ⟨nd_room hu, .tup ks, xs, ki, dd, h _ _ (I.tok _) ?_⟩
  exact (rel.val _).getD rd
/-- d[k] = v -/
theorem nd_setItem {ks : List D} {Q : Unit → Shared → Prop} (hu : A.units + 64 < cLine) (I : Inv X pins σ H s) (g : NDS X.prog X.w H a kvs) (hk : Rep H (.tup ks) y) (hd : (NestedKey.tup ks).depth ≤ 8) (hl : kvs.length < sizeLine) (ry : RelV y u) (rv : RelV v r)
    (h : ∀ s' o, Inv X pins σ (upd H a o) s' → TEx H (upd H a o) → NDS X.prog X.w (upd H a o) a (putK kvs (.tup ks) v) → Q () s') : wpAny (model X.prog X.w) A (setItem (.ref a) u r) Q E s := by
  obtain ⟨ts, e, rfl, K⟩ := g
  obtain ⟨z, hs, xs, rel, dd⟩ := nd_rd I (.inl e) K
  obtain ⟨b, rfl, rfl, ki⟩ := nk_is I hk hd ry
  have hz : xs.length ≤ sizeLine := by rw [← rel.length]; exact z
  have hlt : ts.length < sizeLine := by simpa [flat] using hl
  have hl2 : (putN ts (.tup ks) b v).length ≤ sizeLine := by have := putN_len ts (.tup ks) b v; omega
  refine wpAny_setItem_heap (hsz := hz) (nd_room hu) ki dd fun h' dd' hs' => ?_
  obtain ⟨q, es, ep, hq, h2, h3, h4, _, h5⟩ := dd'
  have tx : TEx H (upd H a (NDO X.prog X.w a (putN ts (.tup ks) b v))) := TEx.put fun ys z => by rw [e] at z; cases z
  refine h _ (NDO X.prog X.w a (putN ts (.tup ks) b v)) (d_write I (by rw [e]; exact True.intro) hs' ⟨q, hq⟩ (nd_ok ⟨hl2, hs, _, rel.put _ rv, q, es, ep, hq, h2, h3, h4, h5⟩)) tx ⟨_, upd_same, flat_put _ _ _ _, fun t ht => ?_⟩
  rcases putN_mem ht with ⟨t', ht', e1, e2⟩ | ⟨e1, e2⟩
  · rw [e1, e2]
    exact ⟨(K t' ht').1.tx tx, (K t' ht').2⟩
  · rw [e1, e2]
    exact ⟨hk.tx tx, hd⟩
/-- .. by a comprehension -/
theorem nd_dictSet {ks : List D} {Q : Unit → Shared → Prop} (hu : A.units + 64 < cLine) (I : Inv X pins σ H s) (g : NDS X.prog X.w H a kvs) (hk : Rep H (.tup ks) y) (hd : (NestedKey.tup ks).depth ≤ 8) (hl : kvs.length < sizeLine) (ry : RelV y u) (rv : RelV v r)
    (h : ∀ s' o, Inv X pins σ (upd H a o) s' → TEx H (upd H a o) → NDS X.prog X.w (upd H a o) a (putK kvs (.tup ks) v) → Q () s') : wpAny (model X.prog X.w) A (dictSet a u r) Q E s := by
  obtain ⟨ts, e, rfl, K⟩ := g
  obtain ⟨z, hs, xs, rel, dd⟩ := nd_rd I (.inl e) K
  obtain ⟨b, rfl, rfl, ki⟩ := nk_is I hk hd ry
  have hz : xs.length ≤ sizeLine := by rw [← rel.length]; exact z
  have hlt : ts.length < sizeLine := by simpa [flat] using hl
  have hl2 : (putN ts (.tup ks) b v).length ≤ sizeLine := by have := putN_len ts (.tup ks) b v; omega
  refine wpAny_dictSet_heap (hsz := hz) (knd := nestedKind X.prog X.w) (show A.units + 8 < cLine by omega) ki dd fun h' dd' hs' => ?_
  obtain ⟨q, es, ep, hq, h2, h3, h4, _, h5⟩ := dd'
  have tx : TEx H (upd H a (NDO X.prog X.w a (putN ts (.tup ks) b v))) := TEx.put fun ys z => by rw [e] at z; cases z
  refine h _ (NDO X.prog X.w a (putN ts (.tup ks) b v)) (d_write I (by rw [e]; exact True.intro) hs' ⟨q, hq⟩ (nd_ok ⟨hl2, hs, _, rel.put _ rv, q, es, ep, hq, h2, h3, h4, h5⟩)) tx ⟨_, upd_same, flat_put _ _ _ _, fun t ht => ?_⟩
  rcases putN_mem ht with ⟨t', ht', e1, e2⟩ | ⟨e1, e2⟩
  · rw [e1, e2]
    exact ⟨(K t' ht').1.tx tx, (K t' ht').2⟩
  · rw [e1, e2]
    exact ⟨hk.tx tx, hd⟩
theorem nd_type (I : Inv X pins σ H s) (g : NDR X.prog X.w H a kvs) : s.TypeIs (.ref a) "dict" ∧ (∀ b, Value.ref a = .ref b → ∃ ob, s.heap.get? b = some ob ∧ ob.dict = none) ∧ (a == sysModules) = false := by
  obtain ⟨ts, e, rfl, K⟩ := g
  obtain ⟨z, hs, xs, rel, dd⟩ := nd_rd I e K
  refine ⟨dd.typeIs, fun b q => ?_, hs⟩
  cases q
  obtain ⟨ob, _, _, h1, h2, _⟩ := dd
  exact ⟨ob, h1, h2.2.1⟩
theorem nd_empty {P : Program} {w : World} (h : Heap) (hb : sysModules < h.objs.size) : NDφ P w h.objs.size [] (h.push { cls := .type "dict", data := .dict #[] }) :=
  ⟨Nat.zero_le _, beq_eq_false_iff_ne.mpr (Ne.symm (Nat.ne_of_lt hb)), [], .nil, _, #[], 0, Heap.get?_push_size _ rfl, ⟨rfl, rfl, rfl⟩, rfl, rfl, List.nodup_nil⟩
end

/-! ### readings and rules -/
def rNIn (P : Program) (w : World) : R2 := fun x y H Q => ∃ ks a kvs, Rep H (.tup ks) x ∧ (NestedKey.tup ks).depth ≤ 8 ∧ y = .ref a ∧ NDR P w H a kvs ∧ Q (.bl (valV kvs (.tup ks)).isSome) H
def rNNotIn (P : Program) (w : World) : R2 := fun x y H Q => ∃ ks a kvs, Rep H (.tup ks) x ∧ (NestedKey.tup ks).depth ≤ 8 ∧ y = .ref a ∧ NDR P w H a kvs ∧ Q (.bl (!(valV kvs (.tup ks)).isSome)) H
def tNGet (P : Program) (w : World) (td ty : TE) : TE := fun σ H Q => td σ H fun x H1 => ty σ H1 fun y H2 => ∃ a kvs ks v, x = .ref a ∧ NDR P w H2 a kvs ∧ Rep H2 (.tup ks) y ∧ (NestedKey.tup ks).depth ≤ 8 ∧ valV kvs (.tup ks) = some v ∧ Q v H2
def tNGet2 (P : Program) (w : World) (td ty tx : TE) : TE := fun σ H Q => td σ H fun x H1 => ∃ a, x = .ref a ∧ (∃ kvs, NDR P w H1 a kvs) ∧ ty σ H1 fun y H2 => tx σ H2 fun z H3 => ∃ kvs ks, NDR P w H3 a kvs ∧ Rep H3 (.tup ks) y ∧ (NestedKey.tup ks).depth ≤ 8 ∧ Q ((valV kvs (.tup ks)).getD z) H3
def sNPut (P : Program) (w : World) (td ty tv : TE) : TS := fun D σ H => tv σ H fun v H1 => td σ H1 fun x H2 => ty σ H2 fun y H3 => ∃ a kvs ks, x = .ref a ∧ NDS P w H3 a kvs ∧ Rep H3 (.tup ks) y ∧ (NestedKey.tup ks).depth ≤ 8 ∧ kvs.length < sizeLine ∧
  ∀ o, TEx H3 (upd H3 a o) → NDS P w (upd H3 a o) a (putK kvs (.tup ks) v) → D.nx σ (upd H3 a o)
def tNNew (P : Program) (w : World) : TE := fun _ H Q => ∀ p, H p = none → Q (.ref p) (upd H p (NDO P w p []))
section
variable {X : Cx} {o i e f value : Expr} {pos pos' cpos apos : Pos} {td ty tv tx : TE}
theorem op_nin (hu : X.A.units + 64 < cLine) : OpR X (compareOp .In) (rNIn X.prog X.w) := by
  intro pins s σ H x y v u Q I rx ry h
  obtain ⟨ks, a, kvs, hk, hd, rfl, g, q⟩ := h
  cases ry
  exact nd_in hu I g hk hd rx fun s' I' => ⟨.bl _, H, I', rfl, q⟩
theorem op_nnotin (hu : X.A.units + 64 < cLine) : OpR X (compareOp .NotIn) (rNNotIn X.prog X.w) := by
  intro pins s σ H x y v u Q I rx ry h
  obtain ⟨ks, a, kvs, hk, hd, rfl, g, q⟩ := h
  cases ry
  exact nd_notIn hu I g hk hd rx fun s' I' => ⟨.bl _, H, I', rfl, q⟩
theorem pe_nget (hu : X.A.units + 64 < cLine) (ho : PE X o td) (hi : PE X i ty) (hs : NoSl i) : PE X (.Subscript o i pos) (tNGet X.prog X.w td ty) := by
  refine ⟨fun pins s σ H Q I h => ?_⟩
  refine subD_of PySem.F.slot_dict_getitem.lookup hs (thn (ho.run pins s σ H _ I h) fun u s1 ⟨x, H1, I1, rx, q1⟩ => thn (hi.run pins s1 σ H1 _ I1 q1) fun iv s2 ⟨y, H2, I2, ry, a, kvs, ks, v, ex, g, hk, hd, hv, q2⟩ => ?_)
  subst ex
  cases rx
  exact ⟨(nd_type I2 g).1, nd_getItem hu I2 g hk hd hv ry fun w' s3 I3 rw' => ⟨v, H2, I3, rw', q2⟩⟩
theorem pe_nget2 (hu : X.A.units + 64 < cLine) (ho : PE X o td) (he : PE X e ty) (hf : PE X f tx) (m : M2 X o "get" apos e f cpos) : PE X (.Call (.Attribute o "get" apos) [e, f] [] cpos) (tNGet2 X.prog X.w td ty tx) := by
  refine ⟨fun pins s σ H Q I h => ?_⟩
  refine wpAny_Call_method m.base m.few m.line PySem.F.plainAttrs_dict PySem.F.slot_dict_get PySem.F.type_dict_get (thn (ho.run pins s σ H _ I h) fun u s1 ⟨x, H1, I1, rx, a, ex, ⟨kvs, d⟩, q1⟩ => ?_)
  subst ex
  cases rx
  obtain ⟨t1, t2, _⟩ := nd_type I1 d
  refine ⟨t1, t2, ?_⟩
  rw [m.trees]
  refine Calls.callWith_builtin rfl (Calls.evalArgs_plain (Calls.spliced_cons (thn (he.run pins s1 σ H1 _ I1 q1) fun iv s2 ⟨y, H2, I2, ry, q2⟩ =>
    Calls.spliced_cons (thn (hf.run pins s2 σ H2 _ I2 q2) fun fv s3 ⟨z, H3, I3, rz, kvs', ks, g, hk, hd, q3⟩ => Calls.spliced_nil ?_))))
  exact nd_get2 hu I3 g hk hd ry rz fun w' s4 I4 rw' => ⟨_, H3, I4, rw', q3⟩
theorem ps_nput (hu : X.A.units + 64 < cLine) (ho : PE X o td) (hi : PE X i ty) (hv : PE X value tv) (hs : swapsWith value (some (.Subscript o i pos')) pos.line X.env = pure false) :
    PS X (.Assign [.Subscript o i pos'] value pos) (sNPut X.prog X.w td ty tv) := by
  refine ⟨fun pins s σ H D I h => ?_⟩
  refine wpAny_Assign_Subscript (thn (hv.run pins s σ H _ I h) fun r s1 ⟨v, H1, I1, rv, q1⟩ => thn (ho.run pins s1 σ H1 _ I1 q1) fun u s2 ⟨x, H2, I2, rx, q2⟩ => thn (hi.run pins s2 σ H2 _ I2 q2) fun iv s3 ⟨y, H3, I3, ry, a, kvs, ks, ex, g, hk, hd, hl, q3⟩ => ?_) hs
  subst ex
  cases rx
  exact nd_setItem hu I3 g hk hd hl ry rv fun s4 ob I4 tx nd => ⟨σ, _, I4, q3 ob tx nd⟩
theorem pe_nnew : PE X (.Dict [] [] pos) (tNNew X.prog X.w) := ⟨fun pins s σ H Q I h =>
  wpAny_Dict_empty ⟨.ref s.heap.objs.size, _, I.laid (a := s.heap.objs.size) (o := NDO X.prog X.w s.heap.objs.size []) (t' := s.toks) (fun _ _ q => Heap.get?_push_of_some _ q) (Nat.le_refl _) (nd_ok (nd_empty s.heap I.big)), rfl, h _ (I.hok.fresh (Nat.le_refl _))⟩⟩
/-- len(d) -/
def rNLen (P : Program) (w : World) : List V → Hp → VK → Prop := fun xs H Q => ∃ a kvs, xs = [.ref a] ∧ NDR P w H a kvs ∧ Q (.int kvs.length) H
theorem call_nlen : CallR X (.builtin "len") (rNLen X.prog X.w) := by
  intro pins s σ H vs us Q I r h
  obtain ⟨a, kvs, rfl, ⟨ts, e, rfl, K⟩, q⟩ := h
  obtain ⟨u, rfl, ru⟩ := vals1 r
  cases ru
  obtain ⟨z, hs, xs, rel, dd⟩ := nd_rd I e K
  refine call_len_dictH hs dd (by rw [← rel.length]; rw [sizeLine_eq] at z; omega) ?_
  rw [← rel.length]
  refine ⟨.int _, H, I.tok _, ⟨_, rfl⟩, ?_⟩
  have : (flat ts).length = ts.length := by simp [flat]
  rw [this] at q
  exact q

/-! ### for k in d -/
theorem frzN {pins : List (Addr × Obj)} {σ : L2.St} {H : Hp} {s : Shared} {d : Addr} {ob : Obj} {ts : List NE} (I : Inv X pins σ H s) (h : H d = some (.frz ob (NDO X.prog X.w d ts))) :
    (d == sysModules) = false ∧ s.heap.get? d = some ob ∧ ob.ExactDict ∧ ∃ (es : Array DictEntry) (ep : Nat), ob.data = .dict es ep ∧ es.size = ts.length ∧ ∀ (i : Nat) (t : NE), ts[i]? = some t → ∃ en : DictEntry, es[i]? = some en ∧ en.key = .ref t.2.1 := by
  obtain ⟨hd, ⟨z, hs, xs, pr, o', es, ep, ho, hx, hdt, he, _⟩, _⟩ := I.hok d _ h
  rw [hd] at ho
  cases ho
  refine ⟨hs, hd, hx, es, ep, hdt, ?_, fun i t e => ?_⟩
  · have l1 : es.size = xs.length := size_of_entries he
    have l2 := pr.length
    omega
  · obtain ⟨b, hb, e1, e2, _⟩ := paired_get pr e
    have q := entry_at he i
    rw [hb] at q
    refine ⟨_, q, ?_⟩
    show Value.ref b.2.1 = _
    rw [e2]
def Itn (P : Program) (w : World) (d : Addr) (o : Obj) (ts : List NE) : It :=
  ⟨fun i H => H d = some (.frz o (NDO P w d ts)) ∧ i < ts.length, fun i H x H' => H' = H ∧ ∃ t, ts[i]? = some t ∧ x = .ref t.2.1, fun i H => H d = some (.frz o (NDO P w d ts)) ∧ ts.length ≤ i⟩
theorem turn_keysN {P : Program} {w : World} {K : PySem.W.Frag} {tg : Expr} {d : Addr} {o : Obj} {es : Array DictEntry} {ep : Nat} {ts : List NE} (it : Addr) (hod : o.data = .dict es ep) : Turn P w K tg (Itn P w d o ts) [it] it (fun i h => h.IsKeyIter it d i ts.length ep) where
  mem := by simp
  obj := fun i h st b hb => by
    have e : b = it := by simpa using hb
    subst e
    obtain ⟨oi, e, c, dd⟩ := st
    exact ⟨oi, e, fun v z => by rw [dd] at z; cases z⟩
  keep := fun i h h' st k => st.at fun oi e => k it (by simp) oi e
  item := by
    intro X hP hw hK hc i pins s σ H E I hf st hg
    subst hP hw hK
    obtain ⟨hd, hi⟩ := hg
    obtain ⟨f0, f1, f2, f3, f4, f5⟩ := hf it (by simp)
    obtain ⟨hs, hgd, hx, es', ep', hdt, hsz, ent⟩ := frzN I hd
    obtain ⟨rfl, rfl⟩ := dict_ep hod hdt
    obtain ⟨t, ht⟩ : ∃ p, ts[i]? = some p := ⟨ts[i], List.getElem?_eq_getElem hi⟩
    obtain ⟨en, hen, hkey⟩ := ent i t ht
    refine next_key_item st hgd hdt hsz hen fun h' st' sb => ?_
    have I1 : Inv X pins σ H { s with heap := h' } := I.turned (t' := s.toks) (fun b ob hb e => (sb.2 b hb).trans e) f0 f1 f3 f4 f5
    obtain ⟨oi, e, c, dd⟩ := id st'
    exact ⟨en.key, rfl, go_of (s := { s with heap := h' }) e c dd (by decide) ⟨.ref t.2.1, H, I1, hkey, ⟨rfl, t, ht, rfl⟩, st', fun b hb => (hf b hb).1⟩⟩
  done := by
    intro X hP hw hK hc i pins s σ H E I hf st hg
    subst hP hw hK
    obtain ⟨hd, hi⟩ := hg
    obtain ⟨f0, f1, f2, f3, f4, f5⟩ := hf it (by simp)
    obtain ⟨hs, hgd, hx, es', ep', hdt, hsz, ent⟩ := frzN I hd
    obtain ⟨rfl, rfl⟩ := dict_ep hod hdt
    exact next_key_end (I.ok.hd hc) st hgd hdt hsz hi fun h' eb => ⟨rfl, I.turned (t' := s.toks) (fun b ob hb e => eb b ob hb e) f0 f1 f3 f4 f5⟩
  self := fun A i s Q E st h => by
    refine wpAny_pyIter_slot st.typeIs F.slot_dict_keyiterator_iter (wpAny_call_entry F.slot_dict_keyiterator_iter st.typeIs F.entry_dict_keyiterator_iter ?_ (F.args_dict_keyiterator_iter_1 _))
    show wpAny _ _ (ret (.ref it)) _ _ s
    exact wpAny_pure ⟨_, rfl, "dict_keyiterator", _, st.typeIs, F.slot_dict_keyiterator_next.lookup, h⟩
def iKeysN (P : Program) (w : World) (td : TE) : TI := fun σ H R => td σ H fun x H1 => ∃ d o ts, x = .ref d ∧ H1 d = some (.frz o (NDO P w d ts)) ∧ R (Itn P w d o ts) H1
theorem pi_keysN {tg : Expr} (he : PE X e td) : PI X tg e (iKeysN X.prog X.w td) := by
  refine ⟨fun pins s σ H R I h => ?_⟩
  refine thn (he.run pins s σ H _ I h) fun u s1 ⟨x, H1, I1, rx, d, o, ts, ex, hd, q⟩ => ?_
  subst ex
  cases rx
  obtain ⟨hs, hgd, hx, es, ep, hdt, hsz, ent⟩ := frzN I1 hd
  refine iter_keys hs hgd hx hdt (pi_one (tk := s1.toks) I1 _ (turn_keysN _ hdt) ⟨_, Heap.get?_push_size _ rfl, rfl, ?_⟩ q)
  rw [hsz] <;> rfl
end
/-- over the keys of a locked dict -/
theorem for_keysN {P : Program} {w : World} {d : Addr} {o : Obj} {ts : List NE} {g : TG} {tb : TS} {D : Ends} {σ : L2.St} {H : Hp} (Pv : Nat → L2.St → Hp → Prop) (h0 : Pv 0 σ H) (hl : ∀ i σ H, i ≤ ts.length → Pv i σ H → H d = some (.frz o (NDO P w d ts)))
    (hs : ∀ i t σ H, ts[i]? = some t → Pv i σ H → g (.ref t.2.1) σ H fun σ2 H2 => tb { D with nx := Pv (i + 1), ct := Pv (i + 1), bk := D.nx } σ2 H2) (hd : ∀ σ H, Pv ts.length σ H → D.nx σ H) :
    ∃ W : Nat → Nat → L2.St → Hp → Prop, (∃ m, W 0 m σ H) ∧ ∀ i m σ H, W i m σ H →
      ((Itn P w d o ts).stop i H ∧ D.nx σ H) ∨ ((Itn P w d o ts).go i H ∧ ∃ N : L2.St → Hp → Prop, (∀ σ' H', N σ' H' → ∃ m', m' < m ∧ W (i + 1) m' σ' H') ∧ ∀ x H', (Itn P w d o ts).yld i H x H' → g x σ H' fun σ2 H2 => tb { D with nx := N, ct := N, bk := D.nx } σ2 H2) := by
  refine ⟨fun i m σ H => m = ts.length - i ∧ i ≤ ts.length ∧ Pv i σ H, ⟨ts.length, by simp, Nat.zero_le _, h0⟩, ?_⟩
  rintro i m σ H ⟨rfl, hi, p⟩
  have q := hl i σ H hi p
  by_cases hlt : i < ts.length
  · refine .inr ⟨⟨q, hlt⟩, Pv (i + 1), fun σ' H' p' => ⟨ts.length - (i + 1), by omega, rfl, hlt, p'⟩, fun x H' y => ?_⟩
    obtain ⟨e, t, ht, ex⟩ := y
    subst e ex
    exact hs i t σ _ ht p
  · have e : i = ts.length := by omega
    subst e
    exact .inl ⟨⟨q, Nat.le_refl _⟩, hd σ H p⟩
theorem lc_keysN {P : Program} {w : World} {d : Addr} {o : Obj} {ts : List NE} {g : TG} {tt : TT} {te : TE} {vs : List Nat} {σ : L2.St} {H1 : Hp} {D : Addr} {Qd : Hp → Prop} (Pv : Nat → Hp → Prop) (h0 : Pv 0 (upd H1 D (.lst []))) (hl : ∀ i H, i ≤ ts.length → Pv i H → H d = some (.frz o (NDO P w d ts)))
    (hs : ∀ i t H, ts[i]? = some t → Pv i H → g (.ref t.2.1) (wipe σ vs) H fun σ2 H2 => wipe σ2 vs = wipe σ vs ∧ tt σ2 H2 fun b H3 =>
      if b = true then te σ2 H3 fun y H4 => ∃ acc, H4 D = some (.lst acc) ∧ acc.length < sizeLine ∧ Pv (i + 1) (upd H4 D (.lst (acc ++ [y]))) else Pv (i + 1) H3) (hd : ∀ H, Pv ts.length H → Qd H) :
    ∃ W : Nat → Nat → Hp → Prop, (∃ m, W 0 m (upd H1 D (.lst []))) ∧ ∀ i m H, W i m H →
      ((Itn P w d o ts).stop i H ∧ Qd H) ∨ ((Itn P w d o ts).go i H ∧ ∃ Nx : Hp → Prop, (∀ H', Nx H' → ∃ m', m' < m ∧ W (i + 1) m' H') ∧ ∀ x H', (Itn P w d o ts).yld i H x H' → g x (wipe σ vs) H' fun σ2 H2 => wipe σ2 vs = wipe σ vs ∧ tt σ2 H2 fun b H3 =>
        if b = true then te σ2 H3 fun y H4 => ∃ acc, H4 D = some (.lst acc) ∧ acc.length < sizeLine ∧ Nx (upd H4 D (.lst (acc ++ [y]))) else Nx H3) := by
  refine ⟨fun i m H => m = ts.length - i ∧ i ≤ ts.length ∧ Pv i H, ⟨ts.length, by simp, Nat.zero_le _, h0⟩, ?_⟩
  rintro i m H ⟨rfl, hi, p⟩
  have q := hl i H hi p
  by_cases hlt : i < ts.length
  · refine .inr ⟨⟨q, hlt⟩, Pv (i + 1), fun H' p' => ⟨ts.length - (i + 1), by omega, rfl, hlt, p'⟩, fun x H' y => ?_⟩
    obtain ⟨e, t, ht, ex⟩ := y
    subst e ex
    exact hs i t _ ht p
  · have e : i = ts.length := by omega
    subst e
    exact .inl ⟨⟨q, Nat.le_refl _⟩, hd H p⟩
end MW
end
section
set_option Elab.async false
set_option linter.all false
set_option maxRecDepth 100000
set_option maxHeartbeats 4000000
/-! Comprehensions that make a set of ints, a dict with nested keys: one core for both. -/
namespace MW
open PySem PySem.Spec PyProof.Rows L2 Evl

/-- what a turn's last part is to reach: K behind it, E of an exception -/
abbrev BodyT := Addr → Env → (Shared → Prop) → (Value → Shared → Prop) → Shared → Prop
/-- its reading -/
abbrev BodyR := Addr → L2.St → Hp → (Hp → Prop) → Prop
def tCo (wi : TI) (g : TG) (tt : TT) (o0 : Addr → HO) (rb : BodyR) (vs : List Nat) : TE := fun σ H Q => wi σ H fun J H1 => ∀ D, H1 D = none → ∃ W : Nat → Nat → Hp → Prop, (∃ m, W 0 m (upd H1 D (o0 D))) ∧ ∀ i m H, W i m H →
  (J.stop i H ∧ Q (.ref D) H) ∨ (J.go i H ∧ ∃ Nx : Hp → Prop, (∀ H', Nx H' → ∃ m', m' < m ∧ W (i + 1) m' H') ∧ ∀ x H', J.yld i H x H' → g x (wipe σ vs) H' fun σ2 H2 => wipe σ2 vs = wipe σ vs ∧ tt σ2 H2 fun b H3 =>
    if b = true then rb D σ2 H3 Nx else Nx H3)
/-- the loop's rule, by what a turn asks -/
def LoopRule (M : Model) (mk tg : Expr) (ifs : List Expr) (B : Model → Around → BodyT) : Prop :=
  ∀ (A : Around) (R : Result → Shared → Prop) (s : Shared) (it : Value) (D : Addr) (env : Env) (I : Nat → Shared → Prop),
    (∀ n s, I n s → wpAny M A (pyNext it) (fun r s₁ => match r with
      | none => R (.ok .next) s₁
      | some v => wpAny M A (letOwnedTupleGo tg it v) (fun _ s₁' => wpAny M A (assign tg env v) (fun _ s₂ =>
          wpAny M A (forIn ifs true fun c r => if r = true then do let ok ← isTrue c env (eval c env); pure (ForInStep.yield ok) else pure (ForInStep.yield r)) (fun ok s₃ =>
            if ok = true then B M A D env (fun s' => ∃ m, m < n ∧ I m s') (notedBy M A env fun e s' => R (.error e) s') s₃
            else ∃ m, m < n ∧ I m s₃) (notedBy M A env fun e s' => R (.error e) s') s₂) (notedBy M A env fun e s' => R (.error e) s') s₁') (notedBy M A env fun e s' => R (.error e) s') s₁) (notedBy M A env fun e s' => R (.error e) s') s) →
    ∀ n, I n s → codeAny M A (.compLoop mk 0 it (.ref D) env) R s
def StartRule (M : Model) (mk : Expr) : Prop :=
  ∀ (A : Around) (R : Result → Shared → Prop) (s : Shared) (it acc : Value) (env : Env), codeAny M A (.compLoop mk 0 it acc env) R s →
    wpAny M A (pyIter it) (fun it' s' => codeAny M A (.compLoop mk 0 it' acc env) R s') (notedBy M A env fun x s' => R (.error x) s') s → codeAny M A (.compStart mk 0 it acc env) R s
/-- the new object -/
def NewRule (X : Cx) (o0 : Addr → HO) (new : Sem Value) : Prop :=
  ∀ (pins : List (Addr × Obj)) (s : Shared) (σ : L2.St) (H : Hp) (Q : Value → Shared → Prop), Inv X pins σ H s →
    (∀ s3, Inv X pins σ (upd H s.heap.objs.size (o0 s.heap.objs.size)) s3 → s3.heap.objs.size = s.heap.objs.size + 1 → (∀ b o, s.heap.get? b = some o → s3.heap.get? b = some o) → Q (.ref s.heap.objs.size) s3) →
    wpAny (model X.prog X.w) X.A new Q X.xe s
/-- in the block: the reading gives what the turn asks -/
def BodyRule (Y : Cx) (B : Model → Around → BodyT) (rb : BodyR) : Prop :=
  ∀ (pins : List (Addr × Obj)) (s : Shared) (σ : L2.St) (H : Hp) (D : Addr) (Nx : Hp → Prop) (K : Shared → Prop) (E : Value → Shared → Prop), Inv Y pins σ H s → rb D σ H Nx → (∀ s' H', Inv Y pins σ H' s' → Nx H' → K s') → B (model Y.prog Y.w) Y.A D Y.env K E s
section
variable {X : Cx}
theorem co_core {pins : List (Addr × Obj)} {s : Shared} {σ : L2.St} {H : Hp} {Q : VK} {mk tg iter : Expr} {ifs : List Expr} {scope : Scope} {own : List (PySem.Str × Nat)} {pos' : Pos} {wi : TI} {g : TG} {tt : TT} {o0 : Addr → HO} {rb : BodyR} {B : Model → Around → BodyT} {new : Sem Value} {use : Option (Value → Sem Unit)} {Qf : Value → Shared → Prop}
    (hcl : clausesOf mk = [⟨tg, iter, ifs, 0⟩]) (hlp : LoopRule (model X.prog X.w) mk tg ifs B) (hst : StartRule (model X.prog X.w) mk) (hnw : NewRule X o0 new)
    (hc : X.calm = true) (hN : X.N.Nodup) (I : Inv X pins σ H s) (hi : PI X tg iter wi) (ok : BlkOk X.N X.env.scope scope own)
    (hg : ∀ (s : Shared) (H : Hp) (C : Addr) (cl : List (PySem.Str × Addr)) (fp : List Addr), PG (X.blk s H scope (compEnvC scope cl C X.env) fp) tg g)
    (ht : ∀ (s : Shared) (H : Hp) (C : Addr) (cl : List (PySem.Str × Addr)) (fp : List Addr), PTs (X.blk s H scope (compEnvC scope cl C X.env) fp) ifs tt)
    (hb : ∀ (s : Shared) (H : Hp) (C : Addr) (cl : List (PySem.Str × Addr)) (fp : List Addr), BodyRule (X.blk s H scope (compEnvC scope cl C X.env) fp) B rb) (hs : ∀ x, foldedSetIterable iter X.env x = pure x)
    (h : tCo wi g tt o0 rb (own.map (·.2)) σ H Q)
    (hRR : ∀ D C s' m H', Inv X pins σ H' s' → Q (.ref D) H' → s'.heap.Ns C m → FpOk X pins H' C → compPost (model X.prog X.w) X.A X.xe use Qf (.ref D) C (.ok .next) s') :
    wpAny (model X.prog X.w) X.A (comprehension mk scope X.env pos' new false (eval iter X.env) use) Qf X.xe s := by
  have hfree : ∀ y ∈ scope.names, y.2 = .free → ∃ c, X.env.cells.lookup y.1 = some c := fun y hy e => by
    rcases ok.free y hy e with k | k
    · exact I.ok.has _ (.inl k)
    · exact I.ok.has _ (.inr k)
  refine wpAny_comprehension_free (use := use) hcl hs (closure_ok hfree) ok.kind (fun y hy e => by rw [ok.uniq y hy, e]) (thn (hi.run pins s σ H _ I h) fun xv s1 hx => thn hx fun itv s2 h2 => ?_)
  obtain ⟨it, fp, tn, J, H2, e, I2, T, st2, f2, q⟩ := h2
  subst e
  refine hnw pins s2 σ H2 _ I2 fun s3 I3 sz3 kp3 => newEnv_comp ?_
  generalize hD : s2.heap.objs.size = D at I3 sz3 ⊢
  obtain ⟨W, ⟨m0, w0⟩, turn⟩ := q D (I2.hok.fresh (Nat.le_of_eq hD))
  have sz : ∀ b ∈ fp, b < s2.heap.objs.size := fun b hb => by
    obtain ⟨o, e, _⟩ := T.obj _ _ st2 b hb
    exact Heap.lt_size e
  have f3 : ∀ b ∈ fp, FpOk X pins (upd H2 D (o0 D)) b ∧ b < s3.heap.objs.size := fun b hb => by
    have hlt := sz b hb
    refine ⟨⟨?_, (f2 b hb).2⟩, by rw [sz3]; exact Nat.lt_succ_of_lt (by rw [← hD]; exact hlt)⟩
    rw [upd_ne (by rw [← hD]; exact Nat.ne_of_lt hlt)]
    exact (f2 b hb).1
  have st3 : tn 0 s3.heap := T.keep _ _ _ st2 fun b _ o e => kp3 b o e
  have I4 := block_start I3 ok hN f3
  have pg := hg s3 (upd H2 D (o0 D)) s3.heap.objs.size (cellsFrom (s3.heap.objs.size + 1) scope.names (cloFrom X.env.cells scope.names [])) fp
  have pt := ht s3 (upd H2 D (o0 D)) s3.heap.objs.size (cellsFrom (s3.heap.objs.size + 1) scope.names (cloFrom X.env.cells scope.names [])) fp
  have pb := hb s3 (upd H2 D (o0 D)) s3.heap.objs.size (cellsFrom (s3.heap.objs.size + 1) scope.names (cloFrom X.env.cells scope.names [])) fp
  show codeAny _ _ (.compStart mk 0 (.ref it) (.ref D) (compEnvC scope (cellsFrom (s3.heap.objs.size + 1) scope.names (cloFrom X.env.cells scope.names [])) s3.heap.objs.size X.env)) (compPost (model X.prog X.w) X.A X.xe use Qf (.ref D) s3.heap.objs.size) { s3 with heap := pushCells (s3.heap.push { cls := .type "dict", data := .dict #[] }) scope.names }
  have nfp : ∀ b ∈ fp, (upd H2 D (o0 D)) b = none := fun b hb => (f3 b hb).1.1
  generalize hce : compEnvC scope (cellsFrom (s3.heap.objs.size + 1) scope.names (cloFrom X.env.cells scope.names [])) s3.heap.objs.size X.env = ce at I4 pg pt pb ⊢
  have cL : ce.locals = s3.heap.objs.size := by subst hce; rfl
  generalize hH3 : upd H2 D (o0 D) = H3 at I3 I4 pg pt pb w0 nfp f3
  generalize hs4 : ({ s3 with heap := pushCells (s3.heap.push { cls := .type "dict", data := .dict #[] }) scope.names } : Shared) = s4 at I4 ⊢
  have st4 : tn 0 s4.heap := T.keep _ _ _ st3 fun b _ o e => by rw [← hs4]; exact pushCells_keeps _ _ _ _ (Heap.get?_push_of_some _ e)
  have stat : ∀ {σ' : L2.St} {H' : Hp} {s' : Shared}, Inv (X.blk s3 H3 scope ce fp) [] σ' H' s' → (∀ b ∈ fp, H' b = none) → ∀ b ∈ fp, FpOk (X.blk s3 H3 scope ce fp) [] H' b := fun {σ' H' s'} I' hn b hb =>
    ⟨hn b hb, (I'.ok.exf b hb).1, I'.ok.exfs b hb, .inl hb, fun x c e => (I'.ok.exf b hb).2 x c e, fun p hp => absurd (show p ∈ ([] : List (Addr × Obj)) ++ [] from hp) (by simp)⟩
  have loop : codeAny (model X.prog X.w) X.A (.compLoop mk 0 (.ref it) (.ref D) ce) (compPost (model X.prog X.w) X.A X.xe use Qf (.ref D) s3.heap.objs.size) s4 := by
    refine hlp X.A _ s4 (.ref it) D ce (fun n s' => ∃ i H', Inv (X.blk s3 H3 scope ce fp) [] (wipe σ (own.map (·.2))) H' s' ∧ tn i s'.heap ∧ (∀ b ∈ fp, H' b = none) ∧ W i n H') ?_ m0 ⟨0, H3, I4, st4, nfp, w0⟩
    rintro n s5 ⟨i, H5, I5, st5, n5, w5⟩
    rcases turn i n H5 w5 with ⟨stop, qq⟩ | ⟨go, Nx, hNx, step⟩
    · have td := T.done (X.blk s3 H3 scope ce fp) rfl rfl rfl hc i [] s5 _ H5 (fun _ _ => False) I5 (stat I5 n5) st5 stop
      refine thnF td fun r s6 ⟨hr, I6⟩ => ?_
      subst hr
      have I7 : Inv X pins σ H5 s6 := I3.call' (ch := fp) I6.os I6.base I6.hok I6.bare fun b hb => ⟨(f3 b hb).1.2.2.2.1, (f3 b hb).1.2.1, (f3 b hb).1.2.2.2.2.1, (f3 b hb).1.2.2.2.2.2⟩
      have nC : H5 s3.heap.objs.size = none := by
        have z : H5 ce.locals = none := I6.free
        rw [cL] at z
        exact z
      obtain ⟨m, hn, _⟩ := I6.loc
      have hn : s6.heap.Ns ce.locals m := hn
      rw [cL] at hn
      exact hRR D s3.heap.objs.size s6 m H5 I7 qq hn (I3.fpOk (Nat.le_refl _) nC)
    · have ti := T.item (X.blk s3 H3 scope ce fp) rfl rfl rfl hc i [] s5 _ H5 (fun _ _ => False) I5 (stat I5 n5) st5 go
      refine thnF ti fun r s6 ⟨u, hr, h6⟩ => ?_
      subst hr
      refine thnF h6 fun _ s7 ⟨x, H7, I7, r7, y7, st7, n7⟩ => ?_
      have I7' := I7.pinned (stat I7 n7) (T.obj _ _ st7)
      refine thnF (pg.run _ s7 _ H7 x u _ I7' r7 (step x H7 y7)) fun _ s8 ⟨σ8, H8, I8, hw8, q8⟩ => ?_
      refine thnF (pt.run _ s8 σ8 H8 _ I8 q8) fun b s9 ⟨H9, I9, q9⟩ => ?_
      have fin : ∀ {s' : Shared} {H' : Hp}, Inv (X.blk s3 H3 scope ce fp) ([] ++ pinsAt fp s7.heap) σ8 H' s' → Nx H' → ∃ m, m < n ∧ ∃ i H', Inv (X.blk s3 H3 scope ce fp) [] (wipe σ (own.map (·.2))) H' s' ∧ tn i s'.heap ∧ (∀ b ∈ fp, H' b = none) ∧ W i m H' := fun {s' H'} I' nx => by
        obtain ⟨m', hm, w'⟩ := hNx H' nx
        have pin' : ∀ b ∈ fp, ∀ o, s7.heap.get? b = some o → s'.heap.get? b = some o ∧ H' b = none := fun b hb o e =>
          let z := I'.pin (b, o) (List.mem_append_right _ (List.mem_append_right _ (mem_pinsAt hb e)))
          ⟨z.1, z.2.1⟩
        have hl : (wipe σ (own.map (·.2))).length = σ8.length := by rw [← hw8, wipe_length]
        refine ⟨m', hm, i + 1, H', (I'.unpinned (pins := [])).weak hl (fun j v e => ?_), T.keep _ _ _ st7 fun b hb o e => (pin' b hb o e).1, fun b hb => ?_, w'⟩
        · rw [← hw8] at e
          exact (wipe_some e).1
        · obtain ⟨o, e, _⟩ := T.obj _ _ st7 b hb
          exact (pin' b hb o e).2
      cases b with
      | false =>
        simp only [Bool.false_eq_true, if_false] at q9 ⊢
        exact fin I9 q9
      | true =>
        simp only [if_true] at q9 ⊢
        exact pb _ s9 σ8 H9 D Nx _ _ I9 q9 fun s' H' I' nx => fin I' nx
  exact hst X.A _ s4 (.ref it) (.ref D) ce loop (T.self X.A 0 _ _ _ st4 loop)

/-! ### a set of ints -/
def bSet (elt : Expr) : Model → Around → BodyT := fun M A D env K E s => wpAny M A (eval elt env) (fun x s₄ => wpAny M A (call (.builtin "set.add") [.ref D, x]) (fun _ s₅ => K s₅) E s₄) E s
def rbSet (w : World) (te : TE) : BodyR := fun D σ H Nx => te σ H fun y H4 => ∃ (k : Int) (S : Int → Bool) (n : Nat), y = .int k ∧ H4 D = some (SetO w D S n) ∧ n + 1 < scanBound ∧ Nx (upd H4 D (SetO w D (fun j => S j || decide (j = k)) (if S k = true then n else n + 1)))
def tSi (w : World) (wi : TI) (g : TG) (tt : TT) (te : TE) (vs : List Nat) : TE := tCo wi g tt (fun D => SetO w D (fun _ => false) 0) (rbSet w te) vs
theorem pe_si {elt tg iter : Expr} {ifs : List Expr} {scope : Scope} {own : List (PySem.Str × Nat)} {pos : Pos} {wi : TI} {g : TG} {tt : TT} {te : TE} (hc : X.calm = true) (hN : X.N.Nodup) (hi : PI X tg iter wi) (ok : BlkOk X.N X.env.scope scope own)
    (hg : ∀ (s : Shared) (H : Hp) (C : Addr) (cl : List (PySem.Str × Addr)) (fp : List Addr), PG (X.blk s H scope (compEnvC scope cl C X.env) fp) tg g) (ht : ∀ (s : Shared) (H : Hp) (C : Addr) (cl : List (PySem.Str × Addr)) (fp : List Addr), PTs (X.blk s H scope (compEnvC scope cl C X.env) fp) ifs tt)
    (he : ∀ (s : Shared) (H : Hp) (C : Addr) (cl : List (PySem.Str × Addr)) (fp : List Addr), PE (X.blk s H scope (compEnvC scope cl C X.env) fp) elt te) (hs : ∀ x, foldedSetIterable iter X.env x = pure x := by intro _; rfl) :
    PE X (.SetComp elt [⟨tg, iter, ifs, 0⟩] scope pos) (tSi X.w wi g tt te (own.map (·.2))) := by
  refine ⟨fun pins s σ H Q I h => ?_⟩
  rw [PpSet.eval_SetComp]
  refine co_core (B := bSet elt) rfl (fun A R s it D env Iv turn n hn => PpSet.compLoopS_any Iv turn n hn) (fun A R s it acc env h0 h1 => PpSet.codeAny_compStart_set h0 h1) ?_ hc hN I hi ok hg ht ?_ hs h fun D C s' m H' I' q hn f => ⟨m, hn, fun h'' sb => ?_⟩
  · intro pins s σ H Q I k
    exact PpSet.newSet_ok (k _ (I.laid (t' := s.toks) (fun b u e => Heap.get?_push_of_some _ e) (Nat.le_refl _) (setO_new (setR_fresh X.w))) (by rw [Heap.size_push]) fun b o e => Heap.get?_push_of_some _ e)
  · intro s3 H3 C cl fp pins s σ H D Nx K E I q k
    refine thnF ((he s3 H3 C cl fp).run pins s σ H _ I q) fun z s4 ⟨yv, H4, I4, r4, kk, S, n, ey, hD, hn, nx⟩ => ?_
    subst ey
    exact thnF (mt_sadd pins s4 σ H4 (.ref D) [.int kk] (.ref D) [z] (fun _ H' => Nx H') I4 rfl (.cons r4 .nil) ⟨D, kk, S, n, rfl, rfl, hD, hn, nx⟩) fun _ s5 ⟨_, H5, I5, _, nx'⟩ => k s5 H5 I5 nx'
  · obtain ⟨f0, f1, f2, f3, f4, f5⟩ := f
    exact ⟨.ref D, H', I'.turned (t' := s'.toks) (fun b o hb e => (sb.2 b hb).trans e) f0 f1 f3 f4 f5, rfl, q⟩

/-! ### a dict with nested keys -/
def bNd (kx vx : Expr) : Model → Around → BodyT := fun M A D env K E s => wpAny M A (eval kx env) (fun kv s₄ => wpAny M A (eval vx env) (fun vv s₅ => wpAny M A (dictSet D kv vv) (fun _ s₆ => K s₆) E s₅) E s₄) E s
def rbNd (P : Program) (w : World) (tk tv : TE) : BodyR := fun D σ H Nx => tk σ H fun y H4 => tv σ H4 fun z H5 => ∃ kvs ks, NDS P w H5 D kvs ∧ Rep H5 (.tup ks) y ∧ (NestedKey.tup ks).depth ≤ 8 ∧ kvs.length < sizeLine ∧
  ∀ o, TEx H5 (upd H5 D o) → NDS P w (upd H5 D o) D (putK kvs (.tup ks) z) → Nx (upd H5 D o)
def tNc (P : Program) (w : World) (wi : TI) (g : TG) (tt : TT) (tk tv : TE) (vs : List Nat) : TE := tCo wi g tt (fun D => NDO P w D []) (rbNd P w tk tv) vs
theorem pe_nc {kx vx tg iter : Expr} {ifs : List Expr} {scope : Scope} {own : List (PySem.Str × Nat)} {pos : Pos} {wi : TI} {g : TG} {tt : TT} {tk tv : TE} (hu : X.A.units + 64 < cLine) (hc : X.calm = true) (hN : X.N.Nodup) (hi : PI X tg iter wi) (ok : BlkOk X.N X.env.scope scope own)
    (hg : ∀ (s : Shared) (H : Hp) (C : Addr) (cl : List (PySem.Str × Addr)) (fp : List Addr), PG (X.blk s H scope (compEnvC scope cl C X.env) fp) tg g) (ht : ∀ (s : Shared) (H : Hp) (C : Addr) (cl : List (PySem.Str × Addr)) (fp : List Addr), PTs (X.blk s H scope (compEnvC scope cl C X.env) fp) ifs tt)
    (hk : ∀ (s : Shared) (H : Hp) (C : Addr) (cl : List (PySem.Str × Addr)) (fp : List Addr), PE (X.blk s H scope (compEnvC scope cl C X.env) fp) kx tk)
    (he : ∀ (s : Shared) (H : Hp) (C : Addr) (cl : List (PySem.Str × Addr)) (fp : List Addr), PE (X.blk s H scope (compEnvC scope cl C X.env) fp) vx tv) (hs : ∀ x, foldedSetIterable iter X.env x = pure x := by intro _; rfl) :
    PE X (.DictComp kx vx [⟨tg, iter, ifs, 0⟩] scope pos) (tNc X.prog X.w wi g tt tk tv (own.map (·.2))) := by
  refine ⟨fun pins s σ H Q I h => ?_⟩
  rw [arm_eval_DictComp]
  refine co_core (B := bNd kx vx) rfl (fun A R s it D env Iv turn n hn => compLoop_anyD Iv turn n hn) (fun A R s it acc env h0 h1 => codeAny_compStart_dict h0 h1) ?_ hc hN I hi ok hg ht ?_ hs h fun D C s' m H' I' q hn f => ⟨m, hn, fun h'' sb => ?_⟩
  · intro pins s σ H Q I k
    exact wpAny_newObj_type (k _ (I.laid (t' := s.toks) (fun b u e => Heap.get?_push_of_some _ e) (Nat.le_refl _) (nd_ok (nd_empty s.heap I.big))) (by rw [Heap.size_push]) fun b o e => Heap.get?_push_of_some _ e)
  · intro s3 H3 C cl fp pins s σ H D Nx K E I q k
    refine thnF ((hk s3 H3 C cl fp).run pins s σ H _ I q) fun z s4 ⟨yk, H4, I4, r4, q4⟩ => ?_
    refine thnF ((he s3 H3 C cl fp).run pins s4 σ H4 _ I4 q4) fun z2 s5 ⟨yv, H5, I5, r5, kvs, ks, g5, hkk, hd, hl, nx⟩ => ?_
    exact nd_dictSet hu I5 g5 hkk hd hl r4 r5 fun s6 o I6 tx nd => k s6 _ I6 (nx o tx nd)
  · obtain ⟨f0, f1, f2, f3, f4, f5⟩ := f
    exact ⟨.ref D, H', I'.turned (t' := s'.toks) (fun b o hb e => (sb.2 b hb).trans e) f0 f1 f3 f4 f5, rfl, q⟩
theorem ps_setNc {i : Nat} {y : PySem.Str} {py spos : Pos} {kx vx tg iter : Expr} {ifs : List Expr} {scope : Scope} {own : List (PySem.Str × Nat)} {pos : Pos} {wi : TI} {g : TG} {tt : TT} {tk tv : TE} (hu : X.A.units + 64 < cLine) (hc : X.calm = true) (hN : X.N.Nodup) (hy : X.N[i]? = some y) (hyl : X.env.scope.names.lookup y = some .local)
    (hsw : swapsWith (.DictComp kx vx [⟨tg, iter, ifs, 0⟩] scope pos) (some (.Name y py)) spos.line X.env = pure true) (hi : PI X tg iter wi) (ok : BlkOk X.N X.env.scope scope own)
    (hg : ∀ (s : Shared) (H : Hp) (C : Addr) (cl : List (PySem.Str × Addr)) (fp : List Addr), PG (X.blk s H scope (compEnvC scope cl C X.env) fp) tg g) (ht : ∀ (s : Shared) (H : Hp) (C : Addr) (cl : List (PySem.Str × Addr)) (fp : List Addr), PTs (X.blk s H scope (compEnvC scope cl C X.env) fp) ifs tt)
    (hk : ∀ (s : Shared) (H : Hp) (C : Addr) (cl : List (PySem.Str × Addr)) (fp : List Addr), PE (X.blk s H scope (compEnvC scope cl C X.env) fp) kx tk)
    (he : ∀ (s : Shared) (H : Hp) (C : Addr) (cl : List (PySem.Str × Addr)) (fp : List Addr), PE (X.blk s H scope (compEnvC scope cl C X.env) fp) vx tv) (hs : ∀ x, foldedSetIterable iter X.env x = pure x := by intro _; rfl) :
    PS X (.Assign [.Name y py] (.DictComp kx vx [⟨tg, iter, ifs, 0⟩] scope pos) spos) (tAsg (tNc X.prog X.w wi g tt tk tv (own.map (·.2))) (gName i)) := by
  refine ⟨fun pins s σ H D I h => ?_⟩
  rw [exec_Assign_Name_used _ _ _ _ hsw]
  refine wpAny_bind (wpAny_standAt (wpAny_bind ?_))
  show wpAny _ X.A (do let _ ← comprehension (.DictComp kx vx [⟨tg, iter, ifs, 0⟩] scope pos) scope X.env (firstIterPos [⟨tg, iter, ifs, 0⟩] pos) newDict false (eval iter X.env) (some (assign (.Name y py) X.env))) _ _ s
  have h : tNc X.prog X.w wi g tt tk tv (own.map (·.2)) σ H (fun x H1 => gName i x σ H1 D.nx) := h
  refine wpAny_bind (thn (co_core (Qf := fun _ s' => SP X pins D .next s') (B := bNd kx vx) rfl (fun A R s it D env Iv turn n hn => compLoop_anyD Iv turn n hn) (fun A R s it acc env h0 h1 => codeAny_compStart_dict h0 h1) ?_ hc hN I hi ok hg ht ?_ hs h fun L C s' m H' I' q hn f => ?_) fun _ s' hq => wpAny_pure (wpAny_pure hq))
  · intro pins s σ H Q I k
    exact wpAny_newObj_type (k _ (I.laid (t' := s.toks) (fun b u e => Heap.get?_push_of_some _ e) (Nat.le_refl _) (nd_ok (nd_empty s.heap I.big))) (by rw [Heap.size_push]) fun b o e => Heap.get?_push_of_some _ e)
  · intro s3 H3 C cl fp pins s σ H D Nx K E I q k
    refine thnF ((hk s3 H3 C cl fp).run pins s σ H _ I q) fun z s4 ⟨yk, H4, I4, r4, q4⟩ => ?_
    refine thnF ((he s3 H3 C cl fp).run pins s4 σ H4 _ I4 q4) fun z2 s5 ⟨yv, H5, I5, r5, kvs, ks, g5, hkk, hd, hl, nx⟩ => ?_
    exact nd_dictSet hu I5 g5 hkk hd hl r4 r5 fun s6 o I6 tx nd => k s6 _ I6 (nx o tx nd)
  · show wpAny _ _ (assign (.Name y py) X.env (.ref L)) _ _ _
    refine wpAny_assign_Name (store_ok2 (v := V.ref L) I' hN hy (.inl hyl) rfl (fun s2 I2 ⟨a, sb, ha⟩ => ?_) (.inr hyl))
    obtain ⟨f0, f1, f2, f3, f4, f5⟩ := f
    have haC : C ≠ a := by
      rcases ha with z | z
      · rw [z]; exact f1
      · exact fun e => f4 y a z e.symm
    refine ⟨m, hn.sameBut sb haC, fun h3 sb3 => ?_⟩
    exact ⟨_, H', I2.turned (t' := s2.toks) (fun b o hb e => (sb3.2 b hb).trans e) f0 f1 f3 f4 f5, q⟩
end
end MW
end
section
set_option Elab.async false
set_option linter.all false
set_option maxRecDepth 100000
set_option maxHeartbeats 4000000
/-! sorted of lists, tuples, dicts with nested keys, whose items are data. -/
namespace MW
open PySem PySem.Spec PyProof.Rows L2 Evl

section
variable {prog : Program} {w : World} {A : Around} {E : Value → Shared → Prop} {s : Shared}
/-- what a source with an iterator of its own gives when it is gathered -/
theorem kdl_collect {T : String} {r d : Addr} {n : Nat} {P : Nat → Value → Prop} {OK : Heap → Prop} {Q : List Value → Shared → Prop} (K : PySem.W.KdlSrc prog w T r d n P OK) (hh : A.handled = none) (hok : OK s.heap) (hn : n ≤ sizeLine)
    (h : ∀ h' tk vs, (∀ b o, s.heap.get? b = some o → h'.get? b = some o) → vs.length = n → (∀ j v, vs[j]? = some v → P j v) → Q vs { s with heap := h', toks := tk }) : wpAny (model prog w) A (collect (.ref r)) Q E s := by
  have hlt := K.there _ hok
  unfold collect
  refine wpAny_bind (wpAny_runValue (codeAny_builtin entry_proto_collect' ?_))
  rw [Around.under_plainId PySem.F.plain_proto_collect _]
  show wpAny _ A.in1 (newList [] >>= fun l => again (.builtin "list.__iadd__" ⟨[l, .ref r], []⟩)) _ _ s
  refine wpAny_bind (wpAny_newObj_type ?_)
  refine wpAny_pure ⟨plainId_quiet PySem.F.plain_list_iadd _, codeAny_builtin entry_list_iadd' ?_⟩
  rw [Around.under_plainId PySem.F.plain_list_iadd _]
  have hS₁ : (s.heap.push { cls := .type "list", data := .seq ([] : List Value).toArray }).get? s.heap.objs.size = some { cls := .type "list", data := .seq #[] } := Heap.get?_push_size _ rfl
  show wpAny _ A.in1 (Builtin.List.listExtendWith (.ref s.heap.objs.size) (.ref r) (.ref s.heap.objs.size)) _ _ _
  have key := PySem.W.kdl_extend (prog := prog) (w := w) (A := A) (s := { s with heap := s.heap.push { cls := .type "list", data := .seq ([] : List Value).toArray } })
    (R := fun (q : Result) (s' : Shared) => ∃ (h' : Heap) (tk : Nat) (acc' : Array Value) (c' : Nat), q = .ok (.ret (.ref s.heap.objs.size)) ∧ s' = { s with heap := h', toks := tk } ∧
      (∀ b o, s.heap.get? b = some o → h'.get? b = some o) ∧ h'.get? s.heap.objs.size = some { cls := .type "list", dict := none, data := .seq acc' c', slots := #[] } ∧ ItemsOf P acc' n)
    K hh (K.keep _ _ hok fun b _ o e => Heap.get?_push_of_some _ e) s.heap.objs.size (Nat.ne_of_gt hlt.1) (Nat.ne_of_gt hlt.2) (.ref s.heap.objs.size) 0 hS₁
    (fun h' tk acc' c' hk hS' hacc => ⟨h', tk, acc', c', rfl, rfl, fun b o e => hk b o (Nat.ne_of_lt (Heap.lt_size e)) (Heap.get?_push_of_some _ e), hS', hacc⟩) hn
  have fin : ∀ {h' : Heap} {tk : Nat} {acc' : Array Value} {c' : Nat}, (∀ b o, s.heap.get? b = some o → h'.get? b = some o) → h'.get? s.heap.objs.size = some { cls := .type "list", dict := none, data := .seq acc' c', slots := #[] } → ItemsOf P acc' n →
      wpAny (model prog w) A (load s.heap.objs.size >>= fun o => match o.data with | Data.seq xs _ => pure xs.toList | _ => unsupported "internal:collect") Q E { s with heap := h', toks := tk } := fun {h' tk acc' c'} hk hS' hacc => by
    refine wpAny_bind (wpAny_load hS' (wpAny_pure (h h' tk acc'.toList hk (by rw [Array.length_toList]; exact hacc.1) fun j v e => hacc.2 j v (by rw [← Array.getElem?_toList]; exact e))))
  refine wpAny_mono key (fun f s' x => ?_) fun e s' x => ?_
  · cases f with
    | done f =>
      obtain ⟨h', tk, acc', c', e, rfl, hk, hS', hacc⟩ := x
      cases e
      exact fin hk hS' hacc
    | again c₁ =>
      refine ⟨x.1, codeAny_mono x.2 fun q s₂ y => ?_⟩
      obtain ⟨h', tk, acc', c', rfl, rfl, hk, hS', hacc⟩ := y
      exact fin hk hS' hacc
  · obtain ⟨_, _, _, _, e', _⟩ := x
    cases e'

end
section
variable {X : Cx} {pins : List (Addr × Obj)} {σ : L2.St} {H : Hp} {s : Shared}
mutual
theorem Rep.reads (I : Inv X pins σ H s) : ∀ (d : D) (v : V) (u : Value), Rep H d v → RelV v u → Reads s.heap u d.data []
  | .none, _, _, h, r => by cases h; cases r; rw [NestedKey.data]; exact .none
  | .num i, _, _, h, r => by cases h; obtain ⟨t, rfl⟩ := r; rw [NestedKey.data]; exact .int i t
  | .text x, _, _, h, r => by cases h; obtain ⟨t, rfl⟩ := r; rw [NestedKey.data]; exact .str x t
  | .tup ks, _, _, h, r => by
    cases h with
    | tup e q =>
      cases r
      obtain ⟨its, rv, ⟨o, ho, hc, n, hd⟩, _⟩ := I.tuple (SqT.of e)
      rw [NestedKey.data]
      exact .tuple ho hc hd (by simpa using Reps.reads I ks _ its q rv)
theorem Reps.reads (I : Inv X pins σ H s) : ∀ (ds : List D) (vs : List V) (us : List Value), Reps H ds vs → Vals vs us → ReadsAll s.heap us (NestedKey.datas ds) []
  | [], _, _, h, r => by cases h; cases r; rw [NestedKey.datas]; exact .nil
  | d :: ds, _, _, h, r => by
    cases h with
    | cons h1 h2 =>
      cases r with
      | cons r1 r2 =>
        rw [NestedKey.datas]
        exact ReadsAll.cons (as := []) (bs := []) (Rep.reads I d _ _ h1 r1) (Reps.reads I ds _ _ h2 r2)
end
/-- an item: what it is, its value -/
abbrev It2 := D × V
def enc2 (p : It2) : PyData := p.1.data
/-- what may be sorted: alike data, all tuples (not empty) or none of them a tuple or None -/
structure Srt (H : Hp) (ps : List It2) : Prop where
  rep : ∀ p ∈ ps, Rep H p.1 p.2
  low : ∀ p ∈ ps, p.1.depth ≤ 8
  alike : PySem.W.AllAlike (ps.map enc2)
  able : PySem.W.Sortable (ps.map enc2)
theorem each_of {ps : List It2} : ∀ {us : List Value}, Vals (ps.map (·.2)) us → PySem.W.EachIs (fun (u : Value) (p : It2) => RelV p.2 u) us ps := by
  induction ps with
  | nil => intro us r; cases r; exact .nil
  | cons p ps ih =>
    intro us r
    cases r with
    | cons r1 r2 => exact .cons r1 (ih r2)
theorem vals_each {ps : List It2} {us : List Value} (e : PySem.W.EachIs (fun (u : Value) (p : It2) => RelV p.2 u) us ps) : Vals (ps.map (·.2)) us := by
  induction e with
  | nil => exact .nil
  | cons h _ ih => exact .cons h ih
/-- sorted(v), v gathered to the values us of the items ps -/
theorem sorted_by {v : Value} {us : List Value} {ps : List It2} {Q : Value → Shared → Prop} (hu : X.A.units + 64 < cLine) (I : Inv X pins σ H s) (S : Srt H ps) (rv : Vals (ps.map (·.2)) us) (hL : ps.length ≤ sizeLine)
    (hcol : ∀ (E : Value → Shared → Prop) (Q : List Value → Shared → Prop), (∀ h' tk, (∀ b o, s.heap.get? b = some o → h'.get? b = some o) → Q us { s with heap := h', toks := tk }) → wpAny (model X.prog X.w) X.A.in1 (collect v) Q E s)
    (h : ∀ (s' : Shared) (ps' : List It2) (p : Addr), ps'.Perm ps → Inv X pins σ (upd H p (.lst (ps'.map (·.2)))) s' → H p = none → Q (.ref p) s') : wpAny (model X.prog X.w) X.A (call (.builtin "sorted") [v]) Q X.xe s := by
  refine Calls.call_function_entry kind_sorted plain_sorted entry_sorted (args_sorted1 _) ?_
  unfold Builtin.«sorted»
  refine wpAny_bind (m := checkCount "sorted" 1 1 _) (wpAny_pure ?_)
  refine wpAny_bind (hcol _ _ fun h1 tk k1 => ?_)
  have hvl : us.length = ps.length := by rw [← rv.length]; simp
  have I1 : Inv X pins σ H { s with heap := h1, toks := tk } := I.kept k1
  refine wpAny_bind (wpAny_newList ?_ (by rw [hvl]; exact hL))
  have hoL : (h1.push (seqObj "list" us.toArray 0)).get? h1.objs.size = some (seqObj "list" us.toArray 0) := Heap.get?_push_size _ rfl
  have I2 : Inv X pins σ H { s with heap := h1.push (seqObj "list" us.toArray 0), toks := tk } := I1.kept (t' := tk) fun b o e => Heap.get?_push_of_some _ e
  have er : ∀ (qs : List It2) (ws : List Value), (∀ p ∈ qs, p ∈ ps) → Vals (qs.map (·.2)) ws → PySem.W.EachIs (fun v b => ∃ as, Reads (h1.push (seqObj "list" us.toArray 0)) v (enc2 b) as ∧ h1.objs.size ∉ as) ws qs := by
    intro qs
    induction qs with
    | nil => intro ws _ r; cases r; exact .nil
    | cons p qs ih =>
      intro ws hs r
      cases r with
      | cons r1 r2 => exact .cons ⟨[], Rep.reads I2 _ _ _ (S.rep p (hs p List.mem_cons_self)) r1, by simp⟩ (ih _ (fun q hq => hs q (List.mem_cons_of_mem _ hq)) r2)
  refine wpAny_bind (wpAny_holding (PySem.W.list_sort_data (s := { s with heap := h1.push (seqObj "list" us.toArray 0), toks := tk }) (bs := ps) (enc := enc2) (R := fun (u : Value) (p : It2) => RelV p.2 u) hoL (each_of rv) (er ps us (fun _ h => h) rv) S.alike S.able hL (fun b hb => ?_) fun out hlen eo => ?_))
  · have e := S.low b hb
    show X.A.in1.units + 1 + (b.1.data).depth < cLine
    rw [depth_data]
    show X.A.units + 1 + 1 + b.1.depth < cLine
    omega
  · obtain ⟨c, hc⟩ := sortedHeap_at (vs := us) (out := out.toArray) hoL
    have kp : ∀ b o, h1.get? b = some o → (sortedHeap (h1.push (seqObj "list" us.toArray 0)) h1.objs.size us out.toArray).get? b = some o := fun b o e => by
      have hlt := Heap.lt_size e
      rw [sortedHeap_old (Nat.ne_of_lt hlt) (by rw [size_push']; exact Nat.lt_succ_of_lt hlt)]
      exact Heap.get?_push_of_some _ e
    have hlen2 : ((ps.mergeSort (PySem.W.dataLe false enc2)).map (·.2)).length ≤ sizeLine := by rw [List.length_map, List.length_mergeSort]; exact hL
    refine wpAny_pure ⟨_, rfl, h _ (ps.mergeSort (PySem.W.dataLe false enc2)) h1.objs.size (List.mergeSort_perm _ _) ?_ (I1.hok.fresh (Nat.le_refl _))⟩
    exact I1.laid (a := h1.objs.size) (o := .lst ((ps.mergeSort (PySem.W.dataLe false enc2)).map (·.2))) (t' := tk) kp (Nat.le_refl _) ⟨hlen2, out, c, vals_each eo, hc⟩
/-- sorted(list), sorted(tuple), sorted(dict with nested keys) -/
def rSortN (K : PySem.W.Frag) (P : Program) (w : World) : List V → Hp → VK → Prop := fun vs H Q => ∃ a ps, vs = [V.ref a] ∧ Srt H ps ∧ ((SqL K H a (ps.map (·.2)) ∨ SqT K H a (ps.map (·.2))) ∨ ∃ ts, Rd H a (NDO P w a ts) ∧ KeysIn H ts ∧ ps.map (·.2) = ts.map fun t => V.ref t.2.1) ∧
  ∀ (ps' : List It2) (p : Addr), ps'.Perm ps → H p = none → Q (.ref p) (upd H p (.lst (ps'.map (·.2))))
theorem cr_sortN (hc : X.calm = true) (hu : X.A.units + 64 < cLine) : CallR X (.builtin "sorted") (rSortN X.K X.prog X.w) := by
  intro pins s σ H vs us Q I r h
  obtain ⟨a, ps, rfl, S, src, q⟩ := h
  obtain rfl := Vals.ref1 r
  have hlen : ∀ {vs : List V}, ps.map (·.2) = vs → vs.length ≤ sizeLine → ps.length ≤ sizeLine := fun e h => by rw [← e] at h; simpa using h
  rcases src with (hs | hs) | ⟨ts, e, K, em⟩
  · obtain ⟨its, rv, ⟨o, n, ho, hcl, _, hd⟩, hz⟩ := I.list hs
    refine sorted_by hu I S rv (hlen rfl hz) (fun E Q k => wpAny_collect_seq a (.inl rfl) ho hcl hd (fun h' kk => k h' s.toks kk) (by have := rv.length; simp at this hz ⊢; omega)) fun s' ps' p pm I' hp => ⟨.ref p, _, I', rfl, q ps' p pm hp⟩
  · obtain ⟨its, rv, ⟨o, ho, hcl, n, hd⟩, hz⟩ := I.tuple hs
    refine sorted_by hu I S rv (hlen rfl hz) (fun E Q k => wpAny_collect_seq a (.inr rfl) ho hcl hd (fun h' kk => k h' s.toks kk) (by have := rv.length; simp at this hz ⊢; omega)) fun s' ps' p pm I' hp => ⟨.ref p, _, I', rfl, q ps' p pm hp⟩
  · obtain ⟨z, hs, xs, rel, o, es, ep, ho, hx, hdt, he, _⟩ := nd_rd I e K
    have hsz : es.size = ts.length := by rw [size_of_entries he, ← rel.length]
    have rv : Vals (ps.map (·.2)) (ts.map fun t => Value.ref t.2.1) := by
      rw [em]
      have : ∀ l : List NE, Vals (l.map fun t => V.ref t.2.1) (l.map fun t => Value.ref t.2.1) := by
        intro l
        induction l with
        | nil => exact .nil
        | cons t l ih => exact .cons rfl ih
      exact this ts
    refine sorted_by hu I S rv (hlen em (by simpa using z)) (fun E Q k => ?_) fun s' ps' p pm I' hp => ⟨.ref p, _, I', rfl, q ps' p pm hp⟩
    refine kdl_collect (L2.kdl_raw hs hx hdt) (show X.A.in1.handled = none from I.ok.hd hc) ho (by rw [hsz]; exact z) fun h' tk vs' kk hl hv => ?_
    have ev : vs' = ts.map fun t => Value.ref t.2.1 := by
      refine List.ext_getElem? fun j => ?_
      by_cases hj : j < ts.length
      · have h1 : j < vs'.length := by rw [hl, hsz]; exact hj
        obtain ⟨en, e1, e2⟩ := hv j vs'[j] (List.getElem?_eq_getElem h1)
        have q2 := entry_at he j
        rw [e1] at q2
        obtain ⟨b, hb, e3, e4, _⟩ := paired_get rel (List.getElem?_eq_getElem hj)
        rw [hb] at q2
        have q3 : en = entryOfKey (nestedKind X.prog X.w) b := Option.some.inj q2
        rw [List.getElem?_eq_getElem h1, e2, q3, List.getElem?_map, List.getElem?_eq_getElem hj]
        show some (Value.ref b.2.1) = some (Value.ref (ts[j]).2.1)
        rw [e4]
      · rw [List.getElem?_eq_none (by rw [hl, hsz]; omega), List.getElem?_eq_none (by simpa using hj)]
    rw [ev]
    exact k h' tk kk
end
end MW
end
section
set_option Elab.async false
set_option linter.all false
set_option maxRecDepth 100000
set_option maxHeartbeats 4000000
/-! any, all of a generator expression over a tuple. -/
namespace MW
open PySem PySem.Spec PyProof.Rows L2 Evl

def TabG (H : Hp) (P : Addr) : Prop := ∃ ps : Array Value, H P = some (.tbl ps) ∧ TriplesOk ps.toList
/-- H' is H but for the table at P -/
def Tabbed (P : Addr) (H H' : Hp) : Prop := TabG H' P ∧ ∀ b, b ≠ P → H' b = H b
theorem Tabbed.tex {P : Addr} {H H' : Hp} (t : Tabbed P H H') (g : TabG H P) : TEx H H' := fun a xs e => by
  have : a ≠ P := fun z => by obtain ⟨ps, q, _⟩ := g; rw [z, q] at e; cases e
  rw [t.2 a this]; exact e

section
variable {X : Cx} {pins : List (Addr × Obj)} {σ : L2.St} {H : Hp} {s : Shared}
/-- what stands in the generator's element: old objects, but for the table -/
def OldG (s1 s2 : Shared) (P : Addr) : Prop := ∀ b o, b ≠ P → s1.heap.get? b = some o → s2.heap.get? b = some o
/-- in the generator's frame the element gives b -/
def EltT (X : Cx) (scope : Scope) (s1 : Shared) (P : Addr) (elt : Expr) (bind : (PySem.Str → Option Value) → Prop) (b : Bool) : Prop :=
  ∀ (cenv : Env) (A' : Around) (E' : Value → Shared → Prop) (s₂ : Shared) (m₂ : PySem.Str → Option Value), cenv.scope = scope → cenv.cells = cloFrom X.env.cells scope.names [] → s₂.heap.Ns cenv.locals m₂ → bind m₂ → OldG s1 s₂ P → A'.handled = none →
    wpAny (model X.prog X.w) A' (eval elt cenv) (fun y s₃ => y = .bool b ∧ Keeps s₂ s₃) E' s₂
/-- the reading of an element at an item -/
abbrev ER := L2.St → Hp → V → Bool → Prop
def EltRule (X : Cx) (scope : Scope) (elt : Expr) (bd : Heap → Value → (PySem.Str → Option Value) → Prop) (er : ER) : Prop :=
  ∀ (pins : List (Addr × Obj)) (σ : L2.St) (H : Hp) (s1 : Shared) (P : Addr) (y : V) (u : Value) (b : Bool), Inv X pins σ H s1 → (∃ ps, H P = some (.tbl ps)) → RelV y u → er σ H y b → EltT X scope s1 P elt (bd s1.heap u) b

/-- the code object and the builtins for a generator, ahead of its making -/
theorem gen_code {c P : Addr} {gpos : Pos} {scope : Scope} {qual : PySem.Str} {o : Obj} {Q : Value → Addr → Shared → Prop} {ps : Array Value}
    (TB : LamX.TabB X.base X.mg c P) (hcode : X.env.code = .ref c) (I1 : Inv X pins σ H s) (hP : H P = some (.tbl ps)) (ht : TriplesOk ps.toList)
    (K : ∀ (code : Value) (bi : Addr) (h3 : Heap) (tk : Nat) (more : Array Value), Heap.ExtBut P (s.heap.push o) h3 → (s.heap.push o).objs.size ≤ h3.objs.size → h3.get? P = some { cls := .none, data := .fields (ps ++ more) } → TriplesOk (ps ++ more).toList → Q code bi { s with heap := h3, toks := tk }) :
    wpAny (model X.prog X.w) X.A (genexprCode X.env gpos qual scope) (fun code s₃ => wpAny (model X.prog X.w) X.A (builtinsFor X.env.globals X.env.builtins) (fun bi s₄ => Q code bi s₄) X.xe s₃) X.xe { s with heap := s.heap.push o } := by
  have hPs : s.heap.get? P = some { cls := .none, data := .fields ps } := I1.hok P _ hP
  have hP2 : (s.heap.push o).get? P = some { cls := .none, data := .fields ps } := Heap.get?_push_of_some _ hPs
  have cd : PySem.W.CodeHd (s.heap.push o) c P := TB.code.keeps fun b u e => Heap.get?_push_of_some _ (I1.bk b u e)
  have cont : ∀ (code : Value) (h3 : Heap) (tk : Nat) (ps' : Array Value), Heap.ExtBut P (s.heap.push o) h3 → (s.heap.push o).objs.size ≤ h3.objs.size → h3.get? P = some { cls := .none, data := .fields ps' } → (∃ more, ps' = ps ++ more) → TriplesOk ps'.toList →
      wpAny (model X.prog X.w) X.A (builtinsFor X.env.globals X.env.builtins) (fun bi s₄ => Q code bi s₄) X.xe { s with heap := h3, toks := tk } := by
    intro code h3 tk ps' hx hsz hP3 hmore ht3
    obtain ⟨more, rfl⟩ := hmore
    obtain ⟨bm, ob, e1, e2, e3, e4, e5, e6, e7, e8⟩ := TB.bm
    have keep3 : ∀ b u, b ≠ P → s.heap.get? b = some u → h3.get? b = some u := fun b u hb e => hx b u hb (Heap.get?_push_of_some _ e)
    exact wpAny_builtinsFor (m := X.mg) (by rw [I1.ok.glob]; exact ((I1.mod.glob.keeps I1.bk).push o).extBut hx TB.gP) e1 e2 (keep3 _ _ e4 (I1.bk _ _ e5)) e6 e7 e8 (K code _ h3 tk more hx hsz hP3 ht3)
  cases hf : codeAmong gpos ps.toList with
  | none =>
    refine wpAny_genexprCodeX hcode (cd.code hP2 ht) (cd.tab hP2) hf fun c' h' tk hx hge hlt hco' _ htab' _ => ?_
    obtain ⟨o1, vs, f1, tf, fl, tg, inF, tx, tt, op, _, _, _, _, _, _, _, _, _, htr, _⟩ := hco'
    exact cont _ h' tk _ hx (Nat.le_trans hge (Nat.le_of_lt hlt)) htab'.2 ⟨_, rfl⟩ htr
  | some cv =>
    refine wpAny_genexprCode_hit hcode (cd.code hP2 ht) hf ?_
    exact cont cv (s.heap.push o) s.toks ps (Heap.ExtBut.refl _ _) (Nat.le_refl _) hP2 ⟨#[], by simp⟩ ht
/-- behind the walk of the generator the invariant stands, the table has grown -/
theorem gen_back {P : Addr} {ps more : Array Value} {o : Obj} {h3 h5 : Heap} {tk5 : Nat} {s' : Shared} {gs : GenState} {wr : List Addr}
    (I1 : Inv X pins σ H s) (hP : H P = some (.tbl ps)) (hx : Heap.ExtBut P (s.heap.push o) h3) (hsz : (s.heap.push o).objs.size ≤ h3.objs.size) (hP3 : h3.get? P = some { cls := .none, data := .fields (ps ++ more) }) (ht3 : TriplesOk (ps ++ more).toList)
    (hgb : gs.bare = true) (hk5 : ∀ b u, h3.get? b = some u → h5.get? b = some u) (hm : Moved (h3.objs.size :: wr) (GenOnlyQ s.gens.size) { s with gens := s.gens.push gs, toks := tk5, heap := h5 } s') (hw : ∀ b ∈ wr, b = s.heap.objs.size) :
    ∃ H2, Tabbed P H H2 ∧ Inv X pins σ H2 s' := by
  have hPs : s.heap.get? P = some { cls := .none, data := .fields ps } := I1.hok P _ hP
  have sz2 : (s.heap.push o).objs.size = s.heap.objs.size + 1 := Heap.size_push ..
  have keep3 : ∀ b u, b ≠ P → s.heap.get? b = some u → h3.get? b = some u := fun b u hb e => hx b u hb (Heap.get?_push_of_some _ e)
  have nwr : ∀ b u, s.heap.get? b = some u → b ∉ h3.objs.size :: wr := fun b u e hb => by
    have hl := Heap.lt_size e
    rcases List.mem_cons.mp hb with z | z
    · rw [z] at hl
      have h9 : (h3.objs.size : Nat) < s.heap.objs.size := hl
      omega
    · rw [hw b z] at hl
      exact Nat.lt_irrefl _ hl
  have J := GxR.inv_tab (more := more) (h' := s'.heap) (g' := s'.gens) (d' := s'.drawn) (t' := s'.toks) I1 hP (fun b u hb e => hm.heap b u (nwr b u e) (hk5 b u (keep3 b u hb e)))
    (hm.heap P _ (nwr P _ hPs) (hk5 P _ hP3)) (AllBare.movedS (I1.bare.push hgb) hm)
  rw [GxR.sh_eta s s' hm.os] at J
  exact ⟨upd H P (.tbl (ps ++ more)), ⟨⟨ps ++ more, upd_same, ht3⟩, fun b hb => upd_ne hb⟩, J⟩

/-- the generator g, ready to be walked: its answers bs -/
def Ready (X : Cx) (pins : List (Addr × Obj)) (σ : L2.St) (H1 : Hp) (P : Addr) (bs : List Bool) (g : Addr) (s5 : Shared) : Prop :=
  ∃ (fp wr : List Addr) (G : Array GenState → Array GenState → Prop) (F : Nat → Value → Prop) (St : Nat → Shared → Prop),
    WalksS X.prog X.w X.A.in1 g fp wr G bs.length F St ∧ St 0 s5 ∧ TruthOf X.prog X.w X.A.in1 F (fun j => bs.getD j false) ∧ ∀ s', Moved wr G s5 s' → ∃ H2, Tabbed P H1 H2 ∧ Inv X pins σ H2 s'
/-- a target: its names' values of an item -/
inductive Tgt where
  | one (x : PySem.Str)
  | two (x y : PySem.Str)
structure GenS (env : Env) (scope : Scope) : Prop where
  kind : scope.kind = .function
  co : scope.isCoroutine = false
  cell : ∀ y ∈ scope.names, y.2 ≠ .cell
  dot : scope.names.lookup (".0" : PySem.Str) = some NameKind.local
  free : ∀ y ∈ scope.names, y.2 = .free → ∃ c, env.cells.lookup y.1 = some c
/-- the items' answers -/
def Answers (σ : L2.St) (H : Hp) (er : ER) (vs : List V) (bs : List Bool) : Prop := bs.length = vs.length ∧ ∀ (j : Nat) (y : V) (b : Bool), vs[j]? = some y → bs[j]? = some b → er σ H y b
def bd1 (x : PySem.Str) : Heap → Value → (PySem.Str → Option Value) → Prop := fun _ u m => m x = some u
def bd2 (x y : PySem.Str) : Heap → Value → (PySem.Str → Option Value) → Prop := fun h u m => ∃ t va vb, u = .ref t ∧ h.IsTuple t #[va, vb] ∧ m x = some va ∧ m y = some vb

theorem old_of {P : Addr} {o : Obj} {h3 h4 : Heap} {s2 : Shared} {wr : List Addr} {n : Nat} (hx : Heap.ExtBut P (s.heap.push o) h3) (hn : n = h3.objs.size) (hsz : (s.heap.push o).objs.size ≤ h3.objs.size) (hw : ∀ b ∈ wr, b = s.heap.objs.size)
    (k4 : ∀ b u, h3.get? b = some u → h4.get? b = some u) (hk : ∀ b ∈ List.range n, b ∉ wr → ∀ u, h4.get? b = some u → s2.heap.get? b = some u) : OldG s s2 P := fun b u hb e => by
  have hl := Heap.lt_size e
  refine hk b (List.mem_range.mpr ?_) (fun z => ?_) u (k4 b u (hx b u hb (Heap.get?_push_of_some _ e)))
  · have sz2 : (s.heap.push o).objs.size = s.heap.objs.size + 1 := Heap.size_push ..
    rw [hn]
    exact Nat.lt_of_lt_of_le hl (Nat.le_trans (by rw [sz2]; exact Nat.le_succ _) hsz)
  · rw [hw b z] at hl
    exact Nat.lt_irrefl _ hl
theorem truth_bs {prog : Program} {w : World} {A : Around} (bs : List Bool) : TruthOf prog w A (fun j y => ∃ i, (passing (fun _ => true) bs.length 0)[j]? = some i ∧ ∃ b, bs[i]? = some b ∧ y = .bool b) (fun j => bs.getD j false) := by
  intro j y sj Qj Ej hy hQj
  rw [GxR.passing_true] at hy
  obtain ⟨i, hij, b, hb, rfl⟩ := hy
  obtain ⟨hj, ej⟩ := List.getElem?_eq_some_iff.mp hij
  rw [List.getElem_range] at ej
  subst ej
  have : bs.getD j false = b := by simp [List.getD, hb]
  have hQ' : Qj (bs.getD j false) sj := hQj
  rw [this] at hQ'
  exact wpAny_truthy_bool hQ'

theorem gen_tup1 {c P : Addr} {elt iter : Expr} {x : PySem.Str} {px gpos : Pos} {scope : Scope} {er : ER} {te : TE} {k : Nat} {Q' : Value → Shared → Prop} {R : List Bool → Hp → Prop}
    (hr : Room k X.A) (TB : LamX.TabB X.base X.mg c P) (hcode : X.env.code = .ref c) (S : GenS X.env scope) (hx1 : scope.names.lookup x = some .local) (hi : PE X iter te) (hel : EltRule X scope elt (bd1 x) er)
    (hs : ∀ v, genFold iter X.env v = pure v) (I : Inv X pins σ H s) (h : te σ H fun v H1 => ∃ a vs bs, v = .ref a ∧ SqT X.K H1 a vs ∧ TabG H1 P ∧ Answers σ H1 er vs bs ∧ R bs H1)
    (hQ : ∀ bs H1 g s5, R bs H1 → Ready X pins σ H1 P bs g s5 → Q' (.ref g) s5) :
    wpAny (model X.prog X.w) X.A (eval (.GeneratorExp elt [⟨.Name x px, iter, [], 0⟩] scope gpos) X.env) Q' X.xe s := by
  refine wpAny_GeneratorExp_walksQ hr.hd S.co (closure_ok S.free) S.cell S.dot hx1 S.kind (by have := hr.dp; omega) ?_ hs
  refine thn (hi.run pins s σ H _ I h) fun xv s1 ⟨v, H1, I1, r1, q1⟩ => ?_
  obtain ⟨a, vs, bs, rfl, hq, ⟨ps, hP, ht⟩, an, q1⟩ := q1
  cases r1
  obtain ⟨its, rv, pl, hz⟩ := I1.tuple hq
  have hlen := rv.length
  have pl' : s1.heap.IsTuple a its.toArray := pl
  have hal : a < s1.heap.objs.size := pl.lt
  refine wpAny_pyIter_tuple pl' ⟨I1.nolimit.push _, ?_⟩
  refine gen_code TB hcode I1 hP ht fun code bi h3 tk more hx hsz hP3 ht3 => ?_
  have sz2 : ∀ o, (s1.heap.push o).objs.size = s1.heap.objs.size + 1 := fun o => Heap.size_push ..
  rw [sz2] at hsz
  have hPs : s1.heap.get? P = some { cls := .none, data := .fields ps } := I1.hok P _ hP
  have hPlt : P < s1.heap.objs.size := Heap.lt_size hPs
  have hcl : cStatics < s1.heap.objs.size := let ⟨_, hns, _⟩ := I1.nolimit; hns.lt
  have hcP : cStatics ≠ P := fun e => by
    obtain ⟨_, hns, _⟩ := I1.nolimit
    obtain ⟨o', es, ep, ho, hd, _⟩ := hns
    rw [e, hPs] at ho
    cases ho
    cases hd
  have haP : a ≠ P := fun e => by
    obtain ⟨o', ho, hc, n, hd⟩ := pl
    rw [e, hPs] at ho
    cases ho
    cases hd
  refine ⟨s1.heap.objs.size, [s1.heap.objs.size, a], [s1.heap.objs.size], its.toArray.size, fun i v => its.toArray[i]? = some v, fun i h => h.IsTupleIter s1.heap.objs.size a i ∧ h.IsTuple a its.toArray, (fun _ => true), (fun i y => ∃ b, bs[i]? = some b ∧ y = .bool b), rfl,
    fun A' hA => Walks.tuple hA _ a (Nat.ne_of_lt hal) its.toArray, ⟨⟨_, hx _ _ (Nat.ne_of_gt hPlt) (Heap.get?_push_size _ rfl), rfl, rfl⟩, pl'.at fun o e => hx a o haP (Heap.get?_push_of_some _ e)⟩, ?_, (I1.nolimit.push _).extBut hx hcP, ?_, ?_, ?_⟩
  · intro b hb
    have hb' : b = s1.heap.objs.size ∨ b = a := by simpa using hb
    have h9 : (s1.heap.objs.size : Nat) < h3.objs.size := hsz
    rcases hb' with z | z
    · rw [z]; exact h9
    · rw [z]; exact Nat.lt_trans hal h9
  · intro z
    have z' : cStatics = s1.heap.objs.size := by simpa using z
    exact Nat.ne_of_lt hcl z'
  · intro href hhref
    refine ⟨fun A' E' i v s₂ m₂ hA hPv hn hm hk => ?_, fun A' E' i v s₂ m₂ hA hPv hp hn hm hk => ?_⟩
    · simp only [List.forIn_nil]
      exact wpAny_pure ⟨rfl, GxR.keeps_refl _⟩
    · have hv : its[i]? = some v := by simpa using hPv
      have hi2 : i < vs.length := by rw [hlen]; exact (List.getElem?_eq_some_iff.mp hv).1
      obtain ⟨u, hu, ru⟩ := rv.get (List.getElem?_eq_getElem hi2)
      rw [hv] at hu
      cases hu
      have hb2 : i < bs.length := by rw [an.1]; exact hi2
      have e := an.2 i _ _ (List.getElem?_eq_getElem hi2) (List.getElem?_eq_getElem hb2)
      refine wpAny_mono (hel pins σ H1 s1 P _ _ _ I1 ⟨ps, hP⟩ ru e _ A' E' s₂ m₂ rfl rfl hn hm (old_of (h3 := h3) (n := h3.objs.size) hx rfl (by rw [sz2]; exact hsz) (fun b hb => by simpa using hb) hhref hk) hA) (fun y s3 r => ⟨⟨_, List.getElem?_eq_getElem hb2, r.1⟩, r.2⟩) fun _ _ e => e
  · intro g h5 tk5 gs hgb hag hsz5 hk5 W5 hat
    have el : its.toArray.size = bs.length := by rw [an.1, hlen]; simp
    rw [el] at W5 hat
    have hW := W5.in4_1
    have lp : (passing (fun _ => true) bs.length 0).length = bs.length := by rw [GxR.passing_true]; simp
    rw [lp] at hW
    refine hQ bs H1 g _ q1 ⟨_, _, _, _, _, hW, hat, truth_bs bs, fun s' hm => ?_⟩
    exact gen_back I1 hP hx (by rw [sz2]; exact hsz) hP3 ht3 hgb hk5 hm fun b hb => by simpa using hb

/-- a tuple of pairs walked -/
theorem walksU_tuple {prog : Program} {w : World} {A : Around} (hh : A.handled = none) (I ax : Addr) (hne : ax ≠ I) (items : Array Value) (ts : List Addr) (Pt : Nat → Array Value → Prop) (St : Heap → Prop)
    (hst : ∀ h h', St h → (∀ b ∈ I :: ax :: ts, b ≠ I → ∀ o, h.get? b = some o → h'.get? b = some o) → St h')
    (hit : ∀ i v, items[i]? = some v → ∃ t vals, v = .ref t ∧ t ≠ I ∧ Pt i vals ∧ ∀ h, St h → h.IsTuple t vals) :
    WalksU prog w A I (I :: ax :: ts) [I] items.size Pt (fun i h => (h.IsTupleIter I ax i ∧ h.IsTuple ax items) ∧ St h) (fun i T h => ((h.IsTupleIter I ax (i + 1) ∧ h.IsTuple ax items) ∧ St h) ∧ T ≠ I) where
  sub := fun b hb => by simp at hb; simp [hb]
  frame := fun i h h' st hk => ⟨⟨st.1.1.at fun o e => hk I (by simp) o e, st.1.2.at fun o e => hk ax (by simp) o e⟩, hst h h' st.2 fun b hb _ o e => hk b hb o e⟩
  item := fun i s Q E hi st hQ => by
    have hx : items[i]? = some items[i] := Array.getElem?_eq_getElem hi
    obtain ⟨t, vals, hv, htI, hp, hT⟩ := hit i _ hx
    rw [hv] at hx
    refine wpAny_pyNext_tuple_item st.1.1 st.1.2 hx fun h' hit' hs' => ?_
    have st' : St h' := hst _ _ st.2 fun b _ hb o e => hs'.extBut b o hb e
    exact hQ t vals h' s.toks hp (hT h' st') ⟨⟨⟨hit', st.1.2.extBut hs'.extBut hne⟩, st'⟩, htI⟩ fun b o hb e => hs'.extBut b o (fun h => hb (by simp [h])) e
  go := fun elts k pos i T s Q E mid hQ => letGo_tupleiter mid.1.1.1 (hQ s.heap mid.1 fun _ _ _ e => e)
  apart := fun i T h mid hm => mid.2 (by simpa using hm)
  done := fun s Q E st hQ => (Walks.tuple hh I ax hne items).done s Q E st.1 hQ
  self := fun i s Q E st hQ => (Walks.tuple hh I ax hne items).self i s Q E st.1 hQ

theorem gen_tup2 {c P : Addr} {elt iter : Expr} {xa xb : PySem.Str} {pa pb pt gpos : Pos} {kt : Nat} {scope : Scope} {er : ER} {te : TE} {k : Nat} {Q' : Value → Shared → Prop} {R : List Bool → Hp → Prop}
    (hr : Room k X.A) (TB : LamX.TabB X.base X.mg c P) (hcode : X.env.code = .ref c) (S : GenS X.env scope) (hxa : scope.names.lookup xa = some .local) (hxb : scope.names.lookup xb = some .local) (hab : xa ≠ xb) (hi : PE X iter te) (hel : EltRule X scope elt (bd2 xa xb) er)
    (hs : ∀ v, genFold iter X.env v = pure v) (I : Inv X pins σ H s) (h : te σ H fun v H1 => ∃ a vs bs, v = .ref a ∧ SqT X.K H1 a vs ∧ (∀ (j : Nat) (y : V), vs[j]? = some y → ∃ t p q, y = .ref t ∧ H1 t = some (.tup [p, q])) ∧ TabG H1 P ∧ Answers σ H1 er vs bs ∧ R bs H1)
    (hQ : ∀ bs H1 g s5, R bs H1 → Ready X pins σ H1 P bs g s5 → Q' (.ref g) s5) :
    wpAny (model X.prog X.w) X.A (eval (.GeneratorExp elt [⟨.Tuple [.Name xa pa, .Name xb pb] kt pt, iter, [], 0⟩] scope gpos) X.env) Q' X.xe s := by
  refine wpAny_GeneratorExp_walksQT hr.hd S.co (closure_ok S.free) S.cell S.dot hxa hxb hab S.kind (by have := hr.dp; omega) ?_ hs
  refine thn (hi.run pins s σ H _ I h) fun xv s1 ⟨v, H1, I1, r1, q1⟩ => ?_
  obtain ⟨a, vs, bs, rfl, hq, hprs, ⟨ps, hP, ht⟩, an, q1⟩ := q1
  cases r1
  obtain ⟨its, rv, pl, hz⟩ := I1.tuple hq
  have hlen := rv.length
  have pl' : s1.heap.IsTuple a its.toArray := pl
  have hal : a < s1.heap.objs.size := pl.lt
  -- each item is a pair
  have itp : ∀ (i : Nat) (v : Value), its[i]? = some v → ∃ t va vb, v = .ref t ∧ t < s1.heap.objs.size ∧ t ≠ P ∧ s1.heap.IsTuple t #[va, vb] := fun i v hv => by
    have hi2 : i < vs.length := by rw [hlen]; exact (List.getElem?_eq_some_iff.mp hv).1
    obtain ⟨u, hu, ru⟩ := rv.get (List.getElem?_eq_getElem hi2)
    rw [hv] at hu
    cases hu
    obtain ⟨t, p, q, e, ht2⟩ := hprs i _ (List.getElem?_eq_getElem hi2)
    rw [e] at ru
    cases ru
    obtain ⟨its2, rv2, pl2, _⟩ := I1.tuple (SqT.of ht2)
    obtain ⟨va, vb, rfl, _, _⟩ := Vals.two rv2
    refine ⟨t, va, vb, rfl, pl2.lt, fun e2 => ?_, pl2⟩
    rw [e2, hP] at ht2
    cases ht2
  refine wpAny_pyIter_tuple pl' ⟨I1.nolimit.push _, ?_⟩
  refine gen_code TB hcode I1 hP ht fun code bi h3 tk more hx hsz hP3 ht3 => ?_
  have sz2 : ∀ o, (s1.heap.push o).objs.size = s1.heap.objs.size + 1 := fun o => Heap.size_push ..
  rw [sz2] at hsz
  have hPs : s1.heap.get? P = some { cls := .none, data := .fields ps } := I1.hok P _ hP
  have hPlt : P < s1.heap.objs.size := Heap.lt_size hPs
  have hcl : cStatics < s1.heap.objs.size := let ⟨_, hns, _⟩ := I1.nolimit; hns.lt
  have hcP : cStatics ≠ P := fun e => by
    obtain ⟨_, hns, _⟩ := I1.nolimit
    obtain ⟨o', es, ep, ho, hd, _⟩ := hns
    rw [e, hPs] at ho
    cases ho
    cases hd
  have haP : a ≠ P := fun e => by
    obtain ⟨o', ho, hc, n, hd⟩ := pl
    rw [e, hPs] at ho
    cases ho
    cases hd
  let St : Heap → Prop := fun h => ∀ b, b ≠ s1.heap.objs.size → b ≠ P → b < s1.heap.objs.size → ∀ o, s1.heap.get? b = some o → h.get? b = some o
  refine ⟨s1.heap.objs.size, s1.heap.objs.size :: a :: List.range s1.heap.objs.size, [s1.heap.objs.size], its.toArray.size, fun i vals => ∃ t, its[i]? = some (.ref t) ∧ s1.heap.IsTuple t vals ∧ ∃ va vb, vals = #[va, vb], (fun i h => (h.IsTupleIter s1.heap.objs.size a i ∧ h.IsTuple a its.toArray) ∧ St h), _, (fun _ => true), (fun i y => ∃ b, bs[i]? = some b ∧ y = .bool b), rfl,
    fun A' hA => walksU_tuple hA _ a (Nat.ne_of_lt hal) its.toArray (List.range s1.heap.objs.size) _ St (fun h h' st hk b hb hbP hlt o e => hk b (by simp; exact .inr (.inr hlt)) hb o (st b hb hbP hlt o e)) (fun i v hv => ?_), ?_, ⟨⟨⟨_, hx _ _ (Nat.ne_of_gt hPlt) (Heap.get?_push_size _ rfl), rfl, rfl⟩, pl'.at fun o e => hx a o haP (Heap.get?_push_of_some _ e)⟩, fun b _ hbP _ o e => hx b o hbP (Heap.get?_push_of_some _ e)⟩, ?_, (I1.nolimit.push _).extBut hx hcP, ?_, ?_, ?_⟩
  · have hv' : its[i]? = some v := by simpa using hv
    obtain ⟨t, va, vb, rfl, hlt, htP, hT⟩ := itp i v hv'
    refine ⟨t, #[va, vb], rfl, Nat.ne_of_lt hlt, ⟨t, hv', hT, va, vb, rfl⟩, fun h st => ?_⟩
    exact hT.at fun o e => st t (Nat.ne_of_lt hlt) htP hlt o e
  · rintro i vals ⟨t, _, _, h⟩
    exact h
  · intro b hb
    have h9 : (s1.heap.objs.size : Nat) < h3.objs.size := hsz
    rcases List.mem_cons.mp hb with z | hb
    · rw [z]; exact h9
    · rcases List.mem_cons.mp hb with z | hb
      · rw [z]; exact Nat.lt_trans hal h9
      · exact Nat.lt_trans (List.mem_range.mp hb) h9
  · intro z
    have z' : cStatics = s1.heap.objs.size := by simpa using z
    exact Nat.ne_of_lt hcl z'
  · intro href hhref
    refine ⟨fun A' E' i va vb s₂ m₂ hA hPv hn hma hmb hk => ?_, fun A' E' i va vb s₂ m₂ hA hPv hp hn hma hmb hk => ?_⟩
    · simp only [List.forIn_nil]
      exact wpAny_pure ⟨rfl, GxR.keeps_refl _⟩
    · obtain ⟨t, hv, hT, _⟩ := hPv
      have hi2 : i < vs.length := by rw [hlen]; exact (List.getElem?_eq_some_iff.mp hv).1
      obtain ⟨u, hu, ru⟩ := rv.get (List.getElem?_eq_getElem hi2)
      rw [hv] at hu
      cases hu
      have hb2 : i < bs.length := by rw [an.1]; exact hi2
      have e := an.2 i _ _ (List.getElem?_eq_getElem hi2) (List.getElem?_eq_getElem hb2)
      refine wpAny_mono (hel pins σ H1 s1 P _ _ _ I1 ⟨ps, hP⟩ ru e _ A' E' s₂ m₂ rfl rfl hn ⟨t, va, vb, rfl, hT, hma, hmb⟩ (old_of (h3 := h3) (n := h3.objs.size) hx rfl (by rw [sz2]; exact hsz) (fun b hb => by simpa using hb) hhref hk) hA) (fun y s3 r => ⟨⟨_, List.getElem?_eq_getElem hb2, r.1⟩, r.2⟩) fun _ _ e => e
  · intro g h5 tk5 gs hgb hag hsz5 hk5 W5 hat
    have el : its.toArray.size = bs.length := by rw [an.1, hlen]; simp
    rw [el] at W5 hat
    have hW := W5.in4_1
    have lp : (passing (fun _ => true) bs.length 0).length = bs.length := by rw [GxR.passing_true]; simp
    rw [lp] at hW
    refine hQ bs H1 g _ q1 ⟨_, _, _, _, _, hW, hat, truth_bs bs, fun s' hm => ?_⟩
    exact gen_back I1 hP hx (by rw [sz2]; exact hsz) hP3 ht3 hgb hk5 hm fun b hb => by simpa using hb
end
end MW
end
section
set_option Elab.async false
set_option linter.all false
set_option maxRecDepth 100000
set_option maxHeartbeats 4000000
namespace MW
open PySem PySem.Spec PyProof.Rows L2 Evl
section
variable {X : Cx} {pins : List (Addr × Obj)} {σ : L2.St} {H : Hp} {s : Shared}
def tAnyT (K : PySem.W.Frag) (P : Addr) (er : ER) (te : TE) : TE := fun σ H Q => te σ H fun v H1 => ∃ a vs bs, v = .ref a ∧ SqT K H1 a vs ∧ TabG H1 P ∧ Answers σ H1 er vs bs ∧ ∀ H2, Tabbed P H1 H2 → Q (.bl (bs.any id)) H2
def tAllT (K : PySem.W.Frag) (P : Addr) (er : ER) (te : TE) : TE := fun σ H Q => te σ H fun v H1 => ∃ a vs bs, v = .ref a ∧ SqT K H1 a vs ∧ TabG H1 P ∧ Answers σ H1 er vs bs ∧ ∀ H2, Tabbed P H1 H2 → Q (.bl (bs.all id)) H2
def tAnyT2 (K : PySem.W.Frag) (P : Addr) (er : ER) (te : TE) : TE := fun σ H Q => te σ H fun v H1 => ∃ a vs bs, v = .ref a ∧ SqT K H1 a vs ∧ (∀ (j : Nat) (y : V), vs[j]? = some y → ∃ t p q, y = .ref t ∧ H1 t = some (.tup [p, q])) ∧ TabG H1 P ∧ Answers σ H1 er vs bs ∧ ∀ H2, Tabbed P H1 H2 → Q (.bl (bs.any id)) H2
theorem pe_anyT {c P : Addr} {elt iter : Expr} {x : PySem.Str} {px p pos gpos : Pos} {scope : Scope} {er : ER} {te : TE} {k : Nat}
    (hr : Room k X.A) (hg : Gl X "any") (hm : X.mg "any" = none) (TB : LamX.TabB X.base X.mg c P) (hcode : X.env.code = .ref c) (S : ∀ (pins : List (Addr × Obj)) (s : Shared) (σ : L2.St) (H : Hp), Inv X pins σ H s → GenS X.env scope) (hx : scope.names.lookup x = some .local) (hi : PE X iter te) (hel : EltRule X scope elt (bd1 x) er)
    (hs : ∀ v, genFold iter X.env v = pure v := by intro _; rfl)
    (he : starEach [.GeneratorExp elt [⟨.Name x px, iter, [], 0⟩] scope gpos] X.env = (false, eval (.GeneratorExp elt [⟨.Name x px, iter, [], 0⟩] scope gpos) X.env) :: starEach [] X.env := by rfl) :
    PE X (.Call (.Name "any" p) [.GeneratorExp elt [⟨.Name x px, iter, [], 0⟩] scope gpos] [] pos) (tAnyT X.K P er te) := by
  refine ⟨fun pins s σ H Q I h => ?_⟩
  refine wpAny_Call_Name_kw (ld_blt I hg hm boot_any ?_)
  refine PyProof.Rows.callWith_builtin1 ?_ he (by rfl)
  rw [he]
  show wpAny _ _ (spliced ((false, eval (.GeneratorExp elt [⟨.Name x px, iter, [], 0⟩] scope gpos) X.env) :: backTo pos (starEach [] X.env))) _ _ s
  refine Calls.spliced_cons (gen_tup1 (R := fun bs H1 => ∀ H2, Tabbed P H1 H2 → Q (.bl (bs.any id)) H2) hr TB hcode (S pins s σ H I) hx hi hel hs I h fun bs H1 g s5 hR hG => ?_)
  obtain ⟨fp, wr, G, F, St, W, hst, htr, hI⟩ := hG
  refine Calls.spliced_nil ?_
  refine call_any_walkS (W.self 0 _ _ _ hst ⟨g, fp, wr, G, _, F, St, _, rfl, W, hst, htr, fun s' hmv => ?_⟩)
  obtain ⟨H2, hT, J⟩ := hI s' hmv
  refine ⟨.bl _, H2, J, rfl, ?_⟩
  rw [any_range bs]
  exact hR H2 hT
theorem pe_allT {c P : Addr} {elt iter : Expr} {x : PySem.Str} {px p pos gpos : Pos} {scope : Scope} {er : ER} {te : TE} {k : Nat}
    (hr : Room k X.A) (hg : Gl X "all") (hm : X.mg "all" = none) (TB : LamX.TabB X.base X.mg c P) (hcode : X.env.code = .ref c) (S : ∀ (pins : List (Addr × Obj)) (s : Shared) (σ : L2.St) (H : Hp), Inv X pins σ H s → GenS X.env scope) (hx : scope.names.lookup x = some .local) (hi : PE X iter te) (hel : EltRule X scope elt (bd1 x) er)
    (hs : ∀ v, genFold iter X.env v = pure v := by intro _; rfl)
    (he : starEach [.GeneratorExp elt [⟨.Name x px, iter, [], 0⟩] scope gpos] X.env = (false, eval (.GeneratorExp elt [⟨.Name x px, iter, [], 0⟩] scope gpos) X.env) :: starEach [] X.env := by rfl) :
    PE X (.Call (.Name "all" p) [.GeneratorExp elt [⟨.Name x px, iter, [], 0⟩] scope gpos] [] pos) (tAllT X.K P er te) := by
  refine ⟨fun pins s σ H Q I h => ?_⟩
  refine wpAny_Call_Name_kw (ld_blt I hg hm (show bootBuiltins "all" = some (.builtin "all") by decide +kernel) ?_)
  refine PyProof.Rows.callWith_builtin1 ?_ he (by rfl)
  rw [he]
  show wpAny _ _ (spliced ((false, eval (.GeneratorExp elt [⟨.Name x px, iter, [], 0⟩] scope gpos) X.env) :: backTo pos (starEach [] X.env))) _ _ s
  refine Calls.spliced_cons (gen_tup1 (R := fun bs H1 => ∀ H2, Tabbed P H1 H2 → Q (.bl (bs.all id)) H2) hr TB hcode (S pins s σ H I) hx hi hel hs I h fun bs H1 g s5 hR hG => ?_)
  obtain ⟨fp, wr, G, F, St, W, hst, htr, hI⟩ := hG
  refine Calls.spliced_nil ?_
  refine call_all_walkS (W.self 0 _ _ _ hst ⟨g, fp, wr, G, _, F, St, _, rfl, W, hst, htr, fun s' hmv => ?_⟩)
  obtain ⟨H2, hT, J⟩ := hI s' hmv
  refine ⟨.bl _, H2, J, rfl, ?_⟩
  rw [all_range bs]
  exact hR H2 hT
theorem pe_anyT2 {c P : Addr} {elt iter : Expr} {xa xb : PySem.Str} {pa pb pt p pos gpos : Pos} {kt : Nat} {scope : Scope} {er : ER} {te : TE} {k : Nat}
    (hr : Room k X.A) (hg : Gl X "any") (hm : X.mg "any" = none) (TB : LamX.TabB X.base X.mg c P) (hcode : X.env.code = .ref c) (S : ∀ (pins : List (Addr × Obj)) (s : Shared) (σ : L2.St) (H : Hp), Inv X pins σ H s → GenS X.env scope) (hxa : scope.names.lookup xa = some .local) (hxb : scope.names.lookup xb = some .local) (hab : xa ≠ xb) (hi : PE X iter te) (hel : EltRule X scope elt (bd2 xa xb) er)
    (hs : ∀ v, genFold iter X.env v = pure v := by intro _; rfl)
    (he : starEach [.GeneratorExp elt [⟨.Tuple [.Name xa pa, .Name xb pb] kt pt, iter, [], 0⟩] scope gpos] X.env = (false, eval (.GeneratorExp elt [⟨.Tuple [.Name xa pa, .Name xb pb] kt pt, iter, [], 0⟩] scope gpos) X.env) :: starEach [] X.env := by rfl) :
    PE X (.Call (.Name "any" p) [.GeneratorExp elt [⟨.Tuple [.Name xa pa, .Name xb pb] kt pt, iter, [], 0⟩] scope gpos] [] pos) (tAnyT2 X.K P er te) := by
  refine ⟨fun pins s σ H Q I h => ?_⟩
  refine wpAny_Call_Name_kw (ld_blt I hg hm boot_any ?_)
  refine PyProof.Rows.callWith_builtin1 ?_ he (by rfl)
  rw [he]
  show wpAny _ _ (spliced ((false, eval (.GeneratorExp elt [⟨.Tuple [.Name xa pa, .Name xb pb] kt pt, iter, [], 0⟩] scope gpos) X.env) :: backTo pos (starEach [] X.env))) _ _ s
  refine Calls.spliced_cons (gen_tup2 (R := fun bs H1 => ∀ H2, Tabbed P H1 H2 → Q (.bl (bs.any id)) H2) hr TB hcode (S pins s σ H I) hxa hxb hab hi hel hs I h fun bs H1 g s5 hR hG => ?_)
  obtain ⟨fp, wr, G, F, St, W, hst, htr, hI⟩ := hG
  refine Calls.spliced_nil ?_
  refine call_any_walkS (W.self 0 _ _ _ hst ⟨g, fp, wr, G, _, F, St, _, rfl, W, hst, htr, fun s' hmv => ?_⟩)
  obtain ⟨H2, hT, J⟩ := hI s' hmv
  refine ⟨.bl _, H2, J, rfl, ?_⟩
  rw [any_range bs]
  exact hR H2 hT

/-! ### elements -/
theorem clo_lookup {cells : List (PySem.Str × Addr)} {names : List (PySem.Str × NameKind)} {y : PySem.Str} {c : Addr} (h : (y, NameKind.free) ∈ names) (hc : cells.lookup y = some c) : (cloFrom cells names []).lookup y = some c := by
  obtain ⟨c', e⟩ := mem_lookup (cloFrom_has (cells := cells) (acc := []) h)
  rcases cloFrom_mem (PySem.mem_of_lookup e) with z | ⟨_, z⟩
  · simp at z
  · rw [e, z, hc]
    rfl
/-- a captured name in the element -/
theorem ld_cap {scope : Scope} {P : Addr} {j : Nat} {y : PySem.Str} {v : V} {pos : Pos} {cenv : Env} {A' : Around} {E' : Value → Shared → Prop} {s₂ : Shared} {Q : Value → Shared → Prop} (I : Inv X pins σ H s) (hP : ∃ ps, H P = some (.tbl ps)) (hN : X.N[j]? = some y) (hk : X.env.scope.names.lookup y = some .cell)
    (hσ : σ[j]? = some (some v)) (hs : scope.kind = .function) (hf : (y, NameKind.free) ∈ scope.names) (hl : scope.names.lookup y = some .free) (e1 : cenv.scope = scope) (e2 : cenv.cells = cloFrom X.env.cells scope.names []) (old : OldG s s₂ P) (h : ∀ u, RelV v u → Q u s₂)
    (hd : (y == ("__debug__" : PySem.Str)) = false := by decide) (hcd : (y == ("__classdict__" : PySem.Str)) = false := by decide) : wpAny (model X.prog X.w) A' (eval (.Name y pos) cenv) Q E' s₂ := by
  obtain ⟨m, hn, hl2⟩ := I.loc
  obtain ⟨u, r, l⟩ := hl2 j y v hN hσ (.inr (.inl hk))
  rcases l with ⟨k, _⟩ | ⟨_, c, hc, hcell⟩
  · have : X.env.scope.names.lookup y = some .local := k
    rw [hk] at this
    cases this
  · obtain ⟨o, ho, hdt⟩ := hcell
    have hcP : c ≠ P := fun z => by
      obtain ⟨ps, q⟩ := hP
      have q2 : s.heap.get? P = some { cls := .none, data := .fields ps } := I.hok P _ q
      rw [z, q2] at ho
      cases ho
      cases hdt
    exact wpAny_Name (wpAny_loadName_free (by rw [e1]; exact hs) (show cenv.scope.names.lookup y = some .free by rw [e1]; exact hl) (by rw [e2]; exact clo_lookup hf hc) ⟨o, old c o hcP ho, hdt⟩ (h u r) hcd) hd
/-- value <= number -/
def erLe (j : Nat) : ER := fun σ _ y b => ∃ i n : Int, y = .int i ∧ σ[j]? = some (some (.int n)) ∧ b = decide (i ≤ n)
theorem elt_le {scope : Scope} {x y : PySem.Str} {p1 p2 p3 : Pos} {j : Nat} (hN : X.N[j]? = some y) (hk : X.env.scope.names.lookup y = some .cell) (hs : scope.kind = .function) (hx : scope.names.lookup x = some .local) (hf : (y, NameKind.free) ∈ scope.names) (hl : scope.names.lookup y = some .free)
    (hd : (y == ("__debug__" : PySem.Str)) = false := by decide) (hcd : (y == ("__classdict__" : PySem.Str)) = false := by decide) (hdx : (x == ("__debug__" : PySem.Str)) = false := by decide) :
    EltRule X scope (.Compare (.Name x p1) [.LtE] [.Name y p2] p3) (bd1 x) (erLe j) := by
  intro pins σ H s1 P yv u b I hP ru er cenv A' E' s₂ m₂ e1 e2 hn hb old hh
  obtain ⟨i, n, rfl, hσ, rfl⟩ := er
  obtain ⟨t, rfl⟩ := ru
  refine wpAny_Compare1 ?_
  refine wpAny_Name (wpAny_loadName_local (by rw [e1]; exact hs) (show cenv.scope.names.lookup x = some .local by rw [e1]; exact hx) hn hb ?_) hdx
  refine ld_cap I hP hN hk hσ hs hf hl e1 e2 old (fun w rw' => ?_) hd hcd
  obtain ⟨t', rfl⟩ := rw'
  exact le_int ⟨rfl, GxR.keeps_refl _⟩
/-- state in machine[5] -/
def inAt (k : Nat) (σ : L2.St) (H : Hp) (j : Nat) (i : Int) (b : Bool) : Prop := ∃ a vs c ns, σ[j]? = some (some (.ref a)) ∧ H a = some (.tup vs) ∧ vs[k]? = some (.ref c) ∧ H c = some (.tup ((ns : List Int).map V.int)) ∧ b = inV (.int i) (ns.map V.int)
theorem elt_in_core {scope : Scope} {P : Addr} {y : PySem.Str} {p2 p3 p4 : Pos} {kk : Nat} {j k : Nat} {i : Int} {t : Tok} {b : Bool} {cenv : Env} {A' : Around} {E' : Value → Shared → Prop} {s₂ : Shared} (I : Inv X pins σ H s) (hP : ∃ ps, H P = some (.tbl ps)) (hN : X.N[j]? = some y) (hk : X.env.scope.names.lookup y = some .cell)
    (hs : scope.kind = .function) (hf : (y, NameKind.free) ∈ scope.names) (hl : scope.names.lookup y = some .free) (e1 : cenv.scope = scope) (e2 : cenv.cells = cloFrom X.env.cells scope.names []) (old : OldG s s₂ P) (er : inAt k σ H j i b)
    (hd : (y == ("__debug__" : PySem.Str)) = false := by decide) (hcd : (y == ("__classdict__" : PySem.Str)) = false := by decide) :
    wpAny (model X.prog X.w) A' (eval (.Subscript (.Name y p2) (.Constant (.int (k : Int)) kk p3) p4) cenv) (fun u s' => wpAny (model X.prog X.w) A' (compareOp .In (.int i t) u) (fun v s₃ => v = .bool b ∧ Keeps s₂ s₃) E' s') E' s₂ := by
  obtain ⟨a, vs, c, ns, hσ, ha, hv, hc, rfl⟩ := er
  obtain ⟨its, rv, pl, hz⟩ := I.tuple (SqT.of ha)
  obtain ⟨its2, rv2, pl2, hz2⟩ := I.tuple (SqT.of hc)
  have neP : ∀ {q : Addr} {ys : List V}, H q = some (.tup ys) → q ≠ P := fun e z => by
    obtain ⟨ps, q⟩ := hP
    rw [z, q] at e
    cases e
  obtain ⟨u, hu, ru⟩ := rv.get hv
  cases ru
  have plS : IsTup s₂.heap a its.toArray := by
    obtain ⟨o, ho, r⟩ := pl
    exact ⟨o, old a o (neP ha) ho, r⟩
  have plS2 : IsTup s₂.heap c its2.toArray := by
    obtain ⟨o, ho, r⟩ := pl2
    exact ⟨o, old c o (neP hc) ho, r⟩
  obtain ⟨j', h1, h2, h3, h4, h5⟩ := atI_get (atI_nat hu)
  have hl63 := line63
  have hlen := rv.length
  have fl : ∀ l : List Int, (l.map V.int).all flatV = true := fun l => by
    rw [List.all_map]
    exact List.all_eq_true.mpr fun _ _ => rfl
  refine Subscript_ (ld_cap I hP hN hk hσ hs hf hl e1 e2 old (fun w rw' => ?_) hd hcd)
  cases rw'
  refine wpAny_Constant_int ?_
  have pls' : IsTup ({ s₂ with toks := s₂.toks + 1 } : Shared).heap a its.toArray := plS
  refine subscriptTail_builtinR (x := .ref c) (IsTup.typeIs pls') slot_tuple_getitem.lookup (getItem_tuple (j := j') pls' (by omega) (by omega) (by rw [List.size_toArray]; exact h1) (by simpa using h2) ⟨rfl, ?_⟩) rfl
  refine SeqAt.in_tupleAt (eqU (.int i)) (show IsTup ({ s₂ with toks := s₂.toks + 1 } : Shared).heap c its2.toArray from plS2) (fun w hw => mem_eqAt (x := .int i) ⟨t, rfl⟩ rfl rv2 (fl ns) w (by simpa using hw)) ⟨?_, GxR.keeps_tok _ _⟩
  rw [show its2.toArray.any (eqU (.int i)) = its2.any (eqU (.int i)) by simp, any_eqU rv2 (fl ns)]
  rfl
def erIn (j k : Nat) : ER := fun σ H y b => ∃ i, y = .int i ∧ inAt k σ H j i b
theorem elt_in {scope : Scope} {x y : PySem.Str} {p1 p2 p3 p4 p5 : Pos} {kk : Nat} {j k : Nat} (hN : X.N[j]? = some y) (hk : X.env.scope.names.lookup y = some .cell) (hs : scope.kind = .function) (hx : scope.names.lookup x = some .local) (hf : (y, NameKind.free) ∈ scope.names) (hl : scope.names.lookup y = some .free)
    (hd : (y == ("__debug__" : PySem.Str)) = false := by decide) (hcd : (y == ("__classdict__" : PySem.Str)) = false := by decide) (hdx : (x == ("__debug__" : PySem.Str)) = false := by decide) :
    EltRule X scope (.Compare (.Name x p1) [.In] [.Subscript (.Name y p2) (.Constant (.int (k : Int)) kk p3) p4] p5) (bd1 x) (erIn j k) := by
  intro pins σ H s1 P yv u b I hP ru er cenv A' E' s₂ m₂ e1 e2 hn hb old hh
  obtain ⟨i, rfl, er⟩ := er
  obtain ⟨t, rfl⟩ := ru
  refine wpAny_Compare1 ?_
  refine wpAny_Name (wpAny_loadName_local (by rw [e1]; exact hs) (show cenv.scope.names.lookup x = some .local by rw [e1]; exact hx) hn hb ?_) hdx
  exact elt_in_core I hP hN hk hs hf hl e1 e2 old er hd hcd
def erIn2 (j k : Nat) : ER := fun σ H y b => ∃ q i z, y = .ref q ∧ H q = some (.tup [.int i, z]) ∧ inAt k σ H j i b
theorem elt_in2 {scope : Scope} {x x2 y : PySem.Str} {p1 p2 p3 p4 p5 : Pos} {kk : Nat} {j k : Nat} (hN : X.N[j]? = some y) (hk : X.env.scope.names.lookup y = some .cell) (hs : scope.kind = .function) (hx : scope.names.lookup x = some .local) (hf : (y, NameKind.free) ∈ scope.names) (hl : scope.names.lookup y = some .free)
    (hd : (y == ("__debug__" : PySem.Str)) = false := by decide) (hcd : (y == ("__classdict__" : PySem.Str)) = false := by decide) (hdx : (x == ("__debug__" : PySem.Str)) = false := by decide) :
    EltRule X scope (.Compare (.Name x p1) [.In] [.Subscript (.Name y p2) (.Constant (.int (k : Int)) kk p3) p4] p5) (bd2 x x2) (erIn2 j k) := by
  intro pins σ H s1 P yv u b I hP ru er cenv A' E' s₂ m₂ e1 e2 hn hb old hh
  obtain ⟨q, i, z, rfl, hq, er⟩ := er
  cases ru
  obtain ⟨t', va, vb, e, hT, hma, hmb⟩ := hb
  cases e
  obtain ⟨its, rv, pl, _⟩ := I.tuple (SqT.of hq)
  obtain ⟨ua, ub, rfl, ra, rb⟩ := Vals.two rv
  obtain ⟨t, rfl⟩ := ra
  have ea : va = Value.int i t := by
    obtain ⟨o, ho, _, n, hd1⟩ := hT
    obtain ⟨o', ho', _, n', hd2⟩ := pl
    rw [ho] at ho'; cases ho'
    rw [hd1] at hd2
    cases hd2
    rfl
  subst ea
  refine wpAny_Compare1 ?_
  refine wpAny_Name (wpAny_loadName_local (by rw [e1]; exact hs) (show cenv.scope.names.lookup x = some .local by rw [e1]; exact hx) hn hma ?_) hdx
  exact elt_in_core I hP hN hk hs hf hl e1 e2 old er hd hcd
end
end MW
end
section
set_option Elab.async false
set_option linter.all false
set_option maxRecDepth 100000
set_option maxHeartbeats 4000000
/-! More rules: a def held by an instance's attribute, called; ranges as values; t.index of flat items; {k: v} with a nested key. -/
namespace MW
open PySem PySem.Spec PyProof.Rows L2 Evl
section
variable {X : Cx} {pins : List (Addr × Obj)} {σ : L2.St} {H : Hp} {s : Shared}

/-! ### o.m(..), m an attribute of the instance -/
theorem getmeth_fld {a C dx : Addr} {fs : List (PySem.Str × V)} {m : PySem.Str} {v : V} {A : Around} {E : Value → Shared → Prop} {pl : Sem Bool} {Q : Value × List Value → Shared → Prop} (I : Inv X pins σ H s) (e : H a = some (.ins C dx fs)) (c : Cls X.K C) (n : NoAttr X.K C m) (l : fs.lookup m = some v)
    (h : ∀ u s', Inv X pins σ H s' → RelV v u → Q (u, []) s') : wpAny (model X.prog X.w) A (getMethod (.ref a) m pl) Q E s := by
  obtain ⟨mA, O, r, _, _, _⟩ := ins_get I.hok e
  obtain ⟨od, J, hl⟩ := O.look
  have hga := (PySem.W.plainGet_of (c.get m)).1
  have hk := (PySem.W.plainGet_of (c.get m)).2
  have hcan := PySem.F.canon_object_ga
  unfold getMethod specialOf
  refine wpAny_bind (wpAny_bind (J.type.here ((PySem.W.looks_findIn I.kIn hga).here ?_)))
  dsimp only
  rw [hcan, if_neg (by decide)]
  refine wpAny_bind (wpAny_bind (J.type.here ((PySem.W.looks_findIn I.kIn hk).here ?_)))
  refine wpAny_bind (wpAny_bind (J.type.here ((PySem.W.looks_findIn I.kIn n).here ?_)))
  exact wpAny_bind (getattr_ok I e c n l fun u s' I' ru => wpAny_pure (h u s' I' ru))
variable {CX : CXT} {k : Nat} {f C : Addr} {fd : FuncData} {ps : List PySem.Str} {sp : Sp} {dvs : List V} {ds : List Value} {E : XK} {x m : PySem.Str} {p pos apos : Pos} {e o : Expr} {es : List Expr} {ta : TE} {t : TA}
def tFCall (C : Addr) (m : PySem.Str) (f : Addr) (sp : Sp) (dvs : List V) (E : XK) (ta : TE) (t : TA) : TE := fun σ H Q => ta σ H fun x H1 => ∃ a dx fs, x = .ref a ∧ H1 a = some (.ins C dx fs) ∧ fs.lookup m = some (.ref f) ∧ t σ H1 fun vs H2 => sp (vs ++ dvs) H2 Q E
theorem pe_fcall {pl : Sem Bool} (he : PE X o ta) (c : Cls X.K C) (n : NoAttr X.K C m) (F : FnOk X.prog X.w X.K X.mg X.base CX k f fd ps sp) (hr : Room k X.A) (hk : PySem.W.keepIn X.K (.ref f) = true) (hb : Binds X.K fd ps ds) (hd : Vals dvs ds) (hx : Passes CX X E) (ha : PA X (e :: es) t)
    (hst : starEach (e :: es) X.env = (false, eval e X.env) :: starEach es X.env := by rfl) (hpl : (backTo pos (starEach es X.env)).any (·.1) = false := by rfl)
    (ht : eval (.Call (.Attribute o m apos) (e :: es) [] pos) X.env = (do
      let ov ← eval o X.env
      standAt apos.atName
      let (f, first) ← holding [ov] (getMethod ov m pl)
      callWith pos f first (backTo pos (starEach (e :: es) X.env)) (backToKw pos (keywordEach [] X.env))) := by rfl) :
    PE X (.Call (.Attribute o m apos) (e :: es) [] pos) (tFCall C m f sp dvs E ta t) := by
  refine ⟨fun pins s σ H Q I h => ?_⟩
  refine PySem.W.methodCall_KW (pl := pl) (thn (he.run pins s σ H _ I h) fun u s1 ⟨x, H1, I1, rx, a, dx, fs, ex, ea, l, q⟩ => ?_) ht
  subst ex
  cases rx
  refine getmeth_fld I1 ea c n l fun u s2 I2 ru => ?_
  cases ru
  refine PySem.W.callWith_K (h₀ := X.base) I.ok.mod.kin hk (thn (ha.run pos pins s2 σ H1 _ I2 q) fun us s3 ⟨vs, H2, I3, r, q2⟩ => ⟨I3.kIn, ?_⟩) hst hpl
  exact run_fn F hr hb hd hx I3 r q2

/-! ### ranges as values -/
theorem cr_rangeV : CallR X (.type "range") (fun vs H Q => ∃ n, vs = [V.int n] ∧ ∀ p, H p = none → Q (.ref p) (upd H p (.rng 0 n))) := by
  intro pins s σ H vs us Q I r h
  obtain ⟨j, rfl, q⟩ := h
  obtain ⟨u, rfl, t, rfl⟩ := vals1 r
  refine call_range_1 ⟨.ref s.heap.objs.size, upd H s.heap.objs.size (.rng 0 j), I.laid (t' := _) (fun b o e => Heap.get?_push_of_some _ e) (Nat.le_refl _) ?_, rfl, q _ (I.hok.fresh (Nat.le_refl _))⟩
  exact ⟨_, _, _, Heap.get?_push_size _ rfl⟩
def iRngV (te : TE) : TI := fun σ H R => te σ H fun x H1 => ∃ a lo hi, x = .ref a ∧ H1 a = some (.rng lo hi) ∧ (-(2 ^ 62) ≤ lo ∧ lo < 2 ^ 62 ∧ -(2 ^ 62) ≤ hi ∧ hi < 2 ^ 62) ∧ R (Itr lo (hi - lo).toNat) H1
theorem pi_rngV {tg : Expr} {te : TE} (he : PE X e te) : PI X tg e (iRngV te) := by
  refine ⟨fun pins s σ H R I h => ?_⟩
  refine thn (he.run pins s σ H _ I h) fun u s1 ⟨x, H1, I1, rx, a, lo, hi, ex, hd, ⟨h1, h2, h3, h4⟩, q⟩ => ?_
  subst ex
  cases rx
  obtain ⟨t, u, v, ho⟩ := I1.hok a _ hd
  refine wpAny_pyIter_range ho (small_one h1 h2 h3 h4) ?_
  refine pi_one (tk := s1.toks) I1 _ (turn_range _ lo (hi - lo).toNat) ?_ q
  have e1 : lo + ((0 : Nat) : Int) * 1 = lo := by simp
  have e2 : (((hi - lo).toNat : Nat) : Int) - ((0 : Nat) : Int) = Builtin.Range.rangeSize lo hi 1 := by rw [rangeSize_one]; split <;> omega
  show IsRangeIter _ _ (lo + ((0 : Nat) : Int) * 1) ((((hi - lo).toNat : Nat) : Int) - ((0 : Nat) : Int)) 1
  rw [e1, e2]
  exact Heap.get?_push_size _ rfl

/-! ### t.index(y), flat items, the first place -/
def rTIndex (K : PySem.W.Frag) : V → List V → Hp → VK → Prop := fun x xs H Q => ∃ p ys z j y, x = .ref p ∧ xs = [z] ∧ SqT K H p ys ∧ flatV z = true ∧ ys.all flatV = true ∧ ys[j]? = some y ∧ eqV y z = true ∧ (∀ (m : Nat) y', m < j → ys[m]? = some y' → eqV y' z = false) ∧ Q (.int (j : Nat)) H
theorem mt_tindex : MtR X "tuple.index" (rTIndex X.K) := by
  intro pins s σ H x xs v us Q I rx rs h
  obtain ⟨p, ys, z, j, y, rfl, rfl, hq, fz, fy, hy, hyz, hno, q⟩ := h
  cases rx
  obtain ⟨u, rfl, ru⟩ := vals1 rs
  obtain ⟨its, r, pl, hz⟩ := I.tuple hq
  obtain ⟨⟨cls, dd, dt, sl⟩, ho, hc, n, hd⟩ := pl
  simp only at hc hd
  subst hc
  subst hd
  have hl : its.toArray.size = ys.length := by rw [List.size_toArray, ← r.length]
  have hj : j < its.toArray.size := by rw [hl]; exact (List.getElem?_eq_some_iff.mp hy).1
  have val : ∀ (m : Nat) (hm : m < its.toArray.size), ∃ y', ys[m]? = some y' ∧ eqU z its.toArray[m] = eqV y' z := fun m hm => by
    have hm' : m < ys.length := by rw [← hl]; exact hm
    obtain ⟨w, hw, rw'⟩ := r.get (i := m) (x := ys[m]) (by simp [hm'])
    refine ⟨ys[m], List.getElem?_eq_getElem hm', ?_⟩
    have e := (List.getElem?_eq_some_iff.mp hw).2
    have e2 : its.toArray[m] = w := by rw [← e]; simp
    rw [e2]
    exact eqU_of rw' (List.all_eq_true.mp fy _ (List.getElem_mem hm'))
  refine call_meets PySem.F.slot_tuple_index ⟨_, ho, rfl⟩ PySem.F.entry_tuple_index (PySem.F.args_tuple_index_2 _ _) (TI.tuple_indexAt p its.toArray n dd sl u (eqU z) j hj ?_ ?_)
    ⟨ho, fun w hw => mem_eqAt ru fz r fy w (by simpa using hw), ⟨.int (j : Nat), H, I.tok _, ⟨_, rfl⟩, q⟩⟩
  · obtain ⟨y', h1, h2⟩ := val j hj
    rw [hy] at h1
    cases h1
    rw [h2, hyz]
  · intro m hm hmj
    obtain ⟨y', h1, h2⟩ := val m hm
    rw [h2]
    exact hno m y' hmj h1

/-! ### {k: v} with a nested key -/
def tNDisp (P : Program) (w : World) (tk tv : TE) : TE := fun σ H Q => ∀ p, H p = none → tk σ (upd H p (NDO P w p [])) fun y H1 => tv σ H1 fun z H2 => ∃ ks, H2 p = some (NDO P w p []) ∧ Rep H2 (.tup ks) y ∧ (NestedKey.tup ks).depth ≤ 8 ∧
  ∀ ob, TEx H2 (upd H2 p ob) → NDS P w (upd H2 p ob) p [(.tup ks, z)] → Q (.ref p) (upd H2 p ob)
theorem pe_ndisp {key v : Expr} {tk tv : TE} (hu : X.A.units + 64 < cLine) (hk : PE X key tk) (hv : PE X v tv) : PE X (.Dict [some key] [v] pos) (tNDisp X.prog X.w tk tv) := by
  refine ⟨fun pins s σ H Q I h => ?_⟩
  have hn := I.hok.fresh (Nat.le_refl s.heap.objs.size)
  have I1 := I.laid (a := s.heap.objs.size) (o := NDO X.prog X.w s.heap.objs.size []) (h' := s.heap.push { cls := .type "dict", data := .dict #[] }) (t' := s.toks) (fun _ _ q => Heap.get?_push_of_some _ q) (Nat.le_refl _) (nd_ok (nd_empty s.heap I.big))
  have hshape : (evalEachOpt [some key] X.env).zip ((evalEach [v] X.env).map fun v => do let x ← v; standAt pos; pure x) = ([(eval key X.env, do let x ← eval v X.env; standAt pos; pure x)] : List (Sem Value × Sem Value)).map fun p => (some p.1, p.2) := by rfl
  rw [arm_eval_Dict, hshape, dictDisplay_pairs _ (by simp) (by simp)]
  refine wpAny_bind (wpAny_standAt (wpAny_bind (wpAny_subDictH (knd := nestedKind X.prog X.w) (Q := fun d s' => wpAny (model X.prog X.w) X.A (pure (Value.ref d)) (EP X pins σ Q) X.xe s') (show X.A.units + 8 < cLine by omega) (by simp) ?_)))
  refine evalPairs_cons (thn (hk.run pins _ σ _ _ I1 (h _ hn)) fun u s1 ⟨y, H1, I2, ry, q1⟩ => wpAny_bind (thn (hv.run pins s1 σ H1 _ I2 q1) fun u2 s2 ⟨z, H2, I3, rz, ks, e, hkk, hd, q2⟩ => wpAny_bind (wpAny_standAt (wpAny_pure (evalPairs_nil ?_)))))
  obtain ⟨zl, hs, xs, rel, dd⟩ := nd_rd I3 (.inl e) (fun t ht => by simp at ht)
  cases rel
  obtain ⟨b, rfl, rfl, ki⟩ := nk_is I3 hkk hd ry
  refine ⟨[(.tup ks, b, u2)], ⟨rfl, rfl, ki, True.intro⟩, dd, fun h' tk dd' hs' => wpAny_pure ?_⟩
  obtain ⟨q, es, ep, hq, h2, h3, h4, _, h5⟩ := dd'
  have tx : TEx H2 (upd H2 s.heap.objs.size (NDO X.prog X.w s.heap.objs.size [(.tup ks, b, z)])) := TEx.put fun ys z => by rw [e] at z; cases z
  refine ⟨.ref s.heap.objs.size, upd H2 s.heap.objs.size (NDO X.prog X.w s.heap.objs.size [(.tup ks, b, z)]), d_write I3 (by rw [e]; exact True.intro) hs' ⟨q, hq⟩ (nd_ok ⟨by show 1 ≤ sizeLine; decide, hs, [(.tup ks, b, u2)], .cons ⟨rfl, rfl, rz⟩ .nil, q, es, ep, hq, h2, h3, h4, by simp⟩), rfl, ?_⟩
  refine q2 _ tx ⟨_, upd_same, rfl, fun t ht => ?_⟩
  have : t = (.tup ks, b, z) := by simpa using ht
  subst this
  exact ⟨hkk.tx tx, hd⟩
end
end MW
end
section
set_option Elab.async false
set_option linter.all false
set_option maxRecDepth 100000
set_option maxHeartbeats 4000000
/-! What an expression evaluates to, told by a relation of the value and the heap. -/
namespace MW
open PySem PySem.Spec PyProof.Rows L2 Evl

abbrev RL := V → Hp → Prop
def MonoR (R : RL) : Prop := ∀ v H H', Ex H H' → R v H → R v H'
def RepR (d : D) : RL := fun v H => Rep H d v
def IsV (x : V) : RL := fun v _ => v = x
/-- a list whose items are data -/
def LRep (ds : List D) : RL := fun v H => ∃ p vs, v = .ref p ∧ H p = some (.lst vs) ∧ Reps H ds vs
theorem monoRep (d : D) : MonoR (RepR d) := fun _ _ _ e h => Rep.ex e h
theorem monoV (x : V) : MonoR (IsV x) := fun _ _ _ _ h => h
theorem monoL (ds : List D) : MonoR (LRep ds) := fun _ _ _ e ⟨p, vs, h1, h2, h3⟩ => ⟨p, vs, h1, e _ _ h2, h3.ex e⟩
def EvR (te : TE) (σ : L2.St) (H : Hp) (R : RL) : Prop := ∀ H1, Ex H H1 → ∀ Q : VK, (∀ v H2, Ex H1 H2 → R v H2 → Q v H2) → te σ H1 Q
section
variable {K : PySem.W.Frag} {σ : L2.St} {H H' : Hp} {ta tb tc td te : TE} {x y z v : V} {R Ra Rb Rc Rd : RL} {d e : D}
theorem EvR.mono (a : Ex H H') (h : EvR te σ H R) : EvR te σ H' R := fun H1 b Q q => h H1 (a.trans b) Q q
theorem EvR.of (h : Ev te σ H v) : EvR te σ H (IsV v) := fun H1 e Q q => h H1 e Q fun H2 e2 => q v H2 e2 rfl
theorem EvR.ev (h : EvR te σ H (IsV v)) : Ev te σ H v := fun H1 e Q q => h H1 e Q fun u H2 e2 hu => by cases hu; exact q H2 e2
theorem EvR.imp (h : EvR te σ H R) (k : ∀ v H1, Ex H H1 → R v H1 → Ra v H1) : EvR te σ H Ra := fun H1 e Q q => h H1 e Q fun v H2 e2 r => q v H2 e2 (k v H2 (e.trans e2) r)
theorem er_var {i : Nat} (h : σ[i]? = some (some v)) (r : Rep H d v) : EvR (tVar i) σ H (RepR d) := fun H1 e _ q => ⟨v, h, q v H1 (Ex.refl H1) (r.ex e)⟩
theorem er_varR {i : Nat} (h : σ[i]? = some (some v)) (m : MonoR R) (r : R v H) : EvR (tVar i) σ H R := fun H1 e _ q => ⟨v, h, q v H1 (Ex.refl H1) (m _ _ _ e r)⟩
theorem er_num {i : Int} (h : EvR te σ H (RepR (.num i))) : Ev te σ H (.int i) := fun H1 e Q q => h H1 e Q fun v H2 e2 r => by
  have : v = .int i := rep_num r
  subst this
  exact q H2 e2
theorem er_int {i : Int} (h : Ev te σ H (.int i)) : EvR te σ H (RepR (.num i)) := fun H1 e Q q => h H1 e Q fun H2 e2 => q _ H2 e2 (.num i)
theorem er_none : EvR (tC .non) σ H (RepR .none) := fun H1 _ Q q => q _ H1 (Ex.refl H1) .none
theorem er_text {s : PySem.Str} : EvR (tC (.str s)) σ H (RepR (.text s)) := fun H1 _ Q q => q _ H1 (Ex.refl H1) (.text s)
theorem er_c {i : Int} : EvR (tC (.int i)) σ H (RepR (.num i)) := fun H1 _ Q q => q _ H1 (Ex.refl H1) (.num i)
/-- t[i] -/
theorem er_ix {ks : List D} {i : Int} (ha : EvR ta σ H (RepR (.tup ks))) (hb : Ev tb σ H (.int i)) (h : atI ks i = some d) : EvR (tOp (rIxT K) ta tb) σ H (RepR d) := fun H1 e Q q =>
  ha H1 e _ fun v H2 e2 r => hb H2 (e.trans e2) _ fun H3 e3 => by
    obtain ⟨a, vs, rfl, h2, r2⟩ := rep_tup (r.ex e3)
    obtain ⟨j, h3, h4, h5, h6, h7⟩ := atI_get h
    obtain ⟨u, hu, ru⟩ := r2.get h4
    have hl := r2.length
    refine ⟨a, vs, i, u, rfl, rfl, SqT.of h2, ?_, q u H3 (e2.trans e3) ru⟩
    unfold atI at h ⊢
    rw [hl]
    obtain ⟨m, hm, hx⟩ := Option.bind_eq_some_iff.mp h
    rw [hm]
    show vs[m]? = some u
    obtain ⟨u', hu', ru'⟩ := r2.get hx
    have : m = j := by
      have h8 := ixN_seq hm
      rw [h8.1] at h3
      exact Option.some.inj h3
    subst this
    exact hu
theorem er_ixn {ks : List D} {n : Nat} (ha : EvR ta σ H (RepR (.tup ks))) (hb : Ev tb σ H (.int (n : Int))) (h : ks[n]? = some d) : EvR (tOp (rIxT K) ta tb) σ H (RepR d) := er_ix ha hb (atI_nat h)
/-- len(t) -/
theorem ev_lenT {ks : List D} {r : List V → Hp → VK → Prop} (hr : r = fun xs H Q => ∃ p ys, xs = [.ref p] ∧ (SqL K H p ys ∨ SqT K H p ys) ∧ Q (.int ys.length) H) (ha : EvR ta σ H (RepR (.tup ks))) : Ev (tCB r (tCons ta tNil)) σ H (.int (ks.length : Int)) := fun H1 e Q q =>
  ha H1 e _ fun v H2 e2 rp => by
    subst hr
    obtain ⟨a, vs, rfl, h2, r2⟩ := rep_tup rp
    have := q H2 e2
    rw [← r2.length] at this
    exact ⟨a, vs, rfl, .inr (SqT.of h2), this⟩
theorem ev_lenLR {ds : List D} {r : List V → Hp → VK → Prop} (hr : r = fun xs H Q => ∃ p ys, xs = [.ref p] ∧ (SqL K H p ys ∨ SqT K H p ys) ∧ Q (.int ys.length) H) (ha : EvR ta σ H (LRep ds)) : Ev (tCB r (tCons ta tNil)) σ H (.int (ds.length : Int)) := fun H1 e Q q =>
  ha H1 e _ fun v H2 e2 rp => by
    subst hr
    obtain ⟨a, vs, rfl, h2, r2⟩ := rp
    have := q H2 e2
    rw [← r2.length] at this
    exact ⟨a, vs, rfl, .inl (SqL.of h2), this⟩
/-- == and != of data -/
theorem ev_eqN (ha : EvR ta σ H (RepR d)) (hb : EvR tb σ H (RepR e)) (fd : Fit d) (fe : Fit e) : Ev (tOp rEqN ta tb) σ H (.bl (decide (d = e))) := fun H1 a Q q =>
  ha H1 a _ fun v H2 e2 r => hb H2 (a.trans e2) _ fun u H3 e3 r2 => ⟨d, e, r.ex e3, r2, fd, fe, q H3 (e2.trans e3)⟩
theorem ev_neN (ha : EvR ta σ H (RepR d)) (hb : EvR tb σ H (RepR e)) (fd : Fit d) (fe : Fit e) : Ev (tOp rNeN ta tb) σ H (.bl (!decide (d = e))) := fun H1 a Q q =>
  ha H1 a _ fun v H2 e2 r => hb H2 (a.trans e2) _ fun u H3 e3 r2 => ⟨d, e, r.ex e3, r2, fd, fe, q H3 (e2.trans e3)⟩
/-- x is None, x is not None -/
theorem ev_isN (ha : EvR ta σ H (RepR d)) : Ev (tIsN ta) σ H (.bl (decide (d = .none))) := fun H1 a Q q => ha H1 a _ fun v H2 e2 r => by
  have := q H2 e2
  cases d with
  | none => cases r; exact this
  | num i => cases r; exact this
  | text x => cases r; exact this
  | tup ks => cases r; exact this
theorem ev_notN (ha : EvR ta σ H (RepR d)) : Ev (tNotN ta) σ H (.bl (!decide (d = .none))) := fun H1 a Q q => ha H1 a _ fun v H2 e2 r => by
  have := q H2 e2
  cases d with
  | none => cases r; exact this
  | num i => cases r; exact this
  | text x => cases r; exact this
  | tup ks => cases r; exact this
/-- (a, b, ..) -/
def ArgsR : List RL → List V → Hp → Prop
  | [], [], _ => True
  | R :: Rs, v :: vs, H => R v H ∧ ArgsR Rs vs H
  | _, _, _ => False
def EvAR (ta : TA) (σ : L2.St) (H : Hp) (Rs : List RL) : Prop := ∀ H1, Ex H H1 → ∀ Q : List V → Hp → Prop, (∀ vs H2, Ex H1 H2 → ArgsR Rs vs H2 → Q vs H2) → ta σ H1 Q
theorem ea0 : EvAR tNil σ H [] := fun H1 _ Q q => q [] H1 (Ex.refl H1) True.intro
theorem ea1 {tr : TA} {Rs : List RL} (h : EvR ta σ H R) (m : MonoR R) (hr : EvAR tr σ H Rs) : EvAR (tCons ta tr) σ H (R :: Rs) := fun H1 e Q q =>
  h H1 e _ fun v H2 e2 r => hr H2 (e.trans e2) _ fun vs H3 e3 rs => q (v :: vs) H3 (e2.trans e3) ⟨m _ _ _ e3 r, rs⟩
theorem argsD {ds : List D} : ∀ {vs : List V} {H : Hp}, ArgsR (ds.map RepR) vs H → Reps H ds vs := by
  induction ds with
  | nil =>
    intro vs H h
    cases vs with
    | nil => exact .nil
    | cons v vs => exact False.elim h
  | cons d ds ih =>
    intro vs H h
    cases vs with
    | nil => exact False.elim h
    | cons v vs => exact .cons h.1 (ih h.2)
theorem er_tup {ds : List D} {t : TA} (h : EvAR t σ H (ds.map RepR)) (hl : ds.length ≤ 100000) : EvR (tTup t) σ H (RepR (.tup ds)) := fun H1 e Q q =>
  h H1 e _ fun vs H2 e2 rs => by
    have r := argsD rs
    have hlen := r.length
    refine ⟨sz_of (by omega), fun p hp => ?_⟩
    have x : Ex H2 (upd H2 p (.tup vs)) := Ex.new hp
    exact q (.ref p) _ (e2.trans x) (.tup upd_same (r.ex x))
theorem er_lst {ds : List D} {t : TA} (h : EvAR t σ H (ds.map RepR)) (hl : ds.length ≤ 100000) : EvR (tLst t) σ H (LRep ds) := fun H1 e Q q =>
  h H1 e _ fun vs H2 e2 rs => by
    have r := argsD rs
    have hlen := r.length
    refine ⟨sz_of (by omega), fun p hp => ?_⟩
    have x : Ex H2 (upd H2 p (.lst vs)) := Ex.new hp
    exact q (.ref p) _ (e2.trans x) ⟨p, vs, rfl, upd_same, r.ex x⟩
/-- f(..) -/
theorem er_call {sp : Sp} {E : XK} {t : TA} {Rs : List RL} (h : EvAR t σ H Rs) (hs : ∀ vs H2, Ex H H2 → ArgsR Rs vs H2 → ∀ Q : VK, (∀ v H3, Ex H2 H3 → R v H3 → Q v H3) → sp vs H2 Q E) : EvR (tCall sp [] E t) σ H R := fun H1 e Q q =>
  h H1 e _ fun vs H2 e2 rs => by
    show sp (vs ++ []) H2 Q E
    rw [List.append_nil]
    exact hs vs H2 (e.trans e2) rs Q fun v H3 e3 r => q v H3 (e2.trans e3) r
theorem args1 {vs : List V} {H : Hp} (h : ArgsR [Ra] vs H) : ∃ v, vs = [v] ∧ Ra v H := by
  match vs, h with
  | [v], h => exact ⟨v, rfl, h.1⟩
  | [], h => exact False.elim h
  | _ :: _ :: _, h => exact False.elim h.2
theorem args2 {vs : List V} {H : Hp} (h : ArgsR [Ra, Rb] vs H) : ∃ v u, vs = [v, u] ∧ Ra v H ∧ Rb u H := by
  match vs, h with
  | v :: vs, h =>
    obtain ⟨u, rfl, hu⟩ := args1 (Ra := Rb) h.2
    exact ⟨v, u, rfl, h.1, hu⟩
  | [], h => exact False.elim h
theorem args3 {vs : List V} {H : Hp} (h : ArgsR [Ra, Rb, Rc] vs H) : ∃ v u w, vs = [v, u, w] ∧ Ra v H ∧ Rb u H ∧ Rc w H := by
  match vs, h with
  | v :: vs, h =>
    obtain ⟨u, w, rfl, h1, h2⟩ := args2 (Ra := Rb) (Rb := Rc) h.2
    exact ⟨v, u, w, rfl, h.1, h1, h2⟩
  | [], h => exact False.elim h
theorem args4 {vs : List V} {H : Hp} (h : ArgsR [Ra, Rb, Rc, Rd] vs H) : ∃ v u w z, vs = [v, u, w, z] ∧ Ra v H ∧ Rb u H ∧ Rc w H ∧ Rd z H := by
  match vs, h with
  | v :: vs, h =>
    obtain ⟨u, w, z, rfl, h1, h2, h3⟩ := args3 (Ra := Rb) (Rb := Rc) (Rc := Rd) h.2
    exact ⟨v, u, w, z, rfl, h.1, h1, h2, h3⟩
  | [], h => exact False.elim h
theorem er_if {t : TT} {b : Bool} (h : EvT t σ H b) (h1 : b = true → EvR ta σ H R) (h2 : b = false → EvR tb σ H R) : EvR (tIf t ta tb) σ H R := fun H1 e Q q => h H1 e _ fun H2 e2 => by
  cases b with
  | true => exact h1 rfl H2 (e.trans e2) Q fun v H3 e3 => q v H3 (e2.trans e3)
  | false => exact h2 rfl H2 (e.trans e2) Q fun v H3 e3 => q v H3 (e2.trans e3)

/-! ### statements -/
variable {De : Ends} {tu tw : TS}
theorem sr_asg {i : Nat} (h : EvR te σ H R) (k : ∀ v H1, Ex H H1 → R v H1 → De.nx (σ.set i (some v)) H1) : tAsg te (gName i) De σ H := h H (Ex.refl H) _ fun v H1 e r => k v H1 e r
theorem sr_ret (h : EvR te σ H R) (k : ∀ v H1, Ex H H1 → R v H1 → De.rt v H1) : tRet te De σ H := h H (Ex.refl H) _ k
/-- xs.append(e), the list in slot i -/
theorem sr_app {i : Nat} {l : Addr} {xs : List V} (hi : σ[i]? = some (some (.ref l))) (hl : H l = some (.lst xs)) (hn : xs.length < 100000) (h : EvR te σ H R) (k : ∀ v H1, Ex H H1 → R v H1 → H1 l = some (.lst xs) → De.nx σ (upd H1 l (.lst (xs ++ [v])))) :
    tDrop (tBM K "list" rAppend (tVar i) (tCons te tNil)) De σ H := by
  refine ⟨_, hi, .inl ⟨rfl, _, SqL.of hl⟩, ?_⟩
  refine h H (Ex.refl H) _ fun v H1 e r => ?_
  exact ⟨l, xs, v, rfl, rfl, e _ _ hl, sz_lt hn, k v H1 e r (e _ _ hl)⟩

/-! ### comprehensions -/
theorem wipe1 (σ : L2.St) (i : Nat) : wipe σ [i] = σ.set i none := rfl
theorem wipe_back (σ : L2.St) (i : Nat) (x : Option V) : wipe ((wipe σ [i]).set i x) [i] = wipe σ [i] := by
  show ((σ.set i none).set i x).set i none = σ.set i none
  rw [List.set_set, List.set_set]
theorem tyes_go {σ : L2.St} {H : Hp} {A B : Hp → Prop} (h : A H) : tYes σ H (fun b H3 => if b = true then A H3 else B H3) := by
  show (if true = true then A H else B H)
  rw [if_pos rfl]
  exact h
/-- [e for k in <a range>] -/
theorem el_rng {wi : TI} {i n : Nat} {f : Nat → D} (hw : ∀ H1, Ex H H1 → ∀ R : It → Hp → Prop, (∀ H2, Ex H1 H2 → R (Itr 0 n) H2) → wi σ H1 R) (hn : n ≤ 100000) (he : ∀ k, k < n → EvR te ((σ.set i none).set i (some (.int (k : Int)))) H (RepR (f k))) :
    EvR (tLc wi (gName i) tYes te [i]) σ H (LRep ((List.range n).map f)) := fun H1 e Q q => by
  refine hw H1 e _ fun H2 e2 D hD => ?_
  refine lc_range (lo := 0) (n := n) (fun j Hj => Ex H2 Hj ∧ ∃ vs, Hj D = some (.lst vs) ∧ Reps Hj ((List.range j).map f) vs) ⟨Ex.new hD, [], upd_same, .nil⟩ ?_ ?_
  · rintro j Hj hj ⟨ej, vs, hv, rv⟩
    refine ⟨wipe_back σ i _, ?_⟩
    refine tyes_go ?_
    have h0 : (0 : Int) + (j : Int) = (j : Int) := by omega
    show te ((wipe σ [i]).set i (some (.int (0 + (j : Int))))) Hj _
    rw [h0]
    refine he j hj Hj ((e.trans e2).trans ej) _ fun v H4 e4 r4 => ?_
    have hl := rv.length
    refine ⟨vs, e4 _ _ hv, sz_lt (by rw [hl]; simp; omega), (ej.trans e4).mut hD, vs ++ [v], upd_same, ?_⟩
    have tx : TEx H4 (upd H4 D (.lst (vs ++ [v]))) := TEx.lst (e4 _ _ hv)
    rw [List.range_succ, List.map_append]
    exact ((rv.ex e4).tx tx).app (Reps.one (r4.tx tx))
  · rintro Hn ⟨en, vs, hv, rv⟩
    exact q _ Hn (e2.trans en) ⟨D, vs, rfl, hv, rv⟩
/-- [e for x in t if c], t a tuple -/
theorem el_tup {tt : TE} {tc : TT} {i : Nat} {ks : List D} {b : D → Bool} {f : D → D} (ht : EvR tt σ H (RepR (.tup ks))) (hn : ks.length ≤ 100000)
    (hc : ∀ d v H1, d ∈ ks → Ex H H1 → Rep H1 d v → EvT tc ((σ.set i none).set i (some v)) H1 (b d)) (he : ∀ d v H1, d ∈ ks → b d = true → Ex H H1 → Rep H1 d v → EvR te ((σ.set i none).set i (some v)) H1 (RepR (f d))) :
    EvR (tLc (iTup K tt) (gName i) tc te [i]) σ H (LRep ((ks.filter b).map f)) := fun H1 e Q q => by
  refine ht H1 e _ fun v H2 e2 r => ?_
  obtain ⟨a, vs, rfl, ha, rv⟩ := rep_tup r
  refine ⟨a, rfl, ⟨vs, SqT.of ha⟩, fun D hD => ?_⟩
  have hlen := rv.length
  refine lc_tup (K := K) (a := a) (xs := vs) (fun j Hj => Ex H2 Hj ∧ ∃ us, Hj D = some (.lst us) ∧ us.length ≤ j ∧ Reps Hj (((ks.take j).filter b).map f) us) ⟨Ex.new hD, [], upd_same, Nat.zero_le _, .nil⟩ (fun j Hj _ ⟨ej, _⟩ => SqT.of (ej _ _ ha)) ?_ ?_
  · rintro j x Hj hx ⟨ej, us, hu, hul, ru⟩
    obtain ⟨d, hd, rd⟩ := (rv.ex ej).at hx
    have hdm : d ∈ ks := List.mem_of_getElem? hd
    have etk : ks.take (j + 1) = ks.take j ++ [d] := by rw [List.take_add_one, hd]; rfl
    have hj : j < vs.length := (List.getElem?_eq_some_iff.mp hx).1
    refine ⟨wipe_back σ i _, ?_⟩
    refine hc d x Hj hdm ((e.trans e2).trans ej) rd Hj (Ex.refl Hj) _ fun H4 e4 => ?_
    cases hb : b d with
    | false =>
      refine iteF ⟨ej.trans e4, us, e4 _ _ hu, Nat.le_succ_of_le hul, ?_⟩
      rw [etk, List.filter_append]
      simp [hb]
      simpa using ru.ex e4
    | true =>
      refine iteT ?_
      refine he d x H4 hdm hb (((e.trans e2).trans ej).trans e4) (rd.ex e4) H4 (Ex.refl H4) _ fun y H5 e5 r5 => ?_
      refine ⟨us, e5 _ _ (e4 _ _ hu), sz_lt (by omega), ((ej.trans e4).trans e5).mut hD, us ++ [y], upd_same, by simp; omega, ?_⟩
      have tx : TEx H5 (upd H5 D (.lst (us ++ [y]))) := TEx.lst (e5 _ _ (e4 _ _ hu))
      rw [etk, List.filter_append, List.map_append]
      refine (((ru.ex e4).ex e5).tx tx).app ?_
      simp [hb]
      exact Reps.one (r5.tx tx)
  · rintro Hn ⟨en, us, hu, _, ru⟩
    rw [hlen, List.take_length] at ru
    exact q _ Hn (e2.trans en) ⟨D, us, rfl, hu, ru⟩
end
end MW
end
section
set_option Elab.async false
set_option linter.all false
set_option maxRecDepth 100000
set_option maxHeartbeats 4000000
/-! The tables: best, along, letter_table, in_sequence, is_stable, staying, repeated, best_value. -/
namespace MW
open PySem PySem.Spec PyProof.Rows L2 Evl
open MS (Val Tab Mach)

def topS (i : Nat) : Stmt := PySem.Challenge.pw_mostspent_k26_whole_growing_entries_cost.main.body.getD i (.Pass ⟨0, 0, 0, 0⟩)

abbrev rAdd : R2 := rI0 fun i j => .int (i + j)
abbrev rSub : R2 := rI0 fun i j => .int (i - j)
abbrev rLt : R2 := rI0 fun i j => .bl (decide (i < j))
abbrev rLe : R2 := rI0 fun i j => .bl (decide (i ≤ j))
abbrev rGt : R2 := rI0 fun i j => .bl (decide (j < i))
/-! ### data -/
def encN (n : Nat) : D := .num (n : Int)
def encV : Val → D
  | .a2 => .num 2
  | .a0 => .num 0
  | .a1 => .num 1
  | .gr => .text "grows"
  | .no => .none
def encT (T : Tab) : D := .tup (T.map fun r => .tup (r.map encV))
def encS (s : Nat × Nat × Nat × Nat) : D := .tup [encN s.1, encN s.2.1, encN s.2.2.1, encN s.2.2.2]
def encM (m : Mach) : D := .tup [encN m.states, encN m.counters, encN m.letters, .tup (m.steps.map encS), .tup (m.firsts.map encN), .tup (m.lasts.map encN)]
theorem encV_inj {a b : Val} (h : encV a = encV b) : a = b := by
  cases a <;> cases b <;> first | rfl | (simp [encV] at h)
theorem encN_inj {a b : Nat} (h : encN a = encN b) : a = b := by
  have : (a : Int) = (b : Int) := by simpa [encN] using h
  omega
def ix : Val → Nat
  | .a2 => 2
  | .a0 => 3
  | .a1 => 4
  | .gr => 7
  | .no => 8
def ordV : List V := [.int 6, .int 4, .int 2, .int 0, .int 1, .int 3, .int 5, .str "grows", .non]

/-! ### what the module holds -/
structure Txt (K : PySem.W.Frag) (mg : PySem.Str → Option Value) : Prop where
  range : mg "range" = none
  len : mg "len" = none
  min : mg "min" = none
  max : mg "max" = none
  tuple : mg "tuple" = none
  list : mg "list" = none
  sorted : mg "sorted" = none
  all : mg "all" = none
  any : mg "any" = none
  enumerate : mg "enumerate" = none
  int : mg "int" = none
  ml : ∃ u, mg "MOST_LETTERS" = some u ∧ RelV (.int 10000) u
  mp : ∃ u, mg "MOST_POSSIBILITIES" = some u ∧ RelV (.int 300) u
  me : ∃ u, mg "MOST_ENTRIES" = some u ∧ RelV (.int 100) u
  ord : ∃ a, mg "ORDER" = some (.ref a) ∧ ∀ H, SqT K H a ordV
  ordT : ∀ a, mg "ORDER" = some (.ref a) → ∃ o, K.lookup a = some o ∧ o.cls = .type "tuple" ∧ o.dict = none

/-- a def that may be called -/
structure Cal (P : Program) (w : World) (K : PySem.W.Frag) (mg : PySem.Str → Option Value) (base : Heap) (CX : CXT) (k : Nat) (x : PySem.Str) (ps : List PySem.Str) (sp : Sp) (f : Addr) (fd : FuncData) : Prop where
  ok : FnOk P w K mg base CX k f fd ps sp
  at_ : mg x = some (.ref f)
  kp : PySem.W.keepIn K (.ref f) = true
  b : Binds K fd ps []
theorem pe_cal {X : Cx} {k j : Nat} {x : PySem.Str} {ps : List PySem.Str} {sp : Sp} {CX : CXT} {f : Addr} {fd : FuncData} {p pos : Pos} {e : Expr} {es : List Expr} {t : TA} {E : XK} (c : Cal X.prog X.w X.K X.mg X.base CX k x ps sp f fd) (hr : Room j X.A) (hx : Passes CX X E) (ha : PA X (e :: es) t) (hj : k ≤ j := by decide) (hg : Gl X x := by rfl)
    (hdb : (x == ("__debug__" : PySem.Str)) = false := by decide) (he : starEach (e :: es) X.env = (false, eval e X.env) :: starEach es X.env := by rfl) (hpl : (backTo pos (starEach es X.env)).any (·.1) = false := by rfl) :
    PE X (.Call (.Name x p) (e :: es) [] pos) (tCall sp [] E t) := pe_call c.ok (hr.mono hj) hg c.at_ c.kp c.b .nil hx ha hdb he hpl

/-- an own error class without its own __init__ -/
structure ExcD (K : PySem.W.Frag) (mg : PySem.Str → Option Value) (x : PySem.Str) (C : Addr) : Prop where
  g : mg x = some (.ref C)
  k : PySem.W.keepIn K (.ref C) = true
  q : PySem.W.excIn K C [.type "ValueError", .type "Exception", .type "BaseException", .type "object"] "ValueError.__new__" = true
  s : PySem.W.subIn K (.ref C) (.type "BaseException") = some true
  t : PySem.W.typeIn K (.ref C) = some (.type "type")
/-! ### more evaluations -/
section
variable {K : PySem.W.Frag} {σ : L2.St} {H H' : Hp} {ta tb tc td te : TE} {x y z v : V} {R Ra Rb : RL} {d e : D}
theorem er_cat {ds es : List D} (ha : EvR ta σ H (LRep ds)) (hb : EvR tb σ H (LRep es)) (hl : ds.length + es.length ≤ 100000) : EvR (tOp rCat ta tb) σ H (LRep (ds ++ es)) := fun H1 a Q q =>
  ha H1 a _ fun v H2 e2 r => hb H2 (a.trans e2) _ fun u H3 e3 r2 => by
    obtain ⟨p, vs, rfl, hp, rv⟩ := r
    obtain ⟨p2, us, rfl, hp2, ru⟩ := r2
    have h1 := rv.length
    have h2 := ru.length
    refine ⟨p, p2, vs, us, rfl, rfl, e3 _ _ hp, hp2, sz_of (by omega), fun l hl => ?_⟩
    have x : Ex H3 (upd H3 l (.lst (vs ++ us))) := Ex.new hl
    exact q _ _ ((e2.trans e3).trans x) ⟨l, _, rfl, upd_same, ((rv.ex e3).ex x).app (ru.ex x)⟩
theorem ev_min {ns : List Int} {m0 : Int} (ha : EvR ta σ H (LRep (ns.map .num))) (h0 : 0 < ns.length) (hm : ∀ m, m ∈ ns → (∀ y, y ∈ ns → m ≤ y) → m = m0) : Ev (tCB (rMin K) (tCons ta tNil)) σ H (.int m0) := fun H1 a Q q =>
  ha H1 a _ fun v H2 e2 r => by
    obtain ⟨p, vs, rfl, hp, rv⟩ := r
    have := rv.nums_eq
    subst this
    exact ⟨p, ns, rfl, SqL.of hp, h0, fun m h1 h2 => by rw [hm m h1 h2]; exact q H2 e2⟩
theorem ev_max {ns : List Int} {m0 : Int} (ha : EvR ta σ H (LRep (ns.map .num))) (h0 : 0 < ns.length) (hm : ∀ m, m ∈ ns → (∀ y, y ∈ ns → y ≤ m) → m = m0) : Ev (tCB (rMax K) (tCons ta tNil)) σ H (.int m0) := fun H1 a Q q =>
  ha H1 a _ fun v H2 e2 r => by
    obtain ⟨p, vs, rfl, hp, rv⟩ := r
    have := rv.nums_eq
    subst this
    exact ⟨p, ns, rfl, SqL.of hp, h0, fun m h1 h2 => by rw [hm m h1 h2]; exact q H2 e2⟩
theorem ev_lenG {a : Addr} {ys : List V} {r : List V → Hp → VK → Prop} (hr : r = fun xs H Q => ∃ p ys, xs = [.ref p] ∧ (SqL K H p ys ∨ SqT K H p ys) ∧ Q (.int ys.length) H) (h : ∀ H, SqT K H a ys) : Ev (tCB r (tCons (tC (.ref a)) tNil)) σ H (.int (ys.length : Int)) := fun H1 _ Q q => by
  subst hr
  exact ⟨a, ys, rfl, .inr (h _), q H1 (Ex.refl H1)⟩
/-- [e for x in l if c], l a list -/
theorem el_lst' {α : Type} {tt : TE} {tc : TT} {i : Nat} {l : List α} {en f : α → D} {b : α → Bool} (ht : EvR tt σ H (LRep (l.map en))) (hn : l.length ≤ 100000)
    (hc : ∀ d v H1, d ∈ l → Ex H H1 → Rep H1 (en d) v → EvT tc ((σ.set i none).set i (some v)) H1 (b d)) (he : ∀ d v H1, d ∈ l → b d = true → Ex H H1 → Rep H1 (en d) v → EvR te ((σ.set i none).set i (some v)) H1 (RepR (f d))) :
    EvR (tLc (iList K tt) (gName i) tc te [i]) σ H (LRep ((l.filter b).map f)) := fun H1 e Q q => by
  refine ht H1 e _ fun v H2 e2 r => ?_
  obtain ⟨a, vs, rfl, ha, rv⟩ := r
  refine ⟨a, rfl, ⟨vs, SqL.of ha⟩, fun D hD => ?_⟩
  have hlen := rv.length
  rw [List.length_map] at hlen
  refine lc_list (K := K) (a := a) (xs := vs) (fun j Hj => Ex H2 Hj ∧ ∃ us, Hj D = some (.lst us) ∧ us.length ≤ j ∧ Reps Hj (((l.take j).filter b).map f) us) ⟨Ex.new hD, [], upd_same, Nat.zero_le _, .nil⟩ (fun j Hj _ ⟨ej, _⟩ => SqL.of (ej _ _ ha)) ?_ ?_
  · rintro j x Hj hx ⟨ej, us, hu, hul, ru⟩
    obtain ⟨d0, hd0, rd⟩ := (rv.ex ej).at hx
    rw [List.getElem?_map] at hd0
    obtain ⟨d, hd, rfl⟩ := Option.map_eq_some_iff.mp hd0
    have hdm : d ∈ l := List.mem_of_getElem? hd
    have etk : l.take (j + 1) = l.take j ++ [d] := by rw [List.take_add_one, hd]; rfl
    have hj : j < vs.length := (List.getElem?_eq_some_iff.mp hx).1
    refine ⟨wipe_back σ i _, ?_⟩
    refine hc d x Hj hdm ((e.trans e2).trans ej) rd Hj (Ex.refl Hj) _ fun H4 e4 => ?_
    cases hb : b d with
    | false =>
      refine iteF ⟨ej.trans e4, us, e4 _ _ hu, Nat.le_succ_of_le hul, ?_⟩
      rw [etk, List.filter_append]
      simp [hb]
      simpa using ru.ex e4
    | true =>
      refine iteT ?_
      refine he d x H4 hdm hb (((e.trans e2).trans ej).trans e4) (rd.ex e4) H4 (Ex.refl H4) _ fun y H5 e5 r5 => ?_
      refine ⟨us, e5 _ _ (e4 _ _ hu), sz_lt (by omega), ((ej.trans e4).trans e5).mut hD, us ++ [y], upd_same, by simp; omega, ?_⟩
      have tx : TEx H5 (upd H5 D (.lst (us ++ [y]))) := TEx.lst (e5 _ _ (e4 _ _ hu))
      rw [etk, List.filter_append, List.map_append]
      refine (((ru.ex e4).ex e5).tx tx).app ?_
      simp [hb]
      exact Reps.one (r5.tx tx)
  · rintro Hn ⟨en, us, hu, _, ru⟩
    rw [hlen, List.take_length] at ru
    exact q _ Hn (e2.trans en) ⟨D, us, rfl, hu, ru⟩
theorem el_tupN {α : Type} {tt : TE} {tc : TT} {i : Nat} {l : List α} {en f : α → D} {b : α → Bool} (ht : EvR tt σ H (RepR (.tup (l.map en)))) (hn : l.length ≤ 100000)
    (hc : ∀ d v H1, d ∈ l → Ex H H1 → Rep H1 (en d) v → EvT tc ((σ.set i none).set i (some v)) H1 (b d)) (he : ∀ d v H1, d ∈ l → b d = true → Ex H H1 → Rep H1 (en d) v → EvR te ((σ.set i none).set i (some v)) H1 (RepR (f d))) :
    EvR (tLc (iTup K tt) (gName i) tc te [i]) σ H (fun v Hx => LRep ((l.filter b).map f) v Hx ∧ ∃ p, v = .ref p ∧ H p = none) := fun H1 e Q q => by
  refine ht H1 e _ fun v H2 e2 r => ?_
  obtain ⟨a, vs, rfl, ha, rv⟩ := rep_tup r
  refine ⟨a, rfl, ⟨vs, SqT.of ha⟩, fun D hD => ?_⟩
  have hlen := rv.length
  rw [List.length_map] at hlen
  refine lc_tup (K := K) (a := a) (xs := vs) (fun j Hj => Ex H2 Hj ∧ ∃ us, Hj D = some (.lst us) ∧ us.length ≤ j ∧ Reps Hj (((l.take j).filter b).map f) us) ⟨Ex.new hD, [], upd_same, Nat.zero_le _, .nil⟩ (fun j Hj _ ⟨ej, _⟩ => SqT.of (ej _ _ ha)) ?_ ?_
  · rintro j x Hj hx ⟨ej, us, hu, hul, ru⟩
    obtain ⟨d0, hd0, rd⟩ := (rv.ex ej).at hx
    rw [List.getElem?_map] at hd0
    obtain ⟨d, hd, rfl⟩ := Option.map_eq_some_iff.mp hd0
    have hdm : d ∈ l := List.mem_of_getElem? hd
    have etk : l.take (j + 1) = l.take j ++ [d] := by rw [List.take_add_one, hd]; rfl
    have hj : j < vs.length := (List.getElem?_eq_some_iff.mp hx).1
    refine ⟨wipe_back σ i _, ?_⟩
    refine hc d x Hj hdm ((e.trans e2).trans ej) rd Hj (Ex.refl Hj) _ fun H4 e4 => ?_
    cases hb : b d with
    | false =>
      refine iteF ⟨ej.trans e4, us, e4 _ _ hu, Nat.le_succ_of_le hul, ?_⟩
      rw [etk, List.filter_append]
      simp [hb]
      simpa using ru.ex e4
    | true =>
      refine iteT ?_
      refine he d x H4 hdm hb (((e.trans e2).trans ej).trans e4) (rd.ex e4) H4 (Ex.refl H4) _ fun y H5 e5 r5 => ?_
      refine ⟨us, e5 _ _ (e4 _ _ hu), sz_lt (by omega), ((ej.trans e4).trans e5).mut hD, us ++ [y], upd_same, by simp; omega, ?_⟩
      have tx : TEx H5 (upd H5 D (.lst (us ++ [y]))) := TEx.lst (e5 _ _ (e4 _ _ hu))
      rw [etk, List.filter_append, List.map_append]
      refine (((ru.ex e4).ex e5).tx tx).app ?_
      simp [hb]
      exact Reps.one (r5.tx tx)
  · rintro Hn ⟨en, us, hu, _, ru⟩
    rw [hlen, List.take_length] at ru
    exact q _ Hn (e2.trans en) ⟨⟨D, us, rfl, hu, ru⟩, D, rfl, fresh_back (e.trans e2) hD⟩
theorem el_tup' {α : Type} {tt : TE} {tc : TT} {i : Nat} {l : List α} {en f : α → D} {b : α → Bool} (ht : EvR tt σ H (RepR (.tup (l.map en)))) (hn : l.length ≤ 100000)
    (hc : ∀ d v H1, d ∈ l → Ex H H1 → Rep H1 (en d) v → EvT tc ((σ.set i none).set i (some v)) H1 (b d)) (he : ∀ d v H1, d ∈ l → b d = true → Ex H H1 → Rep H1 (en d) v → EvR te ((σ.set i none).set i (some v)) H1 (RepR (f d))) :
    EvR (tLc (iTup K tt) (gName i) tc te [i]) σ H (LRep ((l.filter b).map f)) :=
  (el_tupN ht hn hc he).imp fun _ _ _ h => h.1
theorem et_yes {σ : L2.St} {H : Hp} : EvT tYes σ H true := fun H1 _ _ q => q H1 (Ex.refl H1)
/-- [e for x in l], l a list -/
theorem el_list {α : Type} {tt : TE} {i : Nat} {l : List α} {en f : α → D} (ht : EvR tt σ H (LRep (l.map en))) (hn : l.length ≤ 100000) (he : ∀ d v H1, d ∈ l → Ex H H1 → Rep H1 (en d) v → EvR te ((σ.set i none).set i (some v)) H1 (RepR (f d))) :
    EvR (tLc (iList K tt) (gName i) tYes te [i]) σ H (LRep (l.map f)) := by
  have := el_lst' (K := K) (i := i) (b := fun _ => true) (f := f) ht hn (fun _ _ _ _ _ _ => et_yes) fun d v H1 h _ e r => he d v H1 h e r
  rwa [List.filter_eq_self.mpr (fun _ _ => rfl)] at this
theorem el_tupL {α : Type} {tt : TE} {i : Nat} {l : List α} {en f : α → D} (ht : EvR tt σ H (RepR (.tup (l.map en)))) (hn : l.length ≤ 100000) (he : ∀ d v H1, d ∈ l → Ex H H1 → Rep H1 (en d) v → EvR te ((σ.set i none).set i (some v)) H1 (RepR (f d))) :
    EvR (tLc (iTup K tt) (gName i) tYes te [i]) σ H (LRep (l.map f)) := by
  have := el_tup' (K := K) (i := i) (b := fun _ => true) (f := f) ht hn (fun _ _ _ _ _ _ => et_yes) fun d v H1 h _ e r => he d v H1 h e r
  rwa [List.filter_eq_self.mpr (fun _ _ => rfl)] at this
end

section
variable {P : Program} {w : World} {K : PySem.W.Frag} {mg : PySem.Str → Option Value} {base : Heap}
/-! ### best -/
abbrev sBest : Stmt := topS 8
def spBest : Sp := fun vs H Q _ => ∃ l v, vs = [v] ∧ LRep (l.map encV) v H ∧ l.length ≤ 1000 ∧ ∀ u H2, Ex H H2 → Rep H2 (encV (MS.best l)) u → Q u H2
theorem scBest : FnScope ["values", "value"] ["values"] (defScope sBest) := ⟨rfl, rfl, rfl, by decide +kernel, rfl, by decide +kernel, by decide +kernel⟩
theorem ix_best (l : List Val) : (∀ y, y ∈ ((8 : Int) :: l.map fun v => (ix v : Int)) → (ix (MS.best l) : Int) ≤ y) ∧ (ix (MS.best l) : Int) ∈ ((8 : Int) :: l.map fun v => (ix v : Int)) := by
  induction l with
  | nil => exact ⟨fun y hy => by simp at hy; subst hy; decide, by decide⟩
  | cons a l ih =>
    have e : MS.best (a :: l) = MS.Val.bst a (MS.best l) := rfl
    rw [e]
    have mono : ∀ x y : Val, (ix (MS.Val.bst x y) : Int) ≤ ix x ∧ (ix (MS.Val.bst x y) : Int) ≤ ix y := by
      intro x y; cases x <;> cases y <;> decide
    constructor
    · intro y hy
      have m := mono a (MS.best l)
      rcases List.mem_cons.mp hy with rfl | hy
      · exact Int.le_trans m.2 (ih.1 8 List.mem_cons_self)
      · rcases List.mem_cons.mp hy with rfl | hy
        · exact m.1
        · exact Int.le_trans m.2 (ih.1 y (List.mem_cons_of_mem _ hy))
    · rcases MS.Val.bst_or a (MS.best l) with k | k
      · rw [k]; simp
      · rw [k]
        rcases List.mem_cons.mp ih.2 with h | h
        · rw [h]; simp
        · exact List.mem_cons_of_mem _ (List.mem_cons_of_mem _ h)

/-- the value of a table's entry -/
def vv : Val → V
  | .a2 => .int 2
  | .a0 => .int 0
  | .a1 => .int 1
  | .gr => .str "grows"
  | .no => .non
theorem rep_vv {H : Hp} (x : Val) : Rep H (encV x) (vv x) := by cases x <;> first | exact .num _ | exact .text _ | exact .none
theorem rep_encV {H : Hp} {x : Val} {u : V} (h : Rep H (encV x) u) : u = vv x := by cases x <;> (cases h; rfl)
theorem ev_V {σ : L2.St} {H : Hp} {te : TE} {x : Val} (h : EvR te σ H (RepR (encV x))) : Ev te σ H (vv x) := fun H1 e Q q => h H1 e Q fun v H2 e2 r => by
  have := rep_encV r
  subst this
  exact q H2 e2
theorem er_V {σ : L2.St} {H : Hp} {te : TE} {x : Val} (h : Ev te σ H (vv x)) : EvR te σ H (RepR (encV x)) := fun H1 e Q q => h H1 e Q fun H2 e2 => q _ H2 e2 (rep_vv x)
theorem ordV_at (x : Val) : atI ordV ((ix x : Nat) : Int) = some (vv x) := by cases x <;> rfl
theorem ordV_ix (x : Val) : ordV[ix x]? = some (vv x) ∧ ix x < 9 ∧ (∀ (m : Nat) y', m < ix x → ordV[m]? = some y' → eqV y' (vv x) = false) ∧ eqV (vv x) (vv x) = true ∧ flatV (vv x) = true := by
  cases x <;> refine ⟨rfl, by decide, ?_, rfl, rfl⟩ <;> (intro m y' hm hy; simp only [ix] at hm; have hm2 : m = 0 ∨ m = 1 ∨ m = 2 ∨ m = 3 ∨ m = 4 ∨ m = 5 ∨ m = 6 ∨ m = 7 := by omega) <;>
    (rcases hm2 with rfl | rfl | rfl | rfl | rfl | rfl | rfl | rfl <;> first | (exfalso; omega) | (cases hy; decide))
theorem ok_best {f : Addr} {fd : FuncData} (F : Fun K "best" "best" sBest f fd) (T : Txt K mg) : FnOk P w K mg base CX0 1 f fd ["values"] spBest := by
  refine F.ok scBest (fun vs H Q E h => ?_) (fun cdv A outer s H vs Q E hr h => ?_)
  · obtain ⟨l, v, rfl, _⟩ := h
    rfl
  · obtain ⟨l, v, rfl, hv, hl, k⟩ := h
    obtain ⟨aO, mO, hO⟩ := T.ord
    refine ⟨_, (pss_one (ps_ret (pe_ix ix_tup (pe_glob (v := .ref aO) (by rfl) mO rfl) (pe_callB (cr_min rfl) (by rfl) T.min (by decide +kernel) (pa_cons (pe_op op_cat (pe_lst (pa_cons (pe_op op_sub (pe_callB call_len_seq (by rfl) T.len PySem.boot_len (pa_cons (pe_glob (v := .ref aO) (by rfl) mO rfl) pa_nil)) pe_int) pa_nil)) (pe_lc (own := [("value", 1)]) (tt := tYes) (te := (tBM K "tuple" (rTIndex K) (tC (.ref aO)) (tCons (tVar 1) tNil))) rfl scBest.nd (pi_list (pv 0)) (blkOk_by (N := ["values", "value"]) (sc := defScope sBest) (own := [("value", 1)]) (by decide +kernel)) (fun _ _ _ _ _ => (pg_name (i := 1) scBest.nd rfl (by first | exact Or.inl rfl | exact Or.inr rfl))) (fun _ _ _ _ _ => pts_nil) (fun _ _ _ _ _ => (pe_bm PySem.F.plainAttrs_tuple PySem.F.slot_tuple_index PySem.F.type_tuple_index mt_tindex (pe_glob (v := .ref aO) (by rfl) mO rfl) (pa_cons (pv 1) pa_nil))))) pa_nil)) (fun _ _ => rfl)))), ?_⟩
    refine sr_ret (R := RepR (encV (MS.best l))) ?_ fun u H1 e r => k u H1 e r
    have key : Ev (tCB (rMin K) (tCons (tOp rCat (tLst (tCons (tOp (rI0 fun i j => .int (i - j)) (tCB (fun xs H Q => ∃ p ys, xs = [.ref p] ∧ (SqL K H p ys ∨ SqT K H p ys) ∧ Q (.int ys.length) H) (tCons (tC (.ref aO)) tNil)) (tC (.int 1))) tNil))
        (tLc (iList K (tVar 0)) (gName 1) tYes (tBM K "tuple" (rTIndex K) (tC (.ref aO)) (tCons (tVar 1) tNil)) [1])) tNil)) [some v, none] H (.int (ix (MS.best l) : Int)) := by
      have hx := ix_best l
      refine ev_min (ns := (8 : Int) :: l.map fun v => (ix v : Int)) ?_ (by simp) (fun m h1 h2 => Int.le_antisymm (h2 _ hx.2) (hx.1 m h1))
      refine er_cat (ds := [.num 8]) (es := (l.map fun v => (ix v : Int)).map .num) ?_ ?_ (by simp; omega)
      · exact er_lst (ds := [.num 8]) (ea1 (er_int (ev_op (ev_lenG rfl hO) ev_c rv_I0)) (monoRep _) ea0) (by decide)
      · rw [List.map_map]
        refine el_list (en := encV) (er_varR rfl (monoL _) hv) (by omega) fun x u H1 hx e r => ?_
        have := rep_encV r
        subst this
        refine er_int fun H2 e2 Q q => ?_
        obtain ⟨h1, h2, h3, h4, h5⟩ := ordV_ix x
        obtain ⟨o, ho⟩ := T.ordT aO mO
        exact ⟨.inr (.inl ⟨rfl, o, ho⟩), _, rfl, aO, ordV, vv x, ix x, vv x, rfl, rfl, hO _, h5, (by decide), h1, h4, h3, q H2 (Ex.refl H2)⟩
    intro H1 e Q q
    refine key H1 e _ fun H2 e2 => ?_
    exact ⟨aO, ordV, _, vv (MS.best l), rfl, rfl, hO _, ordV_at _, q _ H2 e2 (rep_vv _)⟩

def rTup (K : PySem.W.Frag) : List V → Hp → VK → Prop := fun xs H Q => ∃ p ys, xs = [.ref p] ∧ ((SqL K H p ys ∧ ∀ l, H l = none → Q (.ref l) (upd H l (.tup ys))) ∨ (SqT K H p ys ∧ Q (.ref p) H))
/-- tuple(l), l a list -/
theorem er_tuple {σ : L2.St} {H : Hp} {te : TE} {ds : List D} (h : EvR te σ H (LRep ds)) : EvR (tCB (rTup K) (tCons te tNil)) σ H (RepR (.tup ds)) := fun H1 e Q q => h H1 e _ fun v H2 e2 r => by
  obtain ⟨p, vs, rfl, hp, rv⟩ := r
  exact ⟨p, vs, rfl, .inl ⟨SqL.of hp, fun l hl => q _ _ (e2.trans (Ex.new hl)) (.tup upd_same (rv.ex (Ex.new hl)))⟩⟩
/-- f(..) of a pure def -/
def RetR (R : RL) (H : Hp) (Q : VK) : Prop := ∀ u H2, Ex H H2 → R u H2 → Q u H2
def Fr (js : List Nat) (σ σ' : L2.St) : Prop := σ'.length = σ.length ∧ ∀ k, k ∉ js → σ'[k]? = σ[k]?
theorem Fr.refl (js : List Nat) (σ : L2.St) : Fr js σ σ := ⟨rfl, fun _ _ => rfl⟩
theorem Fr.set {js : List Nat} {σ σ' : L2.St} (h : Fr js σ σ') (j : Nat) (v : Option V) (hj : j ∈ js) : Fr js σ (σ'.set j v) := ⟨by rw [List.length_set]; exact h.1, fun k hk => by
  have : j ≠ k := fun z => hk (z ▸ hj)
  rw [List.getElem?_set_ne this]
  exact h.2 k hk⟩
theorem tab_loop {σ : L2.St} {H : Hp} {te : TE} {De : Ends} {n s r b w a ra : Nat} {f : Nat → Nat → Val} (hn : n ≤ 1000) (hs : σ[s]? = some (some (.ref ra))) (hra : H ra = some (.rng 0 (n : Int)))
    {L : Nat} (hL : σ.length = L) (ls : s ∉ [r, b, w, a]) (lr : r < L) (lb : b < L) (lw : w < L) (la : a < L) (nr : r ≠ b ∧ r ≠ w ∧ r ≠ a) (nb : b ≠ w ∧ b ≠ a) (nw : w ≠ a)
    (he : ∀ (i j : Nat) σ' H', i < n → j < n → Fr [r, b, w, a] σ σ' → σ'[b]? = some (some (.int (i : Int))) → σ'[a]? = some (some (.int (j : Int))) → Ex H H' → EvR te σ' H' (RepR (encV (f i j))))
    (k : RetR (RepR (encT (MS.mkTab n f))) H De.rt) :
    tSeq (tAsg (tLst tNil) (gName r)) (tSeq (tFor (iRngV (tVar s)) (gName b) (tSeq (tAsg (tLst tNil) (gName w)) (tSeq (tFor (iRngV (tVar s)) (gName a) (tDrop (tBM K "list" rAppend (tVar w) (tCons te tNil))))
      (tDrop (tBM K "list" rAppend (tVar r) (tCons (tCB (rTup K) (tCons (tVar w) tNil)) tNil)))))) (tRet (tCB (rTup K) (tCons (tVar r) tNil)))) De σ H := by
  subst hL
  refine ⟨Nat.zero_le _, fun p hp => ?_⟩
  have x0 : Ex H (upd H p (.lst [])) := Ex.new hp
  have hbd : (-(2 ^ 62 : Int) ≤ 0 ∧ (0 : Int) < 2 ^ 62 ∧ -(2 ^ 62 : Int) ≤ (n : Int) ∧ (n : Int) < 2 ^ 62) := by omega
  have hs0 : ∀ {σ'}, Fr [r, b, w, a] σ σ' → σ'[s]? = some (some (.ref ra)) := fun {σ'} F => by rw [F.2 s ls]; exact hs
  refine ⟨.ref ra, by rw [List.getElem?_set_ne (by intro z; subst z; simp at ls)]; exact hs, ra, 0, (n : Int), rfl, x0 _ _ hra, hbd, ?_⟩
  have hnn : ((n : Int) - 0).toNat = n := by omega
  rw [hnn]
  refine for_range (lo := 0) (n := n) (fun i σ' H' => Fr [r, b, w, a] σ σ' ∧ σ'[r]? = some (some (.ref p)) ∧ Ex H H' ∧ ∃ us, H' p = some (.lst us) ∧ Reps H' ((List.range i).map fun i => .tup ((List.range n).map fun j => encV (f i j))) us)
    ⟨(Fr.refl _ _).set r _ (by simp), by rw [List.getElem?_set_self lr], x0, [], upd_same, .nil⟩ ?_ ?_
  · rintro i σ1 H1 hi ⟨F1, hr1, e1, us, hu, ru⟩
    have h0 : (0 : Int) + (i : Int) = (i : Int) := by omega
    show tSeq _ _ _ (σ1.set b (some (.int (0 + (i : Int))))) H1
    rw [h0]
    refine ⟨Nat.zero_le _, fun p2 hp2 => ?_⟩
    have np : p ≠ p2 := fun z => by subst z; rw [hu] at hp2; cases hp2
    have x2 : Ex H1 (upd H1 p2 (.lst [])) := Ex.new hp2
    have F2 : Fr [r, b, w, a] σ ((σ1.set b (some (.int (i : Int)))).set w (some (.ref p2))) := (F1.set b _ (by simp)).set w _ (by simp)
    have hb2 : ((σ1.set b (some (V.int (i : Int)))).set w (some (.ref p2)))[b]? = some (some (.int (i : Int))) := by
      rw [List.getElem?_set_ne nb.1.symm, List.getElem?_set_self (by rw [F1.1]; exact lb)]
    have hr2 : ((σ1.set b (some (V.int (i : Int)))).set w (some (.ref p2)))[r]? = some (some (.ref p)) := by
      rw [List.getElem?_set_ne nr.2.1.symm, List.getElem?_set_ne nr.1.symm]; exact hr1
    have hw2 : ((σ1.set b (some (V.int (i : Int)))).set w (some (.ref p2)))[w]? = some (some (.ref p2)) := by
      rw [List.getElem?_set_self (by rw [List.length_set, F1.1]; exact lw)]
    refine ⟨.ref ra, hs0 F2, ra, 0, (n : Int), rfl, (e1.trans x2) _ _ hra, hbd, ?_⟩
    rw [hnn]
    refine for_range (lo := 0) (n := n) (fun j σ' H' => Fr [r, b, w, a] σ σ' ∧ σ'[r]? = some (some (.ref p)) ∧ σ'[b]? = some (some (.int (i : Int))) ∧ σ'[w]? = some (some (.ref p2)) ∧ Ex H1 H' ∧ ∃ vs, H' p2 = some (.lst vs) ∧ Reps H' ((List.range j).map fun j => encV (f i j)) vs)
      ⟨F2, hr2, hb2, hw2, x2, [], upd_same, .nil⟩ ?_ ?_
    · rintro j σ3 H3 hj ⟨F3, hr3, hb3, hw3, e3, vs, hv, rv⟩
      have h0' : (0 : Int) + (j : Int) = (j : Int) := by omega
      show tDrop _ _ (σ3.set a (some (.int (0 + (j : Int))))) H3
      rw [h0']
      have F4 : Fr [r, b, w, a] σ (σ3.set a (some (.int (j : Int)))) := F3.set a _ (by simp)
      have hl := rv.length
      refine sr_app (l := p2) (xs := vs) (by rw [List.getElem?_set_ne nw.symm]; exact hw3) hv (by rw [hl]; simp; omega) (he i j _ H3 hi hj F4 (by rw [List.getElem?_set_ne nb.2.symm]; exact hb3) (by rw [List.getElem?_set_self (by rw [F3.1]; exact la)]) (e1.trans e3)) fun v H5 e5 r5 hv5 => ?_
      refine ⟨F4, by rw [List.getElem?_set_ne nr.2.2.symm]; exact hr3, by rw [List.getElem?_set_ne nb.2.symm]; exact hb3, by rw [List.getElem?_set_ne nw.symm]; exact hw3, (e3.trans e5).mut hp2, vs ++ [v], upd_same, ?_⟩
      have tx : TEx H5 (upd H5 p2 (.lst (vs ++ [v]))) := TEx.lst hv5
      rw [List.range_succ, List.map_append]
      exact ((rv.ex e5).tx tx).app (Reps.one (r5.tx tx))
    · rintro σ3 H3 ⟨F3, hr3, hb3, hw3, e3, vs, hv, rv⟩
      have hl := ru.length
      refine sr_app (l := p) (xs := us) hr3 (e3 _ _ hu) (by rw [hl]; simp; omega) (er_tuple (er_varR hw3 (monoL _) ⟨p2, vs, rfl, hv, rv⟩)) fun v H5 e5 r5 hv5 => ?_
      refine ⟨F3, hr3, (e1.trans (e3.trans e5)).mut hp, us ++ [v], upd_same, ?_⟩
      have tx : TEx H5 (upd H5 p (.lst (us ++ [v]))) := TEx.lst hv5
      rw [List.range_succ, List.map_append]
      exact (((ru.ex e3).ex e5).tx tx).app (Reps.one (r5.tx tx))
  · rintro σ1 H1 ⟨F1, hr1, e1, us, hu, ru⟩
    refine sr_ret (er_tuple (er_varR hr1 (monoL _) ⟨p, us, rfl, hu, ru⟩)) fun v H2 e2 r2 => ?_
    have eT : encT (MS.mkTab n f) = .tup ((List.range n).map fun i => .tup ((List.range n).map fun j => encV (f i j))) := by
      simp [encT, MS.mkTab, List.map_map, Function.comp_def]
    exact k v H2 (e1.trans e2) (by show Rep _ _ _; rw [eT]; exact r2)

/-- t[:n] -/
theorem er_slTo {σ : L2.St} {H : Hp} {te tb : TE} {ds : List D} {n : Nat} (h : EvR te σ H (RepR (.tup ds))) (hb : Ev tb σ H (.int (n : Int))) : EvR (tSl (rSlA K) te tNoPart (tPart tb)) σ H (RepR (.tup (ds.take n))) := fun H1 e Q q => h H1 e _ fun v H2 e2 r => by
  refine hb H2 (e.trans e2) _ fun H3 e3 => ⟨_, rfl, ?_⟩
  obtain ⟨a, vs, rfl, ha, rv⟩ := rep_tup (r.ex e3)
  have hl := rv.length
  have cut : cutV vs none (some (n : Int)) = vs.take n := by
    unfold cutV
    rw [HT.sIx_none, HT.sIx_nat, List.drop_zero, Nat.sub_zero]
    by_cases hh : n ≤ vs.length
    · rw [Nat.min_eq_left hh]
    · rw [Nat.min_eq_right (by omega), List.take_of_length_le (Nat.le_refl _), List.take_of_length_le (by omega)]
  refine ⟨a, vs, rfl, SqT.of ha, fun hw => ?_, fun _ p hp => ?_⟩
  · refine q _ _ (e2.trans e3) (.tup ha ?_)
    rw [HT.sIx_nat] at hw
    have : ds.take n = ds := List.take_of_length_le (by omega)
    rw [this]
    exact rv
  · rw [cut]
    exact q _ _ ((e2.trans e3).trans (Ex.new hp)) (.tup upd_same ((rv.take n).ex (Ex.new hp)))
theorem er_slTo' {σ : L2.St} {H : Hp} {te : TE} {ds : List D} {k : Int} (n : Nat) (hk : k = (n : Int)) (h : EvR te σ H (RepR (.tup ds))) : EvR (tSl (rSlA K) te tNoPart (tPart (tC (.int k)))) σ H (RepR (.tup (ds.take n))) := by
  subst hk
  exact er_slTo h ev_c
/-- f(..), the def's promise RetR -/
theorem ev_isVN {σ : L2.St} {H : Hp} {te : TE} {x : V} (h : Ev te σ H x) : Ev (tIsN te) σ H (.bl (decide (x = .non))) := fun H1 e Q q => h H1 e _ fun H2 e2 => q H2 e2
theorem ev_notVN {σ : L2.St} {H : Hp} {te : TE} {x : V} (h : Ev te σ H x) : Ev (tNotN te) σ H (.bl (!decide (x = .non))) := fun H1 e Q q => h H1 e _ fun H2 e2 => q H2 e2
/-! ### along -/
abbrev sAlong : Stmt := topS 9
def spAlong : Sp := fun vs H Q _ => ∃ x y, vs = [vv x, vv y] ∧ RetR (RepR (encV (MS.Val.alo x y))) H Q
theorem scAlong : FnScope ["first", "second"] ["first", "second"] (defScope sAlong) := ⟨rfl, rfl, rfl, by decide +kernel, rfl, by decide +kernel, by decide +kernel⟩
theorem scal_gr (x : Val) (h : vv x ≠ .non) : scal (vv x) (.str "grows") = true := by cases x <;> first | rfl | exact absurd rfl h
theorem ok_along {f : Addr} {fd : FuncData} (F : Fun K "along" "along" sAlong f fd) (T : Txt K mg) : FnOk P w K mg base CX0 1 f fd ["first", "second"] spAlong := by
  refine F.ok scAlong (fun vs H Q E h => ?_) (fun cdv A outer s H vs Q E hr h => ?_)
  · obtain ⟨x, y, rfl, _⟩ := h
    rfl
  · obtain ⟨x, y, rfl, k⟩ := h
    refine ⟨_, (pss_cons (ps_if (PW.pt (pw_or (pt_cmp (pc_isN (pv 0))) (pw_or1 (pt_cmp (pc_isN (pv 1)))))) (pss_one (ps_ret pe_non)) pss_nil)
      (pss_cons (ps_if (PW.pt (pw_or (pt_cmpR op_eq (pv 0) pe_str (nomark _)) (pw_or1 (pt_cmpR op_eq (pv 1) pe_str (nomark _))))) (pss_one (ps_ret pe_str)) pss_nil)
      (pss_one (ps_ret (pe_callB (call_max2 rfl) (by rfl) T.max (by decide +kernel) (pa_cons (pv 0) (pa_cons (pv 1) pa_nil))))))), ?_⟩
    have k' : ∀ (v : V) (H2 : Hp), Ex H H2 → v = vv (MS.Val.alo x y) → Q v H2 := fun v H2 e hv => k v H2 e (by subst hv; exact rep_vv _)
    refine q_when (b := decide (vv x = .non) || decide (vv y = .non)) (et_or (et_B (ev_isVN (ev_var rfl))) fun _ => et_B (ev_isVN (ev_var rfl))) (fun hb H1 e1 => ?_) fun hb H1 e1 => ?_
    · refine s_ret ev_c fun H2 e2 => k' _ H2 (e1.trans e2) ?_
      revert hb
      cases x <;> cases y <;> simp [vv, MS.Val.alo]
    · have hx : vv x ≠ .non := fun z => by rw [z] at hb; simp at hb
      have hy : vv y ≠ .non := fun z => by rw [z] at hb; simp at hb
      refine q_when (b := decide (vv x = .str "grows") || decide (vv y = .str "grows")) (et_or (et_test (ev_op (ev_var rfl) ev_c (rv_eq (scal_gr x hx)))) fun _ => et_test (ev_op (ev_var rfl) ev_c (rv_eq (scal_gr y hy)))) (fun hb2 H2 e2 => ?_) fun hb2 H2 e2 => ?_
      · refine s_ret ev_c fun H3 e3 => k' _ H3 ((e1.trans e2).trans e3) ?_
        revert hb2 hx hy
        cases x <;> cases y <;> simp [vv, MS.Val.alo]
      · have key : ∃ i j : Int, vv x = .int i ∧ vv y = .int j ∧ V.int (if j > i then j else i) = vv (MS.Val.alo x y) := by
          revert hb2 hx hy
          cases x <;> cases y <;> simp [vv, MS.Val.alo]
        obtain ⟨i, j, hi, hj, hij⟩ := key
        rw [hi, hj]
        refine s_ret (ev_max2 (ev_var rfl) (ev_var rfl)) fun H3 e3 => k' _ H3 ((e1.trans e2).trans e3) hij
theorem er_along {σ : L2.St} {H : Hp} {ta tb : TE} {x y : Val} (ha : EvR ta σ H (RepR (encV x))) (hb : EvR tb σ H (RepR (encV y))) : EvR (tCall spAlong [] E0 (tCons ta (tCons tb tNil))) σ H (RepR (encV (MS.Val.alo x y))) :=
  er_call (ea1 ha (monoRep _) (ea1 hb (monoRep _) ea0)) fun vs H2 e rs Q q => by
    obtain ⟨v, u, rfl, hv, hu⟩ := args2 rs
    rw [rep_encV hv, rep_encV hu]
    exact ⟨x, y, rfl, q⟩
theorem er_best {σ : L2.St} {H : Hp} {ta : TE} {l : List Val} (ha : EvR ta σ H (LRep (l.map encV))) (hl : l.length ≤ 1000) : EvR (tCall spBest [] E0 (tCons ta tNil)) σ H (RepR (encV (MS.best l))) :=
  er_call (ea1 ha (monoL _) ea0) fun vs H2 e rs Q q => by
    obtain ⟨v, rfl, hv⟩ := args1 rs
    exact ⟨l, v, rfl, hv, hl, q⟩
/-! ### tables in pieces -/
theorem encT_row {T : Tab} {n i : Nat} (h : MS.IsTab n T) (hi : i < n) : (T.map fun r => NestedKey.tup (r.map encV))[i]? = some (.tup ((T.getD i []).map encV)) := by
  rw [List.getElem?_map, List.getD_eq_getElem?_getD, List.getElem?_eq_getElem (by rw [h.1]; exact hi)]
  rfl
theorem encT_at {T : Tab} {n i j : Nat} (h : MS.IsTab n T) (hi : i < n) (hj : j < n) : ((T.getD i []).map encV)[j]? = some (encV (MS.at2 T i j)) := by
  have hm : T.getD i [] ∈ T := by
    rw [List.getD_eq_getElem?_getD, List.getElem?_eq_getElem (by rw [h.1]; exact hi)]
    exact List.getElem_mem _
  have hl := h.2 _ hm
  unfold MS.at2
  rw [List.getElem?_map, List.getD_eq_getElem?_getD (l := T.getD i []), List.getElem?_eq_getElem (by rw [hl]; exact hj)]
  rfl
theorem er_at {σ : L2.St} {H : Hp} {ta tb tc : TE} {T : Tab} {n i j : Nat} (h : MS.IsTab n T) (hi : i < n) (hj : j < n) (ha : EvR ta σ H (RepR (encT T))) (hb : Ev tb σ H (.int (i : Int))) (hc : Ev tc σ H (.int (j : Int))) :
    EvR (tOp (rIxT K) (tOp (rIxT K) ta tb) tc) σ H (RepR (encV (MS.at2 T i j))) := er_ixn (er_ixn ha hb (encT_row h hi)) hc (encT_at h hi hj)
theorem encT_inj {T U : Tab} (h : encT T = encT U) : T = U := by
  have h1 : T.map (fun r => NestedKey.tup (r.map encV)) = U.map (fun r => NestedKey.tup (r.map encV)) := NestedKey.tup.inj h
  refine (List.map_inj_right fun a b hab => ?_).mp h1
  exact (List.map_inj_right fun a b => encV_inj).mp (NestedKey.tup.inj hab)
/-- range(n), kept in a slot -/
theorem q_range {σ : L2.St} {H : Hp} {ta : TE} {De : Ends} {tz : TS} {i : Nat} {n : Int} (h : Ev ta σ H (.int n)) (k : ∀ p H1, Ex H H1 → H1 p = some (.rng 0 n) → tz De (σ.set i (some (.ref p))) H1) :
    tSeq (tAsg (tCB (fun vs H Q => ∃ n, vs = [V.int n] ∧ ∀ p, H p = none → Q (.ref p) (upd H p (.rng 0 n))) (tCons ta tNil)) (gName i)) tz De σ H :=
  h H (Ex.refl H) _ fun H1 e => ⟨n, rfl, fun p hp => k p _ (e.trans (Ex.new hp)) upd_same⟩
/-! ### letter_table -/
abbrev sLetter : Stmt := topS 10
def spLetter : Sp := fun vs H Q _ => ∃ (m : Mach) (a : Nat) (v : V), vs = [v, .int (a : Int)] ∧ m.WF ∧ m.counters ≤ 1 ∧ Rep H (encM m) v ∧ RetR (RepR (encT (MS.letT m a))) H Q
theorem scLetter : FnScope ["machine", "letter", "states", "rows", "before", "row", "after", "step"] ["machine", "letter"] (defScope sLetter) := ⟨rfl, rfl, rfl, by decide +kernel, rfl, by decide +kernel, by decide +kernel⟩
theorem encV_act {x : Nat} (h : x ≤ 2) : encV (MS.act x) = encN x := by
  have : x = 0 ∨ x = 1 ∨ x = 2 := by omega
  rcases this with rfl | rfl | rfl <;> rfl
theorem fit_nums {l : List Nat} : Fit (.tup (l.map encN)) := by
  have h1 : ∀ l : List Nat, okTs (l.map encN) = true := fun l => by induction l with | nil => rfl | cons a l ih => simp [okTs, okT, encN, ih]
  have h2 : ∀ l : List Nat, NestedKey.depthAll (l.map encN) ≤ 1 := fun l => by induction l with | nil => simp [NestedKey.depthAll] | cons a l ih => simp [NestedKey.depthAll, NestedKey.depth, encN]; omega
  refine ⟨h1 l, ?_⟩
  have := h2 l
  show NestedKey.depth (.tup _) ≤ 8
  simp only [NestedKey.depth]
  omega

theorem fr_at {js : List Nat} {σ σ' : L2.St} {i : Nat} {x : Option (Option V)} (F : Fr js σ σ') (h : σ[i]? = x) (hi : i ∉ js) : σ'[i]? = x := by rw [F.2 i hi]; exact h
theorem sn_at {σ : L2.St} {i j : Nat} {v : V} {x : Option (Option V)} (h : σ[i]? = x) (hij : j ≠ i) : ((σ.set j none).set j (some v))[i]? = x := by
  rw [List.getElem?_set_ne hij, List.getElem?_set_ne hij]
  exact h
theorem sn_self {σ : L2.St} {j : Nat} {v : V} (h : j < σ.length) : ((σ.set j none).set j (some v))[j]? = some (some v) := by
  rw [List.getElem?_set_self (by rw [List.length_set]; exact h)]
theorem bst_letters (m : Mach) (a i j : Nat) (W : m.WF) (hc : m.counters ≤ 1) : (m.steps.filter fun s => decide (s.1 = a ∧ s.2.1 = i ∧ s.2.2.1 = j)).map (fun s => encN s.2.2.2) = ((m.steps.filter fun s => decide (s.1 = a ∧ s.2.1 = i ∧ s.2.2.1 = j)).map fun s => MS.act s.2.2.2).map encV := by
  rw [List.map_map]
  refine List.map_congr_left fun s hs => ?_
  have := (W.st s (List.mem_filter.mp hs).1).2.2.2
  exact (encV_act (by omega)).symm
theorem ok_letter {fB f : Addr} {fdB fd : FuncData} (F : Fun K "letter_table" "letter_table" sLetter f fd) (T : Txt K mg) (cB : Cal P w K mg base CX0 1 "best" ["values"] spBest fB fdB) : FnOk P w K mg base CX0 2 f fd ["machine", "letter"] spLetter := by
  refine F.ok scLetter (fun vs H Q E h => ?_) (fun cdv A outer s H vs Q E hr h => ?_)
  · obtain ⟨m, a, v, rfl, _⟩ := h
    rfl
  · obtain ⟨m, a, v, rfl, W, hc, hv, k⟩ := h
    have s3 := W.s3
    refine ⟨_, (pss_cons (ps_set (i := 2) scLetter.nd rfl (by first | exact Or.inl rfl | exact Or.inr rfl) (pe_callTy cr_rangeV (by rfl) T.range (by decide +kernel) (pa_cons (pe_ix ix_tup (pv 0) pe_int (fun _ _ => rfl)) pa_nil)))
      (pss_cons (ps_set (i := 3) scLetter.nd rfl (by first | exact Or.inl rfl | exact Or.inr rfl) (pe_lst pa_nil))
      (pss_cons (ps_for PassesOwn.never rfl (pi_rngV (pv 2)) (pg_name (i := 4) scLetter.nd rfl (by first | exact Or.inl rfl | exact Or.inr rfl)) (pss_cons (ps_set (i := 5) scLetter.nd rfl (by first | exact Or.inl rfl | exact Or.inr rfl) (pe_lst pa_nil))
      (pss_cons (ps_for PassesOwn.never rfl (pi_rngV (pv 2)) (pg_name (i := 6) scLetter.nd rfl (by first | exact Or.inl rfl | exact Or.inr rfl)) (pss_one (ps_expr (pe_bm PySem.F.plainAttrs_list PySem.F.slot_list_append PySem.F.type_list_append mt_append (pv 5) (pa_cons (pe_cal cB hr pass0 (pa_cons (pe_lc (own := [("step", 7)]) (tt := (tTest (tOp rEqN (tSl (rSlA K) (tVar 7) tNoPart (tPart (tC (.int 3)))) (tTup (tCons (tVar 1) (tCons (tVar 4) (tCons (tVar 6) tNil))))))) (te := (tOp (rIxT K) (tVar 7) (tC (.int 3)))) rfl scLetter.nd (pi_tup (pe_ix ix_tup (pv 0) pe_int (fun _ _ => rfl))) (blkOk_by (N := ["machine", "letter", "states", "rows", "before", "row", "after", "step"]) (sc := defScope sLetter) (own := [("step", 7)]) (by decide +kernel)) (fun _ _ _ _ _ => (pg_name (i := 7) scLetter.nd rfl (by first | exact Or.inl rfl | exact Or.inr rfl))) (fun _ _ _ _ _ => (pts_one (pt_cmpR (op_eqN hr.units) (pe_slice sl_tupA (pv 7) po_none (po_some pe_int)) (pe_tup (pa_cons (pv 1) (pa_cons (pv 4) (pa_cons (pv 6) pa_nil)))) (nomark _)))) (fun _ _ _ _ _ => (pe_ix ix_tup (pv 7) pe_int (fun _ _ => rfl)))) pa_nil)) pa_nil)))))
      (pss_one (ps_expr (pe_bm PySem.F.plainAttrs_list PySem.F.slot_list_append PySem.F.type_list_append mt_append (pv 3) (pa_cons (pe_callTy call_tuple_of (by rfl) T.tuple (by decide +kernel) (pa_cons (pv 5) pa_nil)) pa_nil)))))))
      (pss_one (ps_ret (pe_callTy call_tuple_of (by rfl) T.tuple (by decide +kernel) (pa_cons (pv 3) pa_nil))))))), ?_⟩
    have hm : ∀ {σ' : L2.St} {H'}, σ'[0]? = some (some v) → Ex H H' → EvR (tVar 0) σ' H' (RepR (encM m)) := fun h0 e => er_var h0 (hv.ex e)
    refine q_range (er_num (er_ixn (hm rfl (Ex.refl H)) ev_c rfl)) fun p H1 e1 hp => ?_
    refine tab_loop (n := m.states) (ra := p) (f := fun i j => MS.best ((m.steps.filter fun s : Nat × Nat × Nat × Nat => decide (s.1 = a ∧ s.2.1 = i ∧ s.2.2.1 = j)).map fun s : Nat × Nat × Nat × Nat => MS.act s.2.2.2)) (by omega) rfl hp (L := 8) rfl (by decide) (by decide) (by decide) (by decide) (by decide) (by decide) (by decide) (by decide) (fun i j σ' H' hi hj Fs hb ha e' => ?_) (fun u H2 e2 r => k u H2 (e1.trans e2) r)
    have hl : ∀ i, i ∉ [3, 4, 5, 6] → σ'[i]? = ([some v, some (V.int (a : Int)), some (V.ref p), none, none, none, none, none] : L2.St)[i]? := Fs.2
    have h0 := hl 0 (by decide)
    have h1 := hl 1 (by decide)
    have hlen : σ'.length = 8 := Fs.1
    refine er_best ?_ (by have := W.sl; have := List.length_filter_le (fun s : Nat × Nat × Nat × Nat => decide (s.1 = a ∧ s.2.1 = i ∧ s.2.2.1 = j)) m.steps; rw [List.length_map]; omega)
    rw [← bst_letters m a i j W hc]
    refine el_tup' (en := encS) (er_ixn (hm h0 (e1.trans e')) ev_c rfl) (by have := W.sl; omega) (fun st u H3 hst e3 r => ?_) (fun st u H3 hst hb e3 r => ?_)
    · have key := ev_eqN (σ := (σ'.set 7 none).set 7 (some u)) (H := H3) (d := .tup [encN st.1, encN st.2.1, encN st.2.2.1]) (e := .tup [encN a, encN i, encN j])
        (er_slTo' (K := K) 3 rfl (er_var (sn_self (by omega)) r)) (er_tup (ds := [encN a, encN i, encN j]) (ea1 (er_int (ev_var (sn_at h1 (by decide)))) (monoRep _) (ea1 (er_int (ev_var (sn_at hb (by decide)))) (monoRep _) (ea1 (er_int (ev_var (sn_at ha (by decide)))) (monoRep _) ea0))) (by show 3 ≤ 100000; decide))
        (fit_nums (l := [st.1, st.2.1, st.2.2.1])) (fit_nums (l := [a, i, j]))
      have ed : decide (st.1 = a ∧ st.2.1 = i ∧ st.2.2.1 = j) = decide ((NestedKey.tup [encN st.1, encN st.2.1, encN st.2.2.1]) = .tup [encN a, encN i, encN j]) := by
        refine decide_eq_decide.mpr ⟨fun ⟨h1, h2, h3⟩ => by rw [h1, h2, h3], fun h => ?_⟩
        have := NestedKey.tup.inj h
        simp only [List.cons.injEq, and_true] at this
        exact ⟨encN_inj this.1, encN_inj this.2.1, encN_inj this.2.2⟩
      rw [ed]
      exact et_test key
    · exact er_ixn (er_var (sn_self (by omega)) r) ev_c rfl
/-! ### in_sequence -/
abbrev sSeq : Stmt := topS 11
def spSeq : Sp := fun vs H Q _ => ∃ (n : Nat) (T U : Tab) (v u : V), vs = [v, u] ∧ n ≤ 1000 ∧ MS.IsTab n T ∧ MS.IsTab n U ∧ Rep H (encT T) v ∧ Rep H (encT U) u ∧ RetR (RepR (encT (MS.seqT T U))) H Q
theorem scSeq : FnScope ["first", "second", "states", "rows", "before", "row", "after", "state"] ["first", "second"] (defScope sSeq) := ⟨rfl, rfl, rfl, by decide +kernel, rfl, by decide +kernel, by decide +kernel⟩
/-- [e for k in states], states a range kept in a slot -/
theorem el_rngS {σ : L2.St} {H : Hp} {te : TE} {i s ra n : Nat} {f : Nat → D} (hs : (σ.set i none)[s]? = some (some (.ref ra))) (hs' : σ[s]? = some (some (.ref ra))) (hra : H ra = some (.rng 0 (n : Int))) (hn : n ≤ 1000) (he : ∀ k, k < n → EvR te ((σ.set i none).set i (some (.int (k : Int)))) H (RepR (f k))) :
    EvR (tLc (iRngV (tVar s)) (gName i) tYes te [i]) σ H (LRep ((List.range n).map f)) := by
  refine el_rng (fun H1 e R q => ?_) (by omega) he
  refine ⟨.ref ra, hs', ra, 0, (n : Int), rfl, e _ _ hra, by omega, ?_⟩
  have hnn : ((n : Int) - 0).toNat = n := by omega
  rw [hnn]
  exact q H1 (Ex.refl H1)
theorem ok_seq {fB fA f : Addr} {fdB fdA fd : FuncData} (F : Fun K "in_sequence" "in_sequence" sSeq f fd) (T : Txt K mg) (cB : Cal P w K mg base CX0 1 "best" ["values"] spBest fB fdB) (cA : Cal P w K mg base CX0 1 "along" ["first", "second"] spAlong fA fdA) : FnOk P w K mg base CX0 2 f fd ["first", "second"] spSeq := by
  refine F.ok scSeq (fun vs H Q E h => ?_) (fun cdv A outer s H vs Q E hr h => ?_)
  · obtain ⟨n, T, U, v, u, rfl, _⟩ := h
    rfl
  · obtain ⟨n, T1, U, v, u, rfl, hn, hT, hU, hv, hu, k⟩ := h
    refine ⟨_, (pss_cons (ps_set (i := 2) scSeq.nd rfl (by first | exact Or.inl rfl | exact Or.inr rfl) (pe_callTy cr_rangeV (by rfl) T.range (by decide +kernel) (pa_cons (pe_callB call_len_seq (by rfl) T.len PySem.boot_len (pa_cons (pv 0) pa_nil)) pa_nil)))
      (pss_cons (ps_set (i := 3) scSeq.nd rfl (by first | exact Or.inl rfl | exact Or.inr rfl) (pe_lst pa_nil))
      (pss_cons (ps_for PassesOwn.never rfl (pi_rngV (pv 2)) (pg_name (i := 4) scSeq.nd rfl (by first | exact Or.inl rfl | exact Or.inr rfl)) (pss_cons (ps_set (i := 5) scSeq.nd rfl (by first | exact Or.inl rfl | exact Or.inr rfl) (pe_lst pa_nil))
      (pss_cons (ps_for PassesOwn.never rfl (pi_rngV (pv 2)) (pg_name (i := 6) scSeq.nd rfl (by first | exact Or.inl rfl | exact Or.inr rfl)) (pss_one (ps_expr (pe_bm PySem.F.plainAttrs_list PySem.F.slot_list_append PySem.F.type_list_append mt_append (pv 5) (pa_cons (pe_cal cB hr pass0 (pa_cons (pe_lc (own := [("state", 7)]) (tt := tYes) (te := (tCall spAlong [] E0 (tCons (tOp (rIxT K) (tOp (rIxT K) (tVar 0) (tVar 4)) (tVar 7)) (tCons (tOp (rIxT K) (tOp (rIxT K) (tVar 1) (tVar 7)) (tVar 6)) tNil)))) rfl scSeq.nd (pi_rngV (pv 2)) (blkOk_by (N := ["first", "second", "states", "rows", "before", "row", "after", "state"]) (sc := defScope sSeq) (own := [("state", 7)]) (by decide +kernel)) (fun _ _ _ _ _ => (pg_name (i := 7) scSeq.nd rfl (by first | exact Or.inl rfl | exact Or.inr rfl))) (fun _ _ _ _ _ => pts_nil) (fun _ _ _ _ _ => (pe_cal cA hr pass0 (pa_cons (pe_ix ix_tup (pe_ix ix_tup (pv 0) (pv 4) (fun _ _ => rfl)) (pv 7) (fun _ _ => rfl)) (pa_cons (pe_ix ix_tup (pe_ix ix_tup (pv 1) (pv 7) (fun _ _ => rfl)) (pv 6) (fun _ _ => rfl)) pa_nil))))) pa_nil)) pa_nil)))))
      (pss_one (ps_expr (pe_bm PySem.F.plainAttrs_list PySem.F.slot_list_append PySem.F.type_list_append mt_append (pv 3) (pa_cons (pe_callTy call_tuple_of (by rfl) T.tuple (by decide +kernel) (pa_cons (pv 5) pa_nil)) pa_nil)))))))
      (pss_one (ps_ret (pe_callTy call_tuple_of (by rfl) T.tuple (by decide +kernel) (pa_cons (pv 3) pa_nil))))))), ?_⟩
    refine q_range (n := (n : Int)) (by have := ev_lenT (K := K) (σ := [some v, some u, none, none, none, none, none, none]) (H := H) rfl (er_var (i := 0) rfl hv); rw [List.length_map, hT.1] at this; exact this) fun p H1 e1 hp => ?_
    have eT : MS.seqT T1 U = MS.mkTab n (fun i j => MS.best ((List.range n).map fun k => MS.Val.alo (MS.at2 T1 i k) (MS.at2 U k j))) := by unfold MS.seqT; rw [hT.1]
    refine tab_loop (n := n) (ra := p) (f := fun i j => MS.best ((List.range n).map fun k => MS.Val.alo (MS.at2 T1 i k) (MS.at2 U k j))) hn rfl hp (L := 8) rfl (by decide) (by decide) (by decide) (by decide) (by decide) (by decide) (by decide) (by decide) (fun i j σ' H' hi hj Fs hb ha e' => ?_) (fun u H2 e2 r => k u H2 (e1.trans e2) (by rw [eT]; exact r))
    have hl : ∀ i, i ∉ [3, 4, 5, 6] → σ'[i]? = ([some v, some u, some (V.ref p), none, none, none, none, none] : L2.St)[i]? := Fs.2
    have hlen : σ'.length = 8 := Fs.1
    refine er_best ?_ (by simp; omega)
    rw [List.map_map]
    refine el_rngS (ra := p) (by rw [List.getElem?_set_ne (by decide)]; exact hl 2 (by decide)) (hl 2 (by decide)) (e' _ _ hp) hn fun kk hk => ?_
    refine er_along (er_at hT hi hk (er_var (sn_at (hl 0 (by decide)) (by decide)) (hv.ex (e1.trans e'))) (ev_var (sn_at hb (by decide))) (ev_var (sn_self (by omega)))) (er_at hU hk hj (er_var (sn_at (hl 1 (by decide)) (by decide)) (hu.ex (e1.trans e'))) (ev_var (sn_self (by omega))) (ev_var (sn_at ha (by decide))))
theorem er_seq {σ : L2.St} {H : Hp} {ta tb : TE} {n : Nat} {T U : Tab} (hn : n ≤ 1000) (hT : MS.IsTab n T) (hU : MS.IsTab n U) (ha : EvR ta σ H (RepR (encT T))) (hb : EvR tb σ H (RepR (encT U))) : EvR (tCall spSeq [] E0 (tCons ta (tCons tb tNil))) σ H (RepR (encT (MS.seqT T U))) :=
  er_call (ea1 ha (monoRep _) (ea1 hb (monoRep _) ea0)) fun vs H2 e rs Q q => by
    obtain ⟨v, u, rfl, hv, hu⟩ := args2 rs
    exact ⟨n, T, U, v, u, rfl, hn, hT, hU, hv, hu, q⟩
theorem er_letter {σ : L2.St} {H : Hp} {ta tb : TE} {m : Mach} {a : Nat} (W : m.WF) (hc : m.counters ≤ 1) (ha : EvR ta σ H (RepR (encM m))) (hb : Ev tb σ H (.int (a : Int))) : EvR (tCall spLetter [] E0 (tCons ta (tCons tb tNil))) σ H (RepR (encT (MS.letT m a))) :=
  er_call (ea1 ha (monoRep _) (ea1 (EvR.of hb) (monoV _) ea0)) fun vs H2 e rs Q q => by
    obtain ⟨v, u, rfl, hv, rfl⟩ := args2 rs
    exact ⟨m, a, v, rfl, W, hc, hv, q⟩
/-! ### is_stable -/
abbrev sStable : Stmt := topS 12
def spStable : Sp := fun vs H Q _ => ∃ (n : Nat) (T : Tab) (v : V), vs = [v] ∧ n ≤ 1000 ∧ MS.IsTab n T ∧ Rep H (encT T) v ∧ RetR (IsV (.bl (decide (MS.seqT T T = T)))) H Q
theorem scStable : FnScope ["table"] ["table"] (defScope sStable) := ⟨rfl, rfl, rfl, by decide +kernel, rfl, by decide +kernel, by decide +kernel⟩
theorem okV (x : Val) : okT (encV x) = true ∧ (encV x).depth = 0 := by cases x <;> exact ⟨by decide +kernel, rfl⟩
theorem fit_T (T : Tab) : Fit (encT T) := by
  have a1 : ∀ l : List Val, okTs (l.map encV) = true ∧ NestedKey.depthAll (l.map encV) ≤ 1 := fun l => by
    induction l with
    | nil => exact ⟨rfl, by simp [NestedKey.depthAll]⟩
    | cons x l ih => exact ⟨by simp [okTs, (okV x).1, ih.1], by simp only [List.map_cons, NestedKey.depthAll, (okV x).2]; omega⟩
  have a2 : ∀ T : Tab, okTs (T.map fun r => NestedKey.tup (r.map encV)) = true ∧ NestedKey.depthAll (T.map fun r => NestedKey.tup (r.map encV)) ≤ 3 := fun T => by
    induction T with
    | nil => exact ⟨rfl, by simp [NestedKey.depthAll]⟩
    | cons r T ih => exact ⟨by simp [okTs, okT, (a1 r).1, ih.1], by have := (a1 r).2; simp only [List.map_cons, NestedKey.depthAll, NestedKey.depth]; omega⟩
  refine ⟨(a2 T).1, ?_⟩
  have := (a2 T).2
  simp only [encT, NestedKey.depth]
  omega
theorem dec_T (T U : Tab) : decide (encT T = encT U) = decide (T = U) := decide_eq_decide.mpr ⟨encT_inj, fun h => by rw [h]⟩
theorem ok_stable {fS f : Addr} {fdS fd : FuncData} (F : Fun K "is_stable" "is_stable" sStable f fd) (cS : Cal P w K mg base CX0 2 "in_sequence" ["first", "second"] spSeq fS fdS) : FnOk P w K mg base CX0 3 f fd ["table"] spStable := by
  refine F.ok scStable (fun vs H Q E h => ?_) (fun cdv A outer s H vs Q E hr h => ?_)
  · obtain ⟨n, T, v, rfl, _⟩ := h
    rfl
  · obtain ⟨n, T, v, rfl, hn, hT, hv, k⟩ := h
    refine ⟨_, (pss_one (ps_ret (pe_cmpR (op_eqN hr.units) (pe_cal cS hr pass0 (pa_cons (pv 0) (pa_cons (pv 0) pa_nil))) (pv 0) (nomark _)))), ?_⟩
    have ev0 : EvR (tVar 0) [some v] H (RepR (encT T)) := er_var rfl hv
    have := ev_eqN (er_seq hn hT hT ev0 ev0) ev0 (fit_T _) (fit_T _)
    rw [dec_T] at this
    exact s_ret this fun H1 e1 => k _ H1 e1 rfl
theorem ev_stable {σ : L2.St} {H : Hp} {ta : TE} {n : Nat} {T : Tab} (hn : n ≤ 1000) (hT : MS.IsTab n T) (ha : EvR ta σ H (RepR (encT T))) : Ev (tCall spStable [] E0 (tCons ta tNil)) σ H (.bl (decide (MS.seqT T T = T))) :=
  (er_call (ea1 ha (monoRep _) ea0) fun vs H2 e rs Q q => by
    obtain ⟨v, rfl, hv⟩ := args1 rs
    exact ⟨n, T, v, rfl, hn, hT, hv, q⟩).ev
/-! ### staying -/
abbrev sStay : Stmt := topS 13
def spStay : Sp := fun vs H Q _ => ∃ (n : Nat) (T : Tab) (v : V) (i : Nat), vs = [v, .int (i : Int)] ∧ MS.IsTab n T ∧ i < n ∧ Rep H (encT T) v ∧ RetR (RepR (encV (MS.Val.sta (MS.at2 T i i)))) H Q
theorem scStay : FnScope ["table", "state", "value"] ["table", "state"] (defScope sStay) := ⟨rfl, rfl, rfl, by decide +kernel, rfl, by decide +kernel, by decide +kernel⟩
theorem ok_stay {f : Addr} {fd : FuncData} (F : Fun K "staying" "staying" sStay f fd) : FnOk P w K mg base CX0 1 f fd ["table", "state"] spStay := by
  refine F.ok scStay (fun vs H Q E h => ?_) (fun cdv A outer s H vs Q E hr h => ?_)
  · obtain ⟨n, T, v, i, rfl, _⟩ := h
    rfl
  · obtain ⟨n, T, v, i, rfl, hT, hi, hv, k⟩ := h
    refine ⟨_, (pss_cons (ps_set (i := 2) scStay.nd rfl (by first | exact Or.inl rfl | exact Or.inr rfl) (pe_ix ix_tup (pe_ix ix_tup (pv 0) (pv 1) (fun _ _ => rfl)) (pv 1) (fun _ _ => rfl)))
      (pss_cons (ps_if (PW.pt (pw_or (pt_cmp (pc_isN (pv 2))) (pw_or1 (PW.pt (pw_and (pt_cmpR op_ne (pv 2) pe_str (nomark _)) (pw_and1 (pt_cmpR op_eq (pe_op op_mod (pv 2) pe_int) pe_int (nomark _)))))))) (pss_one (ps_ret (pv 2))) pss_nil)
      (pss_one (ps_ret pe_str)))), ?_⟩
    refine q_asg (ev_V (er_at hT hi hi (er_var rfl hv) (ev_var rfl) (ev_var rfl))) fun H1 e1 => ?_
    generalize MS.at2 T i i = x at k ⊢
    have k' : ∀ (u : V) (H2 : Hp), Ex H H2 → u = vv (MS.Val.sta x) → Q u H2 := fun v H2 e hv => k v H2 e (by subst hv; exact rep_vv _)
    have hv2 : ([some v, some (V.int (i : Int)), none] : L2.St).set 2 (some (vv x)) = [some v, some (V.int (i : Int)), some (vv x)] := rfl
    show tSeq _ _ _ (([some v, some (V.int (i : Int)), none] : L2.St).set 2 (some (vv x))) H1
    rw [hv2]
    refine q_when (b := decide (x = .no) || (decide (x ≠ .gr) && decide (x = .a2 ∨ x = .a0))) (et_or (et_is (et_B (ev_isVN (ev_var (v := vv x) rfl))) (by cases x <;> rfl)) fun hn => et_and (et_is (et_test (ev_op (ev_var (v := vv x) rfl) ev_c (rv_ne (scal_gr x (by cases x <;> simp_all [vv]))))) (by cases x <;> rfl)) fun hg => ?_) (fun hb H2 e2 => ?_) fun hb H2 e2 => ?_
    · have n1 : x ≠ .no := by simpa using hn
      have n2 : x ≠ .gr := by simpa using hg
      cases x with
      | no => exact absurd rfl n1
      | gr => exact absurd rfl n2
      | a2 => exact et_is (et_test (ev_op (ev_op (ev_var (v := .int 2) rfl) ev_c (rv_I (by decide))) ev_c (rv_eq rfl))) (by decide)
      | a1 => exact et_is (et_test (ev_op (ev_op (ev_var (v := .int 1) rfl) ev_c (rv_I (by decide))) ev_c (rv_eq rfl))) (by decide)
      | a0 => exact et_is (et_test (ev_op (ev_op (ev_var (v := .int 0) rfl) ev_c (rv_I (by decide))) ev_c (rv_eq rfl))) (by decide)
    · refine s_ret (ev_var (v := vv x) rfl) fun H3 e3 => k' _ H3 ((e1.trans e2).trans e3) ?_
      cases x <;> simp_all [vv, MS.Val.sta]
    · refine s_ret ev_c fun H3 e3 => k' _ H3 ((e1.trans e2).trans e3) ?_
      cases x <;> simp_all [vv, MS.Val.sta]

/-! ### repeated -/
theorem er_stay {σ : L2.St} {H : Hp} {ta tb : TE} {n i : Nat} {T : Tab} (hT : MS.IsTab n T) (hi : i < n) (ha : EvR ta σ H (RepR (encT T))) (hb : Ev tb σ H (.int (i : Int))) : EvR (tCall spStay [] E0 (tCons ta (tCons tb tNil))) σ H (RepR (encV (MS.Val.sta (MS.at2 T i i)))) :=
  er_call (ea1 ha (monoRep _) (ea1 (EvR.of hb) (monoV _) ea0)) fun vs H2 e rs Q q => by
    obtain ⟨v, u, rfl, hv, rfl⟩ := args2 rs
    exact ⟨n, T, v, i, rfl, hT, hi, hv, q⟩
/-- x = e, then the rest -/
theorem qr_asg {σ : L2.St} {H : Hp} {te : TE} {R : RL} {De : Ends} {tz : TS} {i : Nat} (h : EvR te σ H R) (k : ∀ v H1, Ex H H1 → R v H1 → tz De (σ.set i (some v)) H1) : tSeq (tAsg te (gName i)) tz De σ H := h H (Ex.refl H) _ fun v H1 e r => k v H1 e r
/-- l[i], l a list -/
theorem er_ixL {σ : L2.St} {H : Hp} {ta tb : TE} {ks : List D} {i : Nat} {d : D} (ha : EvR ta σ H (LRep ks)) (hb : Ev tb σ H (.int (i : Int))) (h : ks[i]? = some d) : EvR (tOp (rIxL K) ta tb) σ H (RepR d) := fun H1 e Q q =>
  ha H1 e _ fun v H2 e2 r => hb H2 (e.trans e2) _ fun H3 e3 => by
    obtain ⟨p, vs, rfl, hp, rv⟩ := r
    obtain ⟨u, hu, ru⟩ := rv.get h
    exact ⟨p, vs, i, u, rfl, rfl, SqL.of (e3 _ _ hp), atI_nat hu, q u H3 (e2.trans e3) (ru.ex e3)⟩
abbrev sRep : Stmt := topS 14
def spRep : Sp := fun vs H Q _ => ∃ (n : Nat) (T : Tab) (v : V), vs = [v] ∧ n ≤ 1000 ∧ MS.IsTab n T ∧ Rep H (encT T) v ∧ RetR (RepR (encT (MS.repT T))) H Q
theorem scRep : FnScope ["table", "states", "stays", "rows", "before", "row", "after", "state", "k"] ["table"] (defScope sRep) := ⟨rfl, rfl, rfl, by decide +kernel, rfl, by decide +kernel, by decide +kernel⟩
theorem ok_rep {fB fA fY f : Addr} {fdB fdA fdY fd : FuncData} (F : Fun K "repeated" "repeated" sRep f fd) (T : Txt K mg) (cB : Cal P w K mg base CX0 1 "best" ["values"] spBest fB fdB) (cA : Cal P w K mg base CX0 1 "along" ["first", "second"] spAlong fA fdA) (cY : Cal P w K mg base CX0 1 "staying" ["table", "state"] spStay fY fdY) : FnOk P w K mg base CX0 2 f fd ["table"] spRep := by
  refine F.ok scRep (fun vs H Q E h => ?_) (fun cdv A outer s H vs Q E hr h => ?_)
  · obtain ⟨n, T, v, rfl, _⟩ := h
    rfl
  · obtain ⟨n, T1, v, rfl, hn, hT, hv, k⟩ := h
    refine ⟨_, (pss_cons (ps_set (i := 1) scRep.nd rfl (by first | exact Or.inl rfl | exact Or.inr rfl) (pe_callTy cr_rangeV (by rfl) T.range (by decide +kernel) (pa_cons (pe_callB call_len_seq (by rfl) T.len PySem.boot_len (pa_cons (pv 0) pa_nil)) pa_nil)))
      (pss_cons (ps_set (i := 2) scRep.nd rfl (by first | exact Or.inl rfl | exact Or.inr rfl) (pe_lc (own := [("state", 7)]) (tt := tYes) (te := (tCall spStay [] E0 (tCons (tVar 0) (tCons (tVar 7) tNil)))) rfl scRep.nd (pi_rngV (pv 1)) (blkOk_by (N := ["table", "states", "stays", "rows", "before", "row", "after", "state", "k"]) (sc := defScope sRep) (own := [("state", 7)]) (by decide +kernel)) (fun _ _ _ _ _ => (pg_name (i := 7) scRep.nd rfl (by first | exact Or.inl rfl | exact Or.inr rfl))) (fun _ _ _ _ _ => pts_nil) (fun _ _ _ _ _ => (pe_cal cY hr pass0 (pa_cons (pv 0) (pa_cons (pv 7) pa_nil))))))
      (pss_cons (ps_set (i := 3) scRep.nd rfl (by first | exact Or.inl rfl | exact Or.inr rfl) (pe_lst pa_nil))
      (pss_cons (ps_for PassesOwn.never rfl (pi_rngV (pv 1)) (pg_name (i := 4) scRep.nd rfl (by first | exact Or.inl rfl | exact Or.inr rfl)) (pss_cons (ps_set (i := 5) scRep.nd rfl (by first | exact Or.inl rfl | exact Or.inr rfl) (pe_lst pa_nil))
      (pss_cons (ps_for PassesOwn.never rfl (pi_rngV (pv 1)) (pg_name (i := 6) scRep.nd rfl (by first | exact Or.inl rfl | exact Or.inr rfl)) (pss_one (ps_expr (pe_bm PySem.F.plainAttrs_list PySem.F.slot_list_append PySem.F.type_list_append mt_append (pv 5) (pa_cons (pe_cal cB hr pass0 (pa_cons (pe_lc (own := [("k", 8)]) (tt := tYes) (te := (tCall spAlong [] E0 (tCons (tCall spAlong [] E0 (tCons (tOp (rIxT K) (tOp (rIxT K) (tVar 0) (tVar 4)) (tVar 8)) (tCons (tOp (rIxL K) (tVar 2) (tVar 8)) tNil))) (tCons (tOp (rIxT K) (tOp (rIxT K) (tVar 0) (tVar 8)) (tVar 6)) tNil)))) rfl scRep.nd (pi_rngV (pv 1)) (blkOk_by (N := ["table", "states", "stays", "rows", "before", "row", "after", "state", "k"]) (sc := defScope sRep) (own := [("k", 8)]) (by decide +kernel)) (fun _ _ _ _ _ => (pg_name (i := 8) scRep.nd rfl (by first | exact Or.inl rfl | exact Or.inr rfl))) (fun _ _ _ _ _ => pts_nil) (fun _ _ _ _ _ => (pe_cal cA hr pass0 (pa_cons (pe_cal cA hr pass0 (pa_cons (pe_ix ix_tup (pe_ix ix_tup (pv 0) (pv 4) (fun _ _ => rfl)) (pv 8) (fun _ _ => rfl)) (pa_cons (pe_ix ix_list (pv 2) (pv 8) (fun _ _ => rfl)) pa_nil))) (pa_cons (pe_ix ix_tup (pe_ix ix_tup (pv 0) (pv 8) (fun _ _ => rfl)) (pv 6) (fun _ _ => rfl)) pa_nil))))) pa_nil)) pa_nil)))))
      (pss_one (ps_expr (pe_bm PySem.F.plainAttrs_list PySem.F.slot_list_append PySem.F.type_list_append mt_append (pv 3) (pa_cons (pe_callTy call_tuple_of (by rfl) T.tuple (by decide +kernel) (pa_cons (pv 5) pa_nil)) pa_nil)))))))
      (pss_one (ps_ret (pe_callTy call_tuple_of (by rfl) T.tuple (by decide +kernel) (pa_cons (pv 3) pa_nil)))))))), ?_⟩
    refine q_range (n := (n : Int)) (by have := ev_lenT (K := K) (σ := [some v, none, none, none, none, none, none, none, none]) (H := H) rfl (er_var (i := 0) rfl hv); rw [List.length_map, hT.1] at this; exact this) fun p H1 e1 hp => ?_
    refine qr_asg (R := LRep ((List.range n).map fun i => encV (MS.Val.sta (MS.at2 T1 i i)))) (el_rngS (ra := p) rfl rfl hp hn fun kk hk => er_stay hT hk (er_var rfl (hv.ex e1)) (ev_var rfl)) fun u H2 e2 hu => ?_
    have eT : MS.repT T1 = MS.mkTab n (fun i j => MS.best ((List.range n).map fun k => MS.Val.alo (MS.Val.alo (MS.at2 T1 i k) (MS.Val.sta (MS.at2 T1 k k))) (MS.at2 T1 k j))) := by unfold MS.repT; rw [hT.1]
    refine tab_loop (n := n) (ra := p) (f := fun i j => MS.best ((List.range n).map fun k => MS.Val.alo (MS.Val.alo (MS.at2 T1 i k) (MS.Val.sta (MS.at2 T1 k k))) (MS.at2 T1 k j))) hn rfl (e2 _ _ hp) (L := 9) rfl (by decide) (by decide) (by decide) (by decide) (by decide) (by decide) (by decide) (by decide) (fun i j σ' H' hi hj Fs hb ha e' => ?_) (fun u H3 e3 r => k u H3 ((e1.trans e2).trans e3) (by rw [eT]; exact r))
    have hl : ∀ i, i ∉ [3, 4, 5, 6] → σ'[i]? = ([some v, some (V.ref p), some u, none, none, none, none, none, none] : L2.St)[i]? := Fs.2
    have hlen : σ'.length = 9 := Fs.1
    refine er_best ?_ (by simp; omega)
    rw [List.map_map]
    refine el_rngS (ra := p) (by rw [List.getElem?_set_ne (by decide)]; exact hl 1 (by decide)) (hl 1 (by decide)) (e' _ _ (e2 _ _ hp)) hn fun kk hk => ?_
    have h0 := er_var (H := H') (d := encT T1) (sn_at (j := 8) (v := .int (kk : Int)) (hl 0 (by decide)) (by decide)) (hv.ex ((e1.trans e2).trans e'))
    have hk8 : Ev (tVar 8) ((σ'.set 8 none).set 8 (some (.int (kk : Int)))) H' (.int (kk : Int)) := ev_var (sn_self (by omega))
    refine er_along (er_along (er_at hT hi hk h0 (ev_var (sn_at hb (by decide))) hk8) (er_ixL (ks := (List.range n).map fun i => encV (MS.Val.sta (MS.at2 T1 i i))) (er_varR (sn_at (hl 2 (by decide)) (by decide)) (monoL _) (monoL _ _ _ _ e' hu)) hk8 (by rw [List.getElem?_map, List.getElem?_range hk]; rfl))) (er_at hT hk hj h0 hk8 (ev_var (sn_at ha (by decide))))
theorem er_rep {σ : L2.St} {H : Hp} {ta : TE} {n : Nat} {T : Tab} (hn : n ≤ 1000) (hT : MS.IsTab n T) (ha : EvR ta σ H (RepR (encT T))) : EvR (tCall spRep [] E0 (tCons ta tNil)) σ H (RepR (encT (MS.repT T))) :=
  er_call (ea1 ha (monoRep _) ea0) fun vs H2 e rs Q q => by
    obtain ⟨v, rfl, hv⟩ := args1 rs
    exact ⟨n, T, v, rfl, hn, hT, hv, q⟩
/-! ### best_value -/
abbrev sBV : Stmt := topS 15
def spBV : Sp := fun vs H Q _ => ∃ (m : Mach) (T : Tab) (v u : V), vs = [v, u] ∧ m.WF ∧ MS.IsTab m.states T ∧ Rep H (encM m) v ∧ Rep H (encT T) u ∧ RetR (RepR (encV (MS.bestV m T))) H Q
def bvScope : Scope := { kind := .function, names := [(".0", .local), ("first", .cell), ("value", .local), ("machine", .cell), ("table", .cell)], isGenerator := false, isCoroutine := false }
def bvScope2 : Scope := { kind := .function, names := [(".0", .local), ("last", .local), ("first", .free), ("table", .free)], isGenerator := false, isCoroutine := false }
theorem scBV : FnScope ["machine", "table", "first", "last", "value"] ["machine", "table"] (defScope sBV) := ⟨rfl, rfl, rfl, by decide +kernel, rfl, by decide +kernel, by decide +kernel⟩
theorem ok_bv {fB f : Addr} {fdB fd : FuncData} (F : Fun K "best_value" "best_value" sBV f fd) (T : Txt K mg) (cB : Cal P w K mg base CX0 1 "best" ["values"] spBest fB fdB) : FnOk P w K mg base CX0 2 f fd ["machine", "table"] spBV := by
  refine F.ok scBV (fun vs H Q E h => ?_) (fun cdv A outer s H vs Q E hr h => ?_)
  · obtain ⟨m, T, v, u, rfl, _⟩ := h
    rfl
  · obtain ⟨m, T1, v, u, rfl, W, hT, hv, hut, k⟩ := h
    refine ⟨_, (pss_one (ps_ret (pe_cal cB hr pass0 (pa_cons (pe_lc2 (own := [("first", 2), ("value", 4)]) (vs1 := [4]) (tt := tYes) (wi1 := (iList K (tLc (iTup K (tOp (rIxT K) (tVar 0) (tC (.int 5)))) (gName 3) tYes (tOp (rIxT K) (tOp (rIxT K) (tVar 1) (tVar 2)) (tVar 3)) [3]))) (tt1 := tYes) (te := (tVar 4)) rfl scBV.nd (pi_tup (pe_ix ix_tup (pv 0) pe_int (fun _ _ => rfl))) (blkOk_by (N := ["machine", "table", "first", "last", "value"]) (sc := defScope sBV) (own := [("first", 2), ("value", 4)]) (by decide +kernel)) (by decide) (fun _ _ _ _ _ => (pg_name (i := 2) scBV.nd rfl (by first | exact Or.inl rfl | exact Or.inr rfl))) (fun _ _ _ _ _ => pts_nil) (fun _ _ _ _ _ => (pi_list (pe_lc (own := [("last", 3)]) (tt := tYes) (te := (tOp (rIxT K) (tOp (rIxT K) (tVar 1) (tVar 2)) (tVar 3))) rfl scBV.nd (pi_tup (pe_ix ix_tup (pv 0) pe_int (fun _ _ => rfl))) (by have zz : BlkOk ["machine", "table", "first", "last", "value"] bvScope bvScope2 [("last", 3)] := blkOk_by (by decide +kernel); exact zz) (fun _ _ _ _ _ => (pg_name (i := 3) scBV.nd rfl (by first | exact Or.inl rfl | exact Or.inr rfl))) (fun _ _ _ _ _ => pts_nil) (fun _ _ _ _ _ => (pe_ix ix_tup (pe_ix ix_tup (pv 1) (pv 2) (fun _ _ => rfl)) (pv 3) (fun _ _ => rfl)))))) (fun _ _ _ _ _ => (pg_name (i := 4) scBV.nd rfl (by first | exact Or.inl rfl | exact Or.inr rfl))) (fun _ _ _ _ _ => pts_nil) (fun _ _ _ _ _ => (pv 4))) pa_nil)))), ?_⟩
    refine sr_ret (er_best (l := m.firsts.flatMap fun f => m.lasts.map fun l => MS.at2 T1 f l) ?_ ?_) fun u H1 e r => k u H1 e r
    · refine fun H1 e Q q => ?_
      refine er_ixn (d := .tup (m.firsts.map encN)) (er_var rfl hv) ev_c rfl H1 e _ fun x H2 e2 rx => ?_
      obtain ⟨a, fs, rfl, ha, rf⟩ := rep_tup rx
      have hfl := rf.length
      rw [List.length_map] at hfl
      refine ⟨a, rfl, ⟨fs, SqT.of ha⟩, fun D hD => ?_⟩
      refine ⟨fun i n Hi => n = m.firsts.length - i ∧ i ≤ m.firsts.length ∧ Ex H2 Hi ∧ ∃ us, Hi D = some (.lst us) ∧ Reps Hi (((m.firsts.take i).flatMap fun f => m.lasts.map fun l => MS.at2 T1 f l).map encV) us, ⟨m.firsts.length, by simp, Nat.zero_le _, Ex.new hD, [], upd_same, .nil⟩, ?_⟩
      rintro i n Hi ⟨rfl, hi, ei, us, hu, ru⟩
      by_cases hlt : i < m.firsts.length
      · refine .inr ⟨⟨fs, fs[i]'(by omega), SqT.of (ei _ _ ha), by simp [show i < fs.length by omega]⟩, fun Hj => Ex H2 Hj ∧ ∃ us, Hj D = some (.lst us) ∧ Reps Hj (((m.firsts.take (i + 1)).flatMap fun f => m.lasts.map fun l => MS.at2 T1 f l).map encV) us, fun H' ⟨e', h'⟩ => ⟨m.firsts.length - (i + 1), by omega, rfl, hlt, e', h'⟩, fun x Hj hy => ?_⟩
        obtain ⟨rfl, hy⟩ := hy
        have hx := hy fs (SqT.of (ei _ _ ha))
        obtain ⟨d, hd, rd⟩ := (rf.ex ei).at hx
        rw [List.getElem?_map] at hd
        obtain ⟨f, hf, rfl⟩ := Option.map_eq_some_iff.mp hd
        have hfm : f ∈ m.firsts := List.mem_of_getElem? hf
        have hxv : x = .int (f : Int) := rep_num rd
        subst hxv
        refine ⟨rfl, ?_⟩
        refine tyes_go ?_
        have hfs := W.fi f hfm
        have il : EvR (tLc (iTup K (tOp (rIxT K) (tVar 0) (tC (.int 5)))) (gName 3) tYes (tOp (rIxT K) (tOp (rIxT K) (tVar 1) (tVar 2)) (tVar 3)) [3]) [some v, some u, some (.int (f : Int)), none, none] Hj (fun x Hx => LRep (m.lasts.map fun l => encV (MS.at2 T1 f l)) x Hx ∧ ∃ p, x = .ref p ∧ Hj p = none) := by
          have z := el_tupN (K := K) (i := 3) (σ := [some v, some u, some (V.int (f : Int)), none, none]) (H := Hj) (tt := tOp (rIxT K) (tVar 0) (tC (.int 5))) (tc := tYes) (te := tOp (rIxT K) (tOp (rIxT K) (tVar 1) (tVar 2)) (tVar 3)) (l := m.lasts) (en := encN) (b := fun _ => true) (f := fun l => encV (MS.at2 T1 f l)) ?_ ?_ (fun _ _ _ _ _ _ => et_yes) ?_
          · rwa [List.filter_eq_self.mpr (fun _ _ => rfl)] at z
          · exact er_ixn (d := .tup (m.lasts.map encN)) (er_var rfl ((hv.ex e).ex (e2.trans ei))) ev_c rfl
          · have := W.ll; omega
          · intro l y Hk hl _ e3 ry
            have hy : y = .int (l : Int) := rep_num ry
            subst hy
            exact er_at hT hfs (W.la l hl) (er_var rfl (((hut.ex e).ex (e2.trans ei)).ex e3)) (ev_var rfl) (ev_var rfl)
        refine il Hj (Ex.refl Hj) _ fun y Hk ek ry => ?_
        obtain ⟨⟨b, ls, rfl, hb, rl⟩, b', hb', hbn⟩ := ry
        cases hb'
        have hll := rl.length
        rw [List.length_map] at hll
        have hfi : i < m.firsts.length := hlt
        have etk : m.firsts.take (i + 1) = m.firsts.take i ++ [f] := by rw [List.take_add_one, hf]; rfl
        have hlen : us.length ≤ 9 := by
          have := ru.length
          have h1 : ((m.firsts.take i).flatMap fun f => m.lasts.map fun l => MS.at2 T1 f l).length ≤ (m.firsts.take i).length * 3 := by
            induction m.firsts.take i with
            | nil => simp
            | cons a l ih => simp only [List.flatMap_cons, List.length_append, List.length_map, List.length_cons]; have := W.ll; omega
          have := W.fl
          have := List.length_take_le i m.firsts
          rw [List.length_map] at *
          omega
        refine ⟨b, rfl, ⟨ls, SqL.of hb⟩, ?_⟩
        refine ⟨fun j n Hi => n = m.lasts.length - j ∧ j ≤ m.lasts.length ∧ Ex H2 Hi ∧ Hi b = some (.lst ls) ∧ ∃ us2, Hi D = some (.lst us2) ∧ us2.length ≤ 9 + j ∧ Reps Hi ((((m.firsts.take i).flatMap fun f => m.lasts.map fun l => MS.at2 T1 f l) ++ ((m.lasts.take j).map fun l => MS.at2 T1 f l)).map encV) us2, ⟨m.lasts.length, by simp, Nat.zero_le _, ei.trans ek, hb, us, ek _ _ hu, by omega, by simpa using ru.ex ek⟩, ?_⟩
        rintro j n2 Hl ⟨rfl, hj, el, hbl, us2, hu2, hul2, ru2⟩
        by_cases hjl : j < m.lasts.length
        · refine .inr ⟨⟨ls, ls[j]'(by omega), SqL.of hbl, by simp [show j < ls.length by omega]⟩, fun Hj => Ex H2 Hj ∧ Hj b = some (.lst ls) ∧ ∃ us2, Hj D = some (.lst us2) ∧ us2.length ≤ 9 + (j + 1) ∧ Reps Hj ((((m.firsts.take i).flatMap fun f => m.lasts.map fun l => MS.at2 T1 f l) ++ ((m.lasts.take (j + 1)).map fun l => MS.at2 T1 f l)).map encV) us2, fun H' ⟨e', h'⟩ => ⟨m.lasts.length - (j + 1), by omega, rfl, hjl, e', h'⟩, fun x Hm hy => ?_⟩
          obtain ⟨rfl, hy⟩ := hy
          have hx := hy ls (SqL.of hbl)
          have rl2 : Reps Hk (m.lasts.map fun l => encV (MS.at2 T1 f l)) ls := rl
          obtain ⟨d, hd, rd⟩ := rl2.at hx
          rw [List.getElem?_map] at hd
          obtain ⟨l, hl, rfl⟩ := Option.map_eq_some_iff.mp hd
          have := rep_encV rd
          subst this
          refine ⟨rfl, tyes_go ?_⟩
          refine ⟨_, rfl, us2, hu2, sz_lt (by have := W.ll; omega), el.mut hD, ?_, us2 ++ [vv (MS.at2 T1 f l)], upd_same, by simp; omega, ?_⟩
          · rw [upd_ne]
            · exact hbl
            · intro z
              subst z
              rw [hu] at hbn
              cases hbn
          · have etl : m.lasts.take (j + 1) = m.lasts.take j ++ [l] := by rw [List.take_add_one, hl]; rfl
            have tx : TEx Hm (upd Hm D (.lst (us2 ++ [vv (MS.at2 T1 f l)]))) := TEx.lst hu2
            rw [etl, List.map_append (f := fun l => MS.at2 T1 f l), ← List.append_assoc, List.map_append]
            exact (ru2.tx tx).app (Reps.one (rep_vv _))
        · have hj' : j = m.lasts.length := by omega
          subst hj'
          rw [List.take_length] at ru2
          refine .inl ⟨⟨ls, SqL.of hbl, by omega⟩, el, us2, hu2, ?_⟩
          rw [etk, List.flatMap_append]
          simpa using ru2
      · have hi' : i = m.firsts.length := by omega
        subst hi'
        rw [List.take_length] at ru
        exact .inl ⟨⟨fs, SqT.of (ei _ _ ha), by omega⟩, q _ Hi (e2.trans ei) ⟨D, us, rfl, hu, ru⟩⟩
    · have h1 : (m.firsts.flatMap fun f => m.lasts.map fun l => MS.at2 T1 f l).length ≤ m.firsts.length * 3 := by
        induction m.firsts with
        | nil => simp
        | cons a l ih => simp only [List.flatMap_cons, List.length_append, List.length_map, List.length_cons]; have := W.ll; omega
      have := W.fl
      omega
end
end MW
end
section
set_option Elab.async false
set_option linter.all false
set_option maxRecDepth 100000
set_option maxHeartbeats 4000000
/-! Recipes and catalogues: table_of, tables_of, judge_catalogue, is_missing. -/
namespace MW
open PySem PySem.Spec PyProof.Rows L2 Evl
open MS (Val Tab Mach Line)

def encL : Line → D
  | .letter a => .tup [.text "letter", encN a]
  | .both i j => .tup [.text "both", encN i, encN j]
  | .often i => .tup [.text "often", encN i]
def encO : Option Tab → D
  | none => .none
  | some T => encT T
def encE (e : Line × Tab) : D := .tup [encL e.1, encT e.2]
theorem encO_inj {a b : Option Tab} (h : encO a = encO b) : a = b := by
  cases a <;> cases b
  · rfl
  · simp [encO, encT] at h
  · simp [encO, encT] at h
  · rw [encT_inj h]
theorem fit_O (o : Option Tab) : Fit (encO o) := by
  cases o with
  | none => exact ⟨rfl, by decide⟩
  | some T => exact fit_T T
def kindS : Line → PySem.Str
  | .letter _ => "letter"
  | .both _ _ => "both"
  | .often _ => "often"
def isL : Line → Bool
  | .letter _ => true
  | _ => false
def isB : Line → Bool
  | .both _ _ => true
  | _ => false
theorem kind_L (l : Line) : decide (V.str (kindS l) = .str "letter") = isL l := by
  cases l with
  | letter a => exact (by decide +kernel : decide (V.str ("letter" : PySem.Str) = .str "letter") = true)
  | both i j => exact (by decide +kernel : decide (V.str ("both" : PySem.Str) = .str "letter") = false)
  | often i => exact (by decide +kernel : decide (V.str ("often" : PySem.Str) = .str "letter") = false)
theorem kind_B (l : Line) : decide (V.str (kindS l) = .str "both") = isB l := by
  cases l with
  | letter a => exact (by decide +kernel : decide (V.str ("letter" : PySem.Str) = .str "both") = false)
  | both i j => exact (by decide +kernel : decide (V.str ("both" : PySem.Str) = .str "both") = true)
  | often i => exact (by decide +kernel : decide (V.str ("often" : PySem.Str) = .str "both") = false)
theorem encL_kind (l : Line) : ∃ ks, encL l = .tup ks ∧ ks[0]? = some (.text (kindS l)) := by cases l <;> exact ⟨_, rfl, rfl⟩
theorem er_str {σ : L2.St} {H : Hp} {te : TE} {s : PySem.Str} (h : EvR te σ H (RepR (.text s))) : Ev te σ H (.str s) := fun H1 e Q q => h H1 e Q fun v H2 e2 r => by
  have := rep_text r
  subst this
  exact q H2 e2
section
variable {K : PySem.W.Frag} {σ : L2.St} {H H0 : Hp} {te : TE} {De : Ends} {tu tz : TS}
/-- evaluates at once, to data of H0 -/
def EvP (te : TE) (σ : L2.St) (H H0 : Hp) (R : RL) : Prop := ∀ Q : VK, (∀ v, R v H0 → Q v H) → te σ H Q
theorem ep_var {i : Nat} {v : V} {R : RL} (h : σ[i]? = some (some v)) (r : R v H0) : EvP (tVar i) σ H H0 R := fun Q q => ⟨v, h, q v r⟩
theorem ep_ix {te : TE} {ks : List D} {n : Nat} {d : D} (e : Ex H0 H) (ha : EvP te σ H H0 (RepR (.tup ks))) (h : ks[n]? = some d) : EvP (tOp (rIxT K) te (tC (.int (n : Int)))) σ H H0 (RepR d) := fun Q q => ha _ fun v r => by
  obtain ⟨a, vs, rfl, h2, r2⟩ := rep_tup r
  obtain ⟨u, hu, ru⟩ := r2.get h
  exact ⟨a, vs, n, u, rfl, rfl, SqT.of (e _ _ h2), atI_nat hu, q u ru⟩
/-- for x in t, t a tuple of H0 -/
theorem fr_tup {α : Type} {l : List α} {en : α → D} {j : Nat} {tt : TE} (e : Ex H0 H) (ht : EvP tt σ H H0 (RepR (.tup (l.map en)))) (Pv : Nat → L2.St → Hp → Prop) (h0 : Pv 0 σ H) (hk : ∀ i σ' H', Pv i σ' H' → Ex H0 H')
    (hs : ∀ i a v σ' H', l[i]? = some a → Rep H' (en a) v → Pv i σ' H' → tu { De with nx := Pv (i + 1), ct := Pv (i + 1), bk := De.nx } (σ'.set j (some v)) H') (hd : ∀ σ' H', Pv l.length σ' H' → De.nx σ' H') : tFor (iTup K tt) (gName j) tu De σ H := by
  refine ht _ fun v r => ?_
  obtain ⟨a, vs, rfl, ha, rv⟩ := rep_tup r
  have hl := rv.length
  rw [List.length_map] at hl
  refine ⟨a, rfl, ⟨vs, SqT.of (e _ _ ha)⟩, for_tup Pv h0 (fun i σ' H' _ p => SqT.of (hk i σ' H' p _ _ ha)) (fun i x σ' H' hx p => ?_) (fun σ' H' p => hd σ' H' (by rw [← hl]; exact p))⟩
  obtain ⟨d, hd, rd⟩ := rv.at hx
  rw [List.getElem?_map] at hd
  obtain ⟨b, hb, rfl⟩ := Option.map_eq_some_iff.mp hd
  exact hs i b x σ' H' hb (rd.ex (hk i σ' H' p)) p
theorem qf_tup {α : Type} {l : List α} {en : α → D} {j : Nat} {tt : TE} (e : Ex H0 H) (ht : EvP tt σ H H0 (RepR (.tup (l.map en)))) (Pv : Nat → L2.St → Hp → Prop) (h0 : Pv 0 σ H) (hk : ∀ i σ' H', Pv i σ' H' → Ex H0 H')
    (hs : ∀ i a v σ' H', l[i]? = some a → Rep H' (en a) v → Pv i σ' H' → tu { De with nx := Pv (i + 1), ct := Pv (i + 1), bk := tz De } (σ'.set j (some v)) H') (hd : ∀ σ' H', Pv l.length σ' H' → tz De σ' H') : tSeq (tFor (iTup K tt) (gName j) tu) tz De σ H :=
  fr_tup (De := { De with nx := tz De }) e ht Pv h0 hk hs hd
end

section
variable {K : PySem.W.Frag} {σ : L2.St} {H H0 : Hp} {te : TE} {De : Ends} {tu tz : TS} {g : TG}
theorem fr_enum {α : Type} {l : List α} {en : α → D} {tt : TE} (e : Ex H0 H) (ht : EvP tt σ H H0 (LRep (l.map en))) (Pv : Nat → L2.St → Hp → Prop) (h0 : Pv 0 σ H) (hk : ∀ i σ' H', Pv i σ' H' → Ex H0 H')
    (hs : ∀ i a v t σ' H', l[i]? = some a → Rep H' (en a) v → Pv i σ' H' → H' t = none → g (.ref t) σ' (upd H' t (.tup [.int (i : Int), v])) fun σ2 H2 => tu { De with nx := Pv (i + 1), ct := Pv (i + 1), bk := De.nx } σ2 H2) (hd : ∀ σ' H', Pv l.length σ' H' → De.nx σ' H') : tFor (iEnum K (tCons tt tNil)) g tu De σ H := by
  refine ht _ fun v r => ?_
  obtain ⟨a, vs, rfl, ha, rv⟩ := r
  have hl := rv.length
  rw [List.length_map] at hl
  refine ⟨a, vs, rfl, SqL.of (e _ _ ha), ?_⟩
  refine ⟨fun i m σ' H' => m = l.length - i ∧ i ≤ l.length ∧ Pv i σ' H', ⟨l.length, by simp, Nat.zero_le _, h0⟩, ?_⟩
  rintro i m σ' H' ⟨rfl, hi, pv⟩
  have hq : H' a = some (.lst vs) := hk i σ' H' pv _ _ ha
  by_cases hlt : i < l.length
  · refine .inr ⟨⟨vs, vs[i]'(by omega), SqL.of hq, by simp [show i < vs.length by omega]⟩, Pv (i + 1), fun σ2 H2 p2 => ⟨l.length - (i + 1), by omega, rfl, hlt, p2⟩, fun x Hj hy => ?_⟩
    obtain ⟨t, y, rfl, hn, rfl, hy⟩ := hy
    have hx := hy vs (SqL.of hq)
    obtain ⟨d, hd, rd⟩ := rv.at hx
    rw [List.getElem?_map] at hd
    obtain ⟨b, hb, rfl⟩ := Option.map_eq_some_iff.mp hd
    exact hs i b y t σ' H' hb (rd.ex (hk i σ' H' pv)) pv hn
  · have hi' : i = l.length := by omega
    subst hi'
    exact .inl ⟨⟨vs, SqL.of hq, by omega⟩, hd σ' H' pv⟩
theorem qf_enum {α : Type} {l : List α} {en : α → D} {tt : TE} (e : Ex H0 H) (ht : EvP tt σ H H0 (LRep (l.map en))) (Pv : Nat → L2.St → Hp → Prop) (h0 : Pv 0 σ H) (hk : ∀ i σ' H', Pv i σ' H' → Ex H0 H')
    (hs : ∀ i a v t σ' H', l[i]? = some a → Rep H' (en a) v → Pv i σ' H' → H' t = none → g (.ref t) σ' (upd H' t (.tup [.int (i : Int), v])) fun σ2 H2 => tu { De with nx := Pv (i + 1), ct := Pv (i + 1), bk := tz De } σ2 H2) (hd : ∀ σ' H', Pv l.length σ' H' → tz De σ' H') : tSeq (tFor (iEnum K (tCons tt tNil)) g tu) tz De σ H :=
  fr_enum (De := { De with nx := tz De }) e ht Pv h0 hk hs hd
/-- a, b = t -/
theorem g_pair {i j t : Nat} {x y : V} {H' : Hp} {Q : L2.St → Hp → Prop} (h : H' t = some (.tup [x, y])) (k : Q ((σ.set i (some x)).set j (some y)) H') : gTup K 2 (gCons (gName i) (gCons (gName j) gNil)) (.ref t) σ H' Q :=
  ⟨t, [x, y], rfl, SqT.of h, rfl, x, [y], rfl, y, [], rfl, rfl, k⟩
/-- keys of a dict -/
def KeysAre {α : Type} (kvs : List (D × V)) (en : α → D) (S : α → Prop) : Prop := (∀ kv, kv ∈ kvs → ∃ a, S a ∧ kv.1 = en a) ∧ ∀ a, S a → (valV kvs (en a)).isSome = true
theorem valV_in {kvs : List (D × V)} {d : D} (h : (valV kvs d).isSome = true) : ∃ v, (d, v) ∈ kvs := by
  obtain ⟨v, hv⟩ := Option.isSome_iff_exists.mp h
  unfold valV at hv
  obtain ⟨kv, h1, rfl⟩ := Option.map_eq_some_iff.mp hv
  have h2 := List.find?_some h1
  have h3 := List.mem_of_find?_eq_some h1
  have : kv.1 = d := by simpa using h2
  exact ⟨kv.2, by rw [← this]; exact h3⟩
theorem KeysAre.iff {α : Type} {kvs : List (D × V)} {en : α → D} {S : α → Prop} (inj : ∀ a b, en a = en b → a = b) (h : KeysAre kvs en S) (a : α) : (valV kvs (en a)).isSome = true ↔ S a := by
  refine ⟨fun hs => ?_, h.2 a⟩
  obtain ⟨v, hv⟩ := valV_in hs
  obtain ⟨b, hb, e⟩ := h.1 _ hv
  rw [inj _ _ e]
  exact hb
theorem KeysAre.put {α : Type} {kvs : List (D × V)} {en : α → D} {S : α → Prop} (h : KeysAre kvs en S) (a : α) (v : V) : KeysAre (putK kvs (en a) v) en (fun b => S b ∨ b = a) := by
  refine ⟨fun kv hkv => ?_, fun b hb => ?_⟩
  · unfold putK at hkv
    split at hkv
    · obtain ⟨kv0, h0, rfl⟩ := List.mem_map.mp hkv
      obtain ⟨b, hb, e⟩ := h.1 _ h0
      refine ⟨b, .inl hb, ?_⟩
      split <;> exact e
    · rcases List.mem_append.mp hkv with h1 | h1
      · obtain ⟨b, hb, e⟩ := h.1 _ h1
        exact ⟨b, .inl hb, e⟩
      · have : kv = (en a, v) := List.mem_singleton.mp h1
        subst this
        exact ⟨a, .inr rfl, rfl⟩
  · rw [valV_put]
    by_cases e : en b = en a
    · rw [if_pos e]; rfl
    · rw [if_neg e]
      rcases hb with hb | rfl
      · exact h.2 b hb
      · exact absurd rfl e
end
section
variable {P : Program} {w : World} {K : PySem.W.Frag} {mg : PySem.Str → Option Value} {base : Heap}
theorem isTab_let (m : Mach) (a : Nat) : MS.IsTab m.states (MS.letT m a) := MS.mkTab_is _ _
theorem isTab_seq {n : Nat} {T U : Tab} (h : MS.IsTab n T) : MS.IsTab n (MS.seqT T U) := by have := MS.mkTab_is T.length (fun i j => MS.best ((List.range T.length).map fun k => MS.Val.alo (MS.at2 T i k) (MS.at2 U k j))); unfold MS.seqT; rw [h.1] at *; exact this
theorem isTab_rep {n : Nat} {T : Tab} (h : MS.IsTab n T) : MS.IsTab n (MS.repT T) := by unfold MS.repT; rw [h.1]; exact MS.mkTab_is _ _
def TabsOk (n : Nat) (ts : List (Option Tab)) : Prop := ∀ T, some T ∈ ts → MS.IsTab n T
theorem tabOf_is {m : Mach} {l : Line} {ts : List (Option Tab)} (h : TabsOk m.states ts) {T : Tab} (e : MS.tabOf m l ts = some T) : MS.IsTab m.states T := by
  have g : ∀ {i T}, ts.getD i none = some T → MS.IsTab m.states T := fun {i T} e => by
    rw [List.getD_eq_getElem?_getD] at e
    cases h1 : ts[i]? with
    | none => rw [h1] at e; cases e
    | some o => rw [h1] at e; exact h T (e ▸ List.mem_of_getElem? h1)
  cases l with
  | letter a =>
    simp only [MS.tabOf] at e
    split at e
    · cases e; exact isTab_let m a
    · cases e
  | both i j =>
    simp only [MS.tabOf] at e
    split at e
    · rename_i h1 h2; cases e; exact isTab_seq (g h1)
    · cases e
  | often i =>
    simp only [MS.tabOf] at e
    split at e
    · rename_i h1
      split at e
      · cases e; exact isTab_rep (g h1)
      · cases e
    · cases e
abbrev sTO : Stmt := topS 18
def spTO : Sp := fun vs H Q _ => ∃ (m : Mach) (l : Line) (ts : List (Option Tab)) (v1 v2 v3 : V), vs = [v1, v2, v3] ∧ m.WF ∧ m.counters ≤ 1 ∧ l.ok ts.length ∧ TabsOk m.states ts ∧ Rep H (encM m) v1 ∧ Rep H (encL l) v2 ∧ LRep (ts.map encO) v3 H ∧ RetR (RepR (encO (MS.tabOf m l ts))) H Q
theorem scTO : FnScope ["machine", "line", "tables"] ["machine", "line", "tables"] (defScope sTO) := ⟨rfl, rfl, rfl, by decide +kernel, rfl, by decide +kernel, by decide +kernel⟩
theorem ev_isO {σ : L2.St} {H : Hp} {te : TE} {o : Option Tab} (h : EvR te σ H (RepR (encO o))) : Ev (tIsN te) σ H (.bl (decide (o = none))) := by
  have := ev_isN h
  have e : decide (encO o = .none) = decide (o = none) := by cases o <;> simp [encO, encT]
  rwa [e] at this
theorem ok_to {fL fS fT fR f : Addr} {dL dS dT dR fd : FuncData} (F : Fun K "table_of" "table_of" sTO f fd) (cL : Cal P w K mg base CX0 2 "letter_table" ["machine", "letter"] spLetter fL dL) (cS : Cal P w K mg base CX0 2 "in_sequence" ["first", "second"] spSeq fS dS)
    (cT : Cal P w K mg base CX0 3 "is_stable" ["table"] spStable fT dT) (cR : Cal P w K mg base CX0 2 "repeated" ["table"] spRep fR dR) : FnOk P w K mg base CX0 4 f fd ["machine", "line", "tables"] spTO := by
  refine F.ok scTO (fun vs H Q E h => ?_) (fun cdv A outer s H vs Q E hr h => ?_)
  · obtain ⟨m, l, ts, v1, v2, v3, rfl, _⟩ := h
    rfl
  · obtain ⟨m, l, ts, v1, v2, v3, rfl, W, hc, ok, ht, r1, r2, r3, k⟩ := h
    refine ⟨_, (pss_cons (ps_if (pt_cmpR op_eq (pe_ix ix_tup (pv 1) pe_int (fun _ _ => rfl)) pe_str (nomark _)) (pss_one (ps_ret (pe_ifExp (pt_cmpR op_lt (pe_ix ix_tup (pv 1) pe_int (fun _ _ => rfl)) (pe_ix ix_tup (pv 0) pe_int (fun _ _ => rfl)) (nomark _)) (pe_cal cL hr pass0 (pa_cons (pv 0) (pa_cons (pe_ix ix_tup (pv 1) pe_int (fun _ _ => rfl)) pa_nil))) pe_non))) pss_nil)
      (pss_cons (ps_if (PW.pt (pw_or (pt_cmp (pc_isN (pe_ix ix_list (pv 2) (pe_ix ix_tup (pv 1) pe_int (fun _ _ => rfl)) (fun _ _ => rfl)))) (pw_or1 (PW.pt (pw_and (pt_cmpR op_eq (pe_ix ix_tup (pv 1) pe_int (fun _ _ => rfl)) pe_str (nomark _)) (pw_and1 (pt_cmp (pc_isN (pe_ix ix_list (pv 2) (pe_ix ix_tup (pv 1) pe_int (fun _ _ => rfl)) (fun _ _ => rfl)))))))))) (pss_one (ps_ret pe_non)) pss_nil)
      (pss_cons (ps_if (pt_cmpR op_eq (pe_ix ix_tup (pv 1) pe_int (fun _ _ => rfl)) pe_str (nomark _)) (pss_one (ps_ret (pe_cal cS hr pass0 (pa_cons (pe_ix ix_list (pv 2) (pe_ix ix_tup (pv 1) pe_int (fun _ _ => rfl)) (fun _ _ => rfl)) (pa_cons (pe_ix ix_list (pv 2) (pe_ix ix_tup (pv 1) pe_int (fun _ _ => rfl)) (fun _ _ => rfl)) pa_nil))))) pss_nil)
      (pss_cons (ps_if (pt_not (pt_val (pe_cal cT hr pass0 (pa_cons (pe_ix ix_list (pv 2) (pe_ix ix_tup (pv 1) pe_int (fun _ _ => rfl)) (fun _ _ => rfl)) pa_nil)))) (pss_one (ps_ret pe_non)) pss_nil)
      (pss_one (ps_ret (pe_cal cR hr pass0 (pa_cons (pe_ix ix_list (pv 2) (pe_ix ix_tup (pv 1) pe_int (fun _ _ => rfl)) (fun _ _ => rfl)) pa_nil)))))))), ?_⟩
    have s3 := W.s3
    have hk : ∀ {H'}, Ex H H' → Ev (tOp (rIxT K) (tVar 1) (tC (.int 0))) [some v1, some v2, some v3] H' (.str (kindS l)) := fun {H'} e => by
      obtain ⟨ks, e1, e2⟩ := encL_kind l
      exact er_str (er_ixn (ks := ks) (er_var rfl (by rw [← e1]; exact r2.ex e)) ev_c e2)
    have hM : ∀ {H'}, Ex H H' → EvR (tVar 0) [some v1, some v2, some v3] H' (RepR (encM m)) := fun e => er_var rfl (r1.ex e)
    have hT : ∀ {H'}, Ex H H' → EvR (tVar 2) [some v1, some v2, some v3] H' (LRep (ts.map encO)) := fun e => er_varR rfl (monoL _) (monoL _ _ _ _ e r3)
    have hAt : ∀ {H'} {i : Nat} {te : TE}, Ex H H' → i < ts.length → Ev te [some v1, some v2, some v3] H' (.int (i : Int)) → EvR (tOp (rIxL K) (tVar 2) te) [some v1, some v2, some v3] H' (RepR (encO (ts.getD i none))) := fun {H' i te} e hi he => by
      refine er_ixL (hT e) he ?_
      rw [List.getElem?_map, List.getD_eq_getElem?_getD, List.getElem?_eq_getElem hi]
      rfl
    have hg : ∀ {i T}, ts.getD i none = some T → MS.IsTab m.states T := fun {i T} e => by
      rw [List.getD_eq_getElem?_getD] at e
      cases h1 : ts[i]? with
      | none => rw [h1] at e; cases e
      | some o => rw [h1] at e; exact ht T (e ▸ List.mem_of_getElem? h1)
    have hL : ∀ {H'}, Ex H H' → EvT (tTest (tOp rEq (tOp (rIxT K) (tVar 1) (tC (.int 0))) (tC (.str "letter")))) [some v1, some v2, some v3] H' (isL l) := fun e => et_is (et_test (ev_op (hk e) ev_c (rv_eq rfl))) (kind_L l)
    have hB : ∀ {H'}, Ex H H' → EvT (tTest (tOp rEq (tOp (rIxT K) (tVar 1) (tC (.int 0))) (tC (.str "both")))) [some v1, some v2, some v3] H' (isB l) := fun e => et_is (et_test (ev_op (hk e) ev_c (rv_eq rfl))) (kind_B l)
    refine q_when (hL (Ex.refl H)) (fun hb H1 e1 => ?_) fun hb H1 e1 => ?_
    · cases l with
      | both i j => cases hb
      | often i => cases hb
      | letter a =>
        have ha : ∀ {H'}, Ex H H' → Ev (tOp (rIxT K) (tVar 1) (tC (.int 1))) [some v1, some v2, some v3] H' (.int (a : Int)) := fun e => er_num (er_ixn (ks := [.text "letter", encN a]) (er_var rfl (r2.ex e)) ev_c rfl)
        refine sr_ret (er_if (b := decide (a < m.letters)) (et_is (et_test (ev_op (ha e1) (er_num (er_ixn (hM e1) ev_c rfl)) rv_I0)) (by simp)) (fun hlt => ?_) fun hge => ?_) fun u H2 e2 r => k u H2 (e1.trans e2) r
        · have : MS.tabOf m (.letter a) ts = some (MS.letT m a) := by simp only [MS.tabOf]; rw [if_pos (by simpa using hlt)]
          rw [this]
          exact er_letter W hc (hM e1) (ha e1)
        · have : MS.tabOf m (.letter a) ts = none := by simp only [MS.tabOf]; rw [if_neg (by simpa using hge)]
          rw [this]
          exact er_none
    · cases l with
      | letter a => cases hb
      | both i j =>
        have hi : ∀ {H'}, Ex H H' → Ev (tOp (rIxT K) (tVar 1) (tC (.int 1))) [some v1, some v2, some v3] H' (.int (i : Int)) := fun e => er_num (er_ixn (ks := [.text "both", encN i, encN j]) (er_var rfl (r2.ex e)) ev_c rfl)
        have hj : ∀ {H'}, Ex H H' → Ev (tOp (rIxT K) (tVar 1) (tC (.int 2))) [some v1, some v2, some v3] H' (.int (j : Int)) := fun e => er_num (er_ixn (ks := [.text "both", encN i, encN j]) (er_var rfl (r2.ex e)) ev_c rfl)
        refine q_when (b := decide (ts.getD i none = none) || (true && decide (ts.getD j none = none))) (et_or (et_B (ev_isO (hAt e1 ok.1 (hi e1)))) fun _ => et_and (hB e1) fun _ => et_B (ev_isO (hAt e1 ok.2 (hj e1)))) (fun hn H2 e2 => ?_) fun hn H2 e2 => ?_
        · have : MS.tabOf m (.both i j) ts = none := by
            simp only [MS.tabOf]
            cases h1 : ts.getD i none <;> cases h2 : ts.getD j none <;> simp_all
          rw [this] at k
          exact s_ret ev_c fun H3 e3 => k _ H3 ((e1.trans e2).trans e3) .none
        · obtain ⟨T, hT1⟩ : ∃ T, ts.getD i none = some T := by cases h1 : ts.getD i none <;> simp_all
          obtain ⟨U, hU1⟩ : ∃ U, ts.getD j none = some U := by cases h1 : ts.getD j none <;> simp_all
          have : MS.tabOf m (.both i j) ts = some (MS.seqT T U) := by simp only [MS.tabOf, hT1, hU1]
          rw [this] at k
          have a1 := hAt (e1.trans e2) ok.1 (hi (e1.trans e2))
          have a2 := hAt (e1.trans e2) ok.2 (hj (e1.trans e2))
          rw [hT1] at a1
          rw [hU1] at a2
          refine q_when (hB (e1.trans e2)) (fun _ H3 e3 => ?_) fun z => by cases z
          exact sr_ret (er_seq (by omega) (hg hT1) (hg hU1) (a1.mono e3) (a2.mono e3)) fun u H4 e4 r => k u H4 (((e1.trans e2).trans e3).trans e4) r
      | often i =>
        have hi : ∀ {H'}, Ex H H' → Ev (tOp (rIxT K) (tVar 1) (tC (.int 1))) [some v1, some v2, some v3] H' (.int (i : Int)) := fun e => er_num (er_ixn (ks := [.text "often", encN i]) (er_var rfl (r2.ex e)) ev_c rfl)
        refine q_when (b := decide (ts.getD i none = none) || false) (et_or (et_B (ev_isO (hAt e1 ok (hi e1)))) fun _ => et_is (et_and (b := false) (hB e1) fun z => by cases z) rfl) (fun hn H2 e2 => ?_) fun hn H2 e2 => ?_
        · have : MS.tabOf m (.often i) ts = none := by
            simp only [MS.tabOf]
            cases h1 : ts.getD i none <;> simp_all
          rw [this] at k
          exact s_ret ev_c fun H3 e3 => k _ H3 ((e1.trans e2).trans e3) .none
        · obtain ⟨T, hT1⟩ : ∃ T, ts.getD i none = some T := by cases h1 : ts.getD i none <;> simp_all
          have e12 := e1.trans e2
          have a1 : ∀ {H'}, Ex H2 H' → EvR (tOp (rIxL K) (tVar 2) (tOp (rIxT K) (tVar 1) (tC (.int 1)))) [some v1, some v2, some v3] H' (RepR (encT T)) := fun {H'} e => by
            have := hAt (e12.trans e) ok (hi (e12.trans e))
            rw [hT1] at this
            exact this
          refine q_when (hB e12) (fun z => by cases z) fun _ H3 e3 => ?_
          refine q_when (et_not (et_B (ev_stable (by omega) (hg hT1) (a1 e3)))) (fun hs H4 e4 => ?_) fun hs H4 e4 => ?_
          · have : MS.tabOf m (.often i) ts = none := by simp only [MS.tabOf, hT1]; rw [if_neg (by simpa using hs)]
            rw [this] at k
            exact s_ret ev_c fun H5 e5 => k _ H5 (((e12.trans e3).trans e4).trans e5) .none
          · have : MS.tabOf m (.often i) ts = some (MS.repT T) := by simp only [MS.tabOf, hT1]; rw [if_pos (by simpa using hs)]
            rw [this] at k
            exact sr_ret (er_rep (by omega) (hg hT1) (a1 (e3.trans e4))) fun u H5 e5 r => k u H5 (((e12.trans e3).trans e4).trans e5) r
theorem er_to {σ : L2.St} {H : Hp} {ta tb tc : TE} {m : Mach} {l : Line} {ts : List (Option Tab)} (W : m.WF) (hc : m.counters ≤ 1) (ok : l.ok ts.length) (ht : TabsOk m.states ts) (ha : EvR ta σ H (RepR (encM m))) (hb : EvR tb σ H (RepR (encL l))) (hd : EvR tc σ H (LRep (ts.map encO))) :
    EvR (tCall spTO [] E0 (tCons ta (tCons tb (tCons tc tNil)))) σ H (RepR (encO (MS.tabOf m l ts))) :=
  er_call (ea1 ha (monoRep _) (ea1 hb (monoRep _) (ea1 hd (monoL _) ea0))) fun vs H2 e rs Q q => by
    obtain ⟨v1, v2, v3, rfl, h1, h2, h3⟩ := args3 rs
    exact ⟨m, l, ts, v1, v2, v3, rfl, W, hc, ok, ht, h1, h2, h3, q⟩
/-! ### tables_of -/
def tabsOf (m : Mach) (ls : List Line) : List (Option Tab) := ls.foldl (fun ts l => ts ++ [MS.tabOf m l ts]) []
theorem tabsOf_take {m : Mach} {ls : List Line} {i : Nat} {l : Line} (h : ls[i]? = some l) : tabsOf m (ls.take (i + 1)) = tabsOf m (ls.take i) ++ [MS.tabOf m l (tabsOf m (ls.take i))] := by
  rw [List.take_add_one, h]
  unfold tabsOf
  rw [List.foldl_append]
  rfl
theorem tabsOf_len (m : Mach) : ∀ (ls : List Line), (tabsOf m ls).length = ls.length := by
  have : ∀ (ls : List Line) (ts : List (Option Tab)), (ls.foldl (fun ts l => ts ++ [MS.tabOf m l ts]) ts).length = ts.length + ls.length := fun ls => by
    induction ls with
    | nil => intro ts; rfl
    | cons l ls ih => intro ts; rw [List.foldl_cons, ih]; simp; omega
  intro ls
  have := this ls []
  simpa [tabsOf] using this
theorem tabsOf_ok (m : Mach) (ls : List Line) : TabsOk m.states (tabsOf m ls) := by
  have : ∀ (ls : List Line) (ts : List (Option Tab)), TabsOk m.states ts → TabsOk m.states (ls.foldl (fun ts l => ts ++ [MS.tabOf m l ts]) ts) := fun ls => by
    induction ls with
    | nil => intro ts h; exact h
    | cons l ls ih =>
      intro ts h
      rw [List.foldl_cons]
      refine ih _ fun T hT => ?_
      rcases List.mem_append.mp hT with hT | hT
      · exact h T hT
      · exact tabOf_is h (List.mem_singleton.mp hT).symm
  exact this ls [] (fun T hT => by cases hT)
abbrev sTS : Stmt := topS 19
def spTS : Sp := fun vs H Q _ => ∃ (m : Mach) (ls : List Line) (v1 v2 : V), vs = [v1, v2] ∧ m.WF ∧ m.counters ≤ 1 ∧ MS.LinesOk ls ∧ ls.length ≤ 100 ∧ Rep H (encM m) v1 ∧ Rep H (.tup (ls.map encL)) v2 ∧ RetR (LRep ((tabsOf m ls).map encO)) H Q
theorem scTS : FnScope ["machine", "recipe", "tables", "line"] ["machine", "recipe"] (defScope sTS) := ⟨rfl, rfl, rfl, by decide +kernel, rfl, by decide +kernel, by decide +kernel⟩
theorem ok_ts {fO f : Addr} {dO fd : FuncData} (F : Fun K "tables_of" "tables_of" sTS f fd) (cO : Cal P w K mg base CX0 4 "table_of" ["machine", "line", "tables"] spTO fO dO) : FnOk P w K mg base CX0 5 f fd ["machine", "recipe"] spTS := by
  refine F.ok scTS (fun vs H Q E h => ?_) (fun cdv A outer s H vs Q E hr h => ?_)
  · obtain ⟨m, ls, v1, v2, rfl, _⟩ := h
    rfl
  · obtain ⟨m, ls, v1, v2, rfl, W, hc, ok, hl, r1, r2, k⟩ := h
    refine ⟨_, (pss_cons (ps_set (i := 2) scTS.nd rfl (by first | exact Or.inl rfl | exact Or.inr rfl) (pe_lst pa_nil))
      (pss_cons (ps_for PassesOwn.never rfl (pi_tup (pv 1)) (pg_name (i := 3) scTS.nd rfl (by first | exact Or.inl rfl | exact Or.inr rfl)) (pss_one (ps_expr (pe_bm PySem.F.plainAttrs_list PySem.F.slot_list_append PySem.F.type_list_append mt_append (pv 2) (pa_cons (pe_cal cO hr pass0 (pa_cons (pv 0) (pa_cons (pv 3) (pa_cons (pv 2) pa_nil)))) pa_nil)))))
      (pss_one (ps_ret (pv 2))))), ?_⟩
    refine ⟨Nat.zero_le _, fun p hp => ?_⟩
    have x0 : Ex H (upd H p (.lst [])) := Ex.new hp
    refine qf_tup (H0 := H) (l := ls) (en := encL) x0 (ep_var rfl r2) (fun i σ' H' => (∃ x, σ' = [some v1, some v2, some (.ref p), x]) ∧ Ex H H' ∧ ∃ us, H' p = some (.lst us) ∧ Reps H' ((tabsOf m (ls.take i)).map encO) us) ⟨⟨_, rfl⟩, x0, [], upd_same, .nil⟩ (fun _ _ _ h => h.2.1) ?_ ?_
    · rintro i l v σ1 H1 hi rl ⟨⟨x, rfl⟩, e1, us, hu, ru⟩
      have hlen := ru.length
      rw [List.length_map, tabsOf_len] at hlen
      have hil : i < ls.length := (List.getElem?_eq_some_iff.mp hi).1
      have htl : (ls.take i).length = i := by rw [List.length_take]; omega
      show tDrop _ _ ([some v1, some v2, some (.ref p), some v] : L2.St) H1
      refine sr_app (l := p) (xs := us) rfl hu (by omega) (er_to (l := l) (ts := tabsOf m (ls.take i)) W hc (by rw [tabsOf_len, htl]; exact ok i l hi) (tabsOf_ok m _) (er_var rfl (r1.ex e1)) (er_var rfl rl) (er_varR rfl (monoL _) ⟨p, us, rfl, hu, ru⟩)) fun u H2 e2 r2 h2 => ?_
      refine ⟨⟨_, rfl⟩, (e1.trans e2).mut hp, us ++ [u], upd_same, ?_⟩
      have tx : TEx H2 (upd H2 p (.lst (us ++ [u]))) := TEx.lst h2
      rw [tabsOf_take hi, List.map_append]
      exact ((ru.ex e2).tx tx).app (Reps.one (r2.tx tx))
    · rintro σ1 H1 ⟨⟨x, rfl⟩, e1, us, hu, ru⟩
      rw [List.take_length] at ru
      exact sr_ret (er_varR (R := LRep ((tabsOf m ls).map encO)) (i := 2) (v := .ref p) rfl (monoL _) ⟨p, us, rfl, hu, ru⟩) fun u H2 e2 r => k u H2 (e1.trans e2) r
theorem er_ts {σ : L2.St} {H : Hp} {ta tb : TE} {m : Mach} {ls : List Line} (W : m.WF) (hc : m.counters ≤ 1) (ok : MS.LinesOk ls) (hl : ls.length ≤ 100) (ha : EvR ta σ H (RepR (encM m))) (hb : EvR tb σ H (RepR (.tup (ls.map encL)))) :
    EvR (tCall spTS [] E0 (tCons ta (tCons tb tNil))) σ H (LRep ((tabsOf m ls).map encO)) :=
  er_call (ea1 ha (monoRep _) (ea1 hb (monoRep _) ea0)) fun vs H2 e rs Q q => by
    obtain ⟨v1, v2, rfl, h1, h2⟩ := args2 rs
    exact ⟨m, ls, v1, v2, rfl, W, hc, ok, hl, h1, h2, q⟩
/-! ### {k: True for k in l} -/
theorem er_nc {α : Type} {σ : L2.St} {H : Hp} {tt : TE} {l : List α} {en : α → D} {i : Nat} (ht : EvR tt σ H (LRep (l.map en))) (hn : l.length ≤ 100000) (hen : ∀ a, ∃ ks, en a = .tup ks ∧ (NestedKey.tup ks).depth ≤ 8) (hi : i < σ.length) :
    EvR (tNc P w (iList K tt) (gName i) tYes (tVar i) (tC (.bl true)) [i]) σ H (fun v H' => ∃ p kvs, v = .ref p ∧ NDS P w H' p kvs ∧ H p = none ∧ KeysAre kvs en (fun a => a ∈ l) ∧ kvs.length ≤ l.length) := fun H1 e Q q => by
  refine ht H1 e _ fun v H2 e2 r => ?_
  obtain ⟨a, vs, rfl, ha, rv⟩ := r
  have hl := rv.length
  rw [List.length_map] at hl
  refine ⟨a, rfl, ⟨vs, SqL.of ha⟩, fun D hD => ?_⟩
  refine ⟨fun j n Hj => n = l.length - j ∧ j ≤ l.length ∧ Ex H2 Hj ∧ ∃ kvs, NDS P w Hj D kvs ∧ KeysAre kvs en (fun a => a ∈ l.take j) ∧ kvs.length ≤ j, ⟨l.length, by simp, Nat.zero_le _, Ex.new hD, [], ⟨[], upd_same, rfl, fun t ht => by cases ht⟩, ⟨fun kv hkv => (by cases hkv), fun a ha => (by cases ha)⟩, Nat.le_refl _⟩, ?_⟩
  rintro j n Hj ⟨rfl, hj, ej, kvs, nd, ka, kl⟩
  have hq : Hj a = some (.lst vs) := ej _ _ ha
  by_cases hlt : j < l.length
  · refine .inr ⟨⟨vs, vs[j]'(by omega), SqL.of hq, by simp [show j < vs.length by omega]⟩, fun Hk => Ex H2 Hk ∧ ∃ kvs, NDS P w Hk D kvs ∧ KeysAre kvs en (fun a => a ∈ l.take (j + 1)) ∧ kvs.length ≤ j + 1, fun H' h' => ⟨l.length - (j + 1), by omega, rfl, hlt, h'⟩, fun x Hk hy => ?_⟩
    obtain ⟨rfl, hy⟩ := hy
    have hx := hy vs (SqL.of hq)
    obtain ⟨d, hd, rd⟩ := (rv.ex ej).at hx
    rw [List.getElem?_map] at hd
    obtain ⟨b, hb, rfl⟩ := Option.map_eq_some_iff.mp hd
    refine ⟨wipe_back σ i _, tyes_go ?_⟩
    obtain ⟨ks, hks, hdep⟩ := hen b
    refine ⟨x, sn_self hi, kvs, ks, nd, by rw [← hks]; exact rd, hdep, Nat.lt_of_le_of_lt kl (sz_lt (by omega)), fun o tx nd' => ?_⟩
    refine ⟨ej.mut hD, _, nd', ?_, Nat.le_trans (length_putK _ _ _) (by omega)⟩
    rw [← hks]
    have := ka.put b (.bl true)
    have etk : l.take (j + 1) = l.take j ++ [b] := by rw [List.take_add_one, hb]; rfl
    rw [etk]
    refine ⟨fun kv hkv => ?_, fun c hc => ?_⟩
    · obtain ⟨c, hc, e⟩ := this.1 kv hkv
      refine ⟨c, ?_, e⟩
      rcases hc with hc | rfl
      · exact List.mem_append_left _ hc
      · exact List.mem_append_right _ (List.mem_singleton.mpr rfl)
    · refine this.2 c ?_
      rcases List.mem_append.mp hc with h | h
      · exact .inl h
      · exact .inr (List.mem_singleton.mp h)
  · have hj' : j = l.length := by omega
    subst hj'
    rw [List.take_length] at ka
    exact .inl ⟨⟨vs, SqL.of hq, by omega⟩, q _ Hj (e2.trans ej) ⟨D, kvs, rfl, nd, fresh_back (e.trans e2) hD, ka, kl⟩⟩
theorem ev_nnotin {σ : L2.St} {H : Hp} {ta tb : TE} {ks : List D} {p : Addr} {kvs : List (D × V)} (ha : EvR ta σ H (RepR (.tup ks))) (hd : (NestedKey.tup ks).depth ≤ 8) (hb : Ev tb σ H (.ref p)) (g : NDR P w H p kvs) : Ev (tOp (rNNotIn P w) ta tb) σ H (.bl (!(valV kvs (.tup ks)).isSome)) := fun H1 e Q q =>
  ha H1 e _ fun v H2 e2 r => hb H2 (e.trans e2) _ fun H3 e3 => ⟨ks, p, kvs, r.ex e3, hd, rfl, g.ex ((e.trans e2).trans e3), q H3 (e2.trans e3)⟩
theorem ev_nin {σ : L2.St} {H : Hp} {ta tb : TE} {ks : List D} {p : Addr} {kvs : List (D × V)} (ha : EvR ta σ H (RepR (.tup ks))) (hd : (NestedKey.tup ks).depth ≤ 8) (hb : Ev tb σ H (.ref p)) (g : NDR P w H p kvs) : Ev (tOp (rNIn P w) ta tb) σ H (.bl (valV kvs (.tup ks)).isSome) := fun H1 e Q q =>
  ha H1 e _ fun v H2 e2 r => hb H2 (e.trans e2) _ fun H3 e3 => ⟨ks, p, kvs, r.ex e3, hd, rfl, g.ex ((e.trans e2).trans e3), q H3 (e2.trans e3)⟩
theorem ev_notT {σ : L2.St} {H : Hp} {ta tb : TE} {T : Tab} {p : Addr} {kvs : List (D × V)} {ts : List Tab} (ha : EvR ta σ H (RepR (encT T))) (hb : Ev tb σ H (.ref p)) (g : NDR P w H p kvs) (ka : KeysAre kvs encT (fun a => a ∈ ts)) : Ev (tOp (rNNotIn P w) ta tb) σ H (.bl (!decide (T ∈ ts))) := by
  have hd : (NestedKey.tup (T.map fun r : List Val => NestedKey.tup (r.map encV))).depth ≤ 8 := (fit_T T).2
  have h1 := ev_nnotin (ta := ta) ha hd hb g
  have h2 : (valV kvs (encT T)).isSome = decide (T ∈ ts) := by
    have := ka.iff (fun _ _ => encT_inj) T
    by_cases h : T ∈ ts
    · rw [decide_eq_true h]; exact this.mpr h
    · rw [decide_eq_false h]
      cases h3 : (valV kvs (encT T)).isSome
      · rfl
      · exact absurd (this.mp h3) h
  have h3 : (valV kvs (NestedKey.tup (T.map fun r => .tup (r.map encV)))).isSome = decide (T ∈ ts) := h2
  rw [h3] at h1
  exact h1
/-! ### is_missing -/
abbrev sM : Stmt := topS 22
/-- True only where the tables are not closed -/
def spM : Sp := fun vs H Q _ => ∃ (m : Mach) (ts : List Tab) (v1 v2 : V), vs = [v1, v2] ∧ m.WF ∧ m.counters ≤ 1 ∧ ts.length ≤ 100 ∧ (∀ T ∈ ts, MS.IsTab m.states T) ∧ Rep H (encM m) v1 ∧ LRep (ts.map encT) v2 H ∧ RetR (fun v _ => ∃ b, v = .bl b ∧ (b = true → ¬ MS.Closed m ts)) H Q
theorem scM : FnScope ["machine", "tables", "known", "letter", "first", "second", "table"] ["machine", "tables"] (defScope sM) := ⟨rfl, rfl, rfl, by decide +kernel, rfl, by decide +kernel, by decide +kernel⟩
theorem ok_m {fL fS fT fR f : Addr} {dL dS dT dR fd : FuncData} (F : Fun K "is_missing" "is_missing" sM f fd) (T : Txt K mg) (cL : Cal P w K mg base CX0 2 "letter_table" ["machine", "letter"] spLetter fL dL) (cS : Cal P w K mg base CX0 2 "in_sequence" ["first", "second"] spSeq fS dS)
    (cT : Cal P w K mg base CX0 3 "is_stable" ["table"] spStable fT dT) (cR : Cal P w K mg base CX0 2 "repeated" ["table"] spRep fR dR) : FnOk P w K mg base CX0 4 f fd ["machine", "tables"] spM := by
  refine F.ok scM (fun vs H Q E h => ?_) (fun cdv A outer s H vs Q E hr h => ?_)
  · obtain ⟨m, ts, v1, v2, rfl, _⟩ := h
    rfl
  · obtain ⟨m, ts, v1, v2, rfl, W, hc, hl, hTs, r1, r2, k⟩ := h
    refine ⟨_, (pss_cons (ps_setNc (i := 2) hr.units rfl scM.nd rfl rfl rfl (pi_list (pv 1)) (blkOk_by (N := ["machine", "tables", "known", "letter", "first", "second", "table"]) (sc := defScope sM) (own := [("table", 6)]) (by decide +kernel)) (fun _ _ _ _ _ => (pg_name (i := 6) scM.nd rfl (by first | exact Or.inl rfl | exact Or.inr rfl))) (fun _ _ _ _ _ => pts_nil) (fun _ _ _ _ _ => (pv 6)) (fun _ _ _ _ _ => pe_bl))
      (pss_cons (ps_for PassesOwn.never rfl (pi_range1 (by rfl) T.range (pa_cons (pe_ix ix_tup (pv 0) pe_int (fun _ _ => rfl)) pa_nil)) (pg_name (i := 3) scM.nd rfl (by first | exact Or.inl rfl | exact Or.inr rfl)) (pss_one (ps_if (pt_cmpR (op_nnotin hr.units) (pe_cal cL hr pass0 (pa_cons (pv 0) (pa_cons (pv 3) pa_nil))) (pv 2) (by rfl)) (pss_one (ps_ret pe_bl)) pss_nil)))
      (pss_cons (ps_lock (ps_for PassesOwn.never rfl (pi_keysN (pv 2)) (pg_name (i := 4) scM.nd rfl (by first | exact Or.inl rfl | exact Or.inr rfl)) (pss_cons (ps_if (PW.pt (pw_and (pt_val (pe_cal cT hr pass0 (pa_cons (pv 4) pa_nil))) (pw_and1 (pt_cmpR (op_nnotin hr.units) (pe_cal cR hr pass0 (pa_cons (pv 4) pa_nil)) (pv 2) (by rfl))))) (pss_one (ps_ret pe_bl)) pss_nil)
      (pss_one (ps_for PassesOwn.never rfl (pi_keysN (pv 2)) (pg_name (i := 5) scM.nd rfl (by first | exact Or.inl rfl | exact Or.inr rfl)) (pss_one (ps_if (pt_cmpR (op_nnotin hr.units) (pe_cal cS hr pass0 (pa_cons (pv 4) (pa_cons (pv 5) pa_nil))) (pv 2) (by rfl)) (pss_one (ps_ret pe_bl)) pss_nil)))))))
      (pss_one (ps_ret pe_bl))))), ?_⟩
    have s3 := W.s3
    refine qr_asg (er_nc (K := K) (l := ts) (en := encT) (i := 6) (er_varR rfl (monoL _) r2) (by omega) (fun T => ⟨_, rfl, (fit_T T).2⟩) (by show 6 < 7; decide)) fun v H1 e1 hv => ?_
    obtain ⟨p, kvs, rfl, nd, hp, ka, kl⟩ := hv
    have kd : ∀ {H'} (b : Bool), Ex H H' → (b = true → ¬ MS.Closed m ts) → Q (.bl b) H' := fun b e hb => k _ _ e ⟨b, rfl, hb⟩
    refine q_forR1 (n := (m.letters : Int)) (ea_cons (er_num (er_ixn (er_var rfl (r1.ex e1)) ev_c rfl)) ea_nil) (by have := W.l2; omega) (fun i σ' H' => (∃ x, σ' = [some v1, some v2, some (V.ref p), x, none, none, none]) ∧ Ex H1 H' ∧ ∀ j, j < i → MS.letT m j ∈ ts) (fun H2 e2 => ⟨⟨_, rfl⟩, e2, fun j hj => absurd hj (by omega)⟩) ?_ ?_
    · rintro i σ1 H2 hi ⟨⟨x, rfl⟩, e2, hin⟩
      show tIfS _ _ _ _ ([some v1, some v2, some (V.ref p), some (.int (i : Int)), none, none, none] : L2.St) H2
      refine s_when (et_test (ev_notT (T := MS.letT m i) (er_letter W hc (er_var rfl ((r1.ex e1).ex e2)) (ev_var rfl)) (ev_var rfl) (nd.r.ex e2) ka)) (fun hb H3 e3 => ?_) fun hb H3 e3 => ?_
      · refine s_ret ev_c fun H4 e4 => kd true (((e1.trans e2).trans e3).trans e4) fun _ hcl => ?_
        have := hcl.1 i (by omega)
        simp [this] at hb
      · refine ⟨⟨_, rfl⟩, e2.trans e3, fun j hj => ?_⟩
        by_cases h : j = i
        · subst h; simpa using hb
        · exact hin j (by omega)
    · rintro σ1 H2 ⟨⟨x, rfl⟩, e2, hin⟩
      obtain ⟨tn, htn, hfl, kin⟩ := nd
      refine ⟨p, NDO P w p tn, e2 _ _ htn, True.intro, fun od => ?_⟩
      have eL : Ex H (upd H2 p (.frz od (NDO P w p tn))) := (e1.trans e2).mut hp
      have txL : TEx H1 (upd H2 p (.frz od (NDO P w p tn))) := (TEx.of e2).trans (TEx.put fun ys z => by rw [e2 _ _ htn] at z; cases z)
      have hpL : ∀ {H'}, Ex (upd H2 p (.frz od (NDO P w p tn))) H' → H' p = some (.frz od (NDO P w p tn)) := fun e => e _ _ upd_same
      have ndL : ∀ {H'}, Ex (upd H2 p (.frz od (NDO P w p tn))) H' → NDR P w H' p kvs := fun e => ⟨tn, .inr ⟨od, hpL e⟩, hfl, kin.tx (txL.trans (TEx.of e))⟩
      have kT : ∀ {i : Nat} {t : NE} {H'}, tn[i]? = some t → Ex (upd H2 p (.frz od (NDO P w p tn))) H' → ∃ T, T ∈ ts ∧ Rep H' (encT T) (.ref t.2.1) := fun {i t H'} ht e => by
        have hm := List.mem_of_getElem? ht
        obtain ⟨T, hT, eT⟩ := ka.1 (t.1, t.2.2) (by rw [← hfl]; exact List.mem_map.mpr ⟨t, hm, rfl⟩)
        exact ⟨T, hT, by have := ((kin t hm).1.tx txL).ex e; rw [show t.1 = encT T from eT] at this; exact this⟩
      have back : ∀ {H'}, Ex (upd H2 p (.frz od (NDO P w p tn))) H' → Ex H (upd H' p (NDO P w p tn)) := fun e => (eL.trans e).mut hp
      refine ⟨.ref p, rfl, p, od, tn, rfl, upd_same, for_keysN (fun i σ' H' => (∃ x y z, σ' = [some v1, some v2, some (V.ref p), x, y, z, none]) ∧ Ex (upd H2 p (.frz od (NDO P w p tn))) H') ⟨⟨_, _, _, rfl⟩, Ex.refl _⟩ (fun i σ' H' _ h => hpL h.2) ?_ ?_⟩
      · rintro i t σ2 H3 ht ⟨⟨x, y, z, rfl⟩, e3⟩
        obtain ⟨T1, hT1, rT1⟩ := kT ht e3
        have rm : ∀ {H'}, Ex (upd H2 p (.frz od (NDO P w p tn))) H' → Rep H' (encM m) v1 := fun e => (r1.ex eL).ex e
        show tSeq _ _ _ ([some v1, some v2, some (V.ref p), x, some (.ref t.2.1), z, none] : L2.St) H3
        have a4 : ∀ {H'}, Ex H3 H' → EvR (tVar 4) [some v1, some v2, some (V.ref p), x, some (.ref t.2.1), z, none] H' (RepR (encT T1)) := fun e => er_var rfl (rT1.ex e)
        refine q_when (et_and (et_B (ev_stable (n := m.states) (by omega) (hTs T1 hT1) (a4 (Ex.refl _)))) fun hst => et_test (ev_notT (T := MS.repT T1) (er_rep (by omega) (hTs T1 hT1) (a4 (Ex.refl _))) (ev_var rfl) (ndL e3) ka)) (fun hb H4 e4 => ?_) fun hb H4 e4 => ?_
        · refine s_ret ev_c fun H5 e5 => ⟨hpL ((e3.trans e4).trans e5), kd true (back ((e3.trans e4).trans e5)) fun _ hcl => ?_⟩
          have h1 : MS.seqT T1 T1 = T1 := by simp at hb; exact hb.1
          have := (hcl.2 T1 hT1).1 h1
          simp [this] at hb
        · refine ⟨.ref p, rfl, p, od, tn, rfl, hpL (e3.trans e4), for_keysN (fun i σ' H' => (∃ z, σ' = [some v1, some v2, some (V.ref p), x, some (.ref t.2.1), z, none]) ∧ Ex (upd H2 p (.frz od (NDO P w p tn))) H' ∧ Ex H3 H') ⟨⟨_, rfl⟩, e3.trans e4, e4⟩ (fun i σ' H' _ h => hpL h.2.1) ?_ ?_⟩
          · rintro j u σ3 H5 hu ⟨⟨z2, rfl⟩, e5, e35⟩
            obtain ⟨U1, hU1, rU1⟩ := kT hu e5
            show tIfS _ _ _ _ ([some v1, some v2, some (V.ref p), x, some (.ref t.2.1), some (.ref u.2.1), none] : L2.St) H5
            refine s_when (et_test (ev_notT (T := MS.seqT T1 U1) (er_seq (n := m.states) (by omega) (hTs T1 hT1) (hTs U1 hU1) (er_var rfl (rT1.ex e35)) (er_var rfl rU1)) (ev_var rfl) (ndL e5) ka)) (fun hb2 H6 e6 => ?_) fun hb2 H6 e6 => ?_
            · refine s_ret ev_c fun H7 e7 => ⟨hpL ((e5.trans e6).trans e7), kd true (back ((e5.trans e6).trans e7)) fun _ hcl => ?_⟩
              have := (hcl.2 T1 hT1).2 U1 hU1
              simp [this] at hb2
            · exact ⟨⟨_, rfl⟩, e5.trans e6, e35.trans e6⟩
          · rintro σ3 H5 ⟨⟨z2, rfl⟩, e5, e35⟩
            exact ⟨⟨_, _, _, rfl⟩, e5⟩
      · rintro σ2 H3 ⟨⟨x, y, z, rfl⟩, e3⟩
        refine ⟨hpL e3, ?_⟩
        show tRet (tC (.bl false)) { nx := fun x H' => Q V.non H', rt := Q } ([some v1, some v2, some (V.ref p), x, y, z, none] : L2.St) (upd H3 p (NDO P w p tn))
        refine s_ret ev_c fun H4 e4 => ?_
        exact kd false ((back e3).trans e4) (fun z => Bool.noConfusion z)
theorem ev_missing {σ : L2.St} {H : Hp} {ta tb : TE} {m : Mach} {ts : List Tab} (W : m.WF) (hc : m.counters ≤ 1) (hl : ts.length ≤ 100) (ht : ∀ T ∈ ts, MS.IsTab m.states T) (ha : EvR ta σ H (RepR (encM m))) (hb : EvR tb σ H (LRep (ts.map encT))) :
    EvR (tCall spM [] E0 (tCons ta (tCons tb tNil))) σ H (fun v _ => ∃ b, v = .bl b ∧ (b = true → ¬ MS.Closed m ts)) :=
  er_call (ea1 ha (monoRep _) (ea1 hb (monoL _) ea0)) fun vs H2 e rs Q q => by
    obtain ⟨v1, v2, rfl, h1, h2⟩ := args2 rs
    exact ⟨m, ts, v1, v2, rfl, W, hc, hl, ht, h1, h2, q⟩
theorem er_bv {σ : L2.St} {H : Hp} {ta tb : TE} {m : Mach} {T : Tab} (W : m.WF) (hT : MS.IsTab m.states T) (ha : EvR ta σ H (RepR (encM m))) (hb : EvR tb σ H (RepR (encT T))) : EvR (tCall spBV [] E0 (tCons ta (tCons tb tNil))) σ H (RepR (encV (MS.bestV m T))) :=
  er_call (ea1 ha (monoRep _) (ea1 hb (monoRep _) ea0)) fun vs H2 e rs Q q => by
    obtain ⟨v, u, rfl, hv, hu⟩ := args2 rs
    exact ⟨m, T, v, u, rfl, W, hT, hv, hu, q⟩
/-! ### judge_catalogue -/
abbrev sJ : Stmt := topS 23
def Judged (m : Mach) (es : List (Line × Tab)) : RL := fun u H => (∃ n : Nat, Rep H (.tup [.text "wrong", encN n]) u ∧ ¬ MS.Cons m es) ∨ (∃ (n : Nat) (l : Line) (T : Tab), Rep H (.tup [.text "grows", encN n]) u ∧ MS.Cons m es ∧ es[n]? = some (l, T) ∧ MS.bestV m T = .gr) ∨
  (Rep H (.tup [.text "missing"]) u ∧ ¬ MS.Closed m (es.map (·.2))) ∨ Rep H (.tup [.text "bounded"]) u
theorem monoJ (m : Mach) (es : List (Line × Tab)) : MonoR (Judged m es) := fun v H H' e h => by
  rcases h with ⟨n, r, h⟩ | ⟨n, l, T, r, h⟩ | ⟨r, h⟩ | r
  · exact .inl ⟨n, r.ex e, h⟩
  · exact .inr (.inl ⟨n, l, T, r.ex e, h⟩)
  · exact .inr (.inr (.inl ⟨r.ex e, h⟩))
  · exact .inr (.inr (.inr (r.ex e)))
def spJ : Sp := fun vs H Q _ => ∃ (m : Mach) (es : List (Line × Tab)) (v1 v2 : V), vs = [v1, v2] ∧ m.WF ∧ m.counters ≤ 1 ∧ es.length ≤ 100 ∧ (∀ (i : Nat) (e : Line × Tab), es[i]? = some e → e.1.ok i ∧ MS.IsTab m.states e.2) ∧ Rep H (encM m) v1 ∧ LRep (es.map encE) v2 H ∧ RetR (Judged m es) H Q
theorem scJ : FnScope ["machine", "entries", "tables", "number", "made", "table"] ["machine", "entries"] (defScope sJ) := ⟨rfl, rfl, rfl, by decide +kernel, rfl, by decide +kernel, by decide +kernel⟩
theorem ok_j {fO fV fM f : Addr} {dO dV dM fd : FuncData} (F : Fun K "judge_catalogue" "judge_catalogue" sJ f fd) (T : Txt K mg) (cO : Cal P w K mg base CX0 4 "table_of" ["machine", "line", "tables"] spTO fO dO) (cV : Cal P w K mg base CX0 2 "best_value" ["machine", "table"] spBV fV dV)
    (cM : Cal P w K mg base CX0 4 "is_missing" ["machine", "tables"] spM fM dM) : FnOk P w K mg base CX0 5 f fd ["machine", "entries"] spJ := by
  refine F.ok scJ (fun vs H Q E h => ?_) (fun cdv A outer s H vs Q E hr h => ?_)
  · obtain ⟨m, es, v1, v2, rfl, _⟩ := h
    rfl
  · obtain ⟨m, es, v1, v2, rfl, W, hc, hl, hes, r1, r2, k⟩ := h
    refine ⟨_, (pss_cons (ps_set (i := 2) scJ.nd rfl (by first | exact Or.inl rfl | exact Or.inr rfl) (pe_lst pa_nil))
      (pss_cons (ps_for PassesOwn.never rfl (pi_enum (by rfl) T.enumerate (pa_cons (pv 1) pa_nil)) (pg_tup rfl (pgs_cons (pg_name (i := 3) scJ.nd rfl (by first | exact Or.inl rfl | exact Or.inr rfl)) (pgs_cons (pg_tup rfl (pgs_cons (pg_name (i := 4) scJ.nd rfl (by first | exact Or.inl rfl | exact Or.inr rfl)) (pgs_cons (pg_name (i := 5) scJ.nd rfl (by first | exact Or.inl rfl | exact Or.inr rfl)) pgs_nil))) pgs_nil))) (pss_cons (ps_if (pt_cmpR (op_neN hr.units) (pe_cal cO hr pass0 (pa_cons (pv 0) (pa_cons (pv 4) (pa_cons (pv 2) pa_nil)))) (pv 5) (nomark _)) (pss_one (ps_ret (pe_tup (pa_cons pe_str (pa_cons (pv 3) pa_nil))))) pss_nil)
      (pss_one (ps_expr (pe_bm PySem.F.plainAttrs_list PySem.F.slot_list_append PySem.F.type_list_append mt_append (pv 2) (pa_cons (pv 5) pa_nil))))))
      (pss_cons (ps_for PassesOwn.never rfl (pi_enum (by rfl) T.enumerate (pa_cons (pv 2) pa_nil)) (pg_tup rfl (pgs_cons (pg_name (i := 3) scJ.nd rfl (by first | exact Or.inl rfl | exact Or.inr rfl)) (pgs_cons (pg_name (i := 5) scJ.nd rfl (by first | exact Or.inl rfl | exact Or.inr rfl)) pgs_nil))) (pss_one (ps_if (pt_cmpR op_eq (pe_cal cV hr pass0 (pa_cons (pv 0) (pa_cons (pv 5) pa_nil))) pe_str (nomark _)) (pss_one (ps_ret (pe_tup (pa_cons pe_str (pa_cons (pv 3) pa_nil))))) pss_nil)))
      (pss_cons (ps_if (pt_val (pe_cal cM hr pass0 (pa_cons (pv 0) (pa_cons (pv 2) pa_nil)))) (pss_one (ps_ret (pe_tup (pa_cons pe_str pa_nil)))) pss_nil)
      (pss_one (ps_ret (pe_tup (pa_cons pe_str pa_nil)))))))), ?_⟩
    refine ⟨Nat.zero_le _, fun p hp => ?_⟩
    have x0 : Ex H (upd H p (.lst [])) := Ex.new hp
    refine qf_enum (H0 := H) (l := es) (en := encE) x0 (ep_var rfl r2) (fun i σ' H' => (∃ x y z, σ' = [some v1, some v2, some (.ref p), x, y, z]) ∧ Ex H H' ∧ (∃ us, H' p = some (.lst us) ∧ Reps H' ((es.take i).map fun e => encT e.2) us) ∧ ∀ (j : Nat) l T, j < i → es[j]? = some (l, T) → MS.tabOf m l ((es.take j).map fun e => some e.2) = some T) ⟨⟨_, _, _, rfl⟩, x0, ⟨[], upd_same, .nil⟩, fun j l T hj => absurd hj (by omega)⟩ (fun _ _ _ h => h.2.1) ?_ ?_
    · rintro i ⟨l, T1⟩ v t σ1 H1 hi rl ⟨⟨x, y, z, rfl⟩, e1, ⟨us, hu, ru⟩, hcons⟩ hn
      obtain ⟨hok, htab⟩ := hes i _ hi
      have hil : i < es.length := (List.getElem?_eq_some_iff.mp hi).1
      obtain ⟨a, ws, rfl, ha, rw⟩ := rep_tup rl
      have hlw := rw.length
      match ws, hlw with
      | [w1, w2], _ =>
      have xn : Ex H1 (upd H1 t (.tup [.int (i : Int), .ref a])) := Ex.new hn
      refine ⟨t, [.int (i : Int), .ref a], rfl, SqT.of upd_same, rfl, _, _, rfl, _, _, rfl, ?_⟩
      refine g_pair (xn _ _ ha) ?_
      refine ⟨rfl, ?_⟩
      have rw1 : Rep H1 (encL l) w1 := by cases rw with | cons h1 _ => exact h1
      have rw2 : Rep H1 (encT T1) w2 := by cases rw with | cons _ h2 => cases h2 with | cons h2 _ => exact h2
      show tSeq _ _ _ ([some v1, some v2, some (.ref p), some (.int (i : Int)), some w1, some w2] : L2.St) _
      generalize hHn : upd H1 t (.tup [.int (i : Int), .ref a]) = Hn at xn ⊢
      have tt : ((es.take i).map fun e => encT e.2) = ((es.take i).map fun e => some e.2).map encO := by rw [List.map_map]; rfl
      have hlen : ((es.take i).map fun e : Line × Tab => some e.2).length = i := by rw [List.length_map, List.length_take]; omega
      refine q_when (et_test (ev_neN (d := encO (MS.tabOf m l ((es.take i).map fun e => some e.2))) (e := encT T1) (er_to W hc (by rw [hlen]; exact hok) (fun U hU => ?_) (er_var rfl ((r1.ex e1).ex xn)) (er_var rfl (rw1.ex xn)) (er_varR rfl (monoL _) ⟨p, us, rfl, xn _ _ hu, by rw [← tt]; exact ru.ex xn⟩)) (er_var rfl (rw2.ex xn)) (fit_O _) (fit_T _))) (fun hb H2 e2 => ?_) fun hb H2 e2 => ?_
      · obtain ⟨e, he, hU⟩ := List.mem_map.mp hU
        obtain ⟨j, hj⟩ := List.mem_iff_getElem?.mp (List.mem_of_mem_take he)
        have := (hes j e hj).2
        cases hU
        exact this
      · refine sr_ret (er_tup (ds := [.text "wrong", encN i]) (ea1 er_text (monoRep _) (ea1 (er_int (ev_var rfl)) (monoRep _) ea0)) (by show 2 ≤ 100000; decide)) fun u H3 e3 r3 => k u H3 (((e1.trans xn).trans e2).trans e3) (.inl ⟨i, r3, fun hC => ?_⟩)
        have := hC i l T1 hi
        rw [this] at hb
        simp [encO] at hb
      · refine sr_app (l := p) (xs := us) rfl (e2 _ _ (xn _ _ hu)) (by have := ru.length; rw [List.length_map, List.length_take] at this; omega) (er_var (i := 5) rfl ((rw2.ex xn).ex e2)) fun u H3 e3 r3 h3 => ?_
        refine ⟨⟨_, _, _, rfl⟩, (((e1.trans xn).trans e2).trans e3).mut hp, ⟨us ++ [u], upd_same, ?_⟩, fun j l' T' hj hj' => ?_⟩
        · have tx : TEx H3 (upd H3 p (.lst (us ++ [u]))) := TEx.lst h3
          have etk : es.take (i + 1) = es.take i ++ [(l, T1)] := by rw [List.take_add_one, hi]; rfl
          rw [etk, List.map_append]
          exact ((((ru.ex xn).ex e2).ex e3).tx tx).app (Reps.one (r3.tx tx))
        · by_cases h : j = i
          · subst h
            rw [hi] at hj'
            cases hj'
            have h5 : encO (MS.tabOf m l ((es.take j).map fun e => some e.2)) = encT T1 := by simpa using hb
            exact encO_inj (b := some T1) h5
          · exact hcons j l' T' (by omega) hj'
    · rintro σ1 H1 ⟨⟨x, y, z, rfl⟩, e1, ⟨us, hu, ru⟩, hcons⟩
      rw [List.take_length] at ru
      have hC : MS.Cons m es := fun i l T hi => hcons i l T (List.getElem?_eq_some_iff.mp hi).1 hi
      have rL : LRep (es.map fun e => encT e.2) (.ref p) H1 := ⟨p, us, rfl, hu, ru⟩
      refine qf_enum (H0 := H1) (l := es) (en := fun e => encT e.2) (Ex.refl _) (ep_var rfl rL) (fun i σ' H' => (∃ x y z, σ' = [some v1, some v2, some (.ref p), x, y, z]) ∧ Ex H1 H') ⟨⟨_, _, _, rfl⟩, Ex.refl _⟩ (fun _ _ _ h => h.2) ?_ ?_
      · rintro i ⟨l, T1⟩ v t σ2 H2 hi rl ⟨⟨x, y, z, rfl⟩, e2⟩ hn
        have xn : Ex H2 (upd H2 t (.tup [.int (i : Int), v])) := Ex.new hn
        refine g_pair upd_same ?_
        show tIfS _ _ _ _ ([some v1, some v2, some (.ref p), some (.int (i : Int)), y, some v] : L2.St) _
        refine s_when (b := decide (vv (MS.bestV m T1) = .str "grows")) ?_ (fun hb H3 e3 => ?_) fun hb H3 e3 => ?_
        · exact et_test (ev_op (ev_V (er_bv W (hes i _ hi).2 (er_var rfl ((r1.ex (e1.trans e2)).ex xn)) (er_var rfl (rl.ex xn)))) ev_c (rv_eq (by cases MS.bestV m T1 <;> rfl)))
        · refine sr_ret (er_tup (ds := [.text "grows", encN i]) (ea1 er_text (monoRep _) (ea1 (er_int (ev_var rfl)) (monoRep _) ea0)) (by show 2 ≤ 100000; decide)) fun u H4 e4 r4 => k u H4 ((((e1.trans e2).trans xn).trans e3).trans e4) (.inr (.inl ⟨i, l, T1, r4, hC, hi, ?_⟩))
          revert hb
          cases MS.bestV m T1 <;> simp [vv]
        · exact ⟨⟨_, _, _, rfl⟩, (e2.trans xn).trans e3⟩
      · rintro σ2 H2 ⟨⟨x, y, z, rfl⟩, e2⟩
        have em : (es.map fun e => encT e.2) = (es.map (·.2)).map encT := by rw [List.map_map]; rfl
        have hmiss := ev_missing (m := m) (ts := es.map (·.2)) (ta := tVar 0) (tb := tVar 2) (σ := [some v1, some v2, some (.ref p), x, y, z]) (H := H2) W hc (by rw [List.length_map]; exact hl) (fun T hT => by
          obtain ⟨e, he, rfl⟩ := List.mem_map.mp hT
          obtain ⟨j, hj⟩ := List.mem_iff_getElem?.mp he
          exact (hes j e hj).2) (er_var rfl (r1.ex (e1.trans e2))) (er_varR rfl (monoL _) (by rw [← em]; exact monoL _ _ _ _ e2 rL))
        refine hmiss H2 (Ex.refl _) _ fun v H3 e3 hv => ?_
        obtain ⟨b, rfl, hb⟩ := hv
        refine ⟨b, rfl, ?_⟩
        cases b with
        | true => exact sr_ret (er_tup (ds := [.text "missing"]) (ea1 er_text (monoRep _) ea0) (by show 1 ≤ 100000; decide)) fun u H4 e4 r4 => k u H4 (((e1.trans e2).trans e3).trans e4) (.inr (.inr (.inl ⟨r4, hb rfl⟩)))
        | false =>
          refine iteF ?_
          show tRet (tTup (tCons (tC (.str "bounded")) tNil)) { nx := fun x H' => Q V.non H', rt := Q } ([some v1, some v2, some (.ref p), x, y, z] : L2.St) H3
          exact sr_ret (er_tup (ds := [.text "bounded"]) (ea1 er_text (monoRep _) ea0) (by show 1 ≤ 100000; decide)) fun u H4 e4 r4 => k u H4 (((e1.trans e2).trans e3).trans e4) (.inr (.inr (.inr r4)))
end
end MW
end
section
set_option Elab.async false
set_option linter.all false
set_option maxRecDepth 100000
set_option maxHeartbeats 4000000
/-! t * 0, t * 1. -/
namespace L2
open PySem PySem.Spec PyProof.Rows
theorem tuple_mul0 (l : Addr) (items : Array Value) (n : Nat) (dd : Option Addr) (sl : Array (Option Value)) (u : Tok) (c1 : (items.isEmpty || (0 : Int) == 1) = false) :
    Meets (Builtin.«tuple.__mul__» ⟨[.ref l, .int 0 u], []⟩) (fun _ R s => s.heap.get? l = some { cls := .type "tuple", dict := dd, data := .seq items n, slots := sl } ∧
      R (.ok (.ret (Value.ref s.heap.objs.size))) { s with heap := s.heap.push { cls := Value.type "tuple", data := Data.seq #[] }, toks := s.toks }) :=
  .of_wp fun prog w A R s h => by
    obtain ⟨hp, g, d, tk, os⟩ := s
    obtain ⟨hl, h⟩ := h
    have f1 := AutoSeq1.idx_int
    wp_walk using wpAny_loadPart' hl
    repeat (first
      | (refine wpAny_ite_false (decide_eq_false (by decide)) ?_; wp_walk using wpAny_loadPart' hl)
      | (refine wpAny_ite_false (decide_eq_false (by rw [c1]; exact Bool.false_ne_true)) ?_; wp_walk using wpAny_loadPart' hl)
      | (refine wpAny_ite_true (decide_eq_true (by simp)) ?_; wp_walk using wpAny_loadPart' hl))
    exact ⟨_, rfl, h⟩
theorem tuple_mul1 (l : Addr) (items : Array Value) (n : Nat) (dd : Option Addr) (sl : Array (Option Value)) (u : Tok) :
    Meets (Builtin.«tuple.__mul__» ⟨[.ref l, .int 1 u], []⟩) (fun _ R s => s.heap.get? l = some { cls := .type "tuple", dict := dd, data := .seq items n, slots := sl } ∧ R (.ok (.ret (Value.ref l))) s) :=
  .of_wp fun prog w A R s h => by
    obtain ⟨hp, g, d, tk, os⟩ := s
    obtain ⟨hl, h⟩ := h
    have f1 := AutoSeq1.idx_int
    wp_walk using wpAny_loadPart' hl
    repeat (first
      | (refine wpAny_ite_false (decide_eq_false (by decide)) ?_; wp_walk using wpAny_loadPart' hl)
      | (refine wpAny_ite_true (decide_eq_true (by simp)) ?_; wp_walk using wpAny_loadPart' hl))
    exact ⟨_, rfl, h⟩
def rRep1 (K : PySem.W.Frag) : R2 := fun x y H Q => ∃ l xs, x = .ref l ∧ SqT K H l xs ∧ ((y = .int 1 ∧ Q (.ref l) H) ∨ (y = .int 0 ∧ xs ≠ [] ∧ ∀ p, H p = none → Q (.ref p) (upd H p (.tup []))))
section
variable {X : Cx}
theorem op_rep1 : OpR X (binaryOp .Mult) (rRep1 X.K) := by
  intro pins s σ H x y v u Q I rx ry h
  obtain ⟨l, xs, rfl, hT, h⟩ := h
  cases rx
  obtain ⟨its, r, ⟨⟨cls, dd, data, sl⟩, ho, hc, n, hd⟩, hs⟩ := I.tuple hT
  simp only at hc hd
  subst hc hd
  rcases h with ⟨rfl, q⟩ | ⟨rfl, hne, q⟩
  · obtain ⟨t, rfl⟩ := ry
    exact wpAny_binaryOp_repeat_ref (T := "tuple") (U := "int") (by decide) ⟨_, ho, rfl⟩ (fun s' => typeIs_int s' 1 t) noFill_tuple_mul F.fills_int_mul F.slot_int_rmul repeat_tuple F.slot_int_index.lookup
      (call_meets F.slot_int_rmul (typeIs_int s 1 t) F.entry_int_rmul (F.args_int_rmul_2 _ _) (int_rmul_tuple 1 t l its.toArray n dd sl)
        ⟨ho, rfl, ⟨_, ho, rfl⟩, call_meets F.slot_tuple_mul ⟨_, ho, rfl⟩ F.entry_tuple_mul (F.args_tuple_mul_2 _ _) (tuple_mul1 l its.toArray n dd sl t) ⟨ho, .ref l, H, I, rfl, q⟩⟩)
  · obtain ⟨t, rfl⟩ := ry
    have hn : its ≠ [] := fun e => hne (by
      have := r.length
      rw [e] at this
      exact List.eq_nil_of_length_eq_zero this)
    have hi : its.toArray.isEmpty = false := by
      cases its with
      | nil => exact absurd rfl hn
      | cons a b => rfl
    refine wpAny_binaryOp_repeat_ref (T := "tuple") (U := "int") (by decide) ⟨_, ho, rfl⟩ (fun s' => typeIs_int s' 0 t) noFill_tuple_mul F.fills_int_mul F.slot_int_rmul repeat_tuple F.slot_int_index.lookup
      (call_meets F.slot_int_rmul (typeIs_int s 0 t) F.entry_int_rmul (F.args_int_rmul_2 _ _) (int_rmul_tuple 0 t l its.toArray n dd sl)
        ⟨ho, rfl, ⟨_, ho, rfl⟩, call_meets F.slot_tuple_mul ⟨_, ho, rfl⟩ F.entry_tuple_mul (F.args_tuple_mul_2 _ _) (tuple_mul0 l its.toArray n dd sl t (by rw [hi]; rfl)) ⟨ho, ?_⟩⟩)
    refine ⟨.ref s.heap.objs.size, _, I.laid (t' := s.toks) (o := .tup []) (fun b ob q => Heap.get?_push_of_some _ q) (Nat.le_refl _) ?_, rfl, q _ (I.hok.fresh (Nat.le_refl _))⟩
    exact ⟨Nat.zero_le _, [], .nil, IsTup.new _ _⟩
end
end L2
namespace MW
open PySem PySem.Spec PyProof.Rows L2 Evl
section
variable {K : PySem.W.Frag} {σ : L2.St} {H : Hp} {ta tb : TE}
theorem er_rep0 {d : D} (ha : EvR ta σ H (RepR (.tup [d]))) {n : Nat} (hn : n ≤ 1) (hb : Ev tb σ H (.int (n : Int))) : EvR (tOp (rRep1 K) ta tb) σ H (RepR (.tup (List.replicate n d))) := fun H1 e Q q => ha H1 e _ fun v H2 e2 r => hb H2 (e.trans e2) _ fun H3 e3 => by
  obtain ⟨a, vs, rfl, h2, r2⟩ := rep_tup (r.ex e3)
  refine ⟨a, vs, rfl, SqT.of h2, ?_⟩
  have : n = 0 ∨ n = 1 := by omega
  rcases this with rfl | rfl
  · exact .inr ⟨rfl, fun (z : vs = []) => (by subst z; cases r2), fun p hp => q _ _ ((e2.trans e3).trans (Ex.new hp)) (.tup upd_same .nil)⟩
  · exact .inl ⟨rfl, q _ _ (e2.trans e3) (.tup h2 r2)⟩
end
end MW
end
section
set_option Elab.async false
set_option linter.all false
set_option maxRecDepth 100000
set_option maxHeartbeats 4000000
/-! Possibilities and bounds: applied, enough, after_letter, is_above. -/
namespace MW
open PySem PySem.Spec PyProof.Rows L2 Evl
open MS (Val Tab Mach Line Cfg Poss)

def encTup (c : List Nat) : D := .tup (c.map encN)
def encC (p : Cfg) : D := .tup [encN p.1, encTup p.2]
def encP (p : Poss) : D := .tup [encTup p.1, .tup (p.2.map encC)]
theorem encTup_inj {a b : List Nat} (h : encTup a = encTup b) : a = b := (List.map_inj_right fun _ _ => encN_inj).mp (NestedKey.tup.inj h)
theorem encC_inj {a b : Cfg} (h : encC a = encC b) : a = b := by
  have h1 := NestedKey.tup.inj h
  simp only [List.cons.injEq, and_true] at h1
  exact Prod.ext (encN_inj h1.1) (encTup_inj h1.2)
theorem encP_inj {a b : Poss} (h : encP a = encP b) : a = b := by
  have h1 := NestedKey.tup.inj h
  simp only [List.cons.injEq, and_true] at h1
  exact Prod.ext (encTup_inj h1.1) ((List.map_inj_right fun _ _ => encC_inj).mp (NestedKey.tup.inj h1.2))
theorem fit_C (p : Cfg) : okT (encC p) = true ∧ (encC p).depth ≤ 3 := by
  have a := fit_nums (l := p.2)
  have h2 : ∀ l : List Nat, NestedKey.depthAll (l.map encN) ≤ 1 := fun l => by induction l with | nil => simp [NestedKey.depthAll] | cons a l ih => simp [NestedKey.depthAll, NestedKey.depth, encN]; omega
  have := h2 p.2
  refine ⟨?_, ?_⟩
  · show okTs [encN p.1, encTup p.2] = true
    simp only [okTs, Bool.and_true, Bool.and_eq_true]
    exact ⟨rfl, a.1⟩
  · simp only [encC, encTup, NestedKey.depth, NestedKey.depthAll, encN]
    omega
theorem fit_P (p : Poss) : Fit (encP p) := by
  have a := fit_nums (l := p.1)
  have b : ∀ l : List Cfg, okTs (l.map encC) = true ∧ NestedKey.depthAll (l.map encC) ≤ 4 := fun l => by
    induction l with
    | nil => exact ⟨rfl, by simp [NestedKey.depthAll]⟩
    | cons x l ih => exact ⟨by simp only [List.map_cons, okTs, (fit_C x).1, ih.1]; rfl, by have := (fit_C x).2; simp only [List.map_cons, NestedKey.depthAll]; omega⟩
  have h2 : ∀ l : List Nat, NestedKey.depthAll (l.map encN) ≤ 1 := fun l => by induction l with | nil => simp [NestedKey.depthAll] | cons a l ih => simp [NestedKey.depthAll, NestedKey.depth, encN]; omega
  have := h2 p.1
  have := (b p.2).2
  refine ⟨?_, ?_⟩
  · show okTs [encTup p.1, .tup (p.2.map encC)] = true
    simp only [okTs, Bool.and_true, Bool.and_eq_true]
    exact ⟨a.1, (b p.2).1⟩
  · simp only [encP, encTup, NestedKey.depth, NestedKey.depthAll]
    omega
section
variable {P : Program} {w : World} {K : PySem.W.Frag} {mg : PySem.Str → Option Value} {base : Heap}
/-! ### ints -/
section
variable {σ : L2.St} {H : Hp} {ta tb : TE} {i j : Int}
theorem ev_add (ha : Ev ta σ H (.int i)) (hb : Ev tb σ H (.int j)) : Ev (tOp (rI0 fun i j => .int (i + j)) ta tb) σ H (.int (i + j)) := ev_op ha hb (rv_I0 (g := fun i j => V.int (i + j)))
theorem ev_sub (ha : Ev ta σ H (.int i)) (hb : Ev tb σ H (.int j)) : Ev (tOp (rI0 fun i j => .int (i - j)) ta tb) σ H (.int (i - j)) := ev_op ha hb (rv_I0 (g := fun i j => V.int (i - j)))
theorem ev_mulS (ha : Ev ta σ H (.int i)) (hb : Ev tb σ H (.int j)) (h : CMul i j) : Ev (tOp (rI CMul fun i j => .int (i * j)) ta tb) σ H (.int (i * j)) := ev_op ha hb (rv_I (C := CMul) (g := fun i j => V.int (i * j)) h)
theorem ev_divW (ha : Ev ta σ H (.int i)) (hb : Ev tb σ H (.int j)) (h : CDivW i j) : Ev (tOp (rI CDivW fun i j => .int (i / j)) ta tb) σ H (.int (i / j)) := ev_op ha hb (rv_I (C := CDivW) (g := fun i j => V.int (i / j)) h)
theorem ev_mod (ha : Ev ta σ H (.int i)) (hb : Ev tb σ H (.int j)) (h : 0 < j) : Ev (tOp (rI (fun _ j => 0 < j) fun i j => .int (i % j)) ta tb) σ H (.int (i % j)) := ev_op ha hb (rv_I (C := fun _ j => 0 < j) (g := fun i j => V.int (i % j)) h)
theorem ev_ltI (ha : Ev ta σ H (.int i)) (hb : Ev tb σ H (.int j)) : Ev (tOp (rI0 fun i j => .bl (decide (i < j))) ta tb) σ H (.bl (decide (i < j))) := ev_op ha hb (rv_I0 (g := fun i j => V.bl (decide (i < j))))
theorem ev_leI (ha : Ev ta σ H (.int i)) (hb : Ev tb σ H (.int j)) : Ev (tOp (rI0 fun i j => .bl (decide (i ≤ j))) ta tb) σ H (.bl (decide (i ≤ j))) := ev_op ha hb (rv_I0 (g := fun i j => V.bl (decide (i ≤ j))))
theorem ev_gtI (ha : Ev ta σ H (.int i)) (hb : Ev tb σ H (.int j)) : Ev (tOp (rI0 fun i j => .bl (decide (j < i))) ta tb) σ H (.bl (decide (j < i))) := ev_op ha hb (rv_I0 (g := fun i j => V.bl (decide (j < i))))
theorem ev_geI (ha : Ev ta σ H (.int i)) (hb : Ev tb σ H (.int j)) : Ev (tOp (rI0 fun i j => .bl (decide (j ≤ i))) ta tb) σ H (.bl (decide (j ≤ i))) := ev_op ha hb (rv_I0 (g := fun i j => V.bl (decide (j ≤ i))))
theorem ev_eqI (ha : Ev ta σ H (.int i)) (hb : Ev tb σ H (.int j)) : Ev (tOp rEq ta tb) σ H (.bl (decide (i = j))) := by
  have := ev_op ha hb (rv_eq (x := .int i) (y := .int j) rfl)
  have e : decide (V.int i = V.int j) = decide (i = j) := decide_eq_decide.mpr ⟨fun h => V.int.inj h, fun h => by rw [h]⟩
  rw [e] at this
  exact this
theorem ev_to {v v' : V} (h : Ev ta σ H v) (e : v = v') : Ev ta σ H v' := e ▸ h
end
/-! ### more tuples -/
theorem er_catT {σ : L2.St} {H : Hp} {ta tb : TE} {ds es : List D} (ha : EvR ta σ H (RepR (.tup ds))) (hb : EvR tb σ H (RepR (.tup es))) (hl : ds.length + es.length ≤ 100000) : EvR (tOp (rCatA K) ta tb) σ H (RepR (.tup (ds ++ es))) := fun H1 a Q q =>
  ha H1 a _ fun v H2 e2 r => hb H2 (a.trans e2) _ fun u H3 e3 r2 => by
    obtain ⟨p, vs, rfl, hp, rv⟩ := rep_tup (r.ex e3)
    obtain ⟨p2, us, rfl, hp2, ru⟩ := rep_tup r2
    have h1 := rv.length
    have h2 := ru.length
    refine ⟨p, p2, vs, us, rfl, rfl, SqT.of hp, SqT.of hp2, sz_of (by omega), fun z => ?_, fun _ z => ?_, fun _ _ l hl => ?_⟩
    · subst z
      cases rv
      exact q _ _ (e2.trans e3) (.tup hp2 ru)
    · subst z
      cases ru
      rw [List.append_nil] at q
      exact q _ _ (e2.trans e3) (.tup hp rv)
    · exact q _ _ ((e2.trans e3).trans (Ex.new hl)) (.tup upd_same ((rv.app ru).ex (Ex.new hl)))
/-- t[n:] -/
theorem er_slFrom {σ : L2.St} {H : Hp} {te tb : TE} {ds : List D} {n : Nat} (h : EvR te σ H (RepR (.tup ds))) (hb : Ev tb σ H (.int (n : Int))) : EvR (tSl (rSlA K) te (tPart tb) tNoPart) σ H (RepR (.tup (ds.drop n))) := fun H1 e Q q => h H1 e _ fun v H2 e2 r => by
  refine hb H2 (e.trans e2) _ fun H3 e3 => ⟨_, rfl, ?_⟩
  obtain ⟨a, vs, rfl, ha, rv⟩ := rep_tup (r.ex e3)
  have hl := rv.length
  have cut : cutV vs (some (n : Int)) none = vs.drop n := by
    unfold cutV
    rw [HT.sIx_none, HT.sIx_nat]
    by_cases hh : n ≤ vs.length
    · rw [Nat.min_eq_left hh, List.take_of_length_le (by rw [List.length_drop]; exact Nat.le_refl _)]
    · rw [Nat.min_eq_right (by omega), List.drop_eq_nil_of_le (Nat.le_refl _), List.drop_eq_nil_of_le (by omega), List.take_nil]
  refine ⟨a, vs, rfl, SqT.of ha, fun hw => ?_, fun _ p hp => ?_⟩
  · refine q _ _ (e2.trans e3) (.tup ha ?_)
    rw [HT.sIx_nat] at hw
    have h0 : n = 0 ∨ ds.length = 0 := by omega
    have : ds.drop n = ds := by
      rcases h0 with rfl | h0
      · rfl
      · rw [List.length_eq_zero_iff.mp h0, List.drop_nil]
    rw [this]
    exact rv
  · rw [cut]
    exact q _ _ ((e2.trans e3).trans (Ex.new hp)) (.tup upd_same ((rv.drop n).ex (Ex.new hp)))
/-! ### applied -/
abbrev sAp : Stmt := topS 25
def spAp : Sp := fun vs H Q _ => ∃ (x : Nat) (c : List Nat) (v : V), vs = [.int (x : Int), v] ∧ x ≤ 2 * c.length ∧ c.length ≤ 1 ∧ Rep H (encTup c) v ∧ RetR (RepR (encTup (MS.app x c))) H Q
theorem scAp : FnScope ["action", "counters", "number", "kept", "here"] ["action", "counters"] (defScope sAp) := ⟨rfl, rfl, rfl, by decide +kernel, rfl, by decide +kernel, by decide +kernel⟩
theorem ok_ap {f : Addr} {fd : FuncData} (F : Fun K "applied" "applied" sAp f fd) : FnOk P w K mg base CX0 1 f fd ["action", "counters"] spAp := by
  refine F.ok scAp (fun vs H Q E h => ?_) (fun cdv A outer s H vs Q E hr h => ?_)
  · obtain ⟨x, c, v, rfl, _⟩ := h
    rfl
  · obtain ⟨x, c, v, rfl, hx, hc, hv, k⟩ := h
    refine ⟨_, (pss_cons (ps_set (i := 2) scAp.nd rfl (by first | exact Or.inl rfl | exact Or.inr rfl) (pe_op op_fdivW (pe_op op_add (pv 0) pe_int) pe_int))
      (pss_cons (ps_if (pt_cmpR op_eq (pv 2) pe_int (nomark _)) (pss_one (ps_ret (pv 1))) pss_nil)
      (pss_cons (ps_set (i := 3) scAp.nd rfl (by first | exact Or.inl rfl | exact Or.inr rfl) (pe_slice sl_tupA (pv 1) (po_some (pv 2)) po_none))
      (pss_cons (ps_set (i := 4) scAp.nd rfl (by first | exact Or.inl rfl | exact Or.inr rfl) (pe_ifExp (pt_cmpR op_eq (pe_op op_mod (pv 0) pe_int) pe_int (nomark _)) (pe_op op_add (pe_ix ix_tup (pv 1) (pe_op op_sub (pv 2) pe_int) (fun _ _ => rfl)) pe_int) pe_int))
      (pss_one (ps_ret (pe_op op_catA (pe_op op_catA (pe_op op_rep1 (pe_tup (pa_cons pe_int pa_nil)) (pe_op op_sub (pv 2) pe_int)) (pe_tup (pa_cons (pv 4) pa_nil))) (pv 3)))))))), ?_⟩
    have cd : ∀ i : Int, CDivW i 2 := fun i => ⟨by decide, by decide +kernel⟩
    have h3 : x = 0 ∨ x = 1 ∨ x = 2 := by omega
    rcases h3 with rfl | h3
    · refine q_asg (v := .int 0) (ev_op (ev_op (ev_var (v := .int 0) rfl) ev_c rv_I0) ev_c (rv_I (g := fun i j => V.int (i / j)) (cd _))) fun H1 e1 => ?_
      refine q_when (b := true) (et_is (et_test (ev_op (ev_var (v := .int 0) rfl) ev_c (rv_eq rfl))) (by decide)) (fun _ H2 e2 => ?_) fun z => by cases z
      exact sr_ret (er_var (i := 1) rfl ((hv.ex e1).ex e2)) fun u H3 e3 r => k u H3 ((e1.trans e2).trans e3) r
    · have h1 : (((x : Int) + 1) / 2) = 1 := by omega
      obtain ⟨c0, rfl⟩ : ∃ c0, c = [c0] := by
        match c, hc with
        | [c0], _ => exact ⟨c0, rfl⟩
        | [], _ => simp at hx; omega
      refine q_asg (v := .int 1) (ev_to (ev_divW (ev_add (i := (x : Int)) (ev_var rfl) ev_c) ev_c (cd _)) (by rw [h1])) fun H1 e1 => ?_
      refine q_when (b := false) (et_is (et_test (ev_op (ev_var (v := .int 1) rfl) ev_c (rv_eq rfl))) (by decide)) (fun z => by cases z) fun _ H2 e2 => ?_
      refine qr_asg (er_slFrom (n := 1) (er_var (i := 1) rfl ((hv.ex e1).ex e2)) (ev_var rfl)) fun u H3 e3 ru => ?_
      have e13 := (e1.trans e2).trans e3
      have ru' : Rep H3 (.tup []) u := ru
      have hsub : Ev (tOp rSub (tVar 2) (tC (.int 1))) [some (V.int (x : Int)), some v, some (V.int 1), some u, none] H3 (.int ((0 : Nat) : Int)) := ev_op (ev_var (v := .int 1) rfl) ev_c rv_I0
      refine q_asg (v := .int (if x = 1 then (c0 : Int) + 1 else 0)) (ev_if (b := decide (x = 1)) (et_is (et_test (ev_op (ev_op (ev_var (v := .int (x : Int)) rfl) ev_c (rv_I (by decide))) ev_c (rv_eq rfl))) ?_) (fun hb => ?_) fun hb => ?_) fun H4 e4 => ?_
      · rcases h3 with rfl | rfl <;> decide
      · have : x = 1 := by simpa using hb
        rw [if_pos this]
        exact ev_op (er_num (er_ixn (ks := [encN c0]) (er_var rfl (hv.ex e13)) hsub rfl)) ev_c rv_I0
      · have : ¬ x = 1 := by simpa using hb
        rw [if_neg this]
        exact ev_c
      · have e14 := e13.trans e4
        refine sr_ret (er_catT (ds := [.num (if x = 1 then (c0 : Int) + 1 else 0)]) (es := []) (er_catT (ds := []) (es := [.num (if x = 1 then (c0 : Int) + 1 else 0)]) (er_rep0 (d := .num 0) (n := 0) (er_tup (ds := [.num 0]) (ea1 er_c (monoRep _) ea0) (by show 1 ≤ 100000; decide)) (Nat.zero_le _) (hsub.mono e4 |> fun h => ?_)) (er_tup (ds := [.num (if x = 1 then (c0 : Int) + 1 else 0)]) (ea1 (er_int (ev_var rfl)) (monoRep _) ea0) (by show 1 ≤ 100000; decide)) (by show 1 ≤ 100000; decide)) (er_var (i := 3) rfl (ru'.ex e4)) (by show 1 ≤ 100000; decide)) fun u2 H5 e5 r => k u2 H5 (e14.trans e5) ?_
        · exact ev_op (ev_var (v := .int 1) rfl) ev_c rv_I0
        · have : encTup (MS.app x [c0]) = .tup [.num (if x = 1 then (c0 : Int) + 1 else 0)] := by
            rcases h3 with rfl | rfl
            · show NestedKey.tup [encN (c0 + 1)] = _
              simp [encN]
            · rfl
          show Rep _ _ _
          rw [this]
          exact r
theorem er_ap {σ : L2.St} {H : Hp} {ta tb : TE} {x : Nat} {c : List Nat} (hx : x ≤ 2 * c.length) (hc : c.length ≤ 1) (ha : Ev ta σ H (.int (x : Int))) (hb : EvR tb σ H (RepR (encTup c))) : EvR (tCall spAp [] E0 (tCons ta (tCons tb tNil))) σ H (RepR (encTup (MS.app x c))) :=
  er_call (ea1 (EvR.of ha) (monoV _) (ea1 hb (monoRep _) ea0)) fun vs H2 e rs Q q => by
    obtain ⟨v, u, rfl, rfl, hu⟩ := args2 rs
    exact ⟨x, c, u, rfl, hx, hc, hu, q⟩
/-! ### enough -/
abbrev sEn : Stmt := topS 28
def spEn : Sp := fun vs H Q _ => ∃ (m : Mach) (n : Nat) (v : V), vs = [v, .int (n : Int)] ∧ m.WF ∧ m.counters ≤ 1 ∧ n ≤ 1000 ∧ Rep H (encM m) v ∧ RetR (IsV (.int (MS.enough m n : Int))) H Q
theorem scEn : FnScope ["machine", "number", "power", "_"] ["machine", "number"] (defScope sEn) := ⟨rfl, rfl, rfl, by decide +kernel, rfl, by decide +kernel, by decide +kernel⟩
theorem ok_en {f : Addr} {fd : FuncData} (F : Fun K "enough" "enough" sEn f fd) (T : Txt K mg) : FnOk P w K mg base CX0 1 f fd ["machine", "number"] spEn := by
  refine F.ok scEn (fun vs H Q E h => ?_) (fun cdv A outer s H vs Q E hr h => ?_)
  · obtain ⟨m, n, v, rfl, _⟩ := h
    rfl
  · obtain ⟨m, n, v, rfl, W, hc, hn, hv, k⟩ := h
    refine ⟨_, (pss_cons (ps_set (i := 2) scEn.nd rfl (by first | exact Or.inl rfl | exact Or.inr rfl) pe_int)
      (pss_cons (ps_for PassesOwn.never rfl (pi_range1 (by rfl) T.range (pa_cons (pe_ix ix_tup (pv 0) pe_int (fun _ _ => rfl)) pa_nil)) (pg_name (i := 3) scEn.nd rfl (by first | exact Or.inl rfl | exact Or.inr rfl)) (pss_one (ps_aug (i := 2) scEn.nd rfl (Or.inl rfl) (pe_op op_add (pv 1) pe_int) iop_mul)))
      (pss_one (ps_ret (pe_op op_add (pe_op op_mul (pe_ix ix_tup (pv 0) pe_int (fun _ _ => rfl)) (pv 2)) pe_int))))), ?_⟩
    have s3 := W.s3
    refine q_asg ev_c fun H1 e1 => ?_
    refine q_forR1 (n := (m.counters : Int)) (ea_cons (er_num (er_ixn (er_var rfl (hv.ex e1)) ev_c rfl)) ea_nil) (by omega) (fun i σ' H' => (∃ x, σ' = [some v, some (V.int (n : Int)), some (.int (((n + 1) ^ i : Nat) : Int)), x]) ∧ Ex H H') (fun H2 e2 => ⟨⟨_, rfl⟩, e1.trans e2⟩) ?_ ?_
    · rintro i σ1 H2 hi ⟨⟨x, rfl⟩, e2⟩
      have hi0 : i = 0 := by omega
      subst hi0
      show tAug _ _ _ _ ([some v, some (V.int (n : Int)), some (.int (((n + 1) ^ 0 : Nat) : Int)), some (.int ((0 : Nat) : Int))] : L2.St) H2
      refine ⟨_, rfl, ?_⟩
      refine ev_op (ev_var (v := .int (n : Int)) rfl) ev_c rv_I0 H2 (Ex.refl _) _ fun H3 e3 => ?_
      refine ⟨_, _, rfl, rfl, .inl ⟨by simp, by simp⟩, ⟨some (.int ((0 : Nat) : Int)), ?_⟩, e2.trans e3⟩
      simp
    · rintro σ1 H2 ⟨⟨x, rfl⟩, e2⟩
      rw [Int.toNat_natCast]
      have hp : (n + 1) ^ m.counters ≤ 1001 := by
        have : m.counters = 0 ∨ m.counters = 1 := by omega
        rcases this with h | h <;> rw [h]
        · simp
        · simp; omega
      refine s_ret (v := .int (MS.enough m n : Int)) ?_ fun H3 e3 => k _ H3 (e2.trans e3) rfl
      have := ev_op (σ := [some v, some (V.int (n : Int)), some (.int (((n + 1) ^ m.counters : Nat) : Int)), x]) (H := H2) (ev_op (er_num (er_ixn (K := K) (n := 0) (er_var (i := 0) rfl (hv.ex e2)) ev_c rfl)) (ev_var (i := 2) (v := .int (((n + 1) ^ m.counters : Nat) : Int)) rfl) (rv_I (C := CMul) (g := fun i j => V.int (i * j)) (.inl ⟨by omega, by omega⟩))) (ev_c (v := .int 2)) (rv_I0 (g := fun i j => V.int (i + j)))
      have e : (m.states : Int) * (((n + 1) ^ m.counters : Nat) : Int) + 2 = ((MS.enough m n : Nat) : Int) := by
        unfold MS.enough MS.rng
        push_cast
        rfl
      rw [e] at this
      exact this
theorem ev_en {σ : L2.St} {H : Hp} {ta tb : TE} {m : Mach} {n : Nat} (W : m.WF) (hc : m.counters ≤ 1) (hn : n ≤ 1000) (ha : EvR ta σ H (RepR (encM m))) (hb : Ev tb σ H (.int (n : Int))) : Ev (tCall spEn [] E0 (tCons ta (tCons tb tNil))) σ H (.int (MS.enough m n : Int)) :=
  (er_call (ea1 ha (monoRep _) (ea1 (EvR.of hb) (monoV _) ea0)) fun vs H2 e rs Q q => by
    obtain ⟨v, u, rfl, hv, rfl⟩ := args2 rs
    exact ⟨m, n, v, rfl, W, hc, hn, hv, q⟩).ev
/-! ### sorted -/
theorem alike_nums : ∀ a b : List Nat, PySem.W.alikeAll (NestedKey.datas (a.map encN)) (NestedKey.datas (b.map encN)) = true
  | [], _ => by simp [NestedKey.datas, PySem.W.alikeAll]
  | _ :: _, [] => by simp [NestedKey.datas, PySem.W.alikeAll]
  | a :: as, b :: bs => by
    simp only [List.map_cons, NestedKey.datas, PySem.W.alikeAll, Bool.and_eq_true]
    exact ⟨rfl, alike_nums as bs⟩
theorem alike_C (p q : Cfg) : PySem.W.alike (encC p).data (encC q).data = true := by
  simp only [encC, encTup, NestedKey.data, NestedKey.datas, PySem.W.alike, PySem.W.alikeAll, Bool.and_true, Bool.and_eq_true]
  exact ⟨rfl, alike_nums _ _⟩
theorem srt_C {H : Hp} {ps : List It2} (h : ∀ p ∈ ps, Rep H p.1 p.2 ∧ ∃ q, p.1 = encC q) : Srt H ps := by
  refine ⟨fun p hp => (h p hp).1, fun p hp => ?_, fun d hd d' hd' => ?_, .inl fun d hd => ?_⟩
  · obtain ⟨q, e⟩ := (h p hp).2
    rw [e]
    have := (fit_C q).2
    omega
  · obtain ⟨p, hp, rfl⟩ := List.mem_map.mp hd
    obtain ⟨p', hp', rfl⟩ := List.mem_map.mp hd'
    obtain ⟨q, e⟩ := (h p hp).2
    obtain ⟨q', e'⟩ := (h p' hp').2
    show PySem.W.alike p.1.data p'.1.data = true
    rw [e, e']
    exact alike_C q q'
  · obtain ⟨p, hp, rfl⟩ := List.mem_map.mp hd
    obtain ⟨q, e⟩ := (h p hp).2
    show ∃ x r, p.1.data = .tuple (x :: r)
    rw [e]
    simp only [encC, NestedKey.data, NestedKey.datas]
    exact ⟨_, _, rfl⟩
theorem srt_N {H : Hp} {ps : List It2} (h : ∀ p ∈ ps, Rep H p.1 p.2 ∧ ∃ q, p.1 = encN q) : Srt H ps := by
  refine ⟨fun p hp => (h p hp).1, fun p hp => ?_, fun d hd d' hd' => ?_, .inr fun d hd => ?_⟩
  · obtain ⟨q, e⟩ := (h p hp).2
    rw [e]
    simp [encN, NestedKey.depth]
  · obtain ⟨p, hp, rfl⟩ := List.mem_map.mp hd
    obtain ⟨p', hp', rfl⟩ := List.mem_map.mp hd'
    obtain ⟨q, e⟩ := (h p hp).2
    obtain ⟨q', e'⟩ := (h p' hp').2
    show PySem.W.alike p.1.data p'.1.data = true
    rw [e, e']
    rfl
  · obtain ⟨p, hp, rfl⟩ := List.mem_map.mp hd
    obtain ⟨q, e⟩ := (h p hp).2
    show p.1.data ≠ .none ∧ ∀ xs, p.1.data ≠ .tuple xs
    rw [e]
    simp [encN, NestedKey.data]
theorem un_map {α : Type} {en : α → D} {l : List α} : ∀ (ds : List D), (∀ d ∈ ds, ∃ a, a ∈ l ∧ d = en a) → ∃ l' : List α, ds = l'.map en ∧ ∀ a ∈ l', a ∈ l
  | [], _ => ⟨[], rfl, fun a h => by cases h⟩
  | d :: ds, h => by
    obtain ⟨a, ha, rfl⟩ := h d List.mem_cons_self
    obtain ⟨l', rfl, h'⟩ := un_map ds fun d hd => h d (List.mem_cons_of_mem _ hd)
    exact ⟨a :: l', rfl, fun b hb => by rcases List.mem_cons.mp hb with rfl | hb; exact ha; exact h' b hb⟩
theorem reps_zip {H : Hp} : ∀ {ds : List D} {vs : List V}, Reps H ds vs → ∀ p ∈ ds.zip vs, Rep H p.1 p.2
  | [], _, h, p, hp => by cases h; cases hp
  | d :: ds, _, h, p, hp => by
    cases h with
    | cons h1 h2 =>
      rcases List.mem_cons.mp hp with rfl | hp
      · exact h1
      · exact reps_zip h2 p hp
theorem reps_of {H : Hp} : ∀ {ps : List It2}, (∀ p ∈ ps, Rep H p.1 p.2) → Reps H (ps.map (·.1)) (ps.map (·.2))
  | [], _ => .nil
  | p :: ps, h => .cons (h p List.mem_cons_self) (reps_of fun q hq => h q (List.mem_cons_of_mem _ hq))
/-- a list with the same members -/
def SameAs {α : Type} (l' l : List α) : Prop := (∀ a, a ∈ l' ↔ a ∈ l) ∧ l'.length = l.length
theorem sorted_out {α : Type} {en : α → D} (inj : ∀ a b, en a = en b → a = b) {l : List α} {ps ps' : List It2} (e : ps.map (·.1) = l.map en) (pm : ps'.Perm ps) : ∃ l', ps'.map (·.1) = l'.map en ∧ SameAs l' l := by
  have pm1 : (ps'.map (·.1)).Perm (l.map en) := by rw [← e]; exact pm.map _
  obtain ⟨l', h1, h2⟩ := un_map (en := en) (l := l) (ps'.map (·.1)) fun d hd => by
    obtain ⟨a, ha, rfl⟩ := List.mem_map.mp (pm1.mem_iff.mp hd)
    exact ⟨a, ha, rfl⟩
  refine ⟨l', h1, fun a => ⟨h2 a, fun ha => ?_⟩, ?_⟩
  · have := pm1.mem_iff.mpr (List.mem_map.mpr ⟨a, ha, rfl⟩)
    rw [h1] at this
    obtain ⟨b, hb, eb⟩ := List.mem_map.mp this
    rw [← inj _ _ eb]
    exact hb
  · have := pm1.length_eq
    rw [h1, List.length_map, List.length_map] at this
    exact this
theorem er_sortL {α : Type} {σ : L2.St} {H : Hp} {ta : TE} {en : α → D} (inj : ∀ a b, en a = en b → a = b) {l : List α} (hs : ∀ H (ps : List It2), (∀ p ∈ ps, Rep H p.1 p.2 ∧ ∃ q, p.1 = en q) → Srt H ps)
    (ha : EvR ta σ H (fun v H' => LRep (l.map en) v H' ∨ Rep H' (.tup (l.map en)) v)) : EvR (tCB (rSortN K P w) (tCons ta tNil)) σ H (fun v H' => ∃ l', SameAs l' l ∧ LRep (l'.map en) v H') := fun H1 e Q q => ha H1 e _ fun v H2 e2 r => by
  obtain ⟨a, vs, rfl, hseq, rv⟩ : ∃ a vs, v = .ref a ∧ (SqL K H2 a vs ∨ SqT K H2 a vs) ∧ Reps H2 (l.map en) vs := by
    rcases r with ⟨a, vs, rfl, h, r⟩ | r
    · exact ⟨a, vs, rfl, .inl (SqL.of h), r⟩
    · obtain ⟨a, vs, rfl, h, r⟩ := rep_tup r
      exact ⟨a, vs, rfl, .inr (SqT.of h), r⟩
  have hl := rv.length
  have m1 : ((l.map en).zip vs).map (·.1) = l.map en := List.map_fst_zip (by omega)
  have m2 : ((l.map en).zip vs).map (·.2) = vs := List.map_snd_zip (by omega)
  have hrep := reps_zip rv
  refine ⟨a, (l.map en).zip vs, rfl, hs H2 _ fun p hp => ⟨hrep p hp, ?_⟩, .inl (by rw [m2]; exact hseq), fun ps' p pm hp => ?_⟩
  · have := List.mem_map_of_mem (f := (·.1)) hp
    rw [m1] at this
    obtain ⟨b, _, eb⟩ := List.mem_map.mp this
    exact ⟨b, eb.symm⟩
  · obtain ⟨l', e1, sm⟩ := sorted_out inj m1 pm
    have rr := reps_of (H := H2) (ps := ps') fun p hp => hrep p (pm.mem_iff.mp hp)
    rw [e1] at rr
    exact q _ _ (e2.trans (Ex.new hp)) ⟨l', sm, p, _, rfl, upd_same, rr.ex (Ex.new hp)⟩
theorem er_sortD {α : Type} {σ : L2.St} {H : Hp} {ta : TE} {en : α → D} (inj : ∀ a b, en a = en b → a = b) {p : Addr} {kvs : List (D × V)} {S : α → Prop} (hs : ∀ H (ps : List It2), (∀ p ∈ ps, Rep H p.1 p.2 ∧ ∃ q, p.1 = en q) → Srt H ps)
    (ha : Ev ta σ H (.ref p)) (g : NDR P w H p kvs) (ka : KeysAre kvs en S) (nd : (kvs.map (·.1)).Nodup) : EvR (tCB (rSortN K P w) (tCons ta tNil)) σ H (fun v H' => ∃ l' : List α, (∀ a, a ∈ l' ↔ S a) ∧ l'.Nodup ∧ LRep (l'.map en) v H') := fun H1 e Q q => ha H1 e _ fun H2 e2 => by
  obtain ⟨ts, rd, hfl, kin⟩ := g.ex (e.trans e2)
  have m1 : (ts.map fun t => ((t.1, V.ref t.2.1) : It2)).map (·.1) = kvs.map (·.1) := by rw [← hfl]; simp [flat, List.map_map, Function.comp_def]
  have hall : ∀ d ∈ kvs.map (·.1), ∃ a, S a ∧ d = en a := fun d hd => by
    obtain ⟨kv, hkv, rfl⟩ := List.mem_map.mp hd
    exact ka.1 kv hkv
  have hrep : ∀ p ∈ (ts.map fun t => ((t.1, V.ref t.2.1) : It2)), Rep H2 p.1 p.2 := fun p hp => by
    obtain ⟨t, ht, rfl⟩ := List.mem_map.mp hp
    exact (kin t ht).1
  refine ⟨p, ts.map fun t => (t.1, V.ref t.2.1), rfl, hs H2 _ fun p hp => ⟨hrep p hp, ?_⟩, .inr ⟨ts, rd, kin, by rw [List.map_map]; rfl⟩, fun ps' pp pm hp => ?_⟩
  · have := List.mem_map_of_mem (f := (·.1)) hp
    rw [m1] at this
    obtain ⟨b, _, eb⟩ := hall _ this
    exact ⟨b, eb⟩
  · have pm1 : (ps'.map (·.1)).Perm (kvs.map (·.1)) := by rw [← m1]; exact pm.map _
    have un : ∀ ds : List D, (∀ d ∈ ds, ∃ a, S a ∧ d = en a) → ∃ l' : List α, ds = l'.map en ∧ ∀ a ∈ l', S a := fun ds => by
      induction ds with
      | nil => exact fun _ => ⟨[], rfl, fun a h => by cases h⟩
      | cons d ds ih =>
        intro h
        obtain ⟨a, ha, rfl⟩ := h d List.mem_cons_self
        obtain ⟨l', rfl, h'⟩ := ih fun d hd => h d (List.mem_cons_of_mem _ hd)
        exact ⟨a :: l', rfl, fun b hb => by rcases List.mem_cons.mp hb with rfl | hb; exact ha; exact h' b hb⟩
    obtain ⟨l', h1, h2⟩ := un (ps'.map (·.1)) fun d hd => hall d (pm1.mem_iff.mp hd)
    have rr := reps_of (H := H2) (ps := ps') fun p hp => hrep p (pm.mem_iff.mp hp)
    rw [h1] at rr
    refine q _ _ (e2.trans (Ex.new hp)) ⟨l', fun a => ⟨h2 a, fun ha => ?_⟩, ?_, pp, _, rfl, upd_same, rr.ex (Ex.new hp)⟩
    · obtain ⟨v, hv⟩ := valV_in (ka.2 a ha)
      have := pm1.mem_iff.mpr (List.mem_map.mpr ⟨_, hv, rfl⟩)
      rw [h1] at this
      obtain ⟨b, hb, eb⟩ := List.mem_map.mp this
      rw [← inj _ _ eb]
      exact hb
    · have nd2 := pm1.nodup_iff.mpr nd
      rw [h1] at nd2
      exact List.Pairwise.of_map en (fun a b hab z => hab (by rw [z])) nd2
theorem putK_nodup {kvs : List (D × V)} (h : (kvs.map (·.1)).Nodup) (k : D) (v : V) : ((putK kvs k v).map (·.1)).Nodup := by
  unfold putK
  split
  · have : (kvs.map fun kv => if kv.1 = k then (kv.1, v) else kv).map (·.1) = kvs.map (·.1) := by
      rw [List.map_map]
      refine List.map_congr_left fun kv _ => ?_
      show (if kv.1 = k then (kv.1, v) else kv).1 = kv.1
      split <;> rfl
    rw [this]
    exact h
  · rename_i hn
    rw [List.map_append]
    refine List.nodup_append.mpr ⟨h, by simp, fun a ha b hb => ?_⟩
    have hb' : b = k := by simpa using hb
    subst hb'
    intro e
    subst e
    obtain ⟨kv, hkv, e⟩ := List.mem_map.mp ha
    exact hn (List.any_eq_true.mpr ⟨kv, hkv, by simp [e]⟩)
/-! ### heaps but for some tables -/
def Mk (Ps : List Addr) (H : Hp) : Hp := fun b => if b ∈ Ps then none else H b
def Tabs (Ps : List Addr) (H : Hp) : Prop := ∀ p ∈ Ps, TabG H p
theorem mk_ex (Ps : List Addr) (H : Hp) : Ex (Mk Ps H) H := fun a o h => by
  unfold Mk at h
  split at h
  · cases h
  · exact h
theorem mk_tex {Ps : List Addr} {H : Hp} (t : Tabs Ps H) : TEx H (Mk Ps H) := fun a xs h => by
  unfold Mk
  split
  · rename_i hp
    obtain ⟨ps, e, _⟩ := t a hp
    rw [h] at e
    cases e
  · exact h
theorem mk_trans {Ps : List Addr} {H H1 H2 : Hp} (a : Ex (Mk Ps H) H1) (b : Ex (Mk Ps H1) H2) : Ex (Mk Ps H) H2 := fun x o h => by
  refine b x o ?_
  have h1 := a x o h
  unfold Mk at h ⊢
  split at h
  · cases h
  · rename_i hx
    rw [if_neg hx]
    exact h1
theorem tabs_ex {Ps : List Addr} {H H1 : Hp} (a : Ex H H1) (t : Tabs Ps H) : Tabs Ps H1 := fun p hp => by
  obtain ⟨ps, e, o⟩ := t p hp
  exact ⟨ps, a _ _ e, o⟩
theorem tabs_upd {Ps : List Addr} {H : Hp} {p : Addr} {o : HO} (t : Tabs Ps H) (h : p ∉ Ps) : Tabs Ps (upd H p o) := fun q hq => by
  obtain ⟨ps, e, ok⟩ := t q hq
  have hne : q ≠ p := fun z => by subst z; exact h hq
  exact ⟨ps, by rw [upd_ne hne]; exact e, ok⟩
theorem tabbed_ex {Ps : List Addr} {H H1 : Hp} {p : Addr} (hp : p ∈ Ps) (t : Tabbed p H H1) (ts : Tabs Ps H) : Ex (Mk Ps H) H1 ∧ Tabs Ps H1 := by
  refine ⟨fun x o h => ?_, fun q hq => ?_⟩
  · unfold Mk at h
    split at h
    · cases h
    · rename_i hx
      rw [t.2 x (fun z => by subst z; exact hx hp)]
      exact h
  · by_cases e : q = p
    · subst e; exact t.1
    · obtain ⟨ps, e1, ok⟩ := ts q hq
      exact ⟨ps, by rw [t.2 q e]; exact e1, ok⟩
theorem not_tab {Ps : List Addr} {H : Hp} {p : Addr} (t : Tabs Ps H) (h : ∀ ps, H p ≠ some (.tbl ps)) : p ∉ Ps := fun hp => by
  obtain ⟨ps, e, _⟩ := t p hp
  exact h ps e
/-- what a def with a generator leaves -/
def RetM (Ps : List Addr) (R : RL) (H : Hp) (Q : VK) : Prop := ∀ u H2, Ex (Mk Ps H) H2 → Tabs Ps H2 → R u H2 → Q u H2
end
end MW
end
section
set_option Elab.async false
set_option linter.all false
set_option maxRecDepth 100000
set_option maxHeartbeats 4000000
/-! after_letter, is_above. -/
namespace MW
open PySem PySem.Spec PyProof.Rows L2 Evl
open MS (Val Tab Mach Line Cfg Poss)
/-- a def whose code object is told -/
structure FunC (K : PySem.W.Frag) (x qual : PySem.Str) (st : Stmt) (f : Addr) (fd : FuncData) (c : Addr) : Prop where
  ex : ∃ (oc : Value) (od : Option Addr) (kV doc pm : Value) (an : Option Addr) (ct : Value) (osl : Array (Option Value)),
    fd = PySem.W.fnOf x qual (defArgs st) (defBody st) (defScope st) .none kV doc pm an (.ref c) ct ∧ K.lookup f = some ⟨oc, od, .func fd, osl⟩ ∧ PySem.W.codeIn K (.ref c) qual = true
  kp : PySem.W.keepIn K (.ref f) = true
def genC (sc scope : Scope) : Bool := (match scope.kind with | .function => true | _ => false) && (!scope.isCoroutine) && (scope.names.all fun y => match y.2 with | .cell => false | .free => (match sc.names.lookup y.1 with | some .cell => true | _ => false) | _ => true) &&
  (match scope.names.lookup (".0" : PySem.Str) with | some .local => true | _ => false)
theorem genS_by {X : Cx} {sc scope : Scope} (h : genC sc scope = true) (e : X.env.scope = sc := by rfl) : ∀ (pins : List (Addr × Obj)) (s : Shared) (σ : L2.St) (H : Hp), Inv X pins σ H s → GenS X.env scope := fun pins s σ H I => by
  unfold genC at h
  simp only [Bool.and_eq_true, List.all_eq_true] at h
  obtain ⟨⟨⟨h1, h2⟩, h3⟩, h4⟩ := h
  refine ⟨?_, by simpa using h2, fun y hy z => ?_, ?_, fun y hy z => ?_⟩
  · split at h1
    · assumption
    · cases h1
  · have := h3 y hy
    rw [z] at this
    cases this
  · split at h4
    · assumption
    · cases h4
  · have := h3 y hy
    rw [z] at this
    dsimp only at this
    split at this
    · rename_i q
      exact I.ok.has _ (.inl (show X.env.scope.names.lookup y.1 = some .cell by rw [e]; exact q))
    · cases this
section
variable {P : Program} {w : World} {K : PySem.W.Frag} {mg : PySem.Str → Option Value} {base : Heap}
theorem FunC.ok {x qual : PySem.Str} {st : Stmt} {f c : Addr} {fd : FuncData} {N ps : List PySem.Str} {k : Nat} {sp : Sp} (F : FunC K x qual st f fd c) (S : FnScope N ps (defScope st)) (len : ∀ vs H Q E, sp vs H Q E → vs.length = ps.length)
    (hbody : ∀ (A : Around) (outer : List Env) (s : Shared) (H : Hp) (vs : List V) (Q : VK) (E : XK), Room k (A.deeper (envOfC qual (defScope st) s.heap.objs.size f (.ref c))) → sp vs H Q E →
      ∃ t, PSs (cxOf CX0 P w K mg base N qual (defScope st) f (.ref c) A outer s H E).nox (defBody st) t ∧ t { nx := fun _ H' => Q .non H', rt := Q } (start N vs) H) : FnOk P w K mg base CX0 (k + 1) f fd ps sp := by
  obtain ⟨oc, od, kV, doc, pm, an, ct, osl, rfl, lk, hcd⟩ := F.ex
  refine fn_of lk hcd S len fun A outer s H vs Q E hr hsp => ?_
  obtain ⟨t, h, q⟩ := hbody A outer s H vs Q E hr hsp
  exact ⟨t, h.nox, q⟩
/-! ### loops with any target -/
theorem fr_tupG {α : Type} {σ : L2.St} {H H0 : Hp} {De : Ends} {tu : TS} {g : TG} {l : List α} {en : α → D} {tt : TE} (e : Ex H0 H) (ht : EvP tt σ H H0 (RepR (.tup (l.map en)))) (Pv : Nat → L2.St → Hp → Prop) (h0 : Pv 0 σ H) (hk : ∀ i σ' H', Pv i σ' H' → Ex H0 H')
    (hs : ∀ i a v σ' H', l[i]? = some a → Rep H' (en a) v → Pv i σ' H' → g v σ' H' fun σ2 H2 => tu { De with nx := Pv (i + 1), ct := Pv (i + 1), bk := De.nx } σ2 H2) (hd : ∀ σ' H', Pv l.length σ' H' → De.nx σ' H') : tFor (iTup K tt) g tu De σ H := by
  refine ht _ fun v r => ?_
  obtain ⟨a, vs, rfl, ha, rv⟩ := rep_tup r
  have hl := rv.length
  rw [List.length_map] at hl
  refine ⟨a, rfl, ⟨vs, SqT.of (e _ _ ha)⟩, for_tup Pv h0 (fun i σ' H' _ p => SqT.of (hk i σ' H' p _ _ ha)) (fun i x σ' H' hx p => ?_) (fun σ' H' p => hd σ' H' (by rw [← hl]; exact p))⟩
  obtain ⟨d, hd, rd⟩ := rv.at hx
  rw [List.getElem?_map] at hd
  obtain ⟨b, hb, rfl⟩ := Option.map_eq_some_iff.mp hd
  exact hs i b x σ' H' hb (rd.ex (hk i σ' H' p)) p
theorem fr_lst {α : Type} {σ : L2.St} {H H0 : Hp} {De : Ends} {tu : TS} {g : TG} {l : List α} {en : α → D} {tt : TE} (e : Ex H0 H) (ht : EvP tt σ H H0 (LRep (l.map en))) (Pv : Nat → L2.St → Hp → Prop) (h0 : Pv 0 σ H) (hk : ∀ i σ' H', Pv i σ' H' → Ex H0 H')
    (hs : ∀ i a v σ' H', l[i]? = some a → Rep H' (en a) v → Pv i σ' H' → g v σ' H' fun σ2 H2 => tu { De with nx := Pv (i + 1), ct := Pv (i + 1), bk := De.nx } σ2 H2) (hd : ∀ σ' H', Pv l.length σ' H' → De.nx σ' H') : tFor (iList K tt) g tu De σ H := by
  refine ht _ fun v r => ?_
  obtain ⟨a, vs, rfl, ha, rv⟩ := r
  have hl := rv.length
  rw [List.length_map] at hl
  refine ⟨a, rfl, ⟨vs, SqL.of (e _ _ ha)⟩, for_list Pv h0 (fun i σ' H' _ p => SqL.of (hk i σ' H' p _ _ ha)) (fun i x σ' H' hx p => ?_) (fun σ' H' p => hd σ' H' (by rw [← hl]; exact p))⟩
  obtain ⟨d, hd, rd⟩ := rv.at hx
  rw [List.getElem?_map] at hd
  obtain ⟨b, hb, rfl⟩ := Option.map_eq_some_iff.mp hd
  exact hs i b x σ' H' hb (rd.ex (hk i σ' H' p)) p
/-! ### members of tuples of ints -/
theorem inV_nums (i : Nat) (l : List Nat) : inV (.int (i : Int)) ((l.map fun n : Nat => (n : Int)).map V.int) = decide (i ∈ l) := by
  have : ∀ l : List Nat, inV (.int (i : Int)) ((l.map fun n : Nat => (n : Int)).map V.int) = true ↔ i ∈ l := fun l => by
    unfold inV
    rw [List.any_eq_true]
    constructor
    · rintro ⟨y, hy, e⟩
      obtain ⟨z, hz, rfl⟩ := List.mem_map.mp hy
      obtain ⟨n, hn, rfl⟩ := List.mem_map.mp hz
      have : ((n : Int) == (i : Int)) = true := e
      have : (n : Int) = (i : Int) := by simpa using this
      have : n = i := by omega
      rw [← this]; exact hn
    · intro h
      exact ⟨.int (i : Int), List.mem_map.mpr ⟨(i : Int), List.mem_map.mpr ⟨i, h, rfl⟩, rfl⟩, by show ((i : Int) == (i : Int)) = true; simp⟩
  by_cases h : i ∈ l
  · rw [decide_eq_true h]; exact (this l).mpr h
  · rw [decide_eq_false h]
    cases h2 : inV (.int (i : Int)) ((l.map fun n : Nat => (n : Int)).map V.int)
    · rfl
    · exact absurd ((this l).mp h2) h
theorem nums_of {H : Hp} {l : List Nat} {vs : List V} (h : Reps H (l.map encN) vs) : vs = (l.map fun n : Nat => (n : Int)).map V.int := by
  have : l.map encN = (l.map fun n : Nat => (n : Int)).map NestedKey.num := by rw [List.map_map]; rfl
  rw [this] at h
  exact h.nums_eq
theorem all_flat (l : List Nat) : ((l.map fun n : Nat => (n : Int)).map V.int).all flatV = true := by
  rw [List.all_eq_true]
  intro x hx
  obtain ⟨z, _, rfl⟩ := List.mem_map.mp hx
  rfl
theorem ev_inNums {σ : L2.St} {H : Hp} {ta tb : TE} {i : Nat} {l : List Nat} (ha : Ev ta σ H (.int (i : Int))) (hb : EvR tb σ H (RepR (encTup l))) : Ev (tOp (rIn K false) ta tb) σ H (.bl (decide (i ∈ l))) := fun H1 e Q q =>
  ha H1 e _ fun H2 e2 => hb H2 (e.trans e2) _ fun v H3 e3 r => by
    obtain ⟨a, vs, rfl, h2, r2⟩ := rep_tup r
    have := nums_of r2
    subst this
    refine ⟨a, _, rfl, .inr (SqT.of h2), rfl, all_flat l, ?_⟩
    show Q (.bl (if false = true then _ else inV (.int (i : Int)) ((l.map fun n : Nat => (n : Int)).map V.int))) H3
    rw [inV_nums]
    exact q H3 (e2.trans e3)
/-! ### a set of ints -/
theorem er_sortSet {α : Type} {σ : L2.St} {H : Hp} {tt : TE} {tc : TT} {te : TE} {i : Nat} {l : List α} {en : α → D} {b : α → Bool} {f : α → Nat} (ht : EvR tt σ H (LRep (l.map en))) (hn : l.length ≤ 60)
    (hc : ∀ d v H1, d ∈ l → Ex H H1 → Rep H1 (en d) v → EvT tc ((σ.set i none).set i (some v)) H1 (b d)) (he : ∀ d v H1, d ∈ l → b d = true → Ex H H1 → Rep H1 (en d) v → Ev te ((σ.set i none).set i (some v)) H1 (.int (f d : Int))) :
    EvR (tCB (rSortedSet w) (tCons (tSi w (iList K tt) (gName i) tc te [i]) tNil)) σ H (fun v H' => ∃ ns : List Nat, (∀ t, t ∈ ns ↔ ∃ a, a ∈ l ∧ b a = true ∧ f a = t) ∧ ns.length ≤ l.length ∧ LRep (ns.map encN) v H') := fun H1 e Q q => by
  refine ht H1 e _ fun v H2 e2 r => ?_
  obtain ⟨a, vs, rfl, ha, rv⟩ := r
  have hl := rv.length
  rw [List.length_map] at hl
  refine ⟨a, rfl, ⟨vs, SqL.of ha⟩, fun D hD => ?_⟩
  refine ⟨fun j n Hj => n = l.length - j ∧ j ≤ l.length ∧ Ex H2 Hj ∧ ∃ S n, Hj D = some (SetO w D S n) ∧ n ≤ j ∧ ∀ k : Int, S k = true ↔ ∃ a, a ∈ l.take j ∧ b a = true ∧ (f a : Int) = k, ⟨l.length, by simp, Nat.zero_le _, Ex.new hD, _, 0, upd_same, Nat.le_refl _, fun k => ⟨fun h => (by cases h), fun ⟨a, h, _⟩ => (by cases h)⟩⟩, ?_⟩
  rintro j n Hj ⟨rfl, hj, ej, S, n, hS, hnj, hSk⟩
  have hq : Hj a = some (.lst vs) := ej _ _ ha
  by_cases hlt : j < l.length
  · refine .inr ⟨⟨vs, vs[j]'(by omega), SqL.of hq, by simp [show j < vs.length by omega]⟩, fun Hk => Ex H2 Hk ∧ ∃ S n, Hk D = some (SetO w D S n) ∧ n ≤ j + 1 ∧ ∀ k : Int, S k = true ↔ ∃ a, a ∈ l.take (j + 1) ∧ b a = true ∧ (f a : Int) = k, fun H' h' => ⟨l.length - (j + 1), by omega, rfl, hlt, h'⟩, fun x Hk hy => ?_⟩
    obtain ⟨rfl, hy⟩ := hy
    have hx := hy vs (SqL.of hq)
    obtain ⟨d0, hd0, rd⟩ := (rv.ex ej).at hx
    rw [List.getElem?_map] at hd0
    obtain ⟨d, hd, rfl⟩ := Option.map_eq_some_iff.mp hd0
    have hdm : d ∈ l := List.mem_of_getElem? hd
    have etk : l.take (j + 1) = l.take j ++ [d] := by rw [List.take_add_one, hd]; rfl
    refine ⟨wipe_back σ i _, ?_⟩
    refine hc d x Hk hdm ((e.trans e2).trans ej) rd Hk (Ex.refl _) _ fun H4 e4 => ?_
    cases hb : b d with
    | false =>
      refine iteF ⟨ej.trans e4, S, n, e4 _ _ hS, by omega, fun k => ?_⟩
      rw [hSk k, etk]
      constructor
      · rintro ⟨a, h1, h2, h3⟩
        exact ⟨a, List.mem_append_left _ h1, h2, h3⟩
      · rintro ⟨a, h1, h2, h3⟩
        rcases List.mem_append.mp h1 with h1 | h1
        · exact ⟨a, h1, h2, h3⟩
        · rw [List.mem_singleton.mp h1, hb] at h2
          cases h2
    | true =>
      refine iteT ?_
      refine he d x H4 hdm hb (((e.trans e2).trans ej).trans e4) (rd.ex e4) H4 (Ex.refl H4) _ fun H5 e5 => ?_
      refine ⟨(f d : Int), S, n, rfl, e5 _ _ (e4 _ _ hS), by unfold scanBound; omega, ((ej.trans e4).trans e5).mut hD, _, _, upd_same, by split <;> omega, fun k => ?_⟩
      rw [Bool.or_eq_true, hSk k, etk]
      constructor
      · rintro (⟨a, h1, h2, h3⟩ | h)
        · exact ⟨a, List.mem_append_left _ h1, h2, h3⟩
        · exact ⟨d, List.mem_append_right _ (List.mem_singleton.mpr rfl), hb, by have := of_decide_eq_true h; exact this.symm⟩
      · rintro ⟨a, h1, h2, h3⟩
        rcases List.mem_append.mp h1 with h1 | h1
        · exact .inl ⟨a, h1, h2, h3⟩
        · rw [List.mem_singleton.mp h1] at h3
          exact .inr (decide_eq_true h3.symm)
  · have hj' : j = l.length := by omega
    subst hj'
    rw [List.take_length] at hSk
    refine .inl ⟨⟨vs, SqL.of hq, by omega⟩, ?_⟩
    refine ⟨D, S, n, rfl, hS, by omega, fun ns p _ hk hlen hp => ?_⟩
    obtain ⟨ns', hns'⟩ : ∃ ns' : List Nat, ns' = ns.map Int.toNat := ⟨_, rfl⟩
    have hnn : ∀ k, k ∈ ns → ∃ a, a ∈ l ∧ b a = true ∧ (f a : Int) = k := fun k h => (hSk k).mp ((hk k).mp h)
    have e1 : ns.map V.int = (ns'.map fun n : Nat => (n : Int)).map V.int := by
      rw [hns', List.map_map, List.map_map]
      refine List.map_congr_left fun k h => ?_
      obtain ⟨a, _, _, rfl⟩ := hnn k h
      simp
    refine q _ _ ((e2.trans ej).trans (Ex.new hp)) ⟨ns', fun t => ?_, by rw [hns', List.length_map, hlen]; exact hnj, p, _, rfl, upd_same, ?_⟩
    · rw [hns']
      constructor
      · intro h
        obtain ⟨k, h1, rfl⟩ := List.mem_map.mp h
        obtain ⟨a, h2, h3, rfl⟩ := hnn k h1
        exact ⟨a, h2, h3, by simp⟩
      · rintro ⟨a, h1, h2, rfl⟩
        exact List.mem_map.mpr ⟨(f a : Int), (hk _).mpr ((hSk _).mpr ⟨a, h1, h2, rfl⟩), by simp⟩
    · rw [e1]
      have : ns'.map encN = (ns'.map fun n : Nat => (n : Int)).map NestedKey.num := by rw [List.map_map]; rfl
      rw [this]
      exact Reps.nums _
/-! ### after_letter -/
def POk (m : Mach) (n : Nat) (p : Poss) : Prop := (∀ s ∈ p.1, s < m.states) ∧ p.1.length ≤ 6 ∧ (∀ q ∈ p.2, q.1 < m.states ∧ q.2.length = m.counters ∧ q.2.headD 0 ≤ n) ∧ p.2.length ≤ 15
theorem small_len {m : Mach} (W : m.WF) (hc : m.counters ≤ 1) {n : Nat} (hn : n ≤ 4) {l : List Cfg} (nd : l.Nodup) (h : ∀ q ∈ l, q.1 < m.states ∧ q.2.length = m.counters ∧ q.2.headD 0 ≤ n) : l.length ≤ 15 := by
  refine Nat.le_of_not_lt fun hlt => ?_
  have s3 := W.s3
  have hg : ∀ (i : Nat) (hi : i < l.length), l.getD i (0, []) = l[i] := fun i hi => by rw [List.getD_eq_getElem?_getD, List.getElem?_eq_getElem hi]; rfl
  obtain ⟨a, b, hab, hb, e⟩ := MS.pigeon 15 (fun i => (l.getD i (0, [])).1 * 5 + (l.getD i (0, [])).2.headD 0) 16 (by omega) fun i hi => by
    show (l.getD i (0, [])).1 * 5 + (l.getD i (0, [])).2.headD 0 < 15
    rw [hg i (by omega)]
    have := h l[i] (List.getElem_mem _)
    omega
  have ha' : a < l.length := by omega
  have hb' : b < l.length := by omega
  have e : (l.getD a (0, [])).1 * 5 + (l.getD a (0, [])).2.headD 0 = (l.getD b (0, [])).1 * 5 + (l.getD b (0, [])).2.headD 0 := e
  rw [hg a ha', hg b hb'] at e
  have h1 := h l[a] (List.getElem_mem _)
  have h2 := h l[b] (List.getElem_mem _)
  have e1 : l[a].1 = l[b].1 := by omega
  have e2 : l[a].2.headD 0 = l[b].2.headD 0 := by omega
  have e3 : l[a].2 = l[b].2 := by
    have l1 := h1.2.1
    have l2 := h2.2.1
    have hcc : m.counters = 0 ∨ m.counters = 1 := by omega
    rcases hcc with z | z
    · rw [z] at l1 l2
      rw [List.length_eq_zero_iff.mp l1, List.length_eq_zero_iff.mp l2]
    · rw [z] at l1 l2
      obtain ⟨x, hx⟩ := List.length_eq_one_iff.mp l1
      obtain ⟨y, hy⟩ := List.length_eq_one_iff.mp l2
      rw [hx, hy] at e2 ⊢
      have : x = y := e2
      rw [this]
  have := (List.getElem_inj nd).mp (Prod.ext e1 e3 : l[a] = l[b])
  omega
theorem all_le {c : List Nat} (hc : c.length ≤ 1) (n : Nat) : (c.map fun i : Nat => decide ((i : Int) ≤ (n : Int))).all id = decide (c.headD 0 ≤ n) := by
  match c, hc with
  | [], _ => simp
  | [x], _ =>
    simp
/-- a pair of values -/
theorem er_pair {σ : L2.St} {H : Hp} {ta tb : TE} {R1 R2 : RL} (ha : EvR ta σ H R1) (m1 : MonoR R1) (hb : EvR tb σ H R2) (m2 : MonoR R2) : EvR (tTup (tCons ta (tCons tb tNil))) σ H (fun v H' => ∃ a x y, v = .ref a ∧ H' a = some (.tup [x, y]) ∧ R1 x H' ∧ R2 y H') := fun H1 e Q q =>
  ha H1 e _ fun x H2 e2 r1 => hb H2 (e.trans e2) _ fun y H3 e3 r2 => ⟨by show 2 ≤ sizeLine; decide, fun p hp => q _ _ ((e2.trans e3).trans (Ex.new hp)) ⟨p, x, y, rfl, upd_same, m1 _ _ _ (e3.trans (Ex.new hp)) r1, m2 _ _ _ (Ex.new hp) r2⟩⟩
theorem er_tupleX {α : Type} {σ : L2.St} {H : Hp} {te : TE} {C : List α → Prop} {en : α → D} (h : EvR te σ H (fun v H' => ∃ l : List α, C l ∧ LRep (l.map en) v H')) : EvR (tCB (rTup K) (tCons te tNil)) σ H (fun v H' => ∃ l : List α, C l ∧ Rep H' (.tup (l.map en)) v) := fun H1 e Q q => h H1 e _ fun v H2 e2 r => by
  obtain ⟨l, hC, p, vs, rfl, hp, rv⟩ := r
  exact ⟨p, vs, rfl, .inl ⟨SqL.of hp, fun a ha => q _ _ (e2.trans (Ex.new ha)) ⟨l, hC, .tup upd_same (rv.ex (Ex.new ha))⟩⟩⟩
theorem q_pair {σ : L2.St} {H : Hp} {te : TE} {De : Ends} {tz : TS} {i j t : Nat} {x y : V} (h : ∀ Q : VK, Q (.ref t) H → te σ H Q) (hp : H t = some (.tup [x, y])) (k : tz De ((σ.set i (some x)).set j (some y)) H) : tSeq (tAsg te (gTup K 2 (gCons (gName i) (gCons (gName j) gNil)))) tz De σ H :=
  h _ (g_pair hp k)
abbrev sAL : Stmt := topS 29
def spAL (Ps : List Addr) : Sp := fun vs H Q _ => ∃ (m : Mach) (a n : Nat) (p : Poss) (v1 v3 : V), vs = [v1, .int (a : Int), v3, .int (n : Int)] ∧ m.WF ∧ m.counters ≤ 1 ∧ n ≤ 4 ∧ POk m n p ∧ Tabs Ps H ∧ Rep H (encM m) v1 ∧ Rep H (encP p) v3 ∧
  RetM Ps (fun u H' => ∃ p', MS.After m n a p p' ∧ POk m n p' ∧ Rep H' (encP p') u) H Q
theorem scAL : FnScope ["machine", "letter", "possibility", "number", "all_states", "cheap", "step", "steps", "states", "found", "state", "counters", "after"] ["machine", "letter", "possibility", "number"] (defScope sAL) := ⟨rfl, rfl, rfl, by decide +kernel, rfl, by decide +kernel, by decide +kernel⟩
def Hit (m : Mach) (n : Nat) (r : Cfg) (s : Nat × Nat × Nat × Nat) (q : Cfg) : Prop := s.2.1 = r.1 ∧ q = (s.2.2.1, MS.app s.2.2.2 r.2) ∧ (MS.app s.2.2.2 r.2).headD 0 ≤ n
theorem ok_al {Ps : List Addr} {c P1 : Addr} (hP : P1 ∈ Ps) {fAp f : Addr} {dAp fd : FuncData} (F : FunC K "after_letter" "after_letter" sAL f fd c) (T : Txt K mg) (TB : LamX.TabB base mg c P1) (cAp : Cal P w K mg base CX0 1 "applied" ["action", "counters"] spAp fAp dAp) :
    FnOk P w K mg base CX0 2 f fd ["machine", "letter", "possibility", "number"] (spAL Ps) := by
  refine F.ok scAL (fun vs H Q E h => ?_) (fun A outer s H vs Q E hr h => ?_)
  · obtain ⟨m, a, n, p, v1, v3, rfl, _⟩ := h
    rfl
  · obtain ⟨m, a, n, p, v1, v3, rfl, W, hc, hn, hp, tb, r1, r3, k⟩ := h
    refine ⟨_, (pss_cons (ps_asg (pv 2) (pg_tup rfl (pgs_cons (pg_name (i := 4) scAL.nd rfl (by first | exact Or.inl rfl | exact Or.inr rfl)) (pgs_cons (pg_name (i := 5) scAL.nd rfl (by first | exact Or.inl rfl | exact Or.inr rfl)) pgs_nil))))
      (pss_cons (ps_setLc (i := 7) (own := [("step", 6)]) (tt := (tTest (tOp rEq (tOp (rIxT K) (tVar 6) (tC (.int 0))) (tVar 1)))) (te := (tVar 6)) rfl scAL.nd rfl rfl rfl (pi_tup (pe_ix ix_tup (pv 0) pe_int (fun _ _ => rfl))) (blkOk_by (N := ["machine", "letter", "possibility", "number", "all_states", "cheap", "step", "steps", "states", "found", "state", "counters", "after"]) (sc := defScope sAL) (own := [("step", 6)]) (by decide +kernel)) (fun _ _ _ _ _ => (pg_name (i := 6) scAL.nd rfl (by first | exact Or.inl rfl | exact Or.inr rfl))) (fun _ _ _ _ _ => (pts_one (pt_cmpR op_eq (pe_ix ix_tup (pv 6) pe_int (fun _ _ => rfl)) (pv 1) (nomark _)))) (fun _ _ _ _ _ => (pv 6)))
      (pss_cons (ps_set (i := 8) scAL.nd rfl (by first | exact Or.inl rfl | exact Or.inr rfl) (pe_callB (cr_sortedSet rfl) (by rfl) T.sorted (by decide +kernel) (pa_cons (pe_si (own := [("step", 6)]) (tt := (tTest (tOp (rIn K false) (tOp (rIxT K) (tVar 6) (tC (.int 1))) (tVar 4)))) (te := (tOp (rIxT K) (tVar 6) (tC (.int 2)))) rfl scAL.nd (pi_list (pv 7)) (blkOk_by (N := ["machine", "letter", "possibility", "number", "all_states", "cheap", "step", "steps", "states", "found", "state", "counters", "after"]) (sc := defScope sAL) (own := [("step", 6)]) (by decide +kernel)) (fun _ _ _ _ _ => (pg_name (i := 6) scAL.nd rfl (by first | exact Or.inl rfl | exact Or.inr rfl))) (fun _ _ _ _ _ => (pts_one (pt_cmpR op_in_seq (pe_ix ix_tup (pv 6) pe_int (fun _ _ => rfl)) (pv 4) (by rfl)))) (fun _ _ _ _ _ => (pe_ix ix_tup (pv 6) pe_int (fun _ _ => rfl)))) pa_nil)))
      (pss_cons (ps_set (i := 9) scAL.nd rfl (by first | exact Or.inl rfl | exact Or.inr rfl) pe_nnew)
      (pss_cons (ps_for PassesOwn.never rfl (pi_tup (pv 5)) (pg_tup rfl (pgs_cons (pg_name (i := 10) scAL.nd rfl (by first | exact Or.inl rfl | exact Or.inr rfl)) (pgs_cons (pg_name (i := 11) scAL.nd rfl (by first | exact Or.inl rfl | exact Or.inr rfl)) pgs_nil))) (pss_one (ps_for PassesOwn.never rfl (pi_list (pv 7)) (pg_name (i := 6) scAL.nd rfl (by first | exact Or.inl rfl | exact Or.inr rfl)) (pss_cons (ps_set (i := 12) scAL.nd rfl (by first | exact Or.inl rfl | exact Or.inr rfl) (pe_cal cAp hr pass0 (pa_cons (pe_ix ix_tup (pv 6) pe_int (fun _ _ => rfl)) (pa_cons (pv 11) pa_nil))))
      (pss_one (ps_if (PW.pt (pw_and (pt_cmpR op_eq (pe_ix ix_tup (pv 6) pe_int (fun _ _ => rfl)) (pv 10) (nomark _)) (pw_and1 (pt_val (pe_allT (er := erLe 3) hr (by rfl) T.all TB rfl (genS_by (sc := defScope sAL) (by decide +kernel)) rfl (pv 12) (elt_le rfl rfl rfl rfl (by decide +kernel) rfl)))))) (pss_one (ps_nput hr.units (pv 9) (pe_tup (pa_cons (pe_ix ix_tup (pv 6) pe_int (fun _ _ => rfl)) (pa_cons (pv 12) pa_nil))) pe_bl rfl)) pss_nil))))))
      (pss_one (ps_ret (pe_tup (pa_cons (pe_callTy call_tuple_of (by rfl) T.tuple (by decide +kernel) (pa_cons (pv 8) pa_nil)) (pa_cons (pe_callTy call_tuple_of (by rfl) T.tuple (by decide +kernel) (pa_cons (pe_callB (cr_sortN rfl hr.units) (by rfl) T.sorted (by decide +kernel) (pa_cons (pv 9) pa_nil)) pa_nil)) pa_nil)))))))))), ?_⟩
    have tx := mk_tex tb
    have x0 := mk_ex Ps H
    obtain ⟨tP, ws, rfl, htP, rws⟩ := rep_tup r3
    obtain ⟨x, y, rfl, rx, ry⟩ : ∃ x y, ws = [x, y] ∧ Rep H (encTup p.1) x ∧ Rep H (.tup (p.2.map encC)) y := by
      cases rws with
      | cons h1 h2 => cases h2 with
        | cons h2 h3 => cases h3; exact ⟨_, _, rfl, h1, h2⟩
    refine q_pair (fun Q q => ⟨_, rfl, q⟩) htP ?_
    show tSeq _ _ _ ([some v1, some (V.int (a : Int)), some (.ref tP), some (V.int (n : Int)), some x, some y, none, none, none, none, none, none, none] : L2.St) H
    refine qr_asg (R := LRep ((m.steps.filter fun s => decide (s.1 = a)).map encS)) ?_ fun v7 H1 e1 r7 => ?_
    · refine el_tup' (en := encS) (b := fun s => decide (s.1 = a)) (er_ixn (n := 3) (d := .tup (m.steps.map encS)) (er_var (i := 0) rfl r1) ev_c rfl) (by have := W.sl; omega) (fun st u H1 hst e ru => ?_) (fun st u H1 hst hb e ru => er_var rfl ru)
      have := et_test (ev_eqI (er_num (er_ixn (K := K) (n := 0) (er_var (σ := [some v1, some (V.int (a : Int)), some (.ref tP), some (V.int (n : Int)), some x, some y, some u, none, none, none, none, none, none]) (i := 6) rfl ru) ev_c rfl)) (ev_var (i := 1) (v := .int (a : Int)) rfl))
      have e : decide ((st.1 : Int) = (a : Int)) = decide (st.1 = a) := decide_eq_decide.mpr ⟨fun h => by omega, fun h => by omega⟩
      rw [e] at this
      exact this
    generalize hsts : (m.steps.filter fun s => decide (s.1 = a)) = sts at r7
    have hstm : ∀ st, st ∈ sts ↔ st ∈ m.steps ∧ st.1 = a := fun st => by rw [← hsts, List.mem_filter]; simp
    have hstl : sts.length ≤ 6 := by rw [← hsts]; have := W.sl; have := List.length_filter_le (fun s : Nat × Nat × Nat × Nat => decide (s.1 = a)) m.steps; omega
    show tSeq _ _ _ ([some v1, some (V.int (a : Int)), some (.ref tP), some (V.int (n : Int)), some x, some y, none, some v7, none, none, none, none, none] : L2.St) H1
    refine qr_asg (R := fun v H' => ∃ ns : List Nat, (∀ t, t ∈ ns ↔ ∃ s, s ∈ sts ∧ decide (s.2.1 ∈ p.1) = true ∧ s.2.2.1 = t) ∧ ns.length ≤ sts.length ∧ LRep (ns.map encN) v H') ?_ fun v8 H2 e2 r8 => ?_
    · refine er_sortSet (l := sts) (en := encS) (b := fun s => decide (s.2.1 ∈ p.1)) (f := fun s => s.2.2.1) (er_varR (i := 7) rfl (monoL _) r7) (by omega) (fun st u H2 hst e ru => ?_) (fun st u H2 hst hb e ru => er_num (er_ixn (n := 2) (d := encN st.2.2.1) (er_var rfl ru) ev_c rfl))
      exact et_test (ev_inNums (er_num (er_ixn (K := K) (n := 1) (d := encN st.2.1) (er_var (i := 6) rfl ru) ev_c rfl)) (er_var (i := 4) rfl ((rx.ex e1).ex e)))
    obtain ⟨ns, hns, hnl, r8⟩ := r8
    refine fun pf hpf => ?_
    show tSeq _ _ _ ([some v1, some (V.int (a : Int)), some (.ref tP), some (V.int (n : Int)), some x, some y, none, some v7, some v8, some (.ref pf), none, none, none] : L2.St) (upd H2 pf (NDO P w pf []))
    have e12 : Ex H H2 := e1.trans e2
    have tb2 : Tabs Ps H2 := tabs_ex e12 tb
    have hpP : pf ∉ Ps := not_tab tb2 fun ps z => by rw [hpf] at z; cases z
    have tx2 := mk_tex tb2
    have eB : Ex (Mk Ps H2) (upd H2 pf (NDO P w pf [])) := (mk_ex Ps H2).trans (Ex.new hpf)
    have hpB : Mk Ps H2 pf = none := by unfold Mk; rw [if_neg hpP]; exact hpf
    have R1 : Rep (Mk Ps H2) (encM m) v1 := (r1.ex e12).tx tx2
    have Ry : Rep (Mk Ps H2) (.tup (p.2.map encC)) y := (ry.ex e12).tx tx2
    have lB : ∀ {ds : List D} {v : V}, LRep ds v H2 → LRep ds v (Mk Ps H2) := fun {ds v} h => by
      obtain ⟨q, vs, rfl, hq, rv⟩ := h
      refine ⟨q, vs, rfl, ?_, rv.tx tx2⟩
      unfold Mk
      rw [if_neg (not_tab tb2 fun ps z => by rw [hq] at z; cases z)]
      exact hq
    have R7 : LRep (sts.map encS) v7 (Mk Ps H2) := lB (monoL _ _ _ _ e2 r7)
    have R8 := lB r8
    have eBH : Ex (Mk Ps H) (Mk Ps H2) := fun z o h => by
      have h1 := mk_trans (Ps := Ps) (x0.trans e12) (Ex.refl _) |> fun _ => e12 z o (x0 z o h)
      unfold Mk at h ⊢
      split at h
      · cases h
      · rename_i hz; rw [if_neg hz]; exact h1
    have hsmall : ∀ q : Cfg, (∃ r st, r ∈ p.2 ∧ st ∈ sts ∧ Hit m n r st q) → q.1 < m.states ∧ q.2.length = m.counters ∧ q.2.headD 0 ≤ n := fun q ⟨r, st, hr1, hst, h1, h2, h3⟩ => by
      have hs := W.st st ((hstm st).mp hst).1
      have hr2 := hp.2.2.1 r hr1
      subst h2
      refine ⟨hs.2.2.1, ?_, h3⟩
      rw [MS.app_len hc hs.2.2.2 hr2.2.1]
    have inv : ∀ {H' : Hp} {kvs : List (D × V)} {S : Cfg → Prop}, KeysAre kvs encC S → (kvs.map (·.1)).Nodup → (∀ q, S q → ∃ r st, r ∈ p.2 ∧ st ∈ sts ∧ Hit m n r st q) → kvs.length ≤ 15 := fun {H' kvs S} ka nd hS => by
      obtain ⟨l', e1, h2⟩ : ∃ l' : List Cfg, kvs.map (·.1) = l'.map encC ∧ ∀ a ∈ l', S a := by
        have un : ∀ ds : List D, (∀ d ∈ ds, ∃ a, S a ∧ d = encC a) → ∃ l' : List Cfg, ds = l'.map encC ∧ ∀ a ∈ l', S a := fun ds => by
          induction ds with
          | nil => exact fun _ => ⟨[], rfl, fun a h => by cases h⟩
          | cons d ds ih =>
            intro h
            obtain ⟨a, ha, rfl⟩ := h d List.mem_cons_self
            obtain ⟨l', rfl, h'⟩ := ih fun d hd => h d (List.mem_cons_of_mem _ hd)
            exact ⟨a :: l', rfl, fun b hb => by rcases List.mem_cons.mp hb with rfl | hb; exact ha; exact h' b hb⟩
        exact un _ fun d hd => by obtain ⟨kv, hkv, rfl⟩ := List.mem_map.mp hd; exact ka.1 kv hkv
      rw [e1] at nd
      have := small_len W hc hn (List.Pairwise.of_map encC (fun a b hab z => hab (by rw [z])) nd) fun q hq => hsmall q (hS q (h2 q hq))
      have hl := congrArg List.length e1
      rw [List.length_map, List.length_map] at hl
      omega
    -- the two loops
    let Sij : Nat → Nat → Cfg → Prop := fun i j q => (∃ r st, r ∈ p.2.take i ∧ st ∈ sts ∧ Hit m n r st q) ∨ ∃ r st, p.2[i]? = some r ∧ st ∈ sts.take j ∧ Hit m n r st q
    have hS : ∀ i j q, Sij i j q → ∃ r st, r ∈ p.2 ∧ st ∈ sts ∧ Hit m n r st q := fun i j q h => by
      rcases h with ⟨r, st, h1, h2, h3⟩ | ⟨r, st, h1, h2, h3⟩
      · exact ⟨r, st, List.mem_of_mem_take h1, h2, h3⟩
      · exact ⟨r, st, List.mem_of_getElem? h1, List.mem_of_mem_take h2, h3⟩
    let Iv : Nat → Nat → L2.St → Hp → Prop := fun i j σ' H' => (∃ a6 a10 a11 a12, σ' = [some v1, some (V.int (a : Int)), some (.ref tP), some (V.int (n : Int)), some x, some y, a6, some v7, some v8, some (.ref pf), a10, a11, a12]) ∧ Ex (Mk Ps H2) H' ∧ Tabs Ps H' ∧ ∃ kvs, NDS P w H' pf kvs ∧ KeysAre kvs encC (Sij i j) ∧ (kvs.map (·.1)).Nodup
    refine fr_tupG (De := { nx := _, rt := Q }) (H0 := Mk Ps H2) (l := p.2) (en := encC) eB (ep_var rfl Ry) (fun i => Iv i 0) ⟨⟨_, _, _, _, rfl⟩, eB, tabs_upd tb2 hpP, [], ⟨[], upd_same, rfl, fun t ht => (by cases ht)⟩, ⟨fun kv h => (by cases h), fun q h => ?_⟩, List.nodup_nil⟩ (fun i σ' H' h => h.2.1) ?_ ?_
    · -- nothing was found yet
      rcases h with ⟨r, st, h1, _⟩ | ⟨r, st, _, h1, _⟩
      · cases h1
      · cases h1
    · rintro i r v σ1 H1' hi rv ⟨⟨a6, a10, a11, a12, rfl⟩, eb, tb1, kvs, nd, ka, kn⟩
      have hrm : r ∈ p.2 := List.mem_of_getElem? hi
      have hr3 := hp.2.2.1 r hrm
      obtain ⟨tQ, ws, rfl, htQ, rws⟩ := rep_tup rv
      obtain ⟨x1, y1, rfl, rx1, ry1⟩ : ∃ x1 y1, ws = [x1, y1] ∧ Rep H1' (encN r.1) x1 ∧ Rep H1' (encTup r.2) y1 := by
        cases rws with
        | cons h1 h2 => cases h2 with
          | cons h2 h3 => cases h3; exact ⟨_, _, rfl, h1, h2⟩
      have hx1 : x1 = .int (r.1 : Int) := rep_num rx1
      subst hx1
      refine g_pair htQ ?_
      show tFor _ _ _ _ ([some v1, some (V.int (a : Int)), some (.ref tP), some (V.int (n : Int)), some x, some y, a6, some v7, some v8, some (.ref pf), some (.int (r.1 : Int)), some y1, a12] : L2.St) H1'
      -- the tuple of the counters stands from here on
      have tx1 := mk_tex tb1
      have ry2 : Rep (Mk Ps H1') (encTup r.2) y1 := ry1.tx tx1
      refine fr_lst (H0 := Mk Ps H2) (l := sts) (en := encS) (g := gName 6) eb (ep_var rfl R7) (fun j σ' H' => (∃ a6 a12, σ' = [some v1, some (V.int (a : Int)), some (.ref tP), some (V.int (n : Int)), some x, some y, a6, some v7, some v8, some (.ref pf), some (.int (r.1 : Int)), some y1, a12]) ∧ Ex (Mk Ps H2) H' ∧ Tabs Ps H' ∧ Rep H' (encTup r.2) y1 ∧ ∃ kvs, NDS P w H' pf kvs ∧ KeysAre kvs encC (Sij i j) ∧ (kvs.map (·.1)).Nodup) ⟨⟨_, _, rfl⟩, eb, tb1, ry1, kvs, nd, ka, kn⟩ (fun _ _ _ h => h.2.1) ?_ ?_
      · rintro j st u σ2 H3 hj ru ⟨⟨a6', a12', rfl⟩, e3, tb3, ryy, kvs3, nd3, ka3, kn3⟩
        have hstm' : st ∈ sts := List.mem_of_getElem? hj
        have hWs := W.st st ((hstm st).mp hstm').1
        show tSeq _ _ _ ([some v1, some (V.int (a : Int)), some (.ref tP), some (V.int (n : Int)), some x, some y, some u, some v7, some v8, some (.ref pf), some (.int (r.1 : Int)), some y1, a12'] : L2.St) H3
        have hall : (MS.app st.2.2.2 r.2).length ≤ 1 := by rw [MS.app_len hc hWs.2.2.2 hr3.2.1]; exact hc
        refine qr_asg (R := RepR (encTup (MS.app st.2.2.2 r.2))) ?_ fun v12 H4 e4 r12 => ?_
        · exact er_ap (x := st.2.2.2) (c := r.2) (by rw [hr3.2.1]; exact hWs.2.2.2) (by rw [hr3.2.1]; exact hc) (er_num (er_ixn (n := 3) (d := encN st.2.2.2) (er_var (i := 6) rfl ru) ev_c rfl)) (er_var (i := 11) rfl ryy)
        show tIfS _ _ _ _ ([some v1, some (V.int (a : Int)), some (.ref tP), some (V.int (n : Int)), some x, some y, some u, some v7, some v8, some (.ref pf), some (.int (r.1 : Int)), some y1, some v12] : L2.St) H4
        have tb4 := tabs_ex e4 tb3
        have tst : EvT (tTest (tOp rEq (tOp (rIxT K) (tVar 6) (tC (.int 1))) (tVar 10))) [some v1, some (V.int (a : Int)), some (.ref tP), some (V.int (n : Int)), some x, some y, some u, some v7, some v8, some (.ref pf), some (.int (r.1 : Int)), some y1, some v12] H4 (decide (st.2.1 = r.1)) := by
          have := et_test (ev_eqI (er_num (er_ixn (K := K) (n := 1) (d := encN st.2.1) (er_var (σ := [some v1, some (V.int (a : Int)), some (.ref tP), some (V.int (n : Int)), some x, some y, some u, some v7, some v8, some (.ref pf), some (.int (r.1 : Int)), some y1, some v12]) (i := 6) rfl (ru.ex e4)) ev_c rfl)) (ev_var (i := 10) (v := .int (r.1 : Int)) rfl))
          have e : decide ((st.2.1 : Int) = (r.1 : Int)) = decide (st.2.1 = r.1) := decide_eq_decide.mpr ⟨fun h => by omega, fun h => by omega⟩
          rw [e] at this
          exact this
        have keep : ∀ (H5 : Hp), Ex (Mk Ps H4) H5 → Tabs Ps H5 → ¬ Hit m n r st (st.2.2.1, MS.app st.2.2.2 r.2) → ((∃ a6 a12, ([some v1, some (V.int (a : Int)), some (.ref tP), some (V.int (n : Int)), some x, some y, some u, some v7, some v8, some (.ref pf), some (.int (r.1 : Int)), some y1, some v12] : L2.St) = [some v1, some (V.int (a : Int)), some (.ref tP), some (V.int (n : Int)), some x, some y, a6, some v7, some v8, some (.ref pf), some (.int (r.1 : Int)), some y1, a12]) ∧ Ex (Mk Ps H2) H5 ∧ Tabs Ps H5 ∧ Rep H5 (encTup r.2) y1 ∧ ∃ kvs, NDS P w H5 pf kvs ∧ KeysAre kvs encC (Sij i (j + 1)) ∧ (kvs.map (·.1)).Nodup) := fun H5 e5 tb5 hno => by
          have tx4 := mk_tex tb4
          refine ⟨⟨_, _, rfl⟩, mk_trans (e3.trans e4) e5, tb5, ((ryy.ex e4).tx tx4).ex e5, kvs3, ?_, ?_, kn3⟩
          · obtain ⟨tn, h1, h2, h3⟩ := nd3
            refine ⟨tn, e5 _ _ ?_, h2, (h3.tx (TEx.of e4)).tx (tx4.trans (TEx.of e5))⟩
            unfold Mk
            rw [if_neg hpP]
            exact e4 _ _ h1
          · have etk : sts.take (j + 1) = sts.take j ++ [st] := by rw [List.take_add_one, hj]; rfl
            refine ⟨fun kv hkv => ?_, fun q hq => ka3.2 q ?_⟩
            · obtain ⟨q, hq, e⟩ := ka3.1 kv hkv
              refine ⟨q, ?_, e⟩
              rcases hq with hq | ⟨r', st', h1, h2, h3⟩
              · exact .inl hq
              · exact .inr ⟨r', st', h1, by rw [etk]; exact List.mem_append_left _ h2, h3⟩
            · rcases hq with hq | ⟨r', st', h1, h2, h3⟩
              · exact .inl hq
              · rw [etk] at h2
                rcases List.mem_append.mp h2 with h2 | h2
                · exact .inr ⟨r', st', h1, h2, h3⟩
                · have e1 : st' = st := List.mem_singleton.mp h2
                  have e2 : r' = r := by rw [hi] at h1; exact (Option.some.inj h1).symm
                  subst e1; subst e2
                  have : q = (st'.2.2.1, MS.app st'.2.2.2 r'.2) := h3.2.1
                  subst this
                  exact absurd h3 hno
        refine tst H4 (Ex.refl _) _ fun H5 e5 => ?_
        have tb5 := tabs_ex e5 tb4
        have e45 : Ex (Mk Ps H4) H5 := (mk_ex Ps H4).trans e5
        cases hq1 : decide (st.2.1 = r.1) with
        | false =>
          refine iteF ?_
          exact iteF (keep H5 e45 tb5 fun h => by have := h.1; simp [this] at hq1)
        | true =>
          refine iteT ?_
          refine ⟨_, rfl, ?_⟩
          obtain ⟨tA, wA, rfl, htA, rA⟩ := rep_tup (r12.ex e5)
          have hwA := nums_of rA
          subst hwA
          refine ⟨tA, _, (MS.app st.2.2.2 r.2).map fun i : Nat => decide ((i : Int) ≤ (n : Int)), rfl, SqT.of htA, tb5 P1 hP, ⟨by simp, fun jj yy bb h1 h2 => ?_⟩, fun H6 tbd => ?_⟩
          · rw [List.getElem?_map, List.getElem?_map] at h1
            rw [List.getElem?_map] at h2
            obtain ⟨z, hz, rfl⟩ := Option.map_eq_some_iff.mp h2
            rw [hz] at h1
            cases h1
            exact ⟨(z : Int), (n : Int), rfl, rfl, rfl⟩
          · rw [all_le hall]
            obtain ⟨e6, tb6⟩ := tabbed_ex hP tbd tb5
            have e46 : Ex (Mk Ps H4) H6 := mk_trans e45 e6
            refine ⟨_, rfl, ?_⟩
            cases hq2 : decide ((MS.app st.2.2.2 r.2).headD 0 ≤ n) with
            | false => exact iteF (keep H6 e46 tb6 fun h => absurd (decide_eq_true h.2.2) (by rw [hq2]; decide))
            | true =>
              refine iteT ?_
              have tx4 := mk_tex tb4
              have ru6 : Rep H6 (encS st) u := ((ru.ex e4).tx tx4).ex e46
              have r126 : Rep H6 (encTup (MS.app st.2.2.2 r.2)) (.ref tA) := (r12.tx tx4).ex e46
              refine ⟨_, rfl, ?_⟩
              have et : EvR (tTup (tCons (tOp (rIxT K) (tVar 6) (tC (.int 2))) (tCons (tVar 12) tNil))) [some v1, some (V.int (a : Int)), some (.ref tP), some (V.int (n : Int)), some x, some y, some u, some v7, some v8, some (.ref pf), some (.int (r.1 : Int)), some y1, some (.ref tA)] H6 (RepR (.tup [encN st.2.2.1, encTup (MS.app st.2.2.2 r.2)])) :=
                er_tup (ds := [encN st.2.2.1, encTup (MS.app st.2.2.2 r.2)]) (ea1 (er_ixn (n := 2) (er_var (i := 6) rfl ru6) ev_c rfl) (monoRep _) (ea1 (er_var (i := 12) rfl r126) (monoRep _) ea0)) (by show 2 ≤ 100000; decide)
              refine et H6 (Ex.refl _) _ fun yv H7 e7 ry7 => ?_
              obtain ⟨tn, hn1, hn2, hn3⟩ := nd3
              have nd7 : NDS P w H7 pf kvs3 := ⟨tn, e7 _ _ (e46 _ _ (by unfold Mk; rw [if_neg hpP]; exact e4 _ _ hn1)), hn2, (hn3.tx (TEx.of e4)).tx (tx4.trans (TEx.of (e46.trans e7)))⟩
              refine ⟨pf, kvs3, [encN st.2.2.1, encTup (MS.app st.2.2.2 r.2)], rfl, nd7, ry7, by have := (fit_C (st.2.2.1, MS.app st.2.2.2 r.2)).2; show (encC (st.2.2.1, MS.app st.2.2.2 r.2)).depth ≤ 8; omega, Nat.lt_of_le_of_lt (inv (H' := H7) ka3 kn3 (hS i j)) (by decide), fun o txo nd' => ?_⟩
              have hk2 : Hit m n r st (st.2.2.1, MS.app st.2.2.2 r.2) := ⟨by simpa using hq1, rfl, by simpa using hq2⟩
              refine ⟨⟨_, _, rfl⟩, (mk_trans (e3.trans e4) (e46.trans e7)).mut hpB, tabs_upd (tabs_ex e7 tb6) hpP, (((ryy.ex e4).tx tx4).ex (e46.trans e7)).tx txo, _, nd', ?_, putK_nodup kn3 _ _⟩
              have etk : sts.take (j + 1) = sts.take j ++ [st] := by rw [List.take_add_one, hj]; rfl
              have kp := ka3.put (st.2.2.1, MS.app st.2.2.2 r.2) (.bl true)
              refine ⟨fun kv hkv => ?_, fun q hq => kp.2 q ?_⟩
              · obtain ⟨q, hq, e⟩ := kp.1 kv hkv
                refine ⟨q, ?_, e⟩
                rcases hq with (hq | ⟨r', st', h1, h2, h3⟩) | rfl
                · exact .inl hq
                · exact .inr ⟨r', st', h1, by rw [etk]; exact List.mem_append_left _ h2, h3⟩
                · exact .inr ⟨r, st, hi, by rw [etk]; exact List.mem_append_right _ (List.mem_singleton.mpr rfl), hk2⟩
              · rcases hq with hq | ⟨r', st', h1, h2, h3⟩
                · exact .inl (.inl hq)
                · rw [etk] at h2
                  rcases List.mem_append.mp h2 with h2 | h2
                  · exact .inl (.inr ⟨r', st', h1, h2, h3⟩)
                  · have e1 : st' = st := List.mem_singleton.mp h2
                    have e2 : r' = r := by rw [hi] at h1; exact (Option.some.inj h1).symm
                    subst e1; subst e2
                    exact .inr h3.2.1
      · rintro σ2 H3 ⟨⟨a6', a12', rfl⟩, e3, tb3, ryy, kvs3, nd3, ka3, kn3⟩
        refine ⟨⟨_, _, _, _, rfl⟩, e3, tb3, kvs3, nd3, ?_, kn3⟩
        have etk : p.2.take (i + 1) = p.2.take i ++ [r] := by rw [List.take_add_one, hi]; rfl
        refine ⟨fun kv hkv => ?_, fun q hq => ka3.2 q ?_⟩
        · obtain ⟨q, hq, e⟩ := ka3.1 kv hkv
          refine ⟨q, ?_, e⟩
          rcases hq with ⟨r', st', h1, h2, h3⟩ | ⟨r', st', h1, h2, h3⟩
          · exact .inl ⟨r', st', by rw [etk]; exact List.mem_append_left _ h1, h2, h3⟩
          · rw [hi] at h1
            cases h1
            exact .inl ⟨r, st', by rw [etk]; exact List.mem_append_right _ (List.mem_singleton.mpr rfl), List.mem_of_mem_take h2, h3⟩
        · rcases hq with ⟨r', st', h1, h2, h3⟩ | ⟨r', st', _, h2, _⟩
          · rw [etk] at h1
            rcases List.mem_append.mp h1 with h1 | h1
            · exact .inl ⟨r', st', h1, h2, h3⟩
            · have : r' = r := List.mem_singleton.mp h1
              subst this
              exact .inr ⟨r', st', hi, by rw [List.take_length]; exact h2, h3⟩
          · cases h2
    · rintro σ1 H1' ⟨⟨a6, a10, a11, a12, rfl⟩, eb, tb1, kvs, nd, ka, kn⟩
      have hmem : ∀ q, Sij p.2.length 0 q ↔ ∃ r st, r ∈ p.2 ∧ st ∈ sts ∧ Hit m n r st q := fun q => by
        constructor
        · exact hS _ _ q
        · rintro ⟨r, st, h1, h2, h3⟩
          exact .inl ⟨r, st, by rw [List.take_length]; exact h1, h2, h3⟩
      refine sr_ret (er_pair (R1 := RepR (encTup ns)) (R2 := fun v H' => ∃ l' : List Cfg, ((∀ q, q ∈ l' ↔ Sij p.2.length 0 q) ∧ l'.Nodup) ∧ Rep H' (.tup (l'.map encC)) v) (er_tuple (ds := ns.map encN) (er_varR rfl (monoL _) (monoL _ _ _ _ eb R8))) (monoRep _) (er_tupleX (C := fun l' : List Cfg => (∀ q, q ∈ l' ↔ Sij p.2.length 0 q) ∧ l'.Nodup) ?_) (fun v H H' e ⟨l', h1, h2⟩ => ⟨l', h1, h2.ex e⟩)) fun u H3 e3 ⟨b, x2, y2, hu, hb, hx2, l', ⟨hl', hnd⟩, hy2⟩ => ?_
      · exact (er_sortD (w := w) (P := P) (K := K) (fun _ _ => encC_inj) (fun H ps h => srt_C h) (ev_var (i := 9) rfl) nd.r ka kn).imp fun v H' _ ⟨l', h1, h2, h3⟩ => ⟨l', ⟨h1, h2⟩, h3⟩
      · subst hu
        refine k _ H3 (mk_trans (x0.trans e12) (eb.trans e3)) (tabs_ex e3 tb1) ⟨(ns, l'), ⟨fun t => ?_, fun q => ?_⟩, ⟨fun t ht => ?_, Nat.le_trans hnl hstl, fun q hq => hsmall q ((hmem q).mp ((hl' q).mp hq)), small_len W hc hn hnd fun q hq => hsmall q ((hmem q).mp ((hl' q).mp hq))⟩, .tup hb (.cons hx2 (.cons hy2 .nil))⟩
        · rw [hns t]
          constructor
          · rintro ⟨st, h1, h2, h3⟩
            have := (hstm st).mp h1
            exact ⟨st.2.1, st.2.2.2, by simpa using h2, by rw [← h3, ← this.2]; exact this.1⟩
          · rintro ⟨s, z, h1, h2⟩
            exact ⟨(a, s, t, z), (hstm _).mpr ⟨h2, rfl⟩, by simpa using h1, rfl⟩
        · rw [hl' q, hmem q]
          constructor
          · rintro ⟨r, st, h1, h2, h3, h4, h5⟩
            have := (hstm st).mp h2
            subst h4
            exact ⟨r, st.2.2.2, h1, by rw [← h3, ← this.2]; exact this.1, rfl, h5⟩
          · rintro ⟨r, z, h1, h2, h3, h4⟩
            exact ⟨r, (a, r.1, q.1, z), h1, (hstm _).mpr ⟨h2, rfl⟩, rfl, Prod.ext rfl h3, by rw [← h3]; exact h4⟩
        · obtain ⟨st, h1, _, rfl⟩ := (hns t).mp ht
          exact (W.st st ((hstm st).mp h1).1).2.2.1
/-! ### is_above -/
abbrev sIA : Stmt := topS 30
def spIA (Ps : List Addr) : Sp := fun vs H Q _ => ∃ (m : Mach) (p : Poss) (v1 v2 : V), vs = [v1, v2] ∧ Tabs Ps H ∧ Rep H (encM m) v1 ∧ Rep H (encP p) v2 ∧ RetM Ps (fun u _ => ∃ b, u = .bl b ∧ (b = true ↔ MS.Above m p)) H Q
theorem scIA : FnScope ["machine", "possibility", "accepted"] ["machine", "possibility"] (defScope sIA) := ⟨rfl, rfl, rfl, by decide +kernel, rfl, by decide +kernel, by decide +kernel⟩
theorem rep_lasts {H : Hp} {m : Mach} {v : V} (h : Rep H (encM m) v) : ∃ a vs b, v = .ref a ∧ H a = some (.tup vs) ∧ vs[5]? = some (.ref b) ∧ H b = some (.tup ((m.lasts.map fun n : Nat => (n : Int)).map V.int)) := by
  obtain ⟨a, vs, rfl, ha, rv⟩ := rep_tup h
  obtain ⟨u, hu, ru⟩ := rv.get (i := 5) (d := .tup (m.lasts.map encN)) rfl
  obtain ⟨b, us, rfl, hb, rb⟩ := rep_tup ru
  have := nums_of rb
  subst this
  exact ⟨a, vs, b, rfl, ha, hu, hb⟩
theorem ok_ia {Ps : List Addr} {c P1 : Addr} (hP : P1 ∈ Ps) {f : Addr} {fd : FuncData} (F : FunC K "is_above" "is_above" sIA f fd c) (T : Txt K mg) (TB : LamX.TabB base mg c P1) :
    FnOk P w K mg base CX0 1 f fd ["machine", "possibility"] (spIA Ps) := by
  refine F.ok scIA (fun vs H Q E h => ?_) (fun A outer s H vs Q E hr h => ?_)
  · obtain ⟨m, p, v1, v2, rfl, _⟩ := h
    rfl
  · obtain ⟨m, p, v1, v2, rfl, tb, r1, r2, k⟩ := h
    refine ⟨_, (pss_cons (ps_set (i := 2) scIA.nd rfl (by first | exact Or.inl rfl | exact Or.inr rfl) (pe_anyT (er := erIn 0 5) hr (by rfl) T.any TB rfl (genS_by (sc := defScope sIA) (by decide +kernel)) rfl (pe_ix ix_tup (pv 1) pe_int (fun _ _ => rfl)) (elt_in rfl rfl rfl rfl (by decide +kernel) rfl)))
      (pss_one (ps_ret (pe_and (pv 2) (pe_one (pe_not (pe_anyT2 (er := erIn2 0 5) hr (by rfl) T.any TB rfl (genS_by (sc := defScope sIA) (by decide +kernel)) rfl rfl (by decide +kernel) (pe_ix ix_tup (pv 1) pe_int (fun _ _ => rfl)) (elt_in2 rfl rfl rfl rfl (by decide +kernel) rfl)))))))), ?_⟩
    obtain ⟨aM, vM, bL, rfl, haM, hvM, hbL⟩ := rep_lasts r1
    have tx := mk_tex tb
    have x0 := mk_ex Ps H
    have hin : ∀ {H' : Hp} {σ' : L2.St} (i : Nat), σ'[0]? = some (some (.ref aM)) → TEx H H' → inAt 5 σ' H' 0 (i : Int) (decide (i ∈ m.lasts)) := fun {H' σ'} i h0 e =>
      ⟨aM, vM, bL, m.lasts.map fun n : Nat => (n : Int), h0, e _ _ haM, hvM, e _ _ hbL, (inV_nums i m.lasts).symm⟩
    have e1 : EvR (tOp (rIxT K) (tVar 1) (tC (.int 0))) [some (.ref aM), some v2, none] H (RepR (encTup p.1)) := er_ixn (n := 0) (er_var (i := 1) rfl r2) ev_c rfl
    refine e1 H (Ex.refl H) _ fun v H1 e1 rv => ?_
    obtain ⟨ax, wx, rfl, hax, rax⟩ := rep_tup rv
    have hwx := nums_of rax
    subst hwx
    refine ⟨ax, _, p.1.map fun s => decide (s ∈ m.lasts), rfl, SqT.of hax, (tabs_ex e1 tb) P1 hP, ⟨by simp, fun jj yy bb h1 h2 => ?_⟩, fun H2 tbd => ?_⟩
    · rw [List.getElem?_map, List.getElem?_map] at h1
      rw [List.getElem?_map] at h2
      obtain ⟨z, hz, rfl⟩ := Option.map_eq_some_iff.mp h2
      rw [hz] at h1
      cases h1
      exact ⟨(z : Int), rfl, hin z rfl (TEx.of e1)⟩
    obtain ⟨e2, tb2⟩ := tabbed_ex hP tbd (tabs_ex e1 tb)
    have e02 : Ex (Mk Ps H) H2 := mk_trans (x0.trans e1) e2
    have t02 : TEx H H2 := tx.trans (TEx.of e02)
    have hany : (p.1.map fun s => decide (s ∈ m.lasts)).any id = decide (∃ s, s ∈ p.1 ∧ s ∈ m.lasts) := by
      have : (p.1.map fun s => decide (s ∈ m.lasts)).any id = true ↔ ∃ s, s ∈ p.1 ∧ s ∈ m.lasts := by simp [List.any_eq_true]
      by_cases h : ∃ s, s ∈ p.1 ∧ s ∈ m.lasts
      · rw [decide_eq_true h]; exact this.mpr h
      · rw [decide_eq_false h]
        cases h2 : (p.1.map fun s => decide (s ∈ m.lasts)).any id
        · rfl
        · exact absurd (this.mp h2) h
    rw [hany]
    show tRet (tAndV (tVar 2) (tNotV (tAnyT2 K P1 (erIn2 0 5) (tOp (rIxT K) (tVar 1) (tC (.int 1)))))) { nx := fun x H' => Q V.non H', rt := Q } [some (.ref aM), some v2, some (.bl (decide (∃ s, s ∈ p.1 ∧ s ∈ m.lasts)))] H2
    refine ⟨_, rfl, _, rfl, ?_⟩
    by_cases hA : ∃ s, s ∈ p.1 ∧ s ∈ m.lasts
    · rw [decide_eq_true hA]
      refine iteT ?_
      have e3 : EvR (tOp (rIxT K) (tVar 1) (tC (.int 1))) [some (.ref aM), some v2, some (.bl (decide (∃ s, s ∈ p.1 ∧ s ∈ m.lasts)))] H2 (RepR (.tup (p.2.map encC))) := er_ixn (n := 1) (er_var (i := 1) rfl (r2.tx t02)) ev_c rfl
      rw [decide_eq_true hA] at e3
      refine e3 H2 (Ex.refl _) _ fun v H3 e3 rv => ?_
      obtain ⟨ay, wy, rfl, hay, ray⟩ := rep_tup rv
      have t03 := t02.trans (TEx.of e3)
      have hl := ray.length
      rw [List.length_map] at hl
      have item : ∀ (j : Nat) (yv : V), wy[j]? = some yv → ∃ q : Cfg, p.2[j]? = some q ∧ ∃ t z, yv = .ref t ∧ H3 t = some (.tup [.int (q.1 : Int), z]) := fun j yv hj => by
        obtain ⟨d, hd, rd⟩ := ray.at hj
        rw [List.getElem?_map] at hd
        obtain ⟨q, hq, rfl⟩ := Option.map_eq_some_iff.mp hd
        obtain ⟨t, us, rfl, ht, ru⟩ := rep_tup rd
        cases ru with
        | cons h1 h2 => cases h2 with
          | cons h2 h3 =>
            cases h3
            have := rep_num h1
            subst this
            exact ⟨q, hq, t, _, rfl, ht⟩
      refine ⟨ay, wy, p.2.map fun q => decide (q.1 ∈ m.lasts), rfl, SqT.of hay, fun j yv hj => ?_, (tabs_ex e3 tb2) P1 hP, ⟨by rw [List.length_map]; exact hl.symm, fun jj yy bb h1 h2 => ?_⟩, fun H4 tbd4 => ?_⟩
      · obtain ⟨q, hq, t, z, rfl, ht⟩ := item j yv hj
        exact ⟨t, _, z, rfl, ht⟩
      · obtain ⟨q, hq, t, z, rfl, ht⟩ := item jj yy h1
        rw [List.getElem?_map, hq] at h2
        cases h2
        exact ⟨t, (q.1 : Int), z, rfl, ht, hin q.1 rfl t03⟩
      obtain ⟨e4, tb4⟩ := tabbed_ex hP tbd4 (tabs_ex e3 tb2)
      refine ⟨_, rfl, ?_⟩
      refine k _ H4 (mk_trans (e02.trans e3) e4) tb4 ⟨_, rfl, ?_⟩
      unfold MS.Above
      rw [Bool.not_eq_true']
      constructor
      · intro h
        refine ⟨hA, fun ⟨q, h1, h2⟩ => ?_⟩
        have : (p.2.map fun q => decide (q.1 ∈ m.lasts)).any id = true := List.any_eq_true.mpr ⟨true, List.mem_map.mpr ⟨q, h1, decide_eq_true h2⟩, rfl⟩
        rw [h] at this
        cases this
      · rintro ⟨_, h⟩
        cases h2 : (p.2.map fun q => decide (q.1 ∈ m.lasts)).any id
        · rfl
        · obtain ⟨b, hb, hb2⟩ := List.any_eq_true.mp h2
          obtain ⟨q, hq, rfl⟩ := List.mem_map.mp hb
          exact absurd ⟨q, hq, of_decide_eq_true hb2⟩ h
    · rw [decide_eq_false hA]
      refine iteF ?_
      exact k _ H2 e02 tb2 ⟨false, rfl, fun h => Bool.noConfusion h, fun h => absurd h.1 hA⟩
end
end MW
end
section
set_option Elab.async false
set_option linter.all false
set_option maxRecDepth 100000
set_option maxHeartbeats 4000000
/-! word_above, least_bound. -/
namespace MW
open PySem PySem.Spec PyProof.Rows L2 Evl
open MS (Val Tab Mach Line Cfg Poss)
def Bound (m : Mach) (n : Nat) : Prop := ∀ w : List Nat, (∀ a ∈ w, a < m.letters) → (∃ k, MS.Acc m w k) → MS.Acc m w n
section
variable {P : Program} {w : World} {K : PySem.W.Frag} {mg : PySem.Str → Option Value} {base : Heap}
abbrev sWA : Stmt := topS 31
def spWA (Ps : List Addr) (C : Addr) : Sp := fun vs H Q E => ∃ (m : Mach) (n : Nat) (v1 : V), vs = [v1, .int (n : Int)] ∧ m.WF ∧ m.counters ≤ 1 ∧ n ≤ 4 ∧ Tabs Ps H ∧ Rep H (encM m) v1 ∧
  RetM Ps (fun u _ => u = .non → Bound m n) H Q ∧ ∀ H', Ex (Mk Ps H) H' → Tabs Ps H' → E (.ref C) none H'
theorem scWA : FnScope ["machine", "number", "zeros", "start", "known", "waiting", "place", "possibility", "word", "letter", "new", "state"] ["machine", "number"] (defScope sWA) := ⟨rfl, rfl, rfl, by decide +kernel, rfl, by decide +kernel, by decide +kernel⟩
/-- an item that waits -/
def WI (pw i : Nat) (p : Poss) (v : V) (H : Hp) : Prop := ∃ t q vp wd, v = .ref t ∧ H t = some (.tup [vp, .ref q]) ∧ Rep H (encP p) vp ∧ LRep wd (.ref q) H ∧ wd.length ≤ i ∧ q ≠ pw
theorem WI.go {pk pw i : Nat} {Ps : List Addr} {p : Poss} {v : V} {H H' : Hp} (tb : Tabs Ps H) (hk : ∃ ts, H pk = some (NDO P w pk ts)) (hw : ∃ us, H pw = some (.lst us)) (e : Ex (Mk (pk :: pw :: Ps) H) H') (h : WI pw i p v H) : WI pw i p v H' := by
  obtain ⟨t, q, vp, wd, rfl, ht, rp, ⟨q', vs, hq', hq, rv⟩, hl, hne⟩ := h
  cases hq'
  obtain ⟨ts, hk⟩ := hk
  obtain ⟨us, hw⟩ := hw
  have tx : TEx H H' := fun a xs h => e a _ (by
    unfold Mk
    rw [if_neg]
    · exact h
    · intro hm
      rcases List.mem_cons.mp hm with rfl | hm
      · rw [hk] at h; cases h
      · rcases List.mem_cons.mp hm with rfl | hm
        · rw [hw] at h; cases h
        · obtain ⟨ps, e1, _⟩ := tb a hm
          rw [h] at e1; cases e1)
  refine ⟨t, q, vp, wd, rfl, tx _ _ ht, rp.tx tx, ⟨q, vs, rfl, e _ _ ?_, rv.tx tx⟩, hl, hne⟩
  unfold Mk
  rw [if_neg]
  · exact hq
  · intro hm
    rcases List.mem_cons.mp hm with rfl | hm
    · rw [hk] at hq; cases hq
    · rcases List.mem_cons.mp hm with h | hm
      · exact hne h
      · obtain ⟨ps, e1, _⟩ := tb q hm
        rw [hq] at e1; cases e1
theorem rep_go {pk pw : Addr} {Ps : List Addr} {H H' : Hp} (tb : Tabs Ps H) (hk : ∃ ts, H pk = some (NDO P w pk ts)) (hw : ∃ us, H pw = some (.lst us)) (e : Ex (Mk (pk :: pw :: Ps) H) H') : TEx H H' := fun a xs h => e a _ (by
  obtain ⟨ts, hk⟩ := hk
  obtain ⟨us, hw⟩ := hw
  unfold Mk
  rw [if_neg]
  · exact h
  · intro hm
    rcases List.mem_cons.mp hm with rfl | hm
    · rw [hk] at h; cases h
    · rcases List.mem_cons.mp hm with rfl | hm
      · rw [hw] at h; cases h
      · obtain ⟨ps, e1, _⟩ := tb a hm
        rw [h] at e1; cases e1)
theorem mk_more {Ps : List Addr} {pk pw : Addr} {H H' : Hp} (e : Ex (Mk Ps H) H') : Ex (Mk (pk :: pw :: Ps) H) H' := fun a o h => e a o (by
  unfold Mk at h ⊢
  split at h
  · cases h
  · rename_i hn
    rw [if_neg (fun z => hn (List.mem_cons_of_mem _ (List.mem_cons_of_mem _ z)))]
    exact h)
theorem mk_upd1 {Ps : List Addr} {pk pw : Addr} {H : Hp} {o : HO} : Ex (Mk (pk :: pw :: Ps) H) (upd H pk o) := fun a u h => by
  unfold Mk at h
  split at h
  · cases h
  · rename_i hn
    rw [upd_ne (fun z => hn (by rw [z]; exact List.mem_cons_self))]
    exact h
theorem mk_upd2 {Ps : List Addr} {pk pw : Addr} {H : Hp} {o : HO} : Ex (Mk (pk :: pw :: Ps) H) (upd H pw o) := fun a u h => by
  unfold Mk at h
  split at h
  · cases h
  · rename_i hn
    rw [upd_ne (fun z => hn (by rw [z]; exact List.mem_cons_of_mem _ List.mem_cons_self))]
    exact h
/-- l + m, in a new list -/
theorem er_catN {σ : L2.St} {H : Hp} {ta tb : TE} {ds es : List D} (ha : EvR ta σ H (LRep ds)) (hb : EvR tb σ H (LRep es)) (hl : ds.length + es.length ≤ 100000) : EvR (tOp rCat ta tb) σ H (fun v H' => LRep (ds ++ es) v H' ∧ ∃ l, v = .ref l ∧ H l = none) := fun H1 a Q q =>
  ha H1 a _ fun v H2 e2 r => hb H2 (a.trans e2) _ fun u H3 e3 r2 => by
    obtain ⟨p, vs, rfl, hp, rv⟩ := r
    obtain ⟨p2, us, rfl, hp2, ru⟩ := r2
    have h1 := rv.length
    have h2 := ru.length
    refine ⟨p, p2, vs, us, rfl, rfl, e3 _ _ hp, hp2, sz_of (by omega), fun l hl => ?_⟩
    have x : Ex H3 (upd H3 l (.lst (vs ++ us))) := Ex.new hl
    exact q _ _ ((e2.trans e3).trans x) ⟨⟨l, _, rfl, upd_same, ((rv.ex e3).ex x).app (ru.ex x)⟩, l, rfl, fresh_back (a.trans (e2.trans e3)) hl⟩
theorem P_at {kvs : List (D × V)} {ps : List Poss} (ka : KeysAre kvs encP (fun p => p ∈ ps)) (p : Poss) : (valV kvs (encP p)).isSome = decide (p ∈ ps) := by
  have := ka.iff (fun _ _ => encP_inj) p
  by_cases h : p ∈ ps
  · rw [decide_eq_true h]; exact this.mpr h
  · rw [decide_eq_false h]
    cases h3 : (valV kvs (encP p)).isSome
    · rfl
    · exact absurd (this.mp h3) h
theorem q_ndisp {σ : L2.St} {H : Hp} {De : Ends} {tz : TS} {i j : Nat} {v : V} {ks : List D} (hv : σ[j]? = some (some v)) (r : Rep H (.tup ks) v) (hd : (NestedKey.tup ks).depth ≤ 8)
    (k : ∀ pk ob, H pk = none → NDS P w (upd (upd H pk (NDO P w pk [])) pk ob) pk [(.tup ks, .bl true)] → Rep (upd (upd H pk (NDO P w pk [])) pk ob) (.tup ks) v → tz De (σ.set i (some (.ref pk))) (upd (upd H pk (NDO P w pk [])) pk ob)) : tSeq (tAsg (tNDisp P w (tVar j) (tC (.bl true))) (gName i)) tz De σ H :=
  fun pk hpk => ⟨v, hv, ks, upd_same, r.ex (Ex.new hpk), hd, fun ob txo nd => k pk ob hpk nd ((r.ex (Ex.new hpk)).tx txo)⟩
theorem q_start {σ : L2.St} {H : Hp} {De : Ends} {tz : TS} {i j : Nat} {v : V} (hv : σ[j]? = some (some v))
    (k : ∀ q t p, H q = none → upd H q (.lst []) t = none → upd (upd H q (.lst [])) t (.tup [v, .ref q]) p = none → tz De (σ.set i (some (.ref p))) (upd (upd (upd H q (.lst [])) t (.tup [v, .ref q])) p (.lst [.ref t]))) :
    tSeq (tAsg (tLst (tCons (tTup (tCons (tVar j) (tCons (tLst tNil) tNil))) tNil)) (gName i)) tz De σ H :=
  ⟨v, hv, Nat.zero_le _, fun q hq => ⟨by show 2 ≤ sizeLine; decide, fun t ht => ⟨by show 1 ≤ sizeLine; decide, fun p hp => k q t p hq ht hp⟩⟩⟩
theorem q_whenM {σ : L2.St} {H : Hp} {De : Ends} {t : TT} {tu tz : TS} {C : Bool → Hp → Prop} (h : ∀ Q : Bool → Hp → Prop, (∀ b H1, C b H1 → Q b H1) → t σ H Q) (h1 : ∀ H1, C true H1 → tu { De with nx := tz De } σ H1) (h2 : ∀ H1, C false H1 → tz De σ H1) : tSeq (tIfS t tu tNext) tz De σ H :=
  h _ fun b H1 hc => by
    cases b with
    | true => exact iteT (h1 H1 hc)
    | false => exact iteF (h2 H1 hc)
theorem q_asgM {σ : L2.St} {H : Hp} {De : Ends} {te : TE} {tz : TS} {i : Nat} {C : V → Hp → Prop} (h : ∀ Q : VK, (∀ v H1, C v H1 → Q v H1) → te σ H Q) (k : ∀ v H1, C v H1 → tz De (σ.set i (some v)) H1) : tSeq (tAsg te (gName i)) tz De σ H := h _ k
theorem q_nput {σ : L2.St} {H : Hp} {De : Ends} {tz : TS} {i j : Nat} {ks : List D} {pk : Addr} {kvs : List (D × V)} {vk : V} (h4 : σ[i]? = some (some (.ref pk))) (h10 : σ[j]? = some (some vk)) (nd : NDS P w H pk kvs) (r : Rep H (.tup ks) vk) (hd : (NestedKey.tup ks).depth ≤ 8) (hl : kvs.length < sizeLine)
    (k : ∀ ob, TEx H (upd H pk ob) → NDS P w (upd H pk ob) pk (putK kvs (.tup ks) (.bl true)) → tz De σ (upd H pk ob)) : tSeq (sNPut P w (tVar i) (tVar j) (tC (.bl true))) tz De σ H :=
  ⟨_, h4, _, h10, pk, kvs, ks, rfl, nd, r, hd, hl, k⟩
/-- the item at hand -/
def Item (p : Poss) (vp : V) (q : Addr) (wd : List D) (H : Hp) : Prop := Rep H (encP p) vp ∧ ∃ vs, H q = some (.lst vs) ∧ Reps H wd vs
theorem Item.go {pk pw : Addr} {Ps : List Addr} {p : Poss} {vp : V} {q : Addr} {wd : List D} {H H' : Hp} (tb : Tabs Ps H) (hk : ∃ ts, H pk = some (NDO P w pk ts)) (hw : ∃ us, H pw = some (.lst us)) (e : Ex (Mk (pk :: pw :: Ps) H) H') (hne : q ≠ pw) (h : Item p vp q wd H) : Item p vp q wd H' := by
  have tx := rep_go tb hk hw e
  obtain ⟨h1, vs, h2, h3⟩ := h
  refine ⟨h1.tx tx, vs, e _ _ ?_, h3.tx tx⟩
  obtain ⟨ts, hk⟩ := hk
  unfold Mk
  rw [if_neg]
  · exact h2
  · intro hm
    rcases List.mem_cons.mp hm with rfl | hm
    · rw [hk] at h2; cases h2
    · rcases List.mem_cons.mp hm with h | hm
      · exact hne h
      · obtain ⟨ps, e1, _⟩ := tb q hm
        rw [h2] at e1; cases e1
theorem says_start {m : Mach} {n : Nat} {p0 : Poss} (h1 : SameAs p0.1 m.firsts) (h2 : SameAs p0.2 (m.firsts.map fun f => (f, MS.zeros m))) : MS.Says m n [] p0 := by
  constructor
  · intro s
    rw [h1.1 s]
    constructor
    · intro h; exact ⟨0, MS.zeros m, MS.runTo_nil.mpr ⟨h, rfl⟩⟩
    · rintro ⟨k, c, h⟩; exact (MS.runTo_nil.mp h).1
  · intro q
    rw [h2.1 q, MS.runTo_nil]
    constructor
    · intro h
      obtain ⟨f, hf, rfl⟩ := List.mem_map.mp h
      exact ⟨hf, rfl⟩
    · rintro ⟨a, b⟩
      exact List.mem_map.mpr ⟨q.1, a, Prod.ext rfl b.symm⟩
/-- what the search keeps -/
structure SInv (P : Program) (w : World) (m : Mach) (n : Nat) (Ps : List Addr) (H : Hp) (pk pw : Addr) (p0 : Poss) (ps : List Poss) (H' : Hp) : Prop where
  ex : Ex (Mk Ps H) H'
  tb : Tabs Ps H'
  kn : ∃ kvs, NDS P w H' pk kvs ∧ KeysAre kvs encP (fun p => p ∈ ps) ∧ kvs.length = ps.length
  wt : ∃ us, H' pw = some (.lst us) ∧ us.length = ps.length ∧ ∀ (i : Nat) p v, ps[i]? = some p → us[i]? = some v → WI pw i p v H'
  p0 : p0 ∈ ps
  ok : ∀ p ∈ ps, POk m n p
theorem SInv.kt {m : Mach} {n : Nat} {Ps : List Addr} {H : Hp} {pk pw : Addr} {p0 : Poss} {ps : List Poss} {H' : Hp} (I : SInv P w m n Ps H pk pw p0 ps H') : (∃ ts, H' pk = some (NDO P w pk ts)) ∧ ∃ us, H' pw = some (.lst us) := by
  obtain ⟨kvs, ⟨ts, h1, _⟩, _⟩ := I.kn
  obtain ⟨us, h2, _⟩ := I.wt
  exact ⟨⟨ts, h1⟩, us, h2⟩
/-- nothing of it changes but tables -/
theorem SInv.go {m : Mach} {n : Nat} {Ps : List Addr} {H : Hp} {pk pw : Addr} {p0 : Poss} {ps : List Poss} {H' H2 : Hp} (I : SInv P w m n Ps H pk pw p0 ps H') (hk : pk ∉ Ps) (hw : pw ∉ Ps) (e : Ex (Mk Ps H') H2) (tb : Tabs Ps H2) : SInv P w m n Ps H pk pw p0 ps H2 := by
  obtain ⟨⟨ts, h1⟩, us, h2⟩ := I.kt
  have tx := rep_go I.tb ⟨ts, h1⟩ ⟨us, h2⟩ (mk_more e)
  refine ⟨mk_trans I.ex e, tb, ?_, ?_, I.p0, I.ok⟩
  · obtain ⟨kvs, ⟨ts', g1, g2, g3⟩, ka, kl⟩ := I.kn
    exact ⟨kvs, ⟨ts', e _ _ (by unfold Mk; rw [if_neg hk]; exact g1), g2, g3.tx tx⟩, ka, kl⟩
  · obtain ⟨us', g1, g2, g3⟩ := I.wt
    exact ⟨us', e _ _ (by unfold Mk; rw [if_neg hw]; exact g1), g2, fun i p v a b => (g3 i p v a b).go I.tb ⟨ts, h1⟩ ⟨us, h2⟩ (mk_more e)⟩
theorem ok_wa {Ps : List Addr} {C fAL fIA f : Addr} {dAL dIA fd : FuncData} (F : Fun K "word_above" "word_above" sWA f fd) (T : Txt K mg) (XD : ExcD K mg "TooManyPossibilities" C) (cAL : Cal P w K mg base CX0 2 "after_letter" ["machine", "letter", "possibility", "number"] (spAL Ps) fAL dAL)
    (cIA : Cal P w K mg base CX0 1 "is_above" ["machine", "possibility"] (spIA Ps) fIA dIA) : FnOk P w K mg base (L2.CX P w) 3 f fd ["machine", "number"] (spWA Ps C) := by
  refine F.okX scWA (fun vs H Q E h => ?_) (fun cdv A outer s H vs Q E hr h => ?_)
  · obtain ⟨m, n, v1, rfl, _⟩ := h
    rfl
  · obtain ⟨m, n, v1, rfl, W, hc, hn, tb, r1, k, kE⟩ := h
    obtain ⟨uMP, mMP⟩ := T.mp
    refine ⟨_, (pss_cons (ps_set (i := 2) scWA.nd rfl (by first | exact Or.inl rfl | exact Or.inr rfl) (pe_op op_rep1 (pe_tup (pa_cons pe_int pa_nil)) (pe_ix ix_tup (pv 0) pe_int (fun _ _ => rfl))))
      (pss_cons (ps_set (i := 3) scWA.nd rfl (by first | exact Or.inl rfl | exact Or.inr rfl) (pe_tup (pa_cons (pe_callTy call_tuple_of (by rfl) T.tuple (by decide +kernel) (pa_cons (pe_callB (cr_sortN rfl hr.units) (by rfl) T.sorted (by decide +kernel) (pa_cons (pe_ix ix_tup (pv 0) pe_int (fun _ _ => rfl)) pa_nil)) pa_nil)) (pa_cons (pe_callTy call_tuple_of (by rfl) T.tuple (by decide +kernel) (pa_cons (pe_callB (cr_sortN rfl hr.units) (by rfl) T.sorted (by decide +kernel) (pa_cons (pe_lc (own := [("state", 11)]) (tt := tYes) (te := (tTup (tCons (tVar 11) (tCons (tVar 2) tNil)))) rfl scWA.nd (pi_tup (pe_ix ix_tup (pv 0) pe_int (fun _ _ => rfl))) (blkOk_by (N := ["machine", "number", "zeros", "start", "known", "waiting", "place", "possibility", "word", "letter", "new", "state"]) (sc := defScope sWA) (own := [("state", 11)]) (by decide +kernel)) (fun _ _ _ _ _ => (pg_name (i := 11) scWA.nd rfl (by first | exact Or.inl rfl | exact Or.inr rfl))) (fun _ _ _ _ _ => pts_nil) (fun _ _ _ _ _ => (pe_tup (pa_cons (pv 11) (pa_cons (pv 2) pa_nil))))) pa_nil)) pa_nil)) pa_nil))))
      (pss_cons (ps_set (i := 4) scWA.nd rfl (by first | exact Or.inl rfl | exact Or.inr rfl) (pe_ndisp hr.units (pv 3) pe_bl))
      (pss_cons (ps_set (i := 5) scWA.nd rfl (by first | exact Or.inl rfl | exact Or.inr rfl) (pe_lst (pa_cons (pe_tup (pa_cons (pv 3) (pa_cons (pe_lst pa_nil) pa_nil))) pa_nil)))
      (pss_cons (ps_set (i := 6) scWA.nd rfl (by first | exact Or.inl rfl | exact Or.inr rfl) pe_int)
      (pss_cons (ps_while (passes_of rfl) (pt_cmpR op_lt (pv 6) (pe_callB call_len_seq (by rfl) T.len PySem.boot_len (pa_cons (pv 5) pa_nil)) (nomark _)) (pss_cons (ps_asg (pe_ix ix_list (pv 5) (pv 6) (fun _ _ => rfl)) (pg_tup rfl (pgs_cons (pg_name (i := 7) scWA.nd rfl (by first | exact Or.inl rfl | exact Or.inr rfl)) (pgs_cons (pg_name (i := 8) scWA.nd rfl (by first | exact Or.inl rfl | exact Or.inr rfl)) pgs_nil))))
      (pss_cons (ps_if (pt_val (pe_cal cIA hr pass0 (pa_cons (pv 0) (pa_cons (pv 7) pa_nil)))) (pss_one (ps_ret (pv 8))) pss_nil)
      (pss_cons (ps_for (passes_of rfl) rfl (pi_range1 (by rfl) T.range (pa_cons (pe_ix ix_tup (pv 0) pe_int (fun _ _ => rfl)) pa_nil)) (pg_name (i := 9) scWA.nd rfl (by first | exact Or.inl rfl | exact Or.inr rfl)) (pss_cons (ps_set (i := 10) scWA.nd rfl (by first | exact Or.inl rfl | exact Or.inr rfl) (pe_cal cAL hr pass0 (pa_cons (pv 0) (pa_cons (pv 9) (pa_cons (pv 7) (pa_cons (pv 1) pa_nil))))))
      (pss_one (ps_if (pt_cmpR (op_nnotin hr.units) (pv 10) (pv 4) (by rfl)) (pss_cons (ps_nput hr.units (pv 4) (pv 10) pe_bl rfl)
      (pss_one (ps_expr (pe_bm PySem.F.plainAttrs_list PySem.F.slot_list_append PySem.F.type_list_append mt_append (pv 5) (pa_cons (pe_tup (pa_cons (pv 10) (pa_cons (pe_op op_cat (pv 8) (pe_lst (pa_cons (pv 9) pa_nil))) pa_nil))) pa_nil))))) pss_nil))))
      (pss_cons (ps_if (pt_cmpR op_gt (pe_callB call_nlen (by rfl) T.len PySem.boot_len (pa_cons (pv 4) pa_nil)) (pe_glob (v := .int 300) (by rfl) mMP.1 mMP.2) (nomark _)) (pss_one (ps_raise rfl (takes_of rfl rfl rfl rfl) (pmk_own PySem.F.excBase_ValueError XD.q XD.g XD.k (raises_own XD.s XD.t) rfl))) pss_nil)
      (pss_one (ps_aug (i := 6) scWA.nd rfl (Or.inl rfl) pe_int ip_add)))))))
      (pss_one (ps_ret pe_non)))))))), ?_⟩
    have tx := mk_tex tb
    have x0 := mk_ex Ps H
    have R1 : Rep (Mk Ps H) (encM m) v1 := r1.tx tx
    have ez : encTup (MS.zeros m) = .tup (List.replicate m.counters (.num 0)) := by unfold encTup MS.zeros; rw [List.map_replicate]; rfl
    refine qr_asg (R := RepR (encTup (MS.zeros m))) ?_ fun v2 H1 e1 r2 => ?_
    · rw [ez]
      exact er_rep0 (er_tup (ds := [.num 0]) (ea1 er_c (monoRep _) ea0) (by show 1 ≤ 100000; decide)) hc (er_num (er_ixn (er_var rfl r1) ev_c rfl))
    show tSeq _ _ _ ([some v1, some (.int (n : Int)), some v2, none, none, none, none, none, none, none, none, none] : L2.St) H1
    have hfl := W.fl
    have e4 : ∀ {σ' : L2.St} {H'}, σ'[0]? = some (some v1) → Ex H1 H' → EvR (tOp (rIxT K) (tVar 0) (tC (.int 4))) σ' H' (RepR (.tup (m.firsts.map encN))) := fun h0 e => er_ixn (n := 4) (er_var h0 ((r1.ex e1).ex e)) ev_c rfl
    refine qr_asg (R := fun v H' => ∃ a x y, v = .ref a ∧ H' a = some (.tup [x, y]) ∧ (∃ l', SameAs l' m.firsts ∧ Rep H' (.tup (l'.map encN)) x) ∧ ∃ l' : List Cfg, SameAs l' (m.firsts.map fun f => (f, MS.zeros m)) ∧ Rep H' (.tup (l'.map encC)) y) ?_ fun v3 H2 e2 r3 => ?_
    · refine er_pair (R1 := fun v H' => ∃ l', SameAs l' m.firsts ∧ Rep H' (.tup (l'.map encN)) v) (R2 := fun v H' => ∃ l' : List Cfg, SameAs l' (m.firsts.map fun f => (f, MS.zeros m)) ∧ Rep H' (.tup (l'.map encC)) v)
        (er_tupleX (er_sortL (fun _ _ => encN_inj) (fun H ps h => srt_N h) ((e4 rfl (Ex.refl _)).imp fun _ _ _ h => .inr h))) (fun v H H' e ⟨l', h1, h2⟩ => ⟨l', h1, h2.ex e⟩)
        (er_tupleX (er_sortL (fun _ _ => encC_inj) (fun H ps h => srt_C h) (EvR.imp (R := LRep ((m.firsts.map fun f => (f, MS.zeros m)).map encC)) ?_ fun _ _ _ h => .inl h))) (fun v H H' e ⟨l', h1, h2⟩ => ⟨l', h1, h2.ex e⟩)
      rw [List.map_map]
      exact el_tupL (en := encN) (f := encC ∘ fun f => (f, MS.zeros m)) (e4 rfl (Ex.refl _)) (by omega) fun st u H3 hst e3 ru => er_tup (ds := [encN st, encTup (MS.zeros m)]) (ea1 (er_var (i := 11) rfl ru) (monoRep _) (ea1 (er_var (i := 2) rfl (r2.ex e3)) (monoRep _) ea0)) (by show 2 ≤ 100000; decide)
    obtain ⟨a3, x3, y3, rfl, h3, ⟨l1, s1, rl1⟩, l2, s2, rl2⟩ := r3
    have r3 : Rep H2 (encP (l1, l2)) (.ref a3) := .tup h3 (.cons rl1 (.cons rl2 .nil))
    have hsay := says_start (n := n) (p0 := (l1, l2)) s1 s2
    have hp0 : POk m n (l1, l2) := by
      refine ⟨fun s hs => W.fi s ((s1.1 s).mp hs), by have := s1.2; show l1.length ≤ 6; omega, fun q hq => ?_, by have := s2.2; rw [List.length_map] at this; show l2.length ≤ 15; omega⟩
      obtain ⟨f, hf, rfl⟩ := List.mem_map.mp ((s2.1 q).mp hq)
      refine ⟨W.fi f hf, by simp [MS.zeros], ?_⟩
      show (MS.zeros m).headD 0 ≤ n
      unfold MS.zeros
      cases m.counters <;> simp [List.replicate]
    clear s1 s2
    generalize (l1, l2) = p0 at r3 hsay hp0
    -- known
    show tSeq _ _ _ ([some v1, some (.int (n : Int)), some v2, some (.ref a3), none, none, none, none, none, none, none, none] : L2.St) H2
    refine q_ndisp (P := P) (w := w) (ks := [encTup p0.1, .tup (p0.2.map encC)]) rfl r3 (fit_P p0).2 fun pk ob hpk nd r3K => ?_
    have e02 : Ex H H2 := e1.trans e2
    have tb2 := tabs_ex e02 tb
    have hkP : pk ∉ Ps := not_tab tb2 fun ps z => by rw [hpk] at z; cases z
    have hk0 : Mk Ps H pk = none := by unfold Mk; rw [if_neg hkP]; exact fresh_back e02 hpk
    have eK : Ex (Mk Ps H) (upd (upd H2 pk (NDO P w pk [])) pk ob) := ((x0.trans e02).mut hk0).mut hk0
    have tbK : Tabs Ps (upd (upd H2 pk (NDO P w pk [])) pk ob) := tabs_upd (tabs_upd tb2 hkP) hkP
    have r3K : Rep (upd (upd H2 pk (NDO P w pk [])) pk ob) (encP p0) (.ref a3) := r3K
    have nd : NDS P w (upd (upd H2 pk (NDO P w pk [])) pk ob) pk [(encP p0, .bl true)] := nd
    generalize upd (upd H2 pk (NDO P w pk [])) pk ob = HK at eK tbK r3K nd ⊢
    show tSeq _ _ _ ([some v1, some (.int (n : Int)), some v2, some (.ref a3), some (.ref pk), none, none, none, none, none, none, none] : L2.St) HK
    refine q_start rfl fun q0 t0 pw hq0 ht0 hpw => ?_
    have eq0 : Ex HK (upd HK q0 (.lst [])) := Ex.new hq0
    have et0 := Ex.new (o := .tup [.ref a3, .ref q0]) ht0
    have ew0 := Ex.new (o := .lst [V.ref t0]) hpw
    have eall := (eq0.trans et0).trans ew0
    have hwP : pw ∉ Ps := not_tab (tabs_ex (eq0.trans et0) tbK) fun ps z => by rw [hpw] at z; cases z
    have hqw : q0 ≠ pw := fun z => by
      subst z
      rw [et0 _ _ upd_same] at hpw
      cases hpw
    have hkw : pk ≠ pw := fun z => by
      subst z
      obtain ⟨ts, g1, _⟩ := nd
      rw [(eq0.trans et0) _ _ g1] at hpw
      cases hpw
    have hw0 : Mk Ps H pw = none := by
      unfold Mk
      rw [if_neg hwP]
      cases hh : H pw with
      | none => rfl
      | some o =>
        have := eK pw o (by unfold Mk; rw [if_neg hwP]; exact hh)
        rw [(eq0.trans et0) _ _ this] at hpw
        cases hpw
    have I0 : SInv P w m n Ps H pk pw p0 [p0] (upd (upd (upd HK q0 (.lst [])) t0 (.tup [.ref a3, .ref q0])) pw (.lst [.ref t0])) := by
      refine ⟨eK.trans eall, tabs_ex eall tbK, ⟨[(encP p0, .bl true)], ?_, ⟨fun kv hkv => ?_, fun a ha => ?_⟩, rfl⟩, ⟨_, upd_same, rfl, fun i p v hi hv => ?_⟩, List.mem_singleton.mpr rfl, fun p hp => by rw [List.mem_singleton.mp hp]; exact hp0⟩
      · obtain ⟨ts, g1, g2, g3⟩ := nd
        exact ⟨ts, eall _ _ g1, g2, g3.tx (TEx.of eall)⟩
      · rw [List.mem_singleton.mp hkv]
        exact ⟨p0, List.mem_singleton.mpr rfl, rfl⟩
      · rw [List.mem_singleton.mp ha, valV_pos rfl]
        rfl
      · have hi0 : i = 0 := by have := (List.getElem?_eq_some_iff.mp hi).1; simp at this; exact this
        subst hi0
        cases hi
        cases hv
        exact ⟨t0, q0, .ref a3, [], rfl, ew0 _ _ upd_same, r3K.ex eall, ⟨q0, [], rfl, (et0.trans ew0) _ _ upd_same, .nil⟩, Nat.le_refl _, hqw⟩
    generalize upd (upd (upd HK q0 (.lst [])) t0 (.tup [.ref a3, .ref q0])) pw (.lst [.ref t0]) = HW at I0 ⊢
    show tSeq _ _ _ ([some v1, some (.int (n : Int)), some v2, some (.ref a3), some (.ref pk), some (.ref pw), none, none, none, none, none, none] : L2.St) HW
    refine q_asg ev_c fun H3 e3 => ?_
    have I1 := I0.go hkP hwP ((mk_ex Ps HW).trans e3) (tabs_ex e3 I0.tb)
    show tSeq _ _ _ ([some v1, some (.int (n : Int)), some v2, some (.ref a3), some (.ref pk), some (.ref pw), some (.int ((0 : Nat) : Int)), none, none, none, none, none] : L2.St) H3
    let Done : List Poss → Nat → Prop := fun ps j => ∀ (i : Nat) p, i < j → ps[i]? = some p → ¬ MS.Above m p ∧ ∀ a, a < m.letters → ∃ p' ∈ ps, MS.After m n a p p'
    refine q_while (fun μ σ' H' => ∃ (ps : List Poss) (place : Nat) (a7 a8 a9 a10 : Option V), σ' = [some v1, some (.int (n : Int)), some v2, some (.ref a3), some (.ref pk), some (.ref pw), some (.int (place : Int)), a7, a8, a9, a10, none] ∧ μ = 1000 - place ∧ ps.length ≤ 300 ∧ place ≤ ps.length ∧ SInv P w m n Ps H pk pw p0 ps H' ∧ Done ps place) 1000 ⟨[p0], 0, _, _, _, _, rfl, rfl, (by show 1 ≤ 300; decide), Nat.zero_le _, I1, fun i p h => absurd h (by omega)⟩ ?_
    rintro μ σ' H' ⟨ps, place, a7, a8, a9, a10, rfl, rfl, hpl, hple, I, hD⟩
    obtain ⟨us, hus, hul, hui⟩ := I.wt
    refine ⟨decide (place < ps.length), ?_, fun hb H4 e4 => ?_, fun hb H4 e4 => ?_⟩
    · have := et_test (ev_ltI (ev_var (i := 6) (v := .int (place : Int)) (σ := [some v1, some (.int (n : Int)), some v2, some (.ref a3), some (.ref pk), some (.ref pw), some (.int (place : Int)), a7, a8, a9, a10, none]) (H := H') rfl) (ev_len (K := K) (ev_var (i := 5) rfl) (sq_of hus)))
      have ed : decide ((place : Int) < (us.length : Int)) = decide (place < ps.length) := decide_eq_decide.mpr ⟨fun h => by omega, fun h => by omega⟩
      rw [ed] at this
      exact this
    · have hlt : place < ps.length := of_decide_eq_true hb
      refine ⟨fun σ2 H2 => ∃ (ps : List Poss) (place' : Nat) (a7 a8 a9 a10 : Option V), place' = place + 1 ∧ σ2 = [some v1, some (.int (n : Int)), some v2, some (.ref a3), some (.ref pk), some (.ref pw), some (.int (place' : Int)), a7, a8, a9, a10, none] ∧ ps.length ≤ 300 ∧ place' ≤ ps.length ∧ SInv P w m n Ps H pk pw p0 ps H2 ∧ Done ps place', fun σ2 H2 ⟨ps', pl', a, b, c, d, h0, h1, h2, h3, h4, h5⟩ => ⟨1000 - pl', by omega, ps', pl', a, b, c, d, h1, rfl, h2, h3, h4, h5⟩, ?_⟩
      have I4 := I.go hkP hwP ((mk_ex Ps H').trans e4) (tabs_ex e4 I.tb)
      obtain ⟨p, hp⟩ : ∃ p, ps[place]? = some p := ⟨ps[place], List.getElem?_eq_getElem hlt⟩
      obtain ⟨us4, hus4, hul4, hui4⟩ := I4.wt
      obtain ⟨v, hv⟩ : ∃ v, us4[place]? = some v := ⟨us4[place]'(by omega), List.getElem?_eq_getElem (by omega)⟩
      obtain ⟨t, q, vp, wd, rfl, ht, rp, rq, hwl, hqw'⟩ := hui4 place p v hp hv
      have it4 : Item p vp q wd H4 := ⟨rp, by obtain ⟨q', vs, e, h1, h2⟩ := rq; cases e; exact ⟨vs, h1, h2⟩⟩
      have hpm : p ∈ ps := List.mem_of_getElem? hp
      refine q_pair (fun Q q => ⟨_, rfl, _, rfl, pw, us4, (place : Int), .ref t, rfl, rfl, SqL.of hus4, atI_nat hv, q⟩) ht ?_
      show tSeq _ _ _ ([some v1, some (.int (n : Int)), some v2, some (.ref a3), some (.ref pk), some (.ref pw), some (.int (place : Int)), some vp, some (.ref q), a9, a10, none] : L2.St) H4
      refine q_whenM (C := fun b H5 => Ex (Mk Ps H4) H5 ∧ Tabs Ps H5 ∧ (b = true ↔ MS.Above m p)) (fun Q q => ⟨_, rfl, _, rfl, ⟨m, p, v1, vp, rfl, I4.tb, R1.ex I4.ex, rp, fun u H5 e5 tb5 ⟨b, hb1, hb2⟩ => by subst hb1; exact ⟨b, rfl, q b H5 ⟨e5, tb5, hb2⟩⟩⟩⟩) (fun H5 ⟨e5, tb5, hA⟩ => ?_) fun H5 ⟨e5, tb5, hA⟩ => ?_
      · exact ⟨_, rfl, k _ H5 (mk_trans I4.ex e5) tb5 fun z => by cases z⟩
      have hnA : ¬ MS.Above m p := fun h => by have := hA.mpr h; cases this
      have I5 := I4.go hkP hwP e5 tb5
      have it5 := it4.go I4.tb I4.kt.1 I4.kt.2 (mk_more e5) hqw'
      have l2 := W.l2
      refine q_forR1 (n := (m.letters : Int)) (ea_cons (er_num (er_ixn (er_var rfl (R1.ex I5.ex)) ev_c rfl)) ea_nil) (by omega) (fun a σ' H' => ∃ (ps' more : List Poss) (a9 a10 : Option V), σ' = [some v1, some (.int (n : Int)), some v2, some (.ref a3), some (.ref pk), some (.ref pw), some (.int (place : Int)), some vp, some (.ref q), a9, a10, none] ∧ ps' = ps ++ more ∧ ps'.length ≤ 300 + a ∧ SInv P w m n Ps H pk pw p0 ps' H' ∧ Item p vp q wd H' ∧ ∀ a' < a, ∃ p' ∈ ps', MS.After m n a' p p')
        (fun H6 e6 => ⟨ps, [], _, _, rfl, (List.append_nil _).symm, by omega, I5.go hkP hwP ((mk_ex Ps H5).trans e6) (tabs_ex e6 tb5), it5.go I5.tb I5.kt.1 I5.kt.2 (mk_more ((mk_ex Ps H5).trans e6)) hqw', fun a' h => absurd h (by omega)⟩) ?_ ?_
      · rintro a σ6 H6 ha ⟨ps', more, a9, a10, rfl, hps, hl6, I6, it6, hA6⟩
        have hpm' : p ∈ ps' := by rw [hps]; exact List.mem_append_left _ hpm
        show tSeq _ _ _ ([some v1, some (.int (n : Int)), some v2, some (.ref a3), some (.ref pk), some (.ref pw), some (.int (place : Int)), some vp, some (.ref q), some (.int (a : Int)), a10, none] : L2.St) H6
        refine q_asgM (C := fun u H7 => Ex (Mk Ps H6) H7 ∧ Tabs Ps H7 ∧ ∃ p', MS.After m n a p p' ∧ POk m n p' ∧ Rep H7 (encP p') u) (fun Q q => ⟨_, rfl, _, rfl, _, rfl, _, rfl, ⟨m, a, n, p, v1, vp, rfl, W, hc, hn, I6.ok p hpm', I6.tb, R1.ex I6.ex, it6.1, fun u H7 e7 tb7 h => q u H7 ⟨e7, tb7, h⟩⟩⟩) fun u H7 ⟨e7, tb7, p', hAf, hok', ru⟩ => ?_
        have I7 := I6.go hkP hwP e7 tb7
        have it7 := it6.go I6.tb I6.kt.1 I6.kt.2 (mk_more e7) hqw'
        show tIfS _ _ _ _ ([some v1, some (.int (n : Int)), some v2, some (.ref a3), some (.ref pk), some (.ref pw), some (.int (place : Int)), some vp, some (.ref q), some (.int (a : Int)), some u, none] : L2.St) H7
        obtain ⟨kvs, nd7, ka7, kl7⟩ := I7.kn
        refine s_when (b := !decide (p' ∈ ps')) (et_test ?_) (fun hb H8 e8 => ?_) fun hb H8 e8 => ?_
        · have := ev_nnotin (P := P) (w := w) (ks := [encTup p'.1, .tup (p'.2.map encC)]) (ta := tVar 10) (tb := tVar 4) (σ := [some v1, some (.int (n : Int)), some v2, some (.ref a3), some (.ref pk), some (.ref pw), some (.int (place : Int)), some vp, some (.ref q), some (.int (a : Int)), some u, none]) (er_var rfl ru) (fit_P p').2 (ev_var rfl) nd7.r
          have e : (valV kvs (NestedKey.tup [encTup p'.1, .tup (p'.2.map encC)])).isSome = decide (p' ∈ ps') := P_at ka7 p'
          rw [e] at this
          exact this
        · have hnew : p' ∉ ps' := by simpa using hb
          have I8 := I7.go hkP hwP ((mk_ex Ps H7).trans e8) (tabs_ex e8 tb7)
          have it8 := it7.go I7.tb I7.kt.1 I7.kt.2 (mk_more ((mk_ex Ps H7).trans e8)) hqw'
          obtain ⟨kvs8, nd8, ka8, kl8⟩ := I8.kn
          obtain ⟨us8, hus8, hul8, hui8⟩ := I8.wt
          have kt8 := I8.kt
          refine q_nput (ks := [encTup p'.1, .tup (p'.2.map encC)]) (P := P) (w := w) rfl rfl nd8 (ru.ex e8) (fit_P p').2 (Nat.lt_of_le_of_lt (show kvs8.length ≤ 302 by omega) (by decide)) fun ob txo nd9 => ?_
          have ru9 : Rep (upd H8 pk ob) (encP p') u := (ru.ex e8).tx txo
          have e89 : Ex (Mk (pk :: pw :: Ps) H8) (upd H8 pk ob) := mk_upd1
          have it9 := it8.go I8.tb kt8.1 kt8.2 e89 hqw'
          have hus9 : upd H8 pk ob pw = some (.lst us8) := by rw [upd_ne hkw.symm]; exact hus8
          obtain ⟨vsq, hq9, rq9⟩ := it9.2
          refine sr_app (i := 5) (l := pw) (xs := us8) rfl hus9 (by omega) (er_pair (R1 := RepR (encP p')) (R2 := fun v H' => LRep (wd ++ [.num (a : Int)]) v H' ∧ ∃ l, v = .ref l ∧ upd H8 pk ob l = none) (er_var (i := 10) rfl ru9) (monoRep _) (er_catN (er_varR (R := LRep wd) (i := 8) rfl (monoL _) ⟨q, vsq, rfl, hq9, rq9⟩) (er_lst (ds := [.num (a : Int)]) (ea1 (er_int (ev_var (i := 9) rfl)) (monoRep _) ea0) (by show 1 ≤ 100000; decide)) (by show wd.length + 1 ≤ 100000; omega)) (fun v H H' e ⟨h1, h2⟩ => ⟨monoL _ _ _ _ e h1, h2⟩)) fun v10 H10 e10 r10 h10 => ?_
          obtain ⟨t', x', y', rfl, ht', rx', ⟨q', vs', rfl, hq', rv'⟩, l', hl', hn'⟩ := r10
          cases hl'
          have hq'w : q' ≠ pw := fun z => by subst z; rw [hus9] at hn'; cases hn'
          have ht'w : t' ≠ pw := fun z => by subst z; rw [h10] at ht'; cases ht'
          have e8E : Ex (Mk (pk :: pw :: Ps) H8) (upd H10 pw (.lst (us8 ++ [.ref t']))) := mk_trans (mk_trans e89 ((mk_ex _ _).trans e10)) mk_upd2
          have txE : TEx H10 (upd H10 pw (.lst (us8 ++ [.ref t']))) := TEx.lst h10
          have I9 : SInv P w m n Ps H pk pw p0 (ps' ++ [p']) (upd H10 pw (.lst (us8 ++ [.ref t']))) := by
            refine ⟨((I8.ex.mut hk0).trans e10).mut hw0, tabs_upd (tabs_ex e10 (tabs_upd I8.tb hkP)) hwP, ⟨putK kvs8 (encP p') (.bl true), ?_, ?_, ?_⟩, ⟨_, upd_same, by simp; omega, fun i p1 v hi hv => ?_⟩, List.mem_append_left _ I8.p0, fun p1 h1 => ?_⟩
            · obtain ⟨tn, g1, g2, g3⟩ := nd9
              exact ⟨tn, by rw [upd_ne hkw]; exact e10 _ _ g1, g2, g3.tx ((TEx.of e10).trans txE)⟩
            · have := ka8.put p' (.bl true)
              refine ⟨fun kv hkv => ?_, fun c hc => this.2 c ?_⟩
              · obtain ⟨c, hc, e⟩ := this.1 kv hkv
                refine ⟨c, ?_, e⟩
                rcases hc with hc | rfl
                · exact List.mem_append_left _ hc
                · exact List.mem_append_right _ (List.mem_singleton.mpr rfl)
              · rcases List.mem_append.mp hc with h | h
                · exact .inl h
                · exact .inr (List.mem_singleton.mp h)
            · have hnone : valV kvs8 (encP p') = none := by
                have := P_at ka8 p'
                rw [decide_eq_false hnew] at this
                cases hh : valV kvs8 (encP p') with
                | none => rfl
                | some x => rw [hh] at this; cases this
              rw [putK_new _ hnone]
              simp [kl8]
            · by_cases hil : i < ps'.length
              · rw [List.getElem?_append_left hil] at hi
                rw [List.getElem?_append_left (by omega)] at hv
                exact (hui8 i p1 v hi hv).go I8.tb kt8.1 kt8.2 e8E
              · have hie : i = ps'.length := by have := (List.getElem?_eq_some_iff.mp hi).1; simp at this; omega
                rw [hie, List.getElem?_append_right (Nat.le_refl _), Nat.sub_self] at hi
                rw [show i = us8.length by omega, List.getElem?_append_right (Nat.le_refl _), Nat.sub_self] at hv
                cases hi
                cases hv
                refine ⟨t', q', x', wd ++ [.num (a : Int)], rfl, by rw [upd_ne ht'w]; exact ht', rx'.tx txE, ⟨q', vs', rfl, by rw [upd_ne hq'w]; exact hq', rv'.tx txE⟩, ?_, hq'w⟩
                rw [List.length_append, List.length_singleton]
                have : ps.length ≤ ps'.length := by rw [hps, List.length_append]; omega
                omega
            · rcases List.mem_append.mp h1 with h | h
              · exact I8.ok p1 h
              · rw [List.mem_singleton.mp h]; exact hok'
          refine ⟨ps' ++ [p'], more ++ [p'], _, _, rfl, by rw [hps, List.append_assoc], by simp; omega, I9, it8.go I8.tb kt8.1 kt8.2 e8E hqw', fun a' ha' => ?_⟩
          by_cases hh : a' = a
          · subst hh; exact ⟨p', List.mem_append_right _ (List.mem_singleton.mpr rfl), hAf⟩
          · obtain ⟨p2, h1, h2⟩ := hA6 a' (by omega)
            exact ⟨p2, List.mem_append_left _ h1, h2⟩
        · have hold : p' ∈ ps' := by simpa using hb
          refine ⟨ps', more, _, _, rfl, hps, by omega, I7.go hkP hwP ((mk_ex Ps H7).trans e8) (tabs_ex e8 tb7), it7.go I7.tb I7.kt.1 I7.kt.2 (mk_more ((mk_ex Ps H7).trans e8)) hqw', fun a' ha' => ?_⟩
          by_cases hh : a' = a
          · subst hh; exact ⟨p', hold, hAf⟩
          · exact hA6 a' (by omega)
      · rintro σ6 H6 ⟨ps', more, a9, a10, rfl, hps, hl6, I6, it6, hA6⟩
        rw [Int.toNat_natCast] at hA6 hl6
        obtain ⟨kvs6, nd6, ka6, kl6⟩ := I6.kn
        refine q_when (b := decide ((300 : Int) < (kvs6.length : Int))) (et_test (ev_gtI (i := (kvs6.length : Int)) (j := 300) ?_ ev_c)) (fun hb H7 e7 => ?_) fun hb H7 e7 => ?_
        · exact fun H7 e7 Q q => ⟨_, rfl, pk, kvs6, rfl, nd6.r.ex e7, q H7 (Ex.refl _)⟩
        · exact kE H7 (mk_trans I6.ex ((mk_ex Ps H6).trans e7)) (tabs_ex e7 I6.tb)
        · have h300 : ps'.length ≤ 300 := by have := of_decide_eq_false hb; omega
          refine s_aug (f := fun i j => i + j) (a := (place : Int)) (b := 1) rfl ev_c fun H8 e8 => ?_
          refine ⟨ps', place + 1, some vp, some (.ref q), a9, a10, rfl, ?_, h300, by rw [hps, List.length_append]; omega, I6.go hkP hwP ((mk_ex Ps H6).trans (e7.trans e8)) (tabs_ex (e7.trans e8) I6.tb), fun i p1 hi hp1 => ?_⟩
          · have : (place : Int) + 1 = ((place + 1 : Nat) : Int) := by omega
            show ([some v1, some (.int (n : Int)), some v2, some (.ref a3), some (.ref pk), some (.ref pw), some (.int ((place : Int) + 1)), some vp, some (.ref q), a9, a10, none] : L2.St) = _
            rw [this]
          · by_cases hip : i = place
            · subst hip
              rw [hps, List.getElem?_append_left hlt, hp] at hp1
              cases hp1
              exact ⟨hnA, fun a ha => hA6 a ha⟩
            · have hil : i < place := by omega
              rw [hps, List.getElem?_append_left (by omega)] at hp1
              obtain ⟨d1, d2⟩ := hD i p1 hil hp1
              refine ⟨d1, fun a ha => ?_⟩
              obtain ⟨p2, g1, g2⟩ := d2 a ha
              exact ⟨p2, by rw [hps]; exact List.mem_append_left _ g1, g2⟩
    · have hge : place = ps.length := by have := of_decide_eq_false hb; omega
      refine s_ret ev_c fun H5 e5 => k _ H5 (mk_trans I.ex ((mk_ex Ps H').trans (e4.trans e5))) (tabs_ex (e4.trans e5) I.tb) fun _ => ?_
      refine MS.search_bound I.p0 hsay (fun p hp => ?_) fun p hp a ha => ?_
      · obtain ⟨i, hi⟩ := List.mem_iff_getElem?.mp hp
        exact (hD i p (by have := (List.getElem?_eq_some_iff.mp hi).1; omega) hi).1
      · obtain ⟨i, hi⟩ := List.mem_iff_getElem?.mp hp
        exact (hD i p (by have := (List.getElem?_eq_some_iff.mp hi).1; omega) hi).2 a ha
abbrev sLB : Stmt := topS 32
def spLB (Ps : List Addr) (C C2 : Addr) : Sp := fun vs H Q E => ∃ (m : Mach) (v1 : V), vs = [v1, .int 4] ∧ m.WF ∧ m.counters ≤ 1 ∧ Tabs Ps H ∧ Rep H (encM m) v1 ∧
  RetM Ps (fun u H' => ∃ (a : Addr) (n : Nat) (x : V), u = .ref a ∧ H' a = some (.tup [.int (n : Int), x]) ∧ Bound m n) H Q ∧ (∀ H', Ex (Mk Ps H) H' → Tabs Ps H' → E (.ref C) none H') ∧ ∀ H', Ex (Mk Ps H) H' → Tabs Ps H' → E (.ref C2) none H'
theorem scLB : FnScope ["machine", "most", "worst", "number", "word"] ["machine", "most"] (defScope sLB) := ⟨rfl, rfl, rfl, by decide +kernel, rfl, by decide +kernel, by decide +kernel⟩
theorem ok_lb {Ps : List Addr} {C C2 fWA f : Addr} {dWA fd : FuncData} (F : Fun K "least_bound" "least_bound" sLB f fd) (T : Txt K mg) (XD : ExcD K mg "NoBound" C2) (cWA : Cal P w K mg base (L2.CX P w) 3 "word_above" ["machine", "number"] (spWA Ps C) fWA dWA) :
    FnOk P w K mg base (L2.CX P w) 4 f fd ["machine", "most"] (spLB Ps C C2) := by
  refine F.okX scLB (fun vs H Q E h => ?_) (fun cdv A outer s H vs Q E hr h => ?_)
  · obtain ⟨m, v1, rfl, _⟩ := h
    rfl
  · obtain ⟨m, v1, rfl, W, hc, tb, r1, k, kE, kE2⟩ := h
    refine ⟨_, (pss_cons (ps_set (i := 2) scLB.nd rfl (by first | exact Or.inl rfl | exact Or.inr rfl) pe_non)
      (pss_cons (ps_for (passes_of rfl) rfl (pi_range1 (by rfl) T.range (pa_cons (pe_op op_add (pv 1) pe_int) pa_nil)) (pg_name (i := 3) scLB.nd rfl (by first | exact Or.inl rfl | exact Or.inr rfl)) (pss_cons (ps_set (i := 4) scLB.nd rfl (by first | exact Or.inl rfl | exact Or.inr rfl) (pe_callS (E := fun _ => E) cWA.ok (hr.mono (by decide)) rfl cWA.at_ cWA.kp cWA.b (fun σ => passAt (takes_of rfl rfl rfl rfl) σ) (pa_cons (pv 0) (pa_cons (pv 3) pa_nil))))
      (pss_cons (ps_if (pt_cmp (pc_isN (pv 4))) (pss_one (ps_ret (pe_tup (pa_cons (pv 3) (pa_cons (pv 2) pa_nil))))) pss_nil)
      (pss_one (ps_set (i := 2) scLB.nd rfl (by first | exact Or.inl rfl | exact Or.inr rfl) (pv 4))))))
      (pss_one (ps_raise rfl (takes_of rfl rfl rfl rfl) (pmk_own PySem.F.excBase_ValueError XD.q XD.g XD.k (raises_own XD.s XD.t) rfl))))), ?_⟩
    have tx := mk_tex tb
    have x0 := mk_ex Ps H
    have R1 : Rep (Mk Ps H) (encM m) v1 := r1.tx tx
    refine q_asg ev_c fun H1 e1 => ?_
    show tSeq _ _ _ ([some v1, some (.int 4), some .non, none, none] : L2.St) H1
    refine q_forR1 (n := 5) (ea_cons (ev_to (ev_add (i := 4) (j := 1) (ev_var rfl) ev_c) rfl) ea_nil) (by omega) (fun i σ' H' => (∃ x y z, σ' = [some v1, some (.int 4), some x, y, z]) ∧ Ex (Mk Ps H) H' ∧ Tabs Ps H') (fun H2 e2 => ⟨⟨_, _, _, rfl⟩, (x0.trans e1).trans e2, tabs_ex (e1.trans e2) tb⟩) ?_ ?_
    · rintro i σ1 H2 hi ⟨⟨x, y, z, rfl⟩, e2, tb2⟩
      show tSeq _ _ _ ([some v1, some (.int 4), some x, some (.int (i : Int)), z] : L2.St) H2
      refine ⟨_, rfl, _, rfl, ?_⟩
      refine ⟨m, i, v1, rfl, W, hc, by omega, tb2, R1.ex e2, fun u H3 e3 tb3 hu => ?_, fun H3 e3 tb3 => kE H3 (mk_trans e2 e3) tb3⟩
      show tSeq (tIfS (tB (tIsN (tVar 4))) (tRet (tTup (tCons (tVar 3) (tCons (tVar 2) tNil)))) tNext) _ _ ([some v1, some (.int 4), some x, some (.int (i : Int)), some u] : L2.St) H3
      refine q_when (et_B (ev_isVN (ev_var (v := u) rfl))) (fun hb H4 e4 => ?_) fun hb H4 e4 => ?_
      · refine ⟨_, rfl, _, rfl, (by show 2 ≤ sizeLine; decide), fun p hp => ?_⟩
        refine k _ _ (mk_trans e2 (mk_trans e3 ((mk_ex Ps H3).trans (e4.trans (Ex.new hp))))) (tabs_ex (e4.trans (Ex.new hp)) tb3) ⟨p, i, x, rfl, upd_same, hu (of_decide_eq_true hb)⟩
      · refine s_asg (ev_var (v := u) rfl) fun H5 e5 => ⟨⟨_, _, _, rfl⟩, mk_trans e2 (mk_trans e3 ((mk_ex Ps H3).trans (e4.trans e5))), tabs_ex (e4.trans e5) tb3⟩
    · rintro σ1 H2 ⟨⟨x, y, z, rfl⟩, e2, tb2⟩
      exact kE2 H2 e2 tb2
end
end MW
end
section
set_option Elab.async false
set_option linter.all false
set_option maxRecDepth 100000
set_option maxHeartbeats 4000000
/-! word_of. -/
namespace MS
theorem pow_len (w : List Nat) : ∀ N : Nat, (pow w N).length = N * w.length
  | 0 => by simp [pow]
  | N + 1 => by
    show (w ++ pow w N).length = _
    rw [List.length_append, pow_len w N, Nat.succ_mul, Nat.add_comm]
theorem words_ne (N : Nat) (hN : 1 ≤ N) (ls : List Line) (ok : LinesOk ls) : ∀ (k i : Nat), i ≤ k → i < ls.length → (words N ls).getD i [] ≠ []
  | k, i, hk, hi => by
    obtain ⟨l, hl⟩ : ∃ l, ls[i]? = some l := ⟨ls[i], List.getElem?_eq_getElem hi⟩
    have o := ok i l hl
    rw [words_get N ls i l hl o]
    cases l with
    | letter a => simp [wordLn]
    | both a b =>
      have h1 : a < i := o.1
      cases k with
      | zero => omega
      | succ k =>
        have := words_ne N hN ls ok k a (by omega) (by omega)
        unfold wordLn
        intro e
        exact this (List.append_eq_nil_iff.mp e).1
    | often a =>
      have h1 : a < i := o
      cases k with
      | zero => omega
      | succ k =>
        exact word_ne hN (words_ne N hN ls ok k a (by omega) (by omega))
/-- the letters that wait, and their word -/
def todo (WS : List (List Nat)) (st : List Nat) : List Nat := st.reverse.flatMap fun i => WS.getD i []
def mu (WS : List (List Nat)) (st : List Nat) : Nat := (st.map fun i => (WS.getD i []).length * (i + 1)).sum
theorem todo_snoc (WS : List (List Nat)) (st : List Nat) (i : Nat) : todo WS (st ++ [i]) = WS.getD i [] ++ todo WS st := by simp [todo]
theorem mu_snoc (WS : List (List Nat)) (st : List Nat) (i : Nat) : mu WS (st ++ [i]) = mu WS st + (WS.getD i []).length * (i + 1) := by simp [mu, List.sum_append]
theorem todo_rep (WS : List (List Nat)) (st : List Nat) (i N : Nat) : todo WS (st ++ List.replicate N i) = pow (WS.getD i []) N ++ todo WS st := by
  induction N generalizing st with
  | zero => simp [pow]
  | succ N ih =>
    have : st ++ List.replicate (N + 1) i = (st ++ List.replicate N i) ++ [i] := by rw [List.replicate_succ', ← List.append_assoc]
    rw [this, todo_snoc, ih]
    show _ = (WS.getD i [] ++ pow (WS.getD i []) N) ++ todo WS st
    rw [List.append_assoc]
theorem mu_rep (WS : List (List Nat)) (st : List Nat) (i N : Nat) : mu WS (st ++ List.replicate N i) = mu WS st + N * ((WS.getD i []).length * (i + 1)) := by
  induction N generalizing st with
  | zero => simp
  | succ N ih =>
    have : st ++ List.replicate (N + 1) i = (st ++ List.replicate N i) ++ [i] := by rw [List.replicate_succ', ← List.append_assoc]
    rw [this, mu_snoc, ih, Nat.succ_mul]
    omega
theorem len_todo (WS : List (List Nat)) : ∀ st : List Nat, (∀ i ∈ st, WS.getD i [] ≠ []) → st.length ≤ (todo WS st).length := by
  intro st h
  have : ∀ l : List Nat, (∀ i ∈ l, WS.getD i [] ≠ []) → l.length ≤ (l.flatMap fun i => WS.getD i []).length := fun l => by
    induction l with
    | nil => intro _; simp
    | cons a l ih =>
      intro h
      have h1 := h a List.mem_cons_self
      have h2 := ih fun i hi => h i (List.mem_cons_of_mem _ hi)
      have h3 : 1 ≤ (WS.getD a []).length := by
        cases hh : WS.getD a [] with
        | nil => exact absurd hh h1
        | cons x y => simp
      rw [List.flatMap_cons, List.length_append, List.length_cons]
      omega
  have h2 := this st.reverse fun i hi => h i (List.mem_reverse.mp hi)
  rw [List.length_reverse] at h2
  exact h2
end MS
namespace MW
open PySem PySem.Spec PyProof.Rows L2 Evl
open MS (Val Tab Mach Line)
section
variable {P : Program} {w : World} {K : PySem.W.Frag} {mg : PySem.Str → Option Value} {base : Heap}
section
variable {σ : L2.St} {H : Hp} {te : TE} {l : Line}
theorem line_kind (h : EvR te σ H (RepR (encL l))) : Ev (tOp (rIxT K) te (tC (.int 0))) σ H (.str (kindS l)) := by
  obtain ⟨ks, e1, e2⟩ := encL_kind l
  rw [e1] at h
  exact er_str (er_ixn h ev_c e2)
theorem line_L (h : EvR te σ H (RepR (encL l))) : EvT (tTest (tOp rEq (tOp (rIxT K) te (tC (.int 0))) (tC (.str "letter")))) σ H (isL l) := et_is (et_test (ev_op (line_kind h) ev_c (rv_eq rfl))) (kind_L l)
theorem line_B (h : EvR te σ H (RepR (encL l))) : EvT (tTest (tOp rEq (tOp (rIxT K) te (tC (.int 0))) (tC (.str "both")))) σ H (isB l) := et_is (et_test (ev_op (line_kind h) ev_c (rv_eq rfl))) (kind_B l)
end
theorem er_last {σ : L2.St} {H : Hp} {ta : TE} {ks : List D} {d : D} (ha : EvR ta σ H (LRep ks)) (h : ks[ks.length - 1]? = some d) : EvR (tOp (rIxL K) ta (tUn (rU fun i => .int (-i)) (tC (.int 1)))) σ H (RepR d) := fun H1 e Q q =>
  ha H1 e _ fun v H2 e2 r => by
    obtain ⟨p, vs, rfl, hp, rv⟩ := r
    have hl := rv.length
    obtain ⟨u, hu, ru⟩ := rv.get h
    have hlt := (List.getElem?_eq_some_iff.mp h).1
    refine ⟨1, rfl, p, vs, -1, u, rfl, rfl, SqL.of hp, ?_, q u H2 e2 ru⟩
    unfold atI ixN
    rw [if_neg (by omega), if_pos (by omega)]
    show vs[(-1 + (vs.length : Int)).toNat]? = some u
    rw [show (-1 + (vs.length : Int)).toNat = ks.length - 1 by omega]
    exact hu
def iv (l : List Nat) : List V := l.map fun n : Nat => V.int (n : Int)
theorem iv_reps {H : Hp} (l : List Nat) : Reps H (l.map encN) (iv l) := by
  have h1 : l.map encN = (l.map fun n : Nat => (n : Int)).map NestedKey.num := by rw [List.map_map]; rfl
  have h2 : iv l = (l.map fun n : Nat => (n : Int)).map V.int := by unfold iv; rw [List.map_map]; rfl
  rw [h1, h2]
  exact Reps.nums _
theorem iv_app (l m : List Nat) : iv (l ++ m) = iv l ++ iv m := by unfold iv; rw [List.map_append]
theorem iv_len (l : List Nat) : (iv l).length = l.length := by unfold iv; rw [List.length_map]
theorem flat_rep (x : V) : ∀ N : Nat, (List.replicate N [x]).flatten = List.replicate N x
  | 0 => rfl
  | N + 1 => by rw [List.replicate_succ, List.flatten_cons, flat_rep x N, List.replicate_succ]; rfl
theorem q_asgM' {σ : L2.St} {H : Hp} {De : Ends} {te : TE} {tz : TS} {i : Nat} {C : V → Hp → Prop} (h : ∀ Q : VK, (∀ v H1, C v H1 → Q v H1) → te σ H Q) (k : ∀ v H1, C v H1 → tz De (σ.set i (some v)) H1) : tSeq (tAsg te (gName i)) tz De σ H := h _ k
abbrev sWO : Stmt := topS 20
def spWO (C : Addr) : Sp := fun vs H Q E => ∃ (ls : List Line) (N : Nat) (v1 : V), vs = [v1, .int (N : Int)] ∧ MS.LinesOk ls ∧ 1 ≤ ls.length ∧ ls.length ≤ 100 ∧ 1 ≤ N ∧ N ≤ 100 ∧ Rep H (.tup (ls.map encL)) v1 ∧
  RetR (LRep ((MS.wordOf N ls).map encN)) H Q ∧ ∀ H', Ex H H' → E (.ref C) none H'
theorem scWO : FnScope ["recipe", "times", "sizes", "line", "word", "waiting"] ["recipe", "times"] (defScope sWO) := ⟨rfl, rfl, rfl, by decide +kernel, rfl, by decide +kernel, by decide +kernel⟩
theorem ok_wo {C f : Addr} {fd : FuncData} (F : Fun K "word_of" "word_of" sWO f fd) (T : Txt K mg) (XD : ExcD K mg "WordTooLong" C) : FnOk P w K mg base (L2.CX P w) 1 f fd ["recipe", "times"] (spWO C) := by
  refine F.okX scWO (fun vs H Q E h => ?_) (fun cdv A outer s H vs Q E hr h => ?_)
  · obtain ⟨ls, N, v1, rfl, _⟩ := h
    rfl
  · obtain ⟨ls, N, v1, rfl, ok, hl1, hl, hN, hN2, r1, k, kE⟩ := h
    obtain ⟨uML, mML⟩ := T.ml
    refine ⟨_, (pss_cons (ps_set (i := 2) scWO.nd rfl (by first | exact Or.inl rfl | exact Or.inr rfl) (pe_lst pa_nil))
      (pss_cons (ps_for (passes_of rfl) rfl (pi_tup (pv 0)) (pg_name (i := 3) scWO.nd rfl (by first | exact Or.inl rfl | exact Or.inr rfl)) (pss_one (ps_if (pt_cmpR op_eq (pe_ix ix_tup (pv 3) pe_int (fun _ _ => rfl)) pe_str (nomark _)) (pss_one (ps_expr (pe_bm PySem.F.plainAttrs_list PySem.F.slot_list_append PySem.F.type_list_append mt_append (pv 2) (pa_cons pe_int pa_nil)))) (pss_one (ps_if (pt_cmpR op_eq (pe_ix ix_tup (pv 3) pe_int (fun _ _ => rfl)) pe_str (nomark _)) (pss_one (ps_expr (pe_bm PySem.F.plainAttrs_list PySem.F.slot_list_append PySem.F.type_list_append mt_append (pv 2) (pa_cons (pe_op op_add (pe_ix ix_list (pv 2) (pe_ix ix_tup (pv 3) pe_int (fun _ _ => rfl)) (fun _ _ => rfl)) (pe_ix ix_list (pv 2) (pe_ix ix_tup (pv 3) pe_int (fun _ _ => rfl)) (fun _ _ => rfl))) pa_nil)))) (pss_one (ps_expr (pe_bm PySem.F.plainAttrs_list PySem.F.slot_list_append PySem.F.type_list_append mt_append (pv 2) (pa_cons (pe_op op_mul (pv 1) (pe_ix ix_list (pv 2) (pe_ix ix_tup (pv 3) pe_int (fun _ _ => rfl)) (fun _ _ => rfl))) pa_nil)))))))))
      (pss_cons (ps_if (pt_cmpR op_gt (pe_ix ix_list (pv 2) (pe_un un_neg pe_int) (fun _ _ => rfl)) (pe_glob (v := .int 10000) (by rfl) mML.1 mML.2) (nomark _)) (pss_one (ps_raise rfl (takes_of rfl rfl rfl rfl) (pmk_own PySem.F.excBase_ValueError XD.q XD.g XD.k (raises_own XD.s XD.t) rfl))) pss_nil)
      (pss_cons (ps_set (i := 4) scWO.nd rfl (by first | exact Or.inl rfl | exact Or.inr rfl) (pe_lst pa_nil))
      (pss_cons (ps_set (i := 5) scWO.nd rfl (by first | exact Or.inl rfl | exact Or.inr rfl) (pe_lst (pa_cons (pe_op op_sub (pe_callB call_len_seq (by rfl) T.len PySem.boot_len (pa_cons (pv 0) pa_nil)) pe_int) pa_nil)))
      (pss_cons (ps_while (passes_of rfl) (pt_truth (pv 5) (by intro _; rfl)) (pss_cons (ps_set (i := 3) scWO.nd rfl (by first | exact Or.inl rfl | exact Or.inr rfl) (pe_ix ix_tup (pv 0) (pe_bm0 PySem.F.plainAttrs_list PySem.F.slot_list_pop PySem.F.type_list_pop mt_pop (pv 5)) (fun _ _ => rfl)))
      (pss_one (ps_if (pt_cmpR op_eq (pe_ix ix_tup (pv 3) pe_int (fun _ _ => rfl)) pe_str (nomark _)) (pss_one (ps_expr (pe_bm PySem.F.plainAttrs_list PySem.F.slot_list_append PySem.F.type_list_append mt_append (pv 4) (pa_cons (pe_ix ix_tup (pv 3) pe_int (fun _ _ => rfl)) pa_nil)))) (pss_one (ps_if (pt_cmpR op_eq (pe_ix ix_tup (pv 3) pe_int (fun _ _ => rfl)) pe_str (nomark _)) (pss_one (ps_aug (i := 5) scWO.nd rfl (Or.inl rfl) (pe_lst (pa_cons (pe_ix ix_tup (pv 3) pe_int (fun _ _ => rfl)) (pa_cons (pe_ix ix_tup (pv 3) pe_int (fun _ _ => rfl)) pa_nil))) iop_ext)) (pss_one (ps_aug (i := 5) scWO.nd rfl (Or.inl rfl) (pe_op op_rep (pe_lst (pa_cons (pe_ix ix_tup (pv 3) pe_int (fun _ _ => rfl)) pa_nil)) (pv 1)) iop_ext))))))))
      (pss_one (ps_ret (pv 4))))))))), ?_⟩
    generalize hWS : MS.words N ls = WS
    have hlen : WS.length = ls.length := by rw [← hWS]; exact MS.words_len N ls
    have hget : ∀ (i : Nat) l, ls[i]? = some l → WS.getD i [] = MS.wordLn N l WS := fun i l h => by rw [← hWS]; exact MS.words_get N ls i l h (ok i l h)
    have hne : ∀ i, i < ls.length → WS.getD i [] ≠ [] := fun i hi => by rw [← hWS]; exact MS.words_ne N hN ls ok i i (Nat.le_refl _) hi
    have hwo : MS.wordOf N ls = WS.getD (ls.length - 1) [] := by unfold MS.wordOf; rw [hWS]
    have hat : ∀ (i j : Nat), j < i → i ≤ ls.length → ((WS.take i).map fun w => encN w.length)[j]? = some (encN (WS.getD j []).length) := fun i j h1 h2 => by
      rw [List.getElem?_map, List.getElem?_take_of_lt h1, List.getElem?_eq_getElem (by omega), List.getD_eq_getElem?_getD, List.getElem?_eq_getElem (by omega)]
      rfl
    refine ⟨Nat.zero_le _, fun p hp => ?_⟩
    have x0 : Ex H (upd H p (.lst [])) := Ex.new hp
    refine qf_tup (H0 := H) (l := ls) (en := encL) x0 (ep_var rfl r1) (fun i σ' H' => (∃ x, σ' = [some v1, some (.int (N : Int)), some (.ref p), x, none, none]) ∧ Ex H H' ∧ ∃ us, H' p = some (.lst us) ∧ Reps H' ((WS.take i).map fun w => encN w.length) us) ⟨⟨_, rfl⟩, x0, [], upd_same, .nil⟩ (fun _ _ _ h => h.2.1) ?_ ?_
    · rintro i l v σ1 H1 hi rl ⟨⟨x, rfl⟩, e1, us, hu, ru⟩
      have hil : i < ls.length := (List.getElem?_eq_some_iff.mp hi).1
      have hul := ru.length
      rw [List.length_map, List.length_take] at hul
      have o := ok i l hi
      have etk : (WS.take (i + 1)).map (fun w => encN w.length) = (WS.take i).map (fun w => encN w.length) ++ [encN (MS.wordLn N l WS).length] := by
        rw [List.take_add_one, List.map_append, List.getElem?_eq_getElem (by omega)]
        have := hget i l hi
        rw [List.getD_eq_getElem?_getD, List.getElem?_eq_getElem (by omega)] at this
        rw [← this]
        rfl
      have fin : ∀ (u : V) (H2 : Hp), Ex H1 H2 → Rep H2 (encN (MS.wordLn N l WS).length) u → H2 p = some (.lst us) → ((∃ x, ([some v1, some (.int (N : Int)), some (.ref p), some v, none, none] : L2.St) = [some v1, some (.int (N : Int)), some (.ref p), x, none, none]) ∧ Ex H (upd H2 p (.lst (us ++ [u]))) ∧ ∃ us', upd H2 p (.lst (us ++ [u])) p = some (.lst us') ∧ Reps (upd H2 p (.lst (us ++ [u]))) ((WS.take (i + 1)).map fun w => encN w.length) us') := fun u H2 e2 r2 h2 => by
        have tx : TEx H2 (upd H2 p (.lst (us ++ [u]))) := TEx.lst h2
        exact ⟨⟨_, rfl⟩, (e1.trans e2).mut hp, us ++ [u], upd_same, by rw [etk]; exact ((ru.ex e2).tx tx).app (Reps.one (r2.tx tx))⟩
      have sz : ∀ {H'} {te : TE} {j : Nat}, Ex H1 H' → j < i → Ev te [some v1, some (.int (N : Int)), some (.ref p), some v, none, none] H' (.int (j : Int)) → Ev (tOp (rIxL K) (tVar 2) te) [some v1, some (.int (N : Int)), some (.ref p), some v, none, none] H' (.int ((WS.getD j []).length : Int)) := fun {H' te j} e hj he =>
        er_num (er_ixL (er_varR (i := 2) rfl (monoL _) ⟨p, us, rfl, e _ _ hu, ru.ex e⟩) he (hat i j hj (by omega)))
      show tIfS _ _ _ _ ([some v1, some (.int (N : Int)), some (.ref p), some v, none, none] : L2.St) H1
      refine s_if (line_L (l := l) (er_var rfl rl)) (fun hb H2 e2 => ?_) fun hb H2 e2 => ?_
      · cases l with
        | both a b => cases hb
        | often a => cases hb
        | letter a => exact sr_app (i := 2) (l := p) (xs := us) rfl (e2 _ _ hu) (by omega) (er_c (i := 1)) fun u H3 e3 r3 h3 => fin u H3 (e2.trans e3) r3 h3
      · refine s_if (line_B (l := l) (er_var rfl (rl.ex e2))) (fun hb2 H3 e3 => ?_) fun hb2 H3 e3 => ?_
        · cases l with
          | letter a => cases hb
          | often a => cases hb2
          | both a b =>
            have e23 := e2.trans e3
            refine sr_app (i := 2) (l := p) (xs := us) rfl (e23 _ _ hu) (by omega) (R := RepR (encN (MS.wordLn N (.both a b) WS).length)) ?_ fun u H4 e4 r4 h4 => fin u H4 (e23.trans e4) r4 h4
            have := ev_add (sz e23 o.1 (er_num (er_ixn (K := K) (n := 1) (d := encN a) (ks := [.text "both", encN a, encN b]) (er_var (i := 3) rfl (rl.ex e23)) ev_c rfl))) (sz e23 o.2 (er_num (er_ixn (K := K) (n := 2) (d := encN b) (ks := [.text "both", encN a, encN b]) (er_var (i := 3) rfl (rl.ex e23)) ev_c rfl)))
            refine er_int (ev_to this ?_)
            unfold MS.wordLn
            rw [List.length_append]
            push_cast
            rfl
        · cases l with
          | letter a => cases hb
          | both a b => cases hb2
          | often a =>
            have e23 := e2.trans e3
            refine sr_app (i := 2) (l := p) (xs := us) rfl (e23 _ _ hu) (by omega) (R := RepR (encN (MS.wordLn N (.often a) WS).length)) ?_ fun u H4 e4 r4 h4 => fin u H4 (e23.trans e4) r4 h4
            have := ev_mulS (ev_var (i := 1) (v := .int (N : Int)) rfl) (sz e23 o (er_num (er_ixn (K := K) (n := 1) (d := encN a) (ks := [.text "often", encN a]) (er_var (i := 3) rfl (rl.ex e23)) ev_c rfl))) (.inl ⟨by omega, by omega⟩)
            refine er_int (ev_to this ?_)
            unfold MS.wordLn
            rw [MS.pow_len]
            push_cast
            rfl
    · rintro σ1 H1 ⟨⟨x, rfl⟩, e1, us, hu, ru⟩
      rw [← hlen, List.take_length] at ru
      have hlast : Ev (tOp (rIxL K) (tVar 2) (tUn (rU fun i => .int (-i)) (tC (.int 1)))) [some v1, some (.int (N : Int)), some (.ref p), x, none, none] H1 (.int ((MS.wordOf N ls).length : Int)) := by
        refine er_num (er_last (er_varR (i := 2) rfl (monoL _) ⟨p, us, rfl, hu, ru⟩) ?_)
        have := hat ls.length (ls.length - 1) (by omega) (Nat.le_refl _)
        rw [← hlen, List.take_length] at this
        rw [List.length_map, hwo, ← hlen]
        exact this
      refine q_when (et_test (ev_gtI hlast ev_c)) (fun hb H2 e2 => kE H2 (e1.trans e2)) fun hb H2 e2 => ?_
      have hshort : (MS.wordOf N ls).length ≤ 10000 := by have := of_decide_eq_false hb; omega
      have e12 := e1.trans e2
      refine q_asgL (el_lst ea_nil (by show 0 ≤ 100000; decide)) fun pw H3 hpw e3 hw3 => ?_
      have e13 := e12.trans e3
      have hpw0 : H pw = none := fresh_back e12 hpw
      show tSeq _ _ _ ([some v1, some (.int (N : Int)), some (.ref p), x, some (.ref pw), none] : L2.St) H3
      refine q_asgL (xs := iv [ls.length - 1]) (el_lst (ea_cons (ev_to (ev_sub (ev_lenT (K := K) (ks := ls.map encL) rfl (er_var (i := 0) rfl (r1.ex e13))) (ev_c (v := .int 1))) (by rw [List.length_map]; show V.int ((ls.length : Int) - 1) = V.int ((ls.length - 1 : Nat) : Int); congr 1; omega)) ea_nil) (by show 1 ≤ 100000; decide)) fun ps H4 hps e4 hs4 => ?_
      have e14 := e13.trans e4
      have hps0 : H ps = none := fresh_back e13 hps
      have hwp : pw ≠ ps := fun z => by subst z; rw [hw3] at hps; cases hps
      show tSeq _ _ _ ([some v1, some (.int (N : Int)), some (.ref p), x, some (.ref pw), some (.ref ps)] : L2.St) H4
      refine q_while (fun μ σ' H' => ∃ (word st : List Nat) (x : Option V), σ' = [some v1, some (.int (N : Int)), some (.ref p), x, some (.ref pw), some (.ref ps)] ∧ μ = MS.mu WS st ∧ Ex H H' ∧ H' pw = some (.lst (iv word)) ∧ H' ps = some (.lst (iv st)) ∧ (∀ i ∈ st, i < ls.length) ∧ word ++ MS.todo WS st = MS.wordOf N ls) (MS.mu WS [ls.length - 1]) ⟨[], [ls.length - 1], x, rfl, rfl, e14, e4 _ _ hw3, hs4, fun i hi => by rw [List.mem_singleton.mp hi]; omega, by rw [hwo]; simp [MS.todo]⟩ ?_
      rintro μ σ' H' ⟨word, st, x, rfl, rfl, eH, hw, hs, hst, hinv⟩
      refine ⟨!(iv st).isEmpty, fun H1 e Q q => ⟨_, rfl, _, .inl ⟨iv st, SqL.of (e _ _ hs), rfl⟩, q H1 (Ex.refl _)⟩, fun hb H5 e5 => ?_, fun hb H5 e5 => ?_⟩
      · obtain ⟨st0, i, rfl⟩ : ∃ st0 i, st = st0 ++ [i] := by
          have hne' : st ≠ [] := fun z => by subst z; simp [iv] at hb
          exact ⟨st.dropLast, st.getLast hne', (List.dropLast_concat_getLast hne').symm⟩
        have hi : i < ls.length := hst i (List.mem_append_right _ (List.mem_singleton.mpr rfl))
        have hst0 : ∀ j ∈ st0, j < ls.length := fun j hj => hst j (List.mem_append_left _ hj)
        obtain ⟨l, hl⟩ : ∃ l, ls[i]? = some l := ⟨ls[i], List.getElem?_eq_getElem hi⟩
        have o := ok i l hl
        have hgi := hget i l hl
        have hlen2 : (st0 ++ [i]).length ≤ 10000 := by
          have h1 := MS.len_todo WS (st0 ++ [i]) fun j hj => hne j (hst j hj)
          have h2 := congrArg List.length hinv
          rw [List.length_append] at h2
          omega
        have hlw : word.length ≤ 10000 := by
          have h2 := congrArg List.length hinv
          rw [List.length_append] at h2
          omega
        rw [List.length_append, List.length_singleton] at hlen2
        refine ⟨fun σ2 H2 => ∃ (word st : List Nat) (x : Option V), σ2 = [some v1, some (.int (N : Int)), some (.ref p), x, some (.ref pw), some (.ref ps)] ∧ MS.mu WS st < MS.mu WS (st0 ++ [i]) ∧ Ex H H2 ∧ H2 pw = some (.lst (iv word)) ∧ H2 ps = some (.lst (iv st)) ∧ (∀ i ∈ st, i < ls.length) ∧ word ++ MS.todo WS st = MS.wordOf N ls, fun σ2 H2 ⟨a, b, c, h1, h2, h3⟩ => ⟨_, h2, a, b, c, h1, rfl, h3⟩, ?_⟩
        have hs5 := e5 _ _ hs
        have hw5 := e5 _ _ hw
        obtain ⟨aR, vsR, hv1, haR, rR⟩ := rep_tup r1
        subst hv1
        have haR5 := (eH.trans e5) _ _ haR
        have haps : aR ≠ ps := fun z => by subst z; rw [haR] at hps0; cases hps0
        refine q_asgM' (C := fun v H6 => H6 = upd H5 ps (.lst (iv st0)) ∧ Rep H6 (encL l) v) (fun Q q => ?_) fun v H6 ⟨hH6, rl⟩ => ?_
        · obtain ⟨u, hu, ru⟩ := rR.get (i := i) (d := encL l) (by rw [List.getElem?_map, hl]; rfl)
          refine ⟨_, rfl, _, rfl, .inl ⟨rfl, _, SqL.of hs5⟩, ps, iv (st0 ++ [i]), .int (i : Int), rfl, rfl, hs5, ?_, aR, vsR, (i : Int), u, rfl, rfl, SqT.of (by rw [upd_ne haps]; exact haR5), atI_nat hu, ?_⟩
          · rw [iv_app, List.length_append, iv_len]
            show ((iv st0 ++ iv [i]))[st0.length + 1 - 1]? = _
            rw [List.getElem?_append_right (by rw [iv_len]; omega), iv_len]
            simp [iv]
          · have : (iv (st0 ++ [i])).dropLast = iv st0 := by rw [iv_app]; exact List.dropLast_concat
            rw [this]
            exact q _ _ ⟨rfl, (ru.ex (eH.trans e5)).tx (TEx.lst hs5)⟩
        have e6 : Ex H H6 := by rw [hH6]; exact (eH.trans e5).mut hps0
        have hs6 : H6 ps = some (.lst (iv st0)) := by rw [hH6]; exact upd_same
        have hw6 : H6 pw = some (.lst (iv word)) := by rw [hH6, upd_ne hwp]; exact hw5
        have hmu : MS.mu WS (st0 ++ [i]) = MS.mu WS st0 + (WS.getD i []).length * (i + 1) := MS.mu_snoc _ _ _
        have hlpos : 1 ≤ (WS.getD i []).length := by
          cases hh : WS.getD i [] with
          | nil => exact absurd hh (hne i hi)
          | cons a b => simp
        rw [MS.todo_snoc, hgi] at hinv
        rw [hgi] at hmu hlpos
        show tIfS _ _ _ _ ([some (.ref aR), some (.int (N : Int)), some (.ref p), some v, some (.ref pw), some (.ref ps)] : L2.St) H6
        refine s_if (line_L (l := l) (er_var rfl rl)) (fun hb1 H7 e7 => ?_) fun hb1 H7 e7 => ?_
        · cases l with
          | both a b => cases hb1
          | often a => cases hb1
          | letter a =>
            refine s_app (ta := tVar 4) (l := pw) (xs := iv word) (v := .int (a : Int)) (e7 _ _ hw6) (ev_var rfl) (er_num (er_ixn (n := 1) (d := encN a) (ks := [.text "letter", encN a]) (er_var (i := 3) rfl (rl.ex e7)) ev_c rfl)) (by rw [iv_len]; omega) fun H8 e8 => ?_
            refine ⟨word ++ [a], st0, _, rfl, ?_, ((e6.trans e7).trans e8).mut hpw0, by rw [upd_same, iv_app]; rfl, by rw [upd_ne hwp.symm]; exact e8 _ _ (e7 _ _ hs6), hst0, ?_⟩
            · rw [hmu]
              have : 1 * (i + 1) ≤ (MS.wordLn N (.letter a) WS).length * (i + 1) := Nat.mul_le_mul_right _ hlpos
              omega
            · rw [← hinv, List.append_assoc]
              rfl
        · refine s_if (line_B (l := l) (er_var rfl (rl.ex e7))) (fun hb2 H8 e8 => ?_) fun hb2 H8 e8 => ?_
          · cases l with
            | letter a => cases hb1
            | often a => cases hb2
            | both a b =>
              have e78 := e7.trans e8
              have g := fun (n : Nat) (j : Nat) (hj : [NestedKey.text "both", encN a, encN b][n]? = some (encN j)) => er_num (i := (j : Int)) (er_ixn (K := K) (σ := [some (.ref aR), some (.int (N : Int)), some (.ref p), some v, some (.ref pw), some (.ref ps)]) (H := H8) (ta := tVar 3) (tb := tC (.int (n : Int))) (n := n) (d := encN j) (ks := [.text "both", encN a, encN b]) (er_var (i := 3) rfl (rl.ex e78)) ev_c hj)
              refine ⟨_, rfl, ?_⟩
              refine el_lst (vs := iv [b, a]) (ea_cons (g 2 b rfl) (ea_cons (g 1 a rfl) ea_nil)) (by show 2 ≤ 100000; decide) H8 (Ex.refl _) _ fun q H9 hq e9 hq9 => ?_
              have hs9 := e9 _ _ (e78 _ _ hs6)
              refine ⟨ps, q, iv st0, iv [b, a], rfl, rfl, hs9, hq9, by rw [iv_len]; exact sz_of (by show st0.length + 2 ≤ 100000; omega), ?_⟩
              refine ⟨word, st0 ++ [b, a], _, rfl, ?_, ((e6.trans e78).trans e9).mut hps0, by rw [upd_ne hwp]; exact e9 _ _ (e78 _ _ hw6), by rw [upd_same, iv_app], fun j hj => ?_, ?_⟩
              · have h1 : st0 ++ [b, a] = (st0 ++ [b]) ++ [a] := by simp
                rw [h1, MS.mu_snoc, MS.mu_snoc, hmu]
                have hla : (MS.wordLn N (.both a b) WS).length = (WS.getD a []).length + (WS.getD b []).length := by unfold MS.wordLn; rw [List.length_append]
                rw [hla, Nat.add_mul]
                have h2 : (WS.getD a []).length * (a + 1) ≤ (WS.getD a []).length * i := Nat.mul_le_mul_left _ o.1
                have h3 : (WS.getD b []).length * (b + 1) ≤ (WS.getD b []).length * i := Nat.mul_le_mul_left _ o.2
                rw [hla] at hlpos
                have h4 : (WS.getD a []).length * (i + 1) = (WS.getD a []).length * i + (WS.getD a []).length := Nat.mul_succ _ _
                have h5 : (WS.getD b []).length * (i + 1) = (WS.getD b []).length * i + (WS.getD b []).length := Nat.mul_succ _ _
                generalize (WS.getD a []).length * (i + 1) = z1 at *
                generalize (WS.getD b []).length * (i + 1) = z2 at *
                generalize (WS.getD a []).length * (a + 1) = z3 at *
                generalize (WS.getD b []).length * (b + 1) = z4 at *
                omega
              · rcases List.mem_append.mp hj with h | h
                · exact hst0 j h
                · have : j = b ∨ j = a := by simpa using h
                  rcases this with rfl | rfl
                  · exact Nat.lt_trans o.2 hi
                  · exact Nat.lt_trans o.1 hi
              · have h1 : st0 ++ [b, a] = (st0 ++ [b]) ++ [a] := by simp
                rw [h1, MS.todo_snoc, MS.todo_snoc, ← hinv]
                unfold MS.wordLn
                rw [List.append_assoc]
          · cases l with
            | letter a => cases hb1
            | both a b => cases hb2
            | often a =>
              have e78 := e7.trans e8
              have ha : a < i := o
              refine ⟨_, rfl, ?_⟩
              refine el_lst (vs := iv [a]) (ea_cons (er_num (er_ixn (K := K) (n := 1) (d := encN a) (ks := [.text "often", encN a]) (er_var (i := 3) rfl (rl.ex e78)) ev_c rfl)) ea_nil) (by show 1 ≤ 100000; decide) H8 (Ex.refl _) _ fun q H9 hq e9 hq9 => ?_
              refine ⟨_, rfl, q, (N : Int), iv [a], rfl, rfl, hq9, by omega, by omega, by show 1 * ((N : Int)).toNat ≤ sizeLine; exact sz_of (by omega), fun q2 hq2 => ?_⟩
              have hs9 := e9 _ _ (e78 _ _ hs6)
              have hq2s : q2 ≠ ps := fun z => by subst z; rw [hs9] at hq2; cases hq2
              have e10 : Ex H9 (upd H9 q2 (.lst (List.replicate ((N : Int)).toNat (iv [a])).flatten)) := Ex.new hq2
              have hfl : (List.replicate ((N : Int)).toNat (iv [a])).flatten = iv (List.replicate N a) := by
                rw [Int.toNat_natCast]
                show (List.replicate N [V.int (a : Int)]).flatten = _
                rw [flat_rep]
                unfold iv
                rw [List.map_replicate]
              refine ⟨ps, q2, iv st0, iv (List.replicate N a), rfl, rfl, e10 _ _ hs9, by rw [upd_same, hfl], by rw [iv_len, iv_len, List.length_replicate]; exact sz_of (by omega), ?_⟩
              refine ⟨word, st0 ++ List.replicate N a, _, rfl, ?_, (((e6.trans e78).trans e9).trans e10).mut hps0, by rw [upd_ne hwp]; exact e10 _ _ (e9 _ _ (e78 _ _ hw6)), by rw [upd_same, iv_app], fun j hj => ?_, ?_⟩
              · rw [MS.mu_rep, hmu]
                have hla : (MS.wordLn N (.often a) WS).length = N * (WS.getD a []).length := by unfold MS.wordLn; rw [MS.pow_len]
                rw [hla] at hlpos ⊢
                have h2 : N * ((WS.getD a []).length * (a + 1)) ≤ N * ((WS.getD a []).length * i) := Nat.mul_le_mul_left _ (Nat.mul_le_mul_left _ ha)
                have h3 : N * (WS.getD a []).length * (i + 1) = N * ((WS.getD a []).length * i) + N * (WS.getD a []).length := by rw [Nat.mul_succ, Nat.mul_assoc]
                rw [h3]
                omega
              · rcases List.mem_append.mp hj with h | h
                · exact hst0 j h
                · rw [(List.mem_replicate.mp h).2]; exact Nat.lt_trans ha hi
              · rw [MS.todo_rep, ← hinv]
                rfl
      · have hst' : st = [] := by
          cases st with
          | nil => rfl
          | cons a b => simp [iv] at hb
        subst hst'
        have hw' : word = MS.wordOf N ls := by simpa [MS.todo] using hinv
        refine sr_ret (er_varR (R := LRep ((MS.wordOf N ls).map encN)) (i := 4) (v := .ref pw) rfl (monoL _) ⟨pw, iv word, rfl, e5 _ _ hw, by rw [← hw']; exact iv_reps word⟩) fun u H6 e6 r => k u H6 ((eH.trans e5).trans e6) r
end
end MW
end
section
set_option Elab.async false
set_option linter.all false
set_option maxRecDepth 100000
set_option maxHeartbeats 4000000
/-! The class Builder, catalogue. -/
namespace MW
open PySem PySem.Spec PyProof.Rows L2 Evl
open MS (Val Tab Mach Line)
theorem passE {X : Cx} {E : XK} (tk : Takes X (fun cls d _ H => E cls d H)) : Passes (L2.CX X.prog X.w) X E := fun pins σ H s e s' I c => passAt tk σ pins H s e s' I c
/-! ### entries in plain Lean -/
def addE (es : List (Line × Tab)) (e : Line × Tab) : List (Line × Tab) := if e.2 ∈ es.map (·.2) then es else es ++ [e]
def Good (m : Mach) (es : List (Line × Tab)) : Prop := (∀ (i : Nat) (e : Line × Tab), es[i]? = some e → e.1.ok i ∧ MS.IsTab m.states e.2) ∧ MS.Cons m es ∧ es.length ≤ 100
theorem addE_pre (es : List (Line × Tab)) (e : Line × Tab) : ∃ r, addE es e = es ++ r := by
  unfold addE
  split
  · exact ⟨[], (List.append_nil _).symm⟩
  · exact ⟨[e], rfl⟩
theorem addE_mem (es : List (Line × Tab)) (e : Line × Tab) : e.2 ∈ (addE es e).map (·.2) := by
  unfold addE
  split
  · assumption
  · rw [List.map_append]; exact List.mem_append_right _ (List.mem_singleton.mpr rfl)
theorem good_add {m : Mach} {es : List (Line × Tab)} {e : Line × Tab} (g : Good m es) (ok : e.1.ok es.length) (ht : MS.tabOf m e.1 (es.map fun e => some e.2) = some e.2) (it : MS.IsTab m.states e.2) (hl : (addE es e).length ≤ 100) : Good m (addE es e) := by
  unfold addE at hl ⊢
  split at hl
  · rename_i h; rw [if_pos h]; exact g
  · rename_i h
    rw [if_neg h]
    refine ⟨fun i x hx => ?_, fun i l T hx => ?_, hl⟩
    · by_cases hi : i < es.length
      · rw [List.getElem?_append_left hi] at hx
        exact g.1 i x hx
      · have hie : i = es.length := by have := (List.getElem?_eq_some_iff.mp hx).1; simp at this; omega
        subst hie
        rw [List.getElem?_append_right (Nat.le_refl _), Nat.sub_self] at hx
        cases hx
        exact ⟨ok, it⟩
    · by_cases hi : i < es.length
      · rw [List.getElem?_append_left hi] at hx
        rw [List.take_append_of_le_length (Nat.le_of_lt hi)]
        exact g.2.1 i l T hx
      · have hie : i = es.length := by have := (List.getElem?_eq_some_iff.mp hx).1; simp at this; omega
        subst hie
        rw [List.getElem?_append_right (Nat.le_refl _), Nat.sub_self] at hx
        cases hx
        rw [List.take_append_of_le_length (Nat.le_refl _), List.take_length]
        exact ht
section
variable {P : Program} {w : World} {K : PySem.W.Frag} {mg : PySem.Str → Option Value} {base : Heap}
abbrev sIn : Stmt := inClass (topS 35) 0
abbrev sAdd : Stmt := inClass (topS 35) 1
abbrev sGr : Stmt := inClass (topS 35) 2
abbrev sCt : Stmt := topS 36
structure BTxt (K : PySem.W.Frag) (mg : PySem.Str → Option Value) (C fI fA fG : Addr) : Prop where
  cl : Cls K C
  nS : NoAttr K C "together"
  nT : NoAttr K C "stable"
  nR : NoAttr K C "again"
  nE : NoAttr K C "entries"
  nK : NoAttr K C "known"
  mA : Meth K C "add" fA
  mG : Meth K C "grow" fG
  mkk : L2.Mk K C fI
  g : mg "Builder" = some (.ref C)
/-- the fields of a Builder -/
structure FB (fs : List (PySem.Str × V)) (fS fT fR le lk : Addr) : Prop where
  s : fs.lookup ("together" : PySem.Str) = some (.ref fS)
  t : fs.lookup ("stable" : PySem.Str) = some (.ref fT)
  r : fs.lookup ("again" : PySem.Str) = some (.ref fR)
  e : fs.lookup ("entries" : PySem.Str) = some (.ref le)
  k : fs.lookup ("known" : PySem.Str) = some (.ref lk)
  a : fs.lookup ("add" : PySem.Str) = none
  g : fs.lookup ("grow" : PySem.Str) = none
structure BI (P : Program) (w : World) (C p dx : Addr) (fs : List (PySem.Str × V)) (le lk : Addr) (es : List (Line × Tab)) (H : Hp) : Prop where
  o : H p = some (.ins C dx fs)
  e : ∃ us, H le = some (.lst us) ∧ Reps H (es.map encE) us
  k : ∃ kvs, NDS P w H lk kvs ∧ KeysAre kvs encT (fun T => T ∈ es.map (·.2)) ∧ kvs.length ≤ es.length
theorem BI.go {C p dx : Addr} {fs : List (PySem.Str × V)} {le lk : Addr} {es : List (Line × Tab)} {H H' : Hp} (I : BI P w C p dx fs le lk es H) (x : Ex H H') : BI P w C p dx fs le lk es H' := by
  refine ⟨x _ _ I.o, ?_, ?_⟩
  · obtain ⟨us, h1, h2⟩ := I.e
    exact ⟨us, x _ _ h1, h2.ex x⟩
  · obtain ⟨kvs, ⟨tn, g1, g2, g3⟩, ka, kl⟩ := I.k
    exact ⟨kvs, ⟨tn, x _ _ g1, g2, g3.tx (TEx.of x)⟩, ka, kl⟩
theorem BI.ne {C p dx : Addr} {fs : List (PySem.Str × V)} {le lk : Addr} {es : List (Line × Tab)} {H : Hp} (I : BI P w C p dx fs le lk es H) : p ≠ le ∧ p ≠ lk ∧ le ≠ lk := by
  obtain ⟨us, h1, _⟩ := I.e
  obtain ⟨kvs, ⟨tn, g1, _⟩, _⟩ := I.k
  refine ⟨fun z => ?_, fun z => ?_, fun z => ?_⟩
  · subst z; have := I.o; rw [h1] at this; cases this
  · subst z; have := I.o; rw [g1] at this; cases this
  · subst z; rw [h1] at g1; cases g1
theorem BI.tx {C p dx : Addr} {fs : List (PySem.Str × V)} {le lk : Addr} {es : List (Line × Tab)} {H H' : Hp} (I : BI P w C p dx fs le lk es H) (x : Ex (Mk [le, lk] H) H') : TEx H H' := fun a xs h => x a _ (by
  obtain ⟨us, h1, _⟩ := I.e
  obtain ⟨kvs, ⟨tn, g1, _⟩, _⟩ := I.k
  unfold Mk
  rw [if_neg]
  · exact h
  · intro hm
    rcases List.mem_cons.mp hm with rfl | hm
    · rw [h1] at h; cases h
    · rcases List.mem_cons.mp hm with rfl | hm
      · rw [g1] at h; cases h
      · cases hm)
def spAdd (C CE : Addr) (P : Program) (w : World) : Sp := fun vs H Q E => ∃ (p dx le lk fS fT fR : Addr) (fs : List (PySem.Str × V)) (es : List (Line × Tab)) (l : Line) (T : Tab) (v1 v2 : V), vs = [.ref p, v1, v2] ∧ FB fs fS fT fR le lk ∧ BI P w C p dx fs le lk es H ∧ es.length ≤ 100 ∧
  Rep H (encL l) v1 ∧ Rep H (encT T) v2 ∧ (∀ H2, Ex (Mk [le, lk] H) H2 → BI P w C p dx fs le lk (addE es (l, T)) H2 → (addE es (l, T)).length ≤ 100 → Q .non H2) ∧ ∀ H', Ex (Mk [le, lk] H) H' → E (.ref CE) none H'
theorem scAdd : FnScope ["self", "made", "item"] ["self", "made", "item"] (defScope sAdd) := ⟨rfl, rfl, rfl, by decide +kernel, rfl, by decide +kernel, by decide +kernel⟩
theorem ev_fld {σ : L2.St} {H : Hp} {C p dx : Addr} {fs : List (PySem.Str × V)} {m : PySem.Str} {v : V} {te : TE} (h : Ev te σ H (.ref p)) (o : H p = some (.ins C dx fs)) (c : Cls K C) (n : NoAttr K C m) (l : fs.lookup m = some v) : Ev (tFld K te m) σ H v := fun H1 e Q q =>
  h H1 e _ fun H2 e2 => ⟨p, C, dx, fs, v, rfl, (e.trans e2) _ _ o, c, n, l, q H2 e2⟩
theorem ok_add {C CE fI fA fG f : Addr} {fd : FuncData} (F : Fun K "add" "Builder.add" sAdd f fd) (T : Txt K mg) (TC : BTxt K mg C fI fA fG) (XD : ExcD K mg "TooManyTables" CE) : FnOk P w K mg base (L2.CX P w) 1 f fd ["self", "made", "item"] (spAdd C CE P w) := by
  refine F.okX scAdd (fun vs H Q E h => ?_) (fun cdv A outer s H vs Q E hr h => ?_)
  · obtain ⟨p, dx, le, lk, fS, fT, fR, fs, es, l, T, v1, v2, rfl, _⟩ := h
    rfl
  · obtain ⟨p, dx, le, lk, fS, fT, fR, fs, es, l, T1, v1, v2, rfl, fb, I, hes, r1, r2, k, kE⟩ := h
    obtain ⟨uME, mME⟩ := T.me
    refine ⟨_, (pss_cons (ps_if (pt_cmpR (op_nin hr.units) (pv 2) (pe_fld (pv 0) rfl) (by rfl)) (pss_one ps_retN) pss_nil)
      (pss_cons (ps_if (pt_cmpR op_eq (pe_callB call_len_seq (by rfl) T.len PySem.boot_len (pa_cons (pe_fld (pv 0) rfl) pa_nil)) (pe_glob (v := .int 100) (by rfl) mME.1 mME.2) (nomark _)) (pss_one (ps_raise rfl (takes_of rfl rfl rfl rfl) (pmk_own PySem.F.excBase_ValueError XD.q XD.g XD.k (raises_own XD.s XD.t) rfl))) pss_nil)
      (pss_cons (ps_nput hr.units (pe_fld (pv 0) rfl) (pv 2) pe_bl rfl)
      (pss_one (ps_expr (pe_bm PySem.F.plainAttrs_list PySem.F.slot_list_append PySem.F.type_list_append mt_append (pe_fld (pv 0) rfl) (pa_cons (pe_tup (pa_cons (pv 1) (pa_cons (pv 2) pa_nil))) pa_nil))))))), ?_⟩
    obtain ⟨np1, np2, nlk⟩ := I.ne
    obtain ⟨kvs, nd, ka, kl⟩ := I.k
    have hin : (valV kvs (NestedKey.tup (T1.map fun r : List Val => NestedKey.tup (r.map encV)))).isSome = decide (T1 ∈ es.map (·.2)) := by
      have := ka.iff (fun _ _ => encT_inj) T1
      have h0 : (valV kvs (encT T1)).isSome = decide (T1 ∈ es.map (·.2)) := by
        by_cases h : T1 ∈ es.map (·.2)
        · rw [decide_eq_true h]; exact this.mpr h
        · rw [decide_eq_false h]
          cases h3 : (valV kvs (encT T1)).isSome
          · rfl
          · exact absurd (this.mp h3) h
      exact h0
    refine q_when (b := decide (T1 ∈ es.map (·.2))) ?_ (fun hb H1 e1 => ?_) fun hb H1 e1 => ?_
    · have := ev_nin (P := P) (w := w) (ta := tVar 2) (tb := tFld K (tVar 0) "known") (σ := [some (.ref p), some v1, some v2]) (ks := T1.map fun r : List Val => NestedKey.tup (r.map encV)) (er_var rfl r2) (fit_T T1).2 (ev_fld (ev_var rfl) I.o TC.cl TC.nK fb.k) nd.r
      rw [hin] at this
      exact et_test this
    · have e : addE es (l, T1) = es := if_pos (of_decide_eq_true hb)
      exact k H1 ((mk_ex _ _).trans e1) (by rw [e]; exact I.go e1) (by rw [e]; exact hes)
    · have hnew : T1 ∉ es.map (·.2) := of_decide_eq_false hb
      have I1 := I.go e1
      obtain ⟨us, hus, rus⟩ := I1.e
      have hul := rus.length
      rw [List.length_map] at hul
      refine q_when (et_test (ev_eqI (i := (us.length : Int)) (j := 100) (ev_len (K := K) (ev_fld (ev_var rfl) I1.o TC.cl TC.nE fb.e) (sq_of hus)) ev_c)) (fun hb2 H2 e2 => ?_) fun hb2 H2 e2 => ?_
      · exact kE H2 ((mk_ex _ _).trans (e1.trans e2))
      have hlen : es.length < 100 := by have := of_decide_eq_false hb2; omega
      have I2 := I1.go e2
      obtain ⟨kvs2, nd2, ka2, kl2⟩ := I2.k
      refine ⟨_, rfl, p, C, dx, fs, _, rfl, I2.o, TC.cl, TC.nK, fb.k, _, rfl, lk, kvs2, _, rfl, nd2, (r2.ex (e1.trans e2)), (fit_T T1).2, Nat.lt_of_le_of_lt (show kvs2.length ≤ 100 by omega) (by decide), fun ob txo nd3 => ?_⟩
      have e12 := e1.trans e2
      have hus3 : upd H2 lk ob le = some (.lst us) := by rw [upd_ne nlk]; exact e2 _ _ hus
      have ho3 : upd H2 lk ob p = some (.ins C dx fs) := by rw [upd_ne np2]; exact I2.o
      refine ⟨_, rfl, p, C, dx, fs, _, rfl, ho3, TC.cl, TC.nE, fb.e, .inl ⟨rfl, us, SqL.of hus3⟩, ?_⟩
      have et : EvR (tTup (tCons (tVar 1) (tCons (tVar 2) tNil))) [some (.ref p), some v1, some v2] (upd H2 lk ob) (RepR (encE (l, T1))) := er_tup (ds := [encL l, encT T1]) (ea1 (er_var rfl ((r1.ex e12).tx txo)) (monoRep _) (ea1 (er_var rfl ((r2.ex e12).tx txo)) (monoRep _) ea0)) (by show 2 ≤ 100000; decide)
      refine et _ (Ex.refl _) _ fun u H4 e4 r4 => ?_
      refine ⟨le, us, u, rfl, rfl, e4 _ _ hus3, sz_lt (by omega), ?_⟩
      have hx : Ex (Mk [le, lk] H) (upd H4 le (.lst (us ++ [u]))) := by
        have h0 : Mk [le, lk] H le = none := by unfold Mk; rw [if_pos (by simp)]
        have h1 : Mk [le, lk] H lk = none := by unfold Mk; rw [if_pos (by simp)]
        exact (((((mk_ex _ _).trans e12).mut h1).trans e4)).mut h0
      have ea : addE es (l, T1) = es ++ [(l, T1)] := if_neg hnew
      have txE : TEx H4 (upd H4 le (.lst (us ++ [u]))) := TEx.lst (e4 _ _ hus3)
      refine k _ hx ?_ (by rw [ea, List.length_append]; show es.length + 1 ≤ 100; omega)
      rw [ea]
      refine ⟨by rw [upd_ne np1]; exact e4 _ _ ho3, ⟨_, upd_same, ?_⟩, putK kvs2 (encT T1) (.bl true), ?_, ?_, by rw [List.length_append]; exact Nat.le_trans (length_putK _ _ _) (by show kvs2.length + 1 ≤ es.length + 1; omega)⟩
      · rw [List.map_append]
        exact ((((rus.ex e2).tx txo).ex e4).tx txE).app (Reps.one (r4.tx txE))
      · obtain ⟨tn, g1, g2, g3⟩ := nd3
        exact ⟨tn, by rw [upd_ne nlk.symm]; exact e4 _ _ g1, g2, g3.tx ((TEx.of e4).trans txE)⟩
      · have := ka2.put T1 (.bl true)
        refine ⟨fun kv hkv => ?_, fun c hc => this.2 c ?_⟩
        · obtain ⟨c, hc, e⟩ := this.1 kv hkv
          refine ⟨c, ?_, e⟩
          rw [List.map_append]
          rcases hc with hc | rfl
          · exact List.mem_append_left _ hc
          · exact List.mem_append_right _ (List.mem_singleton.mpr rfl)
        · rw [List.map_append] at hc
          rcases List.mem_append.mp hc with h | h
          · exact .inl h
          · exact .inr (List.mem_singleton.mp h)
/-! ### grow -/
theorem er_fldL {σ : L2.St} {H : Hp} {C p dx : Addr} {fs : List (PySem.Str × V)} {m : PySem.Str} {le : Addr} {te : TE} {ds : List D} (h : Ev te σ H (.ref p)) (o : H p = some (.ins C dx fs)) (c : Cls K C) (n : NoAttr K C m) (l : fs.lookup m = some (.ref le)) (hl : LRep ds (.ref le) H) : EvR (tFld K te m) σ H (LRep ds) := fun H1 e Q q =>
  ev_fld h o c n l H1 e _ fun H2 e2 => q _ H2 e2 (monoL _ _ _ _ (e.trans e2) hl)
theorem er_fcall {σ : L2.St} {H : Hp} {C p dx f : Addr} {fs : List (PySem.Str × V)} {m : PySem.Str} {sp : Sp} {E : XK} {ta : TE} {t : TA} {Rs : List RL} {R : RL} (h0 : Ev ta σ H (.ref p)) (o : H p = some (.ins C dx fs)) (l : fs.lookup m = some (.ref f)) (h : EvAR t σ H Rs) (hs : ∀ vs H2, Ex H H2 → ArgsR Rs vs H2 → ∀ Q : VK, (∀ v H3, Ex H2 H3 → R v H3 → Q v H3) → sp vs H2 Q E) :
    EvR (tFCall C m f sp [] E ta t) σ H R := fun H1 e Q q => h0 H1 e _ fun H2 e2 => ⟨p, dx, fs, rfl, (e.trans e2) _ _ o, l, h H2 (e.trans e2) _ fun vs H3 e3 rs => by
    show sp (vs ++ []) H3 Q E
    rw [List.append_nil]
    exact hs vs H3 ((e.trans e2).trans e3) rs Q fun v H4 e4 r => q v H4 ((e2.trans e3).trans e4) r⟩
/-- self.add(..) -/
theorem s_add {σ : L2.St} {H : Hp} {De : Ends} {C CE p dx le lk fS fT fR : Addr} {fs : List (PySem.Str × V)} {es : List (Line × Tab)} {l : Line} {T : Tab} {E : XK} {ta : TE} {t : TA} {m : Mach} (fb : FB fs fS fT fR le lk) (I : BI P w C p dx fs le lk es H) (g : Good m es)
    (h0 : Ev ta σ H (.ref p)) (ha : EvAR t σ H [RepR (encL l), RepR (encT T)]) (ok : l.ok es.length) (ht : MS.tabOf m l (es.map fun e => some e.2) = some T) (it : MS.IsTab m.states T)
    (k : ∀ H2, Ex (Mk [le, lk] H) H2 → BI P w C p dx fs le lk (addE es (l, T)) H2 → Good m (addE es (l, T)) → De.nx σ H2) (kE : ∀ H', Ex (Mk [le, lk] H) H' → E (.ref CE) none H') :
    tDrop (tMeth C "add" (spAdd C CE P w) [] E ta t) De σ H := by
  refine h0 H (Ex.refl _) _ fun H1 e1 => ⟨p, dx, fs, rfl, e1 _ _ I.o, fb.a, ?_⟩
  refine ha H1 e1 _ fun vs H2 e2 rs => ?_
  obtain ⟨v, u, rfl, hv, hu⟩ := args2 rs
  have e12 := e1.trans e2
  have I2 := I.go e12
  exact ⟨p, dx, le, lk, fS, fT, fR, fs, es, l, T, v, u, rfl, fb, I2, g.2.2, hv, hu, fun H3 e3 I3 hl => k H3 (mk_trans ((mk_ex _ _).trans e12) e3) I3 (good_add (e := (l, T)) g ok ht it hl), fun H3 e3 => kE H3 (mk_trans ((mk_ex _ _).trans e12) e3)⟩
def Clo (m : Mach) (n : Nat) (es : List (Line × Tab)) : Prop := ∀ T, es[n]?.map (·.2) = some T → (MS.seqT T T = T → MS.repT T ∈ es.map (·.2)) ∧ ∀ (i : Nat) U, i ≤ n → es[i]?.map (·.2) = some U → MS.seqT T U ∈ es.map (·.2) ∧ MS.seqT U T ∈ es.map (·.2)
def spGr (C CE : Addr) (P : Program) (w : World) : Sp := fun vs H Q E => ∃ (m : Mach) (p dx le lk fS fT fR : Addr) (fs : List (PySem.Str × V)) (es : List (Line × Tab)) (n : Nat), vs = [.ref p, .int (n : Int)] ∧ FB fs fS fT fR le lk ∧ BI P w C p dx fs le lk es H ∧ m.WF ∧ Good m es ∧ n < es.length ∧
  (∀ H2 es', Ex (Mk [le, lk] H) H2 → BI P w C p dx fs le lk es' H2 → Good m es' → (∃ r, es' = es ++ r) → Clo m n es' → Q .non H2) ∧ ∀ H', Ex (Mk [le, lk] H) H' → E (.ref CE) none H'
theorem scGr : FnScope ["self", "number", "item", "other", "earlier"] ["self", "number"] (defScope sGr) := ⟨rfl, rfl, rfl, by decide +kernel, rfl, by decide +kernel, by decide +kernel⟩
theorem tab_get {es : List (Line × Tab)} {i : Nat} {e : Line × Tab} (h : es[i]? = some e) : (es.map fun e => some e.2).getD i none = some e.2 := by
  rw [List.getD_eq_getElem?_getD, List.getElem?_map, h]; rfl
theorem ok_gr {C CE fI fA fG fS fT fR f : Addr} {dS dT dR dA fd : FuncData} (F : Fun K "grow" "Builder.grow" sGr f fd) (T : Txt K mg) (TC : BTxt K mg C fI fA fG) (GA : FnOk P w K mg base (L2.CX P w) 1 fA dA ["self", "made", "item"] (spAdd C CE P w)) (bA : Binds K dA ["self", "made", "item"] [])
    (cS : Cal P w K mg base CX0 2 "in_sequence" ["first", "second"] spSeq fS dS) (cT : Cal P w K mg base CX0 3 "is_stable" ["table"] spStable fT dT) (cR : Cal P w K mg base CX0 2 "repeated" ["table"] spRep fR dR)
    (hfix : ∀ fs fS' fT' fR' le lk, FB fs fS' fT' fR' le lk → fS' = fS ∧ fT' = fT ∧ fR' = fR → True) : FnOk P w K mg base (L2.CX P w) 4 f fd ["self", "number"] (fun vs H Q E => spGr C CE P w vs H Q E ∧ ∃ p dx fs le lk, vs.head? = some (.ref p) ∧ H p = some (.ins C dx fs) ∧ FB fs fS fT fR le lk) := by
  refine F.okX scGr (fun vs H Q E h => ?_) (fun cdv A outer s H vs Q E hr h => ?_)
  · obtain ⟨⟨m, p, dx, le, lk, fS, fT, fR, fs, es, n, rfl, _⟩, _⟩ := h
    rfl
  · obtain ⟨⟨m, p, dx, le, lk, fS', fT', fR', fs, es, n, rfl, fb', I, W, g, hn, k, kE⟩, p', dx', fs', le', lk', hp', ho', fb⟩ := h
    cases hp'
    have := I.o
    rw [ho'] at this
    cases this
    have hle : le = le' := V.ref.inj (Option.some.inj (fb'.e.symm.trans fb.e))
    have hlk : lk = lk' := V.ref.inj (Option.some.inj (fb'.k.symm.trans fb.k))
    subst hle; subst hlk
    clear fb' ho' hfix
    refine ⟨_, (pss_cons (ps_set (i := 2) scGr.nd rfl (by first | exact Or.inl rfl | exact Or.inr rfl) (pe_ix ix_tup (pe_ix ix_list (pe_fld (pv 0) rfl) (pv 1) (fun _ _ => rfl)) pe_int (fun _ _ => rfl)))
      (pss_cons (ps_if (pt_val (pe_fcall (pv 0) TC.cl TC.nT cT.ok (hr.mono (by decide)) cT.kp cT.b .nil pass0 (pa_cons (pv 2) pa_nil))) (pss_one (ps_expr (pe_meth (pv 0) TC.cl TC.mA GA (hr.mono (by decide)) bA .nil (passE (takes_of rfl rfl rfl rfl)) (pa_cons (pe_tup (pa_cons pe_str (pa_cons (pv 1) pa_nil))) (pa_cons (pe_fcall (pv 0) TC.cl TC.nR cR.ok (hr.mono (by decide)) cR.kp cR.b .nil pass0 (pa_cons (pv 2) pa_nil)) pa_nil))))) pss_nil)
      (pss_one (ps_for (passes_of rfl) rfl (pi_range1 (by rfl) T.range (pa_cons (pe_op op_add (pv 1) pe_int) pa_nil)) (pg_name (i := 3) scGr.nd rfl (by first | exact Or.inl rfl | exact Or.inr rfl)) (pss_cons (ps_set (i := 4) scGr.nd rfl (by first | exact Or.inl rfl | exact Or.inr rfl) (pe_ix ix_tup (pe_ix ix_list (pe_fld (pv 0) rfl) (pv 3) (fun _ _ => rfl)) pe_int (fun _ _ => rfl)))
      (pss_cons (ps_expr (pe_meth (pv 0) TC.cl TC.mA GA (hr.mono (by decide)) bA .nil (passE (takes_of rfl rfl rfl rfl)) (pa_cons (pe_tup (pa_cons pe_str (pa_cons (pv 1) (pa_cons (pv 3) pa_nil)))) (pa_cons (pe_fcall (pv 0) TC.cl TC.nS cS.ok (hr.mono (by decide)) cS.kp cS.b .nil pass0 (pa_cons (pv 2) (pa_cons (pv 4) pa_nil))) pa_nil))))
      (pss_one (ps_expr (pe_meth (pv 0) TC.cl TC.mA GA (hr.mono (by decide)) bA .nil (passE (takes_of rfl rfl rfl rfl)) (pa_cons (pe_tup (pa_cons pe_str (pa_cons (pv 3) (pa_cons (pv 1) pa_nil)))) (pa_cons (pe_fcall (pv 0) TC.cl TC.nS cS.ok (hr.mono (by decide)) cS.kp cS.b .nil pass0 (pa_cons (pv 4) (pa_cons (pv 2) pa_nil))) pa_nil))))))))))), ?_⟩
    have s3 := W.s3
    obtain ⟨e0, he0⟩ : ∃ e, es[n]? = some e := ⟨es[n], List.getElem?_eq_getElem hn⟩
    obtain ⟨hok0, hit0⟩ := g.1 n e0 he0
    -- an entry's table
    have ent : ∀ {H' : Hp} {es' : List (Line × Tab)} {σ' : L2.St} {te : TE} {i : Nat} {e : Line × Tab}, BI P w C p dx fs le lk es' H' → σ'[0]? = some (some (.ref p)) → es'[i]? = some e → Ev te σ' H' (.int (i : Int)) → EvR (tOp (rIxT K) (tOp (rIxL K) (tFld K (tVar 0) "entries") te) (tC (.int 1))) σ' H' (RepR (encT e.2)) := fun {H' es' σ' te i e} I' h0 hi he =>
      er_ixn (n := 1) (ks := [encL e.1, encT e.2]) (er_ixL (ks := es'.map encE) (d := encE e) (er_fldL (ev_var h0) I'.o TC.cl TC.nE fb.e (by obtain ⟨us, h1, h2⟩ := I'.e; exact ⟨le, us, rfl, h1, h2⟩)) he (by rw [List.getElem?_map, hi]; rfl)) ev_c rfl
    refine qr_asg (R := RepR (encT e0.2)) (ent I rfl he0 (ev_var rfl)) fun v2 H1 e1 r2 => ?_
    have I1 := I.go e1
    show tSeq _ _ _ ([some (.ref p), some (.int (n : Int)), some v2, none, none] : L2.St) H1
    -- after the test of stability
    have rest : ∀ (H2 : Hp) (es1 : List (Line × Tab)), Ex (Mk [le, lk] H) H2 → BI P w C p dx fs le lk es1 H2 → Good m es1 → (∃ r, es1 = es ++ r) → Rep H2 (encT e0.2) v2 → (MS.seqT e0.2 e0.2 = e0.2 → MS.repT e0.2 ∈ es1.map (·.2)) →
        tFor (iRng1 (tCons (tOp (rI0 fun i j => .int (i + j)) (tVar 1) (tC (.int 1))) tNil)) (gName 3) (tSeq (tAsg (tOp (rIxT K) (tOp (rIxL K) (tFld K (tVar 0) "entries") (tVar 3)) (tC (.int 1))) (gName 4))
          (tSeq (tDrop (tMeth C "add" (spAdd C CE P w) [] E (tVar 0) (tCons (tTup (tCons (tC (.str "both")) (tCons (tVar 1) (tCons (tVar 3) tNil)))) (tCons (tFCall C "together" fS spSeq [] E0 (tVar 0) (tCons (tVar 2) (tCons (tVar 4) tNil))) tNil))))
            (tDrop (tMeth C "add" (spAdd C CE P w) [] E (tVar 0) (tCons (tTup (tCons (tC (.str "both")) (tCons (tVar 3) (tCons (tVar 1) tNil)))) (tCons (tFCall C "together" fS spSeq [] E0 (tVar 0) (tCons (tVar 4) (tCons (tVar 2) tNil))) tNil))))))
          { nx := fun _ H' => Q .non H', rt := Q } ([some (.ref p), some (.int (n : Int)), some v2, none, none] : L2.St) H2 := by
      intro H2 es1 e2 I2 g2 hpre r22 hst
      obtain ⟨r0, hr0⟩ := hpre
      have he1 : es1[n]? = some e0 := by rw [hr0, List.getElem?_append_left hn]; exact he0
      refine s_forR1 (n := ((n : Int) + 1)) (ea_cons (ev_add (i := (n : Int)) (j := 1) (ev_var rfl) ev_c) ea_nil) (by have := g.2.2; omega) (fun j σ' H' => ∃ (x y : Option V) (es2 r : List (Line × Tab)), σ' = [some (.ref p), some (.int (n : Int)), some v2, x, y] ∧ Ex (Mk [le, lk] H) H' ∧ BI P w C p dx fs le lk es2 H' ∧ Good m es2 ∧ es2 = es1 ++ r ∧ Rep H' (encT e0.2) v2 ∧ ∀ (i : Nat) U, i < j → es1[i]?.map (·.2) = some U → MS.seqT e0.2 U ∈ es2.map (·.2) ∧ MS.seqT U e0.2 ∈ es2.map (·.2))
        (fun H3 e3 => ⟨none, none, es1, [], rfl, mk_trans e2 ((mk_ex _ _).trans e3), I2.go e3, g2, (List.append_nil _).symm, r22.ex e3, fun i U h => absurd h (by omega)⟩) ?_ ?_
      · rintro j σ3 H3 hj ⟨x, y, es2, r, rfl, e3, I3, g3, hr, rv3, hclo⟩
        have hjn : j ≤ n := by omega
        have hj1 : j < es1.length := by have := (List.getElem?_eq_some_iff.mp he1).1; omega
        obtain ⟨e, he⟩ : ∃ e, es1[j]? = some e := ⟨es1[j], List.getElem?_eq_getElem hj1⟩
        have he2 : es2[j]? = some e := by rw [hr, List.getElem?_append_left hj1]; exact he
        have hn2 : es2[n]? = some e0 := by rw [hr, List.getElem?_append_left (by have := (List.getElem?_eq_some_iff.mp he1).1; omega)]; exact he1
        have hn2l := (List.getElem?_eq_some_iff.mp hn2).1
        have hj2l := (List.getElem?_eq_some_iff.mp he2).1
        have hite := (g3.1 j e he2).2
        show tSeq _ _ _ ([some (.ref p), some (.int (n : Int)), some v2, some (.int (j : Int)), y] : L2.St) H3
        refine qr_asg (R := RepR (encT e.2)) (ent I3 rfl he2 (ev_var rfl)) fun v4 H4 e4 r4 => ?_
        have I4 := I3.go e4
        show tSeq _ _ _ ([some (.ref p), some (.int (n : Int)), some v2, some (.int (j : Int)), some v4] : L2.St) H4
        refine s_add (De := { nx := _, rt := _, bk := _, ct := _ }) (l := .both n j) (T := MS.seqT e0.2 e.2) fb I4 g3 (ev_var rfl) (ea1 (er_tup (ds := [.text "both", encN n, encN j]) (ea1 er_text (monoRep _) (ea1 (er_int (ev_var rfl)) (monoRep _) (ea1 (er_int (ev_var rfl)) (monoRep _) ea0))) (by show 3 ≤ 100000; decide)) (monoRep _) (ea1 (er_fcall (ev_var rfl) I4.o fb.s (ea1 (er_var rfl (rv3.ex e4)) (monoRep (encT e0.2)) (ea1 (er_var rfl r4) (monoRep (encT e.2)) ea0)) fun vs H5 e5 rs Q' q' => ?_) (monoRep _) ea0)) ⟨hn2l, hj2l⟩ ?_ (isTab_seq hit0) (fun H5 e5 I5 g5 => ?_) (fun H5 e5 => kE H5 (mk_trans (e3.trans e4) e5))
        · obtain ⟨v, u, rfl, hv, hu⟩ := args2 rs
          exact ⟨m.states, e0.2, e.2, v, u, rfl, by omega, hit0, hite, hv, hu, q'⟩
        · simp only [MS.tabOf, tab_get hn2, tab_get he2]
        obtain ⟨q1, hq1⟩ := addE_pre es2 (.both n j, MS.seqT e0.2 e.2)
        have mem1 := addE_mem es2 (.both n j, MS.seqT e0.2 e.2)
        generalize addE es2 (.both n j, MS.seqT e0.2 e.2) = es3 at hq1 I5 g5 mem1
        have hn3 : es3[n]? = some e0 := by rw [hq1, List.getElem?_append_left hn2l]; exact hn2
        have hj3 : es3[j]? = some e := by rw [hq1, List.getElem?_append_left hj2l]; exact he2
        have tx5 := I4.tx e5
        refine s_add (De := { nx := _, rt := _, bk := _, ct := _ }) (l := .both j n) (T := MS.seqT e.2 e0.2) fb I5 g5 (ev_var rfl) (ea1 (er_tup (ds := [.text "both", encN j, encN n]) (ea1 er_text (monoRep _) (ea1 (er_int (ev_var rfl)) (monoRep _) (ea1 (er_int (ev_var rfl)) (monoRep _) ea0))) (by show 3 ≤ 100000; decide)) (monoRep _) (ea1 (er_fcall (ev_var rfl) I5.o fb.s (ea1 (er_var rfl (r4.tx tx5)) (monoRep (encT e.2)) (ea1 (er_var rfl ((rv3.ex e4).tx tx5)) (monoRep (encT e0.2)) ea0)) fun vs H6 e6 rs Q' q' => ?_) (monoRep _) ea0)) ⟨(List.getElem?_eq_some_iff.mp hj3).1, (List.getElem?_eq_some_iff.mp hn3).1⟩ ?_ (isTab_seq hite) (fun H6 e6 I6 g6 => ?_) (fun H6 e6 => kE H6 (mk_trans (mk_trans (e3.trans e4) e5) e6))
        · obtain ⟨v, u, rfl, hv, hu⟩ := args2 rs
          exact ⟨m.states, e.2, e0.2, v, u, rfl, by omega, hite, hit0, hv, hu, q'⟩
        · simp only [MS.tabOf, tab_get hn3, tab_get hj3]
        obtain ⟨q2, hq2⟩ := addE_pre es3 (.both j n, MS.seqT e.2 e0.2)
        have mem2 := addE_mem es3 (.both j n, MS.seqT e.2 e0.2)
        generalize addE es3 (.both j n, MS.seqT e.2 e0.2) = es4 at hq2 I6 g6 mem2
        have tx6 := I5.tx e6
        have sub23 : ∀ x, x ∈ es2.map (·.2) → x ∈ es4.map (·.2) := fun x hx => by rw [hq2, hq1, List.map_append, List.map_append]; exact List.mem_append_left _ (List.mem_append_left _ hx)
        have sub34 : ∀ x, x ∈ es3.map (·.2) → x ∈ es4.map (·.2) := fun x hx => by rw [hq2, List.map_append]; exact List.mem_append_left _ hx
        refine ⟨some (.int (j : Int)), some v4, es4, r ++ q1 ++ q2, rfl, mk_trans (mk_trans (e3.trans e4) e5) e6, I6, g6, by rw [hq2, hq1, hr]; simp, ((rv3.ex e4).tx tx5).tx tx6, fun i U hi hU => ?_⟩
        by_cases hij : i = j
        · subst hij
          rw [he] at hU
          cases hU
          exact ⟨sub34 _ mem1, mem2⟩
        · obtain ⟨h1, h2⟩ := hclo i U (by omega) hU
          exact ⟨sub23 _ h1, sub23 _ h2⟩
      · rintro σ3 H3 ⟨x, y, es2, r, rfl, e3, I3, g3, hr, rv3, hclo⟩
        refine k H3 es2 e3 I3 g3 ⟨r0 ++ r, by rw [hr, hr0, List.append_assoc]⟩ fun T hT => ?_
        have hn2 : es2[n]? = some e0 := by rw [hr, List.getElem?_append_left (by have := (List.getElem?_eq_some_iff.mp he1).1; omega)]; exact he1
        rw [hn2] at hT
        cases hT
        refine ⟨fun h => ?_, fun i U hi hU => ?_⟩
        · rw [hr, List.map_append]; exact List.mem_append_left _ (hst h)
        · refine hclo i U (by omega) ?_
          rw [hr, List.getElem?_append_left (by have := (List.getElem?_eq_some_iff.mp he1).1; omega)] at hU
          exact hU
    refine q_when (b := decide (MS.seqT e0.2 e0.2 = e0.2)) (et_B ?_) (fun hb H2 e2 => ?_) fun hb H2 e2 => ?_
    · refine (er_fcall (R := IsV (.bl (decide (MS.seqT e0.2 e0.2 = e0.2)))) (ev_var rfl) I1.o fb.t (ea1 (er_var rfl r2) (monoRep (encT e0.2)) ea0) fun vs H5 e5 rs Q' q' => ?_).ev
      obtain ⟨v, rfl, hv⟩ := args1 rs
      exact ⟨m.states, e0.2, v, rfl, by omega, hit0, hv, q'⟩
    · have hstab := of_decide_eq_true hb
      have I2 := I1.go e2
      refine s_add (De := { nx := _, rt := _, bk := _, ct := _ }) (l := .often n) (T := MS.repT e0.2) fb I2 g (ev_var rfl) (ea1 (er_tup (ds := [.text "often", encN n]) (ea1 er_text (monoRep _) (ea1 (er_int (ev_var rfl)) (monoRep _) ea0)) (by show 2 ≤ 100000; decide)) (monoRep _) (ea1 (er_fcall (ev_var rfl) I2.o fb.r (ea1 (er_var rfl (r2.ex e2)) (monoRep (encT e0.2)) ea0) fun vs H5 e5 rs Q' q' => ?_) (monoRep _) ea0)) hn ?_ (isTab_rep hit0) (fun H5 e5 I5 g5 => ?_) (fun H5 e5 => kE H5 (mk_trans ((mk_ex _ _).trans (e1.trans e2)) e5))
      · obtain ⟨v, rfl, hv⟩ := args1 rs
        exact ⟨m.states, e0.2, v, rfl, by omega, hit0, hv, q'⟩
      · simp only [MS.tabOf, tab_get he0]
        rw [if_pos hstab]
      · exact rest H5 _ (mk_trans ((mk_ex _ _).trans (e1.trans e2)) e5) I5 g5 (addE_pre _ _) ((r2.ex e2).tx (I2.tx e5)) fun _ => addE_mem es (.often n, MS.repT e0.2)
    · exact rest H2 es ((mk_ex _ _).trans (e1.trans e2)) (I1.go e2) g ⟨[], (List.append_nil _).symm⟩ (r2.ex e2) fun h => absurd h (of_decide_eq_false hb)
/-! ### __init__ -/
theorem putF_len (f : PySem.Str) (v : V) : ∀ fs : List (PySem.Str × V), (putF f v fs).length ≤ fs.length + 1
  | [] => Nat.le_refl _
  | (g, x) :: r => by
    show (if g = f then (g, v) :: r else (g, x) :: putF f v r).length ≤ _
    split
    · simp
    · have := putF_len f v r
      simp only [List.length_cons]
      omega
theorem ex_thru {H H1 H2 : Hp} {p le lk : Addr} (a : Ex (Mk [p] H) H1) (b : Ex (Mk [le, lk] H1) H2) (h1 : Mk [p] H le = none) (h2 : Mk [p] H lk = none) : Ex (Mk [p] H) H2 := fun x o h => by
  refine b x o ?_
  have hx := a x o h
  unfold Mk
  rw [if_neg]
  · exact hx
  · intro hm
    rcases List.mem_cons.mp hm with rfl | hm
    · rw [h1] at h; cases h
    · rcases List.mem_cons.mp hm with rfl | hm
      · rw [h2] at h; cases h
      · cases hm
theorem Clo.more {m : Mach} {n : Nat} {es : List (Line × Tab)} (h : Clo m n es) (hn : n < es.length) (r : List (Line × Tab)) : Clo m n (es ++ r) := fun T hT => by
  rw [List.getElem?_append_left hn] at hT
  obtain ⟨h1, h2⟩ := h T hT
  refine ⟨fun hs => by rw [List.map_append]; exact List.mem_append_left _ (h1 hs), fun i U hi hU => ?_⟩
  rw [List.getElem?_append_left (by omega)] at hU
  obtain ⟨g1, g2⟩ := h2 i U hi hU
  rw [List.map_append]
  exact ⟨List.mem_append_left _ g1, List.mem_append_left _ g2⟩
def spIn (C CE fS fT fR : Addr) : Sp := fun vs H Q E => ∃ (m : Mach) (p dx : Addr) (vl : V), vs = [.ref p, vl, .ref fS, .ref fT, .ref fR] ∧ m.WF ∧ H p = some (.ins C dx []) ∧ LRep ((List.range m.letters).map fun a => encT (MS.letT m a)) vl H ∧
  (∀ H2 le fs es, Ex (Mk [p] H) H2 → H2 p = some (.ins C dx fs) → fs.lookup ("entries" : PySem.Str) = some (.ref le) → LRep (es.map encE) (.ref le) H2 → Good m es → MS.Closed m (es.map (·.2)) → Q .non H2) ∧ ∀ H', Ex (Mk [p] H) H' → E (.ref CE) none H'
theorem scIn : FnScope ["self", "letters", "together", "stable", "again", "letter", "item", "number"] ["self", "letters", "together", "stable", "again"] (defScope sIn) := ⟨rfl, rfl, rfl, by decide +kernel, rfl, by decide +kernel, by decide +kernel⟩
theorem fb_mk (fS fT fR le lk : Addr) : FB (putF "known" (.ref lk) (putF "entries" (.ref le) (putF "again" (.ref fR) (putF "stable" (.ref fT) (putF "together" (.ref fS) []))))) fS fT fR le lk := by
  have d : ∀ a b : PySem.Str, (decide (a = b)) = false → ¬ a = b := fun a b h => of_decide_eq_false h
  refine ⟨?_, ?_, ?_, ?_, ?_, ?_, ?_⟩ <;> simp only [lookup_putF]
  · rw [if_neg (d _ _ (by decide +kernel)), if_neg (d _ _ (by decide +kernel)), if_neg (d _ _ (by decide +kernel)), if_neg (d _ _ (by decide +kernel)), if_pos True.intro]
  · rw [if_neg (d _ _ (by decide +kernel)), if_neg (d _ _ (by decide +kernel)), if_neg (d _ _ (by decide +kernel)), if_pos True.intro]
  · rw [if_neg (d _ _ (by decide +kernel)), if_neg (d _ _ (by decide +kernel)), if_pos True.intro]
  · rw [if_neg (d _ _ (by decide +kernel)), if_pos True.intro]
  · rw [if_pos True.intro]
  · rw [if_neg (d _ _ (by decide +kernel)), if_neg (d _ _ (by decide +kernel)), if_neg (d _ _ (by decide +kernel)), if_neg (d _ _ (by decide +kernel)), if_neg (d _ _ (by decide +kernel))]; rfl
  · rw [if_neg (d _ _ (by decide +kernel)), if_neg (d _ _ (by decide +kernel)), if_neg (d _ _ (by decide +kernel)), if_neg (d _ _ (by decide +kernel)), if_neg (d _ _ (by decide +kernel))]; rfl
theorem q_fld {σ : L2.St} {H : Hp} {De : Ends} {tz : TS} {tv : TE} {f : PySem.Str} {i : Nat} {C p dx : Addr} {fs : List (PySem.Str × V)} {C' : V → Hp → Prop} (h0 : σ[i]? = some (some (.ref p))) (c : Cls K C) (n : NoAttr K C f) (hv : ∀ Q : VK, (∀ y H1, C' y H1 → Q y H1) → tv σ H Q)
    (ho : ∀ y H1, C' y H1 → H1 p = some (.ins C dx fs)) (hl : fs.length < 1000) (k : ∀ y H1, C' y H1 → tz De σ (upd H1 p (.ins C dx (putF f y fs)))) : tSeq (sFld K (tVar i) tv f) tz De σ H := hv _ fun y H1 hc => ⟨_, h0, p, C, dx, fs, rfl, ho y H1 hc, c, n, hl, k y H1 hc⟩
theorem ok_in {C CE fI fA fG fS fT fR f : Addr} {dA dG fd : FuncData} (F : Fun K "__init__" "Builder.__init__" sIn f fd) (T : Txt K mg) (TC : BTxt K mg C fI fA fG) (GA : FnOk P w K mg base (L2.CX P w) 1 fA dA ["self", "made", "item"] (spAdd C CE P w)) (bA : Binds K dA ["self", "made", "item"] [])
    (GG : FnOk P w K mg base (L2.CX P w) 4 fG dG ["self", "number"] (fun vs H Q E => spGr C CE P w vs H Q E ∧ ∃ p dx fs le lk, vs.head? = some (.ref p) ∧ H p = some (.ins C dx fs) ∧ FB fs fS fT fR le lk)) (bG : Binds K dG ["self", "number"] []) :
    FnOk P w K mg base (L2.CX P w) 5 f fd ["self", "letters", "together", "stable", "again"] (spIn C CE fS fT fR) := by
  refine F.okX scIn (fun vs H Q E h => ?_) (fun cdv A outer s H vs Q E hr h => ?_)
  · obtain ⟨m, p, dx, vl, rfl, _⟩ := h
    rfl
  · obtain ⟨m, p, dx, vl, rfl, W, hp, hvl, k, kE⟩ := h
    refine ⟨_, (pss_cons (ps_fld (pv 0) (pv 2) rfl)
      (pss_cons (ps_fld (pv 0) (pv 3) rfl)
      (pss_cons (ps_fld (pv 0) (pv 4) rfl)
      (pss_cons (ps_fld (pv 0) (pe_lst pa_nil) rfl)
      (pss_cons (ps_fld (pv 0) pe_nnew rfl)
      (pss_cons (ps_for (passes_of rfl) rfl (pi_enum (by rfl) T.enumerate (pa_cons (pv 1) pa_nil)) (pg_tup rfl (pgs_cons (pg_name (i := 5) scIn.nd rfl (by first | exact Or.inl rfl | exact Or.inr rfl)) (pgs_cons (pg_name (i := 6) scIn.nd rfl (by first | exact Or.inl rfl | exact Or.inr rfl)) pgs_nil))) (pss_one (ps_expr (pe_meth (pv 0) TC.cl TC.mA GA (hr.mono (by decide)) bA .nil (passE (takes_of rfl rfl rfl rfl)) (pa_cons (pe_tup (pa_cons pe_str (pa_cons (pv 5) pa_nil))) (pa_cons (pv 6) pa_nil))))))
      (pss_cons (ps_set (i := 7) scIn.nd rfl (by first | exact Or.inl rfl | exact Or.inr rfl) pe_int)
      (pss_one (ps_while (passes_of rfl) (pt_cmpR op_lt (pv 7) (pe_callB call_len_seq (by rfl) T.len PySem.boot_len (pa_cons (pe_fld (pv 0) rfl) pa_nil)) (nomark _)) (pss_cons (ps_expr (pe_meth (pv 0) TC.cl TC.mG GG (hr.mono (by decide)) bG .nil (passE (takes_of rfl rfl rfl rfl)) (pa_cons (pv 7) pa_nil)))
      (pss_one (ps_aug (i := 7) scIn.nd rfl (Or.inl rfl) pe_int ip_add)))))))))))), ?_⟩
    have l2 := W.l2
    have l3 : (putF "again" (V.ref fR) (putF "stable" (.ref fT) (putF "together" (.ref fS) []))).length ≤ 3 := Nat.le_trans (putF_len _ _ _) (Nat.succ_le_succ (Nat.le_trans (putF_len _ _ _) (Nat.succ_le_succ (putF_len _ _ _))))
    refine q_fld (C' := fun y H1 => y = .ref fS ∧ H1 = H) (fs := []) rfl TC.cl TC.nS (fun Q q => ⟨_, rfl, q _ _ ⟨rfl, rfl⟩⟩) (fun y H1 h => by rw [h.2]; exact hp) (by decide) fun y H1 h => ?_
    obtain ⟨rfl, e⟩ := h
    rw [e]
    refine q_fld (C' := fun y H2 => y = .ref fT ∧ H2 = upd H p (.ins C dx (putF "together" (.ref fS) []))) (fs := putF "together" (.ref fS) []) rfl TC.cl TC.nT (fun Q q => ⟨_, rfl, q _ _ ⟨rfl, rfl⟩⟩) (fun y H2 h => by rw [h.2]; exact upd_same) (by show 1 < 1000; decide) fun y H2 h => ?_
    obtain ⟨rfl, rfl⟩ := h
    refine q_fld (C' := fun y H2 => y = .ref fR ∧ H2 = upd (upd H p (.ins C dx (putF "together" (.ref fS) []))) p (.ins C dx (putF "stable" (.ref fT) (putF "together" (.ref fS) [])))) (fs := putF "stable" (.ref fT) (putF "together" (.ref fS) [])) rfl TC.cl TC.nR (fun Q q => ⟨_, rfl, q _ _ ⟨rfl, rfl⟩⟩) (fun y H2 h => by rw [h.2]; exact upd_same) (Nat.lt_of_le_of_lt (putF_len _ _ _) (by show 1 + 1 < 1000; decide)) fun y H2 h => ?_
    obtain ⟨rfl, rfl⟩ := h
    refine q_fld (C' := fun y H2 => ∃ le, upd (upd (upd H p (.ins C dx (putF "together" (.ref fS) []))) p (.ins C dx (putF "stable" (.ref fT) (putF "together" (.ref fS) [])))) p (.ins C dx (putF "again" (.ref fR) (putF "stable" (.ref fT) (putF "together" (.ref fS) [])))) le = none ∧ y = .ref le ∧ H2 = upd (upd (upd (upd H p (.ins C dx (putF "together" (.ref fS) []))) p (.ins C dx (putF "stable" (.ref fT) (putF "together" (.ref fS) [])))) p (.ins C dx (putF "again" (.ref fR) (putF "stable" (.ref fT) (putF "together" (.ref fS) []))))) le (.lst [])) (fs := putF "again" (.ref fR) (putF "stable" (.ref fT) (putF "together" (.ref fS) []))) rfl TC.cl TC.nE (fun Q q => ⟨Nat.zero_le _, fun le hle => q _ _ ⟨le, hle, rfl, rfl⟩⟩) (fun y H2 h => by obtain ⟨le, hle, _, rfl⟩ := h; rw [upd_ne (fun z => by subst z; rw [upd_same] at hle; cases hle)]; exact upd_same) (Nat.lt_of_le_of_lt l3 (by decide)) fun y H2 h => ?_
    obtain ⟨le, hle, rfl, rfl⟩ := h
    have npl : p ≠ le := fun z => by subst z; rw [upd_same] at hle; cases hle
    refine q_fld (C' := fun y H2 => ∃ lk, upd (upd (upd (upd (upd H p (.ins C dx (putF "together" (.ref fS) []))) p (.ins C dx (putF "stable" (.ref fT) (putF "together" (.ref fS) [])))) p (.ins C dx (putF "again" (.ref fR) (putF "stable" (.ref fT) (putF "together" (.ref fS) []))))) le (.lst [])) p (.ins C dx (putF "entries" (.ref le) (putF "again" (.ref fR) (putF "stable" (.ref fT) (putF "together" (.ref fS) []))))) lk = none ∧ y = .ref lk ∧ H2 = upd (upd (upd (upd (upd (upd H p (.ins C dx (putF "together" (.ref fS) []))) p (.ins C dx (putF "stable" (.ref fT) (putF "together" (.ref fS) [])))) p (.ins C dx (putF "again" (.ref fR) (putF "stable" (.ref fT) (putF "together" (.ref fS) []))))) le (.lst [])) p (.ins C dx (putF "entries" (.ref le) (putF "again" (.ref fR) (putF "stable" (.ref fT) (putF "together" (.ref fS) [])))))) lk (NDO P w lk [])) (fs := putF "entries" (.ref le) (putF "again" (.ref fR) (putF "stable" (.ref fT) (putF "together" (.ref fS) [])))) rfl TC.cl TC.nK (fun Q q => fun lk hlk => q _ _ ⟨lk, hlk, rfl, rfl⟩) (fun y H2 h => by obtain ⟨lk, hlk, _, rfl⟩ := h; rw [upd_ne (fun z => by subst z; rw [upd_same] at hlk; cases hlk)]; exact upd_same) (Nat.lt_of_le_of_lt (Nat.le_trans (putF_len _ _ _) (Nat.succ_le_succ l3)) (by decide)) fun y H2 h => ?_
    obtain ⟨lk, hlk, rfl, rfl⟩ := h
    have npk : p ≠ lk := fun z => by subst z; rw [upd_same] at hlk; cases hlk
    have nlk : le ≠ lk := fun z => by subst z; rw [upd_ne npl.symm, upd_same] at hlk; cases hlk
    have hle0 : Mk [p] H le = none := by unfold Mk; rw [if_neg (by simp; exact npl.symm)]; rw [upd_ne npl.symm, upd_ne npl.symm, upd_ne npl.symm] at hle; exact hle
    have hlk0 : Mk [p] H lk = none := by
      unfold Mk
      rw [if_neg (by simp; exact npk.symm)]
      rw [upd_ne npk.symm, upd_ne nlk.symm, upd_ne npk.symm, upd_ne npk.symm, upd_ne npk.symm] at hlk
      exact hlk
    have hp0 : Mk [p] H p = none := by unfold Mk; rw [if_pos (by simp)]
    have fb := fb_mk fS fT fR le lk
    generalize hfs : putF "known" (V.ref lk) (putF "entries" (.ref le) (putF "again" (.ref fR) (putF "stable" (.ref fT) (putF "together" (.ref fS) [])))) = fs at fb ⊢
    have eK : Ex (Mk [p] H) (upd (upd (upd (upd (upd (upd (upd H p (.ins C dx (putF "together" (.ref fS) []))) p (.ins C dx (putF "stable" (.ref fT) (putF "together" (.ref fS) [])))) p (.ins C dx (putF "again" (.ref fR) (putF "stable" (.ref fT) (putF "together" (.ref fS) []))))) le (.lst [])) p (.ins C dx (putF "entries" (.ref le) (putF "again" (.ref fR) (putF "stable" (.ref fT) (putF "together" (.ref fS) [])))))) lk (NDO P w lk [])) p (.ins C dx fs)) :=
      (((((((mk_ex _ _).mut hp0).mut hp0).mut hp0).mut hle0).mut hp0).mut hlk0).mut hp0
    have I0 : BI P w C p dx fs le lk [] (upd (upd (upd (upd (upd (upd (upd H p (.ins C dx (putF "together" (.ref fS) []))) p (.ins C dx (putF "stable" (.ref fT) (putF "together" (.ref fS) [])))) p (.ins C dx (putF "again" (.ref fR) (putF "stable" (.ref fT) (putF "together" (.ref fS) []))))) le (.lst [])) p (.ins C dx (putF "entries" (.ref le) (putF "again" (.ref fR) (putF "stable" (.ref fT) (putF "together" (.ref fS) [])))))) lk (NDO P w lk [])) p (.ins C dx fs)) := by
      refine ⟨upd_same, ⟨[], by rw [upd_ne npl.symm, upd_ne nlk, upd_ne npl.symm]; exact upd_same, .nil⟩, [], ⟨[], by rw [upd_ne npk.symm]; exact upd_same, rfl, fun t ht => (by cases ht)⟩, ⟨fun kv h => (by cases h), fun a h => (by cases h)⟩, Nat.le_refl _⟩
    generalize (upd (upd (upd (upd (upd (upd (upd H p (.ins C dx (putF "together" (.ref fS) []))) p (.ins C dx (putF "stable" (.ref fT) (putF "together" (.ref fS) [])))) p (.ins C dx (putF "again" (.ref fR) (putF "stable" (.ref fT) (putF "together" (.ref fS) []))))) le (.lst [])) p (.ins C dx (putF "entries" (.ref le) (putF "again" (.ref fR) (putF "stable" (.ref fT) (putF "together" (.ref fS) [])))))) lk (NDO P w lk [])) p (.ins C dx fs)) = HK at eK I0 ⊢
    have txp : TEx H (Mk [p] H) := fun a xs h => by
      unfold Mk
      rw [if_neg]
      · exact h
      · intro hm
        have : a = p := by simpa using hm
        subst this
        rw [hp] at h; cases h
    have hvl' : LRep ((List.range m.letters).map fun a => encT (MS.letT m a)) vl (Mk [p] H) := by
      obtain ⟨a, us, rfl, h1, h2⟩ := hvl
      refine ⟨a, us, rfl, ?_, h2.tx txp⟩
      unfold Mk
      rw [if_neg]
      · exact h1
      · intro hm
        have : a = p := by simpa using hm
        subst this
        rw [hp] at h1; cases h1
    have g0 : Good m [] := ⟨fun i e h => (by cases h), fun i l T h => (by cases h), by decide⟩
    refine qf_enum (De := { nx := _, rt := _, bk := _, ct := _ }) (H0 := Mk [p] H) (l := List.range m.letters) (en := fun a => encT (MS.letT m a)) eK (ep_var (i := 1) rfl hvl') (fun i σ' H' => ∃ (x y : Option V) (es : List (Line × Tab)), σ' = [some (.ref p), some vl, some (.ref fS), some (.ref fT), some (.ref fR), x, y, none] ∧ Ex (Mk [p] H) H' ∧ BI P w C p dx fs le lk es H' ∧ Good m es ∧ ∀ a, a < i → MS.letT m a ∈ es.map (·.2)) ⟨none, none, [], rfl, eK, I0, g0, fun a h => absurd h (by omega)⟩ (fun i σ' H' h => by obtain ⟨_, _, _, _, h, _⟩ := h; exact h) ?_ ?_
    · rintro i a v t σ1 H1 hi rv ⟨x, y, es, rfl, e1, I1, g1, hlet⟩ hn
      have hil : i < m.letters := by have := (List.getElem?_eq_some_iff.mp hi).1; simpa using this
      rw [List.getElem?_range hil] at hi
      cases hi
      have et : Ex H1 (upd H1 t (.tup [.int (i : Int), v])) := Ex.new hn
      refine g_pair upd_same ?_
      have I2 := I1.go et
      refine s_add (De := { nx := _, rt := _, bk := _, ct := _ }) (σ := [some (.ref p), some vl, some (.ref fS), some (.ref fT), some (.ref fR), some (.int (i : Int)), some v, none]) (l := .letter i) (T := MS.letT m i) fb I2 g1 (ev_var rfl) (ea1 (er_tup (ds := [.text "letter", encN i]) (ea1 er_text (monoRep _) (ea1 (er_int (ev_var rfl)) (monoRep _) ea0)) (by show 2 ≤ 100000; decide)) (monoRep _) (ea1 (er_var rfl (rv.ex et)) (monoRep _) ea0)) True.intro ?_ (isTab_let m i) (fun H3 e3 I3 g3 => ?_) (fun H3 e3 => kE H3 (ex_thru (e1.trans et) e3 hle0 hlk0))
      · simp only [MS.tabOf]; rw [if_pos hil]
      · obtain ⟨q, hq⟩ := addE_pre es (.letter i, MS.letT m i)
        refine ⟨_, _, _, rfl, ex_thru (e1.trans et) e3 hle0 hlk0, I3, g3, fun a ha => ?_⟩
        by_cases h : a = i
        · subst h; exact addE_mem es (.letter a, MS.letT m a)
        · rw [hq, List.map_append]; exact List.mem_append_left _ (hlet a (by omega))
    · rintro σ1 H1 ⟨x, y, es, rfl, e1, I1, g1, hlet⟩
      rw [List.length_range] at hlet
      refine q_asg ev_c fun H2 e2 => ?_
      show tWhile _ _ _ ([some (.ref p), some vl, some (.ref fS), some (.ref fT), some (.ref fR), x, y, some (.int ((0 : Nat) : Int))] : L2.St) H2
      refine s_while (fun μ σ' H' => ∃ (n : Nat) (es : List (Line × Tab)), σ' = [some (.ref p), some vl, some (.ref fS), some (.ref fT), some (.ref fR), x, y, some (.int (n : Int))] ∧ μ = 200 - n ∧ n ≤ es.length ∧ Ex (Mk [p] H) H' ∧ BI P w C p dx fs le lk es H' ∧ Good m es ∧ (∀ a, a < m.letters → MS.letT m a ∈ es.map (·.2)) ∧ ∀ n', n' < n → Clo m n' es) 200 ⟨0, es, rfl, rfl, Nat.zero_le _, e1.trans e2, I1.go e2, g1, hlet, fun n' h => absurd h (by omega)⟩ ?_
      rintro μ σ3 H3 ⟨n, es3, rfl, rfl, hn, e3, I3, g3, hlet3, hclo⟩
      obtain ⟨us, hus, rus⟩ := I3.e
      have hul := rus.length
      rw [List.length_map] at hul
      refine ⟨decide (n < es3.length), ?_, fun hb H4 e4 => ?_, fun hb H4 e4 => ?_⟩
      · have := et_test (ev_ltI (i := (n : Int)) (j := (us.length : Int)) (ta := tVar 7) (tb := tCB (rLenS K) (tCons (tFld K (tVar 0) "entries") tNil)) (σ := [some (.ref p), some vl, some (.ref fS), some (.ref fT), some (.ref fR), x, y, some (.int (n : Int))]) (H := H3) (ev_var rfl) (ev_len (K := K) (ev_fld (ev_var rfl) I3.o TC.cl TC.nE fb.e) (sq_of hus)))
        have ed : decide ((n : Int) < (us.length : Int)) = decide (n < es3.length) := decide_eq_decide.mpr ⟨fun h => by omega, fun h => by omega⟩
        rw [ed] at this
        exact this
      · have hlt := of_decide_eq_true hb
        refine ⟨fun σ4 H5 => ∃ (n' : Nat) (es4 : List (Line × Tab)), n' = n + 1 ∧ σ4 = [some (.ref p), some vl, some (.ref fS), some (.ref fT), some (.ref fR), x, y, some (.int (n' : Int))] ∧ n' ≤ es4.length ∧ Ex (Mk [p] H) H5 ∧ BI P w C p dx fs le lk es4 H5 ∧ Good m es4 ∧ (∀ a, a < m.letters → MS.letT m a ∈ es4.map (·.2)) ∧ ∀ n'', n'' < n' → Clo m n'' es4, fun σ4 H5 ⟨n', es4, h0, h1, h2, h3⟩ => ⟨200 - n', by have := g3.2.2; omega, n', es4, h1, rfl, h2, h3⟩, ?_⟩
        have I4 := I3.go e4
        refine ⟨_, rfl, p, dx, fs, rfl, I4.o, fb.g, _, rfl, ⟨⟨m, p, dx, le, lk, fS, fT, fR, fs, es3, n, rfl, fb, I4, W, g3, hlt, fun H5 es5 e5 I5 g5 ⟨r, hr⟩ hc5 => ?_, fun H5 e5 => kE H5 (ex_thru (e3.trans e4) e5 hle0 hlk0)⟩, p, dx, fs, le, lk, rfl, I4.o, fb⟩⟩
        refine ⟨_, rfl, _, _, rfl, rfl, n + 1, es5, rfl, ?_, ?_, ex_thru (e3.trans e4) e5 hle0 hlk0, I5, g5, fun a ha => ?_, fun n' hn' => ?_⟩
        · rfl
        · rw [hr, List.length_append]; omega
        · rw [hr, List.map_append]; exact List.mem_append_left _ (hlet3 a ha)
        · by_cases h : n' = n
          · subst h; exact hc5
          · rw [hr]; exact (hclo n' (by omega)).more (by omega) r
      · have hge : n = es3.length := by have := of_decide_eq_false hb; omega
        have I4 := I3.go e4
        obtain ⟨us4, h41, h42⟩ := I4.e
        refine k H4 le fs es3 (e3.trans e4) I4.o fb.e ⟨le, us4, rfl, h41, h42⟩ g3 (MS.closed_of hlet3 fun kk T1 hT => ?_)
        rw [List.getElem?_map] at hT
        have hk : kk < es3.length := by
          cases h : es3[kk]? with
          | none => rw [h] at hT; cases hT
          | some e => exact (List.getElem?_eq_some_iff.mp h).1
        obtain ⟨h1, h2⟩ := hclo kk (by omega) T1 hT
        exact ⟨h1, fun i U hi hU => h2 i U hi (by rw [List.getElem?_map] at hU; exact hU)⟩
/-! ### catalogue -/
def spCt (CE : Addr) : Sp := fun vs H Q E => ∃ (m : Mach) (v : V), vs = [v] ∧ m.WF ∧ m.counters ≤ 1 ∧ Rep H (encM m) v ∧ RetR (fun u H' => ∃ es, Good m es ∧ MS.Closed m (es.map (·.2)) ∧ LRep (es.map encE) u H') H Q ∧ ∀ H', Ex H H' → E (.ref CE) none H'
theorem scCt : FnScope ["machine", "letters", "letter"] ["machine"] (defScope sCt) := ⟨rfl, rfl, rfl, by decide +kernel, rfl, by decide +kernel, by decide +kernel⟩
theorem ok_ct {C CE fI fA fG fL fS fT fR f : Addr} {dL dS dT dR dI fd : FuncData} (F : Fun K "catalogue" "catalogue" sCt f fd) (T : Txt K mg) (TC : BTxt K mg C fI fA fG) (GI : FnOk P w K mg base (L2.CX P w) 5 fI dI ["self", "letters", "together", "stable", "again"] (spIn C CE fS fT fR)) (bI : Binds K dI ["self", "letters", "together", "stable", "again"] [])
    (cL : Cal P w K mg base CX0 2 "letter_table" ["machine", "letter"] spLetter fL dL) (cS : Cal P w K mg base CX0 2 "in_sequence" ["first", "second"] spSeq fS dS) (cT : Cal P w K mg base CX0 3 "is_stable" ["table"] spStable fT dT) (cR : Cal P w K mg base CX0 2 "repeated" ["table"] spRep fR dR) :
    FnOk P w K mg base (L2.CX P w) 7 f fd ["machine"] (spCt CE) := by
  refine F.okX scCt (fun vs H Q E h => ?_) (fun cdv A outer s H vs Q E hr h => ?_)
  · obtain ⟨m, v, rfl, _⟩ := h
    rfl
  · obtain ⟨m, v, rfl, W, hc, r1, k, kE⟩ := h
    refine ⟨_, (pss_cons (ps_setLc (i := 1) (own := [("letter", 2)]) (tt := tYes) (te := (tCall spLetter [] E0 (tCons (tVar 0) (tCons (tVar 2) tNil)))) rfl scCt.nd rfl rfl rfl (pi_range1 (by rfl) T.range (pa_cons (pe_ix ix_tup (pv 0) pe_int (fun _ _ => rfl)) pa_nil)) (blkOk_by (N := ["machine", "letters", "letter"]) (sc := defScope sCt) (own := [("letter", 2)]) (by decide +kernel)) (fun _ _ _ _ _ => (pg_name (i := 2) scCt.nd rfl (by first | exact Or.inl rfl | exact Or.inr rfl))) (fun _ _ _ _ _ => pts_nil) (fun _ _ _ _ _ => (pe_cal cL hr pass0 (pa_cons (pv 0) (pa_cons (pv 2) pa_nil)))))
      (pss_one (ps_ret (pe_fld (pe_make TC.mkk GI (hr.mono (by decide)) rfl TC.g bI .nil (passE (takes_of rfl rfl rfl rfl)) (pa_cons (pv 1) (pa_cons (pe_glob (v := .ref fS) (by rfl) cS.at_ rfl) (pa_cons (pe_glob (v := .ref fT) (by rfl) cT.at_ rfl) (pa_cons (pe_glob (v := .ref fR) (by rfl) cR.at_ rfl) pa_nil))))) rfl)))), ?_⟩
    have l2 := W.l2
    refine qr_asg (R := LRep ((List.range m.letters).map fun a => encT (MS.letT m a))) ?_ fun vl H1 e1 rl => ?_
    · refine el_rng (fun H1 e R q => ?_) (by omega) fun a ha => er_letter W hc (er_var rfl r1) (ev_var rfl)
      refine er_num (er_ixn (n := 2) (d := encN m.letters) (er_var rfl r1) ev_c rfl) H1 e _ fun H2 e2 => ⟨(m.letters : Int), rfl, by omega, by omega, ?_⟩
      rw [Int.toNat_natCast]
      exact q H2 e2
    show tRet _ _ ([some v, some vl, none] : L2.St) H1
    refine ⟨_, rfl, fun x dx hx hdx hne => ?_⟩
    have eX : Ex H1 (upd (upd H1 dx (.own x)) x (.ins C dx [])) := (Ex.new hdx).mut hx
    have hx0 : H x = none := fresh_back e1 hx
    have back : ∀ {H'}, Ex (Mk [x] (upd (upd H1 dx (.own x)) x (.ins C dx []))) H' → Ex H H' := fun {H'} e a o h => e a o (by
      unfold Mk
      rw [if_neg]
      · exact eX _ _ (e1 _ _ h)
      · intro hm
        have : a = x := by simpa using hm
        subst this
        rw [hx0] at h; cases h)
    refine ⟨m, x, dx, vl, rfl, W, upd_same, monoL _ _ _ _ eX rl, fun H2 le fs es e2 ho hl rl2 g cl => ⟨rfl, x, C, dx, fs, .ref le, rfl, ho, TC.cl, TC.nE, hl, ?_⟩, fun H2 e2 => kE H2 (back e2)⟩
    exact k _ H2 (back e2) ⟨es, g, cl, rl2⟩
end
end MW
end
section
set_option Elab.async false
set_option linter.all false
set_option maxRecDepth 100000
set_option maxHeartbeats 4000000
/-! The law's drawing: draws, box, next, set, machine, line, recipe. -/
namespace MW
open PySem PySem.Spec PyProof.Rows L2 Evl
open MS (Val Tab Mach Line)
section
variable {P : Program} {w : World} {K : PySem.W.Frag} {mg : PySem.Str → Option Value} {base : Heap}
theorem ev_int {σ : L2.St} {H : Hp} {ta : TE} {i : Int} (h : Ev ta σ H (.int i)) : Ev (tCB (fun xs H Q => (∃ i, xs = [V.int i] ∧ Q (.int i) H) ∨ ∃ k, xs = [V.bl k] ∧ Q (.int (if k = true then 1 else 0)) H) (tCons ta tNil)) σ H (.int i) := fun H1 e Q q => h H1 e _ fun H2 e2 => .inl ⟨i, rfl, q H2 e2⟩
/-! ### draws -/
abbrev sDr : Stmt := topS 38
def spDr : Sp := fun vs H Q _ => ∃ c : Int, vs = [.int c, .int 1000003, .int 6] ∧ RetR (fun u H' => ∃ ns : List Int, ns.length = 6 ∧ LRep (ns.map .num) u H') H Q
theorem scDr : FnScope ["_law_cell", "_law_modulus", "_law_count", "_law_number", "_law_row", "_law_k", "_law_mixed"] ["_law_cell", "_law_modulus", "_law_count"] (defScope sDr) := ⟨rfl, rfl, rfl, by decide +kernel, rfl, by decide +kernel, by decide +kernel⟩
theorem ok_dr {f : Addr} {fd : FuncData} (F : Fun K "_law_draws" "_law_draws" sDr f fd) (T : Txt K mg) : FnOk P w K mg base CX0 1 f fd ["_law_cell", "_law_modulus", "_law_count"] spDr := by
  refine F.ok scDr (fun vs H Q E h => ?_) (fun cdv A outer s H vs Q E hr h => ?_)
  · obtain ⟨c, rfl, _⟩ := h
    rfl
  · obtain ⟨c, rfl, k⟩ := h
    refine ⟨_, (pss_cons (ps_set (i := 3) scDr.nd rfl (by first | exact Or.inl rfl | exact Or.inr rfl) (pv 0))
      (pss_cons (ps_if (pt_cmpR op_lt (pv 3) pe_int (nomark _)) (pss_one (ps_set (i := 3) scDr.nd rfl (by first | exact Or.inl rfl | exact Or.inr rfl) (pe_op op_sub pe_int (pv 3)))) pss_nil)
      (pss_cons (ps_set (i := 4) scDr.nd rfl (by first | exact Or.inl rfl | exact Or.inr rfl) (pe_lst pa_nil))
      (pss_cons (ps_if (pt_cmpR op_ge (pv 3) (pe_op op_pow pe_int pe_int) (nomark _)) (pss_cons (ps_for PassesOwn.never rfl (pi_range1 (by rfl) T.range (pa_cons (pv 2) pa_nil)) (pg_name (i := 5) scDr.nd rfl (by first | exact Or.inl rfl | exact Or.inr rfl)) (pss_cons (ps_expr (pe_bm PySem.F.plainAttrs_list PySem.F.slot_list_append PySem.F.type_list_append mt_append (pv 4) (pa_cons (pe_op op_mod (pe_callTy call_int1 (by rfl) T.int (by decide +kernel) (pa_cons (pv 3) pa_nil)) (pv 1)) pa_nil)))
      (pss_one (ps_set (i := 3) scDr.nd rfl (by first | exact Or.inl rfl | exact Or.inr rfl) (pe_op op_fdivW (pv 3) (pv 1))))))
      (pss_one (ps_ret (pv 4)))) pss_nil)
      (pss_cons (ps_for PassesOwn.never rfl (pi_range1 (by rfl) T.range (pa_cons (pv 2) pa_nil)) (pg_name (i := 5) scDr.nd rfl (by first | exact Or.inl rfl | exact Or.inr rfl)) (pss_cons (ps_set (i := 6) scDr.nd rfl (by first | exact Or.inl rfl | exact Or.inr rfl) (pe_op op_mod (pe_callTy call_int1 (by rfl) T.int (by decide +kernel) (pa_cons (pe_op op_mul (pe_op op_add (pe_op op_add (pv 3) (pe_op op_mul pe_int (pv 5))) pe_int) pe_int) pa_nil)) pe_int))
      (pss_cons (ps_set (i := 6) scDr.nd rfl (by first | exact Or.inl rfl | exact Or.inr rfl) (pe_op op_mod (pe_callTy call_int1 (by rfl) T.int (by decide +kernel) (pa_cons (pe_op op_add (pe_op op_mul (pv 6) pe_int) (pe_op op_mul pe_int (pv 5))) pa_nil)) pe_int))
      (pss_one (ps_expr (pe_bm PySem.F.plainAttrs_list PySem.F.slot_list_append PySem.F.type_list_append mt_append (pv 4) (pa_cons (pe_op op_mod (pe_callTy call_int1 (by rfl) T.int (by decide +kernel) (pa_cons (pe_op op_fdivW (pv 6) pe_int) pa_nil)) (pv 1)) pa_nil)))))))
      (pss_one (ps_ret (pv 4)))))))), ?_⟩
    have c1 : ∀ i : Int, CMul i 48271 := fun i => .inr ⟨by decide, by decide⟩
    have c2 : ∀ i : Int, CMul i 69621 := fun i => .inr ⟨by decide, by decide⟩
    have c3 : ∀ i : Int, CMul 7 i := fun i => .inl ⟨by decide, by decide⟩
    have c4 : ∀ i : Int, CMul 31 i := fun i => .inl ⟨by decide, by decide⟩
    have d1 : ∀ i : Int, CDivW i 7 := fun i => ⟨by decide, by decide +kernel⟩
    have d2 : ∀ i : Int, CDivW i 1000003 := fun i => ⟨by decide, by decide +kernel⟩
    refine q_asg (ev_var (v := .int c) rfl) fun H1 e1 => ?_
    show tSeq _ _ _ ([some (.int c), some (.int 1000003), some (.int 6), some (.int c), none, none, none] : L2.St) H1
    refine q_ifAsg (b := decide (c < 0)) (v := .int (if c < 0 then 0 - c else c)) (et_test (ev_ltI (ev_var (v := .int c) rfl) ev_c)) (fun hb => ?_) (fun hb => ?_) fun H2 e12 => ?_
    · rw [if_pos (of_decide_eq_true hb)]
      exact ev_sub (i := 0) (j := c) ev_c (ev_var rfl)
    · rw [if_neg (of_decide_eq_false hb)]
      rfl
    generalize (if c < 0 then 0 - c else c) = n
    have e2 := e1.trans e12
    · show tSeq _ _ _ ([some (.int c), some (.int 1000003), some (.int 6), some (.int n), none, none, none] : L2.St) H2
      refine q_asgL (el_lst ea_nil (by show 0 ≤ 100000; decide)) fun p H3 hp e3 h3 => ?_
      have hp0 : H p = none := fresh_back e2 hp
      have e03 := e2.trans e3
      show tSeq _ _ _ ([some (.int c), some (.int 1000003), some (.int 6), some (.int n), some (.ref p), none, none] : L2.St) H3
      refine q_when (et_test (ev_geI (ev_var (v := .int n) rfl) (j := 1000000000000000000) (ev_to (ev_op (x := .int 10) (y := .int 18) ev_c ev_c (rv_I (C := CPow) (g := fun i j => V.int (i ^ j.toNat)) ⟨by decide, by decide, by decide⟩)) (by decide +kernel)))) (fun hb H4 e4 => ?_) fun hb H4 e4 => ?_
      · refine q_forR1 (n := 6) (ea_cons (ev_var rfl) ea_nil) (by decide) (fun i σ' H' => ∃ (z : Int) (x y : Option V) (ns : List Int), σ' = [some (.int c), some (.int 1000003), some (.int 6), some (.int z), some (.ref p), x, y] ∧ Ex H H' ∧ H' p = some (.lst (ns.map V.int)) ∧ ns.length = i) (fun H5 e5 => ⟨n, _, _, [], rfl, (e03.trans e4).trans e5, (e4.trans e5) _ _ h3, rfl⟩) ?_ ?_
        · rintro i σ5 H5 hi ⟨z, x, y, ns, rfl, e5, h5, hn5⟩
          show tSeq _ _ _ ([some (.int c), some (.int 1000003), some (.int 6), some (.int z), some (.ref p), some (.int (i : Int)), y] : L2.St) H5
          refine q_app (l := p) (xs := ns.map V.int) h5 (ev_var rfl) (ev_mod (ev_int (ev_var (v := .int z) rfl)) (ev_var (v := .int 1000003) rfl) (by decide)) (by rw [List.length_map]; omega) fun H6 e6 => ?_
          refine s_asg (ev_divW (ev_var (v := .int z) rfl) (ev_var (v := .int 1000003) rfl) (d2 _)) fun H7 e7 => ⟨_, _, _, ns ++ [z % 1000003], rfl, ((e5.trans e6).mut hp0).trans e7, e7 _ _ (by rw [upd_same, List.map_append]; rfl), by rw [List.length_append, hn5]; rfl⟩
        · rintro σ5 H5 ⟨z, x, y, ns, rfl, e5, h5, hn5⟩
          refine s_ret (ev_var (v := .ref p) rfl) fun H6 e6 => k _ H6 (e5.trans e6) ⟨ns, hn5, p, _, rfl, e6 _ _ h5, Reps.nums _⟩
      · refine q_forR1 (n := 6) (ea_cons (ev_var rfl) ea_nil) (by decide) (fun i σ' H' => ∃ (x y : Option V) (ns : List Int), σ' = [some (.int c), some (.int 1000003), some (.int 6), some (.int n), some (.ref p), x, y] ∧ Ex H H' ∧ H' p = some (.lst (ns.map V.int)) ∧ ns.length = i) (fun H5 e5 => ⟨_, _, [], rfl, (e03.trans e4).trans e5, (e4.trans e5) _ _ h3, rfl⟩) ?_ ?_
        · rintro i σ5 H5 hi ⟨x, y, ns, rfl, e5, h5, hn5⟩
          show tSeq _ _ _ ([some (.int c), some (.int 1000003), some (.int 6), some (.int n), some (.ref p), some (.int (i : Int)), y] : L2.St) H5
          refine q_asg (ev_mod (ev_int (ev_mulS (ev_add (ev_add (ev_var (v := .int n) rfl) (ev_mulS ev_c (ev_var (v := .int (i : Int)) rfl) (c3 _))) ev_c) ev_c (c1 _))) ev_c (by decide)) fun H6 e6 => ?_
          refine q_asg (ev_mod (ev_int (ev_add (ev_mulS (ev_var rfl) ev_c (c2 _)) (ev_mulS ev_c (ev_var (v := .int (i : Int)) rfl) (c4 _)))) ev_c (by decide)) fun H7 e7 => ?_
          refine s_app (l := p) (xs := ns.map V.int) (e7 _ _ (e6 _ _ h5)) (ev_var rfl) (ev_mod (ev_int (ev_divW (ev_var rfl) ev_c (d1 _))) (ev_var (v := .int 1000003) rfl) (by decide)) (by rw [List.length_map]; omega) fun H8 e8 => ?_
          refine ⟨_, _, ns ++ [_], rfl, (((e5.trans e6).trans e7).trans e8).mut hp0, by rw [upd_same, List.map_append]; rfl, by rw [List.length_append, hn5]; rfl⟩
        · rintro σ5 H5 ⟨x, y, ns, rfl, e5, h5, hn5⟩
          refine s_ret (ev_var (v := .ref p) rfl) fun H6 e6 => k _ H6 (e5.trans e6) ⟨ns, hn5, p, _, rfl, e6 _ _ h5, Reps.nums _⟩
/-! ### the box -/
def bx (l : Addr) (at_ : Nat) : List (Key × V) := [(.inr "row", .ref l), (.inr "at", .int (at_ : Int))]
def Box (H : Hp) (b l : Addr) : Prop := ∃ (ns : List Int) (at_ : Nat), H b = some (.dK (bx l at_)) ∧ H l = some (.lst (ns.map V.int)) ∧ 1 ≤ ns.length ∧ ns.length ≤ 1000
theorem ne_ra : ¬ (Sum.inr ("row" : PySem.Str) : Key) = Sum.inr ("at" : PySem.Str) := by decide +kernel
theorem bx_row (l : Addr) (n : Nat) : valV (bx l n) (Sum.inr "row" : Key) = some (.ref l) := valV_pos rfl
theorem bx_at (l : Addr) (n : Nat) : valV (bx l n) (Sum.inr "at" : Key) = some (.int (n : Int)) := (valV_neg ne_ra).trans (valV_pos rfl)
theorem bx_put (l : Addr) (n : Nat) : putK (bx l n) (Sum.inr "at" : Key) (.int ((n : Int) + 1)) = bx l (n + 1) := by
  unfold putK
  rw [if_pos (by rw [valV_any, bx_at]; rfl)]
  unfold bx
  simp only [List.map_cons, List.map_nil]
  rw [if_neg ne_ra, if_pos trivial]
  push_cast
  rfl
theorem bx_mk (l : Addr) : mergeK [] [((Sum.inr "row" : Key), V.ref l), (Sum.inr "at", .int 0)] = bx l 0 := by
  show putK (putK [] (Sum.inr "row" : Key) (V.ref l)) (Sum.inr "at") (.int 0) = bx l 0
  have h1 : putK [] (Sum.inr "row" : Key) (V.ref l) = [((Sum.inr "row" : Key), V.ref l)] := putK_new _ valV_nil
  rw [h1, putK_new _ (by rw [valV_neg ne_ra, valV_nil])]
  rfl
abbrev sBx : Stmt := topS 39
def spBx (K : PySem.W.Frag) : Sp := fun vs H Q _ => ∃ (a : Addr) (cs : List Int), vs = [.ref a] ∧ SqL K H a (cs.map V.int) ∧ cs.length ≤ 63 ∧ RetR (fun u H' => ∃ b lb, u = .ref b ∧ Box H' b lb ∧ H b = none) H Q
theorem scBx : FnScope ["_law_script", "_law_row", "_law_cell"] ["_law_script"] (defScope sBx) := ⟨rfl, rfl, rfl, by decide +kernel, rfl, by decide +kernel, by decide +kernel⟩
theorem ok_bx {fD f : Addr} {dD fd : FuncData} (F : Fun K "_law_box" "_law_box" sBx f fd) (T : Txt K mg) (cDr : Cal P w K mg base CX0 1 "_law_draws" ["_law_cell", "_law_modulus", "_law_count"] spDr fD dD) : FnOk P w K mg base CX0 2 f fd ["_law_script"] (spBx K) := by
  refine F.ok scBx (fun vs H Q E h => ?_) (fun cdv A outer s H vs Q E hr h => ?_)
  · obtain ⟨a, cs, rfl, _⟩ := h
    rfl
  · obtain ⟨a, cs, rfl, hS, hl, k⟩ := h
    refine ⟨_, (pss_cons (ps_set (i := 1) scBx.nd rfl (by first | exact Or.inl rfl | exact Or.inr rfl) (pe_lst pa_nil))
      (pss_cons (ps_for PassesOwn.never rfl (pi_list (pv 0)) (pg_name (i := 2) scBx.nd rfl (by first | exact Or.inl rfl | exact Or.inr rfl)) (pss_one (ps_set (i := 1) scBx.nd rfl (by first | exact Or.inl rfl | exact Or.inr rfl) (pe_op op_cat (pv 1) (pe_cal cDr hr pass0 (pa_cons (pv 2) (pa_cons pe_int (pa_cons pe_int pa_nil))))))))
      (pss_cons (ps_if (pt_cmpR op_eq (pe_callB call_len_seq (by rfl) T.len PySem.boot_len (pa_cons (pv 1) pa_nil)) pe_int (nomark _)) (pss_one (ps_set (i := 1) scBx.nd rfl (by first | exact Or.inl rfl | exact Or.inr rfl) (pe_lst (pa_cons pe_int (pa_cons pe_int (pa_cons pe_int (pa_cons pe_int (pa_cons pe_int (pa_cons pe_int (pa_cons pe_int pa_nil)))))))))) pss_nil)
      (pss_one (ps_ret (pe_disp (pps_cons pe_str (pv 1) (pps_cons pe_str pe_int pps_nil)) rfl rfl (by decide) (by decide))))))), ?_⟩
    refine qr_asg (R := LRep []) (er_lst (ds := []) ea0 (by show 0 ≤ 100000; decide)) fun v1 H1 e1 r1 => ?_
    show tSeq _ _ _ ([some (.ref a), some v1, none] : L2.St) H1
    refine q_forLn (a := a) (xs := cs.map V.int) (ev_var rfl) (ex_l e1 hS) (fun i σ' H' => ∃ (v : V) (x : Option V) (ns : List Int), σ' = [some (.ref a), some v, x] ∧ Ex H H' ∧ LRep (ns.map .num) v H' ∧ ns.length = 6 * i) (fun H2 e2 => ⟨v1, none, [], rfl, e1.trans e2, monoL _ _ _ _ e2 r1, rfl⟩) (fun i σ' H' _ h => by obtain ⟨_, _, _, _, h, _⟩ := h; exact ex_l h hS) ?_ ?_
    · rintro i y σ2 H2 hi ⟨v, x, ns, rfl, e2, rv, hn⟩
      have hi63 : i < 63 := by have := (List.getElem?_eq_some_iff.mp hi).1; rw [List.length_map] at this; omega
      obtain ⟨c, rfl⟩ : ∃ c, y = .int c := by
        rw [List.getElem?_map] at hi
        obtain ⟨c, _, rfl⟩ := Option.map_eq_some_iff.mp hi
        exact ⟨c, rfl⟩
      show tAsg _ _ _ ([some (.ref a), some v, some (.int c)] : L2.St) H2
      refine ⟨v, rfl, _, rfl, ?_⟩
      refine ⟨c, rfl, fun u H3 e3 ⟨ms, hms, ru⟩ => ?_⟩
      have := er_cat (ta := fun σ H Q => Q v H) (tb := fun σ H Q => Q u H) (σ := []) (H := H3) (ds := ns.map .num) (es := ms.map .num) (fun H4 e4 Q q => q v H4 (Ex.refl _) (monoL _ _ _ _ (e3.trans e4) rv)) (fun H4 e4 Q q => q u H4 (Ex.refl _) (monoL _ _ _ _ e4 ru)) (by rw [List.length_map, List.length_map]; omega)
      have this' : ∀ Q : VK, (∀ z H4, Ex H3 H4 → LRep (ns.map .num ++ ms.map .num) z H4 → Q z H4) → rCat v u H3 Q := fun Q q => this H3 (Ex.refl _) Q q
      refine this' _ fun z H4 e4 rz => ?_
      refine ⟨z, _, ns ++ ms, rfl, (e2.trans e3).trans e4, by rw [List.map_append]; exact rz, by rw [List.length_append]; omega⟩
    · rintro σ2 H2 ⟨v, x, ns, rfl, e2, rv, hn⟩
      rw [List.length_map] at hn
      have fin : ∀ (v : V) (ns : List Int) (H3 : Hp), Ex H H3 → LRep (ns.map .num) v H3 → 1 ≤ ns.length → ns.length ≤ 1000 → tRet (tDisp [(tC (.str "row"), tVar 1), (tC (.str "at"), tC (.int 0))]) { nx := fun x H' => Q V.non H', rt := Q } ([some (.ref a), some v, x] : L2.St) H3 := fun v ns H3 e3 rv h1 h2 => by
        intro b hb
        obtain ⟨l, us, rfl, hl, ru⟩ := rv
        have hus := ru.nums_eq
        subst hus
        refine ⟨_, rfl, upd_same, [((Sum.inr "row" : Key), V.ref l), (Sum.inr "at", .int 0)], rfl, by show 2 ≤ 15; decide, ?_⟩
        rw [bx_mk]
        have hlb : l ≠ b := fun z => by subst z; rw [hl] at hb; cases hb
        have hb0 : H b = none := fresh_back e3 hb
        refine k _ _ ((e3.mut hb0).mut hb0) ⟨b, l, rfl, ⟨ns, 0, upd_same, by rw [upd_ne hlb, upd_ne hlb]; exact hl, h1, h2⟩, hb0⟩
      refine q_when (b := decide (ns.length = 0)) (et_test ?_) (fun hb H3 e3 => ?_) fun hb H3 e3 => ?_
      · have := ev_eqI (ev_lenLR (K := K) (σ := [some (.ref a), some v, x]) (H := H2) rfl (er_varR (i := 1) rfl (monoL _) rv)) (ev_c (v := .int 0))
        have e : decide (((ns.map NestedKey.num).length : Int) = 0) = decide (ns.length = 0) := decide_eq_decide.mpr (by rw [List.length_map]; omega)
        rw [e] at this
        exact this
      · refine sr_asg (R := LRep (([11, 5, 2, 7, 31, 101, 997] : List Int).map .num)) (er_lst (ds := [.num 11, .num 5, .num 2, .num 7, .num 31, .num 101, .num 997]) (ea1 er_c (monoRep _) (ea1 er_c (monoRep _) (ea1 er_c (monoRep _) (ea1 er_c (monoRep _) (ea1 er_c (monoRep _) (ea1 er_c (monoRep _) (ea1 er_c (monoRep _) ea0))))))) (by show 7 ≤ 100000; decide)) fun u H4 e4 r4 => ?_
        exact fin u _ H4 ((e2.trans e3).trans e4) r4 (by decide) (by decide)
      · exact fin v ns H3 (e2.trans e3) (monoL _ _ _ _ e3 rv) (by have := of_decide_eq_false hb; omega) (by omega)
/-! ### next -/
abbrev sNx : Stmt := topS 40
def spNext : Sp := fun vs H Q _ => ∃ (b lb : Addr) (md : Nat), vs = [.ref b, .int (md : Int)] ∧ 1 ≤ md ∧ Box H b lb ∧ ∀ (k : Nat) H2, k < md → Ex (Mk [b] H) H2 → Box H2 b lb → Q (.int (k : Int)) H2
theorem scNx : FnScope ["_law_box_here", "_law_modulus", "_law_at", "_law_number"] ["_law_box_here", "_law_modulus"] (defScope sNx) := ⟨rfl, rfl, rfl, by decide +kernel, rfl, by decide +kernel, by decide +kernel⟩
theorem ev_dget {σ : L2.St} {H : Hp} {td : TE} {b : Addr} {kvs : List (Key × V)} {s : PySem.Str} {v : V} (h : Ev td σ H (.ref b)) (e : H b = some (.dK kvs)) (hv : valV kvs (Sum.inr s : Key) = some v) : Ev (tDGet td (tC (.str s))) σ H v := fun H1 e1 Q q => h H1 e1 _ fun H2 e2 => ⟨b, v, rfl, by have := DGet.k (k := Sum.inr s) ((e1.trans e2) _ _ e); rw [hv] at this; exact this, q H2 e2⟩
theorem ok_nx {f : Addr} {fd : FuncData} (F : Fun K "_law_next" "_law_next" sNx f fd) (T : Txt K mg) : FnOk P w K mg base CX0 1 f fd ["_law_box_here", "_law_modulus"] spNext := by
  refine F.ok scNx (fun vs H Q E h => ?_) (fun cdv A outer s H vs Q E hr h => ?_)
  · obtain ⟨b, lb, md, rfl, _⟩ := h
    rfl
  · obtain ⟨b, l, md, rfl, hmd, ⟨ns, n, hb, hl, hn1, hn2⟩, k⟩ := h
    refine ⟨_, (pss_cons (ps_set (i := 2) scNx.nd rfl (by first | exact Or.inl rfl | exact Or.inr rfl) (pe_dget (hu_of hr) (pv 0) pe_str (fun _ _ => rfl)))
      (pss_cons (ps_dput (hu_of hr) (pv 0) pe_str (pe_op op_add (pv 2) pe_int) rfl)
      (pss_cons (ps_set (i := 3) scNx.nd rfl (by first | exact Or.inl rfl | exact Or.inr rfl) (pe_ix ix_list (pe_dget (hu_of hr) (pv 0) pe_str (fun _ _ => rfl)) (pe_op op_mod (pv 2) (pe_callB call_len_seq (by rfl) T.len PySem.boot_len (pa_cons (pe_dget (hu_of hr) (pv 0) pe_str (fun _ _ => rfl)) pa_nil))) (fun _ _ => rfl)))
      (pss_one (ps_ret (pe_op op_mod (pe_callTy call_int1 (by rfl) T.int (by decide +kernel) (pa_cons (pe_op op_add (pv 3) (pe_op op_mul pe_int (pe_op op_fdivW (pv 2) (pe_callB call_len_seq (by rfl) T.len PySem.boot_len (pa_cons (pe_dget (hu_of hr) (pv 0) pe_str (fun _ _ => rfl)) pa_nil))))) pa_nil)) (pv 1))))))), ?_⟩
    refine q_asg (ev_dget (ev_var rfl) hb (bx_at l n)) fun H1 e1 => ?_
    show tSeq _ _ _ ([some (.ref b), some (.int (md : Int)), some (.int (n : Int)), none] : L2.St) H1
    have hb1 := e1 _ _ hb
    have hl1 := e1 _ _ hl
    have hlb : l ≠ b := fun z => by subst z; rw [hl] at hb; cases hb
    refine ev_add (i := (n : Int)) (j := 1) (ta := tVar 2) (tb := tC (.int 1)) (σ := [some (.ref b), some (.int (md : Int)), some (.int (n : Int)), none]) (H := H1) (ev_var rfl) ev_c H1 (Ex.refl _) _ fun H2 e2 => ?_
    have hb2 := e2 _ _ hb1
    refine ⟨_, rfl, b, _, rfl, DPut.k (k := Sum.inr "at") hb2 (by show 2 < sizeLine; decide), ?_⟩
    rw [bx_put]
    have hM : Mk [b] H b = none := by unfold Mk; rw [if_pos (by simp)]
    have e3 : Ex (Mk [b] H) (upd H2 b (.dK (bx l (n + 1)))) := (((mk_ex _ _).trans e1).trans e2).mut hM
    have hb3 : upd H2 b (.dK (bx l (n + 1))) b = some (.dK (bx l (n + 1))) := upd_same
    have hl3 : upd H2 b (.dK (bx l (n + 1))) l = some (.lst (ns.map V.int)) := by rw [upd_ne hlb]; exact e2 _ _ hl1
    generalize upd H2 b (.dK (bx l (n + 1))) = H3 at e3 hb3 hl3 ⊢
    have hlenE : ∀ {H' : Hp} {σ' : L2.St}, Ex H3 H' → σ'[0]? = some (some (.ref b)) → Ev (tCB (rLenS K) (tCons (tDGet (tVar 0) (tC (.str "row"))) tNil)) σ' H' (.int (ns.length : Int)) := fun {H' σ'} e h0 => by
      have := ev_len (K := K) (ev_dget (σ := σ') (ev_var h0) (e _ _ hb3) (bx_row l (n + 1))) (sq_of (e _ _ hl3))
      rw [List.length_map] at this
      exact this
    have hmodlt : n % ns.length < ns.length := Nat.mod_lt _ (by omega)
    obtain ⟨z, hz⟩ : ∃ z, ns[n % ns.length]? = some z := ⟨_, List.getElem?_eq_getElem hmodlt⟩
    show tSeq (tAsg (tOp (rIxL K) (tDGet (tVar 0) (tC (.str "row"))) (tOp (rI (fun _ j => 0 < j) fun i j => .int (i % j)) (tVar 2) (tCB (rLenS K) (tCons (tDGet (tVar 0) (tC (.str "row"))) tNil)))) (gName 3)) (tRet (tOp (rI (fun _ j => 0 < j) fun i j => .int (i % j)) (tCB (fun xs H Q => (∃ i, xs = [V.int i] ∧ Q (.int i) H) ∨ ∃ k, xs = [V.bl k] ∧ Q (.int (if k = true then 1 else 0)) H) (tCons (tOp (rI0 fun i j => .int (i + j)) (tVar 3) (tOp (rI CMul fun i j => .int (i * j)) (tC (.int 7919)) (tOp (rI CDivW fun i j => .int (i / j)) (tVar 2) (tCB (rLenS K) (tCons (tDGet (tVar 0) (tC (.str "row"))) tNil))))) tNil)) (tVar 1)))
      { nx := fun x H' => Q V.non H', rt := Q } ([some (.ref b), some (.int (md : Int)), some (.int (n : Int)), none] : L2.St) H3
    refine q_asg (v := .int z) (ev_op (ev_dget (ev_var rfl) hb3 (bx_row l (n + 1))) (ev_mod (i := (n : Int)) (ev_var rfl) (hlenE (Ex.refl _) rfl) (by omega)) (rv_ixL (sq_of hl3) (at_of (j := n % ns.length) (by push_cast; rfl) (by rw [List.getElem?_map, hz]; rfl)))) fun H4 e4 => ?_
    have lg : (ns.length : Int).natAbs.log2 < 9000 := by
      rw [Int.natAbs_natCast]
      have : ns.length.log2 ≤ ns.length := Nat.log2_le_self _
      omega
    refine s_ret (ev_mod (ev_int (ev_add (i := z) (ev_var rfl) (ev_mulS (i := 7919) ev_c (ev_divW (i := (n : Int)) (ev_var rfl) (hlenE e4 rfl) ⟨by omega, lg⟩) (.inl ⟨by decide, by decide⟩)))) (ev_var (v := .int (md : Int)) rfl) (by omega)) fun H5 e5 => ?_
    have hpos : (0 : Int) < (md : Int) := by omega
    generalize (z + 7919 * ((n : Int) / (ns.length : Int))) = y
    have h1 := Int.emod_nonneg y (b := (md : Int)) (by omega)
    have h2 := Int.emod_lt_of_pos y hpos
    have h3 : y % (md : Int) = (((y % (md : Int)).toNat : Nat) : Int) := by omega
    rw [h3]
    exact k _ H5 (by omega) ((e3.trans e4).trans e5) ⟨ns, n + 1, (e4.trans e5) _ _ hb3, (e4.trans e5) _ _ hl3, hn1, hn2⟩
end
end MW
end
section
set_option Elab.async false
set_option linter.all false
set_option maxRecDepth 100000
set_option maxHeartbeats 4000000
/-! The law's drawing: set, machine, line, recipe. -/
namespace MW
open PySem PySem.Spec PyProof.Rows L2 Evl
open MS (Val Tab Mach Line)
section
variable {P : Program} {w : World} {K : PySem.W.Frag} {mg : PySem.Str → Option Value} {base : Heap}
theorem bx_tex {H : Hp} {b lb : Addr} (h : Box H b lb) : TEx H (Mk [b] H) := fun a xs e => by
  unfold Mk
  rw [if_neg]
  · exact e
  · intro hm
    have : a = b := by simpa using hm
    subst this
    obtain ⟨ns, n, h1, _⟩ := h
    rw [e] at h1; cases h1
theorem bx_lst {H : Hp} {b lb a : Addr} {xs : List V} (h : Box H b lb) (e : H a = some (.lst xs)) : Mk [b] H a = some (.lst xs) := by
  unfold Mk
  rw [if_neg]
  · exact e
  · intro hm
    have : a = b := by simpa using hm
    subst this
    obtain ⟨ns, n, h1, _⟩ := h
    rw [e] at h1; cases h1
theorem bx_ex {H H' : Hp} {b lb : Addr} (e : Ex H H') (h : Box H b lb) : Box H' b lb := by
  obtain ⟨ns, n, h1, h2, h3⟩ := h
  exact ⟨ns, n, e _ _ h1, e _ _ h2, h3⟩
/-- what a drawing def leaves -/
def RetX (b lb : Addr) (R : RL) (H : Hp) (Q : VK) : Prop := ∀ u H2, Ex (Mk [b] H) H2 → Box H2 b lb → R u H2 → Q u H2
theorem cut_to (vs : List V) (n : Nat) : cutV vs none (some (n : Int)) = vs.take n := by
  unfold cutV
  rw [HT.sIx_none, HT.sIx_nat, List.drop_zero, Nat.sub_zero]
  by_cases hh : n ≤ vs.length
  · rw [Nat.min_eq_left hh]
  · rw [Nat.min_eq_right (by omega), List.take_of_length_le (Nat.le_refl _), List.take_of_length_le (by omega)]
theorem cut_from (vs : List V) (n : Nat) : cutV vs (some (n : Int)) none = vs.drop n := by
  unfold cutV
  rw [HT.sIx_none, HT.sIx_nat]
  by_cases hh : n ≤ vs.length
  · rw [Nat.min_eq_left hh, List.take_of_length_le (by rw [List.length_drop]; exact Nat.le_refl _)]
  · rw [Nat.min_eq_right (by omega), List.drop_eq_nil_of_le (Nat.le_refl _), List.drop_eq_nil_of_le (by omega), List.take_nil]
theorem er_slLFrom {σ : L2.St} {H : Hp} {te : TE} {ds : List D} {k : Int} (n : Nat) (hk : k = (n : Int)) (h : EvR te σ H (LRep ds)) : EvR (tSl (rSlL K) te (tPart (tC (.int k))) tNoPart) σ H (LRep (ds.drop n)) := fun H1 e Q q => h H1 e _ fun v H2 e2 r => by
  subst hk
  obtain ⟨p, vs, rfl, hp, rv⟩ := r
  refine ⟨_, rfl, p, vs, rfl, SqL.of hp, fun l hl => ?_⟩
  rw [cut_from]
  exact q _ _ (e2.trans (Ex.new hl)) ⟨l, _, rfl, upd_same, (rv.drop n).ex (Ex.new hl)⟩
theorem er_slLTo {σ : L2.St} {H : Hp} {te : TE} {ds : List D} {k : Int} (n : Nat) (hk : k = (n : Int)) (h : EvR te σ H (LRep ds)) : EvR (tSl (rSlL K) te tNoPart (tPart (tC (.int k)))) σ H (LRep (ds.take n)) := fun H1 e Q q => h H1 e _ fun v H2 e2 r => by
  subst hk
  obtain ⟨p, vs, rfl, hp, rv⟩ := r
  refine ⟨_, rfl, p, vs, rfl, SqL.of hp, fun l hl => ?_⟩
  rw [cut_to]
  exact q _ _ (e2.trans (Ex.new hl)) ⟨l, _, rfl, upd_same, (rv.take n).ex (Ex.new hl)⟩
/-! ### set -/
abbrev sSt : Stmt := topS 41
def spSt : Sp := fun vs H Q _ => ∃ (b lb : Addr) (n : Nat), vs = [.ref b, .int (n : Int)] ∧ n ≤ 10 ∧ Box H b lb ∧ RetX b lb (fun u H' => ∃ l : List Nat, (∀ s ∈ l, s < n) ∧ l.length ≤ n ∧ Rep H' (encTup l) u) H Q
theorem scSt : FnScope ["_law_box_here", "_law_below", "_law_row", "_law_state"] ["_law_box_here", "_law_below"] (defScope sSt) := ⟨rfl, rfl, rfl, by decide +kernel, rfl, by decide +kernel, by decide +kernel⟩
theorem ok_st {fN f : Addr} {dN fd : FuncData} (F : Fun K "_law_set" "_law_set" sSt f fd) (T : Txt K mg) (cNx : Cal P w K mg base CX0 1 "_law_next" ["_law_box_here", "_law_modulus"] spNext fN dN) : FnOk P w K mg base CX0 2 f fd ["_law_box_here", "_law_below"] spSt := by
  refine F.ok scSt (fun vs H Q E h => ?_) (fun cdv A outer s H vs Q E hr h => ?_)
  · obtain ⟨b, lb, n, rfl, _⟩ := h
    rfl
  · obtain ⟨b, lb, n, rfl, hn, hb, k⟩ := h
    refine ⟨_, (pss_cons (ps_setLc (i := 2) (own := [("_law_state", 3)]) (tt := (tTest (tOp rGt (tCall spNext [] E0 (tCons (tVar 0) (tCons (tC (.int 3)) tNil))) (tC (.int 0))))) (te := (tVar 3)) rfl scSt.nd rfl rfl rfl (pi_range1 (by rfl) T.range (pa_cons (pv 1) pa_nil)) (blkOk_by (N := ["_law_box_here", "_law_below", "_law_row", "_law_state"]) (sc := defScope sSt) (own := [("_law_state", 3)]) (by decide +kernel)) (fun _ _ _ _ _ => (pg_name (i := 3) scSt.nd rfl (by first | exact Or.inl rfl | exact Or.inr rfl))) (fun _ _ _ _ _ => (pts_one (pt_cmpR op_gt (pe_cal cNx hr pass0 (pa_cons (pv 0) (pa_cons pe_int pa_nil))) pe_int (nomark _)))) (fun _ _ _ _ _ => (pv 3)))
      (pss_cons (ps_if (PW.pt (pw_and (pt_cmpR op_gt (pe_callB call_len_seq (by rfl) T.len PySem.boot_len (pa_cons (pv 2) pa_nil)) pe_int (nomark _)) (pw_and1 (pt_cmpR op_eq (pe_cal cNx hr pass0 (pa_cons (pv 0) (pa_cons pe_int pa_nil))) pe_int (nomark _))))) (pss_one (ps_set (i := 2) scSt.nd rfl (by first | exact Or.inl rfl | exact Or.inr rfl) (pe_op op_cat (pe_slice sl_list (pv 2) (po_some pe_int) po_none) (pe_slice sl_list (pv 2) po_none (po_some pe_int))))) pss_nil)
      (pss_one (ps_ret (pe_callTy call_tuple_of (by rfl) T.tuple (by decide +kernel) (pa_cons (pv 2) pa_nil)))))), ?_⟩
    have x0 := mk_ex [b] H
    refine q_asgM (C := fun v H1 => Ex (Mk [b] H) H1 ∧ Box H1 b lb ∧ ∃ l : List Nat, (∀ s ∈ l, s < n) ∧ l.length ≤ n ∧ LRep (l.map encN) v H1) (fun Q q => ?_) fun v H1 ⟨e1, b1, l, hl, hll, rl⟩ => ?_
    · refine ⟨_, rfl, (n : Int), rfl, by omega, by omega, fun D hD => ?_⟩
      rw [Int.toNat_natCast]
      have hDb : D ≠ b := fun z => by subst z; obtain ⟨_, _, h, _⟩ := hb; rw [h] at hD; cases hD
      have hD0 : Mk [b] H D = none := by unfold Mk; rw [if_neg (by simp; exact hDb)]; exact hD
      refine lc_range (lo := 0) (n := n) (fun j H' => Ex (Mk [b] H) H' ∧ Box H' b lb ∧ ∃ l : List Nat, H' D = some (.lst (iv l)) ∧ (∀ s ∈ l, s < j) ∧ l.length ≤ j) ⟨x0.trans (Ex.new hD), bx_ex (Ex.new hD) hb, [], upd_same, fun s h => (by cases h), Nat.le_refl _⟩ ?_ ?_
      · rintro j Hj hj ⟨ej, bj, l, hl, hlt, hle⟩
        have h0 : (0 : Int) + (j : Int) = (j : Int) := by omega
        refine ⟨wipe_back _ 3 _, ?_⟩
        rw [h0]
        refine ⟨_, rfl, ⟨b, lb, 3, rfl, by decide, bj, fun k1 H1 hk1 e1 b1 => ⟨_, _, rfl, rfl, _, rfl, ?_⟩⟩⟩
        have hl1 : H1 D = some (.lst (iv l)) := e1 _ _ (bx_lst bj hl)
        have e01 := mk_trans ej e1
        refine ite2 (fun hc => ?_) fun hc => ⟨e01, b1, l, hl1, fun s hs => Nat.lt_succ_of_lt (hlt s hs), Nat.le_succ_of_le hle⟩
        refine ⟨_, rfl, iv l, hl1, by rw [iv_len]; exact sz_lt (by omega), e01.mut hD0, ?_, l ++ [j], by rw [upd_same, iv_app]; rfl, fun s hs => ?_, by rw [List.length_append]; exact Nat.succ_le_succ hle⟩
        · obtain ⟨ns, at_, g1, g2, g3⟩ := b1
          have hlD : lb ≠ D := fun z => by
            subst z
            obtain ⟨_, _, _, f2, _⟩ := hb
            rw [f2] at hD; cases hD
          exact ⟨ns, at_, by rw [upd_ne hDb.symm]; exact g1, by rw [upd_ne hlD]; exact g2, g3⟩
        · rcases List.mem_append.mp hs with h | h
          · exact Nat.lt_succ_of_lt (hlt s h)
          · rw [List.mem_singleton.mp h]; exact Nat.lt_succ_self j
      · rintro Hn ⟨en, bn, l, hl, hlt, hle⟩
        exact q _ Hn ⟨en, bn, l, hlt, hle, D, iv l, rfl, hl, iv_reps l⟩
    show tSeq _ _ _ ([some (.ref b), some (.int (n : Int)), some v, none] : L2.St) H1
    have fin : ∀ (u : V) (l' : List Nat) (H2 : Hp), Ex (Mk [b] H) H2 → Box H2 b lb → LRep (l'.map encN) u H2 → (∀ s ∈ l', s < n) → l'.length ≤ n → tRet (tCB (rTup K) (tCons (tVar 2) tNil)) { nx := fun x H' => Q V.non H', rt := Q } ([some (.ref b), some (.int (n : Int)), some u, none] : L2.St) H2 := fun u l' H2 e2 b2 ru h1 h2 =>
      sr_ret (er_tuple (er_varR (i := 2) rfl (monoL _) ru)) fun z H3 e3 rz => k z H3 (mk_trans e2 ((mk_ex _ _).trans e3)) (bx_ex e3 b2) ⟨l', h1, h2, rz⟩
    refine q_whenM (C := fun c H2 => Ex (Mk [b] H1) H2 ∧ Box H2 b lb) (fun Q q => ?_) (fun H2 ⟨e2, b2⟩ => ?_) fun H2 ⟨e2, b2⟩ => ?_
    · refine et_test (ev_gtI (ev_lenLR (K := K) (σ := [some (.ref b), some (.int (n : Int)), some v, none]) (H := H1) rfl (er_varR (i := 2) rfl (monoL _) rl)) (ev_c (v := .int 1))) H1 (Ex.refl _) _ fun H2 e2 => ?_
      refine ite2 (fun _ => ?_) fun _ => q _ H2 ⟨(mk_ex _ _).trans e2, bx_ex e2 b1⟩
      exact ⟨_, rfl, ⟨b, lb, 2, rfl, by decide, bx_ex e2 b1, fun k1 H3 hk1 e3 b3 => ⟨rfl, _, rfl, q _ H3 ⟨mk_trans ((mk_ex _ _).trans e2) e3, b3⟩⟩⟩⟩
    · have rl2 : LRep (l.map encN) v H2 := by
        obtain ⟨a, us, rfl, h1, h2⟩ := rl
        exact ⟨a, us, rfl, e2 _ _ (bx_lst b1 h1), h2.tx ((bx_tex b1).trans (TEx.of e2))⟩
      refine sr_asg (R := LRep ((l.drop 1 ++ l.take 1).map encN)) ?_ fun u H3 e3 ru => ?_
      · rw [List.map_append, List.map_drop, List.map_take]
        exact er_cat (er_slLFrom (K := K) 1 rfl (er_varR (i := 2) rfl (monoL _) rl2)) (er_slLTo (K := K) 1 rfl (er_varR (i := 2) rfl (monoL _) rl2)) (by simp; omega)
      · refine fin u _ H3 (mk_trans (mk_trans e1 e2) ((mk_ex _ _).trans e3)) (bx_ex e3 b2) ru (fun s hs => ?_) (by simp; omega)
        rcases List.mem_append.mp hs with h | h
        · exact hl s (List.mem_of_mem_drop h)
        · exact hl s (List.mem_of_mem_take h)
    · have rl2 : LRep (l.map encN) v H2 := by
        obtain ⟨a, us, rfl, h1, h2⟩ := rl
        exact ⟨a, us, rfl, e2 _ _ (bx_lst b1 h1), h2.tx ((bx_tex b1).trans (TEx.of e2))⟩
      exact fin v l H2 (mk_trans e1 e2) b2 rl2 hl hll
end
end MW
end
section
set_option Elab.async false
set_option linter.all false
set_option maxRecDepth 100000
set_option maxHeartbeats 4000000
/-! The law's drawing: machine, line, recipe. -/
namespace MW
open PySem PySem.Spec PyProof.Rows L2 Evl
open MS (Val Tab Mach Line)
section
variable {P : Program} {w : World} {K : PySem.W.Frag} {mg : PySem.Str → Option Value} {base : Heap}
theorem q_forM {σ : L2.St} {H : Hp} {De : Ends} {te : TE} {tu tz : TS} {j N : Nat} {C : Nat → Hp → Prop} (hN : N ≤ 1000) (h : ∀ Q : VK, (∀ (k : Nat) H1, k ≤ N → C k H1 → Q (.int (k : Int)) H1) → te σ H Q) (Pv : Nat → Nat → L2.St → Hp → Prop) (h0 : ∀ k H1, k ≤ N → C k H1 → Pv k 0 σ H1)
    (hs : ∀ (k i : Nat) σ' H', i < k → k ≤ N → Pv k i σ' H' → tu { De with nx := Pv k (i + 1), ct := Pv k (i + 1), bk := tz De } (σ'.set j (some (.int (i : Int)))) H') (hd : ∀ k σ' H', k ≤ N → Pv k k σ' H' → tz De σ' H') : tSeq (tFor (iRng1 (tCons te tNil)) (gName j) tu) tz De σ H :=
  h _ fun k H1 hk hC => ⟨(k : Int), rfl, by omega, by omega, by
    rw [Int.toNat_natCast]
    refine for_range (lo := 0) (n := k) (Pv k) (h0 k H1 hk hC) (fun i σ' H' hi p => ?_) (fun σ' H' p => hd k σ' H' hk p)
    have e0 : (0 : Int) + (i : Int) = (i : Int) := Int.zero_add _
    rw [e0]
    exact hs k i σ' H' hi hk p⟩
/-! ### machine -/
abbrev sMa : Stmt := topS 42
def spMa : Sp := fun vs H Q _ => ∃ (b lb : Addr) (a : Nat), vs = [.ref b, .int (a : Int)] ∧ 1 ≤ a ∧ a ≤ 2 ∧ Box H b lb ∧ RetX b lb (fun u H' => ∃ m : Mach, m.WF ∧ Rep H' (encM m) u) H Q
theorem scMa : FnScope ["_law_box_here", "_law_letters", "_law_states", "_law_counters", "_law_steps", "_law_k", "_law_letter_here", "_law_action"] ["_law_box_here", "_law_letters"] (defScope sMa) := ⟨rfl, rfl, rfl, by decide +kernel, rfl, by decide +kernel, by decide +kernel⟩
theorem ok_ma {fN fS f : Addr} {dN dS fd : FuncData} (F : Fun K "_law_machine" "_law_machine" sMa f fd) (T : Txt K mg) (cNx : Cal P w K mg base CX0 1 "_law_next" ["_law_box_here", "_law_modulus"] spNext fN dN) (cSt : Cal P w K mg base CX0 2 "_law_set" ["_law_box_here", "_law_below"] spSt fS dS) : FnOk P w K mg base CX0 3 f fd ["_law_box_here", "_law_letters"] spMa := by
  refine F.ok scMa (fun vs H Q E h => ?_) (fun cdv A outer s H vs Q E hr h => ?_)
  · obtain ⟨b, lb, a, rfl, _⟩ := h
    rfl
  · obtain ⟨b, lb, a, rfl, ha1, ha2, hb, k⟩ := h
    refine ⟨_, (pss_cons (ps_set (i := 2) scMa.nd rfl (by first | exact Or.inl rfl | exact Or.inr rfl) (pe_op op_add (pe_op op_add pe_int (pe_cal cNx hr pass0 (pa_cons (pv 0) (pa_cons pe_int pa_nil)))) (pe_callTy call_int1 (by rfl) T.int (by decide +kernel) (pa_cons (pe_cmpR op_eq (pe_cal cNx hr pass0 (pa_cons (pv 0) (pa_cons pe_int pa_nil))) pe_int (nomark _)) pa_nil))))
      (pss_cons (ps_set (i := 3) scMa.nd rfl (by first | exact Or.inl rfl | exact Or.inr rfl) (pe_cal cNx hr pass0 (pa_cons (pv 0) (pa_cons pe_int pa_nil))))
      (pss_cons (ps_set (i := 4) scMa.nd rfl (by first | exact Or.inl rfl | exact Or.inr rfl) (pe_lst pa_nil))
      (pss_cons (ps_for PassesOwn.never rfl (pi_range1 (by rfl) T.range (pa_cons (pe_op op_add pe_int (pe_cal cNx hr pass0 (pa_cons (pv 0) (pa_cons pe_int pa_nil)))) pa_nil)) (pg_name (i := 5) scMa.nd rfl (by first | exact Or.inl rfl | exact Or.inr rfl)) (pss_cons (ps_set (i := 6) scMa.nd rfl (by first | exact Or.inl rfl | exact Or.inr rfl) (pe_cal cNx hr pass0 (pa_cons (pv 0) (pa_cons (pv 1) pa_nil))))
      (pss_cons (ps_set (i := 7) scMa.nd rfl (by first | exact Or.inl rfl | exact Or.inr rfl) (pe_cal cNx hr pass0 (pa_cons (pv 0) (pa_cons (pe_op op_add (pe_op op_mul pe_int (pv 3)) pe_int) pa_nil))))
      (pss_one (ps_expr (pe_bm PySem.F.plainAttrs_list PySem.F.slot_list_append PySem.F.type_list_append mt_append (pv 4) (pa_cons (pe_tup (pa_cons (pv 6) (pa_cons (pe_cal cNx hr pass0 (pa_cons (pv 0) (pa_cons (pv 2) pa_nil))) (pa_cons (pe_cal cNx hr pass0 (pa_cons (pv 0) (pa_cons (pv 2) pa_nil))) (pa_cons (pv 7) pa_nil))))) pa_nil)))))))
      (pss_one (ps_ret (pe_tup (pa_cons (pv 2) (pa_cons (pv 3) (pa_cons (pv 1) (pa_cons (pe_callTy call_tuple_of (by rfl) T.tuple (by decide +kernel) (pa_cons (pv 4) pa_nil)) (pa_cons (pe_cal cSt hr pass0 (pa_cons (pv 0) (pa_cons (pv 2) pa_nil))) (pa_cons (pe_cal cSt hr pass0 (pa_cons (pv 0) (pa_cons (pv 2) pa_nil))) pa_nil))))))))))))), ?_⟩
    have x0 := mk_ex [b] H
    refine q_asgM (C := fun v H1 => ∃ s : Nat, v = .int (s : Int) ∧ 1 ≤ s ∧ s ≤ 3 ∧ Ex (Mk [b] H) H1 ∧ Box H1 b lb) (fun Q q => ?_) fun v H1 ⟨s, hv, hs1, hs3, e1, b1⟩ => ?_
    · refine ⟨_, rfl, ⟨b, lb, 2, rfl, by decide, hb, fun k1 H1 hk1 e1 b1 => ⟨1, (k1 : Int), rfl, rfl, ?_⟩⟩⟩
      refine ⟨_, rfl, ⟨b, lb, 5, rfl, by decide, b1, fun k2 H2 hk2 e2 b2 => ⟨rfl, .inr ⟨_, rfl, _, _, rfl, rfl, ?_⟩⟩⟩⟩
      have key : ∃ s : Nat, (1 : Int) + (k1 : Int) + (if decide (V.int (k2 : Int) = V.int 0) = true then 1 else 0) = (s : Int) ∧ 1 ≤ s ∧ s ≤ 3 := by
        by_cases h : decide (V.int (k2 : Int) = V.int 0) = true
        · rw [if_pos h]; exact ⟨1 + k1 + 1, by push_cast; rfl, by omega, by omega⟩
        · rw [if_neg h]; exact ⟨1 + k1, by push_cast; omega, by omega, by omega⟩
      obtain ⟨s, hs, h1, h3⟩ := key
      show Q (V.int ((1 : Int) + (k1 : Int) + (if decide (V.int (k2 : Int) = V.int 0) = true then 1 else 0))) H2
      rw [hs]
      exact q _ H2 ⟨s, rfl, h1, h3, mk_trans (x0.trans (Ex.refl _)) (mk_trans e1 e2), b2⟩
    subst hv
    show tSeq _ _ _ ([some (.ref b), some (.int (a : Int)), some (.int (s : Int)), none, none, none, none, none] : L2.St) H1
    refine q_asgM (C := fun v H2 => ∃ c : Nat, v = .int (c : Int) ∧ c ≤ 2 ∧ Ex (Mk [b] H) H2 ∧ Box H2 b lb) (fun Q q => ⟨_, rfl, ⟨b, lb, 3, rfl, by decide, b1, fun k1 H2 hk1 e2 b2 => q _ H2 ⟨k1, rfl, by omega, mk_trans e1 e2, b2⟩⟩⟩) fun v H2 ⟨c, hv, hc2, e2, b2⟩ => ?_
    subst hv
    show tSeq _ _ _ ([some (.ref b), some (.int (a : Int)), some (.int (s : Int)), some (.int (c : Int)), none, none, none, none] : L2.St) H2
    refine q_asgL (el_lst ea_nil (by show 0 ≤ 100000; decide)) fun p H3 hp e3 h3 => ?_
    have b3 := bx_ex e3 b2
    have e03 : Ex (Mk [b] H) H3 := mk_trans e2 ((mk_ex _ _).trans e3)
    have hpb : p ≠ b := fun z => by subst z; obtain ⟨_, _, h, _⟩ := b2; rw [h] at hp; cases hp
    have hpl : lb ≠ p := fun z => by subst z; obtain ⟨_, _, _, h, _⟩ := b2; rw [h] at hp; cases hp
    have hp0 : Mk [b] H p = none := by
      cases hh : Mk [b] H p with
      | none => rfl
      | some o => have := e2 _ _ hh; rw [hp] at this; cases this
    show tSeq _ _ _ ([some (.ref b), some (.int (a : Int)), some (.int (s : Int)), some (.int (c : Int)), some (.ref p), none, none, none] : L2.St) H3
    refine q_forM (N := 6) (C := fun kk H4 => Ex (Mk [b] H3) H4 ∧ Box H4 b lb) (by decide) (fun Q q => ⟨_, rfl, ⟨b, lb, 6, rfl, by decide, b3, fun k1 H4 hk1 e4 b4 => ⟨1, (k1 : Int), rfl, rfl, ?_⟩⟩⟩)
      (fun kk i σ' H' => ∃ (x y z : Option V) (sts : List (Nat × Nat × Nat × Nat)) (us : List V), σ' = [some (.ref b), some (.int (a : Int)), some (.int (s : Int)), some (.int (c : Int)), some (.ref p), x, y, z] ∧ Ex (Mk [b] H) H' ∧ Box H' b lb ∧ H' p = some (.lst us) ∧ Reps H' (sts.map encS) us ∧ sts.length = i ∧ ∀ st ∈ sts, st.1 < a ∧ st.2.1 < s ∧ st.2.2.1 < s ∧ st.2.2.2 ≤ 2 * c)
      (fun kk H4 hk ⟨e4, b4⟩ => ⟨none, none, none, [], [], rfl, mk_trans e03 e4, b4, e4 _ _ (bx_lst b3 h3), .nil, rfl, fun st h => (by cases h)⟩) ?_ ?_
    · have : (1 : Int) + (k1 : Int) = ((1 + k1 : Nat) : Int) := by push_cast; rfl
      show Q (V.int ((1 : Int) + (k1 : Int))) H4
      rw [this]
      exact q (1 + k1) H4 (by omega) ⟨e4, b4⟩
    · rintro kk i σ4 H4 hi hk ⟨x, y, z, sts, us, rfl, e4, b4, h4, r4, hlen, hst⟩
      have hul := r4.length
      rw [List.length_map] at hul
      show tSeq _ _ _ ([some (.ref b), some (.int (a : Int)), some (.int (s : Int)), some (.int (c : Int)), some (.ref p), some (.int (i : Int)), y, z] : L2.St) H4
      refine q_asgM (C := fun v H5 => ∃ l : Nat, v = .int (l : Int) ∧ l < a ∧ Ex (Mk [b] H4) H5 ∧ Box H5 b lb) (fun Q q => ⟨_, rfl, _, rfl, ⟨b, lb, a, rfl, ha1, b4, fun k1 H5 hk1 e5 b5 => q _ H5 ⟨k1, rfl, hk1, e5, b5⟩⟩⟩) fun v H5 ⟨l, hv, hla, e5, b5⟩ => ?_
      subst hv
      show tSeq _ _ _ ([some (.ref b), some (.int (a : Int)), some (.int (s : Int)), some (.int (c : Int)), some (.ref p), some (.int (i : Int)), some (.int (l : Int)), z] : L2.St) H5
      refine q_asgM (C := fun v H6 => ∃ x : Nat, v = .int (x : Int) ∧ x ≤ 2 * c ∧ Ex (Mk [b] H5) H6 ∧ Box H6 b lb) (fun Q q => ⟨_, rfl, _, rfl, _, _, rfl, rfl, .inl ⟨by decide, by decide⟩, _, _, rfl, rfl, ⟨b, lb, 2 * c + 1, by push_cast; rfl, by omega, b5, fun k1 H6 hk1 e6 b6 => q _ H6 ⟨k1, rfl, by omega, e6, b6⟩⟩⟩) fun v H6 ⟨xx, hv, hxc, e6, b6⟩ => ?_
      subst hv
      show tDrop _ _ ([some (.ref b), some (.int (a : Int)), some (.int (s : Int)), some (.int (c : Int)), some (.ref p), some (.int (i : Int)), some (.int (l : Int)), some (.int (xx : Int))] : L2.St) H6
      have e46 : Ex (Mk [b] H4) H6 := mk_trans e5 e6
      have h6 : H6 p = some (.lst us) := e46 _ _ (bx_lst b4 h4)
      refine ⟨_, rfl, .inl ⟨rfl, us, SqL.of h6⟩, ?_⟩
      refine ⟨_, rfl, _, rfl, _, rfl, ⟨b, lb, s, rfl, hs1, b6, fun k1 H7 hk1 e7 b7 => ?_⟩⟩
      refine ⟨_, rfl, _, rfl, ⟨b, lb, s, rfl, hs1, b7, fun k2 H8 hk2 e8 b8 => ?_⟩⟩
      refine ⟨_, rfl, by show 4 ≤ sizeLine; decide, fun t ht => ?_⟩
      have e48 : Ex (Mk [b] H4) H8 := mk_trans e46 (mk_trans e7 e8)
      have h8 : H8 p = some (.lst us) := e48 _ _ (bx_lst b4 h4)
      have et : Ex H8 (upd H8 t (.tup [.int (l : Int), .int (k1 : Int), .int (k2 : Int), .int (xx : Int)])) := Ex.new ht
      have b9 := bx_ex et b8
      refine ⟨p, us, _, rfl, rfl, et _ _ h8, sz_lt (by omega), ?_⟩
      have txE : TEx (upd H8 t (.tup [.int (l : Int), .int (k1 : Int), .int (k2 : Int), .int (xx : Int)])) (upd (upd H8 t (.tup [.int (l : Int), .int (k1 : Int), .int (k2 : Int), .int (xx : Int)])) p (.lst (us ++ [.ref t]))) := TEx.lst (et _ _ h8)
      have tx4 : TEx H4 H8 := (bx_tex b4).trans (TEx.of e48)
      refine ⟨_, _, _, sts ++ [(l, k1, k2, xx)], us ++ [.ref t], rfl, ((mk_trans e4 e48).trans et).mut hp0, ?_, upd_same, ?_, by rw [List.length_append, hlen]; rfl, fun st hs => ?_⟩
      · obtain ⟨ns, at_, g1, g2, g3⟩ := b9
        exact ⟨ns, at_, by rw [upd_ne hpb.symm]; exact g1, by rw [upd_ne hpl]; exact g2, g3⟩
      · rw [List.map_append]
        exact (((r4.tx tx4).ex et).tx txE).app (Reps.one ((Rep.tup (ks := [encN l, encN k1, encN k2, encN xx]) upd_same (.cons (.num _) (.cons (.num _) (.cons (.num _) (.cons (.num _) .nil))))).tx txE))
      · rcases List.mem_append.mp hs with h | h
        · exact hst st h
        · rw [List.mem_singleton.mp h]; exact ⟨hla, hk1, hk2, hxc⟩
    · rintro kk σ4 H4 hk ⟨x, y, z, sts, us, rfl, e4, b4, h4, r4, hlen, hst⟩
      refine ⟨_, rfl, _, rfl, _, rfl, ?_⟩
      refine er_tuple (K := K) (te := tVar 4) (σ := [some (.ref b), some (.int (a : Int)), some (.int (s : Int)), some (.int (c : Int)), some (.ref p), x, y, z]) (H := H4) (er_varR (i := 4) rfl (monoL _) ⟨p, us, rfl, h4, r4⟩) H4 (Ex.refl _) _ fun v4 H5 e5 rv4 => ?_
      have b5 := bx_ex e5 b4
      refine ⟨_, rfl, _, rfl, ⟨b, lb, s, rfl, by omega, b5, fun v5 H6 e6 b6 ⟨l1, q1, q2, q3⟩ => ?_⟩⟩
      refine ⟨_, rfl, _, rfl, ⟨b, lb, s, rfl, by omega, b6, fun v6 H7 e7 b7 ⟨l2, p1, p2, p3⟩ => ?_⟩⟩
      refine ⟨by show 6 ≤ sizeLine; decide, fun t ht => ?_⟩
      have et : Ex H7 (upd H7 t (.tup [.int (s : Int), .int (c : Int), .int (a : Int), v4, v5, v6])) := Ex.new ht
      have tx67 : TEx H6 H7 := (bx_tex b6).trans (TEx.of e7)
      have tx57 : TEx H5 H7 := ((bx_tex b5).trans (TEx.of e6)).trans tx67
      refine k _ _ ((mk_trans (mk_trans (mk_trans e4 ((mk_ex _ _).trans e5)) e6) e7).trans et) (bx_ex et b7) ⟨⟨s, c, a, sts, l1, l2⟩, ⟨hs1, hs3, hc2, ha1, ha2, fun st h => by have := hst st h; exact ⟨this.1, this.2.1, this.2.2.1, this.2.2.2⟩, by show sts.length ≤ 6; omega, q1, p1, by show l1.length ≤ 3; omega, by show l2.length ≤ 3; omega⟩, ?_⟩
      exact .tup upd_same (.cons (.num _) (.cons (.num _) (.cons (.num _) (.cons ((rv4.tx tx57).ex et) (.cons ((q3.tx tx67).ex et) (.cons (p3.ex et) .nil))))))
/-! ### line, recipe -/
abbrev sLn : Stmt := topS 56
def spLn : Sp := fun vs H Q _ => ∃ (b lb : Addr) (n a : Nat), vs = [.ref b, .int (n : Int), .int (a : Int)] ∧ 1 ≤ a ∧ Box H b lb ∧ RetX b lb (fun u H' => ∃ l : Line, l.ok n ∧ Rep H' (encL l) u) H Q
theorem scLn : FnScope ["_law_box_here", "_law_number", "_law_letters", "_law_choice"] ["_law_box_here", "_law_number", "_law_letters"] (defScope sLn) := ⟨rfl, rfl, rfl, by decide +kernel, rfl, by decide +kernel, by decide +kernel⟩
theorem ok_ln {fN f : Addr} {dN fd : FuncData} (F : Fun K "_law_line" "_law_line" sLn f fd) (cNx : Cal P w K mg base CX0 1 "_law_next" ["_law_box_here", "_law_modulus"] spNext fN dN) : FnOk P w K mg base CX0 2 f fd ["_law_box_here", "_law_number", "_law_letters"] spLn := by
  refine F.ok scLn (fun vs H Q E h => ?_) (fun cdv A outer s H vs Q E hr h => ?_)
  · obtain ⟨b, lb, n, a, rfl, _⟩ := h
    rfl
  · obtain ⟨b, lb, n, a, rfl, ha1, hb, k⟩ := h
    refine ⟨_, (pss_cons (ps_set (i := 3) scLn.nd rfl (by first | exact Or.inl rfl | exact Or.inr rfl) (pe_cal cNx hr pass0 (pa_cons (pv 0) (pa_cons pe_int pa_nil))))
      (pss_cons (ps_if (PW.pt (pw_or (pt_cmpR op_eq (pv 1) pe_int (nomark _)) (pw_or1 (pt_cmpR op_eq (pv 3) pe_int (nomark _))))) (pss_one (ps_ret (pe_tup (pa_cons pe_str (pa_cons (pe_cal cNx hr pass0 (pa_cons (pv 0) (pa_cons (pv 2) pa_nil))) pa_nil))))) pss_nil)
      (pss_cons (ps_if (pt_cmpR op_eq (pv 3) pe_int (nomark _)) (pss_one (ps_ret (pe_tup (pa_cons pe_str (pa_cons (pe_cal cNx hr pass0 (pa_cons (pv 0) (pa_cons (pv 1) pa_nil))) pa_nil))))) pss_nil)
      (pss_one (ps_ret (pe_tup (pa_cons pe_str (pa_cons (pe_cal cNx hr pass0 (pa_cons (pv 0) (pa_cons (pv 1) pa_nil))) (pa_cons (pe_cal cNx hr pass0 (pa_cons (pv 0) (pa_cons (pv 1) pa_nil))) pa_nil))))))))), ?_⟩
    refine q_asgM (C := fun v H1 => ∃ c : Nat, v = .int (c : Int) ∧ Ex (Mk [b] H) H1 ∧ Box H1 b lb) (fun Q q => ⟨_, rfl, ⟨b, lb, 3, rfl, by decide, hb, fun k1 H2 hk1 e2 b2 => q _ H2 ⟨k1, rfl, e2, b2⟩⟩⟩) fun v H1 ⟨c, hv, e1, b1⟩ => ?_
    subst hv
    show tSeq _ _ _ ([some (.ref b), some (.int (n : Int)), some (.int (a : Int)), some (.int (c : Int))] : L2.St) H1
    refine q_when (et_or (et_test (ev_eqI (i := (n : Int)) (j := 0) (ev_var rfl) ev_c)) fun _ => et_test (ev_eqI (i := (c : Int)) (j := 0) (ev_var rfl) ev_c)) (fun hb0 H2 e2 => ?_) fun hb0 H2 e2 => ?_
    · have b2 := bx_ex e2 b1
      refine ⟨_, rfl, _, rfl, ⟨b, lb, a, rfl, ha1, b2, fun k1 H3 hk1 e3 b3 => ⟨by show 2 ≤ sizeLine; decide, fun t ht => ?_⟩⟩⟩
      exact k _ _ ((mk_trans (mk_trans e1 ((mk_ex _ _).trans e2)) e3).trans (Ex.new ht)) (bx_ex (Ex.new ht) b3) ⟨.letter k1, True.intro, .tup upd_same (.cons (.text _) (.cons (.num _) .nil))⟩
    · have hn : 1 ≤ n := by
        cases n with
        | zero => simp at hb0
        | succ n => omega
      have b2 := bx_ex e2 b1
      refine q_when (et_test (ev_eqI (i := (c : Int)) (j := 1) (ev_var rfl) ev_c)) (fun hb1 H3 e3 => ?_) fun hb1 H3 e3 => ?_
      · have b3 := bx_ex e3 b2
        refine ⟨_, rfl, _, rfl, ⟨b, lb, n, rfl, hn, b3, fun k1 H4 hk1 e4 b4 => ⟨by show 2 ≤ sizeLine; decide, fun t ht => ?_⟩⟩⟩
        exact k _ _ ((mk_trans (mk_trans e1 ((mk_ex _ _).trans (e2.trans e3))) e4).trans (Ex.new ht)) (bx_ex (Ex.new ht) b4) ⟨.often k1, hk1, .tup upd_same (.cons (.text _) (.cons (.num _) .nil))⟩
      · have b3 := bx_ex e3 b2
        refine ⟨_, rfl, _, rfl, ⟨b, lb, n, rfl, hn, b3, fun k1 H4 hk1 e4 b4 => ?_⟩⟩
        refine ⟨_, rfl, _, rfl, ⟨b, lb, n, rfl, hn, b4, fun k2 H5 hk2 e5 b5 => ⟨by show 3 ≤ sizeLine; decide, fun t ht => ?_⟩⟩⟩
        exact k _ _ ((mk_trans (mk_trans (mk_trans e1 ((mk_ex _ _).trans (e2.trans e3))) e4) e5).trans (Ex.new ht)) (bx_ex (Ex.new ht) b5) ⟨.both k1 k2, ⟨hk1, hk2⟩, .tup upd_same (.cons (.text _) (.cons (.num _) (.cons (.num _) .nil)))⟩
abbrev sRc : Stmt := topS 57
def spRc : Sp := fun vs H Q _ => ∃ (b lb : Addr) (a : Nat), vs = [.ref b, .int 7, .int (a : Int)] ∧ 1 ≤ a ∧ Box H b lb ∧ RetX b lb (fun u H' => ∃ ls : List Line, MS.LinesOk ls ∧ 1 ≤ ls.length ∧ ls.length ≤ 7 ∧ Rep H' (.tup (ls.map encL)) u) H Q
theorem scRc : FnScope ["_law_box_here", "_law_most", "_law_letters", "_law_lines", "_law_k"] ["_law_box_here", "_law_most", "_law_letters"] (defScope sRc) := ⟨rfl, rfl, rfl, by decide +kernel, rfl, by decide +kernel, by decide +kernel⟩
theorem ok_rc {fN fL f : Addr} {dN dL fd : FuncData} (F : Fun K "_law_recipe" "_law_recipe" sRc f fd) (T : Txt K mg) (cNx : Cal P w K mg base CX0 1 "_law_next" ["_law_box_here", "_law_modulus"] spNext fN dN) (cLn : Cal P w K mg base CX0 2 "_law_line" ["_law_box_here", "_law_number", "_law_letters"] spLn fL dL) : FnOk P w K mg base CX0 3 f fd ["_law_box_here", "_law_most", "_law_letters"] spRc := by
  refine F.ok scRc (fun vs H Q E h => ?_) (fun cdv A outer s H vs Q E hr h => ?_)
  · obtain ⟨b, lb, a, rfl, _⟩ := h
    rfl
  · obtain ⟨b, lb, a, rfl, ha1, hb, k⟩ := h
    refine ⟨_, (pss_cons (ps_set (i := 3) scRc.nd rfl (by first | exact Or.inl rfl | exact Or.inr rfl) (pe_lst pa_nil))
      (pss_cons (ps_for PassesOwn.never rfl (pi_range1 (by rfl) T.range (pa_cons (pe_op op_add pe_int (pe_cal cNx hr pass0 (pa_cons (pv 0) (pa_cons (pv 1) pa_nil)))) pa_nil)) (pg_name (i := 4) scRc.nd rfl (by first | exact Or.inl rfl | exact Or.inr rfl)) (pss_one (ps_expr (pe_bm PySem.F.plainAttrs_list PySem.F.slot_list_append PySem.F.type_list_append mt_append (pv 3) (pa_cons (pe_cal cLn hr pass0 (pa_cons (pv 0) (pa_cons (pv 4) (pa_cons (pv 2) pa_nil)))) pa_nil)))))
      (pss_one (ps_ret (pe_callTy call_tuple_of (by rfl) T.tuple (by decide +kernel) (pa_cons (pv 3) pa_nil)))))), ?_⟩
    refine q_asgL (el_lst ea_nil (by show 0 ≤ 100000; decide)) fun p H3 hp e3 h3 => ?_
    have b3 := bx_ex e3 hb
    have e03 : Ex (Mk [b] H) H3 := (mk_ex _ _).trans e3
    have hpb : p ≠ b := fun z => by subst z; obtain ⟨_, _, h, _⟩ := hb; rw [h] at hp; cases hp
    have hpl : lb ≠ p := fun z => by subst z; obtain ⟨_, _, _, h, _⟩ := hb; rw [h] at hp; cases hp
    have hp0 : Mk [b] H p = none := by unfold Mk; rw [if_neg (by simp; exact hpb)]; exact hp
    show tSeq _ _ _ ([some (.ref b), some (.int 7), some (.int (a : Int)), some (.ref p), none] : L2.St) H3
    refine q_forM (N := 7) (C := fun kk H4 => 1 ≤ kk ∧ Ex (Mk [b] H3) H4 ∧ Box H4 b lb) (by decide) (fun Q q => ⟨_, rfl, _, rfl, ⟨b, lb, 7, rfl, by decide, b3, fun k1 H4 hk1 e4 b4 => ⟨1, (k1 : Int), rfl, rfl, ?_⟩⟩⟩)
      (fun kk i σ' H' => ∃ (x : Option V) (ls : List Line) (us : List V), σ' = [some (.ref b), some (.int 7), some (.int (a : Int)), some (.ref p), x] ∧ 1 ≤ kk ∧ Ex (Mk [b] H) H' ∧ Box H' b lb ∧ H' p = some (.lst us) ∧ Reps H' (ls.map encL) us ∧ ls.length = i ∧ MS.LinesOk ls)
      (fun kk H4 hk ⟨h1, e4, b4⟩ => ⟨none, [], [], rfl, h1, mk_trans e03 e4, b4, e4 _ _ (bx_lst b3 h3), .nil, rfl, fun i l h => (by cases h)⟩) ?_ ?_
    · have : (1 : Int) + (k1 : Int) = ((1 + k1 : Nat) : Int) := by push_cast; rfl
      show Q (V.int ((1 : Int) + (k1 : Int))) H4
      rw [this]
      exact q (1 + k1) H4 (by omega) ⟨by omega, e4, b4⟩
    · rintro kk i σ4 H4 hi hk ⟨x, ls, us, rfl, h1, e4, b4, h4, r4, hlen, hok⟩
      have hul := r4.length
      rw [List.length_map] at hul
      show tDrop _ _ ([some (.ref b), some (.int 7), some (.int (a : Int)), some (.ref p), some (.int (i : Int))] : L2.St) H4
      refine ⟨_, rfl, .inl ⟨rfl, us, SqL.of h4⟩, ?_⟩
      refine ⟨_, rfl, _, rfl, _, rfl, ⟨b, lb, i, a, rfl, ha1, b4, fun u H5 e5 b5 ⟨l, hl, rl⟩ => ?_⟩⟩
      have h5 : H5 p = some (.lst us) := e5 _ _ (bx_lst b4 h4)
      refine ⟨p, us, u, rfl, rfl, h5, sz_lt (by omega), ?_⟩
      have txE : TEx H5 (upd H5 p (.lst (us ++ [u]))) := TEx.lst h5
      refine ⟨_, ls ++ [l], us ++ [u], rfl, h1, (mk_trans e4 e5).mut hp0, ?_, upd_same, ?_, by rw [List.length_append, hlen]; rfl, fun j l' hj => ?_⟩
      · obtain ⟨ns, at_, g1, g2, g3⟩ := b5
        exact ⟨ns, at_, by rw [upd_ne hpb.symm]; exact g1, by rw [upd_ne hpl]; exact g2, g3⟩
      · rw [List.map_append]
        exact ((r4.tx ((bx_tex b4).trans (TEx.of e5))).tx txE).app (Reps.one (rl.tx txE))
      · by_cases hj2 : j < ls.length
        · rw [List.getElem?_append_left hj2] at hj; exact hok j l' hj
        · have hje : j = ls.length := by have := (List.getElem?_eq_some_iff.mp hj).1; simp at this; omega
          subst hje
          rw [List.getElem?_append_right (Nat.le_refl _), Nat.sub_self] at hj
          cases hj
          rw [hlen]; exact hl
    · rintro kk σ4 H4 hk ⟨x, ls, us, rfl, h1, e4, b4, h4, r4, hlen, hok⟩
      exact sr_ret (er_tuple (ds := ls.map encL) (er_varR (i := 3) (v := .ref p) rfl (monoL _) ⟨p, us, rfl, h4, r4⟩)) fun z H5 e5 rz => k z H5 (mk_trans e4 ((mk_ex _ _).trans e5)) (bx_ex e5 b4) ⟨ls, hok, by omega, by omega, rz⟩
end
end MW
end
section
set_option Elab.async false
set_option linter.all false
set_option maxRecDepth 100000
set_option maxHeartbeats 4000000
/-! What a word costs: applied, cost. -/
namespace MS
/-- the least of the ways, kept by place -/
def putW (ws : List (Cfg × Nat)) (q : Cfg) (t : Nat) : List (Cfg × Nat) := if ws.any (fun p => decide (p.1 = q)) = true then ws.map (fun p => if p.1 = q then (p.1, t) else p) else ws ++ [(q, t)]
theorem putW_mem {ws : List (Cfg × Nat)} {q : Cfg} {t : Nat} {r : Cfg} {s : Nat} : (r, s) ∈ putW ws q t ↔ (r = q ∧ s = t) ∨ (r ≠ q ∧ (r, s) ∈ ws) := by
  unfold putW
  split
  · rename_i h
    obtain ⟨p, hp, hq⟩ := List.any_eq_true.mp h
    have hq := of_decide_eq_true hq
    constructor
    · intro hm
      obtain ⟨x, hx, e⟩ := List.mem_map.mp hm
      by_cases hxq : x.1 = q
      · rw [if_pos hxq] at e
        cases e
        exact .inl ⟨hxq, rfl⟩
      · rw [if_neg hxq] at e
        subst e
        exact .inr ⟨hxq, hx⟩
    · rintro (⟨rfl, rfl⟩ | ⟨h1, h2⟩)
      · exact List.mem_map.mpr ⟨p, hp, by rw [if_pos hq, hq]⟩
      · exact List.mem_map.mpr ⟨(r, s), h2, by rw [if_neg h1]⟩
  · rename_i h
    constructor
    · intro hm
      rcases List.mem_append.mp hm with hm | hm
      · refine .inr ⟨fun e => ?_, hm⟩
        exact h (List.any_eq_true.mpr ⟨(r, s), hm, decide_eq_true e⟩)
      · have := List.mem_singleton.mp hm
        cases this
        exact .inl ⟨rfl, rfl⟩
    · rintro (⟨rfl, rfl⟩ | ⟨_, h2⟩)
      · exact List.mem_append_right _ (List.mem_singleton.mpr rfl)
      · exact List.mem_append_left _ h2
theorem putW_keys {ws : List (Cfg × Nat)} {q : Cfg} {t : Nat} (h : (ws.map (·.1)).Nodup) : ((putW ws q t).map (·.1)).Nodup := by
  unfold putW
  split
  · have : (ws.map fun p => if p.1 = q then (p.1, t) else p).map (·.1) = ws.map (·.1) := by
      rw [List.map_map]
      refine List.map_congr_left fun p _ => ?_
      show (if p.1 = q then (p.1, t) else p).1 = p.1
      split <;> rfl
    rw [this]; exact h
  · rename_i hn
    rw [List.map_append]
    refine List.nodup_append.mpr ⟨h, by simp, fun a ha b hb => ?_⟩
    have hb' : b = q := by simpa using hb
    subst hb'
    intro e
    subst e
    obtain ⟨p, hp, e⟩ := List.mem_map.mp ha
    exact hn (List.any_eq_true.mpr ⟨p, hp, decide_eq_true e⟩)
theorem keys_one {ws : List (Cfg × Nat)} (h : (ws.map (·.1)).Nodup) {p : Cfg} {v u : Nat} (h1 : (p, v) ∈ ws) (h2 : (p, u) ∈ ws) : v = u := by
  induction ws with
  | nil => cases h1
  | cons x ws ih =>
    rw [List.map_cons, List.nodup_cons] at h
    rcases List.mem_cons.mp h1 with e1 | e1
    · rcases List.mem_cons.mp h2 with e2 | e2
      · rw [← e1] at e2; cases e2; rfl
      · exact absurd (List.mem_map.mpr ⟨_, e2, by rw [← e1]⟩) h.1
    · rcases List.mem_cons.mp h2 with e2 | e2
      · exact absurd (List.mem_map.mpr ⟨_, e1, by rw [← e2]⟩) h.1
      · exact ih h.2 e1 e2
/-- what may be told of the ways behind i letters -/
def Sane (m : Mach) (i : Nat) (ws : List (Cfg × Nat)) : Prop := (ws.map (·.1)).Nodup ∧ ∀ p v, (p, v) ∈ ws → p.1 < m.states ∧ p.2.length = m.counters ∧ p.2.headD 0 ≤ v ∧ v ≤ i
theorem sane_len {m : Mach} (W : m.WF) (hc : m.counters ≤ 1) {i : Nat} (hi : i ≤ 1000) {ws : List (Cfg × Nat)} (s : Sane m i ws) : ws.length ≤ 4000 := by
  refine Nat.le_of_not_lt fun hlt => ?_
  have s3 := W.s3
  have hg : ∀ (j : Nat) (hj : j < ws.length), ws.getD j ((0, []), 0) = ws[j] := fun j hj => by rw [List.getD_eq_getElem?_getD, List.getElem?_eq_getElem hj]; rfl
  obtain ⟨a, b, hab, hb, e⟩ := pigeon 3003 (fun j => (ws.getD j ((0, []), 0)).1.1 * 1001 + (ws.getD j ((0, []), 0)).1.2.headD 0) 4000 (by omega) fun j hj => by
    show (ws.getD j ((0, []), 0)).1.1 * 1001 + (ws.getD j ((0, []), 0)).1.2.headD 0 < 3003
    rw [hg j (by omega)]
    have := s.2 ws[j].1 ws[j].2 (List.getElem_mem _)
    omega
  have ha' : a < ws.length := by omega
  have hb' : b < ws.length := by omega
  have e : (ws.getD a ((0, []), 0)).1.1 * 1001 + (ws.getD a ((0, []), 0)).1.2.headD 0 = (ws.getD b ((0, []), 0)).1.1 * 1001 + (ws.getD b ((0, []), 0)).1.2.headD 0 := e
  rw [hg a ha', hg b hb'] at e
  have h1 := s.2 ws[a].1 ws[a].2 (List.getElem_mem _)
  have h2 := s.2 ws[b].1 ws[b].2 (List.getElem_mem _)
  have e1 : ws[a].1.1 = ws[b].1.1 := by omega
  have e2 : ws[a].1.2.headD 0 = ws[b].1.2.headD 0 := by omega
  have e3 : ws[a].1.2 = ws[b].1.2 := by
    have l1 := h1.2.1
    have l2 := h2.2.1
    have hcc : m.counters = 0 ∨ m.counters = 1 := by omega
    rcases hcc with z | z
    · rw [z] at l1 l2
      rw [List.length_eq_zero_iff.mp l1, List.length_eq_zero_iff.mp l2]
    · rw [z] at l1 l2
      obtain ⟨x, hx⟩ := List.length_eq_one_iff.mp l1
      obtain ⟨y, hy⟩ := List.length_eq_one_iff.mp l2
      rw [hx, hy] at e2 ⊢
      have : x = y := e2
      rw [this]
  have ek : (ws.map (·.1))[a]'(by rw [List.length_map]; exact ha') = (ws.map (·.1))[b]'(by rw [List.length_map]; exact hb') := by
    rw [List.getElem_map, List.getElem_map]
    exact Prod.ext e1 e3
  have := (List.getElem_inj s.1).mp ek
  omega
/-- a step from a way -/
def Step (m : Mach) (a : Nat) (p : Cfg) (v : Nat) (st : Nat × Nat × Nat × Nat) (q : Cfg) (t : Nat) : Prop := st.1 = a ∧ st.2.1 = p.1 ∧ q = (st.2.2.1, app st.2.2.2 p.2) ∧ t = max v (q.2.headD 0)
/-- found is right for the pairs in S -/
def FoundOk (m : Mach) (a : Nat) (S : (Cfg × Nat) → (Nat × Nat × Nat × Nat) → Prop) (fs : List (Cfg × Nat)) : Prop :=
  (∀ q t, (q, t) ∈ fs → ∃ p v st, S (p, v) st ∧ Step m a p v st q t) ∧ ∀ p v st q t, S (p, v) st → Step m a p v st q t → ∃ t', (q, t') ∈ fs ∧ t' ≤ t
theorem found_ways {m : Mach} {w : List Nat} {a : Nat} {ws fs : List (Cfg × Nat)} (h : WaysOk m w ws) (f : FoundOk m a (fun p st => p ∈ ws ∧ st ∈ m.steps) fs) : WaysOk m (w ++ [a]) fs := by
  intro q k
  rw [runTo_snoc]
  constructor
  · rintro ⟨p, x, hr, hs, he, hk⟩
    obtain ⟨v, hv, hvk⟩ := (h p k).mp hr
    obtain ⟨t', ht, hle⟩ := f.2 p v (a, p.1, q.1, x) q (max v (q.2.headD 0)) ⟨hv, hs⟩ ⟨rfl, rfl, Prod.ext rfl he, rfl⟩
    exact ⟨t', ht, Nat.le_trans hle (Nat.max_le.mpr ⟨hvk, hk⟩)⟩
  · rintro ⟨t, ht, htk⟩
    obtain ⟨p, v, st, ⟨hp, hst⟩, h1, h2, h3, h4⟩ := f.1 q t ht
    have hv : v ≤ k := Nat.le_trans (by rw [h4]; exact Nat.le_max_left _ _) htk
    have hq : q.2.headD 0 ≤ k := Nat.le_trans (by rw [h4]; exact Nat.le_max_right _ _) htk
    refine ⟨p, st.2.2.2, (h p k).mpr ⟨v, hp, hv⟩, ?_, by rw [h3], hq⟩
    rw [h3, ← h1, ← h2]
    exact hst
end MS
namespace MW
open PySem PySem.Spec PyProof.Rows L2 Evl
open MS (Val Tab Mach Line Cfg putW)
section
variable {P : Program} {w : World} {K : PySem.W.Frag} {mg : PySem.Str → Option Value} {base : Heap}
/-! ### applied -/
abbrev sLa : Stmt := topS 43
theorem scLa : FnScope ["_law_action", "_law_counters", "_law_row", "_law_number", "_law_k"] ["_law_action", "_law_counters"] (defScope sLa) := ⟨rfl, rfl, rfl, by decide +kernel, rfl, by decide +kernel, by decide +kernel⟩
theorem ok_la {f : Addr} {fd : FuncData} (F : Fun K "_law_applied" "_law_applied" sLa f fd) (T : Txt K mg) : FnOk P w K mg base CX0 1 f fd ["_law_action", "_law_counters"] spAp := by
  refine F.ok scLa (fun vs H Q E h => ?_) (fun cdv A outer s H vs Q E hr h => ?_)
  · obtain ⟨x, c, v, rfl, _⟩ := h
    rfl
  · obtain ⟨x, c, v, rfl, hx, hc, hv, k⟩ := h
    refine ⟨_, (pss_cons (ps_set (i := 2) scLa.nd rfl (by first | exact Or.inl rfl | exact Or.inr rfl) (pe_callTy call_list_of (by rfl) T.list (by decide +kernel) (pa_cons (pv 1) pa_nil)))
      (pss_cons (ps_set (i := 3) scLa.nd rfl (by first | exact Or.inl rfl | exact Or.inr rfl) (pe_op op_fdivW (pe_op op_add (pv 0) pe_int) pe_int))
      (pss_cons (ps_for PassesOwn.never rfl (pi_range1 (by rfl) T.range (pa_cons (pv 3) pa_nil)) (pg_name (i := 4) scLa.nd rfl (by first | exact Or.inl rfl | exact Or.inr rfl)) (pss_one (ps_if (PW.pt (pw_or (pt_cmpR op_lt (pv 4) (pe_op op_sub (pv 3) pe_int) (nomark _)) (pw_or1 (pt_cmpR op_eq (pe_op op_mod (pv 0) pe_int) pe_int (nomark _))))) (pss_one (ps_asg pe_int (pg_sub (pv 2) (pv 4) set_list))) (pss_one (ps_asg (pe_op op_add (pe_ix ix_list (pv 2) (pv 4) (fun _ _ => rfl)) pe_int) (pg_sub (pv 2) (pv 4) set_list))))))
      (pss_one (ps_ret (pe_callTy call_tuple_of (by rfl) T.tuple (by decide +kernel) (pa_cons (pv 2) pa_nil))))))), ?_⟩
    have cd : ∀ i : Int, CDivW i 2 := fun i => ⟨by decide, by decide +kernel⟩
    obtain ⟨aC, ws, rfl, haC, rC⟩ := rep_tup hv
    have hws := nums_of rC
    have hws' : ws = iv c := by rw [hws]; unfold iv; rw [List.map_map]; rfl
    subst hws'
    refine ⟨_, rfl, aC, iv c, rfl, .inr (SqT.of haC), fun p hp => ?_⟩
    have e1 : Ex H (upd H p (.lst (iv c))) := Ex.new hp
    have h1 : upd H p (.lst (iv c)) p = some (.lst (iv c)) := upd_same
    generalize upd H p (.lst (iv c)) = H1 at e1 h1 ⊢
    show tSeq (tAsg (tOp (rI CDivW fun i j => .int (i / j)) (tOp (rI0 fun i j => .int (i + j)) (tVar 0) (tC (.int 1))) (tC (.int 2))) (gName 3)) (tSeq (tFor (iRng1 (tCons (tVar 3) tNil)) (gName 4) (tIfS (tOr (tTest (tOp (rI0 fun i j => .bl (decide (i < j))) (tVar 4) (tOp (rI0 fun i j => .int (i - j)) (tVar 3) (tC (.int 1))))) (tTest (tOp rEq (tOp (rI (fun _ j => 0 < j) fun i j => .int (i % j)) (tVar 0) (tC (.int 2))) (tC (.int 0)))))
      (tAsg (tC (.int 0)) (gSub (tVar 2) (tVar 4) rSetL)) (tAsg (tOp (rI0 fun i j => .int (i + j)) (tOp (rIxL K) (tVar 2) (tVar 4)) (tC (.int 1))) (gSub (tVar 2) (tVar 4) rSetL)))) (tRet (tCB (rTup K) (tCons (tVar 2) tNil)))) { nx := fun x H' => Q V.non H', rt := Q } ([some (.int (x : Int)), some (.ref aC), some (.ref p), none, none] : L2.St) H1
    refine q_asg (ev_divW (ev_add (i := (x : Int)) (ev_var rfl) ev_c) ev_c (cd _)) fun H2 e2 => ?_
    show tSeq _ _ _ ([some (.int (x : Int)), some (.ref aC), some (.ref p), some (.int (((x : Int) + 1) / 2)), none] : L2.St) H2
    have h2 := e2 _ _ h1
    have hnum : ((x : Int) + 1) / 2 = ((if x = 0 then 0 else 1 : Nat) : Int) := by
      have : x = 0 ∨ x = 1 ∨ x = 2 := by omega
      rcases this with rfl | rfl | rfl <;> decide
    rw [hnum]
    refine q_forR1 (n := ((if x = 0 then 0 else 1 : Nat) : Int)) (ea_cons (ev_var rfl) ea_nil) (by split <;> omega) (fun i σ' H' => ∃ z : Option V, σ' = [some (.int (x : Int)), some (.ref aC), some (.ref p), some (.int ((if x = 0 then 0 else 1 : Nat) : Int)), z] ∧ Ex H H' ∧ H' p = some (.lst (iv (if i = 0 then c else MS.app x c)))) (fun H3 e3 => ⟨none, rfl, (e1.trans e2).trans e3, by rw [if_pos rfl]; exact e3 _ _ h2⟩) ?_ ?_
    · rintro i σ3 H3 hi ⟨z, rfl, e3, h3⟩
      have hx0 : x ≠ 0 := fun hh => by rw [if_pos hh] at hi; omega
      rw [if_neg hx0] at hi ⊢
      have hi0 : i = 0 := by omega
      subst hi0
      rw [if_pos rfl] at h3
      obtain ⟨c0, rfl⟩ : ∃ c0, c = [c0] := by
        match c, hc with
        | [c0], _ => exact ⟨c0, rfl⟩
        | [], _ => simp at hx; omega
      show tIfS _ _ _ _ ([some (.int (x : Int)), some (.ref aC), some (.ref p), some (.int ((1 : Nat) : Int)), some (.int ((0 : Nat) : Int))] : L2.St) H3
      have hx12 : x = 1 ∨ x = 2 := by simp at hx; omega
      refine s_if (b := decide (x = 2)) (et_is (et_or (et_test (ev_ltI (i := 0) (ev_var rfl) (ev_sub (i := 1) (ev_var rfl) ev_c))) fun _ => et_test (ev_eqI (ev_mod (i := (x : Int)) (ev_var rfl) ev_c (by decide)) ev_c)) (by rcases hx12 with rfl | rfl <;> decide)) (fun hb H4 e4 => ?_) fun hb H4 e4 => ?_
      · have hx2 : x = 2 := of_decide_eq_true hb
        subst hx2
        refine s_setL (l := p) (xs := iv [c0]) (j := 0) (e4 _ _ h3) (ev_c (v := .int 0)) (ev_var rfl) (ev_var rfl) (by show 0 < 1; decide) fun H5 e5 => ⟨_, rfl, ((e3.trans e4).trans e5).mut hp, by rw [upd_same]; rfl⟩
      · have hx1 : x = 1 := by have := of_decide_eq_false hb; omega
        subst hx1
        refine s_setL (l := p) (xs := iv [c0]) (j := 0) (e4 _ _ h3) (ev_add (i := (c0 : Int)) (j := 1) (ev_op (ev_var (v := .ref p) rfl) (ev_var (v := .int ((0 : Nat) : Int)) rfl) (rv_ixL (sq_of (e4 _ _ h3)) (atI_nat (j := 0) rfl))) ev_c) (ev_var rfl) (ev_var rfl) (by show 0 < 1; decide) fun H5 e5 => ⟨_, rfl, ((e3.trans e4).trans e5).mut hp, by rw [upd_same]; rfl⟩
    · rintro σ3 H3 ⟨z, rfl, e3, h3⟩
      rw [Int.toNat_natCast] at h3
      have : (if (if x = 0 then 0 else 1 : Nat) = 0 then c else MS.app x c) = MS.app x c := by
        by_cases hx0 : x = 0
        · subst hx0; rfl
        · rw [if_neg hx0, if_neg (by decide)]
      rw [this] at h3
      exact sr_ret (er_tuple (ds := (MS.app x c).map encN) (er_varR (i := 2) (v := .ref p) rfl (monoL _) ⟨p, _, rfl, h3, iv_reps _⟩)) fun u H4 e4 r => k u H4 (e3.trans e4) r
end
end MW
end
section
set_option Elab.async false
set_option linter.all false
set_option maxRecDepth 100000
set_option maxHeartbeats 4000000
/-! What a word costs: cost. -/
namespace MS
theorem fo_more {m : Mach} {a : Nat} {S S' : (Cfg × Nat) → (Nat × Nat × Nat × Nat) → Prop} {fs : List (Cfg × Nat)} (h : FoundOk m a S fs) (e : ∀ p st, S p st ↔ S' p st) : FoundOk m a S' fs := by
  refine ⟨fun q t hq => ?_, fun p v st q t hs => h.2 p v st q t ((e _ _).mpr hs)⟩
  obtain ⟨p, v, st, hs, h1⟩ := h.1 q t hq
  exact ⟨p, v, st, (e _ _).mp hs, h1⟩
theorem fo_skip {m : Mach} {a : Nat} {S : (Cfg × Nat) → (Nat × Nat × Nat × Nat) → Prop} {fs : List (Cfg × Nat)} {p : Cfg} {v : Nat} {st : Nat × Nat × Nat × Nat} (h : FoundOk m a S fs) (hn : ¬ (st.1 = a ∧ st.2.1 = p.1)) : FoundOk m a (fun x y => S x y ∨ (x = (p, v) ∧ y = st)) fs := by
  refine ⟨fun q t hq => ?_, fun p' v' st' q t hs hst => ?_⟩
  · obtain ⟨p', v', st', hs, h1⟩ := h.1 q t hq
    exact ⟨p', v', st', .inl hs, h1⟩
  · rcases hs with hs | ⟨e1, e2⟩
    · exact h.2 p' v' st' q t hs hst
    · cases e1; subst e2
      exact absurd ⟨hst.1, hst.2.1⟩ hn
theorem fo_keep {m : Mach} {a : Nat} {S : (Cfg × Nat) → (Nat × Nat × Nat × Nat) → Prop} {fs : List (Cfg × Nat)} {p : Cfg} {v : Nat} {st : Nat × Nat × Nat × Nat} {q : Cfg} {t t0 : Nat} (h : FoundOk m a S fs) (hs : Step m a p v st q t) (h0 : (q, t0) ∈ fs) (hle : t0 ≤ t) : FoundOk m a (fun x y => S x y ∨ (x = (p, v) ∧ y = st)) fs := by
  refine ⟨fun q t hq => ?_, fun p' v' st' q' t' hs' hst => ?_⟩
  · obtain ⟨p', v', st', hs, h1⟩ := h.1 q t hq
    exact ⟨p', v', st', .inl hs, h1⟩
  · rcases hs' with hs' | ⟨e1, e2⟩
    · exact h.2 p' v' st' q' t' hs' hst
    · cases e1; subst e2
      obtain ⟨_, _, h3, h4⟩ := hst
      obtain ⟨_, _, g3, g4⟩ := hs
      rw [← g3] at h3
      subst h3
      rw [← g4] at h4
      subst h4
      exact ⟨t0, h0, hle⟩
theorem fo_put {m : Mach} {a : Nat} {S : (Cfg × Nat) → (Nat × Nat × Nat × Nat) → Prop} {fs : List (Cfg × Nat)} {p : Cfg} {v : Nat} {st : Nat × Nat × Nat × Nat} {q : Cfg} {t : Nat} (h : FoundOk m a S fs) (hs : Step m a p v st q t) (h0 : ∀ t0, (q, t0) ∈ fs → t ≤ t0) : FoundOk m a (fun x y => S x y ∨ (x = (p, v) ∧ y = st)) (putW fs q t) := by
  refine ⟨fun q' t' hq => ?_, fun p' v' st' q' t' hs' hst => ?_⟩
  · rcases putW_mem.mp hq with ⟨rfl, rfl⟩ | ⟨_, hq⟩
    · exact ⟨p, v, st, .inr ⟨rfl, rfl⟩, hs⟩
    · obtain ⟨p', v', st', hs, h1⟩ := h.1 q' t' hq
      exact ⟨p', v', st', .inl hs, h1⟩
  · rcases hs' with hs' | ⟨e1, e2⟩
    · obtain ⟨t1, h1, h2⟩ := h.2 p' v' st' q' t' hs' hst
      by_cases hq : q' = q
      · subst hq
        exact ⟨t, putW_mem.mpr (.inl ⟨rfl, rfl⟩), Nat.le_trans (h0 t1 h1) h2⟩
      · exact ⟨t1, putW_mem.mpr (.inr ⟨hq, h1⟩), h2⟩
    · cases e1; subst e2
      obtain ⟨_, _, h3, h4⟩ := hst
      obtain ⟨_, _, g3, g4⟩ := hs
      rw [← g3] at h3
      subst h3
      rw [← g4] at h4
      subst h4
      exact ⟨_, putW_mem.mpr (.inl ⟨rfl, rfl⟩), Nat.le_refl _⟩
end MS
namespace MW
open PySem PySem.Spec PyProof.Rows L2 Evl
open MS (Val Tab Mach Line Cfg putW)
section
variable {P : Program} {w : World} {K : PySem.W.Frag} {mg : PySem.Str → Option Value} {base : Heap}
def encW (ws : List (Cfg × Nat)) : List (D × V) := ws.map fun p => (encC p.1, V.int (p.2 : Int))
theorem encW_any (q : Cfg) : ∀ ws : List (Cfg × Nat), ((encW ws).any fun kv => decide (kv.1 = encC q)) = ws.any (fun p => decide (p.1 = q))
  | [] => rfl
  | p :: ws => by
    show (decide (encC p.1 = encC q) || (encW ws).any _) = (decide (p.1 = q) || ws.any _)
    rw [encW_any q ws]
    have : decide (encC p.1 = encC q) = decide (p.1 = q) := decide_eq_decide.mpr ⟨encC_inj, fun h => by rw [h]⟩
    rw [this]
theorem encW_put (ws : List (Cfg × Nat)) (q : Cfg) (t : Nat) : putK (encW ws) (encC q) (.int (t : Int)) = encW (putW ws q t) := by
  unfold putK putW
  rw [encW_any]
  by_cases h : (ws.any fun p => decide (p.1 = q)) = true
  · rw [if_pos h, if_pos h]
    unfold encW
    rw [List.map_map, List.map_map]
    refine List.map_congr_left fun p _ => ?_
    show (if encC p.1 = encC q then (encC p.1, V.int (t : Int)) else (encC p.1, V.int (p.2 : Int))) = _
    by_cases hq : p.1 = q
    · rw [if_pos (by rw [hq])]
      show _ = (encC (if p.1 = q then (p.1, t) else p).1, V.int ((if p.1 = q then (p.1, t) else p).2 : Int))
      rw [if_pos hq]
    · rw [if_neg (fun z => hq (encC_inj z))]
      show _ = (encC (if p.1 = q then (p.1, t) else p).1, V.int ((if p.1 = q then (p.1, t) else p).2 : Int))
      rw [if_neg hq]
  · rw [if_neg h, if_neg h]
    unfold encW
    rw [List.map_append]
    rfl
theorem encW_some {ws : List (Cfg × Nat)} (h : (ws.map (·.1)).Nodup) {p : Cfg} {v : Nat} (hp : (p, v) ∈ ws) : valV (encW ws) (encC p) = some (.int (v : Int)) := by
  induction ws with
  | nil => cases hp
  | cons x ws ih =>
    rw [List.map_cons, List.nodup_cons] at h
    show valV ((encC x.1, V.int (x.2 : Int)) :: encW ws) (encC p) = _
    rcases List.mem_cons.mp hp with e | e
    · rw [← e]; exact valV_pos rfl
    · rw [valV_neg (fun z => h.1 (List.mem_map.mpr ⟨_, e, (encC_inj z).symm⟩))]
      exact ih h.2 e
theorem encW_none {ws : List (Cfg × Nat)} {q : Cfg} (h : ∀ t, (q, t) ∉ ws) : valV (encW ws) (encC q) = none := by
  have := valV_any (encC q) (encW ws)
  rw [encW_any] at this
  have h2 : (ws.any fun p => decide (p.1 = q)) = false := by
    cases hh : (ws.any fun p => decide (p.1 = q))
    · rfl
    · obtain ⟨x, hx, hq⟩ := List.any_eq_true.mp hh
      have := of_decide_eq_true hq
      exact absurd (show (q, x.2) ∈ ws by rw [← this]; exact hx) (h x.2)
  rw [h2] at this
  cases hv : valV (encW ws) (encC q) with
  | none => rfl
  | some x => rw [hv] at this; cases this
/-! ### more evaluations -/
theorem ev_nget {σ : L2.St} {H : Hp} {td ty : TE} {d : Addr} {kvs : List (D × V)} {ks : List D} {v : V} (h : Ev td σ H (.ref d)) (g : NDR P w H d kvs) (hk : EvR ty σ H (RepR (.tup ks))) (hd : (NestedKey.tup ks).depth ≤ 8) (hv : valV kvs (.tup ks) = some v) : Ev (tNGet P w td ty) σ H v := fun H1 e Q q =>
  h H1 e _ fun H2 e2 => hk H2 (e.trans e2) _ fun y H3 e3 r => ⟨d, kvs, ks, v, rfl, g.ex ((e.trans e2).trans e3), r, hd, hv, q H3 (e2.trans e3)⟩
theorem ev_nget2 {σ : L2.St} {H : Hp} {td ty tx : TE} {d : Addr} {kvs : List (D × V)} {ks : List D} {z : V} (h : Ev td σ H (.ref d)) (g : NDR P w H d kvs) (hk : EvR ty σ H (RepR (.tup ks))) (hd : (NestedKey.tup ks).depth ≤ 8) (hz : Ev tx σ H z) : Ev (tNGet2 P w td ty tx) σ H ((valV kvs (.tup ks)).getD z) := fun H1 e Q q =>
  h H1 e _ fun H2 e2 => ⟨d, rfl, ⟨kvs, g.ex (e.trans e2)⟩, hk H2 (e.trans e2) _ fun y H3 e3 r => hz H3 ((e.trans e2).trans e3) _ fun H4 e4 => ⟨kvs, ks, g.ex (((e.trans e2).trans e3).trans e4), r.ex e4, hd, q H4 ((e2.trans e3).trans e4)⟩⟩
theorem er_listT {σ : L2.St} {H : Hp} {te : TE} {ds : List D} (h : EvR te σ H (RepR (.tup ds))) : EvR (tCB (rListS K) (tCons te tNil)) σ H (LRep ds) := fun H1 e Q q => h H1 e _ fun v H2 e2 r => by
  obtain ⟨a, vs, rfl, ha, rv⟩ := rep_tup r
  exact ⟨a, vs, rfl, .inr (SqT.of ha), fun l hl => q _ _ (e2.trans (Ex.new hl)) ⟨l, vs, rfl, upd_same, rv.ex (Ex.new hl)⟩⟩
theorem max_of {v : Nat} {c : List Nat} (hc : c.length ≤ 1) : ∀ m : Int, m ∈ ((v : Int) :: c.map fun n : Nat => (n : Int)) → (∀ y, y ∈ ((v : Int) :: c.map fun n : Nat => (n : Int)) → y ≤ m) → m = ((max v (c.headD 0) : Nat) : Int) := by
  intro m hm hy
  match c, hc with
  | [], _ =>
    have : m = (v : Int) := by simpa using hm
    rw [this]
    simp
  | [x], _ =>
    have h1 := hy (v : Int) (by simp)
    have h2 := hy (x : Int) (by simp)
    have h3 : m = (v : Int) ∨ m = (x : Int) := by simpa using hm
    show m = ((max v x : Nat) : Int)
    rcases h3 with h3 | h3 <;> omega
theorem qf_lst {α : Type} {σ : L2.St} {H H0 : Hp} {De : Ends} {tu tz : TS} {g : TG} {l : List α} {en : α → D} {tt : TE} (e : Ex H0 H) (ht : EvP tt σ H H0 (LRep (l.map en))) (Pv : Nat → L2.St → Hp → Prop) (h0 : Pv 0 σ H) (hk : ∀ i σ' H', Pv i σ' H' → Ex H0 H')
    (hs : ∀ i a v σ' H', l[i]? = some a → Rep H' (en a) v → Pv i σ' H' → g v σ' H' fun σ2 H2 => tu { De with nx := Pv (i + 1), ct := Pv (i + 1), bk := tz De } σ2 H2) (hd : ∀ σ' H', Pv l.length σ' H' → tz De σ' H') : tSeq (tFor (iList K tt) g tu) tz De σ H :=
  fr_lst (De := { De with nx := tz De }) e ht Pv h0 hk hs hd
theorem q_new {σ : L2.St} {H : Hp} {De : Ends} {tz : TS} {i : Nat} (k : ∀ p, H p = none → tz De (σ.set i (some (.ref p))) (upd H p (NDO P w p []))) : tSeq (tAsg (tNNew P w) (gName i)) tz De σ H := fun p hp => k p hp
theorem app_le {x : Nat} {c : List Nat} : (MS.app x c).headD 0 ≤ c.headD 0 + 1 := by
  unfold MS.app
  split
  · omega
  · split
    · exact Nat.le_refl _
    · simp
/-! ### cost -/
abbrev sCo : Stmt := topS 44
def spCo : Sp := fun vs H Q _ => ∃ (m : Mach) (word : List Nat) (v1 v2 : V), vs = [v1, v2] ∧ m.WF ∧ m.counters ≤ 1 ∧ word.length ≤ 1000 ∧ Rep H (encM m) v1 ∧ LRep (word.map encN) v2 H ∧ RetR (fun u _ => ∃ o : Option Nat, MS.CostIs m word o ∧ u = (match o with | none => V.non | some v => .int (v : Int))) H Q
theorem scCo : FnScope ["_law_machine_here", "_law_word_here", "_law_ways", "_law_state", "_law_letter_here", "_law_found", "_law_key", "_law_step", "_law_after", "_law_total", "_law_costs"] ["_law_machine_here", "_law_word_here"] (defScope sCo) := ⟨rfl, rfl, rfl, by decide +kernel, rfl, by decide +kernel, by decide +kernel⟩
theorem ok_co {fA f : Addr} {dA fd : FuncData} (F : Fun K "_law_cost" "_law_cost" sCo f fd) (T : Txt K mg) (cLa : Cal P w K mg base CX0 1 "_law_applied" ["_law_action", "_law_counters"] spAp fA dA) : FnOk P w K mg base CX0 2 f fd ["_law_machine_here", "_law_word_here"] spCo := by
  refine F.ok scCo (fun vs H Q E h => ?_) (fun cdv A outer s H vs Q E hr h => ?_)
  · obtain ⟨m, word, v1, v2, rfl, _⟩ := h
    rfl
  · obtain ⟨m, word, v1, v2, rfl, W, hc, hwl, r1, r2, k⟩ := h
    refine ⟨_, (pss_cons (ps_set (i := 2) scCo.nd rfl (by first | exact Or.inl rfl | exact Or.inr rfl) pe_nnew)
      (pss_cons (ps_for PassesOwn.never rfl (pi_tup (pe_ix ix_tup (pv 0) pe_int (fun _ _ => rfl))) (pg_name (i := 3) scCo.nd rfl (by first | exact Or.inl rfl | exact Or.inr rfl)) (pss_one (ps_nput hr.units (pv 2) (pe_tup (pa_cons (pv 3) (pa_cons (pe_op op_rep1 (pe_tup (pa_cons pe_int pa_nil)) (pe_ix ix_tup (pv 0) pe_int (fun _ _ => rfl))) pa_nil))) pe_int rfl)))
      (pss_cons (ps_for PassesOwn.never rfl (pi_list (pv 1)) (pg_name (i := 4) scCo.nd rfl (by first | exact Or.inl rfl | exact Or.inr rfl)) (pss_cons (ps_set (i := 5) scCo.nd rfl (by first | exact Or.inl rfl | exact Or.inr rfl) pe_nnew)
      (pss_cons (ps_lock (ps_for PassesOwn.never rfl (pi_keysN (pv 2)) (pg_name (i := 6) scCo.nd rfl (by first | exact Or.inl rfl | exact Or.inr rfl)) (pss_one (ps_for PassesOwn.never rfl (pi_tup (pe_ix ix_tup (pv 0) pe_int (fun _ _ => rfl))) (pg_name (i := 7) scCo.nd rfl (by first | exact Or.inl rfl | exact Or.inr rfl)) (pss_one (ps_if (PW.pt (pw_and (pt_cmpR op_eq (pe_ix ix_tup (pv 7) pe_int (fun _ _ => rfl)) (pv 4) (nomark _)) (pw_and1 (pt_cmpR op_eq (pe_ix ix_tup (pv 7) pe_int (fun _ _ => rfl)) (pe_ix ix_tup (pv 6) pe_int (fun _ _ => rfl)) (nomark _))))) (pss_cons (ps_set (i := 8) scCo.nd rfl (by first | exact Or.inl rfl | exact Or.inr rfl) (pe_cal cLa hr pass0 (pa_cons (pe_ix ix_tup (pv 7) pe_int (fun _ _ => rfl)) (pa_cons (pe_ix ix_tup (pv 6) pe_int (fun _ _ => rfl)) pa_nil))))
      (pss_cons (ps_set (i := 9) scCo.nd rfl (by first | exact Or.inl rfl | exact Or.inr rfl) (pe_callB (cr_max rfl) (by rfl) T.max (by decide +kernel) (pa_cons (pe_op op_cat (pe_lst (pa_cons (pe_nget hr.units (pv 2) (pv 6) (fun _ _ => rfl)) pa_nil)) (pe_callTy call_list_of (by rfl) T.list (by decide +kernel) (pa_cons (pv 8) pa_nil))) pa_nil)))
      (pss_one (ps_if (pt_cmpR op_lt (pv 9) (pe_nget2 hr.units (pv 5) (pe_tup (pa_cons (pe_ix ix_tup (pv 7) pe_int (fun _ _ => rfl)) (pa_cons (pv 8) pa_nil))) pe_int ⟨rfl, rfl, rfl, rfl⟩) (nomark _)) (pss_one (ps_nput hr.units (pv 5) (pe_tup (pa_cons (pe_ix ix_tup (pv 7) pe_int (fun _ _ => rfl)) (pa_cons (pv 8) pa_nil))) (pv 9) rfl)) pss_nil)))) pss_nil))))))
      (pss_one (ps_set (i := 2) scCo.nd rfl (by first | exact Or.inl rfl | exact Or.inr rfl) (pv 5))))))
      (pss_cons (ps_lock (ps_setLc (i := 10) (own := [("_law_key", 6)]) (tt := (tTest (tOp (rIn K false) (tOp (rIxT K) (tVar 6) (tC (.int 0))) (tOp (rIxT K) (tVar 0) (tC (.int 5)))))) (te := (tNGet P w (tVar 2) (tVar 6))) rfl scCo.nd rfl rfl rfl (pi_keysN (pv 2)) (blkOk_by (N := ["_law_machine_here", "_law_word_here", "_law_ways", "_law_state", "_law_letter_here", "_law_found", "_law_key", "_law_step", "_law_after", "_law_total", "_law_costs"]) (sc := defScope sCo) (own := [("_law_key", 6)]) (by decide +kernel)) (fun _ _ _ _ _ => (pg_name (i := 6) scCo.nd rfl (by first | exact Or.inl rfl | exact Or.inr rfl))) (fun _ _ _ _ _ => (pts_one (pt_cmpR op_in_seq (pe_ix ix_tup (pv 6) pe_int (fun _ _ => rfl)) (pe_ix ix_tup (pv 0) pe_int (fun _ _ => rfl)) (by rfl)))) (fun _ _ _ _ _ => (pe_nget hr.units (pv 2) (pv 6) (fun _ _ => rfl)))))
      (pss_cons (ps_if (pt_cmpR op_eq (pe_callB call_len_seq (by rfl) T.len PySem.boot_len (pa_cons (pv 10) pa_nil)) pe_int (nomark _)) (pss_one (ps_ret pe_non)) pss_nil)
      (pss_one (ps_ret (pe_callB (cr_min rfl) (by rfl) T.min (by decide +kernel) (pa_cons (pv 10) pa_nil))))))))), ?_⟩
    have hfl := W.fl
    have ez : encTup (MS.zeros m) = .tup (List.replicate m.counters (.num 0)) := by unfold encTup MS.zeros; rw [List.map_replicate]; rfl
    refine fun pw hpw => ?_
    have e0 : Ex H (upd H pw (NDO P w pw [])) := Ex.new hpw
    -- the starts
    refine qf_tup (De := { nx := _, rt := Q }) (H0 := H) (l := m.firsts) (en := encN) e0 (ep_ix (n := 4) (d := .tup (m.firsts.map encN)) e0 (ep_var (i := 0) rfl r1) rfl) (fun i σ' H' => ∃ (x : Option V) (ws : List (Cfg × Nat)), σ' = [some v1, some v2, some (.ref pw), x, none, none, none, none, none, none, none] ∧ Ex H H' ∧ NDS P w H' pw (encW ws) ∧ (∀ p v, (p, v) ∈ ws ↔ p.1 ∈ m.firsts.take i ∧ p.2 = MS.zeros m ∧ v = 0) ∧ (ws.map (·.1)).Nodup ∧ ws.length ≤ i) ⟨none, [], rfl, e0, ⟨[], upd_same, rfl, fun t ht => (by cases ht)⟩, fun p v => ⟨fun h => (by cases h), fun h => (by cases h.1)⟩, List.nodup_nil, Nat.le_refl _⟩ (fun _ _ _ h => by obtain ⟨_, _, _, h, _⟩ := h; exact h) ?_ ?_
    · rintro i f v σ1 H1 hi rv ⟨x, ws, rfl, e1, nd, hmem, hnd, hwsl⟩
      have hv : v = .int (f : Int) := rep_num rv
      subst hv
      have hil : i < m.firsts.length := (List.getElem?_eq_some_iff.mp hi).1
      show sNPut _ _ _ _ _ _ ([some v1, some v2, some (.ref pw), some (.int (f : Int)), none, none, none, none, none, none, none] : L2.St) H1
      refine ⟨_, rfl, ?_⟩
      have et : EvR (tTup (tCons (tVar 3) (tCons (tOp (rRep1 K) (tTup (tCons (tC (.int 0)) tNil)) (tOp (rIxT K) (tVar 0) (tC (.int 1)))) tNil))) [some v1, some v2, some (.ref pw), some (.int (f : Int)), none, none, none, none, none, none, none] H1 (RepR (encC (f, MS.zeros m))) :=
        er_tup (ds := [encN f, encTup (MS.zeros m)]) (ea1 (er_int (ev_var (i := 3) rfl)) (monoRep _) (ea1 (by rw [ez]; exact er_rep0 (er_tup (ds := [.num 0]) (ea1 er_c (monoRep _) ea0) (by show 1 ≤ 100000; decide)) hc (er_num (er_ixn (er_var (i := 0) rfl (r1.ex e1)) ev_c rfl))) (monoRep _) ea0)) (by show 2 ≤ 100000; decide)
      refine et H1 (Ex.refl _) _ fun yv H2 e2 ry => ?_
      have nd2 : NDS P w H2 pw (encW ws) := by obtain ⟨tn, g1, g2, g3⟩ := nd; exact ⟨tn, e2 _ _ g1, g2, g3.tx (TEx.of e2)⟩
      refine ⟨pw, encW ws, _, rfl, nd2, ry, by have := (fit_C (f, MS.zeros m)).2; show (encC (f, MS.zeros m)).depth ≤ 8; omega, Nat.lt_of_le_of_lt (show (encW ws).length ≤ 3 by unfold encW; rw [List.length_map]; omega) (by decide), fun ob txo nd3 => ?_⟩
      have nd3 : NDS P w (upd H2 pw ob) pw (putK (encW ws) (encC (f, MS.zeros m)) (.int ((0 : Nat) : Int))) := nd3
      rw [encW_put] at nd3
      refine ⟨_, putW ws (f, MS.zeros m) 0, rfl, (e1.trans e2).mut hpw, nd3, fun p v => ?_, MS.putW_keys hnd, ?_⟩
      · have etk : m.firsts.take (i + 1) = m.firsts.take i ++ [f] := by rw [List.take_add_one, hi]; rfl
        rw [MS.putW_mem, hmem, etk, List.mem_append, List.mem_singleton]
        constructor
        · rintro (⟨rfl, rfl⟩ | ⟨_, h1, h2, h3⟩)
          · exact ⟨.inr rfl, rfl, rfl⟩
          · exact ⟨.inl h1, h2, h3⟩
        · rintro ⟨h1, h2, h3⟩
          by_cases hp : p = (f, MS.zeros m)
          · exact .inl ⟨hp, h3⟩
          · refine .inr ⟨hp, ?_, h2, h3⟩
            rcases h1 with h1 | h1
            · exact h1
            · exact absurd (Prod.ext h1 h2) hp
      · have : (putW ws (f, MS.zeros m) 0).length ≤ ws.length + 1 := by
          unfold putW; split
          · rw [List.length_map]; omega
          · rw [List.length_append]; exact Nat.le_refl _
        omega
    · rintro σ1 H1 ⟨x, ws, rfl, e1, nd, hmem, hnd, hwsl⟩
      rw [List.take_length] at hmem
      have hW0 : MS.WaysOk m [] ws := fun p kk => by
        rw [MS.runTo_nil]
        constructor
        · rintro ⟨h1, h2⟩; exact ⟨0, (hmem p 0).mpr ⟨h1, h2, rfl⟩, Nat.zero_le _⟩
        · rintro ⟨v, h1, _⟩; exact ⟨((hmem p v).mp h1).1, ((hmem p v).mp h1).2.1⟩
      have hS0 : MS.Sane m 0 ws := ⟨hnd, fun p v hpv => by
        obtain ⟨h1, h2, h3⟩ := (hmem p v).mp hpv
        refine ⟨W.fi p.1 h1, by rw [h2]; simp [MS.zeros], ?_, by omega⟩
        rw [h2]
        unfold MS.zeros
        cases m.counters <;> simp [List.replicate]⟩
      -- the letters
      refine qf_lst (De := { nx := _, rt := Q }) (H0 := H) (l := word) (en := encN) (g := gName 4) e1 (ep_var (i := 1) rfl r2) (fun n σ' H' => ∃ (pw : Addr) (a3 a4 a5 a6 a7 a8 a9 : Option V) (ws : List (Cfg × Nat)), σ' = [some v1, some v2, some (.ref pw), a3, a4, a5, a6, a7, a8, a9, none] ∧ Ex H H' ∧ H pw = none ∧ NDS P w H' pw (encW ws) ∧ MS.WaysOk m (word.take n) ws ∧ MS.Sane m n ws) ⟨pw, _, _, _, _, _, _, _, ws, rfl, e1, hpw, nd, hW0, hS0⟩ (fun _ _ _ h => by obtain ⟨_, _, _, _, _, _, _, _, _, _, h, _⟩ := h; exact h) ?_ ?_
      · clear hW0 hS0 hmem hnd hwsl nd e1 e0 hpw
        rintro n a v σ2 H2 hi rv ⟨pw, a3, a4, a5, a6, a7, a8, a9, ws, rfl, e2, hpw, nd, hW, hS⟩
        have hv : v = .int (a : Int) := rep_num rv
        subst hv
        have hnl : n < word.length := (List.getElem?_eq_some_iff.mp hi).1
        show tSeq _ _ _ ([some v1, some v2, some (.ref pw), a3, some (.int (a : Int)), a5, a6, a7, a8, a9, none] : L2.St) H2
        refine q_new (P := P) (w := w) fun pf hpf => ?_
        obtain ⟨tn, hn1, hn2, hn3⟩ := nd
        have hwf : pw ≠ pf := fun z => by subst z; rw [hn1] at hpf; cases hpf
        have hpf0 : H pf = none := fresh_back e2 hpf
        have e3 : Ex H2 (upd H2 pf (NDO P w pf [])) := Ex.new hpf
        refine ⟨pw, NDO P w pw tn, e3 _ _ hn1, True.intro, fun od => ?_⟩
        have eB : Ex H (upd (upd H2 pf (NDO P w pf [])) pw (.frz od (NDO P w pw tn))) := (e2.trans e3).mut hpw
        have txB : TEx H2 (upd (upd H2 pf (NDO P w pf [])) pw (.frz od (NDO P w pw tn))) := (TEx.of e3).trans (TEx.put fun ys z => by rw [e3 _ _ hn1] at z; cases z)
        have hBw : upd (upd H2 pf (NDO P w pf [])) pw (.frz od (NDO P w pw tn)) pw = some (.frz od (NDO P w pw tn)) := upd_same
        have hBf : upd (upd H2 pf (NDO P w pf [])) pw (.frz od (NDO P w pw tn)) pf = some (NDO P w pf []) := by rw [upd_ne hwf.symm]; exact upd_same
        have kB : KeysIn (upd (upd H2 pf (NDO P w pf [])) pw (.frz od (NDO P w pw tn))) tn := hn3.tx txB
        generalize hBdef : upd (upd H2 pf (NDO P w pf [])) pw (.frz od (NDO P w pw tn)) = B at eB txB hBw hBf kB ⊢
        have txM : TEx B (Mk [pf] B) := fun x xs h => by
          unfold Mk
          rw [if_neg]
          · exact h
          · intro hm
            have : x = pf := by simpa using hm
            subst this
            rw [hBf] at h; cases h
        have toH : ∀ {H'}, Ex (Mk [pf] B) H' → Ex H H' := fun {H'} e x o h => e x o (by
          unfold Mk
          rw [if_neg]
          · exact eB _ _ h
          · intro hm
            have : x = pf := by simpa using hm
            subst this
            rw [hpf0] at h; cases h)
        have toW : ∀ {H'}, Ex (Mk [pf] B) H' → H' pw = some (.frz od (NDO P w pw tn)) := fun {H'} e => e _ _ (by unfold Mk; rw [if_neg (by simp; exact hwf)]; exact hBw)
        have ndW : ∀ {H'}, Ex (Mk [pf] B) H' → NDR P w H' pw (encW ws) := fun {H'} e => ⟨tn, .inr ⟨od, toW e⟩, hn2, kB.tx (txM.trans (TEx.of e))⟩
        have mf0 : Mk [pf] B pf = none := by unfold Mk; rw [if_pos (by simp)]
        have key : ∀ (i : Nat) t, tn[i]? = some t → ∃ p v, ws[i]? = some (p, v) ∧ ∀ {H'}, Ex (Mk [pf] B) H' → Rep H' (encC p) (.ref t.2.1) := fun i t ht => by
          have h1 : (flat tn)[i]? = some (t.1, t.2.2) := by unfold flat; rw [List.getElem?_map, ht]; rfl
          rw [hn2] at h1
          unfold encW at h1
          rw [List.getElem?_map] at h1
          obtain ⟨pv, hpv, he⟩ := Option.map_eq_some_iff.mp h1
          cases he' : pv with
          | mk p v =>
            subst he'
            have e1 : encC p = t.1 := (Prod.mk.inj he).1
            refine ⟨p, v, hpv, fun {H'} e => ?_⟩
            have := ((kB t (List.mem_of_getElem? ht)).1.tx (txM.trans (TEx.of e)))
            rw [← e1] at this
            exact this
        have hlenW : tn.length = ws.length := by
          have := congrArg List.length hn2
          unfold flat encW at this
          rw [List.length_map, List.length_map] at this
          exact this
        let S : Nat → Nat → (Cfg × Nat) → (Nat × Nat × Nat × Nat) → Prop := fun i j pv st => (pv ∈ ws.take i ∧ st ∈ m.steps) ∨ (ws[i]? = some pv ∧ st ∈ m.steps.take j)
        refine ⟨.ref pw, rfl, pw, od, tn, rfl, hBw, for_keysN (fun i σ' H' => ∃ (b6 b7 b8 b9 : Option V) (fs : List (Cfg × Nat)), σ' = [some v1, some v2, some (.ref pw), a3, some (.int (a : Int)), some (.ref pf), b6, b7, b8, b9, none] ∧ Ex (Mk [pf] B) H' ∧ NDS P w H' pf (encW fs) ∧ MS.FoundOk m a (S i 0) fs ∧ MS.Sane m (n + 1) fs) ⟨_, _, _, _, [], rfl, mk_ex _ _, ⟨[], hBf, rfl, fun t ht => (by cases ht)⟩, ⟨fun q t h => (by cases h), fun p v st q t hs => ?_⟩, List.nodup_nil, fun p v h => (by cases h)⟩ (fun i σ' H' _ h => by obtain ⟨_, _, _, _, _, _, h, _⟩ := h; exact toW h) ?_ ?_⟩
        · rcases hs with ⟨h, _⟩ | ⟨_, h⟩
          · cases h
          · cases h
        · rintro i t σ3 H3 ht ⟨b6, b7, b8, b9, fs, rfl, e3', ndf, hfo, hsa⟩
          obtain ⟨p, v, hpv, hkey⟩ := key i t ht
          have hpm : (p, v) ∈ ws := List.mem_of_getElem? hpv
          have hsp := hS.2 p v hpm
          show tFor (iTup K (tOp (rIxT K) (tVar 0) (tC (.int 3)))) (gName 7) _ _ ([some v1, some v2, some (.ref pw), a3, some (.int (a : Int)), some (.ref pf), some (.ref t.2.1), b7, b8, b9, none] : L2.St) H3
          refine fr_tup (H0 := H) (l := m.steps) (en := encS) (toH e3') (ep_ix (n := 3) (d := .tup (m.steps.map encS)) (toH e3') (ep_var (i := 0) rfl r1) rfl) (fun j σ' H' => ∃ (b7 b8 b9 : Option V) (fs : List (Cfg × Nat)), σ' = [some v1, some v2, some (.ref pw), a3, some (.int (a : Int)), some (.ref pf), some (.ref t.2.1), b7, b8, b9, none] ∧ Ex (Mk [pf] B) H' ∧ NDS P w H' pf (encW fs) ∧ MS.FoundOk m a (S i j) fs ∧ MS.Sane m (n + 1) fs) ⟨_, _, _, fs, rfl, e3', ndf, hfo, hsa⟩ (fun _ _ _ h => by obtain ⟨_, _, _, _, _, h, _⟩ := h; exact toH h) ?_ ?_
          · rintro j st u σ4 H4 hj ru ⟨c7, c8, c9, fs, rfl, e4, ndf, hfo, hsa⟩
            have hstm : st ∈ m.steps := List.mem_of_getElem? hj
            have hWs := W.st st hstm
            have etk : m.steps.take (j + 1) = m.steps.take j ++ [st] := by rw [List.take_add_one, hj]; rfl
            have Sn : ∀ pv s, (S i j pv s ∨ (pv = (p, v) ∧ s = st)) ↔ S i (j + 1) pv s := fun pv s => by
              constructor
              · rintro ((h | ⟨h1, h2⟩) | ⟨rfl, rfl⟩)
                · exact .inl h
                · exact .inr ⟨h1, by rw [etk]; exact List.mem_append_left _ h2⟩
                · exact .inr ⟨hpv, by rw [etk]; exact List.mem_append_right _ (List.mem_singleton.mpr rfl)⟩
              · rintro (h | ⟨h1, h2⟩)
                · exact .inl (.inl h)
                · rw [etk] at h2
                  rcases List.mem_append.mp h2 with h2 | h2
                  · exact .inl (.inr ⟨h1, h2⟩)
                  · rw [hpv] at h1
                    exact .inr ⟨(Option.some.inj h1).symm, List.mem_singleton.mp h2⟩
            show tIfS _ _ _ _ ([some v1, some v2, some (.ref pw), a3, some (.int (a : Int)), some (.ref pf), some (.ref t.2.1), some u, c8, c9, none] : L2.St) H4
            have kr : ∀ {H'}, Ex H4 H' → Rep H' (encC p) (.ref t.2.1) := fun e => (hkey e4).ex e
            refine s_when (b := decide (st.1 = a) && decide (st.2.1 = p.1)) (et_and (et_is (et_test (ev_eqI (er_num (er_ixn (n := 0) (d := encN st.1) (er_var (i := 7) rfl ru) ev_c rfl)) (ev_var (v := .int (a : Int)) rfl))) (decide_eq_decide.mpr ⟨fun h => by omega, fun h => by omega⟩)) fun _ => et_is (et_test (ev_eqI (er_num (er_ixn (n := 1) (d := encN st.2.1) (er_var (i := 7) rfl ru) ev_c rfl)) (er_num (er_ixn (n := 0) (d := encN p.1) (ks := [encN p.1, encTup p.2]) (er_var (i := 6) rfl (kr (Ex.refl _))) ev_c rfl)))) (decide_eq_decide.mpr ⟨fun h => by omega, fun h => by omega⟩)) (fun hb H5 e5 => ?_) fun hb H5 e5 => ?_
            · have hb' : st.1 = a ∧ st.2.1 = p.1 := by simpa using hb
              have e45 : Ex (Mk [pf] B) H5 := e4.trans e5
              have ndf5 : NDS P w H5 pf (encW fs) := by obtain ⟨tm, g1, g2, g3⟩ := ndf; exact ⟨tm, e5 _ _ g1, g2, g3.tx (TEx.of e5)⟩
              refine qr_asg (R := RepR (encTup (MS.app st.2.2.2 p.2))) ?_ fun u8 H6 e6 r8 => ?_
              · exact er_ap (by rw [hsp.2.1]; exact hWs.2.2.2) (by rw [hsp.2.1]; exact hc) (er_num (er_ixn (n := 3) (d := encN st.2.2.2) (er_var (i := 7) rfl (ru.ex e5)) ev_c rfl)) (er_ixn (n := 1) (d := encTup p.2) (ks := [encN p.1, encTup p.2]) (er_var (i := 6) rfl (kr e5)) ev_c rfl)
              show tSeq _ _ _ ([some v1, some v2, some (.ref pw), a3, some (.int (a : Int)), some (.ref pf), some (.ref t.2.1), some u, some u8, c9, none] : L2.St) H6
              have hal : (MS.app st.2.2.2 p.2).length = m.counters := MS.app_len hc hWs.2.2.2 hsp.2.1
              generalize hq : MS.app st.2.2.2 p.2 = q2 at r8 hal
              refine q_asg (v := .int ((max v (q2.headD 0) : Nat) : Int)) (ev_max (ns := (v : Int) :: q2.map fun n : Nat => (n : Int)) ?_ (by simp) (max_of (by omega))) fun H7 e7 => ?_
              · have := er_cat (ds := [.num (v : Int)]) (es := q2.map encN) (er_lst (ds := [.num (v : Int)]) (ea1 (er_int (ev_nget (P := P) (w := w) (td := tVar 2) (ty := tVar 6) (σ := [some v1, some v2, some (.ref pw), a3, some (.int (a : Int)), some (.ref pf), some (.ref t.2.1), some u, some u8, c9, none]) (H := H6) (ev_var rfl) (ndW (e45.trans e6)) (ks := [encN p.1, encTup p.2]) (er_var rfl (kr (e5.trans e6))) (by have := (fit_C p).2; show (encC p).depth ≤ 8; omega) (encW_some hS.1 hpm))) (monoRep _) ea0) (by show 1 ≤ 100000; decide)) (er_listT (K := K) (te := tVar 8) (ds := q2.map encN) (er_var (i := 8) rfl r8)) (by rw [List.length_map]; show 1 + q2.length ≤ 100000; omega)
                have e : (((v : Int) :: q2.map fun n : Nat => (n : Int)).map NestedKey.num) = [NestedKey.num (v : Int)] ++ q2.map encN := by
                  simp [encN, Function.comp_def]
                rw [e]
                exact this
              have hstep : MS.Step m a p v st (st.2.2.1, q2) (max v (q2.headD 0)) := ⟨hb'.1, hb'.2, by rw [hq], rfl⟩
              have hle : q2.headD 0 ≤ p.2.headD 0 + 1 := by rw [← hq]; exact app_le
              generalize htt : max v (q2.headD 0) = tt at hstep ⊢
              have htb : q2.headD 0 ≤ tt ∧ tt ≤ n + 1 := by rw [← htt]; omega
              show tIfS _ _ _ _ ([some v1, some v2, some (.ref pw), a3, some (.int (a : Int)), some (.ref pf), some (.ref t.2.1), some u, some u8, some (.int (tt : Int)), none] : L2.St) H7
              have e67 := e6.trans e7
              have e47 : Ex (Mk [pf] B) H7 := e45.trans e67
              have ndf7 : NDS P w H7 pf (encW fs) := by obtain ⟨tm, g1, g2, g3⟩ := ndf5; exact ⟨tm, e67 _ _ g1, g2, g3.tx (TEx.of e67)⟩
              have etq : ∀ {H'}, Ex H7 H' → EvR (tTup (tCons (tOp (rIxT K) (tVar 7) (tC (.int 2))) (tCons (tVar 8) tNil))) [some v1, some v2, some (.ref pw), a3, some (.int (a : Int)), some (.ref pf), some (.ref t.2.1), some u, some u8, some (.int (tt : Int)), none] H' (RepR (.tup [encN st.2.2.1, encTup q2])) := fun e =>
                er_tup (ds := [encN st.2.2.1, encTup q2]) (ea1 (er_ixn (n := 2) (er_var (i := 7) rfl ((ru.ex (e5.trans e67)).ex e)) ev_c rfl) (monoRep _) (ea1 (er_var (i := 8) rfl ((r8.ex e7).ex e)) (monoRep _) ea0)) (by show 2 ≤ 100000; decide)
              have hdq : (NestedKey.tup [encN st.2.2.1, encTup q2]).depth ≤ 8 := by have := (fit_C (st.2.2.1, q2)).2; show (encC (st.2.2.1, q2)).depth ≤ 8; omega
              obtain ⟨z, hz1, hz2⟩ : ∃ z : Nat, (valV (encW fs) (NestedKey.tup [encN st.2.2.1, encTup q2])).getD (V.int 10000) = .int (z : Int) ∧ ((∃ t0, ((st.2.2.1, q2), t0) ∈ fs ∧ z = t0) ∨ ((∀ t0, ((st.2.2.1, q2), t0) ∉ fs) ∧ z = 10000)) := by
                by_cases hex : ∃ t0, ((st.2.2.1, q2), t0) ∈ fs
                · obtain ⟨t0, ht0⟩ := hex
                  have : valV (encW fs) (NestedKey.tup [encN st.2.2.1, encTup q2]) = some (.int (t0 : Int)) := encW_some hsa.1 ht0
                  exact ⟨t0, by rw [this]; rfl, .inl ⟨t0, ht0, rfl⟩⟩
                · have : valV (encW fs) (NestedKey.tup [encN st.2.2.1, encTup q2]) = none := encW_none (q := (st.2.2.1, q2)) fun t0 h => hex ⟨t0, h⟩
                  exact ⟨10000, by rw [this]; rfl, .inr ⟨fun t0 h => hex ⟨t0, h⟩, rfl⟩⟩
              refine s_when (b := decide (tt < z)) (et_is (et_test (ev_ltI (i := (tt : Int)) (j := (z : Int)) (ev_var rfl) (ev_to (ev_nget2 (P := P) (w := w) (ev_var (i := 5) (v := .ref pf) rfl) ndf7.r (etq (Ex.refl _)) hdq (ev_c (v := .int 10000))) hz1))) (decide_eq_decide.mpr ⟨fun h => by omega, fun h => by omega⟩)) (fun hb2 H8 e8 => ?_) fun hb2 H8 e8 => ?_
              · have hlt := of_decide_eq_true hb2
                refine ⟨_, rfl, _, rfl, ?_⟩
                refine etq e8 H8 (Ex.refl _) _ fun yv H9 e9 ry => ?_
                have e79 := e8.trans e9
                have ndf9 : NDS P w H9 pf (encW fs) := by obtain ⟨tm, g1, g2, g3⟩ := ndf7; exact ⟨tm, e79 _ _ g1, g2, g3.tx (TEx.of e79)⟩
                have hfl : fs.length ≤ 4000 := MS.sane_len W hc (i := n + 1) (by omega) hsa
                refine ⟨pf, encW fs, [encN st.2.2.1, encTup q2], rfl, ndf9, ry, hdq, Nat.lt_of_le_of_lt (show (encW fs).length ≤ 4000 by unfold encW; rw [List.length_map]; exact hfl) (by decide), fun ob txo nd3 => ?_⟩
                have nd3 : NDS P w (upd H9 pf ob) pf (putK (encW fs) (encC (st.2.2.1, q2)) (.int (tt : Int))) := nd3
                rw [encW_put] at nd3
                refine ⟨_, _, _, putW fs (st.2.2.1, q2) tt, rfl, (e47.trans e79).mut mf0, nd3, MS.fo_more (MS.fo_put hfo hstep fun t0 h0 => ?_) Sn, MS.putW_keys hsa.1, fun p' v' h' => ?_⟩
                · rcases hz2 with ⟨t1, h1, rfl⟩ | ⟨h1, _⟩
                  · rw [MS.keys_one hsa.1 h0 h1]; omega
                  · exact absurd h0 (h1 t0)
                · rcases MS.putW_mem.mp h' with ⟨rfl, rfl⟩ | ⟨_, h'⟩
                  · exact ⟨hWs.2.2.1, hal, htb.1, htb.2⟩
                  · exact hsa.2 p' v' h'
              · have hge : z ≤ tt := by have := of_decide_eq_false hb2; omega
                have ndf8 : NDS P w H8 pf (encW fs) := by obtain ⟨tm, g1, g2, g3⟩ := ndf7; exact ⟨tm, e8 _ _ g1, g2, g3.tx (TEx.of e8)⟩
                refine ⟨_, _, _, fs, rfl, e47.trans e8, ndf8, MS.fo_more ?_ Sn, hsa⟩
                rcases hz2 with ⟨t1, h1, rfl⟩ | ⟨_, hz⟩
                · exact MS.fo_keep hfo hstep h1 hge
                · omega
            · have hb' : ¬ (st.1 = a ∧ st.2.1 = p.1) := by simpa using hb
              have ndf5 : NDS P w H5 pf (encW fs) := by obtain ⟨tm, g1, g2, g3⟩ := ndf; exact ⟨tm, e5 _ _ g1, g2, g3.tx (TEx.of e5)⟩
              exact ⟨_, _, _, fs, rfl, e4.trans e5, ndf5, MS.fo_more (MS.fo_skip hfo hb') Sn, hsa⟩
          · rintro σ4 H4 ⟨c7, c8, c9, fs, rfl, e4, ndf, hfo, hsa⟩
            refine ⟨_, _, _, _, fs, rfl, e4, ndf, MS.fo_more hfo fun pv st => ?_, hsa⟩
            have etk : ws.take (i + 1) = ws.take i ++ [(p, v)] := by rw [List.take_add_one, hpv]; rfl
            constructor
            · rintro (⟨h1, h2⟩ | ⟨h1, h2⟩)
              · exact .inl ⟨by rw [etk]; exact List.mem_append_left _ h1, h2⟩
              · rw [hpv] at h1
                cases h1
                exact .inl ⟨by rw [etk]; exact List.mem_append_right _ (List.mem_singleton.mpr rfl), List.mem_of_mem_take h2⟩
            · rintro (⟨h1, h2⟩ | ⟨_, h2⟩)
              · rw [etk] at h1
                rcases List.mem_append.mp h1 with h1 | h1
                · exact .inl ⟨h1, h2⟩
                · exact .inr ⟨by rw [hpv, List.mem_singleton.mp h1], by rw [List.take_length]; exact h2⟩
              · cases h2
        · rintro σ3 H3 ⟨b6, b7, b8, b9, fs, rfl, e3', ndf, hfo, hsa⟩
          refine ⟨toW e3', ?_⟩
          have ewt : word.take (n + 1) = word.take n ++ [a] := by rw [List.take_add_one, hi]; rfl
          refine ⟨_, rfl, ?_⟩
          have hx : Ex H (upd H3 pw (NDO P w pw tn)) := (toH e3').mut hpw
          refine ⟨pf, _, _, _, _, _, _, _, fs, rfl, hx, hpf0, ?_, ?_, hsa⟩
          · obtain ⟨tm, g1, g2, g3⟩ := ndf
            exact ⟨tm, by rw [upd_ne hwf.symm]; exact g1, g2, g3.tx (TEx.put fun ys z => by rw [toW e3'] at z; cases z)⟩
          · rw [ewt]
            refine MS.found_ways hW (MS.fo_more hfo fun pv st => ?_)
            rw [hlenW]
            constructor
            · rintro (⟨h1, h2⟩ | ⟨_, h2⟩)
              · rw [List.take_length] at h1; exact ⟨h1, h2⟩
              · cases h2
            · rintro ⟨h1, h2⟩
              exact .inl ⟨by rw [List.take_length]; exact h1, h2⟩
      · clear hW0 hS0 hmem hnd hwsl nd e1 e0 hpw
        rintro σ2 H2 ⟨pw, a3, a4, a5, a6, a7, a8, a9, ws, rfl, e2, hpw, nd, hW, hS⟩
        rw [List.take_length] at hW
        obtain ⟨tn, hn1, hn2, hn3⟩ := nd
        refine ⟨pw, NDO P w pw tn, hn1, True.intro, fun od => ?_⟩
        have eB : Ex H (upd H2 pw (.frz od (NDO P w pw tn))) := e2.mut hpw
        have txB : TEx H2 (upd H2 pw (.frz od (NDO P w pw tn))) := TEx.put fun ys z => by rw [hn1] at z; cases z
        have hBw : upd H2 pw (.frz od (NDO P w pw tn)) pw = some (.frz od (NDO P w pw tn)) := upd_same
        have kB : KeysIn (upd H2 pw (.frz od (NDO P w pw tn))) tn := hn3.tx txB
        generalize upd H2 pw (.frz od (NDO P w pw tn)) = B at eB txB hBw kB ⊢
        have ndW : ∀ {H'}, Ex B H' → NDR P w H' pw (encW ws) := fun {H'} e => ⟨tn, .inr ⟨od, e _ _ hBw⟩, hn2, kB.tx (TEx.of e)⟩
        have hlenW : tn.length = ws.length := by
          have := congrArg List.length hn2
          unfold flat encW at this
          rw [List.length_map, List.length_map] at this
          exact this
        have hws : ws.length ≤ 4000 := MS.sane_len W hc (i := word.length) (by omega) hS
        refine ⟨.ref pw, rfl, pw, od, tn, rfl, hBw, fun D hD => ?_⟩
        have hDw : D ≠ pw := fun z => by subst z; rw [hBw] at hD; cases hD
        have eD : Ex B (upd B D (.lst [])) := Ex.new hD
        refine lc_keysN (fun i H' => Ex B H' ∧ H' D = some (.lst (((ws.take i).filter fun pv => decide (pv.1.1 ∈ m.lasts)).map fun pv => V.int (pv.2 : Int)))) ⟨eD, upd_same⟩ (fun i H' _ h => h.1 _ _ hBw) ?_ ?_
        · rintro i t H3 ht ⟨e3, h3⟩
          have hil : i < ws.length := by have := (List.getElem?_eq_some_iff.mp ht).1; omega
          obtain ⟨pv, hpv⟩ : ∃ pv, ws[i]? = some pv := ⟨ws[i], List.getElem?_eq_getElem hil⟩
          have htk : encC pv.1 = t.1 := by
            have h1 : (flat tn)[i]? = some (t.1, t.2.2) := by unfold flat; rw [List.getElem?_map, ht]; rfl
            rw [hn2] at h1
            unfold encW at h1
            rw [List.getElem?_map, hpv] at h1
            exact (Prod.mk.inj (Option.some.inj h1)).1
          have hkey : Rep H3 (encC pv.1) (.ref t.2.1) := by
            have := (kB t (List.mem_of_getElem? ht)).1.ex e3
            rw [← htk] at this
            exact this
          have etk : ws.take (i + 1) = ws.take i ++ [pv] := by rw [List.take_add_one, hpv]; rfl
          have hlenT : (((ws.take i).filter fun pv => decide (pv.1.1 ∈ m.lasts)).map fun pv => V.int (pv.2 : Int)).length ≤ 4000 := by
            rw [List.length_map]
            have h1 := List.length_filter_le (fun pv : Cfg × Nat => decide (pv.1.1 ∈ m.lasts)) (ws.take i)
            have h2 := List.length_take_le i ws
            have h3 : (ws.take i).length ≤ ws.length := by rw [List.length_take]; omega
            omega
          refine ⟨wipe_back _ 6 _, ?_⟩
          refine et_test (ev_inNums (K := K) (i := pv.1.1) (l := m.lasts) (ta := tOp (rIxT K) (tVar 6) (tC (.int 0))) (tb := tOp (rIxT K) (tVar 0) (tC (.int 5))) (σ := [some v1, some v2, some (.ref pw), a3, a4, a5, some (.ref t.2.1), a7, a8, a9, none]) (H := H3) (er_num (er_ixn (n := 0) (d := encN pv.1.1) (ks := [encN pv.1.1, encTup pv.1.2]) (er_var (i := 6) rfl hkey) ev_c rfl)) (er_ixn (n := 5) (d := encTup m.lasts) (er_var (i := 0) rfl (r1.ex (eB.trans e3))) ev_c rfl)) H3 (Ex.refl _) _ fun H4 e4 => ?_
          cases hb : decide (pv.1.1 ∈ m.lasts) with
          | false =>
            refine iteF ⟨e3.trans e4, ?_⟩
            rw [etk, List.filter_append]
            simp only [List.filter_cons, List.filter_nil, hb]
            simpa using e4 _ _ h3
          | true =>
            refine iteT ?_
            refine ev_nget (P := P) (w := w) (td := tVar 2) (ty := tVar 6) (σ := [some v1, some v2, some (.ref pw), a3, a4, a5, some (.ref t.2.1), a7, a8, a9, none]) (H := H4) (ev_var rfl) (ndW (e3.trans e4)) (ks := [encN pv.1.1, encTup pv.1.2]) (er_var rfl (hkey.ex e4)) (by have := (fit_C pv.1).2; show (encC pv.1).depth ≤ 8; omega) (encW_some hS.1 (List.mem_of_getElem? hpv)) H4 (Ex.refl _) _ fun H5 e5 => ?_
            refine ⟨_, e5 _ _ (e4 _ _ h3), sz_lt (by omega), ?_, ?_⟩
            · exact ((e3.trans e4).trans e5).mut hD
            · rw [upd_same, etk, List.filter_append, List.map_append]
              simp only [List.filter_cons, List.filter_nil, hb]
              rfl
        · rintro H3 ⟨e3, h3⟩
          rw [hlenW, List.take_length] at h3
          refine ⟨e3 _ _ hBw, ?_⟩
          have hDw' : D ≠ pw := hDw
          have h3' : upd H3 pw (NDO P w pw tn) D = some (.lst ((ws.filter fun pv => decide (pv.1.1 ∈ m.lasts)).map fun pv => V.int (pv.2 : Int))) := by rw [upd_ne hDw']; exact h3
          have eH3 : Ex H (upd H3 pw (NDO P w pw tn)) := (eB.trans e3).mut hpw
          generalize upd H3 pw (NDO P w pw tn) = H4 at h3' eH3 ⊢
          generalize hcs : (ws.filter fun pv => decide (pv.1.1 ∈ m.lasts)) = cs at h3'
          have hcm : ∀ pv, pv ∈ cs ↔ pv ∈ ws ∧ pv.1.1 ∈ m.lasts := fun pv => by rw [← hcs, List.mem_filter]; simp
          have hacc : ∀ kk, MS.Acc m word kk ↔ ∃ pv, pv ∈ cs ∧ pv.2 ≤ kk := fun kk => by
            constructor
            · rintro ⟨p, hr, hl⟩
              obtain ⟨v, hv, hle⟩ := (hW p kk).mp hr
              exact ⟨(p, v), (hcm _).mpr ⟨hv, hl⟩, hle⟩
            · rintro ⟨pv, hpv, hle⟩
              obtain ⟨h1, h2⟩ := (hcm pv).mp hpv
              exact ⟨pv.1, (hW pv.1 kk).mpr ⟨pv.2, h1, hle⟩, h2⟩
          have hcl : LRep (cs.map fun pv => NestedKey.num (pv.2 : Int)) (.ref D) H4 := by
            refine ⟨D, _, rfl, h3', ?_⟩
            have e1 : (cs.map fun pv => NestedKey.num (pv.2 : Int)) = (cs.map fun pv => (pv.2 : Int)).map NestedKey.num := by rw [List.map_map]; rfl
            have e2 : (cs.map fun pv => V.int (pv.2 : Int)) = (cs.map fun pv => (pv.2 : Int)).map V.int := by rw [List.map_map]; rfl
            rw [e1, e2]
            exact Reps.nums _
          have fin : ∀ {σ4 : L2.St}, σ4[10]? = some (some (.ref D)) → tSeq (tIfS (tTest (tOp rEq (tCB (fun xs H Q => ∃ p ys, xs = [.ref p] ∧ (SqL K H p ys ∨ SqT K H p ys) ∧ Q (.int ys.length) H) (tCons (tVar 10) tNil)) (tC (.int 0)))) (tRet (tC .non)) tNext) (tRet (tCB (rMin K) (tCons (tVar 10) tNil))) { nx := fun x H' => Q V.non H', rt := Q } σ4 H4 := fun {σ4} h10 => by
            refine q_when (b := decide (cs.length = 0)) (et_test ?_) (fun hb H5 e5 => ?_) fun hb H5 e5 => ?_
            · have := ev_eqI (ev_lenLR (K := K) (σ := σ4) (H := H4) rfl (er_varR (i := 10) h10 (monoL _) hcl)) (ev_c (v := .int 0))
              have e : decide (((cs.map fun pv => NestedKey.num (pv.2 : Int)).length : Int) = 0) = decide (cs.length = 0) := decide_eq_decide.mpr (by rw [List.length_map]; omega)
              rw [e] at this
              exact this
            · have hnil : cs = [] := List.length_eq_zero_iff.mp (of_decide_eq_true hb)
              refine s_ret ev_c fun H6 e6 => k _ H6 ((eH3.trans e5).trans e6) ⟨none, fun kk hk => ?_, rfl⟩
              obtain ⟨pv, hpv, _⟩ := (hacc kk).mp hk
              rw [hnil] at hpv
              cases hpv
            · have hne : 0 < cs.length := by have := of_decide_eq_false hb; omega
              have h35 := e5 _ _ h3'
              have e2 : (cs.map fun pv => V.int (pv.2 : Int)) = (cs.map fun pv => (pv.2 : Int)).map V.int := by rw [List.map_map]; rfl
              rw [e2] at h35
              refine ⟨_, h10, D, cs.map fun pv => (pv.2 : Int), rfl, SqL.of h35, by rw [List.length_map]; exact hne, fun mm hm hle => ?_⟩
              obtain ⟨pv, hpv, rfl⟩ := List.mem_map.mp hm
              refine k _ H5 (eH3.trans e5) ⟨some pv.2, ⟨(hacc _).mpr ⟨pv, hpv, Nat.le_refl _⟩, fun kk hk ha => ?_⟩, rfl⟩
              obtain ⟨pv', hpv', hle'⟩ := (hacc kk).mp ha
              have := hle _ (List.mem_map.mpr ⟨pv', hpv', rfl⟩)
              omega
          exact fin rfl
end
end MW
end
section
set_option Elab.async false
set_option linter.all false
set_option maxRecDepth 100000
set_option maxHeartbeats 4000000
/-! All short words. -/
namespace MW
open PySem PySem.Spec PyProof.Rows L2 Evl
open MS (Val Tab Mach Line Cfg)
section
variable {P : Program} {w : World} {K : PySem.W.Frag} {mg : PySem.Str → Option Value} {base : Heap}
/-- a word of letters below a, of length at most n, at an address not in xs -/
def WdOk (a : Nat) (xs : List Addr) (H : Hp) (n : Nat) (y : V) : Prop := ∃ (q : Addr) (wd : List Nat), y = .ref q ∧ q ∉ xs ∧ H q = some (.lst (iv wd)) ∧ (∀ x ∈ wd, x < a) ∧ wd.length ≤ n
theorem WdOk.go {a n : Nat} {xs : List Addr} {H H' : Hp} {y : V} (h : WdOk a xs H n y) (e : Ex (Mk xs H) H') : WdOk a xs H' n y := by
  obtain ⟨q, wd, h1, h2, h3, h4⟩ := h
  exact ⟨q, wd, h1, h2, e _ _ (by unfold Mk; rw [if_neg h2]; exact h3), h4⟩
theorem WdOk.le {a n n' : Nat} {xs : List Addr} {H : Hp} {y : V} (h : WdOk a xs H n y) (hn : n ≤ n') : WdOk a xs H n' y := by
  obtain ⟨q, wd, h1, h2, h3, h4, h5⟩ := h
  exact ⟨q, wd, h1, h2, h3, h4, Nat.le_trans h5 hn⟩
abbrev sWs : Stmt := topS 45
def spWs : Sp := fun vs H Q _ => ∃ (a : Nat), vs = [.int (a : Int), .int 5] ∧ a ≤ 2 ∧ RetR (fun u H' => ∃ (f : Addr) (us : List V), u = .ref f ∧ H' f = some (.lst us) ∧ us.length ≤ 1000 ∧ ∀ y ∈ us, WdOk a [] H' 5 y) H Q
theorem scWs : FnScope ["_law_letters", "_law_most", "_law_layers", "_law_found", "_law_k", "_law_layer", "_law_word_here", "_law_letter_here"] ["_law_letters", "_law_most"] (defScope sWs) := ⟨rfl, rfl, rfl, by decide +kernel, rfl, by decide +kernel, by decide +kernel⟩
theorem ok_ws {f : Addr} {fd : FuncData} (F : Fun K "_law_words" "_law_words" sWs f fd) (T : Txt K mg) : FnOk P w K mg base CX0 1 f fd ["_law_letters", "_law_most"] spWs := by
  refine F.ok scWs (fun vs H Q E h => ?_) (fun cdv A outer s H vs Q E hr h => ?_)
  · obtain ⟨a, rfl, _⟩ := h
    rfl
  · obtain ⟨a, rfl, ha, k⟩ := h
    refine ⟨_, (pss_cons (ps_set (i := 2) scWs.nd rfl (by first | exact Or.inl rfl | exact Or.inr rfl) (pe_lst (pa_cons (pe_lst (pa_cons (pe_lst pa_nil) pa_nil)) pa_nil)))
      (pss_cons (ps_set (i := 3) scWs.nd rfl (by first | exact Or.inl rfl | exact Or.inr rfl) (pe_lst (pa_cons (pe_lst pa_nil) pa_nil)))
      (pss_cons (ps_for PassesOwn.never rfl (pi_range1 (by rfl) T.range (pa_cons (pv 1) pa_nil)) (pg_name (i := 4) scWs.nd rfl (by first | exact Or.inl rfl | exact Or.inr rfl)) (pss_cons (ps_set (i := 5) scWs.nd rfl (by first | exact Or.inl rfl | exact Or.inr rfl) (pe_lst pa_nil))
      (pss_cons (ps_for PassesOwn.never rfl (pi_list (pe_ix ix_list (pv 2) (pe_un un_neg pe_int) (fun _ _ => rfl))) (pg_name (i := 6) scWs.nd rfl (by first | exact Or.inl rfl | exact Or.inr rfl)) (pss_one (ps_for PassesOwn.never rfl (pi_range1 (by rfl) T.range (pa_cons (pv 0) pa_nil)) (pg_name (i := 7) scWs.nd rfl (by first | exact Or.inl rfl | exact Or.inr rfl)) (pss_one (ps_expr (pe_bm PySem.F.plainAttrs_list PySem.F.slot_list_append PySem.F.type_list_append mt_append (pv 5) (pa_cons (pe_op op_cat (pv 6) (pe_lst (pa_cons (pv 7) pa_nil))) pa_nil)))))))
      (pss_cons (ps_expr (pe_bm PySem.F.plainAttrs_list PySem.F.slot_list_append PySem.F.type_list_append mt_append (pv 2) (pa_cons (pv 5) pa_nil)))
      (pss_one (ps_set (i := 3) scWs.nd rfl (by first | exact Or.inl rfl | exact Or.inr rfl) (pe_op op_cat (pv 3) (pv 5))))))))
      (pss_one (ps_ret (pv 3)))))), ?_⟩
    have s1 : ∀ n : Nat, n ≤ 2 → n ≤ sizeLine := fun n h => sz_of (by omega)
    -- layers, found
    refine q_asgM (C := fun v H1 => ∃ q0 q1 pl : Addr, v = .ref pl ∧ Ex H H1 ∧ H pl = none ∧ q1 ≠ pl ∧ q0 ≠ pl ∧ H1 q0 = some (.lst []) ∧ H1 q1 = some (.lst [.ref q0]) ∧ H1 pl = some (.lst [.ref q1])) (fun Q q => ⟨Nat.zero_le _, fun q0 h0 => ⟨s1 1 (by decide), fun q1 h1 => ⟨s1 1 (by decide), fun pl hl => ?_⟩⟩⟩) fun v H1 ⟨q0, q1, pl, hv, e1, hpl, n1, n0, g0, g1, gl⟩ => ?_
    · have x0 := Ex.new (o := .lst []) h0
      have x1 := Ex.new (o := .lst [V.ref q0]) h1
      have x2 := Ex.new (o := .lst [V.ref q1]) hl
      have n1 : q1 ≠ pl := fun z => by subst z; rw [upd_same] at hl; cases hl
      have n0 : q0 ≠ pl := fun z => by subst z; rw [x1 _ _ upd_same] at hl; cases hl
      exact q _ _ ⟨q0, q1, pl, rfl, (x0.trans x1).trans x2, fresh_back (x0.trans x1) hl, n1, n0, (x1.trans x2) _ _ upd_same, x2 _ _ upd_same, upd_same⟩
    subst hv
    show tSeq _ _ _ ([some (.int (a : Int)), some (.int 5), some (.ref pl), none, none, none, none, none] : L2.St) H1
    refine q_asgM (C := fun v H2 => ∃ q2 f0 : Addr, v = .ref f0 ∧ Ex H1 H2 ∧ f0 ≠ pl ∧ q2 ≠ pl ∧ H2 q2 = some (.lst []) ∧ H2 f0 = some (.lst [.ref q2])) (fun Q q => ⟨Nat.zero_le _, fun q2 h2 => ⟨s1 1 (by decide), fun f0 h3 => ?_⟩⟩) fun v H2 ⟨q2, f0, hv, e2, nf, nq, g2, gf⟩ => ?_
    · have x0 := Ex.new (o := .lst []) h2
      have x1 := Ex.new (o := .lst [V.ref q2]) h3
      have nf : f0 ≠ pl := fun z => by subst z; rw [x0 _ _ gl] at h3; cases h3
      have nq : q2 ≠ pl := fun z => by subst z; rw [gl] at h2; cases h2
      exact q _ _ ⟨q2, f0, rfl, x0.trans x1, nf, nq, x1 _ _ upd_same, upd_same⟩
    subst hv
    show tSeq _ _ _ ([some (.int (a : Int)), some (.int 5), some (.ref pl), some (.ref f0), none, none, none, none] : L2.St) H2
    have two : ∀ k : Nat, k < 5 → 2 ^ k ≤ 16 := fun k hk => by
      have : k = 0 ∨ k = 1 ∨ k = 2 ∨ k = 3 ∨ k = 4 := by omega
      rcases this with rfl | rfl | rfl | rfl | rfl <;> decide
    refine q_forR1 (n := 5) (ea_cons (ev_var rfl) ea_nil) (by decide) (fun i σ' H' => ∃ (f0 q : Addr) (a4 a5 a6 a7 : Option V) (ls ws us : List V), σ' = [some (.int (a : Int)), some (.int 5), some (.ref pl), some (.ref f0), a4, a5, a6, a7] ∧ Ex H H' ∧ f0 ≠ pl ∧ q ≠ pl ∧ H' pl = some (.lst (ls ++ [.ref q])) ∧ ls.length = i ∧ H' q = some (.lst ws) ∧ ws.length ≤ 2 ^ i ∧ (∀ y ∈ ws, WdOk a [pl] H' i y) ∧ H' f0 = some (.lst us) ∧ us.length ≤ 32 * (i + 1) ∧ ∀ y ∈ us, WdOk a [pl] H' i y)
      (fun H3 e3 => ⟨f0, q1, _, _, _, _, [], [.ref q0], [.ref q2], rfl, (e1.trans e2).trans e3, nf, n1, (e2.trans e3) _ _ gl, rfl, (e2.trans e3) _ _ g1, Nat.le_refl _, fun y hy => ⟨q0, [], List.mem_singleton.mp hy, by simp; exact n0, (e2.trans e3) _ _ g0, fun x h => (by cases h), Nat.le_refl _⟩, e3 _ _ gf, by show 1 ≤ 32; decide, fun y hy => ⟨q2, [], List.mem_singleton.mp hy, by simp; exact nq, e3 _ _ g2, fun x h => (by cases h), Nat.le_refl _⟩⟩) ?_ ?_
    · clear g0 g1 gl g2 gf e1 e2 nf nq n1 n0
      rintro i σ3 H3 hi ⟨f0, q, a4, a5, a6, a7, ls, ws, us, rfl, e3, nf, nq, gl, hls, gq, hws, hwsk, gf, hus, husk⟩
      have hi5 : i < 5 := by omega
      have h2i := two i hi5
      show tSeq _ _ _ ([some (.int (a : Int)), some (.int 5), some (.ref pl), some (.ref f0), some (.int (i : Int)), a5, a6, a7] : L2.St) H3
      refine q_asgL (el_lst ea_nil (by show 0 ≤ 100000; decide)) fun pn H4 hpn e4 hn4 => ?_
      have npl : pl ≠ pn := fun z => by subst z; rw [gl] at hpn; cases hpn
      have npq : q ≠ pn := fun z => by subst z; rw [gq] at hpn; cases hpn
      have npf : f0 ≠ pn := fun z => by subst z; rw [gf] at hpn; cases hpn
      have hpn0 : H pn = none := fresh_back e3 hpn
      show tSeq _ _ _ ([some (.int (a : Int)), some (.int 5), some (.ref pl), some (.ref f0), some (.int (i : Int)), some (.ref pn), a6, a7] : L2.St) H4
      have wd4 : ∀ y ∈ ws, WdOk a [pl, pn] H4 i y := fun y hy => by
        obtain ⟨x, wd, h1, h2, h3, h4⟩ := hwsk y hy
        refine ⟨x, wd, h1, ?_, e4 _ _ h3, h4⟩
        intro hm
        rcases List.mem_cons.mp hm with h | hm
        · exact h2 (List.mem_singleton.mpr h)
        · have : x = pn := List.mem_singleton.mp hm
          subst this
          rw [h3] at hpn; cases hpn
      have msk : ∀ {H'}, Ex (Mk [pn] H4) H' → Ex (Mk [pl, pn] H4) H' := fun {H'} e x o h => e x o (by
        unfold Mk at h ⊢
        split at h
        · cases h
        · rename_i hx; rw [if_neg (fun z => hx (List.mem_cons_of_mem _ z))]; exact h)
      have kp : ∀ {H' : Hp} {x : Addr} {o : HO}, Ex (Mk [pn] H4) H' → x ≠ pn → H4 x = some o → H' x = some o := fun e hx h => e _ _ (by unfold Mk; rw [if_neg (by simp; exact hx)]; exact h)
      have m0 : Mk [pn] H4 pn = none := by unfold Mk; rw [if_pos (by simp)]
      have hlast : ∀ Q : VK, Q (.ref q) H4 → tOp (rIxL K) (tVar 2) (tUn (rU fun i => .int (-i)) (tC (.int 1))) ([some (.int (a : Int)), some (.int 5), some (.ref pl), some (.ref f0), some (.int (i : Int)), some (.ref pn), a6, a7] : L2.St) H4 Q := fun Q h => by
        refine ⟨_, rfl, 1, rfl, pl, ls ++ [.ref q], -1, .ref q, rfl, rfl, SqL.of (e4 _ _ gl), ?_, h⟩
        unfold atI ixN
        rw [if_neg (by omega), if_pos (by rw [List.length_append, List.length_singleton]; omega)]
        show (ls ++ [V.ref q])[((-1 : Int) + ((ls ++ [V.ref q]).length : Int)).toNat]? = _
        rw [show ((-1 : Int) + ((ls ++ [V.ref q]).length : Int)).toNat = ls.length by rw [List.length_append, List.length_singleton]; omega]
        rw [List.getElem?_append_right (Nat.le_refl _), Nat.sub_self]
        rfl
      refine hlast _ ⟨q, rfl, ⟨ws, SqL.of (e4 _ _ gq)⟩, for_list (fun j σ' H' => ∃ (b6 b7 : Option V) (ns : List V), σ' = [some (.int (a : Int)), some (.int 5), some (.ref pl), some (.ref f0), some (.int (i : Int)), some (.ref pn), b6, b7] ∧ Ex (Mk [pn] H4) H' ∧ H' pn = some (.lst ns) ∧ ns.length ≤ 2 * j ∧ ∀ y ∈ ns, WdOk a [pl, pn] H' (i + 1) y) ⟨_, _, [], rfl, mk_ex _ _, hn4, Nat.zero_le _, fun y h => (by cases h)⟩ (fun j σ' H' _ h => by obtain ⟨_, _, _, _, h, _⟩ := h; exact SqL.of (kp h npq (e4 _ _ gq))) ?_ ?_⟩
      · rintro j y σ5 H5 hj ⟨b6, b7, ns, rfl, e5, g5, hnl, hns⟩
        have hjl : j < ws.length := (List.getElem?_eq_some_iff.mp hj).1
        obtain ⟨x, wd, rfl, hx1, hx2, hx3, hx4⟩ := (wd4 y (List.mem_of_getElem? hj)).go (msk e5)
        show tFor _ _ _ _ ([some (.int (a : Int)), some (.int 5), some (.ref pl), some (.ref f0), some (.int (i : Int)), some (.ref pn), some (.ref x), b7] : L2.St) H5
        refine s_forR1 (n := (a : Int)) (ea_cons (ev_var rfl) ea_nil) (by omega) (fun l σ' H' => ∃ (b7 : Option V) (ns : List V), σ' = [some (.int (a : Int)), some (.int 5), some (.ref pl), some (.ref f0), some (.int (i : Int)), some (.ref pn), some (.ref x), b7] ∧ Ex (Mk [pn] H4) H' ∧ H' pn = some (.lst ns) ∧ ns.length ≤ 2 * j + l ∧ (∀ y ∈ ns, WdOk a [pl, pn] H' (i + 1) y) ∧ H' x = some (.lst (iv wd))) (fun H6 e6 => ⟨_, ns, rfl, e5.trans e6, e6 _ _ g5, by omega, fun y hy => (hns y hy).go ((mk_ex _ _).trans e6), e6 _ _ hx2⟩) ?_ ?_
        · rintro l σ6 H6 hl ⟨c7, ns, rfl, e6, g6, hnl, hns, gx⟩
          show tDrop _ _ ([some (.int (a : Int)), some (.int 5), some (.ref pl), some (.ref f0), some (.int (i : Int)), some (.ref pn), some (.ref x), some (.int (l : Int))] : L2.St) H6
          have hxp : x ≠ pn := fun z => hx1 (by rw [z]; simp)
          refine sr_app (i := 5) (l := pn) (xs := ns) rfl g6 (by omega) (er_catN (ds := wd.map encN) (es := [encN l]) (er_varR (R := LRep (wd.map encN)) (i := 6) rfl (monoL _) ⟨x, _, rfl, gx, iv_reps wd⟩) (er_lst (ds := [encN l]) (ea1 (er_int (ev_var (i := 7) rfl)) (monoRep _) ea0) (by show 1 ≤ 100000; decide)) (by rw [List.length_map]; show wd.length + 1 ≤ 100000; omega)) fun u H7 e7 ⟨ru, z, hz, hzn⟩ g7 => ?_
          subst hz
          obtain ⟨z', vs', hz', gz, rz⟩ := ru
          cases hz'
          have hzp : z ≠ pn := fun e => by subst e; rw [g6] at hzn; cases hzn
          have hzl : z ≠ pl := fun e => by subst e; rw [kp e6 npl (e4 _ _ gl)] at hzn; cases hzn
          have evs : vs' = iv (wd ++ [l]) := by
            have h1 := iv_reps (H := H7) (wd ++ [l])
            rw [List.map_append] at h1
            have r1 := nums_of (H := H7) (l := wd ++ [l]) (by rw [List.map_append]; exact rz)
            rw [r1]
            unfold iv
            rw [List.map_map]
            rfl
          subst evs
          have em : Ex (Mk [pl, pn] H6) (upd H7 pn (.lst (ns ++ [.ref z]))) := fun y o h => by
            unfold Mk at h
            split at h
            · cases h
            · rename_i hy
              rw [upd_ne (fun e => hy (by rw [e]; simp))]
              exact e7 _ _ h
          refine ⟨_, ns ++ [.ref z], rfl, (e6.trans e7).mut m0, upd_same, by rw [List.length_append, List.length_singleton]; omega, fun y hy => ?_, by rw [upd_ne hxp]; exact e7 _ _ gx⟩
          rcases List.mem_append.mp hy with h | h
          · exact (hns y h).go em
          · refine ⟨z, wd ++ [l], List.mem_singleton.mp h, by simp; exact ⟨hzl, hzp⟩, by rw [upd_ne hzp]; exact gz, fun t ht => ?_, by rw [List.length_append, List.length_singleton]; omega⟩
            rcases List.mem_append.mp ht with h | h
            · exact hx3 t h
            · rw [List.mem_singleton.mp h]; omega
        · rintro σ6 H6 ⟨c7, ns, rfl, e6, g6, hnl, hns, gx⟩
          rw [Int.toNat_natCast] at hnl
          exact ⟨_, _, ns, rfl, e6, g6, by omega, hns⟩
      · rintro σ5 H5 ⟨b6, b7, ns, rfl, e5, g5, hnl, hns⟩
        have gl5 := kp e5 npl (e4 _ _ gl)
        have gf5 := kp e5 npf (e4 _ _ gf)
        have nsl : ns.length ≤ 32 := by omega
        have nsl2 : ns.length ≤ 2 ^ (i + 1) := by rw [Nat.pow_succ]; omega
        have wus : ∀ y ∈ us, WdOk a [pl] H5 (i + 1) y := fun y hy => by
          obtain ⟨x, wd, h1, h2, h3, h4, h5⟩ := husk y hy
          refine ⟨x, wd, h1, h2, kp e5 (fun e => by subst e; rw [h3] at hpn; cases hpn) (e4 _ _ h3), h4, by omega⟩
        have wns : ∀ y ∈ ns, WdOk a [pl] H5 (i + 1) y := fun y hy => by
          obtain ⟨x, wd, h1, h2, h3⟩ := hns y hy
          exact ⟨x, wd, h1, fun hm => h2 (by rw [List.mem_singleton.mp hm]; simp), h3⟩
        have eH5 : Ex H H5 := fun x o h => kp e5 (fun e => by subst e; rw [hpn0] at h; cases h) (e4 _ _ (e3 _ _ h))
        refine q_app (l := pl) (xs := ls ++ [.ref q]) gl5 (ev_var rfl) (ev_var (v := .ref pn) rfl) (by rw [List.length_append, List.length_singleton]; omega) fun H6 e6 => ?_
        have m1 : ∀ {y n}, WdOk a [pl] H5 n y → WdOk a [pl] (upd H6 pl (.lst ((ls ++ [.ref q]) ++ [.ref pn]))) n y := fun {y n} h => h.go fun x o hx => by
          unfold Mk at hx
          split at hx
          · cases hx
          · rename_i hxx
            rw [upd_ne (fun e => hxx (by rw [e]; simp))]
            exact e6 _ _ hx
        refine ⟨_, rfl, _, rfl, f0, pn, us, ns, rfl, rfl, by rw [upd_ne nf]; exact e6 _ _ gf5, by rw [upd_ne npl.symm]; exact e6 _ _ g5, sz_of (by omega), fun fn hfn => ?_⟩
        have hnf : fn ≠ pl := fun e => by subst e; rw [upd_same] at hfn; cases hfn
        have ef := Ex.new (o := .lst (us ++ ns)) hfn
        have m2 : ∀ {y n}, WdOk a [pl] H5 n y → WdOk a [pl] (upd (upd H6 pl (.lst ((ls ++ [.ref q]) ++ [.ref pn]))) fn (.lst (us ++ ns))) n y := fun h => (m1 h).go ((mk_ex _ _).trans ef)
        refine ⟨fn, pn, _, _, _, _, ls ++ [.ref q], ns, us ++ ns, rfl, ((eH5.trans e6).mut hpl).trans ef, hnf, npl.symm, ef _ _ upd_same, by rw [List.length_append, hls]; rfl, ef _ _ (by rw [upd_ne npl.symm]; exact e6 _ _ g5), nsl2, fun y hy => m2 (wns y hy), upd_same, by rw [List.length_append]; omega, fun y hy => ?_⟩
        rcases List.mem_append.mp hy with h | h
        · exact m2 (wus y h)
        · exact m2 (wns y h)
    · rintro σ3 H3 ⟨f0, q, a4, a5, a6, a7, ls, ws, us, rfl, e3, nf, nq, gl, hls, gq, hws, hwsk, gf, hus, husk⟩
      refine s_ret (ev_var (v := .ref f0) rfl) fun H4 e4 => k _ H4 (e3.trans e4) ⟨f0, us, rfl, e4 _ _ gf, ?_, fun y hy => ?_⟩
      · have : us.length ≤ 32 * (5 + 1) := hus
        omega
      · obtain ⟨x, wd, h1, h2, h3, h4⟩ := husk y hy
        exact ⟨x, wd, h1, by simp, e4 _ _ h3, h4⟩
end
end MW
end
section
set_option Elab.async false
set_option linter.all false
set_option maxRecDepth 100000
set_option maxHeartbeats 4000000
/-! Two except clauses with a name. -/
namespace MW
open PySem PySem.Spec PyProof.Rows L2 Evl
abbrev Cl := Value × (Addr → Value → Option Addr → TS)
def wMs (K : PySem.W.Frag) (i : Nat) (Wout : WX) (D : Ends) : List Cl → WX
  | [] => Wout
  | c :: r => wAs K c.1 i c.2 (wMs K i Wout D r) D
inductive HdsAs (X : Cx) (n : PySem.Str) : List ExceptHandler → List Cl → Prop
  | nil : HdsAs X n [] []
  | cons {x : PySem.Str} {c : Value} {ts : Addr → Value → Option Addr → TS} {b₀ : Stmt} {suite : List Stmt} {np pos' : Pos} {hds : List ExceptHandler} {l : List Cl} (hc : Names X x c)
      (hsu : ∀ (a : Addr) (oe : Obj) (cls : Value) (d : Option Addr) (pn : List (Addr × Obj)), Zc cls d oe → (∃ vs, oe.data = .fields vs) → PSs (X.suite a ((a, oe) :: pn)) (b₀ :: suite) (ts a cls d)) (r : HdsAs X n hds l) :
      HdsAs X n (.ExceptHandler (some (.Name x np)) (some n) (b₀ :: suite) pos' :: hds) ((c, ts) :: l)
section
variable {X : Cx} {n : PySem.Str} {i : Nat} {body : List Stmt} {h₀ : ExceptHandler} {hds : List ExceptHandler} {l : List Cl} {pos : Pos} {tb : WX → TS} {Wout : WX}
theorem ps_try_ms (hs : X.stack = X.env :: X.outer) (hf : X.env.frame = some X.env.locals) (hN : X.N.Nodup) (hi : X.N[i]? = some n) (hln : X.env.kindOf n = some .local) (tk : Takes X Wout)
    (hb : ∀ (W : WX) (pn : List (Addr × Obj)) (xe : Value → Shared → Prop), Takes (X.tr pn xe) W → PassesOwn (model X.prog X.w) X.A X.env xe → PSs (X.tr pn xe) body (tb W))
    (hh : HdsAs X n (h₀ :: hds) l) : PS X (.Try body (h₀ :: hds) [] [] pos) (fun D σ H => tb (wMs X.K i Wout D l) D σ H) := by
  refine ⟨fun pins s σ H D I h => ?_⟩
  have ok := I.ok
  have hfr : X.A.frames = some (X.env :: X.outer) := by rw [ok.frames, hs]
  have hloc : Loc X.env.scope n := .inl hln
  refine wpAny_Try_except (wpAny_mono ((hb (wMs X.K i Wout D l) (X.pn ++ pins) (fun e s₁ => wpAny (model X.prog X.w) X.A (noteFrame e X.env) (fun _ s₂ => wpAny (model X.prog X.w) X.A (setFlight e none) (fun _ s₃ =>
    wpAny (model X.prog X.w) X.A (handleBy e X.env (h₀ :: hds)) (SP X pins D) X.xe s₃) X.xe s₂) X.xe s₁) (fun u s' xx => ?_) PassesOwn.looking).run [] s σ H D (I.toTry _) h) (fun f s1 hsp => ?_) (fun e s1 he => he))
  · obtain ⟨a, B, sI, pins', σ', H', cls, d, rfl, J', nb, up, sky, na, os, ag, w⟩ := xx
    have J : Inv X pins σ' H' sI := J'.ofTry ok
    have sky' : Sky B (X.env :: X.outer) a (Zc cls d) X.env.locals s'.heap := by rw [← hs]; exact sky
    show wpAny (model X.prog X.w) X.A (noteFrame (.ref a) X.env) _ _ _
    refine Sky.land Zc.steady hfr hf sky' fun h3 fl3 up3 => ?_
    have J3 : Inv X pins σ' H' { s' with heap := h3 } := J.landed nb fl3.1 (up.trans up3) os ag
    obtain ⟨oe3, vs3, he3, hz3, hd3⟩ := fl3.there
    have nfr : a ∉ frs (X.env :: X.outer) := fun hm => by
      obtain ⟨_, o', e', hnf⟩ := (fl3.2.2.1 : h3.FunFrames B (X.env :: X.outer)).mem hm
      rw [he3] at e'; cases e'
      exact hnf _ hd3
    have nL : a ≠ X.env.locals := fun z => nfr (List.mem_filterMap.mpr ⟨X.env, List.mem_cons_self, by rw [hf, z]⟩)
    have nF : a ∉ X.fs := fun hm => by
      obtain ⟨e, he, q⟩ := List.mem_filterMap.mp hm
      exact nfr (List.mem_filterMap.mpr ⟨e, List.mem_cons_of_mem _ he, q⟩)
    have S3 := J3.suite he3 hd3 na nL nF
    have go : ∀ {hds' : List ExceptHandler} {l' : List Cl}, HdsAs X n hds' l' → wMs X.K i Wout D l' cls d σ' H' → wpAny (model X.prog X.w) X.A (handleBy (.ref a) X.env hds') (SP X pins D) X.xe { s' with heap := h3 } := by
      intro hds' l' hk
      induction hk with
      | nil =>
        intro w
        refine wpAny_handleBy_nil ?_
        obtain ⟨k1, k2, k3, oe, vs, T, oT, ts', he, hz, hd, h1, hr⟩ := id fl3
        unfold PySem.passOn
        refine wpAny_bind (wpAny_field he hd h1 ?_)
        rw [if_neg (show ¬ ((Value.ref T == Value.none) = true) from by simp)]
        have fin : wpAny (model X.prog X.w) X.A (setFlight (.ref a) X.env.frame) (fun _ s4 => wpAny (model X.prog X.w) X.A (throw (.ref a) : Sem Flow) (SP X pins D) X.xe s4) X.xe { s' with heap := h3 } := by
          rw [hf]
          refine HandSPX.setFlight_upZ fl3 fun h4 hh4 up4 => wpAny_throw (tk _ _ ?_)
          exact ⟨a, B, sI, pins, σ', H', cls, d, rfl, J, nb, (up.trans up3).trans up4, .inr (.inr (by rw [hs]; exact hh4)), na, os, ag, w⟩
        first
          | exact wpAny_bind (wpAny_pure (wpAny_bind fin))
          | exact wpAny_bind fin
      | @cons x c ts b₀ suite np pos' hds2 l2 hc hsu r ih =>
        intro w
        obtain ⟨b, hb1, hyes, hno⟩ := w
        refine wpAny_handleBy_cons (codeAny_handlers_test ?_) (by intro q; cases q)
        have LT : PySem.W.Looks (model X.prog X.w) h3 (typeOf (.ref a)) cls := fun A Q E s k q => wpAny_typeOf_ref (k _ _ he3) (by rw [hz3.1]; exact q)
        have LM := PySem.W.exm_one (M := model X.prog X.w) (J3.kIn) LT hb1
        have test : ∀ {Q : Value → Shared → Prop} {E : Value → Shared → Prop}, Q c { s' with heap := h3 } → wpAny (model X.prog X.w) (X.A.mark (some (.ref a))) (eval (.Name x np) X.env) Q E { s' with heap := h3 } := fun {Q E} q => by
          obtain ⟨hg, hdbg, hm | ⟨hm, hv, hnn⟩⟩ := hc
          · exact ld_glob (X := X.suite a ((a, oe3) :: (X.pn ++ pins))) S3 hg hm q hdbg
          · exact ld_blt (X := X.suite a ((a, oe3) :: (X.pn ++ pins))) S3 hg hm hv q hnn hdbg
        refine test (LM.here ?_)
        cases b with
        | true =>
          refine codeAny_handlers_suite_as ?_
          refine HandSPX.lands_againZ fl3 fun h4 fl4 up4 => ?_
          have J4 : Inv X pins σ' H' { s' with heap := h4 } := J.landed nb fl4.1 ((up.trans up3).trans up4) os ag
          obtain ⟨oe4, vs4, he4, hz4, hd4⟩ := fl4.there
          have S4 := J4.suite he4 hd4 na nL nF
          refine store_ok (X := X.suite a ((a, oe4) :: (X.pn ++ pins))) (v := .ref a) S4 hN hi hloc rfl (fun s5 S5 => ?_) (.inr hln)
          refine wpAny_mono ((hsu a oe4 cls d (X.pn ++ pins) hz4 ⟨_, hd4⟩).run [] s5 _ H' _ S5 (hyes rfl a na)) (fun f s6 hsp => ?_) (fun _ _ z => False.elim z)
          have end_ : ∀ {σ6 : L2.St} {H6 : Hp} {Q : Shared → Prop}, Inv (X.suite a ((a, oe4) :: (X.pn ++ pins))) [] σ6 H6 s6 → (∀ s7, Inv X pins (σ6.set i none) H6 s7 → Q s7) →
              wpAny (model X.prog X.w) X.A (do bindName X.env n .none; unbindBehindTheSuite X.env n pos') (fun _ s7 => Q s7) X.xe s6 := fun {σ6 H6 Q} S6 hq => gone_ok (S6.unsuite ok) hN hi hln hq
          cases f with
          | next =>
            obtain ⟨σ6, H6, S6, q6⟩ := hsp
            exact end_ S6 fun s7 J7 => ⟨_, _, J7, q6⟩
          | brk =>
            obtain ⟨σ6, H6, S6, q6⟩ := hsp
            exact end_ S6 fun s7 J7 => ⟨_, _, J7, q6⟩
          | cont =>
            obtain ⟨σ6, H6, S6, q6⟩ := hsp
            exact end_ S6 fun s7 J7 => ⟨_, _, J7, q6⟩
          | ret u =>
            obtain ⟨v6, σ6, H6, S6, r6, q6⟩ := hsp
            exact end_ S6 fun s7 J7 => ⟨_, _, _, J7, r6, q6⟩
        | false =>
          show wpAny _ X.A (handleBy (.ref a) X.env hds2) _ _ _
          exact ih (hno rfl)
    exact go hh w
  · cases f with
    | next =>
      obtain ⟨σ', H', J', q⟩ := hsp
      exact wpAny_execs_nil ⟨σ', H', J'.ofTry ok, q⟩
    | brk =>
      obtain ⟨σ', H', J', q⟩ := hsp
      exact ⟨σ', H', J'.ofTry ok, q⟩
    | cont =>
      obtain ⟨σ', H', J', q⟩ := hsp
      exact ⟨σ', H', J'.ofTry ok, q⟩
    | ret u =>
      obtain ⟨v, σ', H', J', r, q⟩ := hsp
      exact ⟨v, σ', H', J'.ofTry ok, r, q⟩
end
/-! ### word, catalogue, bound -/
open MS (Val Tab Mach Line Cfg)
section
variable {P : Program} {w : World} {K : PySem.W.Frag} {mg : PySem.Str → Option Value} {base : Heap}
abbrev sWd : Stmt := topS 58
abbrev sCg : Stmt := topS 59
abbrev sBd : Stmt := topS 60
def spWd : Sp := fun vs H Q _ => ∃ (ls : List Line) (N : Nat) (v1 : V), vs = [v1, .int (N : Int)] ∧ MS.LinesOk ls ∧ 1 ≤ ls.length ∧ ls.length ≤ 100 ∧ 1 ≤ N ∧ N ≤ 100 ∧ Rep H (.tup (ls.map encL)) v1 ∧ RetR (fun u H' => u = .non ∨ LRep ((MS.wordOf N ls).map encN) u H') H Q
theorem scWd : FnScope ["_law_recipe_here", "_law_times", "e"] ["_law_recipe_here", "_law_times"] (defScope sWd) := ⟨rfl, rfl, rfl, by decide +kernel, rfl, by decide +kernel, by decide +kernel⟩
theorem ok_wd {C fW f : Addr} {dW fd : FuncData} (F : Fun K "_law_word" "_law_word" sWd f fd) (XD : ExcD K mg "WordTooLong" C) (hx : PySem.W.exmOne K (.ref C) (.ref C) = some true) (cW : Cal P w K mg base (L2.CX P w) 1 "word_of" ["recipe", "times"] (spWO C) fW dW) : FnOk P w K mg base CX0 2 f fd ["_law_recipe_here", "_law_times"] spWd := by
  refine F.ok scWd (fun vs H Q E h => ?_) (fun cdv A outer s H vs Q E hr h => ?_)
  · obtain ⟨ls, N, v1, rfl, _⟩ := h
    rfl
  · obtain ⟨ls, N, v1, rfl, ok, h1, h2, h3, h4, r1, k⟩ := h
    refine ⟨fun D σ H => tRet (tCallS (spWO C) (WE (wAs K (.ref C) 2 (fun _ _ _ => tRet (tC .non)) (fun _ _ _ _ => False) D)) (tCons (tVar 0) (tCons (tVar 1) tNil))) D σ H, pss_one (ps_try_as (i := 2) (tb := fun W => tRet (tCallS (spWO C) (WE W) (tCons (tVar 0) (tCons (tVar 1) tNil)))) (ts := fun _ _ _ => tRet (tC .non)) (Wout := fun _ _ _ _ => False) rfl rfl scWd.nd rfl rfl ⟨rfl, by decide, Or.inl XD.g⟩ takes0
      (fun W pn xe tk _ => pss_one (ps_ret (by exact (pe_callS cW.ok hr rfl cW.at_ cW.kp cW.b (fun σ => passAt tk σ) (by exact (pa_cons (pv 0) (pa_cons (pv 1) pa_nil)))))))
      (fun a oe cls d pn hz hf => pss_one (ps_ret pe_non))), ?_⟩
    refine ⟨_, rfl, _, rfl, ls, N, v1, rfl, ok, h1, h2, h3, h4, r1, fun u H2 e2 ru => k u H2 e2 (.inr ru), fun H2 e2 => ⟨true, hx, fun _ a ha => ?_, fun z => by cases z⟩⟩
    exact k .non H2 e2 (.inl rfl)
def spCg : Sp := fun vs H Q _ => ∃ (m : Mach) (v : V), vs = [v] ∧ m.WF ∧ m.counters ≤ 1 ∧ Rep H (encM m) v ∧ RetR (fun u H' => LRep [] u H' ∨ ∃ es, Good m es ∧ MS.Closed m (es.map (·.2)) ∧ LRep (es.map encE) u H') H Q
theorem scCg : FnScope ["_law_machine_here", "e"] ["_law_machine_here"] (defScope sCg) := ⟨rfl, rfl, rfl, by decide +kernel, rfl, by decide +kernel, by decide +kernel⟩
theorem ok_cg {C fW f : Addr} {dW fd : FuncData} (F : Fun K "_law_catalogue" "_law_catalogue" sCg f fd) (XD : ExcD K mg "TooManyTables" C) (hx : PySem.W.exmOne K (.ref C) (.ref C) = some true) (cW : Cal P w K mg base (L2.CX P w) 7 "catalogue" ["machine"] (spCt C) fW dW) : FnOk P w K mg base CX0 8 f fd ["_law_machine_here"] spCg := by
  refine F.ok scCg (fun vs H Q E h => ?_) (fun cdv A outer s H vs Q E hr h => ?_)
  · obtain ⟨m, v, rfl, _⟩ := h
    rfl
  · obtain ⟨m, v, rfl, W, hc, r1, k⟩ := h
    refine ⟨fun D σ H => tRet (tCallS (spCt C) (WE (wAs K (.ref C) 1 (fun _ _ _ => tRet (tLst tNil)) (fun _ _ _ _ => False) D)) (tCons (tVar 0) tNil)) D σ H, pss_one (ps_try_as (i := 1) (tb := fun W => tRet (tCallS (spCt C) (WE W) (tCons (tVar 0) tNil))) (ts := fun _ _ _ => tRet (tLst tNil)) (Wout := fun _ _ _ _ => False) rfl rfl scCg.nd rfl rfl ⟨rfl, by decide, Or.inl XD.g⟩ takes0
      (fun W pn xe tk _ => pss_one (ps_ret (by exact (pe_callS cW.ok hr rfl cW.at_ cW.kp cW.b (fun σ => passAt tk σ) (by exact (pa_cons (pv 0) pa_nil))))))
      (fun a oe cls d pn hz hf => pss_one (ps_ret (pe_lst pa_nil)))), ?_⟩
    refine ⟨_, rfl, m, v, rfl, W, hc, r1, fun u H2 e2 ru => k u H2 e2 (.inr ru), fun H2 e2 => ⟨true, hx, fun _ a ha => ?_, fun z => by cases z⟩⟩
    exact ⟨Nat.zero_le _, fun l hl => k _ _ (e2.trans (Ex.new hl)) (.inl ⟨l, [], rfl, upd_same, .nil⟩)⟩
def spBd (Ps : List Addr) : Sp := fun vs H Q _ => ∃ (m : Mach) (v : V), vs = [v] ∧ m.WF ∧ m.counters ≤ 1 ∧ Tabs Ps H ∧ Rep H (encM m) v ∧
  RetM Ps (fun u H' => u = .non ∨ ∃ (a : Addr) (n : Int) (x : V), u = .ref a ∧ H' a = some (.tup [.int n, x]) ∧ (0 ≤ n → Bound m n.toNat)) H Q
theorem scBd : FnScope ["_law_machine_here", "e"] ["_law_machine_here"] (defScope sBd) := ⟨rfl, rfl, rfl, by decide +kernel, rfl, by decide +kernel, by decide +kernel⟩
theorem ok_bd {Ps : List Addr} {C C2 fW f : Addr} {dW fd : FuncData} (F : Fun K "_law_bound" "_law_bound" sBd f fd) (XD : ExcD K mg "TooManyPossibilities" C) (XD2 : ExcD K mg "NoBound" C2) (hx : PySem.W.exmOne K (.ref C) (.ref C) = some true) (hx2 : PySem.W.exmOne K (.ref C2) (.ref C2) = some true) (hx3 : PySem.W.exmOne K (.ref C2) (.ref C) = some false)
    (cW : Cal P w K mg base (L2.CX P w) 4 "least_bound" ["machine", "most"] (spLB Ps C C2) fW dW) : FnOk P w K mg base CX0 5 f fd ["_law_machine_here"] (spBd Ps) := by
  refine F.ok scBd (fun vs H Q E h => ?_) (fun cdv A outer s H vs Q E hr h => ?_)
  · obtain ⟨m, v, rfl, _⟩ := h
    rfl
  · obtain ⟨m, v, rfl, W, hc, tb, r1, k⟩ := h
    refine ⟨_, pss_one (ps_try_ms (i := 1) (n := "e") (tb := fun W => tRet (tCallS (spLB Ps C C2) (WE W) (tCons (tVar 0) (tCons (tC (.int 4)) tNil)))) (Wout := fun _ _ _ _ => False) (l := [(.ref C, fun _ _ _ => tRet (tC .non)), (.ref C2, fun _ _ _ => tRet (tTup (tCons (tOp (rI0 fun i j => .int (i - j)) (tC (.int 0)) (tC (.int 1))) (tCons (tC .non) tNil))))]) rfl rfl scBd.nd rfl rfl takes0
      (fun W pn xe tk _ => pss_one (ps_ret (by exact (pe_callS cW.ok hr rfl cW.at_ cW.kp cW.b (fun σ => passAt tk σ) (by exact (pa_cons (pv 0) (pa_cons pe_int pa_nil)))))))
      (.cons ⟨rfl, by decide, Or.inl XD.g⟩ (fun a oe cls d pn hz hf => pss_one (ps_ret pe_non)) (.cons ⟨rfl, by decide, Or.inl XD2.g⟩ (fun a oe cls d pn hz hf => pss_one (ps_ret (pe_tup (pa_cons (pe_op op_sub pe_int pe_int) (pa_cons pe_non pa_nil))))) .nil))), ?_⟩
    refine ⟨_, rfl, m, v, rfl, W, hc, tb, r1, fun u H2 e2 tb2 ⟨a, n, x, hu, ha, hB⟩ => k u H2 e2 tb2 (.inr ⟨a, n, x, hu, ha, fun _ => by simpa using hB⟩), fun H2 e2 tb2 => ⟨true, hx, fun _ a ha => ?_, fun z => (by cases z)⟩, fun H2 e2 tb2 => ⟨false, hx3, fun z => (by cases z), fun _ => ⟨true, hx2, fun _ a ha => ?_, fun z => by cases z⟩⟩⟩
    · exact k .non H2 e2 tb2 (.inl rfl)
    · refine ⟨_, _, rfl, rfl, by show 2 ≤ sizeLine; decide, fun t ht => ?_⟩
      exact k _ _ (e2.trans (Ex.new ht)) (tabs_ex (Ex.new ht) tb2) (.inr ⟨t, -1, .non, rfl, upd_same, fun h => absurd h (by decide)⟩)
end
end MW
end
section
set_option Elab.async false
set_option linter.all false
set_option maxRecDepth 100000
set_option maxHeartbeats 4000000
/-! costs_more, law. -/
namespace MW
open PySem PySem.Spec PyProof.Rows L2 Evl
open MS (Val Tab Mach Line Cfg)
section
variable {P : Program} {w : World} {K : PySem.W.Frag} {mg : PySem.Str → Option Value} {base : Heap}
abbrev sCm : Stmt := topS 61
def Grow (m : Mach) (ls : List Line) : Prop := ∀ n : Nat, (∃ k, MS.Acc m (MS.wordOf (MS.enough m n) ls) k) ∧ ¬ MS.Acc m (MS.wordOf (MS.enough m n) ls) n
def spCm : Sp := fun vs H Q _ => ∃ (m : Mach) (ls : List Line) (v1 v2 : V), vs = [v1, v2] ∧ m.WF ∧ m.counters ≤ 1 ∧ MS.LinesOk ls ∧ 1 ≤ ls.length ∧ ls.length ≤ 100 ∧ Grow m ls ∧ Rep H (encM m) v1 ∧ Rep H (.tup (ls.map encL)) v2 ∧ RetR (IsV (.bl true)) H Q
theorem scCm : FnScope ["_law_machine_here", "_law_recipe_here", "_law_number", "_law_word_here", "_law_told"] ["_law_machine_here", "_law_recipe_here"] (defScope sCm) := ⟨rfl, rfl, rfl, by decide +kernel, rfl, by decide +kernel, by decide +kernel⟩
theorem ok_cm {fE fW fC f : Addr} {dE dW dC fd : FuncData} (F : Fun K "_law_costs_more" "_law_costs_more" sCm f fd) (T : Txt K mg) (cEn : Cal P w K mg base CX0 1 "enough" ["machine", "number"] spEn fE dE) (cWd : Cal P w K mg base CX0 2 "_law_word" ["_law_recipe_here", "_law_times"] spWd fW dW)
    (cCo : Cal P w K mg base CX0 2 "_law_cost" ["_law_machine_here", "_law_word_here"] spCo fC dC) : FnOk P w K mg base CX0 3 f fd ["_law_machine_here", "_law_recipe_here"] spCm := by
  refine F.ok scCm (fun vs H Q E h => ?_) (fun cdv A outer s H vs Q E hr h => ?_)
  · obtain ⟨m, ls, v1, v2, rfl, _⟩ := h
    rfl
  · obtain ⟨m, ls, v1, v2, rfl, W, hc, ok, h1, h2, hG, r1, r2, k⟩ := h
    refine ⟨_, (pss_cons (ps_for PassesOwn.never rfl (pi_range1 (by rfl) T.range (pa_cons pe_int pa_nil)) (pg_name (i := 2) scCm.nd rfl (by first | exact Or.inl rfl | exact Or.inr rfl)) (pss_cons (ps_set (i := 3) scCm.nd rfl (by first | exact Or.inl rfl | exact Or.inr rfl) (pe_cal cWd hr pass0 (pa_cons (pv 1) (pa_cons (pe_cal cEn hr pass0 (pa_cons (pv 0) (pa_cons (pv 2) pa_nil))) pa_nil))))
      (pss_one (ps_if (PW.pt (pw_and (pt_cmp (pc_notN (pv 3))) (pw_and1 (pt_cmpR op_le (pe_callB call_len_seq (by rfl) T.len PySem.boot_len (pa_cons (pv 3) pa_nil)) pe_int (nomark _))))) (pss_cons (ps_set (i := 4) scCm.nd rfl (by first | exact Or.inl rfl | exact Or.inr rfl) (pe_cal cCo hr pass0 (pa_cons (pv 0) (pa_cons (pv 3) pa_nil))))
      (pss_one (ps_if (PW.pt (pw_or (pt_cmp (pc_isN (pv 4))) (pw_or1 (pt_cmpR op_le (pv 4) (pv 2) (nomark _))))) (pss_one (ps_ret pe_bl)) pss_nil))) pss_nil))))
      (pss_one (ps_ret pe_bl))), ?_⟩
    have s3 := W.s3
    refine q_forR1 (n := 2) (ea_cons ev_c ea_nil) (by decide) (fun i σ' H' => (∃ x y z : Option V, σ' = [some v1, some v2, x, y, z]) ∧ Ex H H') (fun H1 e1 => ⟨⟨_, _, _, rfl⟩, e1⟩) ?_ ?_
    · rintro i σ1 H1 hi ⟨⟨x, y, z, rfl⟩, e1⟩
      have hi2 : i < 2 := by omega
      have hen : 1 ≤ MS.enough m i ∧ MS.enough m i ≤ 100 := by
        have h0 := MS.enough_ge m i
        have hp : (i + 1) ^ m.counters ≤ 2 := by
          have : m.counters = 0 ∨ m.counters = 1 := by omega
          rcases this with h | h <;> rw [h]
          · simp
          · simp; omega
        have : m.states * (i + 1) ^ m.counters ≤ 3 * 2 := Nat.mul_le_mul s3 hp
        unfold MS.enough MS.rng at *
        omega
      show tSeq _ _ _ ([some v1, some v2, some (.int (i : Int)), y, z] : L2.St) H1
      refine q_asgM (C := fun u H2 => Ex H1 H2 ∧ (u = .non ∨ LRep ((MS.wordOf (MS.enough m i) ls).map encN) u H2)) (fun Q q => ⟨_, rfl, ?_⟩) fun u H2 ⟨e2, hu⟩ => ?_
      · refine ev_en (m := m) (n := i) (ta := tVar 0) (tb := tVar 2) (σ := [some v1, some v2, some (.int (i : Int)), y, z]) (H := H1) W hc (by omega) (er_var rfl (r1.ex e1)) (ev_var rfl) H1 (Ex.refl _) _ fun H2 e2 => ?_
        exact ⟨ls, MS.enough m i, v2, rfl, ok, h1, h2, hen.1, hen.2, r2.ex (e1.trans e2), fun u H3 e3 hu => q u H3 ⟨e2.trans e3, hu⟩⟩
      show tIfS _ _ _ _ ([some v1, some v2, some (.int (i : Int)), some u, z] : L2.St) H2
      rcases hu with rfl | hu
      · refine s_when (b := false && false) (et_and (et_is (et_B (ev_notVN (ev_var (v := .non) rfl))) (by decide)) fun z => by cases z) (fun z => by cases z) fun _ H3 e3 => ⟨⟨_, _, _, rfl⟩, (e1.trans e2).trans e3⟩
      · obtain ⟨p, us, hup, hp, ru⟩ := hu
        subst hup
        have hLR : LRep ((MS.wordOf (MS.enough m i) ls).map encN) (.ref p) H2 := ⟨p, us, rfl, hp, ru⟩
        have hlen := ev_lenLR (K := K) (σ := [some v1, some v2, some (.int (i : Int)), some (.ref p), z]) (H := H2) rfl (er_varR (i := 3) rfl (monoL _) hLR)
        refine s_when (b := true && decide ((((MS.wordOf (MS.enough m i) ls).map encN).length : Int) ≤ 60)) (et_and (et_is (et_B (ev_notVN (ev_var (v := .ref p) rfl))) (by simp)) fun _ => et_test (ev_leI hlen ev_c)) (fun hb H3 e3 => ?_) fun hb H3 e3 => ⟨⟨_, _, _, rfl⟩, (e1.trans e2).trans e3⟩
        have h60 : (MS.wordOf (MS.enough m i) ls).length ≤ 60 := by
          rw [Bool.true_and] at hb
          have := of_decide_eq_true hb
          rw [List.length_map] at this
          omega
        refine q_asgM (C := fun u H4 => Ex H3 H4 ∧ ∃ o : Option Nat, MS.CostIs m (MS.wordOf (MS.enough m i) ls) o ∧ u = (match o with | none => V.non | some v => .int (v : Int))) (fun Q q => ⟨_, rfl, _, rfl, ⟨m, MS.wordOf (MS.enough m i) ls, v1, .ref p, rfl, W, hc, by omega, r1.ex ((e1.trans e2).trans e3), monoL _ _ _ _ e3 hLR, fun u H4 e4 hu => q u H4 ⟨e4, hu⟩⟩⟩) fun u H4 ⟨e4, o, hco, hu⟩ => ?_
        obtain ⟨hg1, hg2⟩ := hG i
        cases o with
        | none =>
          obtain ⟨kk, hk⟩ := hg1
          exact absurd hk (hco kk)
        | some v =>
          subst hu
          have hvi : i < v := Nat.lt_of_not_le fun hle => hg2 (MS.Acc.mono hle hco.1)
          show tIfS _ _ _ _ ([some v1, some v2, some (.int (i : Int)), some (.ref p), some (.int (v : Int))] : L2.St) H4
          refine s_when (b := false || false) (et_or (et_is (et_B (ev_isVN (ev_var (v := .int (v : Int)) rfl))) (by simp)) fun _ => et_is (et_test (ev_leI (i := (v : Int)) (j := (i : Int)) (ev_var rfl) (ev_var rfl))) (decide_eq_false (by omega))) (fun z => by cases z) fun _ H5 e5 => ⟨⟨_, _, _, rfl⟩, (((e1.trans e2).trans e3).trans e4).trans e5⟩
    · rintro σ1 H1 ⟨⟨x, y, z, rfl⟩, e1⟩
      exact s_ret ev_c fun H2 e2 => k _ H2 (e1.trans e2) rfl
end
end MW
end
section
set_option Elab.async false
set_option linter.all false
set_option maxRecDepth 100000
set_option maxHeartbeats 4000000
/-! law. -/
namespace MW
open PySem PySem.Spec PyProof.Rows L2 Evl
open MS (Val Tab Mach Line Cfg)
/-- None, or a tuple -/
def NonT (H : Hp) (z : V) : Prop := z = .non ∨ ∃ a us, z = .ref a ∧ H a = some (.tup us)
theorem nont_is {z : V} {u : Value} {H : Hp} (r : RelV z u) (f : NonT H z) : PySem.Numpy.isNone u = isNon z := by
  rcases f with rfl | ⟨a, us, rfl, _⟩
  · cases r; rfl
  · cases r; rfl
theorem nont_any {H : Hp} : ∀ {xs : List V} {us : List Value}, Vals xs us → (∀ z ∈ xs, NonT H z) → us.any PySem.Numpy.isNone = xs.any isNon
  | _, _, .nil, _ => rfl
  | y :: xs, u :: us, .cons r t, f => by
    rw [List.any_cons, List.any_cons, nont_is r (f y (List.mem_cons_self ..)), nont_any t fun z hz => f z (List.mem_cons_of_mem _ hz)]
section
variable {X : Cx}
theorem nont_eq {A : Around} {pins : List (Addr × Obj)} {σ : L2.St} {H : Hp} {s : Shared} (I : Inv X pins σ H s) (hu : A.units < cLine) {z : V} {u : Value} (r : RelV z u) (f : NonT H z) : SeqAt.EqAt A s u .none (PySem.Numpy.isNone u) := by
  rcases f with rfl | ⟨a, us, rfl, ha⟩
  · cases r
    exact SeqAt.EqAt.same _
  · cases r
    obtain ⟨its, rv, ⟨o, ho, hc, n, hd⟩, _⟩ := I.tuple (SqT.of ha)
    exact SeqAt.EqAt.tuple_none ⟨o, ho, hc, n, hd⟩ hu
theorem nont_mem {A : Around} {pins : List (Addr × Obj)} {σ : L2.St} {H : Hp} {s : Shared} (I : Inv X pins σ H s) (hu : A.units < cLine) : ∀ {xs : List V} {us : List Value}, Vals xs us → (∀ z ∈ xs, NonT H z) → ∀ u ∈ us, SeqAt.EqAt A s u .none (PySem.Numpy.isNone u)
  | _, _, .nil, _ => fun u hu' => by cases hu'
  | y :: xs, u :: us, .cons r t, f => fun u' hu' => by
    rcases List.mem_cons.mp hu' with e | hu'
    · subst e
      exact nont_eq I hu r (f y (List.mem_cons_self ..))
    · exact nont_mem I hu t (fun z hz => f z (List.mem_cons_of_mem _ hz)) u' hu'
def rNoneT (K : PySem.W.Frag) : R2 := fun x y H Q => ∃ p xs, x = .non ∧ y = .ref p ∧ SqL K H p xs ∧ (∀ z ∈ xs, NonT H z) ∧ Q (.bl (!xs.any isNon)) H
theorem op_noneT (hu : X.A.units + 64 < cLine) : OpR X (compareOp .NotIn) (rNoneT X.K) := by
  intro pins s σ H x y v u Q I rx ry h
  obtain ⟨p, xs, rfl, rfl, hq, f, q⟩ := h
  cases rx
  cases ry
  obtain ⟨its, rv, hl, _⟩ := I.list hq
  have hu1 : X.A.in1.units < cLine := by show X.A.units + 1 < cLine; omega
  refine SeqAt.notIn_listAt PySem.Numpy.isNone hl.isList (fun z hz => nont_mem I hu1 rv f z (by simpa using hz)) ⟨.bl _, H, I, rfl, ?_⟩
  rw [show its.toArray.any PySem.Numpy.isNone = its.any PySem.Numpy.isNone by simp, nont_any rv f]
  exact q
end
section
variable {P : Program} {w : World} {K : PySem.W.Frag} {mg : PySem.Str → Option Value} {base : Heap}
theorem nont_O {H : Hp} : ∀ {os : List (Option Tab)} {xs : List V}, Reps H (os.map encO) xs → (∀ z ∈ xs, NonT H z) ∧ xs.any isNon = os.any Option.isNone
  | [], _, h => by cases h; exact ⟨fun z hz => (by cases hz), rfl⟩
  | o :: os, _, h => by
    cases h with
    | cons h1 h2 =>
      obtain ⟨g1, g2⟩ := nont_O h2
      refine ⟨fun z hz => ?_, ?_⟩
      · rcases List.mem_cons.mp hz with rfl | hz
        · cases o with
          | none => cases h1; exact .inl rfl
          | some T =>
            obtain ⟨a, us, rfl, ha, _⟩ := rep_tup h1
            exact .inr ⟨a, us, rfl, ha⟩
        · exact g1 z hz
      · rw [List.any_cons, List.any_cons, g2]
        cases o with
        | none => cases h1; rfl
        | some T =>
          obtain ⟨a, us, rfl, ha, _⟩ := rep_tup h1
          rfl
theorem ev_noneT {σ : L2.St} {H : Hp} {te : TE} {os : List (Option Tab)} (h : EvR te σ H (LRep (os.map encO))) : Ev (tOp (rNoneT K) (tC .non) te) σ H (.bl (!os.any Option.isNone)) := fun H1 e Q q =>
  h H1 e _ fun v H2 e2 r => by
    obtain ⟨p, vs, rfl, hp, rv⟩ := r
    obtain ⟨g1, g2⟩ := nont_O rv
    refine ⟨p, vs, rfl, rfl, SqL.of hp, g1, ?_⟩
    rw [g2]
    exact q H2 e2
theorem ev_cm {σ : L2.St} {H : Hp} {ta tb : TE} {m : Mach} {ls : List Line} (W : m.WF) (hc : m.counters ≤ 1) (ok : MS.LinesOk ls) (h1 : 1 ≤ ls.length) (h2 : ls.length ≤ 100) (hG : Grow m ls) (ha : EvR ta σ H (RepR (encM m))) (hb : EvR tb σ H (RepR (.tup (ls.map encL)))) :
    Ev (tCall spCm [] E0 (tCons ta (tCons tb tNil))) σ H (.bl true) :=
  (er_call (ea1 ha (monoRep _) (ea1 hb (monoRep _) ea0)) fun vs H2 e rs Q q => by
    obtain ⟨v1, v2, rfl, k1, k2⟩ := args2 rs
    exact ⟨m, ls, v1, v2, rfl, W, hc, ok, h1, h2, hG, k1, k2, q⟩).ev
theorem er_j {σ : L2.St} {H : Hp} {ta tb : TE} {m : Mach} {es : List (Line × Tab)} (W : m.WF) (hc : m.counters ≤ 1) (hl : es.length ≤ 100) (he : ∀ (i : Nat) (e : Line × Tab), es[i]? = some e → e.1.ok i ∧ MS.IsTab m.states e.2) (ha : EvR ta σ H (RepR (encM m))) (hb : EvR tb σ H (LRep (es.map encE))) :
    EvR (tCall spJ [] E0 (tCons ta (tCons tb tNil))) σ H (Judged m es) :=
  er_call (ea1 ha (monoRep _) (ea1 hb (monoL _) ea0)) fun vs H2 e rs Q q => by
    obtain ⟨v1, v2, rfl, k1, k2⟩ := args2 rs
    exact ⟨m, es, v1, v2, rfl, W, hc, hl, he, k1, k2, q⟩
/-- what a verdict says -/
theorem judged_cases {m : Mach} {es : List (Line × Tab)} {u : V} {H : Hp} (h : Judged m es u H) : (∃ (n : Nat) (l : Line) (T : Tab), Rep H (.tup [.text "grows", encN n]) u ∧ MS.Cons m es ∧ es[n]? = some (l, T) ∧ MS.bestV m T = .gr) ∨
    (∃ (s : PySem.Str) (r : List D), Rep H (.tup (.text s :: r)) u ∧ decide (V.str s = .str "grows") = false ∧ (MS.Cons m es → MS.Closed m (es.map (·.2)) → s = "bounded" ∧ r = [])) := by
  rcases h with ⟨n, r, h⟩ | ⟨n, l, T, r, h⟩ | ⟨r, h⟩ | r
  · exact .inr ⟨_, _, r, by decide +kernel, fun a _ => absurd a h⟩
  · exact .inl ⟨n, l, T, r, h⟩
  · exact .inr ⟨_, _, r, by decide +kernel, fun _ a => absurd a h⟩
  · exact .inr ⟨_, _, r, by decide +kernel, fun _ _ => ⟨rfl, rfl⟩⟩
theorem grow_of {m : Mach} (W : m.WF) (hc : m.counters ≤ 1) {es : List (Line × Tab)} (C : MS.Cons m es) {t : Nat} {l : Line} {T : Tab} (h : es[t]? = some (l, T)) (g : MS.bestV m T = .gr) : Grow m ((es.map (·.1)).take (t + 1)) := fun n => MS.grows_cost W hc C n t h g
theorem linesOk_take {ls : List Line} (h : MS.LinesOk ls) (n : Nat) : MS.LinesOk (ls.take n) := fun i l e => by
  rw [List.getElem?_take] at e
  split at e
  · exact h i l e
  · cases e
theorem linesOk_of {m : Mach} {es : List (Line × Tab)} (he : ∀ (i : Nat) (e : Line × Tab), es[i]? = some e → e.1.ok i ∧ MS.IsTab m.states e.2) : MS.LinesOk (es.map (·.1)) := fun i l e => by
  rw [List.getElem?_map] at e
  obtain ⟨x, hx, rfl⟩ := Option.map_eq_some_iff.mp e
  exact (he i x hx).1
/-- costs_more on the lines up to the one that grows -/
theorem ev_up {σ : L2.St} {H : Hp} {ta tb tc : TE} {m : Mach} {es : List (Line × Tab)} {ls : List Line} {n : Nat} {l : Line} {T : Tab} (W : m.WF) (hc : m.counters ≤ 1) (hl : es.length ≤ 100) (hls : es.map (·.1) = ls) (ok : MS.LinesOk ls) (C : MS.Cons m es) (h : es[n]? = some (l, T)) (g : MS.bestV m T = .gr)
    (ha : EvR ta σ H (RepR (encM m))) (hb : EvR tb σ H (RepR (.tup (ls.map encL)))) (hd : EvR tc σ H (RepR (.tup [.text "grows", encN n]))) :
    Ev (tCall spCm [] E0 (tCons ta (tCons (tSl (rSlA K) tb tNoPart (tPart (tOp (rI0 fun i j => .int (i + j)) (tOp (rIxT K) tc (tC (.int 1))) (tC (.int 1))))) tNil))) σ H (.bl true) := by
  have hn : n < es.length := (List.getElem?_eq_some_iff.mp h).1
  have hlen : ls.length = es.length := by rw [← hls, List.length_map]
  have hG := grow_of W hc C h g
  rw [hls] at hG
  refine ev_cm (ls := ls.take (n + 1)) W hc (linesOk_take ok _) (by rw [List.length_take]; omega) (by rw [List.length_take]; omega) hG ha ?_
  rw [List.map_take]
  exact er_slTo (n := n + 1) hb (ev_to (ev_add (er_num (er_ixn (n := 1) hd ev_c rfl)) (ev_c (v := .int 1))) (by push_cast; rfl))
theorem zip_es {m : Mach} {ls : List Line} {os : List (Option Tab)} (hlen : os.length = ls.length) (h : os.any Option.isNone = false) : ∃ es : List (Line × Tab), es.map (·.1) = ls ∧ os = es.map fun e => some e.2 := by
  induction ls generalizing os with
  | nil => cases os with
    | nil => exact ⟨[], rfl, rfl⟩
    | cons _ _ => cases hlen
  | cons l ls ih =>
    cases os with
    | nil => cases hlen
    | cons o os =>
      rw [List.any_cons] at h
      cases o with
      | none => cases h
      | some T =>
        obtain ⟨es, h1, h2⟩ := ih (os := os) (by simpa using hlen) (by simpa using h)
        exact ⟨(l, T) :: es, by simp [h1], by simp [h2]⟩
theorem q_mid {σ : L2.St} {H : Hp} {De : Ends} {tb tz : TS} (Pv : L2.St → Hp → Prop) (h : ∀ N : L2.St → Hp → Prop, (∀ σ' H', Pv σ' H' → N σ' H') → tb { De with nx := N } σ H) (k : ∀ σ' H', Pv σ' H' → tz De σ' H') : tSeq tb tz De σ H := h _ k
theorem tabs_mk {Ps : List Addr} {H : Hp} {b : Addr} (t : Tabs Ps H) (h : b ∉ Ps) : Tabs Ps (Mk [b] H) := fun p hp => by
  obtain ⟨ps, h1, h2⟩ := t p hp
  refine ⟨ps, ?_, h2⟩
  unfold Mk
  rw [if_neg (by simp only [List.mem_singleton]; intro z; exact h (z ▸ hp))]
  exact h1
abbrev sLw : Stmt := topS 62
def spLw (K : PySem.W.Frag) (Ps : List Addr) : Sp := fun vs H Q _ => ∃ (a : Addr) (ns : List Int), vs = [.ref a] ∧ SqL K H a (ns.map V.int) ∧ ns.length ≤ 63 ∧ Tabs Ps H ∧ ∀ H', Q (.bl true) H'
theorem scLw : FnScope ["_law_script", "_law_box_here", "_law_machine_here", "_law_recipe_here", "_law_tables", "_law_told", "_law_entries", "_law_lines", "_law_bound_here", "_law_word_here", "_law_spent", "_law_k", "_law_entry"] ["_law_script"] (defScope sLw) := ⟨rfl, rfl, rfl, by decide +kernel, rfl, by decide +kernel, by decide +kernel⟩
theorem ok_lw {Ps : List Addr} {fBx fMa fNx fRc fTs fJ fCm fCg fBd fWs fCo f : Addr} {dBx dMa dNx dRc dTs dJ dCm dCg dBd dWs dCo fd : FuncData} (F : Fun K "law" "law" sLw f fd) (T : Txt K mg) (cBx : Cal P w K mg base CX0 2 "_law_box" ["_law_script"] (spBx K) fBx dBx)
    (cMa : Cal P w K mg base CX0 3 "_law_machine" ["_law_box_here", "_law_letters"] spMa fMa dMa) (cNx : Cal P w K mg base CX0 1 "_law_next" ["_law_box_here", "_law_modulus"] spNext fNx dNx) (cRc : Cal P w K mg base CX0 3 "_law_recipe" ["_law_box_here", "_law_most", "_law_letters"] spRc fRc dRc)
    (cTs : Cal P w K mg base CX0 5 "tables_of" ["machine", "recipe"] spTS fTs dTs) (cJ : Cal P w K mg base CX0 5 "judge_catalogue" ["machine", "entries"] spJ fJ dJ) (cCm : Cal P w K mg base CX0 3 "_law_costs_more" ["_law_machine_here", "_law_recipe_here"] spCm fCm dCm)
    (cCg : Cal P w K mg base CX0 8 "_law_catalogue" ["_law_machine_here"] spCg fCg dCg) (cBd : Cal P w K mg base CX0 5 "_law_bound" ["_law_machine_here"] (spBd Ps) fBd dBd) (cWs : Cal P w K mg base CX0 1 "_law_words" ["_law_letters", "_law_most"] spWs fWs dWs)
    (cCo : Cal P w K mg base CX0 2 "_law_cost" ["_law_machine_here", "_law_word_here"] spCo fCo dCo) : FnOk P w K mg base CX0 9 f fd ["_law_script"] (spLw K Ps) := by
  refine F.ok scLw (fun vs H Q E h => ?_) (fun cdv A outer s H vs Q E hr h => ?_)
  · obtain ⟨a, ns, rfl, _⟩ := h
    rfl
  · obtain ⟨a, ns, rfl, hq, hl, tb0, k⟩ := h
    refine ⟨_, (pss_cons (ps_set (i := 1) scLw.nd rfl (by first | exact Or.inl rfl | exact Or.inr rfl) (pe_cal cBx hr pass0 (pa_cons (pv 0) pa_nil)))
      (pss_cons (ps_set (i := 2) scLw.nd rfl (by first | exact Or.inl rfl | exact Or.inr rfl) (pe_cal cMa hr pass0 (pa_cons (pv 1) (pa_cons (pe_op op_add pe_int (pe_cal cNx hr pass0 (pa_cons (pv 1) (pa_cons pe_int pa_nil)))) pa_nil))))
      (pss_cons (ps_if (pt_cmpR op_gt (pe_ix ix_tup (pv 2) pe_int (fun _ _ => rfl)) pe_int (nomark _)) (pss_one (ps_ret pe_bl)) pss_nil)
      (pss_cons (ps_set (i := 3) scLw.nd rfl (by first | exact Or.inl rfl | exact Or.inr rfl) (pe_cal cRc hr pass0 (pa_cons (pv 1) (pa_cons pe_int (pa_cons (pe_ix ix_tup (pv 2) pe_int (fun _ _ => rfl)) pa_nil)))))
      (pss_cons (ps_set (i := 4) scLw.nd rfl (by first | exact Or.inl rfl | exact Or.inr rfl) (pe_cal cTs hr pass0 (pa_cons (pv 2) (pa_cons (pv 3) pa_nil))))
      (pss_cons (ps_if (pt_cmpR (op_noneT hr.units) pe_non (pv 4) (by rfl)) (pss_cons (ps_set (i := 5) scLw.nd rfl (by first | exact Or.inl rfl | exact Or.inr rfl) (pe_cal cJ hr pass0 (pa_cons (pv 2) (pa_cons (pe_lc (own := [("_law_k", 11)]) (tt := tYes) (te := (tTup (tCons (tOp (rIxT K) (tVar 3) (tVar 11)) (tCons (tOp (rIxL K) (tVar 4) (tVar 11)) tNil)))) rfl scLw.nd (pi_range1 (by rfl) T.range (pa_cons (pe_callB call_len_seq (by rfl) T.len PySem.boot_len (pa_cons (pv 3) pa_nil)) pa_nil)) (blkOk_by (N := ["_law_script", "_law_box_here", "_law_machine_here", "_law_recipe_here", "_law_tables", "_law_told", "_law_entries", "_law_lines", "_law_bound_here", "_law_word_here", "_law_spent", "_law_k", "_law_entry"]) (sc := defScope sLw) (own := [("_law_k", 11)]) (by decide +kernel)) (fun _ _ _ _ _ => (pg_name (i := 11) scLw.nd rfl (by first | exact Or.inl rfl | exact Or.inr rfl))) (fun _ _ _ _ _ => pts_nil) (fun _ _ _ _ _ => (pe_tup (pa_cons (pe_ix ix_tup (pv 3) (pv 11) (fun _ _ => rfl)) (pa_cons (pe_ix ix_list (pv 4) (pv 11) (fun _ _ => rfl)) pa_nil))))) pa_nil))))
      (pss_one (ps_if (PW.pt (pw_and (pt_cmpR op_eq (pe_ix ix_tup (pv 5) pe_int (fun _ _ => rfl)) pe_str (nomark _)) (pw_and1 (pt_not (pt_val (pe_cal cCm hr pass0 (pa_cons (pv 2) (pa_cons (pe_slice sl_tupA (pv 3) po_none (po_some (pe_op op_add (pe_ix ix_tup (pv 5) pe_int (fun _ _ => rfl)) pe_int))) pa_nil)))))))) (pss_one (ps_ret pe_bl)) pss_nil))) pss_nil)
      (pss_cons (ps_set (i := 6) scLw.nd rfl (by first | exact Or.inl rfl | exact Or.inr rfl) (pe_cal cCg hr pass0 (pa_cons (pv 2) pa_nil)))
      (pss_cons (ps_if (PW.pt (pw_or (pt_cmpR op_gt (pe_callB call_len_seq (by rfl) T.len PySem.boot_len (pa_cons (pv 6) pa_nil)) pe_int (nomark _)) (pw_or1 (pt_cmpR op_eq (pe_callB call_len_seq (by rfl) T.len PySem.boot_len (pa_cons (pv 6) pa_nil)) pe_int (nomark _))))) (pss_one (ps_ret pe_bl)) pss_nil)
      (pss_cons (ps_set (i := 5) scLw.nd rfl (by first | exact Or.inl rfl | exact Or.inr rfl) (pe_cal cJ hr pass0 (pa_cons (pv 2) (pa_cons (pv 6) pa_nil))))
      (pss_cons (ps_if (pt_cmpR op_eq (pe_ix ix_tup (pv 5) pe_int (fun _ _ => rfl)) pe_str (nomark _)) (pss_cons (ps_set (i := 7) scLw.nd rfl (by first | exact Or.inl rfl | exact Or.inr rfl) (pe_callTy call_tuple_of (by rfl) T.tuple (by decide +kernel) (pa_cons (pe_lc (own := [("_law_entry", 12)]) (tt := tYes) (te := (tOp (rIxT K) (tVar 12) (tC (.int 0)))) rfl scLw.nd (pi_list (pv 6)) (blkOk_by (N := ["_law_script", "_law_box_here", "_law_machine_here", "_law_recipe_here", "_law_tables", "_law_told", "_law_entries", "_law_lines", "_law_bound_here", "_law_word_here", "_law_spent", "_law_k", "_law_entry"]) (sc := defScope sLw) (own := [("_law_entry", 12)]) (by decide +kernel)) (fun _ _ _ _ _ => (pg_name (i := 12) scLw.nd rfl (by first | exact Or.inl rfl | exact Or.inr rfl))) (fun _ _ _ _ _ => pts_nil) (fun _ _ _ _ _ => (pe_ix ix_tup (pv 12) pe_int (fun _ _ => rfl)))) pa_nil)))
      (pss_one (ps_ret (pe_cal cCm hr pass0 (pa_cons (pv 2) (pa_cons (pe_slice sl_tupA (pv 7) po_none (po_some (pe_op op_add (pe_ix ix_tup (pv 5) pe_int (fun _ _ => rfl)) pe_int))) pa_nil)))))) pss_nil)
      (pss_cons (ps_set (i := 8) scLw.nd rfl (by first | exact Or.inl rfl | exact Or.inr rfl) (pe_cal cBd hr pass0 (pa_cons (pv 2) pa_nil)))
      (pss_cons (ps_if (PW.pt (pw_or (pt_cmpR (op_neN hr.units) (pv 5) (pe_tup (pa_cons pe_str pa_nil)) (nomark _)) (pw_or1 (pt_cmp (pc_isN (pv 8)))))) (pss_one (ps_ret (pe_cmpR (op_eqN hr.units) (pv 5) (pe_tup (pa_cons pe_str pa_nil)) (nomark _)))) pss_nil)
      (pss_cons (ps_if (pt_cmpR op_lt (pe_ix ix_tup (pv 8) pe_int (fun _ _ => rfl)) pe_int (nomark _)) (pss_one (ps_ret pe_bl)) pss_nil)
      (pss_cons (ps_for PassesOwn.never rfl (pi_list (pe_cal cWs hr pass0 (pa_cons (pe_ix ix_tup (pv 2) pe_int (fun _ _ => rfl)) (pa_cons pe_int pa_nil)))) (pg_name (i := 9) scLw.nd rfl (by first | exact Or.inl rfl | exact Or.inr rfl)) (pss_cons (ps_set (i := 10) scLw.nd rfl (by first | exact Or.inl rfl | exact Or.inr rfl) (pe_cal cCo hr pass0 (pa_cons (pv 2) (pa_cons (pv 9) pa_nil))))
      (pss_one (ps_if (PW.pt (pw_and (pt_cmp (pc_notN (pv 10))) (pw_and1 (pt_cmpR op_gt (pv 10) (pe_ix ix_tup (pv 8) pe_int (fun _ _ => rfl)) (nomark _))))) (pss_one (ps_ret pe_bl)) pss_nil))))
      (pss_one (ps_ret pe_bl)))))))))))))))), ?_⟩
    refine q_asgM (C := fun u H1 => Ex H H1 ∧ ∃ b lb, u = .ref b ∧ Box H1 b lb ∧ H b = none) (fun Q q => ⟨_, rfl, ⟨a, ns, rfl, hq, hl, fun u H1 e1 hu => q u H1 ⟨e1, hu⟩⟩⟩) fun u H1 ⟨e1, b, lb, hu, b1, hb0⟩ => ?_
    subst hu
    have hbP : b ∉ Ps := fun hp => by obtain ⟨_, h, _⟩ := tb0 b hp; rw [hb0] at h; cases h
    have t1 := tabs_ex e1 tb0
    show tSeq _ _ _ ([some (.ref a), some (.ref b), none, none, none, none, none, none, none, none, none, none, none] : L2.St) H1
    refine q_asgM (C := fun u H3 => Ex (Mk [b] H1) H3 ∧ Box H3 b lb ∧ ∃ m : Mach, m.WF ∧ Rep H3 (encM m) u) (fun Q q => ?_) fun vm H2 ⟨e2, b2, m, W, rm⟩ => ?_
    · refine ⟨_, rfl, ⟨_, rfl, ⟨b, lb, 2, rfl, by decide, b1, fun k1 H2 hk e2 b2 => ⟨1, (k1 : Int), rfl, rfl, ?_⟩⟩⟩⟩
      refine ⟨b, lb, 1 + k1, by rw [Int.natCast_add]; rfl, by omega, by omega, b2, fun u H3 e3 b3 hu => q u H3 ⟨mk_trans e2 e3, b3, hu⟩⟩
    have t2 := tabs_ex e2 (tabs_mk t1 hbP)
    show tSeq _ _ _ ([some (.ref a), some (.ref b), some vm, none, none, none, none, none, none, none, none, none, none] : L2.St) H2
    refine q_when (et_test (ev_gtI (er_num (er_ixn (n := 1) (d := encN m.counters) (er_var rfl rm) ev_c rfl)) (ev_c (v := .int 1)))) (fun _ H3 _ => s_ret ev_c fun H4 _ => k H4) fun hb H3 e3 => ?_
    have hc : m.counters ≤ 1 := by have := of_decide_eq_false hb; omega
    have l1 := W.l1
    have l2 := W.l2
    have b3 := bx_ex e3 b2
    have t3 := tabs_ex e3 t2
    have rm3 := rm.ex e3
    refine q_asgM (C := fun u H4 => Ex (Mk [b] H3) H4 ∧ ∃ ls : List Line, MS.LinesOk ls ∧ 1 ≤ ls.length ∧ ls.length ≤ 7 ∧ Rep H4 (.tup (ls.map encL)) u) (fun Q q => ?_) fun vr H4 ⟨e4, ls, ok, hl1, hl7, rr⟩ => ?_
    · refine ⟨_, rfl, er_num (er_ixn (n := 2) (d := encN m.letters) (er_var rfl rm3) ev_c rfl) H3 (Ex.refl _) _ fun H4 e4 => ?_⟩
      exact ⟨b, lb, m.letters, rfl, l1, bx_ex e4 b3, fun u H5 e5 _ hu => q u H5 ⟨mk_trans ((mk_ex _ _).trans e4) e5, hu⟩⟩
    have t4 := tabs_ex e4 (tabs_mk t3 hbP)
    have rm4 : Rep H4 (encM m) vm := rm3.tx ((bx_tex b3).trans (TEx.of e4))
    show tSeq _ _ _ ([some (.ref a), some (.ref b), some vm, some vr, none, none, none, none, none, none, none, none, none] : L2.St) H4
    refine qr_asg (er_ts W hc ok (by omega) (er_var rfl rm4) (er_var rfl rr)) fun vt H5 e5 rt => ?_
    have hto := tabsOf_len m ls
    show tSeq _ _ _ ([some (.ref a), some (.ref b), some vm, some vr, some vt, none, none, none, none, none, none, none, none] : L2.St) H5
    refine q_mid (fun σ' H' => (∃ x, σ' = [some (.ref a), some (.ref b), some vm, some vr, some vt, x, none, none, none, none, none, none, none]) ∧ Ex H5 H') (fun N hN => ?_) ?_
    · refine s_when (et_test (ev_noneT (er_varR (i := 4) rfl (monoL _) rt))) (fun hb H6 e6 => ?_) fun hb H6 e6 => hN _ _ ⟨⟨_, rfl⟩, e6⟩
      obtain ⟨es, hes1, hes2⟩ := zip_es (m := m) hto (by simpa using hb)
      have hel : es.length = ls.length := by rw [← hes1, List.length_map]
      have hee : ∀ (i : Nat) (e : Line × Tab), es[i]? = some e → e.1.ok i ∧ MS.IsTab m.states e.2 := fun i e he => by
        refine ⟨ok i _ (by rw [← hes1, List.getElem?_map, he]; rfl), tabsOf_ok m ls _ ?_⟩
        rw [hes2]
        exact List.mem_map.mpr ⟨e, List.mem_of_getElem? he, rfl⟩
      have rm6 := rm4.ex (e5.trans e6)
      have rr6 := rr.ex (e5.trans e6)
      have rt6 := monoL _ _ _ _ e6 rt
      refine qr_asg (er_j (es := es) W hc (by omega) hee (er_var rfl rm6) ?_) fun vj H7 e7 rj => ?_
      · have hf : es.map encE = (List.range ls.length).map fun k => (es[k]?.map encE).getD .none := by
          rw [← hel]
          refine List.ext_getElem? fun i => ?_
          rw [List.getElem?_map, List.getElem?_map]
          by_cases h : i < es.length
          · rw [List.getElem?_range h, List.getElem?_eq_getElem h]
            simp [h]
          · rw [List.getElem?_eq_none (by omega), List.getElem?_eq_none (by rw [List.length_range]; omega)]
            rfl
        rw [hf]
        refine el_rng (fun H8 e8 R q => ?_) (by omega) fun j hj => ?_
        · refine ea_cons (ev_lenT (K := K) rfl (er_var (i := 3) rfl rr6)) ea_nil H8 e8 _ fun H9 e9 => ?_
          rw [List.length_map]
          refine ⟨(ls.length : Int), rfl, by omega, by omega, ?_⟩
          rw [Int.toNat_natCast]
          exact q H9 e9
        · have hj' : j < es.length := by omega
          obtain ⟨e, he⟩ : ∃ e, es[j]? = some e := ⟨_, List.getElem?_eq_getElem hj'⟩
          rw [he]
          show EvR _ _ _ (RepR (.tup [encL e.1, encT e.2]))
          refine er_tup (ds := [encL e.1, encT e.2]) (ea1 (er_ixn (n := j) (ks := ls.map encL) (er_var (i := 3) rfl rr6) (ev_var rfl) ?_) (monoRep _) (ea1 (er_ixL (i := j) (ks := (tabsOf m ls).map encO) (er_varR (i := 4) rfl (monoL _) rt6) (ev_var rfl) ?_) (monoRep _) ea0)) (by show 2 ≤ 100000; decide)
          · rw [← hes1, List.getElem?_map, List.getElem?_map, he]; rfl
          · rw [hes2, List.getElem?_map, List.getElem?_map, he]; rfl
      have nx7 : N [some (.ref a), some (.ref b), some vm, some vr, some vt, some vj, none, none, none, none, none, none, none] H7 := hN _ _ ⟨⟨_, rfl⟩, e6.trans e7⟩
      have nxE : ∀ H8, Ex H7 H8 → N [some (.ref a), some (.ref b), some vm, some vr, some vt, some vj, none, none, none, none, none, none, none] H8 := fun H8 e8 => hN _ _ ⟨⟨_, rfl⟩, (e6.trans e7).trans e8⟩
      show tIfS _ _ _ _ ([some (.ref a), some (.ref b), some vm, some vr, some vt, some vj, none, none, none, none, none, none, none] : L2.St) H7
      rcases judged_cases rj with ⟨n, l, T, rj, C, hn, g⟩ | ⟨s, r, rj, hs, _⟩
      · refine s_when (b := true && !true) (et_and (et_is (et_test (ev_op (er_str (er_ixn (n := 0) (er_var (i := 5) rfl rj) ev_c rfl)) ev_c (rv_eq rfl))) (by decide +kernel)) fun _ => et_not (et_B (ev_up W hc (by omega) hes1 ok C hn g (er_var rfl (rm6.ex e7)) (er_var rfl (rr6.ex e7)) (er_var rfl rj)))) (fun z => by cases z) fun _ H8 e8 => nxE H8 e8
      · exact s_when (b := false && false) (et_and (et_is (et_test (ev_op (er_str (er_ixn (n := 0) (er_var (i := 5) rfl rj) ev_c rfl)) ev_c (rv_eq rfl))) hs) fun z => by cases z) (fun z => by cases z) fun _ H8 e8 => nxE H8 e8
    rintro σ6 H6 ⟨⟨x5, rfl⟩, e6⟩
    have rm6 := rm4.ex (e5.trans e6)
    have t6 := tabs_ex (e5.trans e6) t4
    refine qr_asg (R := fun u H' => ∃ es, LRep (es.map encE) u H' ∧ (es = [] ∨ (Good m es ∧ MS.Closed m (es.map (·.2))))) (er_call (ea1 (er_var rfl rm6) (monoRep _) ea0) fun vs H7 e7 rs Q q => ?_) fun ve H7 e7 ⟨es, re, hes⟩ => ?_
    · obtain ⟨v, rfl, hv⟩ := args1 rs
      refine ⟨m, v, rfl, W, hc, hv, fun u H8 e8 hu => q u H8 e8 ?_⟩
      rcases hu with hu | ⟨es, hg, hcl, hu⟩
      · exact ⟨[], hu, .inl rfl⟩
      · exact ⟨es, hu, .inr ⟨hg, hcl⟩⟩
    have rm7 := rm6.ex e7
    have t7 := tabs_ex e7 t6
    show tSeq _ _ _ ([some (.ref a), some (.ref b), some vm, some vr, some vt, x5, some ve, none, none, none, none, none, none] : L2.St) H7
    have hlen := ev_lenLR (K := K) (σ := [some (.ref a), some (.ref b), some vm, some vr, some vt, x5, some ve, none, none, none, none, none, none]) (H := H7) rfl (er_varR (i := 6) rfl (monoL _) re)
    refine q_when (et_or (et_test (ev_gtI hlen (ev_c (v := .int 12)))) fun _ => et_test (ev_eqI hlen (ev_c (v := .int 0)))) (fun _ H8 _ => s_ret ev_c fun H9 _ => k H9) fun hb H8 e8 => ?_
    have hne : es ≠ [] := fun z => by subst z; simp at hb
    obtain ⟨⟨hee, hCons, he100⟩, hClosed⟩ : Good m es ∧ MS.Closed m (es.map (·.2)) := hes.resolve_left hne
    have rm8 := rm7.ex e8
    have re8 := monoL _ _ _ _ e8 re
    refine qr_asg (er_j (es := es) W hc he100 hee (er_var rfl rm8) (er_varR (i := 6) rfl (monoL _) re8)) fun vj H9 e9 rj => ?_
    have rm9 := rm8.ex e9
    have re9 := monoL _ _ _ _ e9 re8
    have t9 := tabs_ex (e8.trans e9) t7
    show tSeq _ _ _ ([some (.ref a), some (.ref b), some vm, some vr, some vt, some vj, some ve, none, none, none, none, none, none] : L2.St) H9
    rcases judged_cases rj with ⟨n, l, T, rj, C, hn, g⟩ | ⟨s, r, rj, hs, hfin⟩
    · refine q_when (b := true) (et_is (et_test (ev_op (er_str (er_ixn (n := 0) (er_var (i := 5) rfl rj) ev_c rfl)) ev_c (rv_eq rfl))) (by decide +kernel)) (fun _ H10 e10 => ?_) fun z => by cases z
      refine qr_asg (R := RepR (.tup ((es.map (·.1)).map encL))) (er_tuple ?_) fun vl H11 e11 rl => ?_
      · rw [List.map_map]
        exact el_list (l := es) (en := encE) (er_varR (i := 6) rfl (monoL _) (monoL _ _ _ _ e10 re9)) (by omega) fun d v H1 _ _ rd => er_ixn (n := 0) (ks := [encL d.1, encT d.2]) (er_var rfl rd) ev_c rfl
      show tRet _ _ ([some (.ref a), some (.ref b), some vm, some vr, some vt, some vj, some ve, some vl, none, none, none, none, none] : L2.St) H11
      exact s_ret (ev_up W hc he100 rfl (linesOk_of hee) C hn g (er_var rfl (rm9.ex (e10.trans e11))) (er_var (i := 7) rfl rl) (er_var (i := 5) rfl (rj.ex (e10.trans e11)))) fun H12 _ => k H12
    obtain ⟨rfl, rfl⟩ := hfin hCons hClosed
    refine q_when (b := false) (et_is (et_test (ev_op (er_str (er_ixn (n := 0) (er_var (i := 5) rfl rj) ev_c rfl)) ev_c (rv_eq rfl))) hs) (fun z => by cases z) fun _ H10 e10 => ?_
    have rm10 := rm9.ex e10
    have rj10 := rj.ex e10
    have t10 := tabs_ex e10 t9
    refine q_asgM (C := fun u H' => Ex (Mk Ps H10) H' ∧ (u = .non ∨ ∃ (c : Addr) (n : Int) (x : V), u = .ref c ∧ H' c = some (.tup [.int n, x]) ∧ (0 ≤ n → Bound m n.toNat))) (fun Q q => ⟨_, rfl, ⟨m, vm, rfl, W, hc, t10, rm10, fun u H' e' _ hu => q u H' ⟨e', hu⟩⟩⟩) fun vb H11 ⟨e11, hvb⟩ => ?_
    have x11 : TEx H10 H11 := (mk_tex t10).trans (TEx.of e11)
    have rm11 := rm10.tx x11
    have rj11 := rj10.tx x11
    show tSeq _ _ _ ([some (.ref a), some (.ref b), some vm, some vr, some vt, some vj, some ve, none, some vb, none, none, none, none] : L2.St) H11
    have fB : Fit (NestedKey.tup [.text "bounded"]) := ⟨by decide +kernel, by decide⟩
    have erB : ∀ {σ : L2.St} {H : Hp}, EvR (tTup (tCons (tC (.str "bounded")) tNil)) σ H (RepR (.tup [.text "bounded"])) := fun {σ H} => er_tup (ds := [.text "bounded"]) (ea1 er_text (monoRep _) ea0) (by show 1 ≤ 100000; decide)
    rcases hvb with rfl | ⟨c, n, x, rfl, hcn, hB⟩
    · refine q_when (b := false || true) (et_or (et_is (et_test (ev_neN (er_var (i := 5) rfl rj11) erB fB fB)) (by simp)) fun _ => et_is (et_B (ev_isVN (ev_var (i := 8) (v := .non) rfl))) (by simp)) (fun _ H12 e12 => ?_) fun z => by cases z
      refine s_ret (ev_to (ev_eqN (er_var (i := 5) rfl (rj11.ex e12)) erB fB fB) (by simp)) fun H13 _ => k H13
    refine q_when (b := false || false) (et_or (et_is (et_test (ev_neN (er_var (i := 5) rfl rj11) erB fB fB)) (by simp)) fun _ => et_is (et_B (ev_isVN (ev_var (i := 8) (v := .ref c) rfl))) (by simp)) (fun z => by cases z) fun _ H12 e12 => ?_
    have ev0 : ∀ {σ' : L2.St} {H' : Hp}, Ex H11 H' → σ'[8]? = some (some (.ref c)) → Ev (tOp (rIxT K) (tVar 8) (tC (.int 0))) σ' H' (.int n) := fun {σ' H'} e' hσ H1 e Q q => ⟨_, hσ, c, [.int n, x], 0, .int n, rfl, rfl, SqT.of ((e'.trans e) _ _ hcn), rfl, q H1 (Ex.refl _)⟩
    refine q_when (et_test (ev_ltI (ev0 e12 rfl) (ev_c (v := .int 0)))) (fun _ H13 _ => s_ret ev_c fun H14 _ => k H14) fun hb0 H13 e13 => ?_
    have hn0 : 0 ≤ n := by have := of_decide_eq_false hb0; omega
    have hBn := hB hn0
    have rm13 := rm11.ex (e12.trans e13)
    refine er_num (er_ixn (n := 2) (d := encN m.letters) (er_var rfl rm13) ev_c rfl) H13 (Ex.refl _) _ fun H14 e14 => ?_
    refine ⟨m.letters, rfl, l2, fun u H15 e15 ⟨f, us, hu, hf, hul, hw⟩ => ?_⟩
    subst hu
    refine ⟨f, rfl, ⟨us, SqL.of hf⟩, for_list (fun i σ' H' => (∃ x y, σ' = [some (.ref a), some (.ref b), some vm, some vr, some vt, some vj, some ve, none, some (.ref c), x, y, none, none]) ∧ Ex H15 H') ⟨⟨_, _, rfl⟩, Ex.refl _⟩ (fun i σ' H' _ h => SqL.of (h.2 _ _ hf)) ?_ ?_⟩
    · rintro i y σ1 H16 hy ⟨⟨x9, x10, rfl⟩, e16⟩
      obtain ⟨qd, wd, rfl, _, hqd, hwa, hwl⟩ := hw y (List.mem_of_getElem? hy)
      have eA : Ex H11 H16 := (((e12.trans e13).trans e14).trans e15).trans e16
      show tSeq _ _ _ ([some (.ref a), some (.ref b), some vm, some vr, some vt, some vj, some ve, none, some (.ref c), some (.ref qd), x10, none, none] : L2.St) H16
      refine q_asgM (C := fun u H17 => Ex H16 H17 ∧ ∃ o : Option Nat, MS.CostIs m wd o ∧ u = (match o with | none => V.non | some v => .int (v : Int))) (fun Q q => ⟨_, rfl, _, rfl, ⟨m, wd, vm, .ref qd, rfl, W, hc, by omega, rm11.ex eA, ⟨qd, _, rfl, e16 _ _ hqd, iv_reps wd⟩, fun u H17 e17 hu => q u H17 ⟨e17, hu⟩⟩⟩) fun u H17 ⟨e17, o, hco, hu⟩ => ?_
      subst hu
      cases o with
      | none =>
        show tIfS _ _ _ _ ([some (.ref a), some (.ref b), some vm, some vr, some vt, some vj, some ve, none, some (.ref c), some (.ref qd), some .non, none, none] : L2.St) H17
        exact s_when (b := false && false) (et_and (et_is (et_B (ev_notVN (ev_var (i := 10) (v := .non) rfl))) (by simp)) fun z => by cases z) (fun z => by cases z) fun _ H18 e18 => ⟨⟨_, _, rfl⟩, (e16.trans e17).trans e18⟩
      | some v =>
        show tIfS _ _ _ _ ([some (.ref a), some (.ref b), some vm, some vr, some vt, some vj, some ve, none, some (.ref c), some (.ref qd), some (.int (v : Int)), none, none] : L2.St) H17
        have hv : ¬ n < (v : Int) := fun h => hco.2 n.toNat (by omega) (hBn wd hwa ⟨v, hco.1⟩)
        exact s_when (b := true && false) (et_and (et_is (et_B (ev_notVN (ev_var (i := 10) (v := .int (v : Int)) rfl))) (by simp)) fun _ => et_is (et_test (ev_gtI (ev_var (i := 10) (v := .int (v : Int)) rfl) (ev0 (eA.trans e17) rfl))) (decide_eq_false hv)) (fun z => by cases z) fun _ H18 e18 => ⟨⟨_, _, rfl⟩, (e16.trans e17).trans e18⟩
    · rintro σ1 H16 ⟨⟨x9, x10, rfl⟩, e16⟩
      exact s_ret (σ := [some (.ref a), some (.ref b), some vm, some vr, some vt, some vj, some ve, none, some (.ref c), x9, x10, none, none]) (D := { nx := fun x H' => Q V.non H', rt := Q }) ev_c fun H17 _ => k H17
end
end MW
end
section
set_option Elab.async false
set_option linter.all false
set_option maxRecDepth 100000
set_option maxHeartbeats 4000000
/-! The end. -/
namespace MW
open PySem PySem.Spec PyProof.Rows L2 Evl
/-- the empty tables of the defs of the text -/
def HasTabs (q : Program) (mg : PySem.Str → Option Value) (h : Heap) : Prop := ∀ d ∈ recsOf q, ∃ a o fd c P, mg d.name = some (.ref a) ∧ h.get? a = some o ∧ o.data = .func fd ∧ fd.code = .ref c ∧ h.IsCode c P #[] ∧ h.TableAt c P #[]
theorem tab_of {q : Program} {mg : PySem.Str → Option Value} {h : Heap} {K : PySem.W.Frag} {x : PySem.Str} {f c P : Addr} {oc e : Value} {od dd : Option Addr} {fd : FuncData} {sl sq : Array (Option Value)} {vs : Array Value} (X : K.In h) (hT : HasTabs q mg h) (hr : ((recsOf q).any fun e => e.name == x) = true) (hm : mg x = some (.ref f))
    (lk : K.lookup f = some ⟨oc, od, .func fd, sl⟩) (hc : fd.code = .ref c) (lc : K.lookup c = some ⟨e, dd, .fields vs, sq⟩) (h11 : vs[11]? = some (.ref P)) : h.get? P = some { cls := .none, data := .fields #[] } ∧ PySem.W.CodeHd h c P := by
  obtain ⟨dL, hmem, hn1⟩ := List.any_eq_true.mp hr
  have hn2 : dL.name = x := beq_iff_eq.mp hn1
  obtain ⟨a', o', fd', c', P', h1, h2, h3, h4, h5, h6⟩ := hT dL hmem
  rw [hn2, hm] at h1
  cases h1
  have g1 := X _ _ lk
  rw [g1] at h2
  cases h2
  cases h3
  rw [hc] at h4
  cases h4
  have hd := PySem.W.CodeHd.of h5 h6
  obtain ⟨⟨oc2, vc, e1, _, e3, e4⟩, hP⟩ := h6
  have g2 := X _ _ lc
  rw [g2] at e1
  cases e1
  cases e3
  rw [h11] at e4
  cases e4
  exact ⟨hP, hd⟩
theorem exm_by {K : PySem.W.Frag} {S T : Addr} {b : Bool} (h1 : PySem.W.subIn K (.ref T) (.type "BaseException") = some true) (h2 : PySem.W.isClsIn K T = true) (h3 : PySem.W.typeIn K (.ref T) = some (.type "type")) (h4 : PySem.W.subIn K (.ref S) (.ref T) = some b) :
    PySem.W.exmOne K (.ref S) (.ref T) = some b := by
  have e1 : (PySem.W.subIn K (.ref T) (.type "BaseException") == some true) = true := by rw [h1] <;> rfl
  have e2 : ((PySem.W.clsIn K T).isSome && PySem.W.typeIn K (.ref T) == some (.type "type")) = true := by
    have h2' : (PySem.W.clsIn K T).isSome = true := h2
    rw [h2', h3] <;> rfl
  show (if (PySem.W.subIn K (.ref T) (.type "BaseException") == some true) = true then (if ((PySem.W.clsIn K T).isSome && PySem.W.typeIn K (.ref T) == some (.type "type")) = true then PySem.W.subIn K (.ref S) (.ref T) else none) else none) = some b
  rw [if_pos e1, if_pos e2]
  exact h4
theorem walk_tabs {l : PySem.W.OpenLaw} {n k : Nat} {q : Program} {loose : List PySem.Str} {XP : (PySem.Str → Option Value) → Heap → Prop} {YP : World → Heap → Prop} {d : DefRec} {K : Params → PySem.W.Frag} {x : PySem.Str}
    (hn : l.most = some n) (hn2 : n ≤ sizeLine) (hdf : d.params.defaults = []) (hr : Room k callerA) (hY : ∀ (w : World) (h : Heap), YP w h → (K w.params).In h)
    (F : ∀ (w : World) (mg : PySem.Str → Option Value) (fa : Addr) (h : Heap), (K w.params).In h → h.Ns mainGlobals mg → mg d.name = some (.ref fa) → HasTabs q mg h → LamX.LawAtS l w (K w.params) CX0 k n x mg fa h) :
    PySem.W.WalkO q loose XP YP l.row.toRowW d [] (fun f vs => PySem.call f vs) := by
  refine Att.attach_callB hn hdf fun w s₀ s₁ mg mb fa o pm cd doc a vs ns G Y ho hd hcd hmg hobj hints hlen hbits hg => ?_
  have KX := hY w _ Y
  obtain ⟨fd, cs, sp, hT, nT, C, hb, hsp, hF⟩ := F w mg fa _ KX G.T.g hmg G.T.tab
  exact LamX.law_callTs KX G.T.g G.T.b G.T.builtins G.T.nolimit hg hT nT C G.T.bmain hobj hints (Nat.le_trans hlen hn2) hr hF hb (fun H hH hS => hsp H a ns hlen hbits hH hS) fun H e s' z => z

theorem all_mk {l : PySem.W.OpenLaw} {q : Program} {w : World} {K : PySem.W.Frag} {h : Heap} {mg : PySem.Str → Option Value} {fa : Addr} (X : K.In h) (G : h.Ns mainGlobals mg) (hfa : mg "law" = some (.ref fa)) (hT : HasTabs q mg h)
    {CB : Addr}
    {f_best : Addr} {od_best an_best : Option Addr} {sl_best : Array (Option Value)} {oc_best kV_best dc_best pm_best ct_best : Value}
    {cd_best : Value}
    {f_along : Addr} {od_along an_along : Option Addr} {sl_along : Array (Option Value)} {oc_along kV_along dc_along pm_along ct_along : Value}
    {cd_along : Value}
    {f_letter : Addr} {od_letter an_letter : Option Addr} {sl_letter : Array (Option Value)} {oc_letter kV_letter dc_letter pm_letter ct_letter : Value}
    {cd_letter : Value}
    {f_seq : Addr} {od_seq an_seq : Option Addr} {sl_seq : Array (Option Value)} {oc_seq kV_seq dc_seq pm_seq ct_seq : Value}
    {cd_seq : Value}
    {f_stable : Addr} {od_stable an_stable : Option Addr} {sl_stable : Array (Option Value)} {oc_stable kV_stable dc_stable pm_stable ct_stable : Value}
    {cd_stable : Value}
    {f_stay : Addr} {od_stay an_stay : Option Addr} {sl_stay : Array (Option Value)} {oc_stay kV_stay dc_stay pm_stay ct_stay : Value}
    {cd_stay : Value}
    {f_rep : Addr} {od_rep an_rep : Option Addr} {sl_rep : Array (Option Value)} {oc_rep kV_rep dc_rep pm_rep ct_rep : Value}
    {cd_rep : Value}
    {f_bv : Addr} {od_bv an_bv : Option Addr} {sl_bv : Array (Option Value)} {oc_bv kV_bv dc_bv pm_bv ct_bv : Value}
    {cd_bv : Value}
    {f_to : Addr} {od_to an_to : Option Addr} {sl_to : Array (Option Value)} {oc_to kV_to dc_to pm_to ct_to : Value}
    {cd_to : Value}
    {f_ts : Addr} {od_ts an_ts : Option Addr} {sl_ts : Array (Option Value)} {oc_ts kV_ts dc_ts pm_ts ct_ts : Value}
    {cd_ts : Value}
    {f_wo : Addr} {od_wo an_wo : Option Addr} {sl_wo : Array (Option Value)} {oc_wo kV_wo dc_wo pm_wo ct_wo : Value}
    {cd_wo : Value}
    {f_m : Addr} {od_m an_m : Option Addr} {sl_m : Array (Option Value)} {oc_m kV_m dc_m pm_m ct_m : Value}
    {cd_m : Value}
    {f_j : Addr} {od_j an_j : Option Addr} {sl_j : Array (Option Value)} {oc_j kV_j dc_j pm_j ct_j : Value}
    {cd_j : Value}
    {f_ap : Addr} {od_ap an_ap : Option Addr} {sl_ap : Array (Option Value)} {oc_ap kV_ap dc_ap pm_ap ct_ap : Value}
    {cd_ap : Value}
    {f_en : Addr} {od_en an_en : Option Addr} {sl_en : Array (Option Value)} {oc_en kV_en dc_en pm_en ct_en : Value}
    {cd_en : Value}
    {f_al : Addr} {od_al an_al : Option Addr} {sl_al : Array (Option Value)} {oc_al kV_al dc_al pm_al ct_al : Value}
    {c_al P_al : Addr} {e_al : Value} {dd_al : Option Addr} {v_al : Array Value} {sq_al : Array (Option Value)}
    {f_ia : Addr} {od_ia an_ia : Option Addr} {sl_ia : Array (Option Value)} {oc_ia kV_ia dc_ia pm_ia ct_ia : Value}
    {c_ia P_ia : Addr} {e_ia : Value} {dd_ia : Option Addr} {v_ia : Array Value} {sq_ia : Array (Option Value)}
    {f_wa : Addr} {od_wa an_wa : Option Addr} {sl_wa : Array (Option Value)} {oc_wa kV_wa dc_wa pm_wa ct_wa : Value}
    {cd_wa : Value}
    {f_lb : Addr} {od_lb an_lb : Option Addr} {sl_lb : Array (Option Value)} {oc_lb kV_lb dc_lb pm_lb ct_lb : Value}
    {cd_lb : Value}
    {f_ct : Addr} {od_ct an_ct : Option Addr} {sl_ct : Array (Option Value)} {oc_ct kV_ct dc_ct pm_ct ct_ct : Value}
    {cd_ct : Value}
    {f_dr : Addr} {od_dr an_dr : Option Addr} {sl_dr : Array (Option Value)} {oc_dr kV_dr dc_dr pm_dr ct_dr : Value}
    {cd_dr : Value}
    {f_bx : Addr} {od_bx an_bx : Option Addr} {sl_bx : Array (Option Value)} {oc_bx kV_bx dc_bx pm_bx ct_bx : Value}
    {cd_bx : Value}
    {f_nx : Addr} {od_nx an_nx : Option Addr} {sl_nx : Array (Option Value)} {oc_nx kV_nx dc_nx pm_nx ct_nx : Value}
    {cd_nx : Value}
    {f_st : Addr} {od_st an_st : Option Addr} {sl_st : Array (Option Value)} {oc_st kV_st dc_st pm_st ct_st : Value}
    {cd_st : Value}
    {f_ma : Addr} {od_ma an_ma : Option Addr} {sl_ma : Array (Option Value)} {oc_ma kV_ma dc_ma pm_ma ct_ma : Value}
    {cd_ma : Value}
    {f_la : Addr} {od_la an_la : Option Addr} {sl_la : Array (Option Value)} {oc_la kV_la dc_la pm_la ct_la : Value}
    {cd_la : Value}
    {f_co : Addr} {od_co an_co : Option Addr} {sl_co : Array (Option Value)} {oc_co kV_co dc_co pm_co ct_co : Value}
    {cd_co : Value}
    {f_ws : Addr} {od_ws an_ws : Option Addr} {sl_ws : Array (Option Value)} {oc_ws kV_ws dc_ws pm_ws ct_ws : Value}
    {cd_ws : Value}
    {f_ln : Addr} {od_ln an_ln : Option Addr} {sl_ln : Array (Option Value)} {oc_ln kV_ln dc_ln pm_ln ct_ln : Value}
    {cd_ln : Value}
    {f_rc : Addr} {od_rc an_rc : Option Addr} {sl_rc : Array (Option Value)} {oc_rc kV_rc dc_rc pm_rc ct_rc : Value}
    {cd_rc : Value}
    {f_wd : Addr} {od_wd an_wd : Option Addr} {sl_wd : Array (Option Value)} {oc_wd kV_wd dc_wd pm_wd ct_wd : Value}
    {cd_wd : Value}
    {f_cg : Addr} {od_cg an_cg : Option Addr} {sl_cg : Array (Option Value)} {oc_cg kV_cg dc_cg pm_cg ct_cg : Value}
    {cd_cg : Value}
    {f_bd : Addr} {od_bd an_bd : Option Addr} {sl_bd : Array (Option Value)} {oc_bd kV_bd dc_bd pm_bd ct_bd : Value}
    {cd_bd : Value}
    {f_cm : Addr} {od_cm an_cm : Option Addr} {sl_cm : Array (Option Value)} {oc_cm kV_cm dc_cm pm_cm ct_cm : Value}
    {cd_cm : Value}
    {f_in : Addr} {od_in an_in : Option Addr} {sl_in : Array (Option Value)} {oc_in kV_in dc_in pm_in ct_in : Value}
    {cd_in : Value}
    {f_add : Addr} {od_add an_add : Option Addr} {sl_add : Array (Option Value)} {oc_add kV_add dc_add pm_add ct_add : Value}
    {cd_add : Value}
    {f_gr : Addr} {od_gr an_gr : Option Addr} {sl_gr : Array (Option Value)} {oc_gr kV_gr dc_gr pm_gr ct_gr : Value}
    {cd_gr : Value}
    {f_lw : Addr} {od_lw an_lw : Option Addr} {sl_lw : Array (Option Value)} {oc_lw kV_lw dc_lw pm_lw ct_lw : Value}
    {cd_lw : Value}
    {C1 : Addr}
    {C2 : Addr}
    {C3 : Addr}
    {C4 : Addr}
    {t_ml : Tok}
    {t_mp : Tok}
    {t_me : Tok}
    {aO : Addr} {tO0 tO1 tO2 tO3 tO4 tO5 tO6 tO7 : Tok} {nO : Nat} {slO : Array (Option Value)}
    (aB : PySem.W.nsIn K mainGlobals "Builder" = some (some (.ref CB)))
    (a_best : PySem.W.nsIn K mainGlobals "best" = some (some (.ref f_best)))
    (l_best : K.lookup f_best = some ⟨oc_best, od_best, .func (PySem.W.fnOf "best" "best" (defArgs sBest) (defBody sBest) (defScope sBest) .none kV_best dc_best pm_best an_best cd_best ct_best), sl_best⟩)
    (d_best : PySem.W.codeIn K cd_best "best" = true)
    (k_best : PySem.W.keepIn K (.ref f_best) = true)
    (a_along : PySem.W.nsIn K mainGlobals "along" = some (some (.ref f_along)))
    (l_along : K.lookup f_along = some ⟨oc_along, od_along, .func (PySem.W.fnOf "along" "along" (defArgs sAlong) (defBody sAlong) (defScope sAlong) .none kV_along dc_along pm_along an_along cd_along ct_along), sl_along⟩)
    (d_along : PySem.W.codeIn K cd_along "along" = true)
    (k_along : PySem.W.keepIn K (.ref f_along) = true)
    (a_letter : PySem.W.nsIn K mainGlobals "letter_table" = some (some (.ref f_letter)))
    (l_letter : K.lookup f_letter = some ⟨oc_letter, od_letter, .func (PySem.W.fnOf "letter_table" "letter_table" (defArgs sLetter) (defBody sLetter) (defScope sLetter) .none kV_letter dc_letter pm_letter an_letter cd_letter ct_letter), sl_letter⟩)
    (d_letter : PySem.W.codeIn K cd_letter "letter_table" = true)
    (k_letter : PySem.W.keepIn K (.ref f_letter) = true)
    (a_seq : PySem.W.nsIn K mainGlobals "in_sequence" = some (some (.ref f_seq)))
    (l_seq : K.lookup f_seq = some ⟨oc_seq, od_seq, .func (PySem.W.fnOf "in_sequence" "in_sequence" (defArgs sSeq) (defBody sSeq) (defScope sSeq) .none kV_seq dc_seq pm_seq an_seq cd_seq ct_seq), sl_seq⟩)
    (d_seq : PySem.W.codeIn K cd_seq "in_sequence" = true)
    (k_seq : PySem.W.keepIn K (.ref f_seq) = true)
    (a_stable : PySem.W.nsIn K mainGlobals "is_stable" = some (some (.ref f_stable)))
    (l_stable : K.lookup f_stable = some ⟨oc_stable, od_stable, .func (PySem.W.fnOf "is_stable" "is_stable" (defArgs sStable) (defBody sStable) (defScope sStable) .none kV_stable dc_stable pm_stable an_stable cd_stable ct_stable), sl_stable⟩)
    (d_stable : PySem.W.codeIn K cd_stable "is_stable" = true)
    (k_stable : PySem.W.keepIn K (.ref f_stable) = true)
    (a_stay : PySem.W.nsIn K mainGlobals "staying" = some (some (.ref f_stay)))
    (l_stay : K.lookup f_stay = some ⟨oc_stay, od_stay, .func (PySem.W.fnOf "staying" "staying" (defArgs sStay) (defBody sStay) (defScope sStay) .none kV_stay dc_stay pm_stay an_stay cd_stay ct_stay), sl_stay⟩)
    (d_stay : PySem.W.codeIn K cd_stay "staying" = true)
    (k_stay : PySem.W.keepIn K (.ref f_stay) = true)
    (a_rep : PySem.W.nsIn K mainGlobals "repeated" = some (some (.ref f_rep)))
    (l_rep : K.lookup f_rep = some ⟨oc_rep, od_rep, .func (PySem.W.fnOf "repeated" "repeated" (defArgs sRep) (defBody sRep) (defScope sRep) .none kV_rep dc_rep pm_rep an_rep cd_rep ct_rep), sl_rep⟩)
    (d_rep : PySem.W.codeIn K cd_rep "repeated" = true)
    (k_rep : PySem.W.keepIn K (.ref f_rep) = true)
    (a_bv : PySem.W.nsIn K mainGlobals "best_value" = some (some (.ref f_bv)))
    (l_bv : K.lookup f_bv = some ⟨oc_bv, od_bv, .func (PySem.W.fnOf "best_value" "best_value" (defArgs sBV) (defBody sBV) (defScope sBV) .none kV_bv dc_bv pm_bv an_bv cd_bv ct_bv), sl_bv⟩)
    (d_bv : PySem.W.codeIn K cd_bv "best_value" = true)
    (k_bv : PySem.W.keepIn K (.ref f_bv) = true)
    (a_to : PySem.W.nsIn K mainGlobals "table_of" = some (some (.ref f_to)))
    (l_to : K.lookup f_to = some ⟨oc_to, od_to, .func (PySem.W.fnOf "table_of" "table_of" (defArgs sTO) (defBody sTO) (defScope sTO) .none kV_to dc_to pm_to an_to cd_to ct_to), sl_to⟩)
    (d_to : PySem.W.codeIn K cd_to "table_of" = true)
    (k_to : PySem.W.keepIn K (.ref f_to) = true)
    (a_ts : PySem.W.nsIn K mainGlobals "tables_of" = some (some (.ref f_ts)))
    (l_ts : K.lookup f_ts = some ⟨oc_ts, od_ts, .func (PySem.W.fnOf "tables_of" "tables_of" (defArgs sTS) (defBody sTS) (defScope sTS) .none kV_ts dc_ts pm_ts an_ts cd_ts ct_ts), sl_ts⟩)
    (d_ts : PySem.W.codeIn K cd_ts "tables_of" = true)
    (k_ts : PySem.W.keepIn K (.ref f_ts) = true)
    (a_wo : PySem.W.nsIn K mainGlobals "word_of" = some (some (.ref f_wo)))
    (l_wo : K.lookup f_wo = some ⟨oc_wo, od_wo, .func (PySem.W.fnOf "word_of" "word_of" (defArgs sWO) (defBody sWO) (defScope sWO) .none kV_wo dc_wo pm_wo an_wo cd_wo ct_wo), sl_wo⟩)
    (d_wo : PySem.W.codeIn K cd_wo "word_of" = true)
    (k_wo : PySem.W.keepIn K (.ref f_wo) = true)
    (a_m : PySem.W.nsIn K mainGlobals "is_missing" = some (some (.ref f_m)))
    (l_m : K.lookup f_m = some ⟨oc_m, od_m, .func (PySem.W.fnOf "is_missing" "is_missing" (defArgs sM) (defBody sM) (defScope sM) .none kV_m dc_m pm_m an_m cd_m ct_m), sl_m⟩)
    (d_m : PySem.W.codeIn K cd_m "is_missing" = true)
    (k_m : PySem.W.keepIn K (.ref f_m) = true)
    (a_j : PySem.W.nsIn K mainGlobals "judge_catalogue" = some (some (.ref f_j)))
    (l_j : K.lookup f_j = some ⟨oc_j, od_j, .func (PySem.W.fnOf "judge_catalogue" "judge_catalogue" (defArgs sJ) (defBody sJ) (defScope sJ) .none kV_j dc_j pm_j an_j cd_j ct_j), sl_j⟩)
    (d_j : PySem.W.codeIn K cd_j "judge_catalogue" = true)
    (k_j : PySem.W.keepIn K (.ref f_j) = true)
    (a_ap : PySem.W.nsIn K mainGlobals "applied" = some (some (.ref f_ap)))
    (l_ap : K.lookup f_ap = some ⟨oc_ap, od_ap, .func (PySem.W.fnOf "applied" "applied" (defArgs sAp) (defBody sAp) (defScope sAp) .none kV_ap dc_ap pm_ap an_ap cd_ap ct_ap), sl_ap⟩)
    (d_ap : PySem.W.codeIn K cd_ap "applied" = true)
    (k_ap : PySem.W.keepIn K (.ref f_ap) = true)
    (a_en : PySem.W.nsIn K mainGlobals "enough" = some (some (.ref f_en)))
    (l_en : K.lookup f_en = some ⟨oc_en, od_en, .func (PySem.W.fnOf "enough" "enough" (defArgs sEn) (defBody sEn) (defScope sEn) .none kV_en dc_en pm_en an_en cd_en ct_en), sl_en⟩)
    (d_en : PySem.W.codeIn K cd_en "enough" = true)
    (k_en : PySem.W.keepIn K (.ref f_en) = true)
    (a_al : PySem.W.nsIn K mainGlobals "after_letter" = some (some (.ref f_al)))
    (l_al : K.lookup f_al = some ⟨oc_al, od_al, .func (PySem.W.fnOf "after_letter" "after_letter" (defArgs sAL) (defBody sAL) (defScope sAL) .none kV_al dc_al pm_al an_al (.ref c_al) ct_al), sl_al⟩)
    (d_al : PySem.W.codeIn K (.ref c_al) "after_letter" = true)
    (k_al : PySem.W.keepIn K (.ref f_al) = true)
    (q_al : K.lookup c_al = some ⟨e_al, dd_al, .fields v_al, sq_al⟩)
    (p_al : v_al[11]? = some (.ref P_al))
    (n_al : K.lookup P_al = none)
    (a_ia : PySem.W.nsIn K mainGlobals "is_above" = some (some (.ref f_ia)))
    (l_ia : K.lookup f_ia = some ⟨oc_ia, od_ia, .func (PySem.W.fnOf "is_above" "is_above" (defArgs sIA) (defBody sIA) (defScope sIA) .none kV_ia dc_ia pm_ia an_ia (.ref c_ia) ct_ia), sl_ia⟩)
    (d_ia : PySem.W.codeIn K (.ref c_ia) "is_above" = true)
    (k_ia : PySem.W.keepIn K (.ref f_ia) = true)
    (q_ia : K.lookup c_ia = some ⟨e_ia, dd_ia, .fields v_ia, sq_ia⟩)
    (p_ia : v_ia[11]? = some (.ref P_ia))
    (n_ia : K.lookup P_ia = none)
    (a_wa : PySem.W.nsIn K mainGlobals "word_above" = some (some (.ref f_wa)))
    (l_wa : K.lookup f_wa = some ⟨oc_wa, od_wa, .func (PySem.W.fnOf "word_above" "word_above" (defArgs sWA) (defBody sWA) (defScope sWA) .none kV_wa dc_wa pm_wa an_wa cd_wa ct_wa), sl_wa⟩)
    (d_wa : PySem.W.codeIn K cd_wa "word_above" = true)
    (k_wa : PySem.W.keepIn K (.ref f_wa) = true)
    (a_lb : PySem.W.nsIn K mainGlobals "least_bound" = some (some (.ref f_lb)))
    (l_lb : K.lookup f_lb = some ⟨oc_lb, od_lb, .func (PySem.W.fnOf "least_bound" "least_bound" (defArgs sLB) (defBody sLB) (defScope sLB) .none kV_lb dc_lb pm_lb an_lb cd_lb ct_lb), sl_lb⟩)
    (d_lb : PySem.W.codeIn K cd_lb "least_bound" = true)
    (k_lb : PySem.W.keepIn K (.ref f_lb) = true)
    (a_ct : PySem.W.nsIn K mainGlobals "catalogue" = some (some (.ref f_ct)))
    (l_ct : K.lookup f_ct = some ⟨oc_ct, od_ct, .func (PySem.W.fnOf "catalogue" "catalogue" (defArgs sCt) (defBody sCt) (defScope sCt) .none kV_ct dc_ct pm_ct an_ct cd_ct ct_ct), sl_ct⟩)
    (d_ct : PySem.W.codeIn K cd_ct "catalogue" = true)
    (k_ct : PySem.W.keepIn K (.ref f_ct) = true)
    (a_dr : PySem.W.nsIn K mainGlobals "_law_draws" = some (some (.ref f_dr)))
    (l_dr : K.lookup f_dr = some ⟨oc_dr, od_dr, .func (PySem.W.fnOf "_law_draws" "_law_draws" (defArgs sDr) (defBody sDr) (defScope sDr) .none kV_dr dc_dr pm_dr an_dr cd_dr ct_dr), sl_dr⟩)
    (d_dr : PySem.W.codeIn K cd_dr "_law_draws" = true)
    (k_dr : PySem.W.keepIn K (.ref f_dr) = true)
    (a_bx : PySem.W.nsIn K mainGlobals "_law_box" = some (some (.ref f_bx)))
    (l_bx : K.lookup f_bx = some ⟨oc_bx, od_bx, .func (PySem.W.fnOf "_law_box" "_law_box" (defArgs sBx) (defBody sBx) (defScope sBx) .none kV_bx dc_bx pm_bx an_bx cd_bx ct_bx), sl_bx⟩)
    (d_bx : PySem.W.codeIn K cd_bx "_law_box" = true)
    (k_bx : PySem.W.keepIn K (.ref f_bx) = true)
    (a_nx : PySem.W.nsIn K mainGlobals "_law_next" = some (some (.ref f_nx)))
    (l_nx : K.lookup f_nx = some ⟨oc_nx, od_nx, .func (PySem.W.fnOf "_law_next" "_law_next" (defArgs sNx) (defBody sNx) (defScope sNx) .none kV_nx dc_nx pm_nx an_nx cd_nx ct_nx), sl_nx⟩)
    (d_nx : PySem.W.codeIn K cd_nx "_law_next" = true)
    (k_nx : PySem.W.keepIn K (.ref f_nx) = true)
    (a_st : PySem.W.nsIn K mainGlobals "_law_set" = some (some (.ref f_st)))
    (l_st : K.lookup f_st = some ⟨oc_st, od_st, .func (PySem.W.fnOf "_law_set" "_law_set" (defArgs sSt) (defBody sSt) (defScope sSt) .none kV_st dc_st pm_st an_st cd_st ct_st), sl_st⟩)
    (d_st : PySem.W.codeIn K cd_st "_law_set" = true)
    (k_st : PySem.W.keepIn K (.ref f_st) = true)
    (a_ma : PySem.W.nsIn K mainGlobals "_law_machine" = some (some (.ref f_ma)))
    (l_ma : K.lookup f_ma = some ⟨oc_ma, od_ma, .func (PySem.W.fnOf "_law_machine" "_law_machine" (defArgs sMa) (defBody sMa) (defScope sMa) .none kV_ma dc_ma pm_ma an_ma cd_ma ct_ma), sl_ma⟩)
    (d_ma : PySem.W.codeIn K cd_ma "_law_machine" = true)
    (k_ma : PySem.W.keepIn K (.ref f_ma) = true)
    (a_la : PySem.W.nsIn K mainGlobals "_law_applied" = some (some (.ref f_la)))
    (l_la : K.lookup f_la = some ⟨oc_la, od_la, .func (PySem.W.fnOf "_law_applied" "_law_applied" (defArgs sLa) (defBody sLa) (defScope sLa) .none kV_la dc_la pm_la an_la cd_la ct_la), sl_la⟩)
    (d_la : PySem.W.codeIn K cd_la "_law_applied" = true)
    (k_la : PySem.W.keepIn K (.ref f_la) = true)
    (a_co : PySem.W.nsIn K mainGlobals "_law_cost" = some (some (.ref f_co)))
    (l_co : K.lookup f_co = some ⟨oc_co, od_co, .func (PySem.W.fnOf "_law_cost" "_law_cost" (defArgs sCo) (defBody sCo) (defScope sCo) .none kV_co dc_co pm_co an_co cd_co ct_co), sl_co⟩)
    (d_co : PySem.W.codeIn K cd_co "_law_cost" = true)
    (k_co : PySem.W.keepIn K (.ref f_co) = true)
    (a_ws : PySem.W.nsIn K mainGlobals "_law_words" = some (some (.ref f_ws)))
    (l_ws : K.lookup f_ws = some ⟨oc_ws, od_ws, .func (PySem.W.fnOf "_law_words" "_law_words" (defArgs sWs) (defBody sWs) (defScope sWs) .none kV_ws dc_ws pm_ws an_ws cd_ws ct_ws), sl_ws⟩)
    (d_ws : PySem.W.codeIn K cd_ws "_law_words" = true)
    (k_ws : PySem.W.keepIn K (.ref f_ws) = true)
    (a_ln : PySem.W.nsIn K mainGlobals "_law_line" = some (some (.ref f_ln)))
    (l_ln : K.lookup f_ln = some ⟨oc_ln, od_ln, .func (PySem.W.fnOf "_law_line" "_law_line" (defArgs sLn) (defBody sLn) (defScope sLn) .none kV_ln dc_ln pm_ln an_ln cd_ln ct_ln), sl_ln⟩)
    (d_ln : PySem.W.codeIn K cd_ln "_law_line" = true)
    (k_ln : PySem.W.keepIn K (.ref f_ln) = true)
    (a_rc : PySem.W.nsIn K mainGlobals "_law_recipe" = some (some (.ref f_rc)))
    (l_rc : K.lookup f_rc = some ⟨oc_rc, od_rc, .func (PySem.W.fnOf "_law_recipe" "_law_recipe" (defArgs sRc) (defBody sRc) (defScope sRc) .none kV_rc dc_rc pm_rc an_rc cd_rc ct_rc), sl_rc⟩)
    (d_rc : PySem.W.codeIn K cd_rc "_law_recipe" = true)
    (k_rc : PySem.W.keepIn K (.ref f_rc) = true)
    (a_wd : PySem.W.nsIn K mainGlobals "_law_word" = some (some (.ref f_wd)))
    (l_wd : K.lookup f_wd = some ⟨oc_wd, od_wd, .func (PySem.W.fnOf "_law_word" "_law_word" (defArgs sWd) (defBody sWd) (defScope sWd) .none kV_wd dc_wd pm_wd an_wd cd_wd ct_wd), sl_wd⟩)
    (d_wd : PySem.W.codeIn K cd_wd "_law_word" = true)
    (k_wd : PySem.W.keepIn K (.ref f_wd) = true)
    (a_cg : PySem.W.nsIn K mainGlobals "_law_catalogue" = some (some (.ref f_cg)))
    (l_cg : K.lookup f_cg = some ⟨oc_cg, od_cg, .func (PySem.W.fnOf "_law_catalogue" "_law_catalogue" (defArgs sCg) (defBody sCg) (defScope sCg) .none kV_cg dc_cg pm_cg an_cg cd_cg ct_cg), sl_cg⟩)
    (d_cg : PySem.W.codeIn K cd_cg "_law_catalogue" = true)
    (k_cg : PySem.W.keepIn K (.ref f_cg) = true)
    (a_bd : PySem.W.nsIn K mainGlobals "_law_bound" = some (some (.ref f_bd)))
    (l_bd : K.lookup f_bd = some ⟨oc_bd, od_bd, .func (PySem.W.fnOf "_law_bound" "_law_bound" (defArgs sBd) (defBody sBd) (defScope sBd) .none kV_bd dc_bd pm_bd an_bd cd_bd ct_bd), sl_bd⟩)
    (d_bd : PySem.W.codeIn K cd_bd "_law_bound" = true)
    (k_bd : PySem.W.keepIn K (.ref f_bd) = true)
    (a_cm : PySem.W.nsIn K mainGlobals "_law_costs_more" = some (some (.ref f_cm)))
    (l_cm : K.lookup f_cm = some ⟨oc_cm, od_cm, .func (PySem.W.fnOf "_law_costs_more" "_law_costs_more" (defArgs sCm) (defBody sCm) (defScope sCm) .none kV_cm dc_cm pm_cm an_cm cd_cm ct_cm), sl_cm⟩)
    (d_cm : PySem.W.codeIn K cd_cm "_law_costs_more" = true)
    (k_cm : PySem.W.keepIn K (.ref f_cm) = true)
    (a_in : PySem.W.findIn K (.ref CB) "__init__" = some (some (.ref f_in)))
    (i_in : PySem.W.isFn K (.ref f_in) = true)
    (l_in : K.lookup f_in = some ⟨oc_in, od_in, .func (PySem.W.fnOf "__init__" "Builder.__init__" (defArgs sIn) (defBody sIn) (defScope sIn) .none kV_in dc_in pm_in an_in cd_in ct_in), sl_in⟩)
    (d_in : PySem.W.codeIn K cd_in "Builder.__init__" = true)
    (k_in : PySem.W.keepIn K (.ref f_in) = true)
    (a_add : PySem.W.findIn K (.ref CB) "add" = some (some (.ref f_add)))
    (i_add : PySem.W.isFn K (.ref f_add) = true)
    (l_add : K.lookup f_add = some ⟨oc_add, od_add, .func (PySem.W.fnOf "add" "Builder.add" (defArgs sAdd) (defBody sAdd) (defScope sAdd) .none kV_add dc_add pm_add an_add cd_add ct_add), sl_add⟩)
    (d_add : PySem.W.codeIn K cd_add "Builder.add" = true)
    (k_add : PySem.W.keepIn K (.ref f_add) = true)
    (a_gr : PySem.W.findIn K (.ref CB) "grow" = some (some (.ref f_gr)))
    (i_gr : PySem.W.isFn K (.ref f_gr) = true)
    (l_gr : K.lookup f_gr = some ⟨oc_gr, od_gr, .func (PySem.W.fnOf "grow" "Builder.grow" (defArgs sGr) (defBody sGr) (defScope sGr) .none kV_gr dc_gr pm_gr an_gr cd_gr ct_gr), sl_gr⟩)
    (d_gr : PySem.W.codeIn K cd_gr "Builder.grow" = true)
    (k_gr : PySem.W.keepIn K (.ref f_gr) = true)
    (a_lw : PySem.W.nsIn K mainGlobals "law" = some (some (.ref f_lw)))
    (l_lw : K.lookup f_lw = some ⟨oc_lw, od_lw, .func (PySem.W.fnOf "law" "law" (defArgs sLw) (defBody sLw) (defScope sLw) .none kV_lw dc_lw pm_lw an_lw cd_lw ct_lw), sl_lw⟩)
    (d_lw : PySem.W.codeIn K cd_lw "law" = true)
    (k_lw : PySem.W.keepIn K (.ref f_lw) = true)
    (pg : PySem.W.plainGet K CB Str.empty = true)
    (hd : PySem.W.hasDictIn K CB = true)
    (po : PySem.W.plainOver K CB = true)
    (sa : PySem.W.findIn K (.ref CB) "__setattr__" = some (some (.builtin "object.__setattr__")))
    (mk : PySem.W.makesIn K CB = true)
    (kB : PySem.W.keepIn K (.ref CB) = true)
    (n_together : PySem.W.findIn K (.ref CB) "together" = some none)
    (n_stable : PySem.W.findIn K (.ref CB) "stable" = some none)
    (n_again : PySem.W.findIn K (.ref CB) "again" = some none)
    (n_entries : PySem.W.findIn K (.ref CB) "entries" = some none)
    (n_known : PySem.W.findIn K (.ref CB) "known" = some none)
    (aC1 : PySem.W.nsIn K mainGlobals "TooManyPossibilities" = some (some (.ref C1)))
    (kC1 : PySem.W.keepIn K (.ref C1) = true)
    (eC1 : PySem.W.excIn K C1 [.type "ValueError", .type "Exception", .type "BaseException", .type "object"] "ValueError.__new__" = true)
    (sC1 : PySem.W.subIn K (.ref C1) (.type "BaseException") = some true)
    (tC1 : PySem.W.typeIn K (.ref C1) = some (.type "type"))
    (x1 : PySem.W.subIn K (.ref C1) (.ref C1) = some true)
    (ic1 : PySem.W.isClsIn K C1 = true)
    (aC2 : PySem.W.nsIn K mainGlobals "NoBound" = some (some (.ref C2)))
    (kC2 : PySem.W.keepIn K (.ref C2) = true)
    (eC2 : PySem.W.excIn K C2 [.type "ValueError", .type "Exception", .type "BaseException", .type "object"] "ValueError.__new__" = true)
    (sC2 : PySem.W.subIn K (.ref C2) (.type "BaseException") = some true)
    (tC2 : PySem.W.typeIn K (.ref C2) = some (.type "type"))
    (x2 : PySem.W.subIn K (.ref C2) (.ref C2) = some true)
    (ic2 : PySem.W.isClsIn K C2 = true)
    (aC3 : PySem.W.nsIn K mainGlobals "WordTooLong" = some (some (.ref C3)))
    (kC3 : PySem.W.keepIn K (.ref C3) = true)
    (eC3 : PySem.W.excIn K C3 [.type "ValueError", .type "Exception", .type "BaseException", .type "object"] "ValueError.__new__" = true)
    (sC3 : PySem.W.subIn K (.ref C3) (.type "BaseException") = some true)
    (tC3 : PySem.W.typeIn K (.ref C3) = some (.type "type"))
    (x3 : PySem.W.subIn K (.ref C3) (.ref C3) = some true)
    (ic3 : PySem.W.isClsIn K C3 = true)
    (aC4 : PySem.W.nsIn K mainGlobals "TooManyTables" = some (some (.ref C4)))
    (kC4 : PySem.W.keepIn K (.ref C4) = true)
    (eC4 : PySem.W.excIn K C4 [.type "ValueError", .type "Exception", .type "BaseException", .type "object"] "ValueError.__new__" = true)
    (sC4 : PySem.W.subIn K (.ref C4) (.type "BaseException") = some true)
    (tC4 : PySem.W.typeIn K (.ref C4) = some (.type "type"))
    (x4 : PySem.W.subIn K (.ref C4) (.ref C4) = some true)
    (ic4 : PySem.W.isClsIn K C4 = true)
    (x21 : PySem.W.subIn K (.ref C2) (.ref C1) = some false)
    (z_range : PySem.W.nsIn K mainGlobals "range" = some none)
    (z_len : PySem.W.nsIn K mainGlobals "len" = some none)
    (z_min : PySem.W.nsIn K mainGlobals "min" = some none)
    (z_max : PySem.W.nsIn K mainGlobals "max" = some none)
    (z_tuple : PySem.W.nsIn K mainGlobals "tuple" = some none)
    (z_list : PySem.W.nsIn K mainGlobals "list" = some none)
    (z_sorted : PySem.W.nsIn K mainGlobals "sorted" = some none)
    (z_all : PySem.W.nsIn K mainGlobals "all" = some none)
    (z_any : PySem.W.nsIn K mainGlobals "any" = some none)
    (z_enumerate : PySem.W.nsIn K mainGlobals "enumerate" = some none)
    (z_int : PySem.W.nsIn K mainGlobals "int" = some none)
    (b_ml : PySem.W.nsIn K mainGlobals "MOST_LETTERS" = some (some (.int 10000 t_ml)))
    (b_mp : PySem.W.nsIn K mainGlobals "MOST_POSSIBILITIES" = some (some (.int 300 t_mp)))
    (b_me : PySem.W.nsIn K mainGlobals "MOST_ENTRIES" = some (some (.int 100 t_me)))
    (b_O : PySem.W.nsIn K mainGlobals "ORDER" = some (some (.ref aO)))
    (l_O : K.lookup aO = some ⟨.type "tuple", none, .seq #[.int 6 tO0, .int 4 tO1, .int 2 tO2, .int 0 tO3, .int 1 tO4, .int 3 tO5, .int 5 tO6, .str "grows" tO7, .none] nO, slO⟩)
    (r_al : ((recsOf q).any fun e => e.name == ("after_letter" : Str)) = true)
    (r_ia : ((recsOf q).any fun e => e.name == ("is_above" : Str)) = true) :
    LamX.LawAtS l w K CX0 9 63 "_law_script" mg fa h := by
  have efa := hfa.symm.trans (PySem.W.mg_of X G a_lw)
  cases efa
  have eO : ∀ a, mg "ORDER" = some (.ref a) → ∃ o, K.lookup a = some o ∧ o.cls = .type "tuple" ∧ o.dict = none := fun a e => by
    have e2 := e.symm.trans (PySem.W.mg_of X G b_O)
    cases e2
    exact ⟨_, l_O, rfl, rfl⟩
  have T : Txt K mg := ⟨PySem.W.mg_none_of X G z_range, PySem.W.mg_none_of X G z_len, PySem.W.mg_none_of X G z_min, PySem.W.mg_none_of X G z_max, PySem.W.mg_none_of X G z_tuple, PySem.W.mg_none_of X G z_list, PySem.W.mg_none_of X G z_sorted, PySem.W.mg_none_of X G z_all, PySem.W.mg_none_of X G z_any, PySem.W.mg_none_of X G z_enumerate, PySem.W.mg_none_of X G z_int, ⟨_, PySem.W.mg_of X G b_ml, _, rfl⟩, ⟨_, PySem.W.mg_of X G b_mp, _, rfl⟩, ⟨_, PySem.W.mg_of X G b_me, _, rfl⟩, ⟨aO, PySem.W.mg_of X G b_O, fun H => .inr ⟨_, _, _, l_O, rfl, rfl, by show 9 ≤ sizeLine; decide, .cons ⟨_, rfl⟩ (.cons ⟨_, rfl⟩ (.cons ⟨_, rfl⟩ (.cons ⟨_, rfl⟩ (.cons ⟨_, rfl⟩ (.cons ⟨_, rfl⟩ (.cons ⟨_, rfl⟩ (.cons ⟨_, rfl⟩ (.cons rfl .nil))))))))⟩⟩, eO⟩
  have X1 : ExcD K mg "TooManyPossibilities" C1 := ⟨PySem.W.mg_of X G aC1, kC1, eC1, sC1, tC1⟩
  have X2 : ExcD K mg "NoBound" C2 := ⟨PySem.W.mg_of X G aC2, kC2, eC2, sC2, tC2⟩
  have X3 : ExcD K mg "WordTooLong" C3 := ⟨PySem.W.mg_of X G aC3, kC3, eC3, sC3, tC3⟩
  have X4 : ExcD K mg "TooManyTables" C4 := ⟨PySem.W.mg_of X G aC4, kC4, eC4, sC4, tC4⟩
  have TC : BTxt K mg CB f_in f_add f_gr := ⟨⟨pg, hd, po, sa⟩, n_together, n_stable, n_again, n_entries, n_known, ⟨a_add, i_add, k_add⟩, ⟨a_gr, i_gr, k_gr⟩, ⟨mk, a_in, i_in, kB⟩, PySem.W.mg_of X G aB⟩
  have F_best := fun_mk (st := sBest) l_best d_best k_best
  have b_best := F_best.binds (ps := ["values"]) fun _ _ _ _ _ _ us hl => match us, hl with | [_], _ => rfl
  have F_along := fun_mk (st := sAlong) l_along d_along k_along
  have b_along := F_along.binds (ps := ["first", "second"]) fun _ _ _ _ _ _ us hl => match us, hl with | [_, _], _ => rfl
  have F_letter := fun_mk (st := sLetter) l_letter d_letter k_letter
  have b_letter := F_letter.binds (ps := ["machine", "letter"]) fun _ _ _ _ _ _ us hl => match us, hl with | [_, _], _ => rfl
  have F_seq := fun_mk (st := sSeq) l_seq d_seq k_seq
  have b_seq := F_seq.binds (ps := ["first", "second"]) fun _ _ _ _ _ _ us hl => match us, hl with | [_, _], _ => rfl
  have F_stable := fun_mk (st := sStable) l_stable d_stable k_stable
  have b_stable := F_stable.binds (ps := ["table"]) fun _ _ _ _ _ _ us hl => match us, hl with | [_], _ => rfl
  have F_stay := fun_mk (st := sStay) l_stay d_stay k_stay
  have b_stay := F_stay.binds (ps := ["table", "state"]) fun _ _ _ _ _ _ us hl => match us, hl with | [_, _], _ => rfl
  have F_rep := fun_mk (st := sRep) l_rep d_rep k_rep
  have b_rep := F_rep.binds (ps := ["table"]) fun _ _ _ _ _ _ us hl => match us, hl with | [_], _ => rfl
  have F_bv := fun_mk (st := sBV) l_bv d_bv k_bv
  have b_bv := F_bv.binds (ps := ["machine", "table"]) fun _ _ _ _ _ _ us hl => match us, hl with | [_, _], _ => rfl
  have F_to := fun_mk (st := sTO) l_to d_to k_to
  have b_to := F_to.binds (ps := ["machine", "line", "tables"]) fun _ _ _ _ _ _ us hl => match us, hl with | [_, _, _], _ => rfl
  have F_ts := fun_mk (st := sTS) l_ts d_ts k_ts
  have b_ts := F_ts.binds (ps := ["machine", "recipe"]) fun _ _ _ _ _ _ us hl => match us, hl with | [_, _], _ => rfl
  have F_wo := fun_mk (st := sWO) l_wo d_wo k_wo
  have b_wo := F_wo.binds (ps := ["recipe", "times"]) fun _ _ _ _ _ _ us hl => match us, hl with | [_, _], _ => rfl
  have F_m := fun_mk (st := sM) l_m d_m k_m
  have b_m := F_m.binds (ps := ["machine", "tables"]) fun _ _ _ _ _ _ us hl => match us, hl with | [_, _], _ => rfl
  have F_j := fun_mk (st := sJ) l_j d_j k_j
  have b_j := F_j.binds (ps := ["machine", "entries"]) fun _ _ _ _ _ _ us hl => match us, hl with | [_, _], _ => rfl
  have F_ap := fun_mk (st := sAp) l_ap d_ap k_ap
  have b_ap := F_ap.binds (ps := ["action", "counters"]) fun _ _ _ _ _ _ us hl => match us, hl with | [_, _], _ => rfl
  have F_en := fun_mk (st := sEn) l_en d_en k_en
  have b_en := F_en.binds (ps := ["machine", "number"]) fun _ _ _ _ _ _ us hl => match us, hl with | [_, _], _ => rfl
  have F_al := fun_mk (st := sAL) l_al d_al k_al
  have b_al := F_al.binds (ps := ["machine", "letter", "possibility", "number"]) fun _ _ _ _ _ _ us hl => match us, hl with | [_, _, _, _], _ => rfl
  have F_ia := fun_mk (st := sIA) l_ia d_ia k_ia
  have b_ia := F_ia.binds (ps := ["machine", "possibility"]) fun _ _ _ _ _ _ us hl => match us, hl with | [_, _], _ => rfl
  have F_wa := fun_mk (st := sWA) l_wa d_wa k_wa
  have b_wa := F_wa.binds (ps := ["machine", "number"]) fun _ _ _ _ _ _ us hl => match us, hl with | [_, _], _ => rfl
  have F_lb := fun_mk (st := sLB) l_lb d_lb k_lb
  have b_lb := F_lb.binds (ps := ["machine", "most"]) fun _ _ _ _ _ _ us hl => match us, hl with | [_, _], _ => rfl
  have F_ct := fun_mk (st := sCt) l_ct d_ct k_ct
  have b_ct := F_ct.binds (ps := ["machine"]) fun _ _ _ _ _ _ us hl => match us, hl with | [_], _ => rfl
  have F_dr := fun_mk (st := sDr) l_dr d_dr k_dr
  have b_dr := F_dr.binds (ps := ["_law_cell", "_law_modulus", "_law_count"]) fun _ _ _ _ _ _ us hl => match us, hl with | [_, _, _], _ => rfl
  have F_bx := fun_mk (st := sBx) l_bx d_bx k_bx
  have b_bx := F_bx.binds (ps := ["_law_script"]) fun _ _ _ _ _ _ us hl => match us, hl with | [_], _ => rfl
  have F_nx := fun_mk (st := sNx) l_nx d_nx k_nx
  have b_nx := F_nx.binds (ps := ["_law_box_here", "_law_modulus"]) fun _ _ _ _ _ _ us hl => match us, hl with | [_, _], _ => rfl
  have F_st := fun_mk (st := sSt) l_st d_st k_st
  have b_st := F_st.binds (ps := ["_law_box_here", "_law_below"]) fun _ _ _ _ _ _ us hl => match us, hl with | [_, _], _ => rfl
  have F_ma := fun_mk (st := sMa) l_ma d_ma k_ma
  have b_ma := F_ma.binds (ps := ["_law_box_here", "_law_letters"]) fun _ _ _ _ _ _ us hl => match us, hl with | [_, _], _ => rfl
  have F_la := fun_mk (st := sLa) l_la d_la k_la
  have b_la := F_la.binds (ps := ["_law_action", "_law_counters"]) fun _ _ _ _ _ _ us hl => match us, hl with | [_, _], _ => rfl
  have F_co := fun_mk (st := sCo) l_co d_co k_co
  have b_co := F_co.binds (ps := ["_law_machine_here", "_law_word_here"]) fun _ _ _ _ _ _ us hl => match us, hl with | [_, _], _ => rfl
  have F_ws := fun_mk (st := sWs) l_ws d_ws k_ws
  have b_ws := F_ws.binds (ps := ["_law_letters", "_law_most"]) fun _ _ _ _ _ _ us hl => match us, hl with | [_, _], _ => rfl
  have F_ln := fun_mk (st := sLn) l_ln d_ln k_ln
  have b_ln := F_ln.binds (ps := ["_law_box_here", "_law_number", "_law_letters"]) fun _ _ _ _ _ _ us hl => match us, hl with | [_, _, _], _ => rfl
  have F_rc := fun_mk (st := sRc) l_rc d_rc k_rc
  have b_rc := F_rc.binds (ps := ["_law_box_here", "_law_most", "_law_letters"]) fun _ _ _ _ _ _ us hl => match us, hl with | [_, _, _], _ => rfl
  have F_wd := fun_mk (st := sWd) l_wd d_wd k_wd
  have b_wd := F_wd.binds (ps := ["_law_recipe_here", "_law_times"]) fun _ _ _ _ _ _ us hl => match us, hl with | [_, _], _ => rfl
  have F_cg := fun_mk (st := sCg) l_cg d_cg k_cg
  have b_cg := F_cg.binds (ps := ["_law_machine_here"]) fun _ _ _ _ _ _ us hl => match us, hl with | [_], _ => rfl
  have F_bd := fun_mk (st := sBd) l_bd d_bd k_bd
  have b_bd := F_bd.binds (ps := ["_law_machine_here"]) fun _ _ _ _ _ _ us hl => match us, hl with | [_], _ => rfl
  have F_cm := fun_mk (st := sCm) l_cm d_cm k_cm
  have b_cm := F_cm.binds (ps := ["_law_machine_here", "_law_recipe_here"]) fun _ _ _ _ _ _ us hl => match us, hl with | [_, _], _ => rfl
  have F_in := fun_mk (st := sIn) l_in d_in k_in
  have b_in := F_in.binds (ps := ["self", "letters", "together", "stable", "again"]) fun _ _ _ _ _ _ us hl => match us, hl with | [_, _, _, _, _], _ => rfl
  have F_add := fun_mk (st := sAdd) l_add d_add k_add
  have b_add := F_add.binds (ps := ["self", "made", "item"]) fun _ _ _ _ _ _ us hl => match us, hl with | [_, _, _], _ => rfl
  have F_gr := fun_mk (st := sGr) l_gr d_gr k_gr
  have b_gr := F_gr.binds (ps := ["self", "number"]) fun _ _ _ _ _ _ us hl => match us, hl with | [_, _], _ => rfl
  have F_lw := fun_mk (st := sLw) l_lw d_lw k_lw
  have b_lw := F_lw.binds (ps := ["_law_script"]) fun _ _ _ _ _ _ us hl => match us, hl with | [_], _ => rfl
  have m_al : mg "after_letter" = some (.ref f_al) := PySem.W.mg_of X G a_al
  have m_ia : mg "is_above" = some (.ref f_ia) := PySem.W.mg_of X G a_ia
  obtain ⟨g_al, h_al⟩ := tab_of X hT r_al m_al l_al rfl q_al p_al
  obtain ⟨g_ia, h_ia⟩ := tab_of X hT r_ia m_ia l_ia rfl q_ia p_ia
  refine ⟨(PySem.W.fnOf "law" "law" (defArgs sLw) (defBody sLw) (defScope sLw) .none kV_lw dc_lw pm_lw an_lw cd_lw ct_lw), [(c_al, P_al), (c_ia, P_ia)], spLw K [P_al, P_ia], ?_, ?_, ?_, fun s u => .of_eq rfl, fun H a ns hl _ hH hS => ⟨a, ns, rfl, hS, hl, ?_, fun _ => rfl⟩, fun base hK hG TB => ?_⟩
  · intro p hp
    rcases List.mem_cons.mp hp with rfl | hp
    · exact g_al
    · rw [List.mem_singleton.mp hp]
      exact g_ia
  · intro p hp
    rcases List.mem_cons.mp hp with rfl | hp
    · exact n_al
    · rw [List.mem_singleton.mp hp]
      exact n_ia
  · intro p hp
    rcases List.mem_cons.mp hp with rfl | hp
    · exact h_al
    · rw [List.mem_singleton.mp hp]
      exact h_ia
  · intro p hp
    rcases List.mem_cons.mp hp with rfl | hp
    · exact ⟨#[], hH (c_al, p) List.mem_cons_self, True.intro⟩
    · rw [List.mem_singleton.mp hp]
      exact ⟨#[], hH (c_ia, P_ia) (List.mem_cons_of_mem _ List.mem_cons_self), True.intro⟩
  have TBa := TB (c_al, P_al) List.mem_cons_self
  have TBi := TB (c_ia, P_ia) (List.mem_cons_of_mem _ List.mem_cons_self)
  have c_best : Cal l.prog w K mg base CX0 1 "best" ["values"] spBest f_best (PySem.W.fnOf "best" "best" (defArgs sBest) (defBody sBest) (defScope sBest) .none kV_best dc_best pm_best an_best cd_best ct_best) := ⟨ok_best F_best T, PySem.W.mg_of X G a_best, k_best, b_best⟩
  have c_along : Cal l.prog w K mg base CX0 1 "along" ["first", "second"] spAlong f_along (PySem.W.fnOf "along" "along" (defArgs sAlong) (defBody sAlong) (defScope sAlong) .none kV_along dc_along pm_along an_along cd_along ct_along) := ⟨ok_along F_along T, PySem.W.mg_of X G a_along, k_along, b_along⟩
  have c_letter : Cal l.prog w K mg base CX0 2 "letter_table" ["machine", "letter"] spLetter f_letter (PySem.W.fnOf "letter_table" "letter_table" (defArgs sLetter) (defBody sLetter) (defScope sLetter) .none kV_letter dc_letter pm_letter an_letter cd_letter ct_letter) := ⟨ok_letter F_letter T c_best, PySem.W.mg_of X G a_letter, k_letter, b_letter⟩
  have c_seq : Cal l.prog w K mg base CX0 2 "in_sequence" ["first", "second"] spSeq f_seq (PySem.W.fnOf "in_sequence" "in_sequence" (defArgs sSeq) (defBody sSeq) (defScope sSeq) .none kV_seq dc_seq pm_seq an_seq cd_seq ct_seq) := ⟨ok_seq F_seq T c_best c_along, PySem.W.mg_of X G a_seq, k_seq, b_seq⟩
  have c_stable : Cal l.prog w K mg base CX0 3 "is_stable" ["table"] spStable f_stable (PySem.W.fnOf "is_stable" "is_stable" (defArgs sStable) (defBody sStable) (defScope sStable) .none kV_stable dc_stable pm_stable an_stable cd_stable ct_stable) := ⟨ok_stable F_stable c_seq, PySem.W.mg_of X G a_stable, k_stable, b_stable⟩
  have c_stay : Cal l.prog w K mg base CX0 1 "staying" ["table", "state"] spStay f_stay (PySem.W.fnOf "staying" "staying" (defArgs sStay) (defBody sStay) (defScope sStay) .none kV_stay dc_stay pm_stay an_stay cd_stay ct_stay) := ⟨ok_stay F_stay , PySem.W.mg_of X G a_stay, k_stay, b_stay⟩
  have c_rep : Cal l.prog w K mg base CX0 2 "repeated" ["table"] spRep f_rep (PySem.W.fnOf "repeated" "repeated" (defArgs sRep) (defBody sRep) (defScope sRep) .none kV_rep dc_rep pm_rep an_rep cd_rep ct_rep) := ⟨ok_rep F_rep T c_best c_along c_stay, PySem.W.mg_of X G a_rep, k_rep, b_rep⟩
  have c_bv : Cal l.prog w K mg base CX0 2 "best_value" ["machine", "table"] spBV f_bv (PySem.W.fnOf "best_value" "best_value" (defArgs sBV) (defBody sBV) (defScope sBV) .none kV_bv dc_bv pm_bv an_bv cd_bv ct_bv) := ⟨ok_bv F_bv T c_best, PySem.W.mg_of X G a_bv, k_bv, b_bv⟩
  have c_to : Cal l.prog w K mg base CX0 4 "table_of" ["machine", "line", "tables"] spTO f_to (PySem.W.fnOf "table_of" "table_of" (defArgs sTO) (defBody sTO) (defScope sTO) .none kV_to dc_to pm_to an_to cd_to ct_to) := ⟨ok_to F_to c_letter c_seq c_stable c_rep, PySem.W.mg_of X G a_to, k_to, b_to⟩
  have c_ts : Cal l.prog w K mg base CX0 5 "tables_of" ["machine", "recipe"] spTS f_ts (PySem.W.fnOf "tables_of" "tables_of" (defArgs sTS) (defBody sTS) (defScope sTS) .none kV_ts dc_ts pm_ts an_ts cd_ts ct_ts) := ⟨ok_ts F_ts c_to, PySem.W.mg_of X G a_ts, k_ts, b_ts⟩
  have c_wo : Cal l.prog w K mg base (L2.CX l.prog w) 1 "word_of" ["recipe", "times"] (spWO C3) f_wo (PySem.W.fnOf "word_of" "word_of" (defArgs sWO) (defBody sWO) (defScope sWO) .none kV_wo dc_wo pm_wo an_wo cd_wo ct_wo) := ⟨ok_wo F_wo T X3, PySem.W.mg_of X G a_wo, k_wo, b_wo⟩
  have c_m : Cal l.prog w K mg base CX0 4 "is_missing" ["machine", "tables"] spM f_m (PySem.W.fnOf "is_missing" "is_missing" (defArgs sM) (defBody sM) (defScope sM) .none kV_m dc_m pm_m an_m cd_m ct_m) := ⟨ok_m F_m T c_letter c_seq c_stable c_rep, PySem.W.mg_of X G a_m, k_m, b_m⟩
  have c_j : Cal l.prog w K mg base CX0 5 "judge_catalogue" ["machine", "entries"] spJ f_j (PySem.W.fnOf "judge_catalogue" "judge_catalogue" (defArgs sJ) (defBody sJ) (defScope sJ) .none kV_j dc_j pm_j an_j cd_j ct_j) := ⟨ok_j F_j T c_to c_bv c_m, PySem.W.mg_of X G a_j, k_j, b_j⟩
  have c_ap : Cal l.prog w K mg base CX0 1 "applied" ["action", "counters"] spAp f_ap (PySem.W.fnOf "applied" "applied" (defArgs sAp) (defBody sAp) (defScope sAp) .none kV_ap dc_ap pm_ap an_ap cd_ap ct_ap) := ⟨ok_ap F_ap , PySem.W.mg_of X G a_ap, k_ap, b_ap⟩
  have c_en : Cal l.prog w K mg base CX0 1 "enough" ["machine", "number"] spEn f_en (PySem.W.fnOf "enough" "enough" (defArgs sEn) (defBody sEn) (defScope sEn) .none kV_en dc_en pm_en an_en cd_en ct_en) := ⟨ok_en F_en T, PySem.W.mg_of X G a_en, k_en, b_en⟩
  have c_alC : Cal l.prog w K mg base CX0 2 "after_letter" ["machine", "letter", "possibility", "number"] (spAL [P_al, P_ia]) f_al (PySem.W.fnOf "after_letter" "after_letter" (defArgs sAL) (defBody sAL) (defScope sAL) .none kV_al dc_al pm_al an_al (.ref c_al) ct_al) := ⟨ok_al (Ps := [P_al, P_ia]) List.mem_cons_self ⟨⟨_, _, _, _, _, _, _, _, rfl, l_al, d_al⟩, k_al⟩ T TBa c_ap, PySem.W.mg_of X G a_al, k_al, b_al⟩
  have c_iaC : Cal l.prog w K mg base CX0 1 "is_above" ["machine", "possibility"] (spIA [P_al, P_ia]) f_ia (PySem.W.fnOf "is_above" "is_above" (defArgs sIA) (defBody sIA) (defScope sIA) .none kV_ia dc_ia pm_ia an_ia (.ref c_ia) ct_ia) := ⟨ok_ia (Ps := [P_al, P_ia]) (List.mem_cons_of_mem _ List.mem_cons_self) ⟨⟨_, _, _, _, _, _, _, _, rfl, l_ia, d_ia⟩, k_ia⟩ T TBi, PySem.W.mg_of X G a_ia, k_ia, b_ia⟩
  have c_wa : Cal l.prog w K mg base (L2.CX l.prog w) 3 "word_above" ["machine", "number"] (spWA [P_al, P_ia] C1) f_wa (PySem.W.fnOf "word_above" "word_above" (defArgs sWA) (defBody sWA) (defScope sWA) .none kV_wa dc_wa pm_wa an_wa cd_wa ct_wa) := ⟨ok_wa F_wa T X1 c_alC c_iaC, PySem.W.mg_of X G a_wa, k_wa, b_wa⟩
  have c_lb : Cal l.prog w K mg base (L2.CX l.prog w) 4 "least_bound" ["machine", "most"] (spLB [P_al, P_ia] C1 C2) f_lb (PySem.W.fnOf "least_bound" "least_bound" (defArgs sLB) (defBody sLB) (defScope sLB) .none kV_lb dc_lb pm_lb an_lb cd_lb ct_lb) := ⟨ok_lb F_lb T X2 c_wa, PySem.W.mg_of X G a_lb, k_lb, b_lb⟩
  have A_add := ok_add (P := l.prog) (w := w) (base := base) F_add T TC X4
  have A_gr := ok_gr (P := l.prog) (w := w) (base := base) F_gr T TC A_add b_add c_seq c_stable c_rep (fun _ _ _ _ _ _ _ _ => True.intro)
  have A_in := ok_in (P := l.prog) (w := w) (base := base) F_in T TC A_add b_add A_gr b_gr
  have c_ct : Cal l.prog w K mg base (L2.CX l.prog w) 7 "catalogue" ["machine"] (spCt C4) f_ct (PySem.W.fnOf "catalogue" "catalogue" (defArgs sCt) (defBody sCt) (defScope sCt) .none kV_ct dc_ct pm_ct an_ct cd_ct ct_ct) := ⟨ok_ct F_ct T TC A_in b_in c_letter c_seq c_stable c_rep, PySem.W.mg_of X G a_ct, k_ct, b_ct⟩
  have c_dr : Cal l.prog w K mg base CX0 1 "_law_draws" ["_law_cell", "_law_modulus", "_law_count"] spDr f_dr (PySem.W.fnOf "_law_draws" "_law_draws" (defArgs sDr) (defBody sDr) (defScope sDr) .none kV_dr dc_dr pm_dr an_dr cd_dr ct_dr) := ⟨ok_dr F_dr T, PySem.W.mg_of X G a_dr, k_dr, b_dr⟩
  have c_bx : Cal l.prog w K mg base CX0 2 "_law_box" ["_law_script"] (spBx K) f_bx (PySem.W.fnOf "_law_box" "_law_box" (defArgs sBx) (defBody sBx) (defScope sBx) .none kV_bx dc_bx pm_bx an_bx cd_bx ct_bx) := ⟨ok_bx F_bx T c_dr, PySem.W.mg_of X G a_bx, k_bx, b_bx⟩
  have c_nx : Cal l.prog w K mg base CX0 1 "_law_next" ["_law_box_here", "_law_modulus"] spNext f_nx (PySem.W.fnOf "_law_next" "_law_next" (defArgs sNx) (defBody sNx) (defScope sNx) .none kV_nx dc_nx pm_nx an_nx cd_nx ct_nx) := ⟨ok_nx F_nx T, PySem.W.mg_of X G a_nx, k_nx, b_nx⟩
  have c_st : Cal l.prog w K mg base CX0 2 "_law_set" ["_law_box_here", "_law_below"] spSt f_st (PySem.W.fnOf "_law_set" "_law_set" (defArgs sSt) (defBody sSt) (defScope sSt) .none kV_st dc_st pm_st an_st cd_st ct_st) := ⟨ok_st F_st T c_nx, PySem.W.mg_of X G a_st, k_st, b_st⟩
  have c_ma : Cal l.prog w K mg base CX0 3 "_law_machine" ["_law_box_here", "_law_letters"] spMa f_ma (PySem.W.fnOf "_law_machine" "_law_machine" (defArgs sMa) (defBody sMa) (defScope sMa) .none kV_ma dc_ma pm_ma an_ma cd_ma ct_ma) := ⟨ok_ma F_ma T c_nx c_st, PySem.W.mg_of X G a_ma, k_ma, b_ma⟩
  have c_la : Cal l.prog w K mg base CX0 1 "_law_applied" ["_law_action", "_law_counters"] spAp f_la (PySem.W.fnOf "_law_applied" "_law_applied" (defArgs sLa) (defBody sLa) (defScope sLa) .none kV_la dc_la pm_la an_la cd_la ct_la) := ⟨ok_la F_la T, PySem.W.mg_of X G a_la, k_la, b_la⟩
  have c_co : Cal l.prog w K mg base CX0 2 "_law_cost" ["_law_machine_here", "_law_word_here"] spCo f_co (PySem.W.fnOf "_law_cost" "_law_cost" (defArgs sCo) (defBody sCo) (defScope sCo) .none kV_co dc_co pm_co an_co cd_co ct_co) := ⟨ok_co F_co T c_la, PySem.W.mg_of X G a_co, k_co, b_co⟩
  have c_ws : Cal l.prog w K mg base CX0 1 "_law_words" ["_law_letters", "_law_most"] spWs f_ws (PySem.W.fnOf "_law_words" "_law_words" (defArgs sWs) (defBody sWs) (defScope sWs) .none kV_ws dc_ws pm_ws an_ws cd_ws ct_ws) := ⟨ok_ws F_ws T, PySem.W.mg_of X G a_ws, k_ws, b_ws⟩
  have c_ln : Cal l.prog w K mg base CX0 2 "_law_line" ["_law_box_here", "_law_number", "_law_letters"] spLn f_ln (PySem.W.fnOf "_law_line" "_law_line" (defArgs sLn) (defBody sLn) (defScope sLn) .none kV_ln dc_ln pm_ln an_ln cd_ln ct_ln) := ⟨ok_ln F_ln c_nx, PySem.W.mg_of X G a_ln, k_ln, b_ln⟩
  have c_rc : Cal l.prog w K mg base CX0 3 "_law_recipe" ["_law_box_here", "_law_most", "_law_letters"] spRc f_rc (PySem.W.fnOf "_law_recipe" "_law_recipe" (defArgs sRc) (defBody sRc) (defScope sRc) .none kV_rc dc_rc pm_rc an_rc cd_rc ct_rc) := ⟨ok_rc F_rc T c_nx c_ln, PySem.W.mg_of X G a_rc, k_rc, b_rc⟩
  have c_wd : Cal l.prog w K mg base CX0 2 "_law_word" ["_law_recipe_here", "_law_times"] spWd f_wd (PySem.W.fnOf "_law_word" "_law_word" (defArgs sWd) (defBody sWd) (defScope sWd) .none kV_wd dc_wd pm_wd an_wd cd_wd ct_wd) := ⟨ok_wd F_wd X3 (exm_by sC3 ic3 tC3 x3) c_wo, PySem.W.mg_of X G a_wd, k_wd, b_wd⟩
  have c_cg : Cal l.prog w K mg base CX0 8 "_law_catalogue" ["_law_machine_here"] spCg f_cg (PySem.W.fnOf "_law_catalogue" "_law_catalogue" (defArgs sCg) (defBody sCg) (defScope sCg) .none kV_cg dc_cg pm_cg an_cg cd_cg ct_cg) := ⟨ok_cg F_cg X4 (exm_by sC4 ic4 tC4 x4) c_ct, PySem.W.mg_of X G a_cg, k_cg, b_cg⟩
  have c_bd : Cal l.prog w K mg base CX0 5 "_law_bound" ["_law_machine_here"] (spBd [P_al, P_ia]) f_bd (PySem.W.fnOf "_law_bound" "_law_bound" (defArgs sBd) (defBody sBd) (defScope sBd) .none kV_bd dc_bd pm_bd an_bd cd_bd ct_bd) := ⟨ok_bd F_bd X1 X2 (exm_by sC1 ic1 tC1 x1) (exm_by sC2 ic2 tC2 x2) (exm_by sC1 ic1 tC1 x21) c_lb, PySem.W.mg_of X G a_bd, k_bd, b_bd⟩
  have c_cm : Cal l.prog w K mg base CX0 3 "_law_costs_more" ["_law_machine_here", "_law_recipe_here"] spCm f_cm (PySem.W.fnOf "_law_costs_more" "_law_costs_more" (defArgs sCm) (defBody sCm) (defScope sCm) .none kV_cm dc_cm pm_cm an_cm cd_cm ct_cm) := ⟨ok_cm F_cm T c_en c_wd c_co, PySem.W.mg_of X G a_cm, k_cm, b_cm⟩
  exact ok_lw F_lw T c_bx c_ma c_nx c_rc c_ts c_j c_cm c_cg c_bd c_ws c_co
end MW
end
section
set_option Elab.async false
set_option linter.all false
open PySem PySem.W PyProof.Rows in
set_option maxRecDepth 100000 in
set_option maxHeartbeats 0 in
theorem PySem.Challenge.cw_mostspent_k26_whole_growing_entries_cost_holds : PySem.Challenge.rw_mostspent_k26_whole_growing_entries_cost.Holds := by
  w_on; o_law; k_head; (case hw => w_witness2)
  k_fill
  refine MW.walk_tabs (l := PySem.Challenge.rw_mostspent_k26_whole_growing_entries_cost) (n := 63) (k := 9) (x := "_law_script") rfl (by decide) rfl ⟨rfl, by decide, by decide⟩ (fun w h Y => PySem.W.kIn_of Y) ?F
  case F =>
    intro w mg fa h KX G hmg hT
    refine' MW.all_mk KX G hmg hT ?aB ?a_best ?l_best ?d_best ?k_best ?a_along ?l_along ?d_along ?k_along ?a_letter ?l_letter ?d_letter ?k_letter ?a_seq ?l_seq ?d_seq ?k_seq ?a_stable ?l_stable ?d_stable ?k_stable ?a_stay ?l_stay ?d_stay ?k_stay ?a_rep ?l_rep ?d_rep ?k_rep ?a_bv ?l_bv ?d_bv ?k_bv ?a_to ?l_to ?d_to ?k_to ?a_ts ?l_ts ?d_ts ?k_ts ?a_wo ?l_wo ?d_wo ?k_wo ?a_m ?l_m ?d_m ?k_m ?a_j ?l_j ?d_j ?k_j ?a_ap ?l_ap ?d_ap ?k_ap ?a_en ?l_en ?d_en ?k_en ?a_al ?l_al ?d_al ?k_al ?q_al ?p_al ?n_al ?a_ia ?l_ia ?d_ia ?k_ia ?q_ia ?p_ia ?n_ia ?a_wa ?l_wa ?d_wa ?k_wa ?a_lb ?l_lb ?d_lb ?k_lb ?a_ct ?l_ct ?d_ct ?k_ct ?a_dr ?l_dr ?d_dr ?k_dr ?a_bx ?l_bx ?d_bx ?k_bx ?a_nx ?l_nx ?d_nx ?k_nx ?a_st ?l_st ?d_st ?k_st ?a_ma ?l_ma ?d_ma ?k_ma ?a_la ?l_la ?d_la ?k_la ?a_co ?l_co ?d_co ?k_co ?a_ws ?l_ws ?d_ws ?k_ws ?a_ln ?l_ln ?d_ln ?k_ln ?a_rc ?l_rc ?d_rc ?k_rc ?a_wd ?l_wd ?d_wd ?k_wd ?a_cg ?l_cg ?d_cg ?k_cg ?a_bd ?l_bd ?d_bd ?k_bd ?a_cm ?l_cm ?d_cm ?k_cm ?a_in ?i_in ?l_in ?d_in ?k_in ?a_add ?i_add ?l_add ?d_add ?k_add ?a_gr ?i_gr ?l_gr ?d_gr ?k_gr ?a_lw ?l_lw ?d_lw ?k_lw ?pg ?hd ?po ?sa ?mk ?kB ?n_together ?n_stable ?n_again ?n_entries ?n_known ?aC1 ?kC1 ?eC1 ?sC1 ?tC1 ?x1 ?ic1 ?aC2 ?kC2 ?eC2 ?sC2 ?tC2 ?x2 ?ic2 ?aC3 ?kC3 ?eC3 ?sC3 ?tC3 ?x3 ?ic3 ?aC4 ?kC4 ?eC4 ?sC4 ?tC4 ?x4 ?ic4 ?x21 ?z_range ?z_len ?z_min ?z_max ?z_tuple ?z_list ?z_sorted ?z_all ?z_any ?z_enumerate ?z_int ?b_ml ?b_mp ?b_me ?b_O ?l_O ?r_al ?r_ia
    (case aB => k_is)
    (case a_best => k_is)
    (case l_best => k_is)
    (case d_best => k_is)
    (case k_best => k_is)
    (case a_along => k_is)
    (case l_along => k_is)
    (case d_along => k_is)
    (case k_along => k_is)
    (case a_letter => k_is)
    (case l_letter => k_is)
    (case d_letter => k_is)
    (case k_letter => k_is)
    (case a_seq => k_is)
    (case l_seq => k_is)
    (case d_seq => k_is)
    (case k_seq => k_is)
    (case a_stable => k_is)
    (case l_stable => k_is)
    (case d_stable => k_is)
    (case k_stable => k_is)
    (case a_stay => k_is)
    (case l_stay => k_is)
    (case d_stay => k_is)
    (case k_stay => k_is)
    (case a_rep => k_is)
    (case l_rep => k_is)
    (case d_rep => k_is)
    (case k_rep => k_is)
    (case a_bv => k_is)
    (case l_bv => k_is)
    (case d_bv => k_is)
    (case k_bv => k_is)
    (case a_to => k_is)
    (case l_to => k_is)
    (case d_to => k_is)
    (case k_to => k_is)
    (case a_ts => k_is)
    (case l_ts => k_is)
    (case d_ts => k_is)
    (case k_ts => k_is)
    (case a_wo => k_is)
    (case l_wo => k_is)
    (case d_wo => k_is)
    (case k_wo => k_is)
    (case a_m => k_is)
    (case l_m => k_is)
    (case d_m => k_is)
    (case k_m => k_is)
    (case a_j => k_is)
    (case l_j => k_is)
    (case d_j => k_is)
    (case k_j => k_is)
    (case a_ap => k_is)
    (case l_ap => k_is)
    (case d_ap => k_is)
    (case k_ap => k_is)
    (case a_en => k_is)
    (case l_en => k_is)
    (case d_en => k_is)
    (case k_en => k_is)
    (case a_al => k_is)
    (case l_al => k_is)
    (case d_al => k_is)
    (case k_al => k_is)
    (case q_al => k_is)
    (case p_al => first | rfl | k_is)
    (case n_al => first | k_is | rfl | decide +kernel)
    (case a_ia => k_is)
    (case l_ia => k_is)
    (case d_ia => k_is)
    (case k_ia => k_is)
    (case q_ia => k_is)
    (case p_ia => first | rfl | k_is)
    (case n_ia => first | k_is | rfl | decide +kernel)
    (case a_wa => k_is)
    (case l_wa => k_is)
    (case d_wa => k_is)
    (case k_wa => k_is)
    (case a_lb => k_is)
    (case l_lb => k_is)
    (case d_lb => k_is)
    (case k_lb => k_is)
    (case a_ct => k_is)
    (case l_ct => k_is)
    (case d_ct => k_is)
    (case k_ct => k_is)
    (case a_dr => k_is)
    (case l_dr => k_is)
    (case d_dr => k_is)
    (case k_dr => k_is)
    (case a_bx => k_is)
    (case l_bx => k_is)
    (case d_bx => k_is)
    (case k_bx => k_is)
    (case a_nx => k_is)
    (case l_nx => k_is)
    (case d_nx => k_is)
    (case k_nx => k_is)
    (case a_st => k_is)
    (case l_st => k_is)
    (case d_st => k_is)
    (case k_st => k_is)
    (case a_ma => k_is)
    (case l_ma => k_is)
    (case d_ma => k_is)
    (case k_ma => k_is)
    (case a_la => k_is)
    (case l_la => k_is)
    (case d_la => k_is)
    (case k_la => k_is)
    (case a_co => k_is)
    (case l_co => k_is)
    (case d_co => k_is)
    (case k_co => k_is)
    (case a_ws => k_is)
    (case l_ws => k_is)
    (case d_ws => k_is)
    (case k_ws => k_is)
    (case a_ln => k_is)
    (case l_ln => k_is)
    (case d_ln => k_is)
    (case k_ln => k_is)
    (case a_rc => k_is)
    (case l_rc => k_is)
    (case d_rc => k_is)
    (case k_rc => k_is)
    (case a_wd => k_is)
    (case l_wd => k_is)
    (case d_wd => k_is)
    (case k_wd => k_is)
    (case a_cg => k_is)
    (case l_cg => k_is)
    (case d_cg => k_is)
    (case k_cg => k_is)
    (case a_bd => k_is)
    (case l_bd => k_is)
    (case d_bd => k_is)
    (case k_bd => k_is)
    (case a_cm => k_is)
    (case l_cm => k_is)
    (case d_cm => k_is)
    (case k_cm => k_is)
    (case a_in => k_is)
    (case i_in => k_is)
    (case l_in => k_is)
    (case d_in => k_is)
    (case k_in => k_is)
    (case a_add => k_is)
    (case i_add => k_is)
    (case l_add => k_is)
    (case d_add => k_is)
    (case k_add => k_is)
    (case a_gr => k_is)
    (case i_gr => k_is)
    (case l_gr => k_is)
    (case d_gr => k_is)
    (case k_gr => k_is)
    (case a_lw => k_is)
    (case l_lw => k_is)
    (case d_lw => k_is)
    (case k_lw => k_is)
    (case pg => k_is)
    (case hd => k_is)
    (case po => k_is)
    (case sa => k_is)
    (case mk => k_is)
    (case kB => k_is)
    (case n_together => k_is)
    (case n_stable => k_is)
    (case n_again => k_is)
    (case n_entries => k_is)
    (case n_known => k_is)
    (case aC1 => k_is)
    (case kC1 => k_is)
    (case eC1 => k_exc)
    (case sC1 => k_is)
    (case tC1 => k_is)
    (case x1 => first | k_is | rfl)
    (case ic1 => k_is)
    (case aC2 => k_is)
    (case kC2 => k_is)
    (case eC2 => k_exc)
    (case sC2 => k_is)
    (case tC2 => k_is)
    (case x2 => first | k_is | rfl)
    (case ic2 => k_is)
    (case aC3 => k_is)
    (case kC3 => k_is)
    (case eC3 => k_exc)
    (case sC3 => k_is)
    (case tC3 => k_is)
    (case x3 => first | k_is | rfl)
    (case ic3 => k_is)
    (case aC4 => k_is)
    (case kC4 => k_is)
    (case eC4 => k_exc)
    (case sC4 => k_is)
    (case tC4 => k_is)
    (case x4 => first | k_is | rfl)
    (case ic4 => k_is)
    (case x21 => first | k_is | rfl)
    (case z_range => k_is)
    (case z_len => k_is)
    (case z_min => k_is)
    (case z_max => k_is)
    (case z_tuple => k_is)
    (case z_list => k_is)
    (case z_sorted => k_is)
    (case z_all => k_is)
    (case z_any => k_is)
    (case z_enumerate => k_is)
    (case z_int => k_is)
    (case b_ml => k_is)
    (case b_mp => k_is)
    (case b_me => k_is)
    (case b_O => k_is)
    (case l_O => k_is)
    (case r_al => first | rfl | decide +kernel)
    (case r_ia => first | rfl | decide +kernel)
end
