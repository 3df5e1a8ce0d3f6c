import PyProof.Rows.All
import Wide.All
import OpenK.AllK
import Wide.FinOn
import Open.SpecLaws
import KE.OsHead
import KE.OsGo
import HandS.ForSpec
import PySem.Challenge.RW_fivekicks_s01_answers
set_option Elab.async false
set_option maxRecDepth 100000
set_option maxHeartbeats 2000000
/-! # 1. The mirror: the match as a record of whole numbers, one total function a def -/
namespace Fk
structure M where
  first : Int
  k0 : Int
  k1 : Int
  s0 : Int
  s1 : Int
/-- the item of a pair at a team's place -/
def pk (a b t : Int) : Int := if t = 0 then a else b
def within5 (a b : Int) : Bool := decide (a < 5) || decide (b < 5)
def bound (a b t : Int) : Int := if within5 a b = true then 5 else pk a b (1 - t)
def left (a b t : Int) : Int := if 0 > bound a b t - pk a b t then 0 else bound a b t - pk a b t
def could (a b c d t : Int) : Int := pk c d t + left a b t
def dec (a b c d t : Int) : Bool := decide (could a b c d (1 - t) < pk c d t)
def winner (a b c d : Int) : Int := if dec a b c d 0 = true then 1 else if dec a b c d 1 = true then 2 else 0
def turnOf (f a b : Int) : Int := if a = b then f else 1 - f
def M.fresh : M := ⟨0, 0, 0, 0, 0⟩
def M.begin (m : M) (f : Int) : M × Int := if 1 < f then (m, -22) else (⟨f, 0, 0, 0, 0⟩, 0)
def M.won (m : M) : Int := winner m.k0 m.k1 m.s0 m.s1
def M.turn (m : M) : Int := if m.won ≠ 0 then -11 else turnOf m.first m.k0 m.k1
def M.put (m : M) (t x : Int) : M := ⟨m.first, if t = 0 then m.k0 + 1 else m.k0, if t = 0 then m.k1 else m.k1 + 1, if t = 0 then m.s0 + x else m.s0, if t = 0 then m.s1 else m.s1 + x⟩
def M.kick (m : M) (x : Int) : M × Int :=
  if 1 < x then (m, -22) else if m.turn < 0 then (m, -11) else if 1000000 ≤ m.k0 + m.k1 then (m, -28) else (m.put m.turn x, (m.put m.turn x).won)
def M.counts (m : M) (t : Int) : List Int := if 1 < t then [-22] else [pk m.k0 m.k1 t, pk m.s0 m.s1 t]
/-- one call: its word, its number (0 where it has none) -/
def M.step (m : M) (w x : Int) : M × List Int :=
  if w = 0 then ((m.begin x).1, [(m.begin x).2]) else if w = 1 then ((m.kick x).1, [(m.kick x).2]) else if w = 2 then (m, [m.turn])
  else if w = 3 then (m, m.counts x) else (m, [m.won])
def long (w : Int) : Bool := decide (w = 0) || decide (w = 1) || decide (w = 3)
def parts : List Int → List (List Int)
  | [] => []
  | [w] => [[w]]
  | w :: x :: r => if long w = true then [w, x] :: parts r else [w] :: parts (x :: r)
def M.does (m : M) (c : List Int) : M × List Int := m.step (c.headD 0) (c.tail.headD 0)
/-- all answers, told -/
def play (m : M) : List (List Int) → List Int
  | [] => []
  | c :: cs => ((m.does c).2.length : Int) :: ((m.does c).2 ++ play (m.does c).1 cs)
/-- a call that may be handed in: a long word has its number, which isn't below 0 -/
def fit (c : List Int) : Prop := (∃ w x, c = [w, x] ∧ long w = true ∧ 0 ≤ x) ∨ (∃ w, c = [w] ∧ long w = false)
/-! # 2. The mathematics: the mirror is the specification -/
/-- the record and the specification's -/
structure Like (m : M) (k : Kmt3.Kicks) : Prop where
  f : m.first = (k.first : Int)
  fl : k.first ≤ 1
  z : k.first = 0 → m.k0 = (k.had : Int) ∧ m.k1 = (k.had2 : Int) ∧ m.s0 = (k.in_ : Int) ∧ m.s1 = (k.in2 : Int)
  o : k.first = 1 → m.k1 = (k.had : Int) ∧ m.k0 = (k.had2 : Int) ∧ m.s1 = (k.in_ : Int) ∧ m.s0 = (k.in2 : Int)
  h : k.had = k.had2 ∨ k.had = k.had2 + 1
theorem left_is (x y : Nat) : ((Kmt3.left x y : Nat) : Int) = (if (x : Int) < 5 ∨ (y : Int) < 5 then (if 0 > 5 - (x : Int) then 0 else 5 - (x : Int)) else (if 0 > (y : Int) - x then 0 else (y : Int) - x)) := by
  unfold Kmt3.left
  split <;> split <;> split <;> omega
theorem left0 (a b : Int) : left a b 0 = (if a < 5 ∨ b < 5 then (if 0 > 5 - a then 0 else 5 - a) else (if 0 > b - a then 0 else b - a)) := by
  unfold left bound within5 pk
  simp only [Bool.or_eq_true, decide_eq_true_eq]
  split <;> simp_all
theorem left1 (a b : Int) : left a b 1 = (if b < 5 ∨ a < 5 then (if 0 > 5 - b then 0 else 5 - b) else (if 0 > a - b then 0 else a - b)) := by
  unfold left bound within5 pk
  simp only [Bool.or_eq_true, decide_eq_true_eq]
  by_cases h : a < 5 ∨ b < 5
  · rw [if_pos h, if_pos (show b < 5 ∨ a < 5 by omega)]; simp
  · rw [if_neg h, if_neg (show ¬ (b < 5 ∨ a < 5) by omega)]; simp
theorem winner_is (a b c d : Int) : winner a b c d = if d + left a b 1 < c then 1 else if c + left a b 0 < d then 2 else 0 := by
  unfold winner dec could
  simp [pk]
theorem left_nonneg (a b t : Int) : 0 ≤ left a b t := by
  unfold left
  split <;> omega
theorem Like.won {m : M} {k : Kmt3.Kicks} (L : Like m k) : m.won = ((Kmt3.won k : Nat) : Int) := by
  have hw := winner_is m.k0 m.k1 m.s0 m.s1
  have l0 := left_is k.had k.had2
  have l1 := left_is k.had2 k.had
  have n0 := left0 m.k0 m.k1
  have n1 := left1 m.k0 m.k1
  unfold M.won
  rw [hw]
  unfold Kmt3.won Kmt3.decided
  have hf := L.fl
  rcases (show k.first = 0 ∨ k.first = 1 by omega) with e | e
  · obtain ⟨e1, e2, e3, e4⟩ := L.z e
    rw [e1, e2] at n0 n1
    rw [← l0] at n0
    rw [← l1] at n1
    rw [e1, e2, e3, e4, n0, n1, e]
    by_cases c1 : k.in2 + Kmt3.left k.had2 k.had < k.in_
    · rw [if_pos (show (k.in2 : Int) + (Kmt3.left k.had2 k.had : Nat) < k.in_ by omega)]
      simp [c1]
    · rw [if_neg (show ¬ (k.in2 : Int) + (Kmt3.left k.had2 k.had : Nat) < k.in_ by omega)]
      by_cases c2 : k.in_ + Kmt3.left k.had k.had2 < k.in2
      · rw [if_pos (show (k.in_ : Int) + (Kmt3.left k.had k.had2 : Nat) < k.in2 by omega)]
        simp [c1, c2]
      · rw [if_neg (show ¬ (k.in_ : Int) + (Kmt3.left k.had k.had2 : Nat) < k.in2 by omega)]
        simp [c1, c2]
  · obtain ⟨e1, e2, e3, e4⟩ := L.o e
    rw [e1, e2] at n0 n1
    rw [← l1] at n0
    rw [← l0] at n1
    rw [e1, e2, e3, e4, n0, n1, e]
    by_cases c1 : k.in2 + Kmt3.left k.had2 k.had < k.in_
    · rw [if_neg (show ¬ (k.in_ : Int) + (Kmt3.left k.had k.had2 : Nat) < k.in2 by omega), if_pos (show (k.in2 : Int) + (Kmt3.left k.had2 k.had : Nat) < k.in_ by omega)]
      simp [c1]
    · by_cases c2 : k.in_ + Kmt3.left k.had k.had2 < k.in2
      · rw [if_pos (show (k.in_ : Int) + (Kmt3.left k.had k.had2 : Nat) < k.in2 by omega)]
        simp [c1, c2]
      · rw [if_neg (show ¬ (k.in_ : Int) + (Kmt3.left k.had k.had2 : Nat) < k.in2 by omega), if_neg (show ¬ (k.in2 : Int) + (Kmt3.left k.had2 k.had : Nat) < k.in_ by omega)]
        simp [c1, c2]
theorem won_zero {k : Kmt3.Kicks} (h : k.first ≤ 1) : Kmt3.won k = 0 ↔ Kmt3.decided k = 0 := by
  unfold Kmt3.won
  constructor
  · intro q
    by_cases c : Kmt3.decided k = 0
    · exact c
    · rw [if_neg c] at q
      by_cases c1 : Kmt3.decided k = 1
      · rw [if_pos c1] at q; omega
      · rw [if_neg c1] at q; omega
  · intro q
    rw [if_pos q]
theorem Like.turn {m : M} {k : Kmt3.Kicks} (L : Like m k) : m.turn = if Kmt3.decided k ≠ 0 then -11 else ((if Kmt3.turn k then k.first else 1 - k.first : Nat) : Int) := by
  have hw := L.won
  have hf := L.fl
  have hh := L.h
  unfold M.turn
  by_cases c : Kmt3.decided k = 0
  · have c0 := (won_zero hf).mpr c
    rw [if_neg (by rw [hw, c0]; simp), if_neg (by simpa using c)]
    unfold turnOf Kmt3.turn
    rw [L.f]
    rcases (show k.first = 0 ∨ k.first = 1 by omega) with e | e
    · obtain ⟨e1, e2, _, _⟩ := L.z e
      rw [e1, e2, e]
      by_cases q : k.had ≤ k.had2
      · rw [if_pos (by omega), if_pos (by simpa using q)]
      · rw [if_neg (by omega), if_neg (by simpa using q)]; rfl
    · obtain ⟨e1, e2, _, _⟩ := L.o e
      rw [e1, e2, e]
      by_cases q : k.had ≤ k.had2
      · rw [if_pos (by omega), if_pos (by simpa using q)]
      · rw [if_neg (by omega), if_neg (by simpa using q)]; rfl
  · have c0 : Kmt3.won k ≠ 0 := fun q => c ((won_zero hf).mp q)
    rw [if_pos (by rw [hw]; omega), if_pos c]
theorem Like.put {m : M} {k : Kmt3.Kicks} (L : Like m k) (x : Nat) : Like (m.put ((if Kmt3.turn k then k.first else 1 - k.first : Nat) : Int) (x : Int)) (Kmt3.kick k x) := by
  have hf := L.fl
  have hh := L.h
  unfold Kmt3.kick M.put
  by_cases q : k.had ≤ k.had2
  · have qt : Kmt3.turn k = true := by unfold Kmt3.turn; simpa using q
    rw [qt]
    simp only [if_true]
    refine ⟨L.f, hf, fun e => ?_, fun e => ?_, ?_⟩
    · obtain ⟨e1, e2, e3, e4⟩ := L.z e
      have e' : k.first = 0 := e
      simp [e', e1, e2, e3, e4]
    · obtain ⟨e1, e2, e3, e4⟩ := L.o e
      have e' : k.first = 1 := e
      simp [e', e1, e2, e3, e4]
    · show k.had + 1 = k.had2 ∨ k.had + 1 = k.had2 + 1
      omega
  · have qt : Kmt3.turn k = false := by unfold Kmt3.turn; simpa using q
    rw [qt]
    simp only [Bool.false_eq_true, if_false]
    refine ⟨L.f, hf, fun e => ?_, fun e => ?_, ?_⟩
    · obtain ⟨e1, e2, e3, e4⟩ := L.z e
      have e' : k.first = 0 := e
      simp [e', e1, e2, e3, e4]
    · obtain ⟨e1, e2, e3, e4⟩ := L.o e
      have e' : k.first = 1 := e
      simp [e', e1, e2, e3, e4]
    · show k.had = k.had2 + 1 ∨ k.had = k.had2 + 1 + 1
      omega
/-- ahead of the first start the record is of no account -/
def LikeO (m : M) : Option Kmt3.Kicks → Prop
  | none => True
  | some k => Like m k
theorem asked1_inv {c : Kmt3Neutral.Call} (h : Kmt3Neutral.asked1 c = true) : (∃ a : Int, 0 ≤ a ∧ (c = [[0, a]] ∨ c = [[1, a]] ∨ c = [[3, a]])) ∨ c = [[2]] ∨ c = [[4]] := by
  have nn : ∀ {a : Int} {b : Nat}, Kmt3Neutral.natural a b = true → 0 ≤ a := fun {a b} q => by
    unfold Kmt3Neutral.natural at q
    rw [Bool.and_eq_true, decide_eq_true_eq] at q
    exact q.1
  unfold Kmt3Neutral.asked1 at h
  split at h
  · exact .inl ⟨_, nn h, .inl rfl⟩
  · exact .inl ⟨_, nn h, .inr (.inl rfl)⟩
  · exact .inr (.inl rfl)
  · exact .inl ⟨_, nn h, .inr (.inr rfl)⟩
  · exact .inr (.inr rfl)
  · cases h
theorem step_is {m : M} {s : Option Kmt3.Kicks} {c : List Int} (L : LikeO m s) (hc : Kmt3Neutral.asked1 [c] = true) (hm : (Kmt3Neutral.step s [c]).2.isEmpty = false) :
    (m.does c).2 = (Kmt3Neutral.step s [c]).2 ∧ LikeO (m.does c).1 (Kmt3Neutral.step s [c]).1 := by
  rcases asked1_inv hc with ⟨a, ha, e⟩ | e | e
  · obtain ⟨n, rfl⟩ : ∃ n : Nat, a = (n : Int) := ⟨a.toNat, by omega⟩
    rcases e with e | e | e
    · cases e
      by_cases q : n ≤ 1
      · have e1 : Kmt3Neutral.step s [[0, (n : Int)]] = (some (Kmt3.begun n), [0]) := by
          show (match ((Kmt3.acts s (.start n))) with | none => (s, []) | some (t, a) => (t, a.value :: Kmt3Neutral.ints a.out)) = _
          show (match (some (if n ≤ 1 then (some (Kmt3.begun n), Kmt3.say 0) else (s, Kmt3.say (-22)))) with | none => (s, []) | some (t, a) => (t, a.value :: Kmt3Neutral.ints a.out)) = _
          rw [if_pos q]
          rfl
        have e2 : m.does [0, (n : Int)] = (⟨n, 0, 0, 0, 0⟩, [0]) := by
          show ((m.begin n).1, [(m.begin n).2]) = _
          unfold M.begin
          rw [if_neg (by omega)]
        rw [e1, e2]
        refine ⟨rfl, rfl, q, fun _ => ⟨rfl, rfl, rfl, rfl⟩, fun _ => ⟨rfl, rfl, rfl, rfl⟩, .inl rfl⟩
      · have e1 : Kmt3Neutral.step s [[0, (n : Int)]] = (s, [-22]) := by
          show (match (some (if n ≤ 1 then (some (Kmt3.begun n), Kmt3.say 0) else (s, Kmt3.say (-22)))) with | none => (s, []) | some (t, a) => (t, a.value :: Kmt3Neutral.ints a.out)) = _
          rw [if_neg q]
          rfl
        have e2 : m.does [0, (n : Int)] = (m, [-22]) := by
          show ((m.begin n).1, [(m.begin n).2]) = _
          unfold M.begin
          rw [if_pos (by omega)]
        rw [e1, e2]
        exact ⟨rfl, L⟩
    · cases e
      cases s with
      | none => exact Bool.noConfusion (show true = false from hm)
      | some k =>
        have L' : Like m k := L
        have hf := L'.fl
        have e0 : Kmt3Neutral.step (some k) [[1, (n : Int)]] = (match (some (if 1 < n then (some k, Kmt3.say (-22)) else if Kmt3.decided k ≠ 0 then (some k, Kmt3.say (-11)) else if 1000000 ≤ k.had + k.had2 then (some k, Kmt3.say (-28)) else (some (Kmt3.kick k n), Kmt3.say (Kmt3.won (Kmt3.kick k n) : Nat)))) with | none => (some k, []) | some (t, a) => (t, a.value :: Kmt3Neutral.ints a.out)) := rfl
        have e2 : m.does [1, (n : Int)] = ((m.kick n).1, [(m.kick n).2]) := rfl
        have ht := L'.turn
        unfold M.kick at e2
        by_cases c1 : 1 < n
        · rw [if_pos c1] at e0
          rw [if_pos (by omega)] at e2
          rw [e0, e2]
          exact ⟨rfl, L⟩
        · rw [if_neg c1] at e0
          rw [if_neg (by omega)] at e2
          by_cases c2 : Kmt3.decided k = 0
          · rw [if_neg (by simpa using c2)] at e0 ht
            rw [ht, if_neg (by omega)] at e2
            have hs : m.k0 + m.k1 = (k.had : Int) + k.had2 := by
              rcases (show k.first = 0 ∨ k.first = 1 by omega) with e | e
              · obtain ⟨a1, a2, _, _⟩ := L'.z e
                omega
              · obtain ⟨a1, a2, _, _⟩ := L'.o e
                omega
            by_cases c3 : 1000000 ≤ k.had + k.had2
            · rw [if_pos c3] at e0
              rw [if_pos (by omega)] at e2
              rw [e0, e2]
              exact ⟨rfl, L⟩
            · rw [if_neg c3] at e0
              rw [if_neg (by omega)] at e2
              have P := L'.put n
              rw [e0, e2]
              refine ⟨?_, P⟩
              show [(m.put _ (n : Int)).won] = [((Kmt3.won (Kmt3.kick k n) : Nat) : Int)]
              rw [P.won]
          · rw [if_pos c2] at e0 ht
            rw [ht, if_pos (by decide)] at e2
            rw [e0, e2]
            exact ⟨rfl, L⟩
    · cases e
      cases s with
      | none => exact Bool.noConfusion (show true = false from hm)
      | some k =>
        have L' : Like m k := L
        have hf := L'.fl
        have e0 : Kmt3Neutral.step (some k) [[3, (n : Int)]] = (some k, (if 1 < n then Kmt3.say (-22) else if n = k.first then ⟨(k.had : Nat), [k.in_]⟩ else ⟨(k.had2 : Nat), [k.in2]⟩ : Kmt3.Ans).value :: Kmt3Neutral.ints (if 1 < n then Kmt3.say (-22) else if n = k.first then ⟨(k.had : Nat), [k.in_]⟩ else ⟨(k.had2 : Nat), [k.in2]⟩ : Kmt3.Ans).out) := rfl
        have e2 : m.does [3, (n : Int)] = (m, m.counts n) := rfl
        rw [e0, e2]
        refine ⟨?_, L⟩
        show m.counts n = _
        unfold M.counts
        by_cases c1 : 1 < n
        · rw [if_pos c1, if_pos (by omega)]
          rfl
        · rw [if_neg c1, if_neg (by omega)]
          unfold pk
          rcases (show k.first = 0 ∨ k.first = 1 by omega) with e | e
          · obtain ⟨a1, a2, a3, a4⟩ := L'.z e
            rw [e]
            by_cases q : n = 0
            · rw [if_pos q, if_pos (by omega), if_pos (by omega), a1, a3]
              rfl
            · rw [if_neg q, if_neg (by omega), if_neg (by omega), a2, a4]
              rfl
          · obtain ⟨a1, a2, a3, a4⟩ := L'.o e
            rw [e]
            by_cases q : n = 1
            · rw [if_pos q, if_neg (by omega), if_neg (by omega), a1, a3]
              rfl
            · rw [if_neg q, if_pos (by omega), if_pos (by omega), a2, a4]
              rfl
  · cases e
    cases s with
    | none => exact Bool.noConfusion (show true = false from hm)
    | some k =>
      have L' : Like m k := L
      have e0 : Kmt3Neutral.step (some k) [[2]] = (some k, (if Kmt3.decided k ≠ 0 then Kmt3.say (-11) else Kmt3.say ((if Kmt3.turn k then k.first else 1 - k.first : Nat) : Int)).value :: Kmt3Neutral.ints (if Kmt3.decided k ≠ 0 then Kmt3.say (-11) else Kmt3.say ((if Kmt3.turn k then k.first else 1 - k.first : Nat) : Int)).out) := rfl
      have e2 : m.does [2] = (m, [m.turn]) := rfl
      rw [e0, e2]
      refine ⟨?_, L⟩
      show [m.turn] = _
      rw [L'.turn]
      by_cases c : Kmt3.decided k ≠ 0
      · rw [if_pos c, if_pos c]
        rfl
      · rw [if_neg c, if_neg c]
        rfl
  · cases e
    cases s with
    | none => exact Bool.noConfusion (show true = false from hm)
    | some k =>
      have L' : Like m k := L
      have e0 : Kmt3Neutral.step (some k) [[4]] = (some k, [((Kmt3.won k : Nat) : Int)]) := rfl
      have e2 : m.does [4] = (m, [m.won]) := rfl
      rw [e0, e2]
      refine ⟨?_, L⟩
      show [m.won] = _
      rw [L'.won]
theorem played_is : ∀ (cs : List (List Int)) (m : M) (s : Option Kmt3.Kicks), LikeO m s → (∀ c ∈ cs, Kmt3Neutral.asked1 [c] = true) → Kmt3Neutral.may s (cs.map fun c => [c]) = true →
    PyFlat.told (PyFlat.played Kmt3Neutral.step s (cs.map fun c => [c])) = play m cs
  | [], _, _, _, _, _ => rfl
  | c :: cs, m, s, L, ha, hm => by
    have hm' : (!((Kmt3Neutral.step s [c]).2.isEmpty) && Kmt3Neutral.may (Kmt3Neutral.step s [c]).1 (cs.map fun c => [c])) = true := hm
    rw [Bool.and_eq_true, Bool.not_eq_true'] at hm'
    obtain ⟨e1, L1⟩ := step_is L (ha c (List.mem_cons_self ..)) hm'.1
    have ih := played_is cs (m.does c).1 (Kmt3Neutral.step s [c]).1 L1 (fun d hd => ha d (List.mem_cons_of_mem _ hd)) hm'.2
    show (((Kmt3Neutral.step s [c]).2.length : Int) :: (Kmt3Neutral.step s [c]).2) ++ PyFlat.told (PyFlat.played Kmt3Neutral.step (Kmt3Neutral.step s [c]).1 (cs.map fun c => [c])) = ((m.does c).2.length : Int) :: ((m.does c).2 ++ play (m.does c).1 cs)
    rw [ih, e1]
    rfl
/-! ## The reading of the list -/
theorem shape_long {p : Int} (h : long p = true) : PyKmt3.shape p = some (1, 0) := by
  unfold long at h
  simp only [Bool.or_eq_true, decide_eq_true_eq] at h
  unfold PyKmt3.shape
  rcases h with (h | h) | h <;> subst h <;> rfl
theorem shape_short {p : Int} {q : Nat × Nat} (h : long p = false) (hs : PyKmt3.shape p = some q) : q = (0, 0) := by
  unfold long at h
  simp only [Bool.or_eq_false_iff, decide_eq_false_iff_not] at h
  unfold PyKmt3.shape at hs
  rw [if_neg h.1.1, if_neg h.1.2] at hs
  by_cases c : p = 2
  · rw [if_pos c] at hs
    exact (Option.some.inj hs).symm
  · rw [if_neg c, if_neg h.2] at hs
    by_cases d : p = 4
    · rw [if_pos d] at hs
      exact (Option.some.inj hs).symm
    · rw [if_neg d] at hs
      cases hs
theorem calls_is : ∀ (f : Nat) (l : List Int) (raw : List (List (List Int))), PyFlat.calls PyKmt3.shape f l = some raw → raw = (parts l).map fun c => [c]
  | f, [], raw, h => by
    have h' : some ([] : List (List (List Int))) = some raw := by cases f <;> exact h
    exact (Option.some.inj h').symm
  | 0, _ :: _, _, h => by cases h
  | f + 1, p :: r, raw, h => by
    have h' : (match PyFlat.call PyKmt3.shape (p :: r) with
      | none => none
      | some (c, t) => match PyFlat.calls PyKmt3.shape f t with
        | none => none
        | some cs => some (c :: cs)) = some raw := h
    have hc : PyFlat.call PyKmt3.shape (p :: r) = (match PyKmt3.shape p with
      | none => none
      | some (n, k) => if r.length < n then none else match PyFlat.rows k (r.drop n) with
        | none => none
        | some (xs, t) => some ((p :: r.take n) :: xs, t)) := rfl
    cases hl : long p with
    | true =>
      rw [shape_long hl] at hc
      cases r with
      | nil =>
        have hc' : PyFlat.call PyKmt3.shape [p] = none := hc
        rw [hc'] at h'
        cases h'
      | cons x r =>
        have hc' : PyFlat.call PyKmt3.shape (p :: x :: r) = some ([[p, x]], r) := by
          rw [hc]
          show (if r.length + 1 < 1 then none else some ([[p, x]], r)) = some ([[p, x]], r)
          rw [if_neg (by omega)]
        rw [hc'] at h'
        have h2 : (match PyFlat.calls PyKmt3.shape f r with
        | none => none
        | some cs => some ([[p, x]] :: cs)) = some raw := h'
        cases e : PyFlat.calls PyKmt3.shape f r with
        | none =>
          rw [e] at h2
          cases h2
        | some cs =>
          rw [e] at h2
          have h3 := Option.some.inj h2
          rw [← h3, calls_is f r cs e]
          show _ = (if long p = true then [p, x] :: parts r else [p] :: parts (x :: r)).map fun c => [c]
          rw [if_pos hl]
          rfl
    | false =>
      cases hs : PyKmt3.shape p with
      | none =>
        rw [hs] at hc
        have hc' : PyFlat.call PyKmt3.shape (p :: r) = none := hc
        rw [hc'] at h'
        cases h'
      | some q =>
        have hq := shape_short hl hs
        subst hq
        rw [hs] at hc
        have hc' : PyFlat.call PyKmt3.shape (p :: r) = some ([[p]], r) := by
          rw [hc]
          show (if r.length < 0 then none else some ([[p]], r)) = some ([[p]], r)
          rw [if_neg (by omega)]
        rw [hc'] at h'
        have h2 : (match PyFlat.calls PyKmt3.shape f r with
        | none => none
        | some cs => some ([[p]] :: cs)) = some raw := h'
        cases e : PyFlat.calls PyKmt3.shape f r with
        | none =>
          rw [e] at h2
          cases h2
        | some cs =>
          rw [e] at h2
          have h3 := Option.some.inj h2
          rw [← h3, calls_is f r cs e]
          cases r with
          | nil => rfl
          | cons x r =>
            show _ = (if long p = true then [p, x] :: parts r else [p] :: parts (x :: r)).map fun c => [c]
            rw [if_neg (by rw [hl]; exact Bool.false_ne_true)]
            rfl
theorem whole_id (c : List (List Int)) : PyKmt3.whole c = c := by
  unfold PyKmt3.whole
  split <;> rfl
theorem fit_of {c : List Int} (h : Kmt3Neutral.asked1 [c] = true) : fit c := by
  rcases asked1_inv h with ⟨a, ha, e⟩ | e | e
  · rcases e with e | e | e <;> cases e
    · exact .inl ⟨0, a, rfl, rfl, ha⟩
    · exact .inl ⟨1, a, rfl, rfl, ha⟩
    · exact .inl ⟨3, a, rfl, rfl, ha⟩
  · cases e
    exact .inr ⟨2, rfl, rfl⟩
  · cases e
    exact .inr ⟨4, rfl, rfl⟩
/-- THE PLAIN LAW: of an asked list the mirror tells what the specification tells -/
theorem law {l : List Int} (h : PyKmt3.answers_asked l = true) : PyKmt3.answers l = play M.fresh (parts l) ∧ (∀ c ∈ parts l, fit c) ∧ (parts l).length ≤ 4000 := by
  unfold PyKmt3.answers_asked at h
  cases e : PyFlat.calls PyKmt3.shape l.length l with
  | none =>
    rw [e] at h
    cases h
  | some raw =>
    rw [e] at h
    have er := calls_is _ _ _ e
    have ew : raw.map PyKmt3.whole = raw := by
      rw [show PyKmt3.whole = id from funext whole_id, List.map_id]
    have h' : (!raw.isEmpty && PyFlat.atMost 4000 raw && PyInside.calls PyKmt3.bound raw && Kmt3Neutral.asked (raw.map PyKmt3.whole) && PyFlat.short 10000000 (PyKmt3.answers l)) = true := h
    rw [ew, Bool.and_eq_true, Bool.and_eq_true] at h'
    have ha := h'.1.2
    unfold Kmt3Neutral.asked at ha
    rw [Bool.and_eq_true, Bool.and_eq_true, Bool.and_eq_true, decide_eq_true_eq, decide_eq_true_eq, List.all_eq_true] at ha
    obtain ⟨⟨⟨_, h2⟩, h3⟩, h4⟩ := ha
    have hall : ∀ c ∈ parts l, Kmt3Neutral.asked1 [c] = true := fun c hc => h3 [c] (by rw [er]; exact List.mem_map.mpr ⟨c, hc, rfl⟩)
    rw [er] at h2 h4
    refine ⟨?_, fun c hc => fit_of (hall c hc), by rw [List.length_map] at h2; exact h2⟩
    unfold PyKmt3.answers PyKmt3.calls
    rw [e]
    show PyFlat.told (PyFlat.played Kmt3Neutral.step Kmt3Neutral.start (raw.map PyKmt3.whole)) = _
    rw [ew, er]
    exact played_is (parts l) M.fresh none trivial hall h4
end Fk
/-! # 3. The text by places; what a def of the text is, and what its promise is -/
namespace Fk
open PySem PySem.Spec PyProof.Rows L2
open PySem.W (Codec)
def top (i : Nat) : Stmt := PySem.Challenge.pw_fivekicks_s01_answers.main.body.getD i (.Pass ⟨0, 0, 0, 0⟩)
abbrev sOther : Stmt := top 3
abbrev sWithin : Stmt := top 4
abbrev sBound : Stmt := top 5
abbrev sLeft : Stmt := top 6
abbrev sCould : Stmt := top 7
abbrev sDec : Stmt := top 8
abbrev sWinner : Stmt := top 9
abbrev sTurnOf : Stmt := top 10
abbrev sCounted : Stmt := top 17
abbrev sInit : Stmt := inClass (top 18) 0
abbrev sBegin : Stmt := inClass (top 18) 1
abbrev sWon : Stmt := inClass (top 18) 2
abbrev sTurn : Stmt := inClass (top 18) 3
abbrev sKick : Stmt := inClass (top 18) 4
abbrev sCounts : Stmt := inClass (top 18) 5
abbrev sSize : Stmt := top 25
abbrev sParted : Stmt := top 26
abbrev sAnswerOf : Stmt := top 28
abbrev sAnswers : Stmt := top 29
/-- a def of the module, as it stands behind the top -/
def Here (K : PySem.W.Frag) (mg : Str → Option Value) (x : Str) (st : Stmt) (ps : List Str) : Prop := ∃ f fd, Fun K x x st f fd ∧ mg x = some (.ref f) ∧ Binds K fd ps []
/-- a method of the class at C -/
def HereM (K : PySem.W.Frag) (C : Addr) (m qual : Str) (st : Stmt) (ps : List Str) : Prop := ∃ f fd, Fun K m qual st f fd ∧ Meth K C m f ∧ Binds K fd ps []
/-- a def that keeps its promise -/
def Df (P : Program) (w : World) (K : PySem.W.Frag) (mg : Str → Option Value) (base : Heap) (x : Str) (k : Nat) (ps : List Str) (sp : Sp) : Prop :=
  ∃ f fd, FnOk P w K mg base CX0 k f fd ps sp ∧ mg x = some (.ref f) ∧ PySem.W.keepIn K (.ref f) = true ∧ Binds K fd ps []
def DfM (P : Program) (w : World) (K : PySem.W.Frag) (mg : Str → Option Value) (base : Heap) (C : Addr) (m : Str) (k : Nat) (ps : List Str) (sp : Sp) : Prop :=
  ∃ f fd, FnOk P w K mg base CX0 k f fd ps sp ∧ Meth K C m f ∧ Binds K fd ps []
/-- a constant of the module -/
abbrev Num (mg : Str → Option Value) (x : Str) (n : Int) : Prop := ∃ t, mg x = some (.int n t)
theorem pcon {X : Cx} {x : Str} {n : Int} {pos : Pos} (h : Num X.mg x n) (hg : Gl X x := by rfl) (hd : (x == ("__debug__" : Str)) = false := by decide) : PE X (.Name x pos) (tC (.int n)) := by
  obtain ⟨t, e⟩ := h
  exact pe_glob hg e ⟨t, rfl⟩ hd
theorem sameT {K : PySem.W.Frag} {H H' : Hp} {a : Addr} {xs : List V} (e : Same H H') (h : SqT K H a xs) : SqT K H' a xs := by
  rcases h with (h | ⟨o, h⟩) | h
  · exact .inl (.inl (e _ _ h))
  · exact .inl (.inr ⟨o, e _ _ h⟩)
  · exact .inr h
theorem same_new {H : Hp} {p : Addr} {o : HO} (hp : H p = none) : Same H (upd H p o) := fun b u e => by
  rw [upd_ne (ne_of_none e hp)]
  exact e
theorem at0 {a b : V} : atI [a, b] 0 = some a := atI_nat (j := 0) rfl
theorem at1 {a b : V} : atI [a, b] 1 = some b := atI_nat (j := 1) rfl
theorem atPk {a b t : Int} (h : t = 0 ∨ t = 1) : atI [V.int a, V.int b] t = some (V.int (pk a b t)) := by
  rcases h with rfl | rfl
  · exact at0
  · exact at1
theorem two : (2 : Nat) ≤ sizeLine := by decide
/-! # 4. The defs of rules -/
abbrev pair (K : PySem.W.Frag) (H : Hp) (p : Addr) (a b : Int) : Prop := SqT K H p [.int a, .int b]
def spOther : Sp := fun vs H Q _ => ∃ t : Int, vs = [.int t] ∧ Q (.int (1 - t)) H
def spWithin (K : PySem.W.Frag) : Sp := fun vs H Q _ => ∃ (p : Addr) (a b : Int), vs = [.ref p] ∧ pair K H p a b ∧ Q (.bl (within5 a b)) H
def spBound (K : PySem.W.Frag) : Sp := fun vs H Q _ => ∃ (p : Addr) (a b t : Int), vs = [.ref p, .int t] ∧ pair K H p a b ∧ (t = 0 ∨ t = 1) ∧ Q (.int (bound a b t)) H
def spLeft (K : PySem.W.Frag) : Sp := fun vs H Q _ => ∃ (p : Addr) (a b t : Int), vs = [.ref p, .int t] ∧ pair K H p a b ∧ (t = 0 ∨ t = 1) ∧ Q (.int (left a b t)) H
def spCould (K : PySem.W.Frag) : Sp := fun vs H Q _ => ∃ (p q : Addr) (a b c d t : Int), vs = [.ref p, .ref q, .int t] ∧ pair K H p a b ∧ pair K H q c d ∧ (t = 0 ∨ t = 1) ∧ Q (.int (could a b c d t)) H
def spDec (K : PySem.W.Frag) : Sp := fun vs H Q _ => ∃ (p q : Addr) (a b c d t : Int), vs = [.ref p, .ref q, .int t] ∧ pair K H p a b ∧ pair K H q c d ∧ (t = 0 ∨ t = 1) ∧ Q (.bl (dec a b c d t)) H
def spWinner (K : PySem.W.Frag) : Sp := fun vs H Q _ => ∃ (p q : Addr) (a b c d : Int), vs = [.ref p, .ref q] ∧ pair K H p a b ∧ pair K H q c d ∧ ∀ H', Same H H' → Q (.int (winner a b c d)) H'
def spTurnOf (K : PySem.W.Frag) : Sp := fun vs H Q _ => ∃ (p : Addr) (a b f : Int), vs = [.int f, .ref p] ∧ pair K H p a b ∧ Q (.int (turnOf f a b)) H
section
variable {P : Program} {w : World} {K : PySem.W.Frag} {mg : Str → Option Value} {base : Heap}
theorem scOther : FnScope ["team"] ["team"] (defScope sOther) := ⟨rfl, rfl, rfl, by decide +kernel, rfl, by decide +kernel, by decide +kernel⟩
theorem ok_other (Z : Here K mg "other_team" sOther ["team"]) : Df P w K mg base "other_team" 1 ["team"] spOther := by
  obtain ⟨f, fd, F, m, b⟩ := Z
  refine ⟨f, fd, F.ok scOther (fun vs H Q E h => ?_) (fun cdv A outer s H vs Q E hr h => ?_), m, F.kp, b⟩
  · obtain ⟨t, rfl, _⟩ := h
    rfl
  · obtain ⟨t, rfl, k⟩ := h
    refine ⟨_, pss_one (ps_ret (pe_op op_sub pe_int (pv 0))), ?_⟩
    exact ⟨_, rfl, _, _, rfl, rfl, k⟩
theorem scWithin : FnScope ["kicked"] ["kicked"] (defScope sWithin) := ⟨rfl, rfl, rfl, by decide +kernel, rfl, by decide +kernel, by decide +kernel⟩
theorem ok_within (Z : Here K mg "is_within_five" sWithin ["kicked"]) (c5 : Num mg "FIVE" 5) : Df P w K mg base "is_within_five" 1 ["kicked"] (spWithin K) := by
  obtain ⟨f, fd, F, m, b⟩ := Z
  refine ⟨f, fd, F.ok scWithin (fun vs H Q E h => ?_) (fun cdv A outer s H vs Q E hr h => ?_), m, F.kp, b⟩
  · obtain ⟨p, a, b, rfl, _⟩ := h
    rfl
  · obtain ⟨p, a, b, rfl, hp, k⟩ := h
    refine ⟨_, pss_one (ps_ret (pe_or (pe_cmpR op_lt (pe_ix ix_tup (pv 0) pe_int (fun _ _ => rfl)) (pcon c5) (nomark _))
      (pe_one (pe_cmpR op_lt (pe_ix ix_tup (pv 0) pe_int (fun _ _ => rfl)) (pcon c5) (nomark _))))), ?_⟩
    refine ⟨_, rfl, p, _, _, _, rfl, rfl, hp, at0, _, _, rfl, rfl, _, rfl, ite2 (fun c => ?_) (fun c => ?_)⟩
    · have e : within5 a b = true := by unfold within5; rw [c]; rfl
      rw [e] at k
      exact k
    · refine ⟨_, rfl, p, _, _, _, rfl, rfl, hp, at1, _, _, rfl, rfl, ?_⟩
      have e : within5 a b = decide (b < 5) := by unfold within5; rw [Bool.not_eq_true _ |>.mp c]; rfl
      rw [e] at k
      exact k
theorem scBound : FnScope ["kicked", "team"] ["kicked", "team"] (defScope sBound) := ⟨rfl, rfl, rfl, by decide +kernel, rfl, by decide +kernel, by decide +kernel⟩
theorem ok_bound (Z : Here K mg "bound_of" sBound ["kicked", "team"]) (c5 : Num mg "FIVE" 5) (dW : Df P w K mg base "is_within_five" 1 ["kicked"] (spWithin K)) (dO : Df P w K mg base "other_team" 1 ["team"] spOther) :
    Df P w K mg base "bound_of" 2 ["kicked", "team"] (spBound K) := by
  obtain ⟨f, fd, F, m, b⟩ := Z
  obtain ⟨f1, fd1, G1, m1, k1, b1⟩ := dW
  obtain ⟨f2, fd2, G2, m2, k2, b2⟩ := dO
  refine ⟨f, fd, F.ok scBound (fun vs H Q E h => ?_) (fun cdv A outer s H vs Q E hr h => ?_), m, F.kp, b⟩
  · obtain ⟨p, a, b, t, rfl, _⟩ := h
    rfl
  · obtain ⟨p, a, b, t, rfl, hp, ht, k⟩ := h
    refine ⟨_, pss_cons (ps_if (pt_val (pe_call G1 hr rfl m1 k1 b1 .nil pass0 (pa_cons (pv 0) pa_nil))) (pss_one (ps_ret (pcon c5))) pss_nil)
      (pss_one (ps_ret (pe_ix ix_tup (pv 0) (pe_call G2 hr rfl m2 k2 b2 .nil pass0 (pa_cons (pv 1) pa_nil)) (fun _ _ => rfl)))), ?_⟩
    refine ⟨_, rfl, p, a, b, rfl, hp, _, rfl, ite2 (fun c => ?_) (fun c => ?_)⟩
    · have e : bound a b t = 5 := if_pos c
      rw [e] at k
      exact k
    · have e : bound a b t = pk a b (1 - t) := if_neg c
      rw [e] at k
      exact ⟨_, rfl, _, rfl, t, rfl, p, _, _, _, rfl, rfl, hp, atPk (by omega), k⟩
theorem scLeft : FnScope ["kicked", "team"] ["kicked", "team"] (defScope sLeft) := ⟨rfl, rfl, rfl, by decide +kernel, rfl, by decide +kernel, by decide +kernel⟩
theorem ok_left (Z : Here K mg "left_to" sLeft ["kicked", "team"]) (mx : mg "max" = none) (dB : Df P w K mg base "bound_of" 2 ["kicked", "team"] (spBound K)) :
    Df P w K mg base "left_to" 3 ["kicked", "team"] (spLeft K) := by
  obtain ⟨f, fd, F, m, b⟩ := Z
  obtain ⟨f1, fd1, G1, m1, k1, b1⟩ := dB
  refine ⟨f, fd, F.ok scLeft (fun vs H Q E h => ?_) (fun cdv A outer s H vs Q E hr h => ?_), m, F.kp, b⟩
  · obtain ⟨p, a, b, t, rfl, _⟩ := h
    rfl
  · obtain ⟨p, a, b, t, rfl, hp, ht, k⟩ := h
    refine ⟨_, pss_one (ps_ret (pe_callB (call_max2 rfl) (by rfl) mx boot_max (pa_cons (pe_op op_sub (pe_call G1 hr rfl m1 k1 b1 .nil pass0 (pa_cons (pv 0) (pa_cons (pv 1) pa_nil)))
      (pe_ix ix_tup (pv 0) (pv 1) (fun _ _ => rfl))) (pa_cons pe_int pa_nil)))), ?_⟩
    exact ⟨_, rfl, _, rfl, p, a, b, t, rfl, hp, ht, _, rfl, _, rfl, p, _, _, _, rfl, rfl, hp, atPk ht, _, _, rfl, rfl, _, _, rfl, k⟩
theorem scCould : FnScope ["kicked", "scored", "team"] ["kicked", "scored", "team"] (defScope sCould) := ⟨rfl, rfl, rfl, by decide +kernel, rfl, by decide +kernel, by decide +kernel⟩
theorem ok_could (Z : Here K mg "could_score" sCould ["kicked", "scored", "team"]) (dL : Df P w K mg base "left_to" 3 ["kicked", "team"] (spLeft K)) :
    Df P w K mg base "could_score" 4 ["kicked", "scored", "team"] (spCould K) := by
  obtain ⟨f, fd, F, m, b⟩ := Z
  obtain ⟨f1, fd1, G1, m1, k1, b1⟩ := dL
  refine ⟨f, fd, F.ok scCould (fun vs H Q E h => ?_) (fun cdv A outer s H vs Q E hr h => ?_), m, F.kp, b⟩
  · obtain ⟨p, q, a, b, c, d, t, rfl, _⟩ := h
    rfl
  · obtain ⟨p, q, a, b, c, d, t, rfl, hp, hq, ht, k⟩ := h
    refine ⟨_, pss_one (ps_ret (pe_op op_add (pe_ix ix_tup (pv 1) (pv 2) (fun _ _ => rfl)) (pe_call G1 hr rfl m1 k1 b1 .nil pass0 (pa_cons (pv 0) (pa_cons (pv 2) pa_nil))))), ?_⟩
    exact ⟨_, rfl, _, rfl, q, _, _, _, rfl, rfl, hq, atPk ht, _, rfl, _, rfl, p, a, b, t, rfl, hp, ht, _, _, rfl, rfl, k⟩
theorem scDec : FnScope ["kicked", "scored", "team"] ["kicked", "scored", "team"] (defScope sDec) := ⟨rfl, rfl, rfl, by decide +kernel, rfl, by decide +kernel, by decide +kernel⟩
theorem ok_dec (Z : Here K mg "is_decided_for" sDec ["kicked", "scored", "team"]) (dC : Df P w K mg base "could_score" 4 ["kicked", "scored", "team"] (spCould K)) (dO : Df P w K mg base "other_team" 1 ["team"] spOther) :
    Df P w K mg base "is_decided_for" 5 ["kicked", "scored", "team"] (spDec K) := by
  obtain ⟨f, fd, F, m, b⟩ := Z
  obtain ⟨f1, fd1, G1, m1, k1, b1⟩ := dC
  obtain ⟨f2, fd2, G2, m2, k2, b2⟩ := dO
  refine ⟨f, fd, F.ok scDec (fun vs H Q E h => ?_) (fun cdv A outer s H vs Q E hr h => ?_), m, F.kp, b⟩
  · obtain ⟨p, q, a, b, c, d, t, rfl, _⟩ := h
    rfl
  · obtain ⟨p, q, a, b, c, d, t, rfl, hp, hq, ht, k⟩ := h
    have hr1 : Room 1 _ := hr.mono (by decide)
    refine ⟨_, pss_one (ps_ret (pe_cmpR op_gt (pe_ix ix_tup (pv 1) (pv 2) (fun _ _ => rfl)) (pe_call G1 hr rfl m1 k1 b1 .nil pass0 (pa_cons (pv 0) (pa_cons (pv 1)
      (pa_cons (pe_call G2 hr1 rfl m2 k2 b2 .nil pass0 (pa_cons (pv 2) pa_nil)) pa_nil)))) (nomark _))), ?_⟩
    exact ⟨_, rfl, _, rfl, q, _, _, _, rfl, rfl, hq, atPk ht, _, rfl, _, rfl, _, rfl, t, rfl, p, q, a, b, c, d, 1 - t, rfl, hp, hq, (by omega), _, _, rfl, rfl, k⟩
theorem scWinner : FnScope ["kicked", "scored", "team"] ["kicked", "scored"] (defScope sWinner) := ⟨rfl, rfl, rfl, by decide +kernel, rfl, by decide +kernel, by decide +kernel⟩
theorem ok_winner (Z : Here K mg "winner" sWinner ["kicked", "scored"]) (cN : Num mg "NOBODY" 0) (dD : Df P w K mg base "is_decided_for" 5 ["kicked", "scored", "team"] (spDec K)) :
    Df P w K mg base "winner" 6 ["kicked", "scored"] (spWinner K) := by
  obtain ⟨f, fd, F, m, b⟩ := Z
  obtain ⟨f1, fd1, G1, m1, k1, b1⟩ := dD
  refine ⟨f, fd, F.ok scWinner (fun vs H Q E h => ?_) (fun cdv A outer s H vs Q E hr h => ?_), m, F.kp, b⟩
  · obtain ⟨p, q, a, b, c, d, rfl, _⟩ := h
    rfl
  · obtain ⟨p, q, a, b, c, d, rfl, hp, hq, k⟩ := h
    refine ⟨_, pss_cons (ps_for PassesOwn.never rfl (pi_tup (pe_tup (pa_cons pe_int (pa_cons pe_int pa_nil)))) (pg_name (i := 2) scWinner.nd rfl (Or.inl rfl))
        (pss_one (ps_if (pt_val (pe_call G1 hr rfl m1 k1 b1 .nil pass0 (pa_cons (pv 0) (pa_cons (pv 1) (pa_cons (pv 2) pa_nil))))) (pss_one (ps_ret (pe_op op_add pe_int (pv 2)))) pss_nil)))
      (pss_one (ps_ret (pcon cN))), ?_⟩
    refine ⟨two, fun u hu => ?_⟩
    have s1 : Same H (upd H u (.tup [.int 0, .int 1])) := same_new hu
    refine ⟨u, rfl, ⟨_, SqT.of upd_same⟩, for_tup (K := K) (a := u) (xs := [.int 0, .int 1]) (fun i σ H' => ∃ v : Option V, σ = [some (.ref p), some (.ref q), v] ∧ H' = upd H u (.tup [.int 0, .int 1]) ∧ (1 ≤ i → dec a b c d 0 = false) ∧ (2 ≤ i → dec a b c d 1 = false))
      ⟨none, rfl, rfl, fun z => absurd z (by decide), fun z => absurd z (by decide)⟩ (fun i σ H' _ ⟨_, _, e, _⟩ => by rw [e]; exact SqT.of upd_same) ?_ ?_⟩
    · rintro i y σ H' hi ⟨v, rfl, rfl, h0, h1⟩
      match i, hi with
      | 0, hi =>
        have e : V.int 0 = y := Option.some.inj hi
        subst e
        refine ⟨_, rfl, _, rfl, _, rfl, p, q, a, b, c, d, 0, rfl, sameT s1 hp, sameT s1 hq, .inl rfl, _, rfl, ite2 (fun z => ?_) (fun z => ?_)⟩
        · have e : winner a b c d = 1 := if_pos z
          rw [e] at k
          exact ⟨_, rfl, _, _, rfl, rfl, k _ s1⟩
        · exact ⟨_, rfl, rfl, fun _ => Bool.not_eq_true _ |>.mp z, fun t => absurd t (by decide)⟩
      | 1, hi =>
        have e : V.int 1 = y := Option.some.inj hi
        subst e
        have h0' := h0 (Nat.le_refl _)
        refine ⟨_, rfl, _, rfl, _, rfl, p, q, a, b, c, d, 1, rfl, sameT s1 hp, sameT s1 hq, .inr rfl, _, rfl, ite2 (fun z => ?_) (fun z => ?_)⟩
        · have e : winner a b c d = 2 := by
            unfold winner
            rw [h0', if_neg Bool.false_ne_true, if_pos z]
          rw [e] at k
          exact ⟨_, rfl, _, _, rfl, rfl, k _ s1⟩
        · exact ⟨_, rfl, rfl, fun _ => h0', fun _ => Bool.not_eq_true _ |>.mp z⟩
      | i + 2, hi => simp at hi
    · rintro σ H' ⟨v, rfl, rfl, h0, h1⟩
      have e : winner a b c d = 0 := by
        unfold winner
        rw [h0 (by show 1 ≤ 2; decide), h1 (by show 2 ≤ 2; decide)]
        rfl
      rw [e] at k
      exact k _ s1
theorem scTurnOf : FnScope ["first", "kicked"] ["first", "kicked"] (defScope sTurnOf) := ⟨rfl, rfl, rfl, by decide +kernel, rfl, by decide +kernel, by decide +kernel⟩
theorem ok_turnOf (Z : Here K mg "turn_of" sTurnOf ["first", "kicked"]) (dO : Df P w K mg base "other_team" 1 ["team"] spOther) : Df P w K mg base "turn_of" 2 ["first", "kicked"] (spTurnOf K) := by
  obtain ⟨f, fd, F, m, b⟩ := Z
  obtain ⟨f1, fd1, G1, m1, k1, b1⟩ := dO
  refine ⟨f, fd, F.ok scTurnOf (fun vs H Q E h => ?_) (fun cdv A outer s H vs Q E hr h => ?_), m, F.kp, b⟩
  · obtain ⟨p, a, b, f, rfl, _⟩ := h
    rfl
  · obtain ⟨p, a, b, f, rfl, hp, k⟩ := h
    refine ⟨_, pss_cons (ps_if (pt_cmpR op_eq (pe_ix ix_tup (pv 1) pe_int (fun _ _ => rfl)) (pe_ix ix_tup (pv 1) pe_int (fun _ _ => rfl)) (nomark _)) (pss_one (ps_ret (pv 0))) pss_nil)
      (pss_one (ps_ret (pe_call G1 hr rfl m1 k1 b1 .nil pass0 (pa_cons (pv 0) pa_nil)))), ?_⟩
    refine ⟨_, rfl, p, _, _, _, rfl, rfl, hp, at0, _, rfl, p, _, _, _, rfl, rfl, hp, at1, rfl, _, rfl, ite2 (fun z => ?_) (fun z => ?_)⟩
    · have z' : a = b := V.int.inj (of_decide_eq_true z)
      have e : turnOf f a b = f := if_pos z'
      rw [e] at k
      exact ⟨_, rfl, k⟩
    · have z' : ¬ a = b := fun q => z (decide_eq_true (congrArg V.int q))
      have e : turnOf f a b = 1 - f := if_neg z'
      rw [e] at k
      exact ⟨_, rfl, f, rfl, k⟩
end
end Fk
/-! # 5. The match: how it lies in the heap, its methods -/
namespace Fk
open PySem PySem.Spec PyProof.Rows L2
open PySem.W (Codec)
def mF (f : Int) (p q : Addr) : List (Str × V) := [("first", .int f), ("kicked", .ref p), ("scored", .ref q)]
/-- the match m stands at x -/
def At (C : Addr) (H : Hp) (x : Addr) (m : M) : Prop := ∃ dx p q, H x = some (.ins C dx (mF m.first p q)) ∧ H p = some (.tup [.int m.k0, .int m.k1]) ∧ H q = some (.tup [.int m.s0, .int m.s1])
theorem lk_here {k : Str} {v : V} {r : List (Str × V)} : List.lookup k ((k, v) :: r) = some v := by
  have e : (k == k) = true := beq_self_eq_true k
  simp only [List.lookup, e]
theorem lk_past {k g : Str} {v : V} {r : List (Str × V)} (h : (k == g) = false) : List.lookup k ((g, v) :: r) = List.lookup k r := by
  simp only [List.lookup, h]
theorem put_here {f : Str} {v x : V} {r : List (Str × V)} : putF f v ((f, x) :: r) = (f, v) :: r := if_pos rfl
theorem put_past {f g : Str} {v x : V} {r : List (Str × V)} (h : ¬ g = f) : putF f v ((g, x) :: r) = (g, x) :: putF f v r := if_neg h
theorem mF_first (f : Int) (p q : Addr) : (mF f p q).lookup ("first" : Str) = some (.int f) := lk_here
theorem mF_kicked (f : Int) (p q : Addr) : (mF f p q).lookup ("kicked" : Str) = some (.ref p) := (lk_past (by decide +kernel)).trans lk_here
theorem mF_scored (f : Int) (p q : Addr) : (mF f p q).lookup ("scored" : Str) = some (.ref q) := (lk_past (by decide +kernel)).trans ((lk_past (by decide +kernel)).trans lk_here)
theorem mF_no (f : Int) (p q : Addr) {m : Str} (h1 : (m == ("first" : Str)) = false) (h2 : (m == ("kicked" : Str)) = false) (h3 : (m == ("scored" : Str)) = false) : (mF f p q).lookup m = none :=
  (lk_past h1).trans ((lk_past h2).trans ((lk_past h3).trans rfl))
theorem mF_begin (f : Int) (p q : Addr) : (mF f p q).lookup ("begin" : Str) = none := mF_no f p q (by decide +kernel) (by decide +kernel) (by decide +kernel)
theorem mF_won (f : Int) (p q : Addr) : (mF f p q).lookup ("won" : Str) = none := mF_no f p q (by decide +kernel) (by decide +kernel) (by decide +kernel)
theorem mF_turn (f : Int) (p q : Addr) : (mF f p q).lookup ("turn" : Str) = none := mF_no f p q (by decide +kernel) (by decide +kernel) (by decide +kernel)
theorem mF_kick (f : Int) (p q : Addr) : (mF f p q).lookup ("kick" : Str) = none := mF_no f p q (by decide +kernel) (by decide +kernel) (by decide +kernel)
theorem mF_counts (f : Int) (p q : Addr) : (mF f p q).lookup ("counts" : Str) = none := mF_no f p q (by decide +kernel) (by decide +kernel) (by decide +kernel)
theorem put_first (f g : Int) (p q : Addr) : putF "first" (.int g) (mF f p q) = mF g p q := put_here
theorem put_kicked (f : Int) (p q r : Addr) : putF "kicked" (.ref r) (mF f p q) = mF f r q := (put_past (by decide +kernel)).trans (congrArg _ put_here)
theorem put_scored (f : Int) (p q r : Addr) : putF "scored" (.ref r) (mF f p q) = mF f p r := (put_past (by decide +kernel)).trans (congrArg _ ((put_past (by decide +kernel)).trans (congrArg _ put_here)))
theorem put_new (f : Int) (p q : Addr) : putF "scored" (.ref q) (putF "kicked" (.ref p) (putF "first" (.int f) [])) = mF f p q := by
  have e1 : putF "kicked" (.ref p) (putF "first" (.int f) []) = [(("first" : Str), V.int f), ("kicked", .ref p)] := (put_past (by decide +kernel)).trans rfl
  rw [e1]
  exact (put_past (by decide +kernel)).trans (congrArg _ ((put_past (by decide +kernel)).trans rfl))
theorem At.same {C : Addr} {H H' : Hp} {x : Addr} {m : M} (h : At C H x m) (e : Same H H') : At C H' x m := by
  obtain ⟨dx, p, q, h1, h2, h3⟩ := h
  exact ⟨dx, p, q, e _ _ h1, e _ _ h2, e _ _ h3⟩
/-- all but x stands as it was -/
def Keep (x : Addr) (H H' : Hp) : Prop := ∀ b o, H b = some o → b ≠ x → H' b = some o
theorem keep_of {H H' : Hp} (e : Same H H') (x : Addr) : Keep x H H' := fun b o q _ => e b o q
theorem Keep.trans {x : Addr} {H H1 H2 : Hp} (a : Keep x H H1) (b : Keep x H1 H2) : Keep x H H2 := fun c o q n => b c o (a c o q n) n
theorem keep_upd (x : Addr) (H : Hp) (o : HO) : Keep x H (upd H x o) := fun b u q n => by
  rw [upd_ne n]
  exact q
theorem Keep.same_of {x : Addr} {H H' : Hp} (k : Keep x H H') (h : H x = none) : Same H H' := fun b o q => k b o q (ne_of_none q h)
/-- what is new behind it was new ahead of it -/
theorem Keep.new {x : Addr} {H H' : Hp} {o' : HO} (k : Keep x H H') (hx : H' x = some o') {p : Addr} (hp : H' p = none) : H p = none := by
  cases e : H p with
  | none => rfl
  | some o =>
    have n : p ≠ x := fun z => by
      rw [z, hx] at hp
      cases hp
    rw [k p o e n] at hp
    cases hp
def spCounted (K : PySem.W.Frag) : Sp := fun vs H Q _ => ∃ (p : Addr) (a b t y : Int), vs = [.ref p, .int t, .int y] ∧ pair K H p a b ∧ ∀ u, H u = none → Q (.ref u) (upd H u (.tup [.int (if t = 0 then a + y else a), .int (if t = 0 then b else b + y)]))
def spInit (C : Addr) : Sp := fun vs H Q _ => ∃ (x dx : Addr), vs = [.ref x] ∧ H x = some (.ins C dx []) ∧ ∀ H', At C H' x M.fresh → Keep x H H' → Q .non H'
def spBegin (C : Addr) : Sp := fun vs H Q _ => ∃ (x : Addr) (m : M) (f : Int), vs = [.ref x, .int f] ∧ At C H x m ∧ ∀ H', At C H' x (m.begin f).1 → Keep x H H' → Q (.int (m.begin f).2) H'
def spWon (C : Addr) : Sp := fun vs H Q _ => ∃ (x : Addr) (m : M), vs = [.ref x] ∧ At C H x m ∧ ∀ H', Same H H' → Q (.int m.won) H'
def spTurn (C : Addr) : Sp := fun vs H Q _ => ∃ (x : Addr) (m : M), vs = [.ref x] ∧ At C H x m ∧ ∀ H', Same H H' → Q (.int m.turn) H'
def spKick (C : Addr) : Sp := fun vs H Q _ => ∃ (x : Addr) (m : M) (y : Int), vs = [.ref x, .int y] ∧ At C H x m ∧ ∀ H', At C H' x (m.kick y).1 → Keep x H H' → Q (.int (m.kick y).2) H'
def spCounts (C : Addr) : Sp := fun vs H Q _ => ∃ (x : Addr) (m : M) (t : Int), vs = [.ref x, .int t] ∧ At C H x m ∧ 0 ≤ t ∧ ∀ u, H u = none → Q (.ref u) (upd H u (.lst ((m.counts t).map V.int)))
/-- what the top has written of the class -/
structure Cla (K : PySem.W.Frag) (C : Addr) : Prop where
  cl : Cls K C
  nF : NoAttr K C "first"
  nK : NoAttr K C "kicked"
  nS : NoAttr K C "scored"
section
variable {P : Program} {w : World} {K : PySem.W.Frag} {mg : Str → Option Value} {base : Heap} {C : Addr}
theorem scCounted : FnScope ["pair", "team", "more"] ["pair", "team", "more"] (defScope sCounted) := ⟨rfl, rfl, rfl, by decide +kernel, rfl, by decide +kernel, by decide +kernel⟩
theorem ok_counted (Z : Here K mg "counted" sCounted ["pair", "team", "more"]) : Df P w K mg base "counted" 1 ["pair", "team", "more"] (spCounted K) := by
  obtain ⟨f, fd, F, m, b⟩ := Z
  refine ⟨f, fd, F.ok scCounted (fun vs H Q E h => ?_) (fun cdv A outer s H vs Q E hr h => ?_), m, F.kp, b⟩
  · obtain ⟨p, a, b, t, y, rfl, _⟩ := h
    rfl
  · obtain ⟨p, a, b, t, y, rfl, hp, k⟩ := h
    refine ⟨_, pss_cons (ps_if (pt_cmpR op_eq (pv 1) pe_int (nomark _)) (pss_one (ps_ret (pe_tup (pa_cons (pe_op op_add (pe_ix ix_tup (pv 0) pe_int (fun _ _ => rfl)) (pv 2)) (pa_cons (pe_ix ix_tup (pv 0) pe_int (fun _ _ => rfl)) pa_nil))))) pss_nil)
      (pss_one (ps_ret (pe_tup (pa_cons (pe_ix ix_tup (pv 0) pe_int (fun _ _ => rfl)) (pa_cons (pe_op op_add (pe_ix ix_tup (pv 0) pe_int (fun _ _ => rfl)) (pv 2)) pa_nil))))), ?_⟩
    refine ⟨_, rfl, rfl, _, rfl, ite2 (fun z => ?_) (fun z => ?_)⟩
    · have z' : t = 0 := V.int.inj (of_decide_eq_true z)
      refine ⟨_, rfl, p, _, _, _, rfl, rfl, hp, at0, _, rfl, _, _, rfl, rfl, _, rfl, p, _, _, _, rfl, rfl, hp, at1, two, fun u hu => ?_⟩
      have q := k u hu
      rw [if_pos z', if_pos z'] at q
      exact q
    · have z' : ¬ t = 0 := fun q => z (decide_eq_true (congrArg V.int q))
      refine ⟨_, rfl, p, _, _, _, rfl, rfl, hp, at0, _, rfl, p, _, _, _, rfl, rfl, hp, at1, _, rfl, _, _, rfl, rfl, two, fun u hu => ?_⟩
      have q := k u hu
      rw [if_neg z', if_neg z'] at q
      exact q
theorem scInit : FnScope ["self"] ["self"] (defScope sInit) := ⟨rfl, rfl, rfl, by decide +kernel, rfl, by decide +kernel, by decide +kernel⟩
theorem ok_init {f : Addr} {fd : FuncData} (F : Fun K "__init__" "Match.__init__" sInit f fd) (T : Cla K C) : FnOk P w K mg base CX0 1 f fd ["self"] (spInit C) := by
  refine F.ok scInit (fun vs H Q E h => ?_) (fun cdv A outer s H vs Q E hr h => ?_)
  · obtain ⟨x, dx, rfl, _⟩ := h
    rfl
  · obtain ⟨x, dx, rfl, hx, k⟩ := h
    refine ⟨_, pss_cons (ps_fld (pv 0) pe_int rfl) (pss_cons (ps_fld (pv 0) (pe_tup (pa_cons pe_int (pa_cons pe_int pa_nil))) rfl) (pss_one (ps_fld (pv 0) (pe_tup (pa_cons pe_int (pa_cons pe_int pa_nil))) rfl))), ?_⟩
    refine ⟨_, rfl, x, C, dx, [], rfl, hx, T.cl, T.nF, (by show 0 < 1000; decide), ?_⟩
    refine ⟨two, fun p hp => ?_⟩
    have n1 : x ≠ p := ne_of_none upd_same hp
    refine ⟨_, rfl, x, C, dx, _, rfl, (upd_ne n1).trans upd_same, T.cl, T.nK, (by show 1 < 1000; decide), ?_⟩
    refine ⟨two, fun q hq => ?_⟩
    have n2 : x ≠ q := ne_of_none upd_same hq
    have n3 : p ≠ q := ne_of_none ((upd_ne n1.symm).trans upd_same) hq
    refine ⟨_, rfl, x, C, dx, _, rfl, (upd_ne n2).trans upd_same, T.cl, T.nS, ?_, ?_⟩
    · have e1 : putF "kicked" (V.ref p) (putF "first" (.int 0) []) = [(("first" : Str), V.int 0), ("kicked", .ref p)] := (put_past (by decide +kernel)).trans rfl
      rw [e1]
      show 2 < 1000
      decide
    · refine k _ ⟨dx, p, q, ?_, ?_, ?_⟩ ?_
      · exact Eq.trans upd_same (congrArg (fun z => some (HO.ins C dx z)) (put_new 0 p q))
      · exact (upd_ne n1.symm).trans ((upd_ne n3).trans ((upd_ne n1.symm).trans upd_same))
      · exact (upd_ne n2.symm).trans upd_same
      · exact (keep_upd x _ _).trans ((keep_of (same_new hp) x).trans ((keep_upd x _ _).trans ((keep_of (same_new hq) x).trans (keep_upd x _ _))))
theorem scBegin : FnScope ["self", "first"] ["self", "first"] (defScope sBegin) := ⟨rfl, rfl, rfl, by decide +kernel, rfl, by decide +kernel, by decide +kernel⟩
theorem ok_begin (Z : HereM K C "begin" "Match.begin" sBegin ["self", "first"]) (T : Cla K C) (cB : Num mg "BAD_NUMBER" (-22)) (cD : Num mg "DONE" 0) : DfM P w K mg base C "begin" 1 ["self", "first"] (spBegin C) := by
  obtain ⟨f, fd, F, m, b⟩ := Z
  refine ⟨f, fd, F.ok scBegin (fun vs H Q E h => ?_) (fun cdv A outer s H vs Q E hr h => ?_), m, b⟩
  · obtain ⟨x, m, f, rfl, _⟩ := h
    rfl
  · obtain ⟨x, m, f, rfl, hm, k⟩ := h
    refine ⟨_, pss_cons (ps_if (pt_cmpR op_gt (pv 1) pe_int (nomark _)) (pss_one (ps_ret (pcon cB))) pss_nil)
      (pss_cons (ps_fld (pv 0) (pv 1) rfl) (pss_cons (ps_fld (pv 0) (pe_tup (pa_cons pe_int (pa_cons pe_int pa_nil))) rfl) (pss_cons (ps_fld (pv 0) (pe_tup (pa_cons pe_int (pa_cons pe_int pa_nil))) rfl) (pss_one (ps_ret (pcon cD)))))), ?_⟩
    refine ⟨_, rfl, _, _, rfl, rfl, _, rfl, ite2 (fun z => ?_) (fun z => ?_)⟩
    · have z' : 1 < f := of_decide_eq_true z
      have e : m.begin f = (m, -22) := if_pos z'
      rw [e] at k
      exact k _ hm (keep_of (Same.refl H) x)
    · have z' : ¬ 1 < f := fun q => z (decide_eq_true q)
      have e : m.begin f = (⟨f, 0, 0, 0, 0⟩, 0) := if_neg z'
      rw [e] at k
      obtain ⟨dx, p0, q0, h1, h2, h3⟩ := hm
      refine ⟨_, rfl, _, rfl, x, C, dx, _, rfl, h1, T.cl, T.nF, (by show 3 < 1000; decide), ?_⟩
      rw [put_first]
      refine ⟨two, fun p hp => ?_⟩
      have n1 : x ≠ p := ne_of_none upd_same hp
      refine ⟨_, rfl, x, C, dx, _, rfl, (upd_ne n1).trans upd_same, T.cl, T.nK, (by show 3 < 1000; decide), ?_⟩
      rw [put_kicked]
      refine ⟨two, fun q hq => ?_⟩
      have n2 : x ≠ q := ne_of_none upd_same hq
      have n3 : p ≠ q := ne_of_none ((upd_ne n1.symm).trans upd_same) hq
      refine ⟨_, rfl, x, C, dx, _, rfl, (upd_ne n2).trans upd_same, T.cl, T.nS, (by show 3 < 1000; decide), ?_⟩
      rw [put_scored]
      refine k _ ⟨dx, p, q, ?_, ?_, ?_⟩ ?_
      · exact upd_same
      · exact (upd_ne n1.symm).trans ((upd_ne n3).trans ((upd_ne n1.symm).trans upd_same))
      · exact (upd_ne n2.symm).trans upd_same
      · exact (keep_upd x _ _).trans ((keep_of (same_new hp) x).trans ((keep_upd x _ _).trans ((keep_of (same_new hq) x).trans (keep_upd x _ _))))
theorem scWon : FnScope ["self"] ["self"] (defScope sWon) := ⟨rfl, rfl, rfl, by decide +kernel, rfl, by decide +kernel, by decide +kernel⟩
theorem ok_won (Z : HereM K C "won" "Match.won" sWon ["self"]) (T : Cla K C) (dW : Df P w K mg base "winner" 6 ["kicked", "scored"] (spWinner K)) : DfM P w K mg base C "won" 7 ["self"] (spWon C) := by
  obtain ⟨f, fd, F, m, b⟩ := Z
  obtain ⟨f1, fd1, G1, m1, k1, b1⟩ := dW
  refine ⟨f, fd, F.ok scWon (fun vs H Q E h => ?_) (fun cdv A outer s H vs Q E hr h => ?_), m, b⟩
  · obtain ⟨x, m, rfl, _⟩ := h
    rfl
  · obtain ⟨x, m, rfl, ⟨dx, p, q, h1, h2, h3⟩, k⟩ := h
    refine ⟨_, pss_one (ps_ret (pe_call G1 hr rfl m1 k1 b1 .nil pass0 (pa_cons (pe_fld (pv 0) rfl) (pa_cons (pe_fld (pv 0) rfl) pa_nil)))), ?_⟩
    exact ⟨_, rfl, x, C, dx, _, _, rfl, h1, T.cl, T.nK, mF_kicked _ _ _, _, rfl, x, C, dx, _, _, rfl, h1, T.cl, T.nS, mF_scored _ _ _, p, q, m.k0, m.k1, m.s0, m.s1, rfl, SqT.of h2, SqT.of h3, k⟩
theorem scTurn : FnScope ["self"] ["self"] (defScope sTurn) := ⟨rfl, rfl, rfl, by decide +kernel, rfl, by decide +kernel, by decide +kernel⟩
theorem ok_turn (Z : HereM K C "turn" "Match.turn" sTurn ["self"]) (T : Cla K C) (cN : Num mg "NOBODY" 0) (cD : Num mg "DECIDED" (-11)) (dW : DfM P w K mg base C "won" 7 ["self"] (spWon C))
    (dT : Df P w K mg base "turn_of" 2 ["first", "kicked"] (spTurnOf K)) : DfM P w K mg base C "turn" 8 ["self"] (spTurn C) := by
  obtain ⟨f, fd, F, m, b⟩ := Z
  obtain ⟨f1, fd1, G1, m1, b1⟩ := dW
  obtain ⟨f2, fd2, G2, m2, k2, b2⟩ := dT
  refine ⟨f, fd, F.ok scTurn (fun vs H Q E h => ?_) (fun cdv A outer s H vs Q E hr h => ?_), m, b⟩
  · obtain ⟨x, m, rfl, _⟩ := h
    rfl
  · obtain ⟨x, m, rfl, hm, k⟩ := h
    have hr2 : Room 2 _ := hr.mono (by decide)
    refine ⟨_, pss_cons (ps_if (pt_cmpR op_ne (pe_meth0 (pv 0) T.cl m1 G1 hr b1 .nil pass0) (pcon cN) (nomark _)) (pss_one (ps_ret (pcon cD))) pss_nil)
      (pss_one (ps_ret (pe_call G2 hr2 rfl m2 k2 b2 .nil pass0 (pa_cons (pe_fld (pv 0) rfl) (pa_cons (pe_fld (pv 0) rfl) pa_nil))))), ?_⟩
    obtain ⟨dx0, p0, q0, h1, _⟩ := id hm
    refine ⟨_, rfl, x, dx0, _, rfl, h1, mF_won _ _ _, x, m, rfl, hm, fun H1 s1 => ?_⟩
    refine ⟨rfl, _, rfl, ite2 (fun z => ?_) (fun z => ?_)⟩
    · have z' : m.won ≠ 0 := fun q => by
        rw [q] at z
        exact Bool.false_ne_true z
      have e : m.turn = -11 := if_pos z'
      rw [e] at k
      exact k _ s1
    · have z' : ¬ m.won ≠ 0 := fun q => z (by
        rw [decide_eq_false (fun t => q (V.int.inj t))]
        rfl)
      have e : m.turn = turnOf m.first m.k0 m.k1 := if_neg z'
      rw [e] at k
      obtain ⟨dx, p, q, g1, g2, g3⟩ := hm.same s1
      exact ⟨_, rfl, x, C, dx, _, _, rfl, g1, T.cl, T.nF, mF_first _ _ _, _, rfl, x, C, dx, _, _, rfl, g1, T.cl, T.nK, mF_kicked _ _ _, p, m.k0, m.k1, m.first, rfl, SqT.of g2, k _ s1⟩
theorem scKick : FnScope ["self", "hit", "team"] ["self", "hit"] (defScope sKick) := ⟨rfl, rfl, rfl, by decide +kernel, rfl, by decide +kernel, by decide +kernel⟩
theorem ok_kick (Z : HereM K C "kick" "Match.kick" sKick ["self", "hit"]) (T : Cla K C) (cB : Num mg "BAD_NUMBER" (-22)) (cD : Num mg "DECIDED" (-11)) (cM : Num mg "MOST_KICKS" 1000000) (cT : Num mg "TOO_MANY" (-28))
    (dT : DfM P w K mg base C "turn" 8 ["self"] (spTurn C)) (dC : Df P w K mg base "counted" 1 ["pair", "team", "more"] (spCounted K)) (dW : DfM P w K mg base C "won" 7 ["self"] (spWon C)) : DfM P w K mg base C "kick" 9 ["self", "hit"] (spKick C) := by
  obtain ⟨f, fd, F, m, b⟩ := Z
  obtain ⟨f1, fd1, G1, m1, b1⟩ := dT
  obtain ⟨f2, fd2, G2, m2, k2, b2⟩ := dC
  obtain ⟨f3, fd3, G3, m3, b3⟩ := dW
  refine ⟨f, fd, F.ok scKick (fun vs H Q E h => ?_) (fun cdv A outer s H vs Q E hr h => ?_), m, b⟩
  · obtain ⟨x, m, y, rfl, _⟩ := h
    rfl
  · obtain ⟨x, m, y, rfl, hm, k⟩ := h
    have hr1 : Room 1 _ := hr.mono (by decide)
    have hr7 : Room 7 _ := hr.mono (by decide)
    refine ⟨_, pss_cons (ps_if (pt_cmpR op_gt (pv 1) pe_int (nomark _)) (pss_one (ps_ret (pcon cB))) pss_nil)
      (pss_cons (ps_set (i := 2) scKick.nd rfl (Or.inl rfl) (pe_meth0 (pv 0) T.cl m1 G1 hr b1 .nil pass0))
      (pss_cons (ps_if (pt_cmpR op_lt (pv 2) pe_int (nomark _)) (pss_one (ps_ret (pcon cD))) pss_nil)
      (pss_cons (ps_if (pt_cmpR op_ge (pe_op op_add (pe_ix ix_tup (pe_fld (pv 0) rfl) pe_int (fun _ _ => rfl)) (pe_ix ix_tup (pe_fld (pv 0) rfl) pe_int (fun _ _ => rfl))) (pcon cM) (nomark _)) (pss_one (ps_ret (pcon cT))) pss_nil)
      (pss_cons (ps_fld (pv 0) (pe_call G2 hr1 rfl m2 k2 b2 .nil pass0 (pa_cons (pe_fld (pv 0) rfl) (pa_cons (pv 2) (pa_cons pe_int pa_nil)))) rfl)
      (pss_cons (ps_fld (pv 0) (pe_call G2 hr1 rfl m2 k2 b2 .nil pass0 (pa_cons (pe_fld (pv 0) rfl) (pa_cons (pv 2) (pa_cons (pv 1) pa_nil)))) rfl)
      (pss_one (ps_ret (pe_meth0 (pv 0) T.cl m3 G3 hr7 b3 .nil pass0)))))))), ?_⟩
    refine ⟨_, rfl, _, _, rfl, rfl, _, rfl, ite2 (fun z => ?_) (fun z => ?_)⟩
    · have z' : 1 < y := of_decide_eq_true z
      have e : m.kick y = (m, -22) := if_pos z'
      rw [e] at k
      exact k _ hm (keep_of (Same.refl H) x)
    · have z' : ¬ 1 < y := fun q => z (decide_eq_true q)
      obtain ⟨dx0, p0, q0, h1, _⟩ := id hm
      refine ⟨_, rfl, x, dx0, _, rfl, h1, mF_turn _ _ _, x, m, rfl, hm, fun H1 s1 => ?_⟩
      have hm1 := hm.same s1
      refine ⟨_, rfl, _, _, rfl, rfl, _, rfl, ite2 (fun z2 => ?_) (fun z2 => ?_)⟩
      · have z2' : m.turn < 0 := of_decide_eq_true z2
        have e : m.kick y = (m, -11) := (if_neg z').trans (if_pos z2')
        rw [e] at k
        exact k _ hm1 (keep_of s1 x)
      · have z2' : ¬ m.turn < 0 := fun q => z2 (decide_eq_true q)
        obtain ⟨dx, p, q, g1, g2, g3⟩ := id hm1
        refine ⟨_, rfl, x, C, dx, _, _, rfl, g1, T.cl, T.nK, mF_kicked _ _ _, p, _, _, _, rfl, rfl, SqT.of g2, at0, _, rfl, x, C, dx, _, _, rfl, g1, T.cl, T.nK, mF_kicked _ _ _, p, _, _, _, rfl, rfl, SqT.of g2, at1, _, _, rfl, rfl, _, _, rfl, rfl, _, rfl, ite2 (fun z3 => ?_) (fun z3 => ?_)⟩
        · have z3' : 1000000 ≤ m.k0 + m.k1 := of_decide_eq_true z3
          have e : m.kick y = (m, -28) := (if_neg z').trans ((if_neg z2').trans (if_pos z3'))
          rw [e] at k
          exact k _ hm1 (keep_of s1 x)
        · have z3' : ¬ 1000000 ≤ m.k0 + m.k1 := fun q => z3 (decide_eq_true q)
          have e : m.kick y = (m.put m.turn y, (m.put m.turn y).won) := (if_neg z').trans ((if_neg z2').trans (if_neg z3'))
          rw [e] at k
          refine ⟨_, rfl, x, C, dx, _, _, rfl, g1, T.cl, T.nK, mF_kicked _ _ _, _, rfl, p, m.k0, m.k1, m.turn, 1, rfl, SqT.of g2, fun u hu => ?_⟩
          have nxu : x ≠ u := ne_of_none g1 hu
          have nqu : q ≠ u := ne_of_none g3 hu
          have nqx : q ≠ x := ne_of g3 g1 (by intro t; cases t)
          refine ⟨_, rfl, x, C, dx, _, rfl, (upd_ne nxu).trans g1, T.cl, T.nK, (by show 3 < 1000; decide), ?_⟩
          rw [put_kicked]
          refine ⟨_, rfl, x, C, dx, _, _, rfl, upd_same, T.cl, T.nS, mF_scored _ _ _, _, rfl, _, rfl, q, m.s0, m.s1, m.turn, y, rfl, SqT.of ((upd_ne nqx).trans ((upd_ne nqu).trans g3)), fun v hv => ?_⟩
          have nxv : x ≠ v := ne_of_none upd_same hv
          have nuv : u ≠ v := ne_of_none ((upd_ne nxu.symm).trans upd_same) hv
          refine ⟨_, rfl, x, C, dx, _, rfl, (upd_ne nxv).trans upd_same, T.cl, T.nS, (by show 3 < 1000; decide), ?_⟩
          rw [put_scored]
          have hN : At C (upd (upd (upd (upd H1 u (.tup [.int (if m.turn = 0 then m.k0 + 1 else m.k0), .int (if m.turn = 0 then m.k1 else m.k1 + 1)])) x (.ins C dx (mF m.first u q))) v (.tup [.int (if m.turn = 0 then m.s0 + y else m.s0), .int (if m.turn = 0 then m.s1 else m.s1 + y)])) x (.ins C dx (mF m.first u v))) x (m.put m.turn y) :=
            ⟨dx, u, v, upd_same, (upd_ne nxu.symm).trans ((upd_ne nuv).trans ((upd_ne nxu.symm).trans upd_same)), (upd_ne nxv.symm).trans upd_same⟩
          refine ⟨_, rfl, x, dx, _, rfl, upd_same, mF_won _ _ _, x, _, rfl, hN, fun H2 s2 => k _ (hN.same s2) ?_⟩
          exact (keep_of s1 x).trans ((keep_of (same_new hu) x).trans ((keep_upd x _ _).trans ((keep_of (same_new hv) x).trans ((keep_upd x _ _).trans (keep_of s2 x)))))
theorem scCounts : FnScope ["self", "team"] ["self", "team"] (defScope sCounts) := ⟨rfl, rfl, rfl, by decide +kernel, rfl, by decide +kernel, by decide +kernel⟩
theorem ok_counts (Z : HereM K C "counts" "Match.counts" sCounts ["self", "team"]) (T : Cla K C) (cB : Num mg "BAD_NUMBER" (-22)) : DfM P w K mg base C "counts" 1 ["self", "team"] (spCounts C) := by
  obtain ⟨f, fd, F, m, b⟩ := Z
  refine ⟨f, fd, F.ok scCounts (fun vs H Q E h => ?_) (fun cdv A outer s H vs Q E hr h => ?_), m, b⟩
  · obtain ⟨x, m, t, rfl, _⟩ := h
    rfl
  · obtain ⟨x, m, t, rfl, ⟨dx, p, q, h1, h2, h3⟩, ht, k⟩ := h
    refine ⟨_, pss_cons (ps_if (pt_cmpR op_gt (pv 1) pe_int (nomark _)) (pss_one (ps_ret (pe_lst (pa_cons (pcon cB) pa_nil)))) pss_nil)
      (pss_one (ps_ret (pe_lst (pa_cons (pe_ix ix_tup (pe_fld (pv 0) rfl) (pv 1) (fun _ _ => rfl)) (pa_cons (pe_ix ix_tup (pe_fld (pv 0) rfl) (pv 1) (fun _ _ => rfl)) pa_nil))))), ?_⟩
    refine ⟨_, rfl, _, _, rfl, rfl, _, rfl, ite2 (fun z => ?_) (fun z => ?_)⟩
    · have z' : 1 < t := of_decide_eq_true z
      have e : m.counts t = [-22] := if_pos z'
      rw [e] at k
      exact ⟨(by show 1 ≤ sizeLine; decide), k⟩
    · have z' : ¬ 1 < t := fun q => z (decide_eq_true q)
      have e : m.counts t = [pk m.k0 m.k1 t, pk m.s0 m.s1 t] := if_neg z'
      rw [e] at k
      exact ⟨_, rfl, x, C, dx, _, _, rfl, h1, T.cl, T.nK, mF_kicked _ _ _, _, rfl, p, _, _, _, rfl, rfl, SqT.of h2, atPk (by omega), _, rfl, x, C, dx, _, _, rfl, h1, T.cl, T.nS, mF_scored _ _ _, _, rfl, q, _, _, _, rfl, rfl, SqT.of h3, atPk (by omega), two, k⟩
end
end Fk
/-! # 6. The rows and the desk -/
namespace Fk
open PySem PySem.Spec PyProof.Rows L2
open PySem.W (Codec)
def size (w : Int) : Nat := if long w = true then 2 else 1
theorem size_pos (w : Int) : 1 ≤ size w := by
  unfold size
  split <;> decide
theorem parts_cons (w : Int) (r : List Int) : parts (w :: r) = (w :: r).take (size w) :: parts ((w :: r).drop (size w)) := by
  unfold size
  cases r with
  | nil =>
    cases h : long w with
    | true => rfl
    | false => rfl
  | cons x r =>
    show (if long w = true then [w, x] :: parts r else [w] :: parts (x :: r)) = _
    cases h : long w with
    | true => rfl
    | false => rfl
theorem parts_nil : parts [] = [] := rfl
/-- the lists at as hold the rows ds -/
def Held (H : Hp) (as : List Addr) (ds : List (List Int)) : Prop := as.length = ds.length ∧ ∀ (i : Nat) (a : Addr), as[i]? = some a → ∃ d, ds[i]? = some d ∧ H a = some (.lst (d.map V.int))
theorem Held.same {H H' : Hp} {as : List Addr} {ds : List (List Int)} (h : Held H as ds) (k : ∀ (a : Addr) (d : List Int), H a = some (.lst (d.map V.int)) → a ∈ as → H' a = some (.lst (d.map V.int))) : Held H' as ds :=
  ⟨h.1, fun i a e => by
    obtain ⟨d, h1, h2⟩ := h.2 i a e
    exact ⟨d, h1, k a d h2 (List.mem_of_getElem? e)⟩⟩
theorem Held.push {H : Hp} {as : List Addr} {ds : List (List Int)} {a : Addr} {d : List Int} (h : Held H as ds) (ha : H a = some (.lst (d.map V.int))) : Held H (as ++ [a]) (ds ++ [d]) := by
  refine ⟨by rw [List.length_append, List.length_append, h.1]; rfl, fun i b e => ?_⟩
  by_cases hi : i < as.length
  · rw [List.getElem?_append_left hi] at e
    obtain ⟨c, h1, h2⟩ := h.2 i b e
    exact ⟨c, by rw [List.getElem?_append_left (by rw [← h.1]; exact hi)]; exact h1, h2⟩
  · have hi' : i = as.length := by
      have := (List.getElem?_eq_some_iff.mp e).1
      rw [List.length_append] at this
      have : i < as.length + 1 := this
      omega
    subst hi'
    rw [List.getElem?_append_right (Nat.le_refl _), Nat.sub_self] at e
    have e' : a = b := Option.some.inj e
    subst e'
    exact ⟨d, by rw [h.1, List.getElem?_append_right (Nat.le_refl _), Nat.sub_self]; rfl, ha⟩
theorem ints_ne_refs {d : List Int} {as : List Addr} {c : Addr} (h : c ∈ as) : HO.lst (d.map V.int) ≠ HO.lst (as.map V.ref) := by
  intro e
  have e' : d.map V.int = as.map V.ref := HO.lst.inj e
  cases as with
  | nil => cases h
  | cons b bs =>
    cases d with
    | nil => cases e'
    | cons y ys =>
      have e2 : V.int y = V.ref b := (List.cons.inj e').1
      cases e2
theorem cut_is (ns : List Int) (j k : Nat) (hj : j ≤ ns.length) : cutV (ns.map V.int) (some (j : Int)) (some ((j : Int) + (k : Int))) = ((ns.drop j).take k).map V.int := by
  unfold cutV
  rw [show (j : Int) + (k : Int) = ((j + k : Nat) : Int) by omega, HT.sIx_nat, HT.sIx_nat, List.length_map, Nat.min_eq_left hj, ← List.map_drop, ← List.map_take]
  congr 1
  by_cases h : j + k ≤ ns.length
  · rw [Nat.min_eq_left h, Nat.add_sub_cancel_left]
  · rw [Nat.min_eq_right (by omega), List.take_of_length_le (by rw [List.length_drop]; exact Nat.le_refl _), List.take_of_length_le (by rw [List.length_drop]; omega)]
def spSize : Sp := fun vs H Q _ => ∃ w : Int, vs = [.int w] ∧ Q (.int (size w : Nat)) H
def spParted (K : PySem.W.Frag) : Sp := fun vs H Q _ => ∃ (a : Addr) (ns : List Int), vs = [.ref a] ∧ SqL K H a (ns.map V.int) ∧ ns.length ≤ 8000 ∧
  ∀ (H' : Hp) (l : Addr) (as : List Addr), Same H H' → H l = none → H' l = some (.lst (as.map V.ref)) → (∀ c ∈ as, H c = none) → Held H' as (parts ns) → Q (.ref l) H'
def spAnswerOf (C : Addr) : Sp := fun vs H Q _ => ∃ (x c : Addr) (m : M) (d : List Int), vs = [.ref x, .ref c] ∧ At C H x m ∧ H c = some (.lst (d.map V.int)) ∧ fit d ∧
  ∀ (H' : Hp) (p : Addr), At C H' x (m.does d).1 → Keep x H H' → H p = none → H' p = some (.lst ((m.does d).2.map V.int)) → Q (.ref p) H'
def spAnswers (K : PySem.W.Frag) : Sp := fun vs H Q _ => ∃ (a : Addr) (ns : List Int), vs = [.ref a] ∧ SqL K H a (ns.map V.int) ∧ ns.length ≤ 8000 ∧ (∀ d ∈ parts ns, fit d) ∧ (parts ns).length ≤ 4000 ∧
  ∀ (H' : Hp) (p : Addr), H' p = some (.lst ((play M.fresh (parts ns)).map V.int)) → Q (.ref p) H'
/-- the tuple LONGER -/
def Longer (K : PySem.W.Frag) (mg : Str → Option Value) : Prop := ∃ a, mg "LONGER" = some (.ref a) ∧ ∀ H, SqT K H a [.int 0, .int 1, .int 3]
theorem inLong (w : Int) : inV (.int w) [.int 0, .int 1, .int 3] = long w := by
  show ((0 == w) || ((1 == w) || ((3 == w) || false))) = ((decide (w = 0) || decide (w = 1)) || decide (w = 3))
  rw [Bool.eq_iff_iff]
  simp only [Bool.or_eq_true, beq_iff_eq, decide_eq_true_eq, Bool.false_eq_true, or_false]
  omega
section
variable {P : Program} {w : World} {K : PySem.W.Frag} {mg : Str → Option Value} {base : Heap} {C : Addr}
theorem scSize : FnScope ["word"] ["word"] (defScope sSize) := ⟨rfl, rfl, rfl, by decide +kernel, rfl, by decide +kernel, by decide +kernel⟩
theorem ok_size (Z : Here K mg "size_of" sSize ["word"]) (L : Longer K mg) : Df P w K mg base "size_of" 1 ["word"] spSize := by
  obtain ⟨f, fd, F, m, b⟩ := Z
  obtain ⟨aL, mL, hL⟩ := L
  refine ⟨f, fd, F.ok scSize (fun vs H Q E h => ?_) (fun cdv A outer s H vs Q E hr h => ?_), m, F.kp, b⟩
  · obtain ⟨w, rfl, _⟩ := h
    rfl
  · obtain ⟨w, rfl, k⟩ := h
    refine ⟨_, pss_cons (ps_if (pt_cmpR op_in_seq (pv 0) (pe_glob (v := .ref aL) rfl mL rfl) (by rfl)) (pss_one (ps_ret pe_int)) pss_nil) (pss_one (ps_ret pe_int)), ?_⟩
    refine ⟨_, rfl, aL, _, rfl, .inr (hL _), rfl, rfl, _, rfl, ?_⟩
    show if inV (.int w) [.int 0, .int 1, .int 3] = true then _ else _
    rw [inLong]
    refine ite2 (fun z => ?_) (fun z => ?_)
    · have e : size w = 2 := if_pos z
      rw [e] at k
      exact k
    · have e : size w = 1 := if_neg z
      rw [e] at k
      exact k
theorem scParted : FnScope ["calls", "found", "at", "after"] ["calls"] (defScope sParted) := ⟨rfl, rfl, rfl, by decide +kernel, rfl, by decide +kernel, by decide +kernel⟩
theorem ok_parted (Z : Here K mg "parted" sParted ["calls"]) (ml : mg "len" = none) (dS : Df P w K mg base "size_of" 1 ["word"] spSize) : Df P w K mg base "parted" 2 ["calls"] (spParted K) := by
  obtain ⟨f, fd, F, m, b⟩ := Z
  obtain ⟨f1, fd1, G1, m1, k1, b1⟩ := dS
  refine ⟨f, fd, F.ok scParted (fun vs H Q E h => ?_) (fun cdv A outer s H vs Q E hr h => ?_), m, F.kp, b⟩
  · obtain ⟨a, ns, rfl, _⟩ := h
    rfl
  · obtain ⟨a, ns, rfl, hS, hlen, k⟩ := h
    refine ⟨_, pss_cons (ps_set (i := 1) scParted.nd rfl (Or.inl rfl) (pe_lst pa_nil))
      (pss_cons (ps_set (i := 2) scParted.nd rfl (Or.inl rfl) pe_int)
      (pss_cons (ps_while PassesOwn.never (pt_cmpR op_lt (pv 2) (pe_callB call_len_seq (by rfl) ml boot_len (pa_cons (pv 0) pa_nil)) (nomark _))
        (pss_cons (ps_set (i := 3) scParted.nd rfl (Or.inl rfl) (pe_op op_add (pv 2) (pe_call G1 hr rfl m1 k1 b1 .nil pass0 (pa_cons (pe_ix ix_list (pv 0) (pv 2) (fun _ _ => rfl)) pa_nil))))
        (pss_cons (ps_expr (pe_bm PySem.F.plainAttrs_list PySem.F.slot_list_append PySem.F.type_list_append mt_append (pv 1) (pa_cons (pe_slice sl_list (pv 0) (po_some (pv 2)) (po_some (pv 3))) pa_nil)))
        (pss_one (ps_set (i := 2) scParted.nd rfl (Or.inl rfl) (pv 3))))))
      (pss_one (ps_ret (pv 1))))), ?_⟩
    refine ⟨Nat.zero_le _, fun l hl => ?_⟩
    refine ⟨fun n σ H' => ∃ (j : Nat) (as : List Addr) (ds : List (List Int)) (v : Option V), n = ns.length + 2 - j ∧ σ = [some (.ref a), some (.ref l), some (.int (j : Int)), v] ∧ Same H H' ∧ H' l = some (.lst (as.map V.ref)) ∧ Held H' as ds ∧ (∀ c ∈ as, H c = none) ∧
        as.length ≤ j ∧ j ≤ ns.length + 1 ∧ ds ++ parts (ns.drop j) = parts ns, ⟨_, 0, [], [], none, rfl, rfl, same_new hl, upd_same, ⟨rfl, fun i a e => by simp at e⟩, (fun c hc => absurd hc List.not_mem_nil), Nat.zero_le _, Nat.zero_le _, rfl⟩, ?_⟩
    rintro n σ H1 ⟨j, as, ds, v, rfl, rfl, s1, h1, hd, hn, h2, h3, h4⟩
    refine ⟨_, rfl, _, rfl, a, _, rfl, .inl (s1.seq hS), _, _, rfl, rfl, _, rfl, ite2 (fun z => ?_) (fun z => ?_)⟩
    · have z' : j < ns.length := by
        have q : (j : Int) < ((ns.map V.int).length : Nat) := of_decide_eq_true z
        rw [List.length_map] at q
        omega
      refine ⟨fun σ' H' => ∃ (j' : Nat) (as : List Addr) (ds : List (List Int)) (v : Option V), j < j' ∧ σ' = [some (.ref a), some (.ref l), some (.int (j' : Int)), v] ∧ Same H H' ∧ H' l = some (.lst (as.map V.ref)) ∧ Held H' as ds ∧ (∀ c ∈ as, H c = none) ∧
        as.length ≤ j' ∧ j' ≤ ns.length + 1 ∧ ds ++ parts (ns.drop j') = parts ns, ?_, ?_⟩
      · rintro σ' H' ⟨j', as', ds', v', hj, r⟩
        exact ⟨ns.length + 2 - j', by have := r.2.2.2.2.2.2.1; omega, j', as', ds', v', rfl, r⟩
      · obtain ⟨u, hu⟩ : ∃ u, ns[j]? = some u := ⟨_, List.getElem?_eq_getElem z'⟩
        have hdr : ns.drop j = u :: ns.drop (j + 1) := by
          rw [List.drop_eq_getElem_cons z']
          congr 1
          exact (List.getElem?_eq_some_iff.mp hu).2
        refine ⟨_, rfl, _, rfl, _, rfl, a, _, _, _, rfl, rfl, s1.seq hS, atI_nat (j := j) (by rw [List.getElem?_map, hu]; rfl), u, rfl, _, _, rfl, rfl, ?_⟩
        refine ⟨_, rfl, .inl ⟨rfl, _, SqL.of h1⟩, _, rfl, _, rfl, _, rfl, _, rfl, _, rfl, a, _, rfl, s1.seq hS, fun p hp => ?_⟩
        rw [cut_is ns j (size u) (by omega)]
        have nlp : l ≠ p := ne_of_none h1 hp
        refine ⟨l, _, _, rfl, rfl, (upd_ne nlp).trans h1, ?_, ?_⟩
        · rw [List.length_map]
          exact Nat.lt_of_le_of_lt (show as.length ≤ 8001 by omega) (by decide)
        · have hsz : size u ≤ 2 := by unfold size; split <;> decide
          have hsp := size_pos u
          refine ⟨_, rfl, j + size u, as ++ [p], ds ++ [(ns.drop j).take (size u)], _, by omega, rfl, ?_, ?_, ?_, ?_, ?_, by omega, ?_⟩
          · exact fun c o e => by
              have e1 := s1 c o e
              have ncl : c ≠ l := ne_of_none e hl
              rw [upd_ne ncl, upd_ne (ne_of_none e1 hp)]
              exact e1
          · rw [upd_same, List.map_append]
            rfl
          · refine Held.push ?_ ?_
            · refine hd.same fun c d e hc => ?_
              rw [upd_ne (ne_of e h1 (ints_ne_refs hc)), upd_ne (ne_of_none e hp)]
              exact e
            · rw [upd_ne nlp.symm]
              exact upd_same
          · intro c hc
            rcases List.mem_append.mp hc with hc | hc
            · exact hn c hc
            · rw [List.mem_singleton.mp hc]
              exact s1.free hp
          · rw [List.length_append]
            show as.length + 1 ≤ _
            omega
          · rw [List.append_assoc]
            show ds ++ ((ns.drop j).take (size u) :: parts (ns.drop (j + size u))) = _
            rw [← h4, ← List.drop_drop, hdr, ← parts_cons]
    · have z' : ns.length ≤ j := by
        have q : ¬ (j : Int) < ((ns.map V.int).length : Nat) := fun q => z (decide_eq_true q)
        rw [List.length_map] at q
        omega
      rw [List.drop_eq_nil_of_le z', parts_nil, List.append_nil] at h4
      rw [h4] at hd
      exact ⟨_, rfl, k _ l as s1 hl h1 hn hd⟩
theorem scAnswerOf : FnScope ["match", "call", "word"] ["match", "call"] (defScope sAnswerOf) := ⟨rfl, rfl, rfl, by decide +kernel, rfl, by decide +kernel, by decide +kernel⟩
theorem ok_answerOf (Z : Here K mg "answer_of" sAnswerOf ["match", "call"]) (T : Cla K C) (c0 : Num mg "START" 0) (c1 : Num mg "KICK" 1) (c2 : Num mg "NEXT" 2) (c3 : Num mg "SCORE" 3)
    (dB : DfM P w K mg base C "begin" 1 ["self", "first"] (spBegin C)) (dK : DfM P w K mg base C "kick" 9 ["self", "hit"] (spKick C)) (dT : DfM P w K mg base C "turn" 8 ["self"] (spTurn C))
    (dS : DfM P w K mg base C "counts" 1 ["self", "team"] (spCounts C)) (dW : DfM P w K mg base C "won" 7 ["self"] (spWon C)) : Df P w K mg base "answer_of" 10 ["match", "call"] (spAnswerOf C) := by
  obtain ⟨f, fd, F, m, b⟩ := Z
  obtain ⟨f1, fd1, G1, m1, b1⟩ := dB
  obtain ⟨f2, fd2, G2, m2, b2⟩ := dK
  obtain ⟨f3, fd3, G3, m3, b3⟩ := dT
  obtain ⟨f4, fd4, G4, m4, b4⟩ := dS
  obtain ⟨f5, fd5, G5, m5, b5⟩ := dW
  refine ⟨f, fd, F.ok scAnswerOf (fun vs H Q E h => ?_) (fun cdv A outer s H vs Q E hr h => ?_), m, F.kp, b⟩
  · obtain ⟨x, c, m, d, rfl, _⟩ := h
    rfl
  · obtain ⟨x, c, m, d, rfl, hm, hc, hf, k⟩ := h
    have hr1 : Room 1 _ := hr.mono (by decide)
    have hr8 : Room 8 _ := hr.mono (by decide)
    have hr7 : Room 7 _ := hr.mono (by decide)
    refine ⟨_, pss_cons (ps_set (i := 2) scAnswerOf.nd rfl (Or.inl rfl) (pe_ix ix_list (pv 1) pe_int (fun _ _ => rfl)))
      (pss_cons (ps_if (pt_cmpR op_eq (pv 2) (pcon c0) (nomark _)) (pss_one (ps_ret (pe_lst (pa_cons (pe_meth (pv 0) T.cl m1 G1 hr1 b1 .nil pass0 (pa_cons (pe_ix ix_list (pv 1) pe_int (fun _ _ => rfl)) pa_nil)) pa_nil)))) pss_nil)
      (pss_cons (ps_if (pt_cmpR op_eq (pv 2) (pcon c1) (nomark _)) (pss_one (ps_ret (pe_lst (pa_cons (pe_meth (pv 0) T.cl m2 G2 hr b2 .nil pass0 (pa_cons (pe_ix ix_list (pv 1) pe_int (fun _ _ => rfl)) pa_nil)) pa_nil)))) pss_nil)
      (pss_cons (ps_if (pt_cmpR op_eq (pv 2) (pcon c2) (nomark _)) (pss_one (ps_ret (pe_lst (pa_cons (pe_meth0 (pv 0) T.cl m3 G3 hr8 b3 .nil pass0) pa_nil)))) pss_nil)
      (pss_cons (ps_if (pt_cmpR op_eq (pv 2) (pcon c3) (nomark _)) (pss_one (ps_ret (pe_meth (pv 0) T.cl m4 G4 hr1 b4 .nil pass0 (pa_cons (pe_ix ix_list (pv 1) pe_int (fun _ _ => rfl)) pa_nil)))) pss_nil)
      (pss_one (ps_ret (pe_lst (pa_cons (pe_meth0 (pv 0) T.cl m5 G5 hr7 b5 .nil pass0) pa_nil)))))))), ?_⟩
    obtain ⟨u, r, rfl⟩ : ∃ u r, d = u :: r := by
      rcases hf with ⟨u, y, rfl, _⟩ | ⟨u, rfl, _⟩
      · exact ⟨u, [y], rfl⟩
      · exact ⟨u, [], rfl⟩
    obtain ⟨dx, p0, q0, h1, _⟩ := id hm
    -- a new list behind a method's call
    have one : (1 : Nat) ≤ sizeLine := by decide
    refine ⟨_, rfl, c, _, _, _, rfl, rfl, SqL.of hc, atI_nat (j := 0) rfl, ?_⟩
    have hlong : long u = true → ∃ y, r = [y] ∧ 0 ≤ y := fun hl => by
      rcases hf with ⟨u', y, e, _, hy⟩ | ⟨u', e, hs⟩
      · cases e
        exact ⟨y, rfl, hy⟩
      · cases e
        rw [hl] at hs
        cases hs
    refine ⟨_, rfl, rfl, _, rfl, ite2 (fun z => ?_) (fun z => ?_)⟩
    · have z' : u = 0 := V.int.inj (of_decide_eq_true z)
      subst z'
      obtain ⟨y, rfl, hy⟩ := hlong rfl
      refine ⟨_, rfl, x, dx, _, rfl, h1, mF_begin _ _ _, _, rfl, c, _, _, _, rfl, rfl, SqL.of hc, atI_nat (j := 1) rfl, x, m, y, rfl, hm, fun H1 J kp => ⟨one, fun p hp => ?_⟩⟩
      obtain ⟨dx', p', q', g1, g2, g3⟩ := id J
      exact k _ p (J.same (same_new hp)) (kp.trans (keep_of (same_new hp) x)) (kp.new g1 hp) upd_same
    · have n0 : ¬ u = 0 := fun q => z (decide_eq_true (congrArg V.int q))
      refine ⟨_, rfl, rfl, _, rfl, ite2 (fun z => ?_) (fun z => ?_)⟩
      · have z' : u = 1 := V.int.inj (of_decide_eq_true z)
        subst z'
        obtain ⟨y, rfl, hy⟩ := hlong rfl
        refine ⟨_, rfl, x, dx, _, rfl, h1, mF_kick _ _ _, _, rfl, c, _, _, _, rfl, rfl, SqL.of hc, atI_nat (j := 1) rfl, x, m, y, rfl, hm, fun H1 J kp => ⟨one, fun p hp => ?_⟩⟩
        obtain ⟨dx', p', q', g1, g2, g3⟩ := id J
        exact k _ p (J.same (same_new hp)) (kp.trans (keep_of (same_new hp) x)) (kp.new g1 hp) upd_same
      · have n1 : ¬ u = 1 := fun q => z (decide_eq_true (congrArg V.int q))
        refine ⟨_, rfl, rfl, _, rfl, ite2 (fun z => ?_) (fun z => ?_)⟩
        · have z' : u = 2 := V.int.inj (of_decide_eq_true z)
          subst z'
          refine ⟨_, rfl, x, dx, _, rfl, h1, mF_turn _ _ _, x, m, rfl, hm, fun H1 s1 => ⟨one, fun p hp => ?_⟩⟩
          exact k _ p ((hm.same s1).same (same_new hp)) ((keep_of s1 x).trans (keep_of (same_new hp) x)) (s1.free hp) upd_same
        · have n2 : ¬ u = 2 := fun q => z (decide_eq_true (congrArg V.int q))
          refine ⟨_, rfl, rfl, _, rfl, ite2 (fun z => ?_) (fun z => ?_)⟩
          · have z' : u = 3 := V.int.inj (of_decide_eq_true z)
            subst z'
            obtain ⟨y, rfl, hy⟩ := hlong rfl
            refine ⟨_, rfl, x, dx, _, rfl, h1, mF_counts _ _ _, _, rfl, c, _, _, _, rfl, rfl, SqL.of hc, atI_nat (j := 1) rfl, x, m, y, rfl, hm, hy, fun p hp => ?_⟩
            exact k _ p (hm.same (same_new hp)) (keep_of (same_new hp) x) hp upd_same
          · have n3 : ¬ u = 3 := fun q => z (decide_eq_true (congrArg V.int q))
            have e : m.does (u :: r) = (m, [m.won]) := by
              show m.step u (r.headD 0) = _
              unfold M.step
              rw [if_neg n0, if_neg n1, if_neg n2, if_neg n3]
            rw [e] at k
            refine ⟨_, rfl, x, dx, _, rfl, h1, mF_won _ _ _, x, m, rfl, hm, fun H1 s1 => ⟨one, fun p hp => ?_⟩⟩
            exact k _ p ((hm.same s1).same (same_new hp)) ((keep_of s1 x).trans (keep_of (same_new hp) x)) (s1.free hp) upd_same
theorem does_len (m : M) (d : List Int) : (m.does d).2.length ≤ 2 := by
  unfold M.does M.step M.counts
  repeat' split
  all_goals simp
theorem scAnswers : FnScope ["calls", "match", "told", "call", "answer"] ["calls"] (defScope sAnswers) := ⟨rfl, rfl, rfl, by decide +kernel, rfl, by decide +kernel, by decide +kernel⟩
theorem ok_answersF {f fI : Addr} {fd fdI : FuncData} (F : Fun K "answers" "answers" sAnswers f fd) (gC : mg "Match" = some (.ref C)) (ml : mg "len" = none) (MK : Mk K C fI) (GI : FnOk P w K mg base CX0 1 fI fdI ["self"] (spInit C)) (bI : Binds K fdI ["self"] [])
    (dP : Df P w K mg base "parted" 2 ["calls"] (spParted K)) (dA : Df P w K mg base "answer_of" 10 ["match", "call"] (spAnswerOf C)) : FnOk P w K mg base CX0 11 f fd ["calls"] (spAnswers K) := by
  obtain ⟨f1, fd1, G1, m1, k1, b1⟩ := dP
  obtain ⟨f2, fd2, G2, m2, k2, b2⟩ := dA
  refine F.ok scAnswers (fun vs H Q E h => ?_) (fun cdv A outer s H vs Q E hr h => ?_)
  · obtain ⟨a, ns, rfl, _⟩ := h
    rfl
  · obtain ⟨a, ns, rfl, hS, hlen, hfit, hmost, k⟩ := h
    have hr2 : Room 2 _ := hr.mono (by decide)
    refine ⟨_, pss_cons (ps_set (i := 1) scAnswers.nd rfl (Or.inl rfl) (pe_make0 MK GI hr2 rfl gC bI .nil pass0))
      (pss_cons (ps_set (i := 2) scAnswers.nd rfl (Or.inl rfl) (pe_lst pa_nil))
      (pss_cons (ps_for PassesOwn.never rfl (pi_list (pe_call G1 hr2 rfl m1 k1 b1 .nil pass0 (pa_cons (pv 0) pa_nil))) (pg_name (i := 3) scAnswers.nd rfl (Or.inl rfl))
        (pss_cons (ps_set (i := 4) scAnswers.nd rfl (Or.inl rfl) (pe_call G2 hr rfl m2 k2 b2 .nil pass0 (pa_cons (pv 1) (pa_cons (pv 3) pa_nil))))
        (pss_cons (ps_expr (pe_bm PySem.F.plainAttrs_list PySem.F.slot_list_append PySem.F.type_list_append mt_append (pv 2) (pa_cons (pe_callB call_len_seq (by rfl) ml boot_len (pa_cons (pv 4) pa_nil)) pa_nil)))
        (pss_one (ps_expr (pe_bm PySem.F.plainAttrs_list PySem.F.slot_list_extend PySem.F.type_list_extend mt_extend (pv 2) (pa_cons (pv 4) pa_nil)))))))
      (pss_one (ps_ret (pv 2))))), ?_⟩
    intro x dx nx nd ne
    refine ⟨x, dx, rfl, upd_same, fun H1 J kp => ⟨rfl, ?_⟩⟩
    have s1 : Same H H1 := Same.made nx nd kp
    refine ⟨Nat.zero_le _, fun t ht => ?_⟩
    have s2 : Same H1 (upd H1 t (.lst [])) := same_new ht
    refine ⟨_, rfl, a, ns, rfl, (s1.trans s2).seq hS, hlen, fun H3 l as s3 nl hl hn hd => ?_⟩
    have ht3 : H3 t = some (.lst []) := s3 _ _ upd_same
    have ntl : t ≠ l := ne_of_none upd_same nl
    have nta : ∀ c ∈ as, c ≠ t := fun c hc z => by
      have q := hn c hc
      rw [z, upd_same] at q
      cases q
    refine ⟨l, rfl, ⟨_, SqL.of hl⟩, for_list (K := K) (a := l) (xs := as.map V.ref) (fun i σ H' => ∃ (v3 v4 : Option V) (m : M) (out : List Int), σ = [some (.ref a), some (.ref x), some (.ref t), v3, v4] ∧ At C H' x m ∧ H' t = some (.lst (out.map V.int)) ∧
        H' l = some (.lst (as.map V.ref)) ∧ Held H' as (parts ns) ∧ out.length ≤ 3 * i ∧ out ++ play m ((parts ns).drop i) = play M.fresh (parts ns))
      ⟨none, none, M.fresh, [], rfl, (J.same s2).same s3, ht3, hl, hd, Nat.zero_le _, rfl⟩ (fun i σ H' _ ⟨_, _, _, _, _, _, _, q, _⟩ => SqL.of q) ?_ ?_⟩
    · rintro i y σ H4 hi ⟨v3, v4, m, out, rfl, hm, ht4, hl4, hd4, ho, heq⟩
      obtain ⟨c, hc, rfl⟩ : ∃ c, as[i]? = some c ∧ y = V.ref c := by
        rw [List.getElem?_map] at hi
        cases e : as[i]? with
        | none =>
          rw [e] at hi
          cases hi
        | some c =>
          rw [e] at hi
          exact ⟨c, rfl, (Option.some.inj hi).symm⟩
      obtain ⟨d, hdi, hcd⟩ := hd4.2 i c hc
      have hil : i < (parts ns).length := (List.getElem?_eq_some_iff.mp hdi).1
      have hdr : (parts ns).drop i = d :: (parts ns).drop (i + 1) := by
        rw [List.drop_eq_getElem_cons hil]
        congr 1
        exact (List.getElem?_eq_some_iff.mp hdi).2
      refine ⟨_, rfl, _, rfl, x, c, m, d, rfl, hm, hcd, hfit d (List.mem_of_getElem? hdi), fun H5 p J5 kp5 np hp => ?_⟩
      obtain ⟨dx0, p0, q0, g1, g2, g3⟩ := id hm
      have ntx : t ≠ x := ne_of ht4 g1 (by intro z; cases z)
      have nlx : l ≠ x := ne_of hl4 g1 (by intro z; cases z)
      have ntp : t ≠ p := ne_of_none ht4 np
      have nlp : l ≠ p := ne_of_none hl4 np
      have ht5 := kp5 t _ ht4 ntx
      have hl5 := kp5 l _ hl4 nlx
      have hd5 : Held H5 as (parts ns) := hd4.same fun b e q _ => kp5 b _ q (ne_of q g1 (by intro z; cases z))
      refine ⟨_, rfl, .inl ⟨rfl, _, SqL.of ht5⟩, _, rfl, p, _, rfl, .inl (SqL.of hp), t, _, _, rfl, rfl, ht5, ?_, ?_⟩
      · rw [List.length_map]
        exact Nat.lt_of_le_of_lt (show out.length ≤ 12000 by omega) (by decide)
      · refine ⟨_, rfl, .inl ⟨rfl, _, SqL.of upd_same⟩, _, rfl, t, p, _, _, rfl, rfl, upd_same, (upd_ne ntp.symm).trans hp, ?_, ?_⟩
        · rw [List.length_append, List.length_map, List.length_map]
          have := does_len m d
          exact Nat.le_trans (show out.length + 1 + (m.does d).2.length ≤ 12003 by omega) (by decide)
        · rw [upd_upd]
          have hout : (out.map V.int ++ [V.int (((m.does d).2.map V.int).length : Nat)]) ++ (m.does d).2.map V.int = (out ++ (((m.does d).2.length : Int) :: (m.does d).2)).map V.int := by
            rw [List.length_map, List.map_append, List.append_assoc]
            rfl
          rw [hout]
          refine ⟨_, _, (m.does d).1, out ++ (((m.does d).2.length : Int) :: (m.does d).2), rfl, ?_, upd_same, (upd_ne ntl.symm).trans hl5, ?_, ?_, ?_⟩
          · obtain ⟨dx1, p1, q1, e1, e2, e3⟩ := J5
            exact ⟨dx1, p1, q1, (upd_ne (ne_of e1 ht5 (by intro z; cases z))).trans e1, (upd_ne (ne_of e2 ht5 (by intro z; cases z))).trans e2, (upd_ne (ne_of e3 ht5 (by intro z; cases z))).trans e3⟩
          · exact hd5.same fun b e q hb => (upd_ne (nta b hb)).trans q
          · rw [List.length_append]
            have := does_len m d
            show out.length + ((m.does d).2.length + 1) ≤ 3 * (i + 1)
            omega
          · rw [hdr] at heq
            rw [List.append_assoc]
            exact heq
    · rintro σ H4 ⟨v3, v4, m, out, rfl, hm, ht4, hl4, hd4, ho, heq⟩
      have e : (parts ns).drop (as.map V.ref).length = [] := by
        rw [List.length_map, hd.1]
        exact List.drop_length
      rw [e] at heq
      have heq' : out = play M.fresh (parts ns) := by
        rw [← heq]
        exact (List.append_nil _).symm
      rw [heq'] at ht4
      exact ⟨_, rfl, k _ t ht4⟩
end
end Fk
/-! # 7. The end: what the top has written, and the row -/
namespace Fk
open PySem PySem.Spec PyProof.Rows L2
open PySem.W (Codec)
theorem here_mk {K : PySem.W.Frag} {mg : Str → Option Value} {x : Str} {st : Stmt} {f : Addr} {fd : FuncData} {ps : List Str} (F : Fun K x x st f fd) (m : mg x = some (.ref f)) (b : Binds K fd ps []) : Here K mg x st ps := ⟨f, fd, F, m, b⟩
theorem hereM_mk {K : PySem.W.Frag} {C : Addr} {x q : Str} {st : Stmt} {f : Addr} {fd : FuncData} {ps : List Str} (F : Fun K x q st f fd) (m : Meth K C x f) (b : Binds K fd ps []) : HereM K C x q st ps := ⟨f, fd, F, m, b⟩
theorem all_mk {P : Program} {w : World} {K : PySem.W.Frag} {h : Heap} {mg : Str → Option Value} {fa C aL f1 f2 f3 f4 f5 f6 f7 f8 f9 f10 f11 f12 f13 f14 f15 f16 f17 f18 f19 : Addr} (X : K.In h) (G : h.Ns mainGlobals mg) (hfa : mg "answers" = some (.ref fa))
    {od1 an1 od2 an2 od3 an3 od4 an4 od5 an5 od6 an6 od7 an7 od8 an8 od9 an9 od10 an10 od11 an11 od12 an12 od13 an13 od14 an14 od15 an15 od16 an16 od17 an17 od18 an18 od19 an19 : Option Addr} {sl1 sl2 sl3 sl4 sl5 sl6 sl7 sl8 sl9 sl10 sl11 sl12 sl13 sl14 sl15 sl16 sl17 sl18 sl19 : Array (Option Value)} {oc1 kV1 dc1 pm1 cd1 ct1 oc2 kV2 dc2 pm2 cd2 ct2 oc3 kV3 dc3 pm3 cd3 ct3 oc4 kV4 dc4 pm4 cd4 ct4 oc5 kV5 dc5 pm5 cd5 ct5 oc6 kV6 dc6 pm6 cd6 ct6 oc7 kV7 dc7 pm7 cd7 ct7 oc8 kV8 dc8 pm8 cd8 ct8 oc9 kV9 dc9 pm9 cd9 ct9 oc10 kV10 dc10 pm10 cd10 ct10 oc11 kV11 dc11 pm11 cd11 ct11 oc12 kV12 dc12 pm12 cd12 ct12 oc13 kV13 dc13 pm13 cd13 ct13 oc14 kV14 dc14 pm14 cd14 ct14 oc15 kV15 dc15 pm15 cd15 ct15 oc16 kV16 dc16 pm16 cd16 ct16 oc17 kV17 dc17 pm17 cd17 ct17 oc18 kV18 dc18 pm18 cd18 ct18 oc19 kV19 dc19 pm19 cd19 ct19 : Value}
    {tk1 tk2 tk3 tk4 tk5 tk6 tk7 tk8 tk9 tk10 tk11 : Tok} {oL : Obj} {itsL : Array Value} {nL : Nat}
    (a1 : PySem.W.nsIn K mainGlobals "other_team" = some (some (.ref f1)))
    (l1 : K.lookup f1 = some ⟨oc1, od1, .func (PySem.W.fnOf "other_team" "other_team" (defArgs sOther) (defBody sOther) (defScope sOther) .none kV1 dc1 pm1 an1 cd1 ct1), sl1⟩) (c1 : PySem.W.codeIn K cd1 "other_team" = true) (k1 : PySem.W.keepIn K (.ref f1) = true)
    (a2 : PySem.W.nsIn K mainGlobals "is_within_five" = some (some (.ref f2)))
    (l2 : K.lookup f2 = some ⟨oc2, od2, .func (PySem.W.fnOf "is_within_five" "is_within_five" (defArgs sWithin) (defBody sWithin) (defScope sWithin) .none kV2 dc2 pm2 an2 cd2 ct2), sl2⟩) (c2 : PySem.W.codeIn K cd2 "is_within_five" = true) (k2 : PySem.W.keepIn K (.ref f2) = true)
    (a3 : PySem.W.nsIn K mainGlobals "bound_of" = some (some (.ref f3)))
    (l3 : K.lookup f3 = some ⟨oc3, od3, .func (PySem.W.fnOf "bound_of" "bound_of" (defArgs sBound) (defBody sBound) (defScope sBound) .none kV3 dc3 pm3 an3 cd3 ct3), sl3⟩) (c3 : PySem.W.codeIn K cd3 "bound_of" = true) (k3 : PySem.W.keepIn K (.ref f3) = true)
    (a4 : PySem.W.nsIn K mainGlobals "left_to" = some (some (.ref f4)))
    (l4 : K.lookup f4 = some ⟨oc4, od4, .func (PySem.W.fnOf "left_to" "left_to" (defArgs sLeft) (defBody sLeft) (defScope sLeft) .none kV4 dc4 pm4 an4 cd4 ct4), sl4⟩) (c4 : PySem.W.codeIn K cd4 "left_to" = true) (k4 : PySem.W.keepIn K (.ref f4) = true)
    (a5 : PySem.W.nsIn K mainGlobals "could_score" = some (some (.ref f5)))
    (l5 : K.lookup f5 = some ⟨oc5, od5, .func (PySem.W.fnOf "could_score" "could_score" (defArgs sCould) (defBody sCould) (defScope sCould) .none kV5 dc5 pm5 an5 cd5 ct5), sl5⟩) (c5 : PySem.W.codeIn K cd5 "could_score" = true) (k5 : PySem.W.keepIn K (.ref f5) = true)
    (a6 : PySem.W.nsIn K mainGlobals "is_decided_for" = some (some (.ref f6)))
    (l6 : K.lookup f6 = some ⟨oc6, od6, .func (PySem.W.fnOf "is_decided_for" "is_decided_for" (defArgs sDec) (defBody sDec) (defScope sDec) .none kV6 dc6 pm6 an6 cd6 ct6), sl6⟩) (c6 : PySem.W.codeIn K cd6 "is_decided_for" = true) (k6 : PySem.W.keepIn K (.ref f6) = true)
    (a7 : PySem.W.nsIn K mainGlobals "winner" = some (some (.ref f7)))
    (l7 : K.lookup f7 = some ⟨oc7, od7, .func (PySem.W.fnOf "winner" "winner" (defArgs sWinner) (defBody sWinner) (defScope sWinner) .none kV7 dc7 pm7 an7 cd7 ct7), sl7⟩) (c7 : PySem.W.codeIn K cd7 "winner" = true) (k7 : PySem.W.keepIn K (.ref f7) = true)
    (a8 : PySem.W.nsIn K mainGlobals "turn_of" = some (some (.ref f8)))
    (l8 : K.lookup f8 = some ⟨oc8, od8, .func (PySem.W.fnOf "turn_of" "turn_of" (defArgs sTurnOf) (defBody sTurnOf) (defScope sTurnOf) .none kV8 dc8 pm8 an8 cd8 ct8), sl8⟩) (c8 : PySem.W.codeIn K cd8 "turn_of" = true) (k8 : PySem.W.keepIn K (.ref f8) = true)
    (a9 : PySem.W.nsIn K mainGlobals "counted" = some (some (.ref f9)))
    (l9 : K.lookup f9 = some ⟨oc9, od9, .func (PySem.W.fnOf "counted" "counted" (defArgs sCounted) (defBody sCounted) (defScope sCounted) .none kV9 dc9 pm9 an9 cd9 ct9), sl9⟩) (c9 : PySem.W.codeIn K cd9 "counted" = true) (k9 : PySem.W.keepIn K (.ref f9) = true)
    (a10 : PySem.W.nsIn K mainGlobals "size_of" = some (some (.ref f10)))
    (l10 : K.lookup f10 = some ⟨oc10, od10, .func (PySem.W.fnOf "size_of" "size_of" (defArgs sSize) (defBody sSize) (defScope sSize) .none kV10 dc10 pm10 an10 cd10 ct10), sl10⟩) (c10 : PySem.W.codeIn K cd10 "size_of" = true) (k10 : PySem.W.keepIn K (.ref f10) = true)
    (a11 : PySem.W.nsIn K mainGlobals "parted" = some (some (.ref f11)))
    (l11 : K.lookup f11 = some ⟨oc11, od11, .func (PySem.W.fnOf "parted" "parted" (defArgs sParted) (defBody sParted) (defScope sParted) .none kV11 dc11 pm11 an11 cd11 ct11), sl11⟩) (c11 : PySem.W.codeIn K cd11 "parted" = true) (k11 : PySem.W.keepIn K (.ref f11) = true)
    (a12 : PySem.W.nsIn K mainGlobals "answer_of" = some (some (.ref f12)))
    (l12 : K.lookup f12 = some ⟨oc12, od12, .func (PySem.W.fnOf "answer_of" "answer_of" (defArgs sAnswerOf) (defBody sAnswerOf) (defScope sAnswerOf) .none kV12 dc12 pm12 an12 cd12 ct12), sl12⟩) (c12 : PySem.W.codeIn K cd12 "answer_of" = true) (k12 : PySem.W.keepIn K (.ref f12) = true)
    (a13 : PySem.W.nsIn K mainGlobals "answers" = some (some (.ref f13)))
    (l13 : K.lookup f13 = some ⟨oc13, od13, .func (PySem.W.fnOf "answers" "answers" (defArgs sAnswers) (defBody sAnswers) (defScope sAnswers) .none kV13 dc13 pm13 an13 cd13 ct13), sl13⟩) (c13 : PySem.W.codeIn K cd13 "answers" = true) (k13 : PySem.W.keepIn K (.ref f13) = true)
    (a14 : PySem.W.findIn K (.ref C) "__init__" = some (some (.ref f14))) (i14 : PySem.W.isFn K (.ref f14) = true)
    (l14 : K.lookup f14 = some ⟨oc14, od14, .func (PySem.W.fnOf "__init__" "Match.__init__" (defArgs sInit) (defBody sInit) (defScope sInit) .none kV14 dc14 pm14 an14 cd14 ct14), sl14⟩) (c14 : PySem.W.codeIn K cd14 "Match.__init__" = true) (k14 : PySem.W.keepIn K (.ref f14) = true)
    (a15 : PySem.W.findIn K (.ref C) "begin" = some (some (.ref f15))) (i15 : PySem.W.isFn K (.ref f15) = true)
    (l15 : K.lookup f15 = some ⟨oc15, od15, .func (PySem.W.fnOf "begin" "Match.begin" (defArgs sBegin) (defBody sBegin) (defScope sBegin) .none kV15 dc15 pm15 an15 cd15 ct15), sl15⟩) (c15 : PySem.W.codeIn K cd15 "Match.begin" = true) (k15 : PySem.W.keepIn K (.ref f15) = true)
    (a16 : PySem.W.findIn K (.ref C) "won" = some (some (.ref f16))) (i16 : PySem.W.isFn K (.ref f16) = true)
    (l16 : K.lookup f16 = some ⟨oc16, od16, .func (PySem.W.fnOf "won" "Match.won" (defArgs sWon) (defBody sWon) (defScope sWon) .none kV16 dc16 pm16 an16 cd16 ct16), sl16⟩) (c16 : PySem.W.codeIn K cd16 "Match.won" = true) (k16 : PySem.W.keepIn K (.ref f16) = true)
    (a17 : PySem.W.findIn K (.ref C) "turn" = some (some (.ref f17))) (i17 : PySem.W.isFn K (.ref f17) = true)
    (l17 : K.lookup f17 = some ⟨oc17, od17, .func (PySem.W.fnOf "turn" "Match.turn" (defArgs sTurn) (defBody sTurn) (defScope sTurn) .none kV17 dc17 pm17 an17 cd17 ct17), sl17⟩) (c17 : PySem.W.codeIn K cd17 "Match.turn" = true) (k17 : PySem.W.keepIn K (.ref f17) = true)
    (a18 : PySem.W.findIn K (.ref C) "kick" = some (some (.ref f18))) (i18 : PySem.W.isFn K (.ref f18) = true)
    (l18 : K.lookup f18 = some ⟨oc18, od18, .func (PySem.W.fnOf "kick" "Match.kick" (defArgs sKick) (defBody sKick) (defScope sKick) .none kV18 dc18 pm18 an18 cd18 ct18), sl18⟩) (c18 : PySem.W.codeIn K cd18 "Match.kick" = true) (k18 : PySem.W.keepIn K (.ref f18) = true)
    (a19 : PySem.W.findIn K (.ref C) "counts" = some (some (.ref f19))) (i19 : PySem.W.isFn K (.ref f19) = true)
    (l19 : K.lookup f19 = some ⟨oc19, od19, .func (PySem.W.fnOf "counts" "Match.counts" (defArgs sCounts) (defBody sCounts) (defScope sCounts) .none kV19 dc19 pm19 an19 cd19 ct19), sl19⟩) (c19 : PySem.W.codeIn K cd19 "Match.counts" = true) (k19 : PySem.W.keepIn K (.ref f19) = true)
    (v1 : PySem.W.nsIn K mainGlobals "FIVE" = some (some (.int 5 tk1)))
    (v2 : PySem.W.nsIn K mainGlobals "NOBODY" = some (some (.int 0 tk2)))
    (v3 : PySem.W.nsIn K mainGlobals "DONE" = some (some (.int 0 tk3)))
    (v4 : PySem.W.nsIn K mainGlobals "DECIDED" = some (some (.int (-11) tk4)))
    (v5 : PySem.W.nsIn K mainGlobals "BAD_NUMBER" = some (some (.int (-22) tk5)))
    (v6 : PySem.W.nsIn K mainGlobals "TOO_MANY" = some (some (.int (-28) tk6)))
    (v7 : PySem.W.nsIn K mainGlobals "MOST_KICKS" = some (some (.int 1000000 tk7)))
    (v8 : PySem.W.nsIn K mainGlobals "START" = some (some (.int 0 tk8)))
    (v9 : PySem.W.nsIn K mainGlobals "KICK" = some (some (.int 1 tk9)))
    (v10 : PySem.W.nsIn K mainGlobals "NEXT" = some (some (.int 2 tk10)))
    (v11 : PySem.W.nsIn K mainGlobals "SCORE" = some (some (.int 3 tk11)))
    (aC : PySem.W.nsIn K mainGlobals "Match" = some (some (.ref C))) (z1 : PySem.W.nsIn K mainGlobals "len" = some none) (z2 : PySem.W.nsIn K mainGlobals "max" = some none)
    (gL : PySem.W.nsIn K mainGlobals "LONGER" = some (some (.ref aL))) (lL : K.lookup aL = some oL) (tL : oL.cls = .type "tuple") (dL : oL.data = .seq itsL nL) (sL : itsL.size ≤ sizeLine) (vL : Vals [.int 0, .int 1, .int 3] itsL.toList)
    (pg : PySem.W.plainGet K C Str.empty = true) (hd : PySem.W.hasDictIn K C = true) (po : PySem.W.plainOver K C = true) (sa : PySem.W.findIn K (.ref C) "__setattr__" = some (some (.builtin "object.__setattr__"))) (mk : PySem.W.makesIn K C = true) (kc : PySem.W.keepIn K (.ref C) = true)
    (nF : PySem.W.findIn K (.ref C) "first" = some none) (nK : PySem.W.findIn K (.ref C) "kicked" = some none) (nS : PySem.W.findIn K (.ref C) "scored" = some none) :
    ∃ fd : FuncData, (∀ (s : Shared) (us : List Value), us.length = (["calls"] : List Str).length → BindsTo s fd ⟨us, []⟩ ((["calls"] : List Str).zip us)) ∧ ∀ base : Heap, K.In base → base.Ns mainGlobals mg → FnOk P w K mg base CX0 11 fa fd ["calls"] (spAnswers K) := by
  have e := hfa.symm.trans (PySem.W.mg_of X G a13)
  cases e
  have T : Cla K C := ⟨⟨pg, hd, po, sa⟩, nF, nK, nS⟩
  have F1 := fun_mk (st := sOther) l1 c1 k1
  have b1 := F1.binds (ps := ["team"]) fun _ _ _ _ _ _ us hl => match us, hl with | [_], _ => rfl
  have Z1 := here_mk (ps := ["team"]) F1 (PySem.W.mg_of X G a1) b1
  have F2 := fun_mk (st := sWithin) l2 c2 k2
  have b2 := F2.binds (ps := ["kicked"]) fun _ _ _ _ _ _ us hl => match us, hl with | [_], _ => rfl
  have Z2 := here_mk (ps := ["kicked"]) F2 (PySem.W.mg_of X G a2) b2
  have F3 := fun_mk (st := sBound) l3 c3 k3
  have b3 := F3.binds (ps := ["kicked", "team"]) fun _ _ _ _ _ _ us hl => match us, hl with | [_, _], _ => rfl
  have Z3 := here_mk (ps := ["kicked", "team"]) F3 (PySem.W.mg_of X G a3) b3
  have F4 := fun_mk (st := sLeft) l4 c4 k4
  have b4 := F4.binds (ps := ["kicked", "team"]) fun _ _ _ _ _ _ us hl => match us, hl with | [_, _], _ => rfl
  have Z4 := here_mk (ps := ["kicked", "team"]) F4 (PySem.W.mg_of X G a4) b4
  have F5 := fun_mk (st := sCould) l5 c5 k5
  have b5 := F5.binds (ps := ["kicked", "scored", "team"]) fun _ _ _ _ _ _ us hl => match us, hl with | [_, _, _], _ => rfl
  have Z5 := here_mk (ps := ["kicked", "scored", "team"]) F5 (PySem.W.mg_of X G a5) b5
  have F6 := fun_mk (st := sDec) l6 c6 k6
  have b6 := F6.binds (ps := ["kicked", "scored", "team"]) fun _ _ _ _ _ _ us hl => match us, hl with | [_, _, _], _ => rfl
  have Z6 := here_mk (ps := ["kicked", "scored", "team"]) F6 (PySem.W.mg_of X G a6) b6
  have F7 := fun_mk (st := sWinner) l7 c7 k7
  have b7 := F7.binds (ps := ["kicked", "scored"]) fun _ _ _ _ _ _ us hl => match us, hl with | [_, _], _ => rfl
  have Z7 := here_mk (ps := ["kicked", "scored"]) F7 (PySem.W.mg_of X G a7) b7
  have F8 := fun_mk (st := sTurnOf) l8 c8 k8
  have b8 := F8.binds (ps := ["first", "kicked"]) fun _ _ _ _ _ _ us hl => match us, hl with | [_, _], _ => rfl
  have Z8 := here_mk (ps := ["first", "kicked"]) F8 (PySem.W.mg_of X G a8) b8
  have F9 := fun_mk (st := sCounted) l9 c9 k9
  have b9 := F9.binds (ps := ["pair", "team", "more"]) fun _ _ _ _ _ _ us hl => match us, hl with | [_, _, _], _ => rfl
  have Z9 := here_mk (ps := ["pair", "team", "more"]) F9 (PySem.W.mg_of X G a9) b9
  have F10 := fun_mk (st := sSize) l10 c10 k10
  have b10 := F10.binds (ps := ["word"]) fun _ _ _ _ _ _ us hl => match us, hl with | [_], _ => rfl
  have Z10 := here_mk (ps := ["word"]) F10 (PySem.W.mg_of X G a10) b10
  have F11 := fun_mk (st := sParted) l11 c11 k11
  have b11 := F11.binds (ps := ["calls"]) fun _ _ _ _ _ _ us hl => match us, hl with | [_], _ => rfl
  have Z11 := here_mk (ps := ["calls"]) F11 (PySem.W.mg_of X G a11) b11
  have F12 := fun_mk (st := sAnswerOf) l12 c12 k12
  have b12 := F12.binds (ps := ["match", "call"]) fun _ _ _ _ _ _ us hl => match us, hl with | [_, _], _ => rfl
  have Z12 := here_mk (ps := ["match", "call"]) F12 (PySem.W.mg_of X G a12) b12
  have F13 := fun_mk (st := sAnswers) l13 c13 k13
  have b13 := F13.binds (ps := ["calls"]) fun _ _ _ _ _ _ us hl => match us, hl with | [_], _ => rfl
  have Z13 := here_mk (ps := ["calls"]) F13 (PySem.W.mg_of X G a13) b13
  have F14 := fun_mk (st := sInit) l14 c14 k14
  have b14 := F14.binds (ps := ["self"]) fun _ _ _ _ _ _ us hl => match us, hl with | [_], _ => rfl
  have MK : Mk K C f14 := ⟨mk, a14, i14, kc⟩
  have F15 := fun_mk (st := sBegin) l15 c15 k15
  have b15 := F15.binds (ps := ["self", "first"]) fun _ _ _ _ _ _ us hl => match us, hl with | [_, _], _ => rfl
  have Z15 := hereM_mk (ps := ["self", "first"]) F15 ⟨a15, i15, k15⟩ b15
  have F16 := fun_mk (st := sWon) l16 c16 k16
  have b16 := F16.binds (ps := ["self"]) fun _ _ _ _ _ _ us hl => match us, hl with | [_], _ => rfl
  have Z16 := hereM_mk (ps := ["self"]) F16 ⟨a16, i16, k16⟩ b16
  have F17 := fun_mk (st := sTurn) l17 c17 k17
  have b17 := F17.binds (ps := ["self"]) fun _ _ _ _ _ _ us hl => match us, hl with | [_], _ => rfl
  have Z17 := hereM_mk (ps := ["self"]) F17 ⟨a17, i17, k17⟩ b17
  have F18 := fun_mk (st := sKick) l18 c18 k18
  have b18 := F18.binds (ps := ["self", "hit"]) fun _ _ _ _ _ _ us hl => match us, hl with | [_, _], _ => rfl
  have Z18 := hereM_mk (ps := ["self", "hit"]) F18 ⟨a18, i18, k18⟩ b18
  have F19 := fun_mk (st := sCounts) l19 c19 k19
  have b19 := F19.binds (ps := ["self", "team"]) fun _ _ _ _ _ _ us hl => match us, hl with | [_, _], _ => rfl
  have Z19 := hereM_mk (ps := ["self", "team"]) F19 ⟨a19, i19, k19⟩ b19
  have n1 : Num mg "FIVE" 5 := ⟨_, PySem.W.mg_of X G v1⟩
  have n2 : Num mg "NOBODY" 0 := ⟨_, PySem.W.mg_of X G v2⟩
  have n3 : Num mg "DONE" 0 := ⟨_, PySem.W.mg_of X G v3⟩
  have n4 : Num mg "DECIDED" (-11) := ⟨_, PySem.W.mg_of X G v4⟩
  have n5 : Num mg "BAD_NUMBER" (-22) := ⟨_, PySem.W.mg_of X G v5⟩
  have n6 : Num mg "TOO_MANY" (-28) := ⟨_, PySem.W.mg_of X G v6⟩
  have n7 : Num mg "MOST_KICKS" 1000000 := ⟨_, PySem.W.mg_of X G v7⟩
  have n8 : Num mg "START" 0 := ⟨_, PySem.W.mg_of X G v8⟩
  have n9 : Num mg "KICK" 1 := ⟨_, PySem.W.mg_of X G v9⟩
  have n10 : Num mg "NEXT" 2 := ⟨_, PySem.W.mg_of X G v10⟩
  have n11 : Num mg "SCORE" 3 := ⟨_, PySem.W.mg_of X G v11⟩
  have ml := PySem.W.mg_none_of X G z1
  have mx := PySem.W.mg_none_of X G z2
  have LG : Longer K mg := ⟨aL, PySem.W.mg_of X G gL, fun _ => .inr ⟨oL, itsL, nL, lL, tL, dL, sL, vL⟩⟩
  refine ⟨PySem.W.fnOf "answers" "answers" (defArgs sAnswers) (defBody sAnswers) (defScope sAnswers) .none kV13 dc13 pm13 an13 cd13 ct13, fun s us hu => match us, hu with | [_], _ => .of_eq rfl, fun base _ _ => ?_⟩
  have dOther : Df P w K mg base "other_team" 1 ["team"] spOther := ok_other Z1
  have dWithin := ok_within (P := P) (w := w) (base := base) Z2 n1
  have dBound := ok_bound Z3 n1 dWithin dOther
  have dLeft := ok_left Z4 mx dBound
  have dCould := ok_could Z5 dLeft
  have dDec := ok_dec Z6 dCould dOther
  have dWinner := ok_winner Z7 n2 dDec
  have dTurnOf := ok_turnOf Z8 dOther
  have dCounted := ok_counted (P := P) (w := w) (base := base) Z9
  have dBegin := ok_begin (P := P) (w := w) (base := base) Z15 T n5 n3
  have dWon := ok_won Z16 T dWinner
  have dTurn := ok_turn Z17 T n2 n4 dWon dTurnOf
  have dKick := ok_kick Z18 T n5 n4 n7 n6 dTurn dCounted dWon
  have dCounts := ok_counts (P := P) (w := w) (base := base) Z19 T n5
  have dSize := ok_size (P := P) (w := w) (base := base) Z10 LG
  have dParted := ok_parted Z11 ml dSize
  have dAnswerOf := ok_answerOf Z12 T n8 n9 n10 n11 dBegin dKick dTurn dCounts dWon
  exact ok_answersF F13 (PySem.W.mg_of X G aC) ml MK (ok_init F14 T) b14 dParted dAnswerOf
end Fk
open PySem PySem.W PyProof.Rows
set_option maxRecDepth 100000 in
set_option maxHeartbeats 0 in
theorem PySem.Challenge.cw_fivekicks_s01_answers_holds : PySem.Challenge.rw_fivekicks_s01_answers.Holds := by
  w_on; k_headS; (case hw => exact ⟨[.list [.int 0, .int 0]], by decide +kernel, by decide +kernel⟩)
  k_fillS
  refine L2.walk_specK (r := PySem.Challenge.rw_fivekicks_s01_answers) (k := 11) (CX := L2.CX0) (ps := ["calls"]) (sp := Fk.spAnswers) (by decide +kernel) rfl rfl ⟨rfl, by decide, by decide⟩ (fun w h Y => PySem.W.kIn_of Y) ?F ?S (fun _ _ _ _ z => z)
  case F =>
    intro w mg fa h Y KX G hmg
    refine' Fk.all_mk KX G hmg ?a1 ?l1 ?c1 ?k1 ?a2 ?l2 ?c2 ?k2 ?a3 ?l3 ?c3 ?k3 ?a4 ?l4 ?c4 ?k4 ?a5 ?l5 ?c5 ?k5 ?a6 ?l6 ?c6 ?k6 ?a7 ?l7 ?c7 ?k7 ?a8 ?l8 ?c8 ?k8 ?a9 ?l9 ?c9 ?k9 ?a10 ?l10 ?c10 ?k10 ?a11 ?l11 ?c11 ?k11 ?a12 ?l12 ?c12 ?k12 ?a13 ?l13 ?c13 ?k13 ?a14 ?i14 ?l14 ?c14 ?k14 ?a15 ?i15 ?l15 ?c15 ?k15 ?a16 ?i16 ?l16 ?c16 ?k16 ?a17 ?i17 ?l17 ?c17 ?k17 ?a18 ?i18 ?l18 ?c18 ?k18 ?a19 ?i19 ?l19 ?c19 ?k19 ?v1 ?v2 ?v3 ?v4 ?v5 ?v6 ?v7 ?v8 ?v9 ?v10 ?v11 ?aC ?z1 ?z2 ?gL ?lL ?tL ?dL ?sL ?vL ?pg ?hd ?po ?sa ?mk ?kc ?nF ?nK ?nS
    (case aC => k_is); (case a1 => k_is); (case l1 => k_is); (case c1 => k_is); (case k1 => k_is); (case a2 => k_is); (case l2 => k_is); (case c2 => k_is); (case k2 => k_is); (case a3 => k_is); (case l3 => k_is); (case c3 => k_is); (case k3 => k_is); (case a4 => k_is); (case l4 => k_is); (case c4 => k_is); (case k4 => k_is); (case a5 => k_is); (case l5 => k_is); (case c5 => k_is); (case k5 => k_is); (case a6 => k_is); (case l6 => k_is); (case c6 => k_is); (case k6 => k_is); (case a7 => k_is); (case l7 => k_is); (case c7 => k_is); (case k7 => k_is); (case a8 => k_is); (case l8 => k_is); (case c8 => k_is); (case k8 => k_is); (case a9 => k_is); (case l9 => k_is); (case c9 => k_is); (case k9 => k_is); (case a10 => k_is); (case l10 => k_is); (case c10 => k_is); (case k10 => k_is); (case a11 => k_is); (case l11 => k_is); (case c11 => k_is); (case k11 => k_is); (case a12 => k_is); (case l12 => k_is); (case c12 => k_is); (case k12 => k_is); (case a13 => k_is); (case l13 => k_is); (case c13 => k_is); (case k13 => k_is); (case a14 => k_is); (case i14 => k_is); (case l14 => k_is); (case c14 => k_is); (case k14 => k_is); (case a15 => k_is); (case i15 => k_is); (case l15 => k_is); (case c15 => k_is); (case k15 => k_is); (case a16 => k_is); (case i16 => k_is); (case l16 => k_is); (case c16 => k_is); (case k16 => k_is); (case a17 => k_is); (case i17 => k_is); (case l17 => k_is); (case c17 => k_is); (case k17 => k_is); (case a18 => k_is); (case i18 => k_is); (case l18 => k_is); (case c18 => k_is); (case k18 => k_is); (case a19 => k_is); (case i19 => k_is); (case l19 => k_is); (case c19 => k_is); (case k19 => k_is); (case v1 => k_is); (case v2 => k_is); (case v3 => k_is); (case v4 => k_is); (case v5 => k_is); (case v6 => k_is); (case v7 => k_is); (case v8 => k_is); (case v9 => k_is); (case v10 => k_is); (case v11 => k_is); (case z1 => k_is); (case z2 => k_is); (case gL => k_is); (case lL => k_is)
    (case tL => rfl); (case dL => rfl); (case sL => decide); (case vL => exact .cons ⟨_, rfl⟩ (.cons ⟨_, rfl⟩ (.cons ⟨_, rfl⟩ .nil)))
    (case pg => k_is); (case hd => k_is); (case po => k_is); (case sa => k_is); (case mk => k_is); (case kc => k_is); (case nF => k_is); (case nK => k_is); (case nS => k_is)
  case S =>
    intro K H xs a hO hwi hask hx
    cases hx with
    | cons h1 h2 =>
      cases h2
      cases h1 with
      | lst hs ha =>
        have e := L2.ints_dw a.1 _ ha
        subst e
        have q : ((Codec.inLen 0 8000 a.1 && a.1.all (Codec.inInt 0 4294967295)) && true) = true := hwi
        rw [Bool.and_eq_true, Bool.and_eq_true] at q
        obtain ⟨e1, e2, e3⟩ := Fk.law (l := a.1) hask
        refine ⟨_, a.1, rfl, hs, (Codec.inNat_iff.mp q.1.1).2, e2, e3, fun H' p hp => ?_⟩
        rw [← e1] at hp
        exact .lst (L2.SqL.of hp) (L2.dw_ints _)
#print axioms PySem.Challenge.cw_fivekicks_s01_answers_holds
