import PyProof.Rows.All
import Wide.All
import OpenK.AllK
import Wide.FinOn
import Open.SpecLaws
import KE.OsGo
import HandS.ForSpec
import HandS.Comp
import HandS.Evl
import HandS.NoneIn
import HandS.CallLocal
import PySem.Challenge.RW_curlingmatch_s01_answers
set_option Elab.async false
set_option linter.all false
set_option maxRecDepth 100000
set_option maxHeartbeats 4000000
namespace Cm
open Kg65 (Stone Game)

/-! ### stones as the program has them -/
structure P3 where
  n : Int
  x : Int
  y : Int
  deriving DecidableEq
def ofS (s : Stone) : P3 := ⟨(s.number : Int), s.x, s.y⟩
def far (p : P3) : Int := p.x * p.x + p.y * p.y
def inPlay (p : P3) : Bool := (decide (-2230 ≤ p.x) && decide (p.x ≤ 2230)) && (decide (-1974 ≤ p.y) && decide (p.y ≤ 6256))
def inHouse (p : P3) : Bool := decide (far p ≤ 1974 * 1974)
def guard (p : P3) : Bool := decide (0 < p.y) && !inHouse p
def onMid (p : P3) : Bool := decide (-145 ≤ p.x) && decide (p.x ≤ 145)
def clear (a b : P3) : Bool := decide (288 * 288 ≤ (a.x - b.x) * (a.x - b.x) + (a.y - b.y) * (a.y - b.y))
def isTold (p : P3) : Bool := (decide (0 ≤ p.n) && decide (p.n < 16)) && ((decide (-10000 ≤ p.x) && decide (p.x ≤ 10000)) && (decide (-10000 ≤ p.y) && decide (p.y ≤ 10000)))
def stonesOf (l : List Int) : List P3 := (List.range (l.length / 3)).map fun k => ⟨l.getD (3 * k) 0, l.getD (3 * k + 1) 0, l.getD (3 * k + 2) 0⟩
def dist (ps : List P3) (odd : Int) : List Int := (ps.filter fun p => decide (p.n % 2 = odd) && inHouse p).map far
def nearer (a b : List Int) : Nat := (a.filter fun x => b.all fun y => decide (x < y)).length
def find (ps : List P3) (n : Int) : Option P3 := ps.find? fun p => decide (p.n = n)
def wronged (g : P3) (ps : List P3) : Bool := match find ps g.n with
  | none => true
  | some t => onMid g && !onMid t
def breaks (ps ahead : List P3) (d : Int) : Bool := if 5 ≤ d then false else ahead.any fun p => !decide (p.n % 2 = d % 2) && (guard p && wronged p ps)
def unlike (ps : List P3) : Bool := decide (ps.map (·.n)).Nodup
def clearB : List P3 → Bool
  | [] => true
  | s :: l => l.all (fun t => clear s t) && clearB l
def canLie (ps ahead : List P3) (d : Int) : Bool :=
  if unlike ps = true ∧ (ps.all fun p => decide (p.n ∈ ahead.map (·.n) ++ [d])) = true then ps.all inPlay && clearB ps else false
def told3 (l : List Int) : Bool := decide (l.length % 3 = 0) && (stonesOf l).all isTold

theorem clear_symm (a b : P3) : clear a b = clear b a := by
  have e : (a.x - b.x) * (a.x - b.x) + (a.y - b.y) * (a.y - b.y) = (b.x - a.x) * (b.x - a.x) + (b.y - a.y) * (b.y - a.y) := by
    have h1 : a.x - b.x = -(b.x - a.x) := by omega
    have h2 : a.y - b.y = -(b.y - a.y) := by omega
    rw [h1, h2, Int.neg_mul_neg, Int.neg_mul_neg]
  unfold clear
  rw [e]
theorem clearB_iff : ∀ l : List P3, clearB l = true ↔ l.Pairwise (fun a b => clear a b = true)
  | [] => by simp [clearB]
  | s :: l => by simp [clearB, clearB_iff l]

/-! ### the same in the specification's words -/
theorem inPlay_of (s : Stone) : inPlay (ofS s) = s.inPlay := by
  simp only [inPlay, ofS, Stone.inPlay, Kg65.SIDE, Kg65.BEHIND, Kg65.UP, Bool.and_assoc]
  rfl
theorem far_of (s : Stone) : far (ofS s) = s.far := rfl
theorem inHouse_of (s : Stone) : inHouse (ofS s) = s.inHouse := rfl
theorem guard_of (s : Stone) : guard (ofS s) = s.guard := rfl
theorem onMid_of (s : Stone) : onMid (ofS s) = s.central := rfl
theorem clear_of (a b : Stone) : clear (ofS a) (ofS b) = Kg65.clear a b := rfl
theorem clearB_of : ∀ l : List Stone, clearB (l.map ofS) = Kg65.allClear l
  | [] => rfl
  | s :: l => by
    show ((l.map ofS).all (fun t => clear (ofS s) t) && clearB (l.map ofS)) = (l.all (Kg65.clear s) && Kg65.allClear l)
    rw [clearB_of l, List.all_map]
    rfl
theorem unlike_of (l : List Stone) : unlike (l.map ofS) = decide (l.map Stone.number).Nodup := by
  unfold unlike
  rw [List.map_map]
  have e : ((fun p : P3 => p.n) ∘ ofS) = (fun s : Stone => (s.number : Int)) := rfl
  rw [e]
  have h : ∀ l : List Stone, (l.map fun s => (s.number : Int)).Nodup ↔ (l.map Stone.number).Nodup := by
    intro l
    induction l with
    | nil => simp
    | cons a r ih =>
      simp only [List.map_cons, List.nodup_cons, ih, List.mem_map]
      constructor
      · rintro ⟨h1, h2⟩
        refine ⟨?_, h2⟩
        rintro ⟨b, hb, e⟩
        exact h1 ⟨b, hb, by rw [e]⟩
      · rintro ⟨h1, h2⟩
        refine ⟨?_, h2⟩
        rintro ⟨b, hb, e⟩
        exact h1 ⟨b, hb, by omega⟩
  rw [decide_eq_decide]
  exact h l

/-- what a line of stones says -/
theorem stonesOf_nil : stonesOf [] = [] := rfl
theorem stonesOf_cons (n x y : Int) (l : List Int) : stonesOf (n :: x :: y :: l) = ⟨n, x, y⟩ :: stonesOf l := by
  have e : (n :: x :: y :: l).length / 3 = l.length / 3 + 1 := by
    simp only [List.length_cons]
    omega
  unfold stonesOf
  rw [e, List.range_succ_eq_map, List.map_cons, List.map_map]
  congr 1
theorem isTold_iff (n x y : Int) : isTold ⟨n, x, y⟩ = (Kg65.within n 0 15 && (Kg65.within x (-10000) 10000 && Kg65.within y (-10000) 10000)) := by
  have e : decide (n < 16) = decide (n ≤ 15) := by
    rw [decide_eq_decide]
    omega
  simp only [isTold, Kg65.within, e]
theorem spec_stones : ∀ l : List Int, (told3 l = false → Kg65.stonesOf l = none) ∧ (told3 l = true → ∃ now, Kg65.stonesOf l = some now ∧ stonesOf l = now.map ofS)
  | [] => ⟨fun h => by simp [told3, stonesOf] at h, fun _ => ⟨[], rfl, rfl⟩⟩
  | [n] => ⟨fun _ => rfl, fun h => by simp [told3] at h⟩
  | [n, x] => ⟨fun _ => rfl, fun h => by simp [told3] at h⟩
  | n :: x :: y :: l => by
    obtain ⟨h0, h1⟩ := spec_stones l
    have hl : decide ((n :: x :: y :: l).length % 3 = 0) = decide (l.length % 3 = 0) := by
      rw [decide_eq_decide]
      simp only [List.length_cons]
      omega
    have e : told3 (n :: x :: y :: l) = (isTold ⟨n, x, y⟩ && told3 l) := by
      unfold told3
      rw [hl, stonesOf_cons, List.all_cons]
      cases isTold ⟨n, x, y⟩ <;> simp
    have es : Kg65.stonesOf (n :: x :: y :: l) = if isTold ⟨n, x, y⟩ = true then (Kg65.stonesOf l).map fun r => ⟨n.toNat, x, y⟩ :: r else none := by
      rw [isTold_iff]
      rfl
    rw [e, es]
    cases ht : isTold ⟨n, x, y⟩ with
    | false => simp
    | true =>
      simp only [Bool.true_and, if_true]
      refine ⟨fun h => by rw [h0 h]; rfl, fun h => ?_⟩
      obtain ⟨now, e1, e2⟩ := h1 h
      refine ⟨⟨n.toNat, x, y⟩ :: now, by rw [e1]; rfl, ?_⟩
      rw [stonesOf_cons, e2, List.map_cons]
      have : (n.toNat : Int) = n := by
        have : 0 ≤ n := by
          simp only [isTold, Bool.and_eq_true, decide_eq_true_eq] at ht
          exact ht.1.1
        omega
      simp only [ofS, this]
theorem spec_stones_ok : ∀ (l : List Int) (now : List Stone), Kg65.stonesOf l = some now → now.length ≤ l.length ∧ ∀ s ∈ now, s.number ≤ 15 ∧ -10000 ≤ s.x ∧ s.x ≤ 10000 ∧ -10000 ≤ s.y ∧ s.y ≤ 10000
  | [], now, h => by
    cases h
    simp
  | [n], now, h => by cases h
  | [n, x], now, h => by cases h
  | n :: x :: y :: l, now, h => by
    have es : Kg65.stonesOf (n :: x :: y :: l) = if isTold ⟨n, x, y⟩ = true then (Kg65.stonesOf l).map fun r => ⟨n.toNat, x, y⟩ :: r else none := by
      rw [isTold_iff]
      rfl
    rw [es] at h
    cases ht : isTold ⟨n, x, y⟩ with
    | false => rw [ht] at h; cases h
    | true =>
      rw [ht, if_pos rfl] at h
      cases hq : Kg65.stonesOf l with
      | none => rw [hq] at h; cases h
      | some r =>
        rw [hq] at h
        have h : (⟨n.toNat, x, y⟩ :: r : List Stone) = now := Option.some.inj h
        subst h
        obtain ⟨i1, i2⟩ := spec_stones_ok l r hq
        refine ⟨by simp only [List.length_cons]; omega, fun s hs => ?_⟩
        rcases List.mem_cons.mp hs with rfl | hs
        · simp only [isTold, Bool.and_eq_true, decide_eq_true_eq] at ht
          exact ⟨by show n.toNat ≤ 15; omega, ht.2.1.1, ht.2.1.2, ht.2.2.1, ht.2.2.2⟩
        · exact i2 s hs

/-! ### what an end counts -/
theorem parity (k : Nat) (i : Nat) : decide (((k : Nat) : Int) % 2 = (i : Int)) = decide (k % 2 = i) := by
  rw [decide_eq_decide]
  omega
theorem side_h {G : Game} (hh : G.hammer ≤ 1) (k : Nat) : (G.sideOf k == G.hammer) = decide ((k : Int) % 2 = 1) := by
  have e : (G.sideOf k == G.hammer) = decide (G.sideOf k = G.hammer) := by rw [Bool.beq_eq_decide_eq]
  rw [e, decide_eq_decide]
  unfold Game.sideOf
  split <;> omega
theorem side_o {G : Game} (hh : G.hammer ≤ 1) (k : Nat) : (G.sideOf k == 1 - G.hammer) = decide ((k : Int) % 2 = 0) := by
  have e : (G.sideOf k == 1 - G.hammer) = decide (G.sideOf k = 1 - G.hammer) := by rw [Bool.beq_eq_decide_eq]
  rw [e, decide_eq_decide]
  unfold Game.sideOf
  split <;> omega
def mn (m : Option Int) (d : Int) : Option Int := match m with
  | none => some d
  | some n => some (min n d)
theorem mn_some (a : Int) : ∀ (l : List Int) (m : Int), (match l.foldl mn (some m) with | none => true | some d => decide (a < d)) = (decide (a < m) && l.all fun y => decide (a < y))
  | [], m => by simp
  | x :: r, m => by
    show (match r.foldl mn (some (min m x)) with | none => true | some d => decide (a < d)) = _
    rw [mn_some a r (min m x), List.all_cons, ← Bool.and_assoc]
    congr 1
    rw [← Bool.decide_and, decide_eq_decide]
    omega
theorem mn_none (a : Int) : ∀ (l : List Int), (match l.foldl mn none with | none => true | some d => decide (a < d)) = l.all fun y => decide (a < y)
  | [] => rfl
  | x :: r => by
    show (match r.foldl mn (some x) with | none => true | some d => decide (a < d)) = _
    rw [mn_some a r x, List.all_cons]
def ltOpt (a : Int) (m : Option Int) : Bool := match m with
  | none => true
  | some d => decide (a < d)
theorem ltOpt_eq (a : Int) (l : List Int) : ltOpt a (l.foldl mn none) = l.all fun y => decide (a < y) := mn_none a l
theorem fold_mn : ∀ (l : List Int) (m : Option Int), l.foldl (fun (m : Option Int) d => match m with | none => some d | some n => some (min n d)) m = l.foldl mn m := fun _ _ => rfl
theorem counts_gen (G : Game) (a b : Nat) (oa ob : Int) (ha : ∀ k : Nat, (G.sideOf k == a) = decide ((k : Int) % 2 = oa)) (hb : ∀ k : Nat, (G.sideOf k == b) = decide ((k : Int) % 2 = ob)) (e : 1 - a = b) :
    G.counts a = nearer (dist (G.stones.map ofS) oa) (dist (G.stones.map ofS) ob) := by
  have hd : ∀ (c : Nat) (o : Int), (∀ k : Nat, (G.sideOf k == c) = decide ((k : Int) % 2 = o)) → (G.stones.filter fun s => G.sideOf s.number == c && s.inHouse).map Stone.far = dist (G.stones.map ofS) o := by
    intro c o h
    unfold dist
    rw [List.filter_map, List.map_map]
    have e1 : ((fun p : P3 => decide (p.n % 2 = o) && inHouse p) ∘ ofS) = fun s : Stone => G.sideOf s.number == c && s.inHouse := by
      funext s
      show (decide ((s.number : Int) % 2 = o) && inHouse (ofS s)) = _
      rw [h s.number, inHouse_of]
    rw [e1]
    rfl
  unfold Game.counts nearer
  rw [← hd a oa ha, List.filter_map, List.length_map, List.filter_filter]
  congr 1
  apply List.filter_congr
  intro s _
  have en : G.nearest (1 - a) = (dist (G.stones.map ofS) ob).foldl mn none := by
    unfold Game.nearest
    rw [e, hd b ob hb]
    rfl
  rw [en]
  show (G.sideOf s.number == a && (s.inHouse && ltOpt s.far ((dist (G.stones.map ofS) ob).foldl mn none))) = _
  rw [ltOpt_eq]
  show (G.sideOf s.number == a && (s.inHouse && _)) = (((dist (G.stones.map ofS) ob).all fun y => decide (s.far < y)) && (G.sideOf s.number == a && s.inHouse))
  rw [← Bool.and_assoc, Bool.and_comm]
theorem counts_h {G : Game} (hh : G.hammer ≤ 1) : G.counts G.hammer = nearer (dist (G.stones.map ofS) 1) (dist (G.stones.map ofS) 0) :=
  counts_gen G _ _ 1 0 (side_h hh) (side_o hh) rfl
theorem counts_o {G : Game} (hh : G.hammer ≤ 1) : G.counts (1 - G.hammer) = nearer (dist (G.stones.map ofS) 0) (dist (G.stones.map ofS) 1) :=
  counts_gen G _ _ 0 1 (side_o hh) (side_h hh) (by omega)
theorem nearer_pos {a b : List Int} (h : 0 < nearer a b) : nearer b a = 0 := by
  unfold nearer at *
  obtain ⟨x, hx⟩ := List.exists_mem_of_length_pos h
  obtain ⟨hx1, hx2⟩ := List.mem_filter.mp hx
  rw [List.length_eq_zero_iff, List.filter_eq_nil_iff]
  intro y hy hz
  have h1 := List.all_eq_true.mp hx2 y hy
  have h2 := List.all_eq_true.mp hz x hx1
  simp only [decide_eq_true_eq] at h1 h2
  omega
theorem not_both {G : Game} (hh : G.hammer ≤ 1) (h : 0 < G.counts 0) : G.counts 1 = 0 := by
  have h0 : G.hammer = 0 ∨ G.hammer = 1 := by omega
  have a := counts_h hh
  have b := counts_o hh
  rcases h0 with e | e
  · rw [e] at a b
    rw [a] at h
    rw [b]
    exact nearer_pos h
  · rw [e] at a b
    rw [b] at h
    rw [a]
    exact nearer_pos h

/-! ### an end, a match -/
def ended (G : Game) : Game := { G with scores := G.scores ++ [(G.counts 0, G.counts 1)], count := 0, stones := [], hammer := if 0 < G.counts 0 then 1 else if 0 < G.counts 1 then 0 else G.hammer }
def lastOver (G : Game) : Game := if G.total 1 < G.total 0 then { G with won := some 0 } else if G.total 0 < G.total 1 then { G with won := some 1 } else { G with timeA := G.timeA + 270, timeB := G.timeB + 270 }
theorem close_eq (G : Game) : G.close = if G.ends ≤ (ended G).scores.length then lastOver (ended G) else ended G := by
  have e : G.close = if (ended G).scores.length < (ended G).ends then ended G else if (ended G).total 0 = (ended G).total 1 then { ended G with timeA := (ended G).timeA + Kg65.EXTRA, timeB := (ended G).timeB + Kg65.EXTRA }
      else { ended G with won := some (if (ended G).total 1 < (ended G).total 0 then 0 else 1) } := rfl
  have e2 : (ended G).ends = G.ends := rfl
  rw [e, e2]
  by_cases h : (ended G).scores.length < G.ends
  · rw [if_pos h, if_neg (show ¬ G.ends ≤ (ended G).scores.length by omega)]
  · rw [if_neg h, if_pos (show G.ends ≤ (ended G).scores.length by omega)]
    unfold lastOver
    by_cases h0 : (ended G).total 0 = (ended G).total 1
    · rw [if_pos h0, if_neg (show ¬ (ended G).total 1 < (ended G).total 0 by omega), if_neg (show ¬ (ended G).total 0 < (ended G).total 1 by omega)]
      rfl
    · rw [if_neg h0]
      by_cases h1 : (ended G).total 1 < (ended G).total 0
      · rw [if_pos h1, if_pos h1]
      · rw [if_neg h1, if_neg h1, if_pos (show (ended G).total 0 < (ended G).total 1 by omega)]
theorem total_add (G : Game) (a b i : Nat) (G' : Game) (h : G'.scores = G.scores ++ [(a, b)]) : G'.total i = G.total i + if i = 0 then a else b := by
  unfold Game.total
  rw [h, List.map_append, List.sum_append]
  simp
def goesOn (G : Game) (ps : List Stone) : Game := if G.count + 1 = 16 then Game.close { G with stones := ps, count := G.count + 1 } else { G with stones := ps, count := G.count + 1 }
theorem deliver_eq (G : Game) (now : List Stone) : G.deliver now = goesOn G (if G.breaks now = true then G.stones else now) := rfl

theorem wronged_of (s : Stone) (now : List Stone) : wronged (ofS s) (now.map ofS) = (match now.find? fun t => t.number == s.number with | none => true | some t => s.central && !t.central) := by
  have e : find (now.map ofS) (ofS s).n = (now.find? fun t => t.number == s.number).map ofS := by
    unfold find
    rw [List.find?_map]
    congr 2
    funext t
    show decide (((t.number : Nat) : Int) = (s.number : Int)) = _
    rw [Bool.beq_eq_decide_eq, decide_eq_decide]
    omega
  unfold wronged
  rw [e]
  cases now.find? fun t => t.number == s.number <;> rfl
theorem breaks_of {G : Game} (hh : G.hammer ≤ 1) (now : List Stone) : breaks (now.map ofS) (G.stones.map ofS) (G.count : Int) = G.breaks now := by
  unfold breaks Game.breaks
  by_cases h5 : G.count < Kg65.FREE
  · have h5' : G.count < 5 := h5
    rw [if_neg (by omega), decide_eq_true h5, Bool.true_and, List.any_map]
    congr 1
    funext s
    show (!decide ((s.number : Int) % 2 = (G.count : Int) % 2) && (guard (ofS s) && wronged (ofS s) (now.map ofS))) = _
    rw [guard_of, wronged_of]
    congr 1
    have e : (G.sideOf s.number != G.sideOf G.count) = !decide (G.sideOf s.number = G.sideOf G.count) := by rw [bne, Bool.beq_eq_decide_eq]
    rw [e]
    congr 1
    rw [decide_eq_decide]
    unfold Game.sideOf
    split <;> split <;> omega
  · have h5' : ¬ G.count < 5 := h5
    rw [if_pos (by omega), decide_eq_false h5, Bool.false_and]
theorem all_and {α : Type} (p q : α → Bool) : ∀ l : List α, (l.all fun t => p t && q t) = (l.all p && l.all q)
  | [] => rfl
  | a :: r => by
    rw [List.all_cons, List.all_cons, List.all_cons, all_and p q r]
    cases p a <;> cases q a <;> simp
theorem canLie_of (G : Game) (now : List Stone) : canLie (now.map ofS) (G.stones.map ofS) (G.count : Int) = G.couldBe now := by
  have e1 : ((now.map ofS).all fun p => decide (p.n ∈ (G.stones.map ofS).map (·.n) ++ [(G.count : Int)])) = now.all fun t => t.number == G.count || G.stones.any fun s => s.number == t.number := by
    rw [List.all_map]
    congr 1
    funext t
    show decide ((t.number : Int) ∈ (G.stones.map ofS).map (·.n) ++ [(G.count : Int)]) = _
    rw [Bool.eq_iff_iff]
    simp only [decide_eq_true_eq, List.mem_append, List.mem_map, List.mem_singleton, Bool.or_eq_true, beq_iff_eq, List.any_eq_true]
    constructor
    · rintro (⟨_, ⟨s, hs, rfl⟩, e⟩ | e)
      · exact .inr ⟨s, hs, by have : (s.number : Int) = t.number := e; omega⟩
      · exact .inl (by omega)
    · rintro (e | ⟨s, hs, e⟩)
      · exact .inr (by omega)
      · exact .inl ⟨ofS s, ⟨s, hs, rfl⟩, by show (s.number : Int) = _; omega⟩
  have e2 : (now.map ofS).all inPlay = now.all Stone.inPlay := by
    rw [List.all_map]
    congr 1
    funext t
    exact inPlay_of t
  have e3 : (now.all fun t => t.inPlay && (t.number == G.count || G.stones.any fun s => s.number == t.number)) = (now.all Stone.inPlay && now.all fun t => t.number == G.count || G.stones.any fun s => s.number == t.number) := all_and _ _ now
  unfold canLie Game.couldBe
  rw [e1, e2, e3, unlike_of, clearB_of]
  generalize decide (List.map Stone.number now).Nodup = b1
  generalize (now.all fun t => t.number == G.count || G.stones.any fun s => s.number == t.number) = b2
  generalize now.all Stone.inPlay = b3
  generalize Kg65.allClear now = b4
  revert b1 b2 b3 b4
  decide
end Cm
namespace Cm
open Kg65 (Stone Game Call)

def num : Call → Int
  | .begin_ _ _ _ => 1
  | .deliver _ => 2
  | .time _ _ => 3
  | .give _ => 4
  | .now => 5
  | .stones => 6
  | .scores => 7
  | .shot => 8
def words : Call → List Int
  | .begin_ e h t => [e, h, t]
  | .deliver l => l
  | .time s t => [s, t]
  | .give s => [s]
  | _ => []
def flat (k : Call) : List Int := match k with
  | .deliver l => 2 :: (l.length : Int) :: l
  | k => num k :: words k
/-- where the words of a call begin -/
def ahead (k : Call) : Nat := match k with
  | .deliver _ => 2
  | _ => 1
def okc (k : Call) : Prop := match k with
  | .deliver l => l.length ≤ 60
  | _ => True
def tellOf (x : Kg65.Ans) : List Int := x.value :: x.out
def run : Kg65.State → List Call → List Int
  | _, [] => []
  | s, k :: r => ((tellOf (Kg65.spec s k).2).length : Int) :: tellOf (Kg65.spec s k).2 ++ run (Kg65.spec s k).1 r
def after : Kg65.State → List Call → Kg65.State
  | s, [] => s
  | s, k :: r => after (Kg65.spec s k).1 r
theorem run_append : ∀ (a b : List Call) (s : Kg65.State), run s (a ++ b) = run s a ++ run (after s a) b
  | [], b, s => rfl
  | k :: a, b, s => by
    show _ :: tellOf _ ++ run _ (a ++ b) = (_ :: tellOf _ ++ run _ a) ++ run (after _ a) b
    rw [run_append a b]
    simp
theorem after_append : ∀ (a b : List Call) (s : Kg65.State), after s (a ++ b) = after (after s a) b
  | [], b, s => rfl
  | k :: a, b, s => after_append a b _
theorem flat_words (k : Call) : (flat k).drop (ahead k) = words k := by
  cases k <;> rfl
theorem flat_len (k : Call) : (flat k).length = ahead k + (words k).length := by
  cases k <;> simp [flat, ahead, words] <;> omega
theorem flat_head (k : Call) : (flat k)[0]? = some (num k) := by
  cases k <;> rfl
theorem flat_pos (k : Call) : 0 < (flat k).length := by
  cases k <;> simp [flat, words]

open PyKg65 (shape whole bound)
theorem told_cons (a : List Int) (l : List (List Int)) : PyFlat.told (a :: l) = (a.length : Int) :: a ++ PyFlat.told l := by
  unfold PyFlat.told
  rw [List.flatMap_cons]
theorem call_of (p : Int) (r : List Int) (c : List (List Int)) (t : List Int) (h : PyFlat.call shape (p :: r) = some (c, t)) (hb : PyInside.call bound c = true) :
    ∃ k : Call, p :: r = flat k ++ t ∧ okc k ∧ ∀ s, Kg65Neutral.step s (whole c) = ((Kg65.spec s k).1, tellOf (Kg65.spec s k).2) := by
  by_cases h1 : p = 1
  · subst h1
    have hs : shape 1 = some (3, 0) := rfl
    simp only [PyFlat.call, hs] at h
    match r, h with
    | [], h => simp at h
    | [a], h => simp at h
    | [a, b], h => simp at h
    | a :: b :: d :: r, h =>
      simp [PyFlat.rows] at h
      obtain ⟨rfl, rfl⟩ := h
      exact ⟨.begin_ a b d, rfl, trivial, fun s => rfl⟩
  by_cases h2 : p = 2
  · subst h2
    have hs : shape 2 = some (0, 1) := rfl
    simp only [PyFlat.call, hs] at h
    match r, h with
    | [], h => simp [PyFlat.rows, PyFlat.row] at h
    | n :: r, h =>
      by_cases hn : 0 ≤ n ∧ n.toNat ≤ r.length
      · simp [PyFlat.rows, PyFlat.row, hn] at h
        obtain ⟨rfl, rfl⟩ := h
        have hl : (r.take n.toNat).length = n.toNat := by
          rw [List.length_take]
          omega
        refine ⟨.deliver (r.take n.toNat), ?_, ?_, fun s => rfl⟩
        · show 2 :: n :: r = 2 :: ((r.take n.toNat).length : Int) :: (r.take n.toNat ++ r.drop n.toNat)
          rw [hl, List.take_append_drop]
          have : ((n.toNat : Nat) : Int) = n := by omega
          rw [this]
        · show (r.take n.toNat).length ≤ 60
          simp [PyInside.call, bound, PyInside.lists] at hb
          rw [hl]
          omega
      · have hn' : ¬ (0 ≤ n ∧ n ≤ (r.length : Int)) := by omega
        simp [PyFlat.rows, PyFlat.row, hn'] at h
  by_cases h3 : p = 3
  · subst h3
    have hs : shape 3 = some (2, 0) := rfl
    simp only [PyFlat.call, hs] at h
    match r, h with
    | [], h => simp at h
    | [a], h => simp at h
    | a :: b :: r, h =>
      simp [PyFlat.rows] at h
      obtain ⟨rfl, rfl⟩ := h
      exact ⟨.time a b, rfl, trivial, fun s => rfl⟩
  by_cases h4 : p = 4
  · subst h4
    have hs : shape 4 = some (1, 0) := rfl
    simp only [PyFlat.call, hs] at h
    match r, h with
    | [], h => simp at h
    | a :: r, h =>
      simp [PyFlat.rows] at h
      obtain ⟨rfl, rfl⟩ := h
      exact ⟨.give a, rfl, trivial, fun s => rfl⟩
  by_cases h5 : p = 5
  · subst h5
    have hs : shape 5 = some (0, 0) := rfl
    simp [PyFlat.call, hs, PyFlat.rows] at h
    obtain ⟨rfl, rfl⟩ := h
    exact ⟨.now, rfl, trivial, fun s => rfl⟩
  by_cases h6 : p = 6
  · subst h6
    have hs : shape 6 = some (0, 0) := rfl
    simp [PyFlat.call, hs, PyFlat.rows] at h
    obtain ⟨rfl, rfl⟩ := h
    exact ⟨.stones, rfl, trivial, fun s => rfl⟩
  by_cases h7 : p = 7
  · subst h7
    have hs : shape 7 = some (0, 0) := rfl
    simp [PyFlat.call, hs, PyFlat.rows] at h
    obtain ⟨rfl, rfl⟩ := h
    exact ⟨.scores, rfl, trivial, fun s => rfl⟩
  by_cases h8 : p = 8
  · subst h8
    have hs : shape 8 = some (0, 0) := rfl
    simp [PyFlat.call, hs, PyFlat.rows] at h
    obtain ⟨rfl, rfl⟩ := h
    exact ⟨.shot, rfl, trivial, fun s => rfl⟩
  · have hs : shape p = none := by
      unfold shape
      rw [if_neg h1, if_neg h2, if_neg h3, if_neg h4, if_neg h5, if_neg h6, if_neg h7, if_neg h8]
    simp [PyFlat.call, hs] at h
theorem calls_of : ∀ (f : Nat) (l : List Int) (cs : List (List (List Int))), PyFlat.calls shape f l = some cs → cs.all (PyInside.call bound) = true →
    ∃ ks : List Call, l = ks.flatMap flat ∧ ks.length = cs.length ∧ (∀ k ∈ ks, okc k) ∧ ∀ s, PyFlat.told (PyFlat.played Kg65Neutral.step s (cs.map whole)) = run s ks
  | f, [], cs, h, _ => by
    cases f <;> (simp [PyFlat.calls] at h; subst h; exact ⟨[], rfl, rfl, by simp, fun s => rfl⟩)
  | 0, p :: r, cs, h, _ => by simp [PyFlat.calls] at h
  | f + 1, p :: r, cs, h, hb => by
    unfold PyFlat.calls at h
    cases hc : PyFlat.call shape (p :: r) with
    | none => rw [hc] at h; cases h
    | some ct =>
      obtain ⟨c, t⟩ := ct
      rw [hc] at h
      simp only at h
      cases hd : PyFlat.calls shape f t with
      | none => rw [hd] at h; cases h
      | some ds =>
        rw [hd] at h
        have h : c :: ds = cs := Option.some.inj h
        subst h
        rw [List.all_cons, Bool.and_eq_true] at hb
        obtain ⟨k, e1, e2, e3⟩ := call_of p r c t hc hb.1
        obtain ⟨ks, i1, i2, i3, i4⟩ := calls_of f t ds hd hb.2
        refine ⟨k :: ks, ?_, ?_, ?_, fun s => ?_⟩
        · rw [e1, i1, List.flatMap_cons]
        · rw [List.length_cons, List.length_cons, i2]
        · intro x hx
          rcases List.mem_cons.mp hx with rfl | hx
          · exact e2
          · exact i3 x hx
        · rw [List.map_cons]
          show PyFlat.told ((Kg65Neutral.step s (whole c)).2 :: PyFlat.played Kg65Neutral.step (Kg65Neutral.step s (whole c)).1 (ds.map whole)) = _
          rw [told_cons, e3 s, i4]
          rfl
theorem asked_of {l : List Int} (h : PyKg65.answers_asked l = true) : ∃ ks : List Call, l = ks.flatMap flat ∧ ks.length ≤ 220 ∧ (∀ k ∈ ks, okc k) ∧ PyKg65.answers l = run none ks ∧ (run none ks).length ≤ 10000000 := by
  unfold PyKg65.answers_asked at h
  cases hc : PyFlat.calls shape l.length l with
  | none => rw [hc] at h; cases h
  | some raw =>
    rw [hc] at h
    simp only [Bool.and_eq_true] at h
    obtain ⟨⟨⟨⟨_, h1⟩, h2⟩, _⟩, h3⟩ := h
    obtain ⟨ks, e1, e2, e3, e4⟩ := calls_of _ _ _ hc h2
    have ea : PyKg65.answers l = run none ks := by
      unfold PyKg65.answers PyKg65.calls
      rw [hc]
      exact e4 none
    refine ⟨ks, e1, ?_, e3, ea, ?_⟩
    · rw [e2]
      simpa [PyFlat.atMost] using h1
    · rw [← ea]
      simpa [PyFlat.short] using h3
end Cm
namespace Cm
open PySem PySem.Spec PyProof.Rows L2 Evl
/-! ### the text by places -/
def top (i : Nat) : Stmt := PySem.Challenge.pw_curlingmatch_s01_answers.main.body.getD i (.Pass ⟨0, 0, 0, 0⟩)
abbrev st_from_tee : Stmt := top 17
abbrev st_is_in_play : Stmt := top 18
abbrev st_is_in_house : Stmt := top 19
abbrev st_is_guard : Stmt := top 20
abbrev st_is_on_middle : Stmt := top 21
abbrev st_lie_clear : Stmt := top 22
abbrev st_stones_of : Stmt := top 23
abbrev st_numbers_of : Stmt := top 24
abbrev st_with_number : Stmt := top 25
abbrev st_distances_of : Stmt := top 27
abbrev st_nearer_ones : Stmt := top 28
abbrev st_points_of : Stmt := top 29
abbrev st_Game_init : Stmt := inClass (top 31) 0
abbrev st_Game_is_over : Stmt := inClass (top 31) 1
abbrev st_Game_side_of : Stmt := inClass (top 31) 2
abbrev st_Game_stands : Stmt := inClass (top 31) 3
abbrev st_Game_goes_on : Stmt := inClass (top 31) 4
abbrev st_Game_end_over : Stmt := inClass (top 31) 5
abbrev st_Game_last_over : Stmt := inClass (top 31) 6
abbrev st_Game_thinks : Stmt := inClass (top 31) 7
abbrev st_Game_lost : Stmt := inClass (top 31) 8
abbrev st_is_told : Stmt := top 33
abbrev st_are_unlike : Stmt := top 34
abbrev st_all_clear : Stmt := top 35
abbrev st_can_lie : Stmt := top 36
abbrev st_is_wronged : Stmt := top 37
abbrev st_breaks_rule : Stmt := top 38
abbrev st_now_told : Stmt := top 40
abbrev st_stones_told : Stmt := top 41
abbrev st_scores_told : Stmt := top 42
abbrev st_shot_told : Stmt := top 43
abbrev st_is_side : Stmt := top 45
abbrev st_Desk_init : Stmt := inClass (top 46) 0
abbrev st_Desk_is_closed : Stmt := inClass (top 46) 1
abbrev st_Desk_begin : Stmt := inClass (top 46) 2
abbrev st_Desk_deliver : Stmt := inClass (top 46) 3
abbrev st_Desk_think : Stmt := inClass (top 46) 4
abbrev st_Desk_give : Stmt := inClass (top 46) 5
abbrev st_Desk_tell : Stmt := inClass (top 46) 6
abbrev st_answered : Stmt := top 54
abbrev st_bounds_of : Stmt := top 55
abbrev st_answers : Stmt := top 56

/-! ### a def as it stands; a def that keeps a promise -/
structure Df (K : PySem.W.Frag) (x qual : Str) (st : Stmt) (ps : List Str) (f : Addr) : Prop where
  ex : ∃ fd, Fun K x qual st f fd ∧ Binds K fd ps []
structure Ok (P : Program) (w : World) (K : PySem.W.Frag) (mg : Str → Option Value) (base : Heap) (k : Nat) (f : Addr) (ps : List Str) (sp : Sp) : Prop where
  ex : ∃ fd, FnOk P w K mg base CX0 k f fd ps sp ∧ Binds K fd ps []
  kp : PySem.W.keepIn K (.ref f) = true
structure Ad where
  from_tee : Addr
  is_in_play : Addr
  is_in_house : Addr
  is_guard : Addr
  is_on_middle : Addr
  lie_clear : Addr
  stones_of : Addr
  numbers_of : Addr
  with_number : Addr
  distances_of : Addr
  nearer_ones : Addr
  points_of : Addr
  Game_init : Addr
  Game_is_over : Addr
  Game_side_of : Addr
  Game_stands : Addr
  Game_goes_on : Addr
  Game_end_over : Addr
  Game_last_over : Addr
  Game_thinks : Addr
  Game_lost : Addr
  is_told : Addr
  are_unlike : Addr
  all_clear : Addr
  can_lie : Addr
  is_wronged : Addr
  breaks_rule : Addr
  now_told : Addr
  stones_told : Addr
  scores_told : Addr
  shot_told : Addr
  is_side : Addr
  Desk_init : Addr
  Desk_is_closed : Addr
  Desk_begin : Addr
  Desk_deliver : Addr
  Desk_think : Addr
  Desk_give : Addr
  Desk_tell : Addr
  answered : Addr
  bounds_of : Addr
  answers : Addr
  Game : Addr
  Desk : Addr
  SIZES : Addr
structure Tx (K : PySem.W.Frag) (mg : Str → Option Value) (a : Ad) : Prop where
  d_from_tee : Df K "from_tee" "from_tee" st_from_tee ["stone"] a.from_tee
  g_from_tee : mg "from_tee" = some (.ref a.from_tee)
  d_is_in_play : Df K "is_in_play" "is_in_play" st_is_in_play ["stone"] a.is_in_play
  g_is_in_play : mg "is_in_play" = some (.ref a.is_in_play)
  d_is_in_house : Df K "is_in_house" "is_in_house" st_is_in_house ["stone"] a.is_in_house
  g_is_in_house : mg "is_in_house" = some (.ref a.is_in_house)
  d_is_guard : Df K "is_guard" "is_guard" st_is_guard ["stone"] a.is_guard
  g_is_guard : mg "is_guard" = some (.ref a.is_guard)
  d_is_on_middle : Df K "is_on_middle" "is_on_middle" st_is_on_middle ["stone"] a.is_on_middle
  g_is_on_middle : mg "is_on_middle" = some (.ref a.is_on_middle)
  d_lie_clear : Df K "lie_clear" "lie_clear" st_lie_clear ["one", "other"] a.lie_clear
  g_lie_clear : mg "lie_clear" = some (.ref a.lie_clear)
  d_stones_of : Df K "stones_of" "stones_of" st_stones_of ["numbers"] a.stones_of
  g_stones_of : mg "stones_of" = some (.ref a.stones_of)
  d_numbers_of : Df K "numbers_of" "numbers_of" st_numbers_of ["stones"] a.numbers_of
  g_numbers_of : mg "numbers_of" = some (.ref a.numbers_of)
  d_with_number : Df K "with_number" "with_number" st_with_number ["stones", "number"] a.with_number
  g_with_number : mg "with_number" = some (.ref a.with_number)
  d_distances_of : Df K "distances_of" "distances_of" st_distances_of ["stones", "odd"] a.distances_of
  g_distances_of : mg "distances_of" = some (.ref a.distances_of)
  d_nearer_ones : Df K "nearer_ones" "nearer_ones" st_nearer_ones ["some", "others"] a.nearer_ones
  g_nearer_ones : mg "nearer_ones" = some (.ref a.nearer_ones)
  d_points_of : Df K "points_of" "points_of" st_points_of ["stones", "hammer"] a.points_of
  g_points_of : mg "points_of" = some (.ref a.points_of)
  d_Game_init : Df K "__init__" "Game.__init__" st_Game_init ["self", "many", "hammer", "time"] a.Game_init
  d_Game_is_over : Df K "is_over" "Game.is_over" st_Game_is_over ["self"] a.Game_is_over
  m_Game_is_over : Meth K a.Game "is_over" a.Game_is_over
  d_Game_side_of : Df K "side_of" "Game.side_of" st_Game_side_of ["self", "number"] a.Game_side_of
  m_Game_side_of : Meth K a.Game "side_of" a.Game_side_of
  d_Game_stands : Df K "stands" "Game.stands" st_Game_stands ["self"] a.Game_stands
  m_Game_stands : Meth K a.Game "stands" a.Game_stands
  d_Game_goes_on : Df K "goes_on" "Game.goes_on" st_Game_goes_on ["self", "stones"] a.Game_goes_on
  m_Game_goes_on : Meth K a.Game "goes_on" a.Game_goes_on
  d_Game_end_over : Df K "end_over" "Game.end_over" st_Game_end_over ["self"] a.Game_end_over
  m_Game_end_over : Meth K a.Game "end_over" a.Game_end_over
  d_Game_last_over : Df K "last_over" "Game.last_over" st_Game_last_over ["self"] a.Game_last_over
  m_Game_last_over : Meth K a.Game "last_over" a.Game_last_over
  d_Game_thinks : Df K "thinks" "Game.thinks" st_Game_thinks ["self", "side", "seconds"] a.Game_thinks
  m_Game_thinks : Meth K a.Game "thinks" a.Game_thinks
  d_Game_lost : Df K "lost" "Game.lost" st_Game_lost ["self", "side"] a.Game_lost
  m_Game_lost : Meth K a.Game "lost" a.Game_lost
  d_is_told : Df K "is_told" "is_told" st_is_told ["stone"] a.is_told
  g_is_told : mg "is_told" = some (.ref a.is_told)
  d_are_unlike : Df K "are_unlike" "are_unlike" st_are_unlike ["stones"] a.are_unlike
  g_are_unlike : mg "are_unlike" = some (.ref a.are_unlike)
  d_all_clear : Df K "all_clear" "all_clear" st_all_clear ["stones"] a.all_clear
  g_all_clear : mg "all_clear" = some (.ref a.all_clear)
  d_can_lie : Df K "can_lie" "can_lie" st_can_lie ["stones", "ahead", "delivered"] a.can_lie
  g_can_lie : mg "can_lie" = some (.ref a.can_lie)
  d_is_wronged : Df K "is_wronged" "is_wronged" st_is_wronged ["guard", "stones"] a.is_wronged
  g_is_wronged : mg "is_wronged" = some (.ref a.is_wronged)
  d_breaks_rule : Df K "breaks_rule" "breaks_rule" st_breaks_rule ["stones", "ahead", "delivered"] a.breaks_rule
  g_breaks_rule : mg "breaks_rule" = some (.ref a.breaks_rule)
  d_now_told : Df K "now_told" "now_told" st_now_told ["game"] a.now_told
  g_now_told : mg "now_told" = some (.ref a.now_told)
  d_stones_told : Df K "stones_told" "stones_told" st_stones_told ["game"] a.stones_told
  g_stones_told : mg "stones_told" = some (.ref a.stones_told)
  d_scores_told : Df K "scores_told" "scores_told" st_scores_told ["game"] a.scores_told
  g_scores_told : mg "scores_told" = some (.ref a.scores_told)
  d_shot_told : Df K "shot_told" "shot_told" st_shot_told ["game"] a.shot_told
  g_shot_told : mg "shot_told" = some (.ref a.shot_told)
  d_is_side : Df K "is_side" "is_side" st_is_side ["number"] a.is_side
  g_is_side : mg "is_side" = some (.ref a.is_side)
  d_Desk_init : Df K "__init__" "Desk.__init__" st_Desk_init ["self"] a.Desk_init
  d_Desk_is_closed : Df K "is_closed" "Desk.is_closed" st_Desk_is_closed ["self"] a.Desk_is_closed
  m_Desk_is_closed : Meth K a.Desk "is_closed" a.Desk_is_closed
  d_Desk_begin : Df K "begin" "Desk.begin" st_Desk_begin ["self", "words"] a.Desk_begin
  m_Desk_begin : Meth K a.Desk "begin" a.Desk_begin
  d_Desk_deliver : Df K "deliver" "Desk.deliver" st_Desk_deliver ["self", "words"] a.Desk_deliver
  m_Desk_deliver : Meth K a.Desk "deliver" a.Desk_deliver
  d_Desk_think : Df K "think" "Desk.think" st_Desk_think ["self", "words"] a.Desk_think
  m_Desk_think : Meth K a.Desk "think" a.Desk_think
  d_Desk_give : Df K "give" "Desk.give" st_Desk_give ["self", "words"] a.Desk_give
  m_Desk_give : Meth K a.Desk "give" a.Desk_give
  d_Desk_tell : Df K "tell" "Desk.tell" st_Desk_tell ["self", "which"] a.Desk_tell
  m_Desk_tell : Meth K a.Desk "tell" a.Desk_tell
  d_answered : Df K "answered" "answered" st_answered ["desk", "call", "words"] a.answered
  g_answered : mg "answered" = some (.ref a.answered)
  d_bounds_of : Df K "bounds_of" "bounds_of" st_bounds_of ["calls", "at"] a.bounds_of
  g_bounds_of : mg "bounds_of" = some (.ref a.bounds_of)
  d_answers : Df K "answers" "answers" st_answers ["calls"] a.answers
  g_answers : mg "answers" = some (.ref a.answers)
  g_Game : mg "Game" = some (.ref a.Game)
  c_Game : Cls K a.Game
  mk_Game : Mk K a.Game a.Game_init
  n_Game_many : NoAttr K a.Game "many"
  n_Game_hammer : NoAttr K a.Game "hammer"
  n_Game_left : NoAttr K a.Game "left"
  n_Game_points : NoAttr K a.Game "points"
  n_Game_ends : NoAttr K a.Game "ends"
  n_Game_delivered : NoAttr K a.Game "delivered"
  n_Game_lying : NoAttr K a.Game "lying"
  n_Game_won : NoAttr K a.Game "won"
  g_Desk : mg "Desk" = some (.ref a.Desk)
  c_Desk : Cls K a.Desk
  mk_Desk : Mk K a.Desk a.Desk_init
  n_Desk_game : NoAttr K a.Desk "game"
  k_BEYOND : ∃ t, mg "BEYOND" = some (.int (-1) t)
  k_NO_MATCH : ∃ t, mg "NO_MATCH" = some (.int (-2) t)
  k_NOT_SO : ∃ t, mg "NOT_SO" = some (.int (-4) t)
  k_NOBODY : ∃ t, mg "NOBODY" = some (.int (-1) t)
  k_MOST_ENDS : ∃ t, mg "MOST_ENDS" = some (.int (12) t)
  k_MOST_TIME : ∃ t, mg "MOST_TIME" = some (.int (10000) t)
  k_MORE_TIME : ∃ t, mg "MORE_TIME" = some (.int (270) t)
  k_STONES : ∃ t, mg "STONES" = some (.int (16) t)
  k_FREE_STONES : ∃ t, mg "FREE_STONES" = some (.int (5) t)
  k_MOST_PLACE : ∃ t, mg "MOST_PLACE" = some (.int (10000) t)
  k_SIDE_LINE : ∃ t, mg "SIDE_LINE" = some (.int (2230) t)
  k_BACK_LINE : ∃ t, mg "BACK_LINE" = some (.int (1974) t)
  k_HOG_LINE : ∃ t, mg "HOG_LINE" = some (.int (6256) t)
  k_HOUSE : ∃ t, mg "HOUSE" = some (.int (1974) t)
  k_MIDDLE_LINE : ∃ t, mg "MIDDLE_LINE" = some (.int (145) t)
  k_CLEAR : ∃ t, mg "CLEAR" = some (.int (288) t)
  k_BEGIN : ∃ t, mg "BEGIN" = some (.int (1) t)
  k_DELIVER : ∃ t, mg "DELIVER" = some (.int (2) t)
  k_TIME : ∃ t, mg "TIME" = some (.int (3) t)
  k_GIVE : ∃ t, mg "GIVE" = some (.int (4) t)
  k_NOW : ∃ t, mg "NOW" = some (.int (5) t)
  g_SIZES : mg "SIZES" = some (.ref a.SIZES)
  s_SIZES : ∀ H : Hp, SqT K H a.SIZES [V.int 0, V.int 3, V.int 0, V.int 2, V.int 1, V.int 0, V.int 0, V.int 0, V.int 0]
  b_len : mg "len" = none
  b_all : mg "all" = none
  b_int : mg "int" = none
  b_list : mg "list" = none
  b_max : mg "max" = none
  b_range : mg "range" = none
section
variable {P : Program} {w : World} {K : PySem.W.Frag} {mg : Str → Option Value} {base : Heap}
theorem Df.ok {x qual : Str} {st : Stmt} {f : Addr} {N ps : List Str} {k : Nat} {sp : Sp} (F : Df K x qual st ps f) (S : FnScope N ps (defScope st)) (len : ∀ vs H Q E, sp vs H Q E → vs.length = ps.length)
    (hbody : ∀ (cdv : Value) (A : Around) (outer : List Env) (s : Shared) (H : Hp) (vs : List V) (Q : VK) (E : XK), Room k (A.deeper (envOfC qual (defScope st) s.heap.objs.size f cdv)) → sp vs H Q E →
      ∃ t, PSs (cxOf CX0 P w K mg base N qual (defScope st) f cdv A outer s H E).nox (defBody st) t ∧ t { nx := fun _ H' => Q .non H', rt := Q } (start N vs) H) : Ok P w K mg base (k + 1) f ps sp := by
  obtain ⟨fd, F, b⟩ := F.ex
  exact ⟨⟨fd, F.ok S len hbody, b⟩, F.kp⟩
end

/-! ### rules -/
section
variable {X : Cx}
theorem ix_tupK (K : PySem.W.Frag) (h : X.K = K := by rfl) : IxR X (rIxT K) := by
  subst h
  exact ix_tup
theorem ix_listK (K : PySem.W.Frag) (h : X.K = K := by rfl) : IxR X (rIxL K) := by
  subst h
  exact ix_list
theorem op_inK (K : PySem.W.Frag) (h : X.K = K := by rfl) : OpR X (compareOp .In) (rIn K false) := by
  subst h
  exact op_in_seq
theorem call_lenK (K : PySem.W.Frag) (h : X.K = K := by rfl) : CallR X (.builtin "len") (rLenS K) := by
  subst h
  exact call_len_seq
theorem call_listK (K : PySem.W.Frag) (h : X.K = K := by rfl) : CallR X (.type "list") (rListS K) := by
  subst h
  exact call_list_of
theorem cr_allK (K : PySem.W.Frag) (hc : X.calm = true) (h : X.K = K := by rfl) : CallR X (.builtin "all") (rAll K) := by
  subst h
  exact cr_all hc
theorem sl_listK (K : PySem.W.Frag) (h : X.K = K := by rfl) : SlR X (rSlL K) := by
  subst h
  exact sl_list
theorem pi_listK (K : PySem.W.Frag) {tg l : Expr} {tl : TE} (hl : PE X l tl) (h : X.K = K := by rfl) : PI X tg l (iList K tl) := by
  subst h
  exact pi_list hl
end
/-- the scope of the outer comprehension of nearer_ones -/
def cs_nearer_ones : Scope := match defBody st_nearer_ones with
  | [.Return (some (.Call _ [.ListComp _ _ sc _] _ _)) _] => sc
  | _ => { kind := .function, names := [], isGenerator := false, isCoroutine := false }
section
variable {X : Cx} {k : Nat} {f C : Addr} {ps : List Str} {sp : Sp} {x m : Str} {p pos apos : Pos} {e o : Expr} {es : List Expr} {ta te : TE} {t : TA}
/-- a constant of the module, a whole number -/
theorem pe_k {i : Int} (hg : Gl X x) (h : ∃ u, X.mg x = some (.int i u)) (hd : (x == ("__debug__" : Str)) = false := by decide) : PE X (.Name x pos) (tC (.int i)) := by
  obtain ⟨u, h⟩ := h
  exact pe_glob hg h ⟨_, rfl⟩ hd
theorem pe_c (O : Ok X.prog X.w X.K X.mg X.base k f ps sp) (hr : Room k X.A) (hg : Gl X x) (hm : X.mg x = some (.ref f)) (ha : PA X (e :: es) t)
    (hdb : (x == ("__debug__" : Str)) = false := by decide) (he : starEach (e :: es) X.env = (false, eval e X.env) :: starEach es X.env := by rfl) (hpl : (backTo pos (starEach es X.env)).any (·.1) = false := by rfl) :
    PE X (.Call (.Name x p) (e :: es) [] pos) (tCall sp [] E0 t) := by
  obtain ⟨fd, F, b⟩ := O.ex
  exact pe_call F hr hg hm O.kp b .nil pass0 ha hdb he hpl
theorem pe_m {pl : Sem Bool} (he : PE X o ta) (c : Cls X.K C) (hm : Meth X.K C m f) (O : Ok X.prog X.w X.K X.mg X.base k f ps sp) (hr : Room k X.A) (ha : PA X (e :: es) t)
    (hst : starEach (e :: es) X.env = (false, eval e X.env) :: starEach es X.env := by rfl) (hpl : (backTo pos (starEach es X.env)).any (·.1) = false := by rfl)
    (ht : eval (.Call (.Attribute o m apos) (e :: es) [] pos) X.env = (do
      let ov ← eval o X.env
      standAt apos.atName
      let (f, first) ← holding [ov] (getMethod ov m pl)
      callWith pos f first (backTo pos (starEach (e :: es) X.env)) (backToKw pos (keywordEach [] X.env))) := by rfl) :
    PE X (.Call (.Attribute o m apos) (e :: es) [] pos) (tMeth C m sp [] E0 ta t) := by
  obtain ⟨fd, F, b⟩ := O.ex
  exact pe_meth he c hm F hr b .nil pass0 ha hst hpl ht
theorem pe_m0 {pl : Sem Bool} (he : PE X o ta) (c : Cls X.K C) (hm : Meth X.K C m f) (O : Ok X.prog X.w X.K X.mg X.base k f ps sp) (hr : Room k X.A)
    (ht : eval (.Call (.Attribute o m apos) [] [] pos) X.env = (do
      let ov ← eval o X.env
      standAt apos.atName
      let (f, first) ← holding [ov] (getMethod ov m pl)
      callWith pos f first (backTo pos (starEach [] X.env)) (backToKw pos (keywordEach [] X.env))) := by rfl) :
    PE X (.Call (.Attribute o m apos) [] [] pos) (tMeth C m sp [] E0 ta tNil) := by
  obtain ⟨fd, F, b⟩ := O.ex
  exact pe_meth0 he c hm F hr b .nil pass0 ht
theorem pe_mk (M : Mk X.K C f) (O : Ok X.prog X.w X.K X.mg X.base k f ps sp) (hr : Room (k + 1) X.A) (hg : Gl X x) (hm : X.mg x = some (.ref C)) (ha : PA X (e :: es) t)
    (hdb : (x == ("__debug__" : Str)) = false := by decide) (he : starEach (e :: es) X.env = (false, eval e X.env) :: starEach es X.env := by rfl) (hpl : (backTo pos (starEach es X.env)).any (·.1) = false := by rfl) :
    PE X (.Call (.Name x p) (e :: es) [] pos) (tMake C sp [] E0 t) := by
  obtain ⟨fd, F, b⟩ := O.ex
  exact pe_make M F hr hg hm b .nil pass0 ha hdb he hpl
theorem pe_mk0 (M : Mk X.K C f) (O : Ok X.prog X.w X.K X.mg X.base k f ps sp) (hr : Room (k + 1) X.A) (hg : Gl X x) (hm : X.mg x = some (.ref C))
    (hdb : (x == ("__debug__" : Str)) = false := by decide) : PE X (.Call (.Name x p) [] [] pos) (tMake C sp [] E0 tNil) := by
  obtain ⟨fd, F, b⟩ := O.ex
  exact pe_make0 M F hr hg hm b .nil pass0 hdb
/-- a call of what a subscript gives: one of some defs -/
def tCallE (S : Addr → Sp → Prop) (te : TE) (t : TA) : TE := fun σ H Q => te σ H fun v H1 => ∃ f sp, v = .ref f ∧ S f sp ∧ t σ H1 fun vs H2 => sp vs H2 Q E0
theorem pe_callE {S : Addr → Sp → Prop} {a i : Expr} {p : Pos} (A : ∀ f sp, S f sp → ∃ ps, Ok X.prog X.w X.K X.mg X.base k f ps sp) (hr : Room k X.A) (hf : PE X (.Subscript a i p) te) (ha : PA X (e :: es) t)
    (he : starEach (e :: es) X.env = (false, eval e X.env) :: starEach es X.env := by rfl) (hpl : (backTo pos (starEach es X.env)).any (·.1) = false := by rfl) : PE X (.Call (.Subscript a i p) (e :: es) [] pos) (tCallE S te t) := by
  refine ⟨fun pins s σ H Q I h => ?_⟩
  have et : eval (.Call (.Subscript a i p) (e :: es) [] pos) X.env = (do
    callWith pos (← eval (.Subscript a i p) X.env) [] (backTo pos (starEach (e :: es) X.env)) (backToKw pos (keywordEach [] X.env))) := rfl
  rw [et]
  refine wpAny_bind (thn (hf.run pins s σ H _ I h) fun u s1 ⟨v, H1, I1, r1, f, sp, ev, hS, ht⟩ => ?_)
  subst ev
  cases r1
  obtain ⟨ps, O⟩ := A f sp hS
  obtain ⟨fd, F, b⟩ := O.ex
  refine PySem.W.callWith_K (h₀ := X.base) I.ok.mod.kin O.kp (thn (ha.run pos pins s1 σ _ _ I1 ht) fun us s2 ⟨vs, H2, I2, r, q⟩ => ⟨I2.kIn, ?_⟩) he hpl
  exact run_fn (dvs := []) (ds := []) F hr b .nil pass0 I2 r (by rw [List.append_nil]; exact q)
end

/-! ### what a reading evaluates to, further -/
section
variable {K : PySem.W.Frag} {σ : L2.St} {H H' : Hp} {ta tb tc te : TE} {t : TA} {x y z v : V} {r r' : R2} {a C dx : Addr} {fs : List (Str × V)} {f m : Str} {sp : Sp} {vs : List V} {E : XK}
theorem ev_fld (h : Ev ta σ H (.ref a)) (ho : H a = some (.ins C dx fs)) (c : Cls K C) (n : NoAttr K C f) (l : fs.lookup f = some v) : Ev (tFld K ta f) σ H v := fun H1 e Q q =>
  h H1 e _ fun H2 e2 => ⟨a, C, dx, fs, v, rfl, e2 _ _ (e _ _ ho), c, n, l, q H2 e2⟩
theorem ev_chain {b1 b2 : Bool} (ha : Ev ta σ H x) (hb : Ev tb σ H y) (h1 : RV r x y H (.bl b1)) (hc : Ev tc σ H z) (h2 : RV r' y z H (.bl b2)) : Ev (tChain r r' ta tb tc) σ H (.bl (b1 && b2)) := fun H1 e Q q =>
  ha H1 e _ fun H2 e2 => hb H2 (e.trans e2) _ fun H3 e3 => h1 H3 ((e.trans e2).trans e3) _ fun H4 e4 => ⟨b1, rfl, by
    have e14 := (e2.trans e3).trans e4
    cases b1 with
    | true =>
      rw [if_pos rfl]
      exact hc H4 (e.trans e14) _ fun H5 e5 => h2 H5 ((e.trans e14).trans e5) _ fun H6 e6 => q H6 ((e14.trans e5).trans e6)
    | false =>
      rw [if_neg Bool.false_ne_true]
      exact q H4 e14⟩
theorem ev_meth (h : Ev ta σ H (.ref a)) (ho : H a = some (.ins C dx fs)) (l : fs.lookup m = none) (hv : EvA t σ H vs) (hs : SpV sp (.ref a :: vs) H z) : Ev (tMeth C m sp [] E ta t) σ H z := fun H1 e Q q =>
  h H1 e _ fun H2 e2 => ⟨a, dx, fs, rfl, e2 _ _ (e _ _ ho), l, hv H2 (e.trans e2) _ fun H3 e3 => by
    rw [List.append_nil]
    exact hs H3 ((e.trans e2).trans e3) Q (fun H4 e4 => q H4 ((e2.trans e3).trans e4)) E⟩
theorem el_meth {xs : List V} (h : Ev ta σ H (.ref a)) (ho : H a = some (.ins C dx fs)) (l : fs.lookup m = none) (hv : EvA t σ H vs) (hs : SpL sp (.ref a :: vs) H xs) : EvL (tMeth C m sp [] E ta t) σ H xs := fun H1 e Q q =>
  h H1 e _ fun H2 e2 => ⟨a, dx, fs, rfl, e2 _ _ (e _ _ ho), l, hv H2 (e.trans e2) _ fun H3 e3 => by
    rw [List.append_nil]
    exact hs H3 ((e.trans e2).trans e3) Q (fun p H4 hp e4 h4 => q p H4 (fresh_back (e2.trans e3) hp) ((e2.trans e3).trans e4) h4) E⟩
theorem et_chain {b1 b2 : Bool} (ha : Ev ta σ H x) (hb : Ev tb σ H y) (h1 : RV r x y H (.bl b1)) (hc : Ev tc σ H z) (h2 : RV r' y z H (.bl b2)) : EvT (tTest (tChain r r' ta tb tc)) σ H (b1 && b2) := et_test (ev_chain ha hb h1 hc h2)
theorem ev_c1 (h : Ev te σ H x) (hs : SpV sp [x] H z) : Ev (tCall sp [] E0 (tCons te tNil)) σ H z := ev_call (ea_cons h ea_nil) hs
/-- list + list, both new -/
theorem el_cat {xs ys : List V} (ha : EvL ta σ H xs) (hb : EvL tb σ H ys) (hz : xs.length + ys.length ≤ 100000) : EvL (tOp rCat ta tb) σ H (xs ++ ys) := fun H1 e Q q =>
  ha H1 e _ fun p H2 hp e2 h2 => hb H2 (e.trans e2) _ fun p' H3 hp' e3 h3 => ⟨p, p', xs, ys, rfl, rfl, e3 _ _ h2, h3, sz_of hz, fun l hl => q l _ (fresh_back (e2.trans e3) hl) ((e2.trans e3).trans (Ex.new hl)) upd_same⟩
/-! what a reading comes to, anything behind it: P -/
def ExE (te : TE) (σ : L2.St) (H : Hp) (P : V → Hp → Prop) : Prop := ∀ Q : VK, (∀ v H', P v H' → Q v H') → te σ H Q
section
variable {PV : V → Hp → Prop} {D : Ends} {tz : TS} {i : Nat}
theorem q_asgE (h : ExE te σ H PV) (k : ∀ v H', PV v H' → tz D (σ.set i (some v)) H') : tSeq (tAsg te (gName i)) tz D σ H := h _ k
theorem s_asgE (h : ExE te σ H PV) (k : ∀ v H', PV v H' → D.nx (σ.set i (some v)) H') : tAsg te (gName i) D σ H := h _ k
theorem s_retE (h : ExE te σ H PV) (k : ∀ v H', PV v H' → D.rt v H') : tRet te D σ H := h _ k
theorem q_dropE (h : ExE te σ H PV) (k : ∀ v H', PV v H' → tz D σ H') : tSeq (tDrop te) tz D σ H := h _ k
theorem s_dropE (h : ExE te σ H PV) (k : ∀ v H', PV v H' → D.nx σ H') : tDrop te D σ H := h _ k
theorem ex_call (h : EvA t σ H vs) (hs : ∀ H1, Ex H H1 → ∀ (Q : VK) (E : XK), (∀ v H', PV v H' → Q v H') → sp vs H1 Q E) : ExE (tCall sp [] E t) σ H PV := fun Q q => h H (Ex.refl H) _ fun H1 e1 => by
  rw [List.append_nil]
  exact hs H1 e1 Q E q
theorem ex_meth (h : Ev ta σ H (.ref a)) (ho : H a = some (.ins C dx fs)) (l : fs.lookup m = none) (hv : EvA t σ H vs) (hs : ∀ H1, Ex H H1 → ∀ (Q : VK) (E : XK), (∀ v H', PV v H' → Q v H') → sp (.ref a :: vs) H1 Q E) : ExE (tMeth C m sp [] E ta t) σ H PV := fun Q q =>
  h H (Ex.refl H) _ fun H1 e1 => ⟨a, dx, fs, rfl, e1 _ _ ho, l, hv H1 e1 _ fun H2 e2 => by
    rw [List.append_nil]
    exact hs H2 (e1.trans e2) Q E q⟩
/-- [.. for k in range(n)], the items of any kind -/
theorem ex_lcR1 {tt : TT} {j : Nat} {ns : List Nat} {n : Nat} (Pv : Addr → Nat → Hp → Prop) (h : EvA t σ H [.int (n : Int)]) (hn : n ≤ 40000) (h0 : ∀ D H1, Ex H H1 → H1 D = none → Pv D 0 (upd H1 D (.lst [])))
    (hw : ∀ x, wipe ((wipe σ ns).set j (some x)) ns = wipe σ ns)
    (hs : ∀ D i H', i < n → Pv D i H' → tt ((wipe σ ns).set j (some (.int (i : Int)))) H' fun b H3 => if b = true then te ((wipe σ ns).set j (some (.int (i : Int)))) H3 fun y H4 => ∃ acc, H4 D = some (.lst acc) ∧ acc.length < sizeLine ∧ Pv D (i + 1) (upd H4 D (.lst (acc ++ [y]))) else Pv D (i + 1) H3) :
    ExE (tLc (iRng1 t) (gName j) tt te ns) σ H (fun v H' => ∃ D, v = .ref D ∧ Pv D n H') := fun Q q => h H (Ex.refl H) _ fun H1 e1 => ⟨n, rfl, by omega, by omega, fun D hD => by
  have e : (n : Int).toNat = n := by omega
  rw [e]
  exact lc_range (lo := 0) (n := n) (Pv D) (h0 D H1 e1 hD) (fun i H' hi p => by
    have e0 : (0 : Int) + (i : Int) = (i : Int) := Int.zero_add _
    show wipe ((wipe σ ns).set j (some (.int ((0 : Int) + (i : Int))))) ns = wipe σ ns ∧ tt ((wipe σ ns).set j (some (.int ((0 : Int) + (i : Int))))) H' fun b H3 => if b = true then te ((wipe σ ns).set j (some (.int ((0 : Int) + (i : Int))))) H3 fun y H4 => ∃ acc, H4 D = some (.lst acc) ∧ acc.length < sizeLine ∧ Pv D (i + 1) (upd H4 D (.lst (acc ++ [y]))) else Pv D (i + 1) H3
    rw [e0]
    exact ⟨hw _, hs D i H' hi p⟩) (fun H' p => q _ H' ⟨D, rfl, p⟩)⟩
end
/-- promises of defs that change nothing: R says what comes back, and stays true as the heap grows -/
def spV (R : List V → Hp → V → Prop) : Sp := fun vs H Q _ => ∃ v, R vs H v ∧ RetV v H Q
def spL (R : List V → Hp → List V → Prop) : Sp := fun vs H Q _ => ∃ xs, R vs H xs ∧ RetL xs H Q
theorem spV_of {R : List V → Hp → V → Prop} (h : R vs H z) (mono : ∀ H1, Ex H H1 → R vs H1 z) : SpV (spV R) vs H z := fun H1 e Q q _ => ⟨z, mono H1 e, fun H2 e2 => q H2 e2⟩
theorem spL_of {R : List V → Hp → List V → Prop} {xs : List V} (mono : ∀ H1, Ex H H1 → R vs H1 xs) : SpL (spL R) vs H xs := fun H1 e Q q _ => ⟨xs, mono H1 e, fun p H2 hp e2 h2 => q p H2 hp e2 h2⟩
end
end Cm
namespace Cm
open PySem PySem.Spec PyProof.Rows L2 Evl
/-! ### a stone in the heap -/
def P3.vs (p : P3) : List V := [.int p.n, .int p.x, .int p.y]
def P3.sm (p : P3) : Prop := (-2147483648 ≤ p.x ∧ p.x ≤ 2147483647) ∧ (-2147483648 ≤ p.y ∧ p.y ≤ 2147483647)
def StT (H : Hp) (a : Addr) (p : P3) : Prop := H a = some (.tup p.vs) ∧ p.sm
theorem StT.mono {H H' : Hp} {a : Addr} {p : P3} (h : StT H a p) (e : Ex H H') : StT H' a p := ⟨e _ _ h.1, h.2⟩
/-- a list of stones in the heap -/
def StsV (H : Hp) (vs : List V) (ps : List P3) : Prop := vs.length = ps.length ∧ ∀ (i : Nat) v p, vs[i]? = some v → ps[i]? = some p → ∃ a, v = .ref a ∧ StT H a p
def Sts (H : Hp) (a : Addr) (ps : List P3) : Prop := ∃ vs, H a = some (.lst vs) ∧ StsV H vs ps
theorem StsV.mono {H H' : Hp} {vs : List V} {ps : List P3} (h : StsV H vs ps) (e : Ex H H') : StsV H' vs ps := ⟨h.1, fun i v p h1 h2 => by
  obtain ⟨a, e1, e2⟩ := h.2 i v p h1 h2
  exact ⟨a, e1, e2.mono e⟩⟩
theorem Sts.mono {H H' : Hp} {a : Addr} {ps : List P3} (h : Sts H a ps) (e : Ex H H') : Sts H' a ps := by
  obtain ⟨vs, h1, h2⟩ := h
  exact ⟨vs, e _ _ h1, h2.mono e⟩
theorem StsV.get {H : Hp} {vs : List V} {ps : List P3} (h : StsV H vs ps) {i : Nat} {v : V} (e : vs[i]? = some v) : ∃ p a, ps[i]? = some p ∧ v = .ref a ∧ StT H a p := by
  have hl : i < ps.length := by
    rw [← h.1]
    exact (List.getElem?_eq_some_iff.mp e).1
  obtain ⟨a, e1, e2⟩ := h.2 i v ps[i] e (List.getElem?_eq_getElem hl)
  exact ⟨ps[i], a, List.getElem?_eq_getElem hl, e1, e2⟩

section
variable {K : PySem.W.Frag} {σ : L2.St} {H : Hp} {te : TE} {a : Addr} {p : P3}
theorem ix0 (h : Ev te σ H (.ref a)) (hp : StT H a p) : Ev (tOp (rIxT K) te (tC (.int 0))) σ H (.int p.n) := ev_op h ev_c (rv_ixT (st_of hp.1) rfl)
theorem ix1 (h : Ev te σ H (.ref a)) (hp : StT H a p) : Ev (tOp (rIxT K) te (tC (.int 1))) σ H (.int p.x) := ev_op h ev_c (rv_ixT (st_of hp.1) rfl)
theorem ix2 (h : Ev te σ H (.ref a)) (hp : StT H a p) : Ev (tOp (rIxT K) te (tC (.int 2))) σ H (.int p.y) := ev_op h ev_c (rv_ixT (st_of hp.1) rfl)
/-- a def of one stone -/
def R1 (g : P3 → V) (vs : List V) (H : Hp) (v : V) : Prop := ∃ a p, vs = [.ref a] ∧ StT H a p ∧ v = g p
theorem sp1 {g : P3 → V} (hp : StT H a p) : SpV (spV (R1 g)) [.ref a] H (g p) := spV_of ⟨a, p, rfl, hp, rfl⟩ fun H1 e => ⟨a, p, rfl, hp.mono e, rfl⟩
theorem ev_1 {g : P3 → V} (h : Ev te σ H (.ref a)) (hp : StT H a p) : Ev (tCall (spV (R1 g)) [] E0 (tCons te tNil)) σ H (g p) := ev_c1 h (sp1 hp)
theorem sp1_len {g : P3 → V} : ∀ vs H Q E, spV (R1 g) vs H Q E → vs.length = 1 := by
  rintro vs H Q E ⟨v, ⟨a, p, rfl, _⟩, _⟩
  rfl
theorem neg_ev {i : Int} : Ev (tUn (rU fun i => .int (-i)) (tC (.int i))) σ H (.int (-i)) := ev_un ev_c ru_neg
end
section
variable {P : Program} {w : World} {K : PySem.W.Frag} {mg : Str → Option Value} {base : Heap} {a : Ad}

theorem sc_from_tee : FnScope ["stone"] ["stone"] (defScope st_from_tee) := ⟨rfl, rfl, rfl, by decide +kernel, rfl, by decide +kernel, by decide +kernel⟩
theorem ok_from_tee (T : Tx K mg a) : Ok P w K mg base 1 a.from_tee ["stone"] (spV (R1 fun p => .int (far p))) := by
  refine T.d_from_tee.ok sc_from_tee sp1_len (fun cdv A outer s H vs Q E hr h => ?_)
  obtain ⟨v, ⟨b, p, rfl, hp, rfl⟩, k⟩ := h
  refine ⟨_, (pss_one (ps_ret (pe_op op_add (pe_op op_mul (pe_ix (ix_tupK K) (pv 0) pe_int (fun _ _ => rfl)) (pe_ix (ix_tupK K) (pv 0) pe_int (fun _ _ => rfl))) (pe_op op_mul (pe_ix (ix_tupK K) (pv 0) pe_int (fun _ _ => rfl)) (pe_ix (ix_tupK K) (pv 0) pe_int (fun _ _ => rfl)))))), ?_⟩
  have h1 := hp.2.1
  have h2 := hp.2.2
  exact s_ret (ev_op (ev_op (ix1 (ev_var rfl) hp) (ix1 (ev_var rfl) hp) (rv_I (.inl (by omega)))) (ev_op (ix2 (ev_var rfl) hp) (ix2 (ev_var rfl) hp) (rv_I (.inl (by omega)))) rv_I0) k

theorem sc_is_in_play : FnScope ["stone"] ["stone"] (defScope st_is_in_play) := ⟨rfl, rfl, rfl, by decide +kernel, rfl, by decide +kernel, by decide +kernel⟩
theorem ok_is_in_play (T : Tx K mg a) : Ok P w K mg base 1 a.is_in_play ["stone"] (spV (R1 fun p => .bl (inPlay p))) := by
  refine T.d_is_in_play.ok sc_is_in_play sp1_len (fun cdv A outer s H vs Q E hr h => ?_)
  obtain ⟨v, ⟨b, p, rfl, hp, rfl⟩, k⟩ := h
  refine ⟨_, (pss_one (ps_ret (pe_and (pe_chain op_le op_le (pe_un un_neg (pe_k rfl T.k_SIDE_LINE)) (pe_ix (ix_tupK K) (pv 0) pe_int (fun _ _ => rfl)) (pe_k rfl T.k_SIDE_LINE)) (pe_one (pe_chain op_le op_le (pe_un un_neg (pe_k rfl T.k_BACK_LINE)) (pe_ix (ix_tupK K) (pv 0) pe_int (fun _ _ => rfl)) (pe_k rfl T.k_HOG_LINE)))))), ?_⟩
  exact s_ret (ev_andV (ev_chain neg_ev (ix1 (ev_var rfl) hp) rv_I0 ev_c rv_I0) fun _ => (ev_chain neg_ev (ix2 (ev_var rfl) hp) rv_I0 ev_c rv_I0)) k

theorem sc_is_in_house : FnScope ["stone"] ["stone"] (defScope st_is_in_house) := ⟨rfl, rfl, rfl, by decide +kernel, rfl, by decide +kernel, by decide +kernel⟩
theorem ok_is_in_house (T : Tx K mg a) : Ok P w K mg base 2 a.is_in_house ["stone"] (spV (R1 fun p => .bl (inHouse p))) := by
  refine T.d_is_in_house.ok sc_is_in_house sp1_len (fun cdv A outer s H vs Q E hr h => ?_)
  obtain ⟨v, ⟨b, p, rfl, hp, rfl⟩, k⟩ := h
  refine ⟨_, (pss_one (ps_ret (pe_cmpR op_le (pe_c (ok_from_tee T) (hr.mono (by decide)) rfl T.g_from_tee (pa_cons (pv 0) pa_nil)) (pe_op op_mul (pe_k rfl T.k_HOUSE) (pe_k rfl T.k_HOUSE)) (nomark _)))), ?_⟩
  exact s_ret (ev_op (ev_1 (ev_var rfl) hp) (ev_op ev_c ev_c (rv_I (.inl (by omega)))) rv_I0) k

theorem sc_is_guard : FnScope ["stone"] ["stone"] (defScope st_is_guard) := ⟨rfl, rfl, rfl, by decide +kernel, rfl, by decide +kernel, by decide +kernel⟩
theorem ok_is_guard (T : Tx K mg a) : Ok P w K mg base 3 a.is_guard ["stone"] (spV (R1 fun p => .bl (guard p))) := by
  refine T.d_is_guard.ok sc_is_guard sp1_len (fun cdv A outer s H vs Q E hr h => ?_)
  obtain ⟨v, ⟨b, p, rfl, hp, rfl⟩, k⟩ := h
  refine ⟨_, (pss_one (ps_ret (pe_and (pe_cmpR op_gt (pe_ix (ix_tupK K) (pv 0) pe_int (fun _ _ => rfl)) pe_int (nomark _)) (pe_one (pe_not (pe_c (ok_is_in_house T) (hr.mono (by decide)) rfl T.g_is_in_house (pa_cons (pv 0) pa_nil))))))), ?_⟩
  exact s_ret (ev_andV (ev_op (ix2 (ev_var rfl) hp) ev_c rv_I0) fun _ => ev_notV (ev_1 (ev_var rfl) hp)) k

theorem sc_is_on_middle : FnScope ["stone"] ["stone"] (defScope st_is_on_middle) := ⟨rfl, rfl, rfl, by decide +kernel, rfl, by decide +kernel, by decide +kernel⟩
theorem ok_is_on_middle (T : Tx K mg a) : Ok P w K mg base 1 a.is_on_middle ["stone"] (spV (R1 fun p => .bl (onMid p))) := by
  refine T.d_is_on_middle.ok sc_is_on_middle sp1_len (fun cdv A outer s H vs Q E hr h => ?_)
  obtain ⟨v, ⟨b, p, rfl, hp, rfl⟩, k⟩ := h
  refine ⟨_, (pss_one (ps_ret (pe_chain op_le op_le (pe_un un_neg (pe_k rfl T.k_MIDDLE_LINE)) (pe_ix (ix_tupK K) (pv 0) pe_int (fun _ _ => rfl)) (pe_k rfl T.k_MIDDLE_LINE)))), ?_⟩
  exact s_ret (ev_chain neg_ev (ix1 (ev_var rfl) hp) rv_I0 ev_c rv_I0) k

theorem sc_is_told : FnScope ["stone"] ["stone"] (defScope st_is_told) := ⟨rfl, rfl, rfl, by decide +kernel, rfl, by decide +kernel, by decide +kernel⟩
theorem ok_is_told (T : Tx K mg a) : Ok P w K mg base 1 a.is_told ["stone"] (spV (R1 fun p => .bl (isTold p))) := by
  refine T.d_is_told.ok sc_is_told sp1_len (fun cdv A outer s H vs Q E hr h => ?_)
  obtain ⟨v, ⟨b, p, rfl, hp, rfl⟩, k⟩ := h
  refine ⟨_, (pss_cons (ps_if (pt_not (pt_chain op_le op_lt pe_int (pe_ix (ix_tupK K) (pv 0) pe_int (fun _ _ => rfl)) (pe_k rfl T.k_STONES))) (pss_one (ps_ret pe_bl)) pss_nil)
      (pss_one (ps_ret (pe_and (pe_chain op_le op_le (pe_un un_neg (pe_k rfl T.k_MOST_PLACE)) (pe_ix (ix_tupK K) (pv 0) pe_int (fun _ _ => rfl)) (pe_k rfl T.k_MOST_PLACE)) (pe_one (pe_chain op_le op_le (pe_un un_neg (pe_k rfl T.k_MOST_PLACE)) (pe_ix (ix_tupK K) (pv 0) pe_int (fun _ _ => rfl)) (pe_k rfl T.k_MOST_PLACE))))))), ?_⟩
  refine q_when (et_not (et_chain ev_c (ix0 (ev_var rfl) hp) rv_I0 ev_c rv_I0)) (fun hb H1 e1 => ?_) (fun hb H1 e1 => ?_)
  · refine s_ret ev_c fun H2 e2 => ?_
    have e : isTold p = false := by
      unfold isTold
      simp only [Bool.not_eq_true'] at hb
      rw [hb, Bool.false_and]
    have g := k H2 (e1.trans e2)
    simp only [e] at g
    exact g
  · have hp1 := hp.mono e1
    refine s_ret (ev_andV (ev_chain neg_ev (ix1 (ev_var rfl) hp1) rv_I0 ev_c rv_I0) fun _ => (ev_chain neg_ev (ix2 (ev_var rfl) hp1) rv_I0 ev_c rv_I0)) fun H2 e2 => ?_
    have g := k H2 (e1.trans e2)
    simp only [Bool.not_eq_false'] at hb
    have e : isTold p = ((decide (-10000 ≤ p.x) && decide (p.x ≤ 10000)) && (decide (-10000 ≤ p.y) && decide (p.y ≤ 10000))) := by
      unfold isTold
      rw [hb, Bool.true_and]
    simp only [e] at g
    exact g

/-- two stones -/
def R2s (g : P3 → P3 → V) (vs : List V) (H : Hp) (v : V) : Prop := ∃ a b p q, vs = [.ref a, .ref b] ∧ StT H a p ∧ StT H b q ∧ v = g p q
theorem sc_lie_clear : FnScope ["one", "other", "across", "along"] ["one", "other"] (defScope st_lie_clear) := ⟨rfl, rfl, rfl, by decide +kernel, rfl, by decide +kernel, by decide +kernel⟩
theorem ok_lie_clear (T : Tx K mg a) : Ok P w K mg base 1 a.lie_clear ["one", "other"] (spV (R2s fun p q => .bl (clear p q))) := by
  refine T.d_lie_clear.ok sc_lie_clear (by rintro vs H Q E ⟨v, ⟨a, b, p, q, rfl, _⟩, _⟩; rfl) (fun cdv A outer s H vs Q E hr h => ?_)
  obtain ⟨v, ⟨b, c, p, q, rfl, hp, hq, rfl⟩, k⟩ := h
  refine ⟨_, (pss_cons (ps_set (i := 2) sc_lie_clear.nd rfl (by first | exact Or.inl rfl | exact Or.inr rfl) (pe_op op_sub (pe_ix (ix_tupK K) (pv 0) pe_int (fun _ _ => rfl)) (pe_ix (ix_tupK K) (pv 1) pe_int (fun _ _ => rfl))))
      (pss_cons (ps_set (i := 3) sc_lie_clear.nd rfl (by first | exact Or.inl rfl | exact Or.inr rfl) (pe_op op_sub (pe_ix (ix_tupK K) (pv 0) pe_int (fun _ _ => rfl)) (pe_ix (ix_tupK K) (pv 1) pe_int (fun _ _ => rfl))))
      (pss_one (ps_ret (pe_cmpR op_ge (pe_op op_add (pe_op op_mul (pv 2) (pv 2)) (pe_op op_mul (pv 3) (pv 3))) (pe_op op_mul (pe_k rfl T.k_CLEAR) (pe_k rfl T.k_CLEAR)) (nomark _)))))), ?_⟩
  have h1 := hp.2.1
  have h2 := hp.2.2
  have h3 := hq.2.1
  have h4 := hq.2.2
  refine q_asg (ev_op (ix1 (ev_var rfl) hp) (ix1 (ev_var rfl) hq) rv_I0) fun H1 e1 => ?_
  have hp1 := hp.mono e1
  have hq1 := hq.mono e1
  refine q_asg (ev_op (ix2 (ev_var rfl) hp1) (ix2 (ev_var rfl) hq1) rv_I0) fun H2 e2 => ?_
  exact s_ret (ev_op (ev_op (ev_op (ev_var rfl) (ev_var rfl) (rv_I (.inl (by omega)))) (ev_op (ev_var rfl) (ev_var rfl) (rv_I (.inl (by omega)))) rv_I0) (ev_op ev_c ev_c (rv_I (.inl (by omega)))) rv_I0) fun H3 e3 => k H3 ((e1.trans e2).trans e3)
end
end Cm
namespace Cm
open PySem PySem.Spec PyProof.Rows L2 Evl
/-! ### comprehensions over lists whose items stand for things -/
theorem take_more {α : Type} : ∀ {l : List α} {i : Nat} {x : α}, l[i]? = some x → l.take (i + 1) = l.take i ++ [x]
  | [], i, x, h => by simp at h
  | a :: l, 0, x, h => by
    have e : a = x := Option.some.inj h
    subst e
    rfl
  | a :: l, i + 1, x, h => by
    have ih := take_more (l := l) (i := i) (x := x) h
    show a :: l.take (i + 1) = a :: l.take i ++ [x]
    rw [ih]
    rfl
theorem given_take {α : Type} (as : List α) (F : α → Bool) (g : α → V) : ∀ n, n ≤ as.length → given n (fun i => (as[i]?.map F).getD false) (fun i => (as[i]?.map g).getD .non) = ((as.take n).filter F).map g
  | 0, _ => rfl
  | n + 1, h => by
    have ih := given_take as F g n (by omega)
    have hx : as[n]? = some as[n] := List.getElem?_eq_getElem (by omega)
    rw [take_more hx, List.filter_append, List.map_append]
    cases hf : F as[n] with
    | true =>
      rw [given_yes (by rw [hx]; exact hf), ih, hx, List.filter_cons, if_pos hf]
      rfl
    | false =>
      rw [given_no (by rw [hx]; exact hf), ih, List.filter_cons, if_neg (by rw [hf]; decide)]
      simp
theorem given_all {α : Type} (as : List α) (F : α → Bool) (g : α → V) : given as.length (fun i => (as[i]?.map F).getD false) (fun i => (as[i]?.map g).getD .non) = (as.filter F).map g := by
  rw [given_take as F g _ (Nat.le_refl _), List.take_length]
section
variable {K : PySem.W.Frag} {σ : L2.St} {H : Hp} {te tl ta tb : TE} {tt : TT} {α : Type} {as : List α} {xs : List V} {j : Nat} {vs : List Nat} {b : Addr}
theorem el_gen {Rl : V → α → Prop} (F : α → Bool) (g : α → V) (h : Ev tl σ H (.ref b)) (hx : SqL K H b xs) (hz : xs.length ≤ 40000) (hl : xs.length = as.length) (hr : ∀ (i : Nat) x, xs[i]? = some x → ∃ a, as[i]? = some a ∧ Rl x a)
    (hw : ∀ x, wipe ((wipe σ vs).set j (some x)) vs = wipe σ vs) (ht : ∀ x a H1, Ex H H1 → Rl x a → EvT tt ((wipe σ vs).set j (some x)) H1 (F a)) (he : ∀ x a H1, Ex H H1 → Rl x a → F a = true → Ev te ((wipe σ vs).set j (some x)) H1 (g a)) :
    EvL (tLc (iList K tl) (gName j) tt te vs) σ H ((as.filter F).map g) := by
  have r := el_lcL (K := K) (t := tt) (te := te) (fun i => (as[i]?.map F).getD false) (fun i => (as[i]?.map g).getD .non) h hx hz hw (fun i x H1 e hi => by
    obtain ⟨a, ha, hra⟩ := hr i x hi
    have q := ht x a H1 e hra
    simp only [ha]
    exact q) (fun i x H1 e hi hf => by
    obtain ⟨a, ha, hra⟩ := hr i x hi
    simp only [ha] at hf ⊢
    exact he x a H1 e hra hf)
  rw [hl, given_all as F g] at r
  exact r
theorem el_genN {Rl : V → α → Prop} (F : α → Bool) (g : α → V) (h : EvL tl σ H xs) (hz : xs.length ≤ 40000) (hl : xs.length = as.length) (hr : ∀ (i : Nat) x, xs[i]? = some x → ∃ a, as[i]? = some a ∧ Rl x a)
    (hw : ∀ x, wipe ((wipe σ vs).set j (some x)) vs = wipe σ vs) (ht : ∀ x a H1, Ex H H1 → Rl x a → EvT tt ((wipe σ vs).set j (some x)) H1 (F a)) (he : ∀ x a H1, Ex H H1 → Rl x a → F a = true → Ev te ((wipe σ vs).set j (some x)) H1 (g a)) :
    EvL (tLc (iList K tl) (gName j) tt te vs) σ H ((as.filter F).map g) := by
  have r := el_lcNL (K := K) (t := tt) (te := te) (fun i => (as[i]?.map F).getD false) (fun i => (as[i]?.map g).getD .non) h hz hw (fun i x H1 e hi => by
    obtain ⟨a, ha, hra⟩ := hr i x hi
    have q := ht x a H1 e hra
    simp only [ha]
    exact q) (fun i x H1 e hi hf => by
    obtain ⟨a, ha, hra⟩ := hr i x hi
    simp only [ha] at hf ⊢
    exact he x a H1 e hra hf)
  rw [hl, given_all as F g] at r
  exact r
theorem et_yes : EvT tYes σ H true := fun H1 _ _ q => q H1 (Ex.refl H1)
theorem filter_all (l : List α) : l.filter (fun _ => true) = l := List.filter_eq_self.mpr fun _ _ => rfl
/-- all([..]) -/
theorem ev_allN {bs : List Bool} (ha : EvL ta σ H (bs.map V.bl)) : Ev (tCB (rAll K) (tCons ta tNil)) σ H (.bl (bs.all id)) := fun H1 e Q q =>
  ha H1 e _ fun p H2 _ e2 h2 => ⟨p, bs, rfl, sq_of h2, q H2 e2⟩
/-- stones -/
theorem el_sts {ps : List P3} (F : P3 → Bool) (g : P3 → V) (h : Ev tl σ H (.ref b)) (hx : Sts H b ps) (hz : ps.length ≤ 1000)
    (hw : ∀ x, wipe ((wipe σ vs).set j (some x)) vs = wipe σ vs) (ht : ∀ c p H1, Ex H H1 → StT H1 c p → EvT tt ((wipe σ vs).set j (some (.ref c))) H1 (F p)) (he : ∀ c p H1, Ex H H1 → StT H1 c p → Ev te ((wipe σ vs).set j (some (.ref c))) H1 (g p)) :
    EvL (tLc (iList K tl) (gName j) tt te vs) σ H ((ps.filter F).map g) := by
  obtain ⟨us, h1, h2⟩ := hx
  refine el_gen (Rl := fun x p => ∃ c, x = .ref c ∧ StT H c p) F g h (sq_of h1) (by have := h2.1; omega) h2.1 (fun i x hi => ?_) hw (fun x p H1 e ⟨c, ec, hc⟩ => ?_) (fun x p H1 e ⟨c, ec, hc⟩ _ => ?_)
  · obtain ⟨p, c, e1, e2, e3⟩ := h2.get hi
    exact ⟨p, e1, c, e2, e3⟩
  · subst ec
    exact ht c p H1 e (hc.mono e)
  · subst ec
    exact he c p H1 e (hc.mono e)
theorem ints_get {ns : List Int} {i : Nat} {x : V} (h : (ns.map V.int)[i]? = some x) : ∃ n, ns[i]? = some n ∧ x = .int n := by
  rw [List.getElem?_map] at h
  cases e : ns[i]? with
  | none => rw [e] at h; cases h
  | some n => rw [e] at h; exact ⟨n, rfl, (Option.some.inj h).symm⟩
/-- whole numbers -/
theorem el_ints {ns : List Int} (F : Int → Bool) (g : Int → V) (h : Ev tl σ H (.ref b)) (hx : H b = some (.lst (ns.map V.int))) (hz : ns.length ≤ 1000)
    (hw : ∀ x, wipe ((wipe σ vs).set j (some x)) vs = wipe σ vs) (ht : ∀ n H1, Ex H H1 → EvT tt ((wipe σ vs).set j (some (.int n))) H1 (F n)) (he : ∀ n H1, Ex H H1 → Ev te ((wipe σ vs).set j (some (.int n))) H1 (g n)) :
    EvL (tLc (iList K tl) (gName j) tt te vs) σ H ((ns.filter F).map g) := by
  refine el_gen (Rl := fun x n => x = .int n) F g h (sq_of hx) (by rw [List.length_map]; omega) (by rw [List.length_map]) (fun i x hi => ints_get hi) hw (fun x n H1 e ex => ?_) (fun x n H1 e ex _ => ?_)
  · subst ex
    exact ht n H1 e
  · subst ex
    exact he n H1 e
theorem el_intsN {ns : List Int} (F : Int → Bool) (g : Int → V) (h : EvL tl σ H (ns.map V.int)) (hz : ns.length ≤ 1000)
    (hw : ∀ x, wipe ((wipe σ vs).set j (some x)) vs = wipe σ vs) (ht : ∀ n H1, Ex H H1 → EvT tt ((wipe σ vs).set j (some (.int n))) H1 (F n)) (he : ∀ n H1, Ex H H1 → Ev te ((wipe σ vs).set j (some (.int n))) H1 (g n)) :
    EvL (tLc (iList K tl) (gName j) tt te vs) σ H ((ns.filter F).map g) := by
  refine el_genN (Rl := fun x n => x = .int n) F g h (by rw [List.length_map]; omega) (by rw [List.length_map]) (fun i x hi => ints_get hi) hw (fun x n H1 e ex => ?_) (fun x n H1 e ex _ => ?_)
  · subst ex
    exact ht n H1 e
  · subst ex
    exact he n H1 e
theorem all_map_id {l : List α} {F : α → Bool} : (l.map F).all id = l.all F := by
  rw [List.all_map]
  rfl
end
section
variable {P : Program} {w : World} {K : PySem.W.Frag} {mg : Str → Option Value} {base : Heap} {a : Ad}

def RNum (vs : List V) (H : Hp) (xs : List V) : Prop := ∃ b ps, vs = [.ref b] ∧ Sts H b ps ∧ ps.length ≤ 1000 ∧ xs = (ps.map (·.n)).map V.int
theorem spl_num {H : Hp} {b : Addr} {ps : List P3} (hx : Sts H b ps) (hz : ps.length ≤ 1000) : SpL (spL RNum) [.ref b] H ((ps.map (·.n)).map V.int) := spL_of fun H1 e => ⟨b, ps, rfl, hx.mono e, hz, rfl⟩
theorem sc_numbers_of : FnScope ["stones", "stone"] ["stones"] (defScope st_numbers_of) := ⟨rfl, rfl, rfl, by decide +kernel, rfl, by decide +kernel, by decide +kernel⟩
theorem ok_numbers_of (T : Tx K mg a) : Ok P w K mg base 1 a.numbers_of ["stones"] (spL RNum) := by
  refine T.d_numbers_of.ok sc_numbers_of (by rintro vs H Q E ⟨v, ⟨b, p, rfl, _⟩, _⟩; rfl) (fun cdv A outer s H vs Q E hr h => ?_)
  obtain ⟨v, ⟨b, ps, rfl, hx, hz, rfl⟩, k⟩ := h
  refine ⟨_, (pss_one (ps_ret (pe_lc (own := [("stone", 1)]) (g := gName 1) (by rfl) sc_numbers_of.nd (pi_listK K (pv 0)) (blkOk_by (N := ["stones", "stone"]) (sc := (defScope st_numbers_of)) (by decide +kernel)) (fun _ _ _ _ _ => (pg_name (i := 1) sc_numbers_of.nd rfl (by first | exact Or.inl rfl | exact Or.inr rfl))) (fun _ _ _ _ _ => pts_nil) (fun _ _ _ _ _ => (pe_ix (ix_tupK K) (pv 1) pe_int (fun _ _ => rfl)))))), ?_⟩
  have r := el_sts (K := K) (σ := start ["stones", "stone"] [.ref b]) (j := 1) (vs := [1]) (tt := tYes) (te := tOp (rIxT K) (tVar 1) (tC (.int 0))) (tl := tVar 0) (fun _ => true) (fun p => .int p.n) (ev_var rfl) hx hz (fun _ => rfl) (fun c p H1 e hc => et_yes) (fun c p H1 e hc => ix0 (ev_var rfl) hc)
  rw [filter_all] at r
  have e : ps.map (fun p => V.int p.n) = (ps.map (·.n)).map V.int := by rw [List.map_map]; rfl
  rw [e] at r
  exact s_retL r fun p H1 hp e1 h1 => k p H1 hp e1 h1

def RDist (vs : List V) (H : Hp) (xs : List V) : Prop := ∃ b ps o, vs = [.ref b, .int o] ∧ Sts H b ps ∧ ps.length ≤ 1000 ∧ xs = (dist ps o).map V.int
theorem sc_distances_of : FnScope ["stones", "odd", "stone"] ["stones", "odd"] (defScope st_distances_of) := ⟨rfl, rfl, rfl, by decide +kernel, rfl, by decide +kernel, by decide +kernel⟩
theorem ok_distances_of (T : Tx K mg a) : Ok P w K mg base 3 a.distances_of ["stones", "odd"] (spL RDist) := by
  refine T.d_distances_of.ok sc_distances_of (by rintro vs H Q E ⟨v, ⟨b, p, o, rfl, _⟩, _⟩; rfl) (fun cdv A outer s H vs Q E hr h => ?_)
  obtain ⟨v, ⟨b, ps, o, rfl, hx, hz, rfl⟩, k⟩ := h
  refine ⟨_, (pss_one (ps_ret (pe_lc (own := [("stone", 2)]) (g := gName 2) (by rfl) sc_distances_of.nd (pi_listK K (pv 0)) (blkOk_by (N := ["stones", "odd", "stone"]) (sc := (defScope st_distances_of)) (by decide +kernel)) (fun _ _ _ _ _ => (pg_name (i := 2) sc_distances_of.nd rfl (by first | exact Or.inl rfl | exact Or.inr rfl))) (fun _ _ _ _ _ => pts_one (PW.pt (pw_and (pt_cmpR op_eq (pe_op op_mod (pe_ix (ix_tupK K) (pv 2) pe_int (fun _ _ => rfl)) pe_int) (pv 1) (nomark _)) (pw_and1 (pt_val (pe_c (ok_is_in_house T) (hr.mono (by decide)) rfl T.g_is_in_house (pa_cons (pv 2) pa_nil))))))) (fun _ _ _ _ _ => (pe_c (ok_from_tee T) (hr.mono (by decide)) rfl T.g_from_tee (pa_cons (pv 2) pa_nil)))))), ?_⟩
  have ed : (dist ps o).map V.int = (ps.filter fun p => decide (p.n % 2 = o) && inHouse p).map fun p => V.int (far p) := by
    unfold dist
    rw [List.map_map]
    rfl
  rw [ed] at k
  refine s_retL (el_sts _ _ (ev_var rfl) hx hz (fun _ => rfl) (fun c p H1 e hc => ?_) (fun c p H1 e hc => ev_1 (ev_var rfl) hc)) fun p H1 hp e1 h1 => k p H1 hp e1 h1
  refine et_and ?_ fun _ => et_B (ev_1 (ev_var rfl) hc)
  have e0 : decide (p.n % 2 = o) = decide (V.int (p.n % 2) = V.int o) := by
    rw [decide_eq_decide]
    exact ⟨fun h => by rw [h], fun h => by injection h⟩
  rw [e0]
  exact et_test (ev_op (ev_op (ix0 (ev_var rfl) hc) ev_c (rv_I (by decide))) (ev_var rfl) (rv_eq rfl))

def RNear (vs : List V) (H : Hp) (v : V) : Prop := ∃ b c ns ms, vs = [.ref b, .ref c] ∧ H b = some (.lst (ns.map V.int)) ∧ H c = some (.lst (ms.map V.int)) ∧ ns.length ≤ 1000 ∧ ms.length ≤ 1000 ∧ v = .int (nearer ns ms : Nat)
theorem spv_near {H : Hp} {b c : Addr} {ns ms : List Int} (h1 : H b = some (.lst (ns.map V.int))) (h2 : H c = some (.lst (ms.map V.int))) (h3 : ns.length ≤ 1000) (h4 : ms.length ≤ 1000) : SpV (spV RNear) [.ref b, .ref c] H (.int (nearer ns ms : Nat)) :=
  spV_of ⟨b, c, ns, ms, rfl, h1, h2, h3, h4, rfl⟩ fun H1 e => ⟨b, c, ns, ms, rfl, e _ _ h1, e _ _ h2, h3, h4, rfl⟩
theorem sc_nearer_ones : FnScope ["some", "others", "one", "other"] ["some", "others"] (defScope st_nearer_ones) := ⟨rfl, rfl, rfl, by decide +kernel, rfl, by decide +kernel, by decide +kernel⟩
theorem ok_nearer_ones (T : Tx K mg a) : Ok P w K mg base 1 a.nearer_ones ["some", "others"] (spV RNear) := by
  refine T.d_nearer_ones.ok sc_nearer_ones (by rintro vs H Q E ⟨v, ⟨b, c, ns, ms, rfl, _⟩, _⟩; rfl) (fun cdv A outer s H vs Q E hr h => ?_)
  obtain ⟨v, ⟨b, c, ns, ms, rfl, hb, hc, hz, hy, rfl⟩, k⟩ := h
  refine ⟨_, (pss_one (ps_ret (pe_callB (call_lenK K) (by rfl) T.b_len (by decide +kernel) (pa_cons (pe_lc (own := [("one", 2)]) (g := gName 2) (by rfl) sc_nearer_ones.nd (pi_listK K (pv 0)) (blkOk_by (N := ["some", "others", "one", "other"]) (sc := (defScope st_nearer_ones)) (by decide +kernel)) (fun _ _ _ _ _ => (pg_name (i := 2) sc_nearer_ones.nd rfl (by first | exact Or.inl rfl | exact Or.inr rfl))) (fun _ _ _ _ _ => pts_one (pt_val (pe_callB (cr_allK K rfl) (by rfl) T.b_all (by decide +kernel) (pa_cons (pe_lc (own := [("other", 3)]) (g := gName 3) (by rfl) sc_nearer_ones.nd (pi_listK K (pv 1)) (blkOk_by (N := ["some", "others", "one", "other"]) (sc := (relS cs_nearer_ones (defScope st_nearer_ones))) (by decide +kernel)) (fun _ _ _ _ _ => (pg_name (i := 3) sc_nearer_ones.nd rfl (by first | exact Or.inl rfl | exact Or.inr rfl))) (fun _ _ _ _ _ => pts_nil) (fun _ _ _ _ _ => (pe_cmpR op_lt (pv 2) (pv 3) (nomark _)))) pa_nil)))) (fun _ _ _ _ _ => (pv 2))) pa_nil)))), ?_⟩
  have r := ev_lenN (K := K) (el_ints (K := K) (σ := start ["some", "others", "one", "other"] [.ref b, .ref c]) (j := 2) (vs := [2]) (tl := tVar 0) (te := tVar 2)
    (tt := tB (tCB (rAll K) (tCons (tLc (iList K (tVar 1)) (gName 3) tYes (tOp (rI0 fun i j => .bl (decide (i < j))) (tVar 2) (tVar 3)) [3]) tNil)))
    (fun x => ms.all fun y => decide (x < y)) (fun x => .int x) (ev_var rfl) hb hz (fun _ => rfl) (fun n H1 e => ?_) (fun n H1 e => ev_var rfl))
  · have e0 : ((ns.filter fun x => ms.all fun y => decide (x < y)).map fun x => V.int x).length = nearer ns ms := by rw [List.length_map]; rfl
    rw [e0] at r
    exact s_ret r k
  · have q := ev_allN (K := K) (bs := ms.map fun y => decide (n < y)) (by
      have r2 := el_ints (K := K) (σ := (wipe (start ["some", "others", "one", "other"] [.ref b, .ref c]) [2]).set 2 (some (.int n))) (H := H1) (j := 3) (vs := [3]) (tl := tVar 1) (te := tOp (rI0 fun i j => .bl (decide (i < j))) (tVar 2) (tVar 3)) (tt := tYes)
        (fun _ => true) (fun y => .bl (decide (n < y))) (ev_var rfl) (e _ _ hc) hy (fun _ => rfl) (fun m H2 e2 => et_yes) (fun m H2 e2 => ev_op (ev_var rfl) (ev_var rfl) rv_I0)
      rw [filter_all] at r2
      rw [List.map_map]
      exact r2)
    rw [all_map_id] at q
    exact et_B q
end
end Cm
namespace Cm
open PySem PySem.Spec PyProof.Rows L2 Evl
section
variable {P : Program} {w : World} {K : PySem.W.Frag} {mg : Str → Option Value} {base : Heap} {a : Ad}
theorem spl_dist {H : Hp} {b : Addr} {ps : List P3} {o : Int} (hx : Sts H b ps) (hz : ps.length ≤ 1000) : SpL (spL RDist) [.ref b, .int o] H ((dist ps o).map V.int) := spL_of fun H1 e => ⟨b, ps, o, rfl, hx.mono e, hz, rfl⟩
theorem dist_len (ps : List P3) (o : Int) : (dist ps o).length ≤ ps.length := by
  unfold dist
  rw [List.length_map]
  exact List.length_filter_le _ _
def pts (ps : List P3) (h : Int) : Nat × Nat := if h = 0 then (nearer (dist ps 1) (dist ps 0), nearer (dist ps 0) (dist ps 1)) else (nearer (dist ps 0) (dist ps 1), nearer (dist ps 1) (dist ps 0))
def RPts (vs : List V) (H : Hp) (xs : List V) : Prop := ∃ b ps h, vs = [.ref b, .int h] ∧ Sts H b ps ∧ ps.length ≤ 1000 ∧ (h = 0 ∨ h = 1) ∧ xs = [.int ((pts ps h).1 : Nat), .int ((pts ps h).2 : Nat)]
theorem spl_pts {H : Hp} {b : Addr} {ps : List P3} {h : Int} (hx : Sts H b ps) (hz : ps.length ≤ 1000) (hh : h = 0 ∨ h = 1) : SpL (spL RPts) [.ref b, .int h] H [.int ((pts ps h).1 : Nat), .int ((pts ps h).2 : Nat)] :=
  spL_of fun H1 e => ⟨b, ps, h, rfl, hx.mono e, hz, hh, rfl⟩
theorem sc_points_of : FnScope ["stones", "hammer", "odd", "even", "points"] ["stones", "hammer"] (defScope st_points_of) := ⟨rfl, rfl, rfl, by decide +kernel, rfl, by decide +kernel, by decide +kernel⟩
theorem ok_points_of (T : Tx K mg a) : Ok P w K mg base 4 a.points_of ["stones", "hammer"] (spL RPts) := by
  refine T.d_points_of.ok sc_points_of (by rintro vs H Q E ⟨v, ⟨b, ps, h, rfl, _⟩, _⟩; rfl) (fun cdv A outer s H vs Q E hr h => ?_)
  obtain ⟨v, ⟨b, ps, h, rfl, hx, hz, hh, rfl⟩, k⟩ := h
  refine ⟨_, (pss_cons (ps_set (i := 2) sc_points_of.nd rfl (by first | exact Or.inl rfl | exact Or.inr rfl) (pe_c (ok_distances_of T) (hr.mono (by decide)) rfl T.g_distances_of (pa_cons (pv 0) (pa_cons pe_int pa_nil))))
      (pss_cons (ps_set (i := 3) sc_points_of.nd rfl (by first | exact Or.inl rfl | exact Or.inr rfl) (pe_c (ok_distances_of T) (hr.mono (by decide)) rfl T.g_distances_of (pa_cons (pv 0) (pa_cons pe_int pa_nil))))
      (pss_cons (ps_set (i := 4) sc_points_of.nd rfl (by first | exact Or.inl rfl | exact Or.inr rfl) (pe_lst (pa_cons pe_int (pa_cons pe_int pa_nil))))
      (pss_cons (ps_asg (pe_c (ok_nearer_ones T) (hr.mono (by decide)) rfl T.g_nearer_ones (pa_cons (pv 2) (pa_cons (pv 3) pa_nil))) (pg_sub (pv 4) (pv 1) set_list))
      (pss_cons (ps_asg (pe_c (ok_nearer_ones T) (hr.mono (by decide)) rfl T.g_nearer_ones (pa_cons (pv 3) (pa_cons (pv 2) pa_nil))) (pg_sub (pv 4) (pe_op op_sub pe_int (pv 1)) set_list))
      (pss_one (ps_ret (pv 4)))))))), ?_⟩
  refine q_asgL (el_call (ea_cons (ev_var rfl) (ea_cons ev_c ea_nil)) (spl_dist hx hz)) fun q1 H1 n1 e1 h1 => ?_
  refine q_asgL (el_call (ea_cons (ev_var rfl) (ea_cons ev_c ea_nil)) (spl_dist (hx.mono e1) hz)) fun q0 H2 n0 e2 h0 => ?_
  refine q_asgL (el_lst (ea_cons ev_c (ea_cons ev_c ea_nil)) (by decide)) fun q H3 nq e3 hq => ?_
  have l1 : (dist ps 1).length ≤ 1000 := Nat.le_trans (dist_len ps 1) hz
  have l0 : (dist ps 0).length ≤ 1000 := Nat.le_trans (dist_len ps 0) hz
  have h1' := e3 _ _ (e2 _ _ h1)
  have h0' := e3 _ _ h0
  have hn : H q = none := fresh_back (e1.trans e2) nq
  have e03 := (e1.trans e2).trans e3
  have ne1 : q ≠ q1 := by
    intro z
    rw [z, e2 _ _ h1] at nq
    cases nq
  have ne0 : q ≠ q0 := by
    intro z
    rw [z, h0] at nq
    cases nq
  rcases hh with rfl | rfl
  · refine q_setL (j := 0) hq (ev_call (ea_cons (ev_var rfl) (ea_cons (ev_var rfl) ea_nil)) (spv_near h1' h0' l1 l0)) (ev_var rfl) (ev_var rfl) (by decide) fun H4 e4 => ?_
    have g1 : (upd H4 q (.lst (([.int 0, .int 0] : List V).set 0 (.int (nearer (dist ps 1) (dist ps 0) : Nat))))) q1 = some (.lst ((dist ps 1).map V.int)) := by
      rw [upd_ne ne1.symm]
      exact e4 _ _ h1'
    have g0 : (upd H4 q (.lst (([.int 0, .int 0] : List V).set 0 (.int (nearer (dist ps 1) (dist ps 0) : Nat))))) q0 = some (.lst ((dist ps 0).map V.int)) := by
      rw [upd_ne ne0.symm]
      exact e4 _ _ h0'
    refine q_setL (j := 1) upd_same (ev_call (ea_cons (ev_var rfl) (ea_cons (ev_var rfl) ea_nil)) (spv_near g0 g1 l0 l1)) (ev_var rfl) (ev_op ev_c (ev_var rfl) rv_I0) (by show _ < 2; decide) fun H5 e5 => ?_
    exact s_ret (ev_var rfl) fun H6 e6 => k q H6 hn (((Ex.mut (((Ex.mut (e03.trans e4) hn)).trans e5) hn)).trans e6) (e6 _ _ upd_same)
  · refine q_setL (j := 1) hq (ev_call (ea_cons (ev_var rfl) (ea_cons (ev_var rfl) ea_nil)) (spv_near h1' h0' l1 l0)) (ev_var rfl) (ev_var rfl) (by decide) fun H4 e4 => ?_
    have g1 : (upd H4 q (.lst (([.int 0, .int 0] : List V).set 1 (.int (nearer (dist ps 1) (dist ps 0) : Nat))))) q1 = some (.lst ((dist ps 1).map V.int)) := by
      rw [upd_ne ne1.symm]
      exact e4 _ _ h1'
    have g0 : (upd H4 q (.lst (([.int 0, .int 0] : List V).set 1 (.int (nearer (dist ps 1) (dist ps 0) : Nat))))) q0 = some (.lst ((dist ps 0).map V.int)) := by
      rw [upd_ne ne0.symm]
      exact e4 _ _ h0'
    refine q_setL (j := 0) upd_same (ev_call (ea_cons (ev_var rfl) (ea_cons (ev_var rfl) ea_nil)) (spv_near g0 g1 l0 l1)) (ev_var rfl) (ev_op ev_c (ev_var rfl) rv_I0) (by show _ < 2; decide) fun H5 e5 => ?_
    exact s_ret (ev_var rfl) fun H6 e6 => k q H6 hn (((Ex.mut (((Ex.mut (e03.trans e4) hn)).trans e5) hn)).trans e6) (e6 _ _ upd_same)

/-! ### the stones that a list tells -/
theorem tyes_if {σ : L2.St} {H : Hp} {A B : Hp → Prop} (h : A H) : tYes σ H (fun b H3 => if b = true then A H3 else B H3) := by
  show (if true = true then A H else B H)
  rw [if_pos rfl]
  exact h
def spStones : Sp := fun vs H Q _ => ∃ b ns, vs = [.ref b] ∧ H b = some (.lst (ns.map V.int)) ∧ ns.length ≤ 1000 ∧ (∀ n ∈ ns, -2147483648 ≤ n ∧ n ≤ 2147483647) ∧ ∀ p H2, Ex H H2 → Sts H2 p (stonesOf ns) → Q (.ref p) H2
theorem atI_ints {ns : List Int} {i : Int} {j : Nat} (e : i = (j : Int)) (hj : j < ns.length) : atI (ns.map V.int) i = some (.int (ns.getD j 0)) := by
  rw [e]
  refine atI_nat ?_
  rw [List.getElem?_map, List.getElem?_eq_getElem hj]
  simp [List.getElem?_eq_getElem hj]
theorem sc_stones_of : FnScope ["numbers", "k"] ["numbers"] (defScope st_stones_of) := ⟨rfl, rfl, rfl, by decide +kernel, rfl, by decide +kernel, by decide +kernel⟩
theorem ok_stones_of (T : Tx K mg a) : Ok P w K mg base 1 a.stones_of ["numbers"] spStones := by
  refine T.d_stones_of.ok sc_stones_of (by rintro vs H Q E ⟨b, ns, rfl, _⟩; rfl) (fun cdv A outer s H vs Q E hr h => ?_)
  obtain ⟨b, ns, rfl, hb, hz, hs, k⟩ := h
  refine ⟨_, (pss_one (ps_ret (pe_lc (own := [("k", 1)]) (g := gName 1) (by rfl) sc_stones_of.nd (pi_range1 (by rfl) T.b_range (pa_cons (pe_op op_fdiv (pe_callB (call_lenK K) (by rfl) T.b_len (by decide +kernel) (pa_cons (pv 0) pa_nil)) pe_int) pa_nil)) (blkOk_by (N := ["numbers", "k"]) (sc := (defScope st_stones_of)) (by decide +kernel)) (fun _ _ _ _ _ => (pg_name (i := 1) sc_stones_of.nd rfl (by first | exact Or.inl rfl | exact Or.inr rfl))) (fun _ _ _ _ _ => pts_nil) (fun _ _ _ _ _ => (pe_tup (pa_cons (pe_ix (ix_listK K) (pv 0) (pe_op op_mul pe_int (pv 1)) (fun _ _ => rfl)) (pa_cons (pe_ix (ix_listK K) (pv 0) (pe_op op_add (pe_op op_mul pe_int (pv 1)) pe_int) (fun _ _ => rfl)) (pa_cons (pe_ix (ix_listK K) (pv 0) (pe_op op_add (pe_op op_mul pe_int (pv 1)) pe_int) (fun _ _ => rfl)) pa_nil)))))))), ?_⟩
  have en : (((ns.map V.int).length : Nat) : Int) / 3 = ((ns.length / 3 : Nat) : Int) := by
    rw [List.length_map]
    omega
  have hn := ev_op (ev_len (K := K) (ta := tVar 0) (σ := start ["numbers", "k"] [.ref b]) (H := H) (ev_var rfl) (sq_of hb)) (ev_c (v := .int 3)) (rv_I (C := CDiv) (g := fun i j => .int (i / j)) ⟨by decide, by decide⟩)
  rw [en] at hn
  have hlen : (stonesOf ns).length = ns.length / 3 := by
    unfold stonesOf
    rw [List.length_map, List.length_range]
  refine s_retE (ex_lcR1 (fun D i H' => Ex H H' ∧ H D = none ∧ ∃ vs, H' D = some (.lst vs) ∧ StsV H' vs ((stonesOf ns).take i)) (ea_cons hn ea_nil) (by omega) (fun D H1 e1 hD => ⟨e1.trans (Ex.new hD), fresh_back e1 hD, [], upd_same, rfl, fun i v p h _ => by simp at h⟩) (fun _ => rfl) (fun D i H' hi hP => ?_)) (fun v H' hP => ?_)
  · obtain ⟨eH, hnD, us, hD', hus⟩ := hP
    have hb' : SqL K H' b (ns.map V.int) := sq_of (eH _ _ hb)
    have m3 : ∀ (σ : L2.St), σ[1]? = some (some (.int (i : Int))) → Ev (tOp (rI CMul fun i j => .int (i * j)) (tC (.int 3)) (tVar 1)) σ H' (.int (3 * (i : Int))) := fun σ hσ => ev_op ev_c (ev_var hσ) (rv_I (.inl (by omega)))
    have hi1 : 3 * i + 2 < ns.length := by omega
    have m4 : ∀ (c : Int) (σ : L2.St), σ[1]? = some (some (.int (i : Int))) → Ev (tOp (rI0 fun i j => .int (i + j)) (tOp (rI CMul fun i j => .int (i * j)) (tC (.int 3)) (tVar 1)) (tC (.int c))) σ H' (.int (3 * (i : Int) + c)) := fun c σ hσ => ev_op (m3 σ hσ) ev_c rv_I0
    refine tyes_if ?_
    have hU := eu_tup (σ := [some (.ref b), some (.int (i : Int))]) (ea_cons (ev_op (ev_var (i := 0) rfl) (m3 _ rfl) (rv_ixL hb' (atI_ints (j := 3 * i) (by omega) (by omega)))) (ea_cons (ev_op (ev_var (i := 0) rfl) (m4 1 _ rfl) (rv_ixL hb' (atI_ints (j := 3 * i + 1) (by omega) (by omega))))
      (ea_cons (ev_op (ev_var (i := 0) rfl) (m4 2 _ rfl) (rv_ixL hb' (atI_ints (j := 3 * i + 2) (by omega) (by omega)))) ea_nil))) (by show 3 ≤ 100000; decide)
    refine hU H' (Ex.refl H') _ fun p H2 np e2 hp => ?_
    have hul : us.length = i := by
      rw [hus.1, List.length_take, hlen]
      omega
    have hg : ∀ j, j < ns.length → -2147483648 ≤ ns.getD j 0 ∧ ns.getD j 0 ≤ 2147483647 := fun j hj => by
      have e : ns.getD j 0 = ns[j] := by simp [List.getElem?_eq_getElem hj]
      rw [e]
      exact hs _ (List.getElem_mem hj)
    have hst : StT H2 p ⟨ns.getD (3 * i) 0, ns.getD (3 * i + 1) 0, ns.getD (3 * i + 2) 0⟩ := ⟨hp, hg _ (by omega), hg _ (by omega)⟩
    have hgi : (stonesOf ns)[i]? = some ⟨ns.getD (3 * i) 0, ns.getD (3 * i + 1) 0, ns.getD (3 * i + 2) 0⟩ := by
      unfold stonesOf
      rw [List.getElem?_map, List.getElem?_range (by omega)]
      rfl
    have hDp : D ≠ p := ne_of_none hD' np
    have hup : ∀ q o, q ≠ D → H2 q = some o → (upd H2 D (.lst (us ++ [.ref p]))) q = some o := fun q o hq h => by
      rw [upd_ne hq]
      exact h
    refine ⟨us, e2 _ _ hD', small1000 (by omega), Ex.mut (eH.trans e2) hnD, hnD, us ++ [.ref p], upd_same, ?_, ?_⟩
    · rw [take_more hgi, List.length_append, List.length_append, hus.1]
      rfl
    · intro j v q hv hq
      have tupne : ∀ c q, StT H2 c q → c ≠ D := fun c q h => by
        refine ne_of h.1 (e2 _ _ hD') ?_
        intro z
        cases z
      by_cases hj : j < i
      · rw [List.getElem?_append_left (by omega)] at hv
        rw [take_more hgi, List.getElem?_append_left (by rw [← hus.1]; omega)] at hq
        obtain ⟨c, ec, hc⟩ := hus.2 j v q hv hq
        have hc2 := hc.mono e2
        exact ⟨c, ec, hup _ _ (tupne c q hc2) hc2.1, hc2.2⟩
      · have hji : j = i := by
          have := (List.getElem?_eq_some_iff.mp hv).1
          rw [List.length_append, List.length_singleton] at this
          omega
        subst hji
        rw [List.getElem?_append_right (by omega), hul, Nat.sub_self] at hv
        rw [take_more hgi, List.getElem?_append_right (by rw [← hus.1]; omega), ← hus.1, hul, Nat.sub_self] at hq
        cases hv
        cases hq
        exact ⟨p, rfl, hup _ _ (tupne p _ hst) hst.1, hst.2⟩
  · obtain ⟨D, rfl, eH, hnD, us, hD', hus⟩ := hP
    have e9 : (stonesOf ns).take (ns.length / 3) = stonesOf ns := by
      rw [← hlen, List.take_length]
    rw [e9] at hus
    exact k D H' eH ⟨us, hD', hus⟩

/-! ### the stone of a number -/
def WN (H : Hp) (v : V) : Option P3 → Prop
  | none => v = .non
  | some p => ∃ c, v = .ref c ∧ StT H c p
def spWN : Sp := fun vs H Q _ => ∃ b ps n, vs = [.ref b, .int n] ∧ Sts H b ps ∧ ps.length ≤ 1000 ∧ ∀ v H2, Ex H H2 → WN H2 v (find ps n) → Q v H2
theorem dec_v (i j : Int) : decide (V.int i = V.int j) = decide (i = j) := by
  rw [decide_eq_decide]
  exact ⟨fun h => by injection h, fun h => by rw [h]⟩
theorem sc_with_number : FnScope ["stones", "number", "stone"] ["stones", "number"] (defScope st_with_number) := ⟨rfl, rfl, rfl, by decide +kernel, rfl, by decide +kernel, by decide +kernel⟩
theorem ok_with_number (T : Tx K mg a) : Ok P w K mg base 1 a.with_number ["stones", "number"] spWN := by
  refine T.d_with_number.ok sc_with_number (by rintro vs H Q E ⟨b, ps, n, rfl, _⟩; rfl) (fun cdv A outer s H vs Q E hr h => ?_)
  obtain ⟨b, ps, n, rfl, ⟨us, hb, hus⟩, hz, k⟩ := h
  refine ⟨_, (pss_cons (ps_for PassesOwn.never rfl (pi_listK K (pv 0)) (pg_name (i := 2) sc_with_number.nd rfl (by first | exact Or.inl rfl | exact Or.inr rfl)) (pss_one (ps_if (pt_cmpR op_eq (pe_ix (ix_tupK K) (pv 2) pe_int (fun _ _ => rfl)) (pv 1) (nomark _)) (pss_one (ps_ret (pv 2))) pss_nil)))
      (pss_one (ps_ret pe_non))), ?_⟩
  refine q_forLn (xs := us) (ev_var rfl) (sq_of hb) (fun i σ' H' => Ex H H' ∧ (∃ v, σ' = [some (.ref b), some (.int n), v]) ∧ ∀ p ∈ ps.take i, ¬ p.n = n) (fun H1 e1 => ⟨e1, ⟨none, rfl⟩, by simp⟩) (fun i σ' H' _ ⟨e1, _⟩ => sq_of (e1 _ _ hb)) ?_ ?_
  · rintro i x σ' H' hi ⟨e1, ⟨v, rfl⟩, hno⟩
    obtain ⟨p, c, hp, rfl, hc⟩ := hus.get hi
    have hc1 := hc.mono e1
    refine s_when (et_test (ev_op (ix0 (ev_var rfl) hc1) (ev_var rfl) (rv_eq rfl))) (fun hb1 H2 e2 => ?_) (fun hb1 H2 e2 => ?_)
    · rw [dec_v] at hb1
      refine s_ret (ev_var rfl) fun H3 e3 => k _ H3 ((e1.trans e2).trans e3) ?_
      have ef : find ps n = some p := by
        unfold find
        have e : ps = ps.take i ++ p :: ps.drop (i + 1) := by
          have h1 := List.take_append_drop (i + 1) ps
          rw [take_more hp, List.append_assoc] at h1
          exact h1.symm
        rw [e, List.find?_append, List.find?_eq_none.mpr (fun q hq => by simpa using hno q hq), List.find?_cons_of_pos (by exact hb1)]
        rfl
      rw [ef]
      exact ⟨c, rfl, (hc1.mono e2).mono e3⟩
    · rw [dec_v] at hb1
      refine ⟨e1.trans e2, ⟨_, rfl⟩, fun q hq => ?_⟩
      rw [take_more hp] at hq
      rcases List.mem_append.mp hq with h | h
      · exact hno q h
      · have e : q = p := by simpa using h
        subst e
        exact of_decide_eq_false hb1
  · rintro σ' H' ⟨e1, ⟨v, rfl⟩, hno⟩
    refine s_ret ev_c fun H2 e2 => k _ H2 (e1.trans e2) ?_
    have ef : find ps n = none := by
      unfold find
      rw [List.find?_eq_none]
      intro q hq
      rw [hus.1, List.take_length] at hno
      simpa using hno q hq
    rw [ef]
    rfl

def R3w (vs : List V) (H : Hp) (v : V) : Prop := ∃ b c g ps, vs = [.ref b, .ref c] ∧ StT H b g ∧ Sts H c ps ∧ ps.length ≤ 1000 ∧ v = .bl (wronged g ps)
theorem sc_is_wronged : FnScope ["guard", "stones", "found"] ["guard", "stones"] (defScope st_is_wronged) := ⟨rfl, rfl, rfl, by decide +kernel, rfl, by decide +kernel, by decide +kernel⟩
theorem ok_is_wronged (T : Tx K mg a) : Ok P w K mg base 2 a.is_wronged ["guard", "stones"] (spV R3w) := by
  refine T.d_is_wronged.ok sc_is_wronged (by rintro vs H Q E ⟨v, ⟨b, c, g, ps, rfl, _⟩, _⟩; rfl) (fun cdv A outer s H vs Q E hr h => ?_)
  obtain ⟨v, ⟨b, c, g, ps, rfl, hg, hx, hz, rfl⟩, k⟩ := h
  refine ⟨_, (pss_cons (ps_set (i := 2) sc_is_wronged.nd rfl (by first | exact Or.inl rfl | exact Or.inr rfl) (pe_c (ok_with_number T) (hr.mono (by decide)) rfl T.g_with_number (pa_cons (pv 1) (pa_cons (pe_ix (ix_tupK K) (pv 0) pe_int (fun _ _ => rfl)) pa_nil))))
      (pss_cons (ps_if (pt_cmpR op_isN (pv 2) pe_non (nomark _)) (pss_one (ps_ret pe_bl)) pss_nil)
      (pss_one (ps_ret (pe_and (pe_c (ok_is_on_middle T) (hr.mono (by decide)) rfl T.g_is_on_middle (pa_cons (pv 0) pa_nil)) (pe_one (pe_not (pe_c (ok_is_on_middle T) (hr.mono (by decide)) rfl T.g_is_on_middle (pa_cons (pv 2) pa_nil))))))))), ?_⟩
  refine q_asgE (PV := fun v H' => Ex H H' ∧ WN H' v (find ps g.n)) (ex_call (ea_cons (ev_var rfl) (ea_cons (ix0 (ev_var rfl) hg) ea_nil)) fun H1 e1 Q E q => ⟨c, ps, g.n, rfl, hx.mono e1, hz, fun v H2 e2 hv => q v H2 ⟨e1.trans e2, hv⟩⟩) fun v H2 hP => ?_
  obtain ⟨e12, hv⟩ := hP
  unfold wronged at k
  cases hf : find ps g.n with
  | none =>
    rw [hf] at hv k
    cases hv
    refine q_when (b := true) (et_test (ev_op (ev_var rfl) ev_c (rv_val fun H3 _ Q q => ⟨rfl, q⟩))) (fun _ H3 e3 => ?_) (fun hb1 => by cases hb1)
    exact s_ret ev_c fun H4 e4 => k H4 ((e12.trans e3).trans e4)
  | some p =>
    rw [hf] at hv k
    obtain ⟨d, rfl, hd⟩ := hv
    refine q_when (b := false) (et_test (ev_op (ev_var rfl) ev_c (rv_val fun H3 _ Q q => ⟨rfl, q⟩))) (fun hb1 => by cases hb1) (fun _ H3 e3 => ?_)
    exact s_ret (ev_andV (ev_1 (ev_var rfl) (hg.mono (e12.trans e3))) fun _ => ev_notV (ev_1 (ev_var rfl) (hd.mono e3))) fun H4 e4 => k H4 ((e12.trans e3).trans e4)

def RBrk (vs : List V) (H : Hp) (v : V) : Prop := ∃ b c ps qs d, vs = [.ref b, .ref c, .int d] ∧ Sts H b ps ∧ Sts H c qs ∧ ps.length ≤ 1000 ∧ v = .bl (breaks ps qs d)
theorem any_false {α : Type} {l : List α} {p : α → Bool} (h : ∀ x ∈ l, p x = false) : l.any p = false := by
  rw [List.any_eq_false]
  intro x hx
  rw [h x hx]
  decide
theorem sc_breaks_rule : FnScope ["stones", "ahead", "delivered", "stone"] ["stones", "ahead", "delivered"] (defScope st_breaks_rule) := ⟨rfl, rfl, rfl, by decide +kernel, rfl, by decide +kernel, by decide +kernel⟩
theorem ok_breaks_rule (T : Tx K mg a) : Ok P w K mg base 4 a.breaks_rule ["stones", "ahead", "delivered"] (spV RBrk) := by
  refine T.d_breaks_rule.ok sc_breaks_rule (by rintro vs H Q E ⟨v, ⟨b, c, ps, qs, d, rfl, _⟩, _⟩; rfl) (fun cdv A outer s H vs Q E hr h => ?_)
  obtain ⟨v, ⟨b, c, ps, qs, d, rfl, hx, ⟨us, hb, hus⟩, hz, rfl⟩, k⟩ := h
  refine ⟨_, (pss_cons (ps_if (pt_cmpR op_ge (pv 2) (pe_k rfl T.k_FREE_STONES) (nomark _)) (pss_one (ps_ret pe_bl)) pss_nil)
      (pss_cons (ps_for PassesOwn.never rfl (pi_listK K (pv 1)) (pg_name (i := 3) sc_breaks_rule.nd rfl (by first | exact Or.inl rfl | exact Or.inr rfl)) (pss_one (ps_if (PW.pt (pw_and (pt_cmpR op_ne (pe_op op_mod (pe_ix (ix_tupK K) (pv 3) pe_int (fun _ _ => rfl)) pe_int) (pe_op op_mod (pv 2) pe_int) (nomark _)) (pw_and (pt_val (pe_c (ok_is_guard T) (hr.mono (by decide)) rfl T.g_is_guard (pa_cons (pv 3) pa_nil))) (pw_and1 (pt_val (pe_c (ok_is_wronged T) (hr.mono (by decide)) rfl T.g_is_wronged (pa_cons (pv 3) (pa_cons (pv 0) pa_nil)))))))) (pss_one (ps_ret pe_bl)) pss_nil)))
      (pss_one (ps_ret pe_bl)))), ?_⟩
  unfold breaks at k
  refine q_when (et_test (ev_op (ev_var rfl) ev_c rv_I0)) (fun h5 H1 e1 => ?_) (fun h5 H1 e1 => ?_)
  · have h5 : (5 : Int) ≤ d := of_decide_eq_true h5
    rw [if_pos h5] at k
    exact s_ret ev_c fun H2 e2 => k H2 (e1.trans e2)
  · have h5 : ¬ (5 : Int) ≤ d := of_decide_eq_false h5
    rw [if_neg h5] at k
    refine q_forLn (xs := us) (ev_var rfl) (sq_of (e1 _ _ hb)) (fun i σ' H' => Ex H H' ∧ (∃ v, σ' = [some (.ref b), some (.ref c), some (.int d), v]) ∧ ∀ p ∈ qs.take i, (!decide (p.n % 2 = d % 2) && (guard p && wronged p ps)) = false) (fun H2 e2 => ⟨e1.trans e2, ⟨none, rfl⟩, by simp⟩) (fun i σ' H' _ ⟨e2, _⟩ => sq_of (e2 _ _ hb)) ?_ ?_
    · rintro i x σ' H' hi ⟨e2, ⟨v, rfl⟩, hno⟩
      obtain ⟨p, e, hp, rfl, hc⟩ := hus.get hi
      have hc1 := hc.mono e2
      have ht : EvT (tAnd (tTest (tOp rNe (tOp (rI (fun _ j => 0 < j) fun i j => .int (i % j)) (tOp (rIxT K) (tVar 3) (tC (.int 0))) (tC (.int 2))) (tOp (rI (fun _ j => 0 < j) fun i j => .int (i % j)) (tVar 2) (tC (.int 2)))))
          (tAnd (tB (tCall (spV (R1 fun p => .bl (guard p))) [] E0 (tCons (tVar 3) tNil))) (tB (tCall (spV R3w) [] E0 (tCons (tVar 3) (tCons (tVar 0) tNil))))))
          [some (.ref b), some (.ref c), some (.int d), some (.ref e)] H' (!decide (p.n % 2 = d % 2) && (guard p && wronged p ps)) := by
        have q1 := et_test (ev_op (ev_op (ix0 (K := K) (ev_var (i := 3) (σ := [some (.ref b), some (.ref c), some (.int d), some (.ref e)]) rfl) hc1) (ev_c (v := .int 2)) (rv_I (C := fun _ j => 0 < j) (g := fun i j => .int (i % j)) (by decide))) (ev_op (ev_var (i := 2) rfl) (ev_c (v := .int 2)) (rv_I (C := fun _ j => 0 < j) (g := fun i j => .int (i % j)) (by decide))) (rv_ne rfl))
        rw [dec_v] at q1
        refine et_and q1 fun _ => et_and (et_B (ev_1 (ev_var rfl) hc1)) fun _ => et_B (ev_call (ea_cons (ev_var rfl) (ea_cons (ev_var rfl) ea_nil)) (spV_of ⟨e, b, p, ps, rfl, hc1, hx.mono e2, hz, rfl⟩ fun H3 e3 => ⟨e, b, p, ps, rfl, hc1.mono e3, (hx.mono e2).mono e3, hz, rfl⟩))
      refine s_when ht (fun hb1 H2 e3 => ?_) (fun hb1 H2 e3 => ?_)
      · have ek : (qs.any fun p => !decide (p.n % 2 = d % 2) && (guard p && wronged p ps)) = true := List.any_eq_true.mpr ⟨p, List.mem_of_getElem? hp, hb1⟩
        rw [ek] at k
        exact s_ret ev_c fun H3 e4 => k H3 ((e2.trans e3).trans e4)
      · refine ⟨e2.trans e3, ⟨_, rfl⟩, fun q hq => ?_⟩
        rw [take_more hp] at hq
        rcases List.mem_append.mp hq with h | h
        · exact hno q h
        · have e : q = p := by simpa using h
          subst e
          exact hb1
    · rintro σ' H' ⟨e2, ⟨v, rfl⟩, hno⟩
      rw [hus.1, List.take_length] at hno
      rw [any_false hno] at k
      exact s_ret ev_c fun H3 e3 => k H3 (e2.trans e3)
end
end Cm
namespace Cm
open PySem PySem.Spec PyProof.Rows L2 Evl
theorem inV_ints (n : Int) (ns : List Int) : inV (.int n) (ns.map V.int) = decide (n ∈ ns) := by
  unfold inV
  rw [List.any_map, Bool.eq_iff_iff, List.any_eq_true, decide_eq_true_eq]
  constructor
  · rintro ⟨m, hm, e⟩
    have e : m = n := by simpa [eqV] using e
    rw [← e]
    exact hm
  · intro h
    exact ⟨n, h, by simp [eqV]⟩
theorem flat_ints (ns : List Int) : (ns.map V.int).all flatV = true := by
  rw [List.all_map, List.all_eq_true]
  intro x _
  rfl
theorem cut_to (xs : List V) (k : Nat) (hk : k ≤ xs.length) : cutV xs none (some (k : Int)) = xs.take k := by
  unfold cutV
  rw [HT.sIx_none, HT.sIx_nat, List.drop_zero, Nat.sub_zero, Nat.min_eq_left hk]
theorem cut_mid (xs : List V) (i j : Nat) (hj : j ≤ xs.length) (hi : i ≤ j) : cutV xs (some (i : Int)) (some (j : Int)) = (xs.drop i).take (j - i) := by
  unfold cutV
  rw [HT.sIx_nat, HT.sIx_nat, Nat.min_eq_left hj, Nat.min_eq_left (Nat.le_trans hi hj)]
section
variable {P : Program} {w : World} {K : PySem.W.Frag} {mg : Str → Option Value} {base : Heap} {a : Ad}

/-- a def of one list of stones -/
def RL (g : List P3 → V) (vs : List V) (H : Hp) (v : V) : Prop := ∃ b ps, vs = [.ref b] ∧ Sts H b ps ∧ ps.length ≤ 1000 ∧ v = g ps
theorem spvL {g : List P3 → V} {H : Hp} {b : Addr} {ps : List P3} (hx : Sts H b ps) (hz : ps.length ≤ 1000) : SpV (spV (RL g)) [.ref b] H (g ps) := spV_of ⟨b, ps, rfl, hx, hz, rfl⟩ fun H1 e => ⟨b, ps, rfl, hx.mono e, hz, rfl⟩
theorem RL_len {g : List P3 → V} : ∀ vs H Q E, spV (RL g) vs H Q E → vs.length = 1 := by
  rintro vs H Q E ⟨v, ⟨a, p, rfl, _⟩, _⟩
  rfl
theorem nd_false {l : List Int} {i : Nat} {x : Int} (hx : l[i]? = some x) (h : x ∈ l.take i) : ¬ l.Nodup := by
  intro nd
  have e : l.take (i + 1) = l.take i ++ [x] := take_more hx
  have h1 : (l.take (i + 1)).Nodup := List.Sublist.nodup (List.take_sublist _ _) nd
  rw [e, List.nodup_append] at h1
  exact h1.2.2 x h x (by simp) rfl
theorem sc_are_unlike : FnScope ["stones", "numbers", "k"] ["stones"] (defScope st_are_unlike) := ⟨rfl, rfl, rfl, by decide +kernel, rfl, by decide +kernel, by decide +kernel⟩
theorem ok_are_unlike (T : Tx K mg a) : Ok P w K mg base 2 a.are_unlike ["stones"] (spV (RL fun ps => .bl (unlike ps))) := by
  refine T.d_are_unlike.ok sc_are_unlike RL_len (fun cdv A outer s H vs Q E hr h => ?_)
  obtain ⟨v, ⟨b, ps, rfl, hx, hz, rfl⟩, k⟩ := h
  replace k : RetV (.bl (unlike ps)) H Q := k
  refine ⟨_, (pss_cons (ps_set (i := 1) sc_are_unlike.nd rfl (by first | exact Or.inl rfl | exact Or.inr rfl) (pe_c (ok_numbers_of T) (hr.mono (by decide)) rfl T.g_numbers_of (pa_cons (pv 0) pa_nil)))
      (pss_cons (ps_for PassesOwn.never rfl (pi_range1 (by rfl) T.b_range (pa_cons (pe_callB (call_lenK K) (by rfl) T.b_len (by decide +kernel) (pa_cons (pv 1) pa_nil)) pa_nil)) (pg_name (i := 2) sc_are_unlike.nd rfl (by first | exact Or.inl rfl | exact Or.inr rfl)) (pss_one (ps_if (pt_cmpR (op_inK K) (pe_ix (ix_listK K) (pv 1) (pv 2) (fun _ _ => rfl)) (pe_slice (sl_listK K) (pv 1) po_none (po_some (pv 2))) (by rfl)) (pss_one (ps_ret pe_bl)) pss_nil)))
      (pss_one (ps_ret pe_bl)))), ?_⟩
  refine q_asgL (el_call (ea_cons (ev_var rfl) ea_nil) (spl_num hx hz)) fun q H1 nq e1 hq => ?_
  have hl : ((ps.map (·.n)).map V.int).length = ps.length := by rw [List.length_map, List.length_map]
  refine q_forR1 (ea_cons (ev_len (ev_var rfl) (sq_of hq)) ea_nil) (by rw [hl]; omega) (fun i σ' H' => Ex H1 H' ∧ (∃ v, σ' = [some (.ref b), some (.ref q), v]) ∧ ((ps.map (·.n)).take i).Nodup) (fun H2 e2 => ⟨e2, ⟨none, rfl⟩, by simp⟩) ?_ ?_
  · rintro i σ' H' hi ⟨e2, ⟨v, rfl⟩, hnd⟩
    rw [hl] at hi
    have hi : i < ps.length := by omega
    have hxi : (ps.map (·.n))[i]? = some (ps[i]).n := by
      rw [List.getElem?_map, List.getElem?_eq_getElem hi]
      rfl
    have hq2 := sq_of (K := K) (e2 _ _ hq)
    have hc : cutV ((ps.map (·.n)).map V.int) none (some (i : Int)) = ((ps.map (·.n)).take i).map V.int := by
      rw [cut_to _ _ (by rw [hl]; omega), List.map_take]
    have hS := el_sl (K := K) (σ := [some (.ref b), some (.ref q), some (.int (i : Int))]) (te := tVar 1) (tl := tNoPart) (th := tPart (tVar 2)) (ev_var rfl) eo_none (eo_some (ev_var rfl)) hq2
    rw [hc] at hS
    have ht := et_test (ev_opL (r := rIn K false) (ev_op (ta := tVar 1) (tb := tVar 2) (σ := [some (.ref b), some (.ref q), some (.int (i : Int))]) (ev_var rfl) (ev_var rfl) (rv_ixL hq2 (atI_nat (j := i) (by rw [List.getElem?_map, hxi]; rfl)))) hS fun p H3 h3 e3 => rv_isL (sq_of h3) (x := .int (ps[i]).n) rfl (flat_ints _))
    rw [inV_ints] at ht
    refine s_when ht (fun hb1 H3 e3 => ?_) (fun hb1 H3 e3 => ?_)
    · have hm := of_decide_eq_true hb1
      have ek : unlike ps = false := decide_eq_false (nd_false hxi hm)
      rw [ek] at k
      exact s_ret ev_c fun H4 e4 => k H4 (((e1.trans e2).trans e3).trans e4)
    · refine ⟨e2.trans e3, ⟨_, rfl⟩, ?_⟩
      rw [take_more hxi, List.nodup_append]
      refine ⟨hnd, by simp, ?_⟩
      intro x hx y hy e
      have hy : y = (ps[i]).n := by simpa using hy
      subst hy
      subst e
      exact of_decide_eq_false hb1 hx
  · rintro σ' H' ⟨e2, ⟨v, rfl⟩, hnd⟩
    rw [hl] at hnd
    have e9 : ((ps.length : Nat) : Int).toNat = (ps.map (·.n)).length := by rw [List.length_map]; omega
    rw [e9, List.take_length] at hnd
    have ek : unlike ps = true := decide_eq_true hnd
    rw [ek] at k
    exact s_ret ev_c fun H3 e3 => k H3 ((e1.trans e2).trans e3)

theorem sts_at {H : Hp} {b : Addr} {us : List V} {ps : List P3} (hus : StsV H us ps) {i : Nat} (hi : i < ps.length) : ∃ c, us[i]? = some (.ref c) ∧ StT H c ps[i] := by
  have hu : i < us.length := by rw [hus.1]; exact hi
  have h1 : us[i]? = some us[i] := List.getElem?_eq_getElem hu
  obtain ⟨p, c, hp, ec, hc⟩ := hus.get h1
  rw [List.getElem?_eq_getElem hi] at hp
  cases hp
  exact ⟨c, by rw [h1, ec], hc⟩
theorem sc_all_clear : FnScope ["stones", "k", "other"] ["stones"] (defScope st_all_clear) := ⟨rfl, rfl, rfl, by decide +kernel, rfl, by decide +kernel, by decide +kernel⟩
theorem ok_all_clear (T : Tx K mg a) : Ok P w K mg base 2 a.all_clear ["stones"] (spV (RL fun ps => .bl (clearB ps))) := by
  refine T.d_all_clear.ok sc_all_clear RL_len (fun cdv A outer s H vs Q E hr h => ?_)
  obtain ⟨v, ⟨b, ps, rfl, ⟨us, hb, hus⟩, hz, rfl⟩, k⟩ := h
  replace k : RetV (.bl (clearB ps)) H Q := k
  refine ⟨_, (pss_cons (ps_for PassesOwn.never rfl (pi_range1 (by rfl) T.b_range (pa_cons (pe_callB (call_lenK K) (by rfl) T.b_len (by decide +kernel) (pa_cons (pv 0) pa_nil)) pa_nil)) (pg_name (i := 1) sc_all_clear.nd rfl (by first | exact Or.inl rfl | exact Or.inr rfl)) (pss_one (ps_for PassesOwn.never rfl (pi_listK K (pe_slice (sl_listK K) (pv 0) po_none (po_some (pv 1)))) (pg_name (i := 2) sc_all_clear.nd rfl (by first | exact Or.inl rfl | exact Or.inr rfl)) (pss_one (ps_if (pt_not (pt_val (pe_c (ok_lie_clear T) (hr.mono (by decide)) rfl T.g_lie_clear (pa_cons (pe_ix (ix_listK K) (pv 0) (pv 1) (fun _ _ => rfl)) (pa_cons (pv 2) pa_nil))))) (pss_one (ps_ret pe_bl)) pss_nil)))))
      (pss_one (ps_ret pe_bl))), ?_⟩
  refine q_forR1 (ea_cons (ev_len (ev_var rfl) (sq_of hb)) ea_nil) (by rw [hus.1]; omega) (fun i σ' H' => Ex H H' ∧ (∃ u v, σ' = [some (.ref b), u, v]) ∧ (ps.take i).Pairwise (fun x y => clear x y = true)) (fun H2 e2 => ⟨e2, ⟨none, none, rfl⟩, by simp⟩) ?_ ?_
  · rintro i σ' H' hi ⟨e2, ⟨u, v, rfl⟩, hpw⟩
    rw [hus.1] at hi
    have hi : i < ps.length := by omega
    obtain ⟨c, hci, hc⟩ := sts_at (b := b) hus hi
    have hb2 := sq_of (K := K) (e2 _ _ hb)
    have hS := el_sl (K := K) (σ := [some (.ref b), some (.int (i : Int)), v]) (te := tVar 0) (tl := tNoPart) (th := tPart (tVar 1)) (ev_var rfl) eo_none (eo_some (ev_var rfl)) hb2
    rw [cut_to _ _ (by rw [hus.1]; omega)] at hS
    refine s_forNL hS (fun q j σ' H3 => Ex H' H3 ∧ H3 q = some (.lst (us.take i)) ∧ (∃ v, σ' = [some (.ref b), some (.int (i : Int)), v]) ∧ ∀ p ∈ (ps.take i).take j, clear ps[i] p = true) (fun q H3 nq e3 hq => ⟨e3, hq, ⟨_, rfl⟩, by simp⟩) (fun q j σ' H3 _ ⟨_, hq, _⟩ => sq_of hq) ?_ ?_
    · rintro q j x σ' H3 hj ⟨e3, hq, ⟨v, rfl⟩, hcl⟩
      have hji : j < i := by
        have := (List.getElem?_eq_some_iff.mp hj).1
        rw [List.length_take] at this
        omega
      have hj' : us[j]? = some x := by
        rw [List.getElem?_take] at hj
        rw [if_pos hji] at hj
        exact hj
      obtain ⟨p, d, hp, rfl, hd⟩ := hus.get hj'
      have e03 := e2.trans e3
      have ht := et_not (et_B (ev_call (sp := spV (R2s fun p q => .bl (clear p q))) (E := E0) (dvs := []) (ea_cons (ev_op (ta := tVar 0) (tb := tVar 1) (σ := [some (.ref b), some (.int (i : Int)), some (.ref d)]) (ev_var rfl) (ev_var rfl) (rv_ixL (sq_of (K := K) (e03 _ _ hb)) (atI_nat (j := i) hci))) (ea_cons (ev_var (i := 2) rfl) ea_nil))
        (z := .bl (clear ps[i] p)) (spV_of ⟨c, d, ps[i], p, rfl, hc.mono e03, hd.mono e03, rfl⟩ fun H4 e4 => ⟨c, d, ps[i], p, rfl, (hc.mono e03).mono e4, (hd.mono e03).mono e4, rfl⟩)))
      refine s_when ht (fun hb1 H4 e4 => ?_) (fun hb1 H4 e4 => ?_)
      · have ek : clearB ps = false := by
          cases hcb : clearB ps with
          | false => rfl
          | true =>
            rw [clearB_iff] at hcb
            have h1 : (ps.take (i + 1)).Pairwise (fun x y => clear x y = true) := List.Pairwise.sublist (List.take_sublist _ _) hcb
            rw [take_more (List.getElem?_eq_getElem hi), List.pairwise_append] at h1
            have hm : p ∈ ps.take i := by
              refine List.mem_of_getElem? (i := j) ?_
              rw [List.getElem?_take, if_pos hji]
              exact hp
            have h2 := h1.2.2 p hm ps[i] (by simp)
            rw [clear_symm] at h2
            rw [h2] at hb1
            cases hb1
        rw [ek] at k
        exact s_ret ev_c fun H5 e5 => k H5 ((e03.trans e4).trans e5)
      · refine ⟨e3.trans e4, e4 _ _ hq, ⟨_, rfl⟩, fun r hr => ?_⟩
        have hpj : (ps.take i)[j]? = some p := by
          rw [List.getElem?_take, if_pos hji]
          exact hp
        rw [take_more hpj] at hr
        rcases List.mem_append.mp hr with h | h
        · exact hcl r h
        · have e : r = p := by simpa using h
          subst e
          simpa using hb1
    · rintro q σ' H3 ⟨e3, hq, ⟨v, rfl⟩, hcl⟩
      refine ⟨e2.trans e3, ⟨_, _, rfl⟩, ?_⟩
      rw [take_more (List.getElem?_eq_getElem hi), List.pairwise_append]
      refine ⟨hpw, by simp, fun x hx y hy => ?_⟩
      have hy : y = ps[i] := by simpa using hy
      subst hy
      have hl : (us.take i).length = (ps.take i).length := by rw [List.length_take, List.length_take, hus.1]
      rw [hl, List.take_length] at hcl
      rw [clear_symm]
      exact hcl x hx
  · rintro σ' H' ⟨e2, ⟨u, v, rfl⟩, hpw⟩
    have e9 : ((us.length : Nat) : Int).toNat = ps.length := by rw [hus.1]; omega
    rw [e9, List.take_length] at hpw
    have ek : clearB ps = true := (clearB_iff ps).mpr hpw
    rw [ek] at k
    exact s_ret ev_c fun H3 e3 => k H3 (e2.trans e3)

def RCan (vs : List V) (H : Hp) (v : V) : Prop := ∃ b c ps qs d, vs = [.ref b, .ref c, .int d] ∧ Sts H b ps ∧ Sts H c qs ∧ ps.length ≤ 1000 ∧ qs.length ≤ 1000 ∧ v = .bl (canLie ps qs d)
theorem sc_can_lie : FnScope ["stones", "ahead", "delivered", "known", "number", "stone"] ["stones", "ahead", "delivered"] (defScope st_can_lie) := ⟨rfl, rfl, rfl, by decide +kernel, rfl, by decide +kernel, by decide +kernel⟩
theorem ok_can_lie (T : Tx K mg a) : Ok P w K mg base 3 a.can_lie ["stones", "ahead", "delivered"] (spV RCan) := by
  refine T.d_can_lie.ok sc_can_lie (by rintro vs H Q E ⟨v, ⟨b, c, ps, qs, d, rfl, _⟩, _⟩; rfl) (fun cdv A outer s H vs Q E hr h => ?_)
  obtain ⟨v, ⟨b, c, ps, qs, d, rfl, hx, hy, hz, hw, rfl⟩, k⟩ := h
  refine ⟨_, (pss_cons (ps_set (i := 3) sc_can_lie.nd rfl (by first | exact Or.inl rfl | exact Or.inr rfl) (pe_op op_cat (pe_c (ok_numbers_of T) (hr.mono (by decide)) rfl T.g_numbers_of (pa_cons (pv 1) pa_nil)) (pe_lst (pa_cons (pv 2) pa_nil))))
      (pss_cons (ps_if (PW.pt (pw_or (pt_not (pt_val (pe_c (ok_are_unlike T) (hr.mono (by decide)) rfl T.g_are_unlike (pa_cons (pv 0) pa_nil)))) (pw_or1 (pt_not (pt_val (pe_callB (cr_allK K rfl) (by rfl) T.b_all (by decide +kernel) (pa_cons (pe_lc (own := [("number", 4)]) (g := gName 4) (by rfl) sc_can_lie.nd (pi_listK K (pe_c (ok_numbers_of T) (hr.mono (by decide)) rfl T.g_numbers_of (pa_cons (pv 0) pa_nil))) (blkOk_by (N := ["stones", "ahead", "delivered", "known", "number", "stone"]) (sc := (defScope st_can_lie)) (by decide +kernel)) (fun _ _ _ _ _ => (pg_name (i := 4) sc_can_lie.nd rfl (by first | exact Or.inl rfl | exact Or.inr rfl))) (fun _ _ _ _ _ => pts_nil) (fun _ _ _ _ _ => (pe_cmpR (op_inK K) (pv 4) (pv 3) (by rfl)))) pa_nil))))))) (pss_one (ps_ret pe_bl)) pss_nil)
      (pss_one (ps_ret (pe_and (pe_callB (cr_allK K rfl) (by rfl) T.b_all (by decide +kernel) (pa_cons (pe_lc (own := [("stone", 5)]) (g := gName 5) (by rfl) sc_can_lie.nd (pi_listK K (pv 0)) (blkOk_by (N := ["stones", "ahead", "delivered", "known", "number", "stone"]) (sc := (defScope st_can_lie)) (by decide +kernel)) (fun _ _ _ _ _ => (pg_name (i := 5) sc_can_lie.nd rfl (by first | exact Or.inl rfl | exact Or.inr rfl))) (fun _ _ _ _ _ => pts_nil) (fun _ _ _ _ _ => (pe_c (ok_is_in_play T) (hr.mono (by decide)) rfl T.g_is_in_play (pa_cons (pv 5) pa_nil)))) pa_nil)) (pe_one (pe_c (ok_all_clear T) (hr.mono (by decide)) rfl T.g_all_clear (pa_cons (pv 0) pa_nil)))))))), ?_⟩
  refine q_asgL (el_cat (el_call (ea_cons (ev_var rfl) ea_nil) (spl_num hy hw)) (el_lst (ea_cons (ev_var rfl) ea_nil) (by show 1 ≤ 100000; decide)) (by rw [List.length_map, List.length_map]; show qs.length + 1 ≤ _; omega)) fun q H1 nq e1 hq => ?_
  have ekn : (qs.map (·.n)).map V.int ++ [V.int d] = (qs.map (·.n) ++ [d]).map V.int := by
    rw [List.map_append]
    rfl
  rw [ekn] at hq
  have hx1 := hx.mono e1
  have hfl := el_intsN (K := K) (σ := [some (.ref b), some (.ref c), some (.int d), some (.ref q), none, none]) (H := H1) (j := 4) (vs := [4]) (tl := tCall (spL RNum) [] E0 (tCons (tVar 0) tNil)) (te := tOp (rIn K false) (tVar 4) (tVar 3)) (tt := tYes)
    (ns := ps.map (·.n)) (fun _ => true) (fun n => .bl (decide (n ∈ qs.map (·.n) ++ [d]))) (el_call (ea_cons (ev_var rfl) ea_nil) (spl_num hx1 hz)) (by rw [List.length_map]; exact hz) (fun _ => rfl) (fun n H2 e2 => et_yes) (fun n H2 e2 => by
      have r := ev_op (ta := tVar 4) (tb := tVar 3) (σ := [some (.ref b), some (.ref c), some (.int d), some (.ref q), some (.int n), none]) (ev_var (v := .int n) rfl) (ev_var rfl) (rv_isL (sq_of (K := K) (e2 _ _ hq)) (x := .int n) rfl (flat_ints _))
      rw [inV_ints] at r
      exact r)
  rw [filter_all] at hfl
  have hA := ev_allN (K := K) (bs := (ps.map (·.n)).map fun n => decide (n ∈ qs.map (·.n) ++ [d])) (by rw [List.map_map]; exact hfl)
  rw [all_map_id, List.all_map] at hA
  refine q_when (et_or (et_not (et_B (ev_call (ea_cons (ev_var rfl) ea_nil) (spvL hx1 hz)))) fun _ => et_not (et_B hA)) (fun hb1 H2 e2 => ?_) (fun hb1 H2 e2 => ?_)
  · have ek : canLie ps qs d = false := by
      unfold canLie
      rw [if_neg]
      rintro ⟨h1, h2⟩
      have h2' : (ps.all ((fun n => decide (n ∈ qs.map (·.n) ++ [d])) ∘ fun x => x.n)) = true := h2
      rw [h1, h2'] at hb1
      cases hb1
    rw [ek] at k
    exact s_ret ev_c fun H3 e3 => k H3 ((e1.trans e2).trans e3)
  · have ek : canLie ps qs d = (ps.all inPlay && clearB ps) := by
      unfold canLie
      rw [Bool.or_eq_false_iff] at hb1
      rw [if_pos ⟨by simpa using hb1.1, by simpa using hb1.2⟩]
    rw [ek] at k
    have hx2 := hx1.mono e2
    have hp := el_sts (K := K) (σ := [some (.ref b), some (.ref c), some (.int d), some (.ref q), none, none]) (H := H2) (j := 5) (vs := [5]) (tl := tVar 0) (te := tCall (spV (R1 fun p => .bl (inPlay p))) [] E0 (tCons (tVar 5) tNil)) (tt := tYes)
      (fun _ => true) (fun p => .bl (inPlay p)) (ev_var rfl) hx2 hz (fun _ => rfl) (fun c p H3 e3 hc => et_yes) (fun c p H3 e3 hc => ev_1 (ev_var rfl) hc)
    rw [filter_all] at hp
    have hB := ev_allN (K := K) (bs := ps.map inPlay) (by rw [List.map_map]; exact hp)
    rw [all_map_id] at hB
    exact s_ret (ev_andV hB fun _ => ev_call (ea_cons (ev_var rfl) ea_nil) (spvL hx2 hz)) fun H3 e3 => k H3 ((e1.trans e2).trans e3)
end
end Cm
namespace Cm
open PySem PySem.Spec PyProof.Rows L2 Evl
open Kg65 (Game)
/-! ### a match: whole numbers and lists, as the program has them -/
structure GM where
  many : Int
  hammer : Int
  ta : Int
  tb : Int
  p0 : Int
  p1 : Int
  scores : List (Nat × Nat)
  deliv : Int
  stones : List P3
  won : Int
def ofG (G : Game) : GM := ⟨G.ends, G.hammer, G.timeA, G.timeB, (G.total 0 : Nat), (G.total 1 : Nat), G.scores, G.count, G.stones.map ofS, Kg65.opt G.won⟩
/-! ### a match in the heap -/
/-- where its lists lie; ents: where the points of the ends lie -/
structure GV where
  left : Addr
  points : Addr
  ends : Addr
  lying : Addr
  ents : List Addr
def gF (m : GM) (r : GV) : List (Str × V) := [("many", .int m.many), ("hammer", .int m.hammer), ("left", .ref r.left), ("points", .ref r.points), ("ends", .ref r.ends), ("delivered", .int m.deliv), ("lying", .ref r.lying), ("won", .int m.won)]
theorem lk_here {k : Str} {v : V} {l : List (Str × V)} : List.lookup k ((k, v) :: l) = some v := by
  have e : (k == k) = true := beq_self_eq_true k
  simp only [List.lookup, e]
theorem lk_past {k g : Str} {v : V} {l : List (Str × V)} (h : (k == g) = false) : List.lookup k ((g, v) :: l) = List.lookup k l := by
  simp only [List.lookup, h]
theorem put_here {f : Str} {v x : V} {l : List (Str × V)} : putF f v ((f, x) :: l) = (f, v) :: l := if_pos rfl
theorem put_past {f g : Str} {v x : V} {l : List (Str × V)} (h : ¬ g = f) : putF f v ((g, x) :: l) = (g, x) :: putF f v l := if_neg h
theorem gf_many (m : GM) (r : GV) : (gF m r).lookup ("many" : Str) = some (.int m.many) := lk_here
theorem gf_hammer (m : GM) (r : GV) : (gF m r).lookup ("hammer" : Str) = some (.int m.hammer) := (lk_past (by decide +kernel)).trans lk_here
theorem gf_left (m : GM) (r : GV) : (gF m r).lookup ("left" : Str) = some (.ref r.left) := (lk_past (by decide +kernel)).trans ((lk_past (by decide +kernel)).trans lk_here)
theorem gf_points (m : GM) (r : GV) : (gF m r).lookup ("points" : Str) = some (.ref r.points) := (lk_past (by decide +kernel)).trans ((lk_past (by decide +kernel)).trans ((lk_past (by decide +kernel)).trans lk_here))
theorem gf_ends (m : GM) (r : GV) : (gF m r).lookup ("ends" : Str) = some (.ref r.ends) := (lk_past (by decide +kernel)).trans ((lk_past (by decide +kernel)).trans ((lk_past (by decide +kernel)).trans ((lk_past (by decide +kernel)).trans lk_here)))
theorem gf_deliv (m : GM) (r : GV) : (gF m r).lookup ("delivered" : Str) = some (.int m.deliv) := (lk_past (by decide +kernel)).trans ((lk_past (by decide +kernel)).trans ((lk_past (by decide +kernel)).trans ((lk_past (by decide +kernel)).trans ((lk_past (by decide +kernel)).trans lk_here))))
theorem gf_lying (m : GM) (r : GV) : (gF m r).lookup ("lying" : Str) = some (.ref r.lying) := (lk_past (by decide +kernel)).trans ((lk_past (by decide +kernel)).trans ((lk_past (by decide +kernel)).trans ((lk_past (by decide +kernel)).trans ((lk_past (by decide +kernel)).trans ((lk_past (by decide +kernel)).trans lk_here)))))
theorem gf_won (m : GM) (r : GV) : (gF m r).lookup ("won" : Str) = some (.int m.won) := (lk_past (by decide +kernel)).trans ((lk_past (by decide +kernel)).trans ((lk_past (by decide +kernel)).trans ((lk_past (by decide +kernel)).trans ((lk_past (by decide +kernel)).trans ((lk_past (by decide +kernel)).trans ((lk_past (by decide +kernel)).trans lk_here))))))
theorem gf_no (d : GM) (r : GV) {m : Str} (h : (m == "many") = false ∧ (m == "hammer") = false ∧ (m == "left") = false ∧ (m == "points") = false ∧ (m == "ends") = false ∧ (m == "delivered") = false ∧ (m == "lying") = false ∧ (m == "won") = false) : (gF d r).lookup m = none := by
  obtain ⟨h1, h2, h3, h4, h5, h6, h7, h8⟩ := h
  unfold gF
  rw [lk_past h1, lk_past h2, lk_past h3, lk_past h4, lk_past h5, lk_past h6, lk_past h7, lk_past h8]
  rfl
theorem gf_is_over (m : GM) (r : GV) : (gF m r).lookup ("is_over" : Str) = none := gf_no m r (by decide +kernel)
theorem gf_side_of (m : GM) (r : GV) : (gF m r).lookup ("side_of" : Str) = none := gf_no m r (by decide +kernel)
theorem gf_stands (m : GM) (r : GV) : (gF m r).lookup ("stands" : Str) = none := gf_no m r (by decide +kernel)
theorem gf_goes_on (m : GM) (r : GV) : (gF m r).lookup ("goes_on" : Str) = none := gf_no m r (by decide +kernel)
theorem gf_end_over (m : GM) (r : GV) : (gF m r).lookup ("end_over" : Str) = none := gf_no m r (by decide +kernel)
theorem gf_last_over (m : GM) (r : GV) : (gF m r).lookup ("last_over" : Str) = none := gf_no m r (by decide +kernel)
theorem gf_thinks (m : GM) (r : GV) : (gF m r).lookup ("thinks" : Str) = none := gf_no m r (by decide +kernel)
theorem gf_lost (m : GM) (r : GV) : (gF m r).lookup ("lost" : Str) = none := gf_no m r (by decide +kernel)
theorem gp_hammer (m : GM) (r : GV) (y : Int) : putF "hammer" (.int y) (gF m r) = gF { m with hammer := y } r := by
  unfold gF
  rw [put_past (by decide +kernel), put_here]
theorem gp_left (m : GM) (r : GV) (y : Addr) : putF "left" (.ref y) (gF m r) = gF m { r with left := y } := by
  unfold gF
  rw [put_past (by decide +kernel), put_past (by decide +kernel), put_here]
theorem gp_points (m : GM) (r : GV) (y : Addr) : putF "points" (.ref y) (gF m r) = gF m { r with points := y } := by
  unfold gF
  rw [put_past (by decide +kernel), put_past (by decide +kernel), put_past (by decide +kernel), put_here]
theorem gp_deliv (m : GM) (r : GV) (y : Int) : putF "delivered" (.int y) (gF m r) = gF { m with deliv := y } r := by
  unfold gF
  rw [put_past (by decide +kernel), put_past (by decide +kernel), put_past (by decide +kernel), put_past (by decide +kernel), put_past (by decide +kernel), put_here]
theorem gp_lying (m : GM) (r : GV) (y : Addr) : putF "lying" (.ref y) (gF m r) = gF m { r with lying := y } := by
  unfold gF
  rw [put_past (by decide +kernel), put_past (by decide +kernel), put_past (by decide +kernel), put_past (by decide +kernel), put_past (by decide +kernel), put_past (by decide +kernel), put_here]
theorem gp_won (m : GM) (r : GV) (y : Int) : putF "won" (.int y) (gF m r) = gF { m with won := y } r := by
  unfold gF
  rw [put_past (by decide +kernel), put_past (by decide +kernel), put_past (by decide +kernel), put_past (by decide +kernel), put_past (by decide +kernel), put_past (by decide +kernel), put_past (by decide +kernel), put_here]
theorem gF_len (m : GM) (r : GV) : (gF m r).length < 1000 := by
  show 8 < 1000
  decide

def GV.own (r : GV) : List Addr := r.left :: r.ends :: r.points :: r.lying :: r.ents
/-- the lists of a match -/
structure GL (H : Hp) (m : GM) (r : GV) : Prop where
  left : H r.left = some (.lst [.int m.ta, .int m.tb])
  points : H r.points = some (.lst [.int m.p0, .int m.p1])
  ends : H r.ends = some (.lst (r.ents.map V.ref))
  elen : r.ents.length = m.scores.length
  ents : ∀ (i : Nat) q p, r.ents[i]? = some q → m.scores[i]? = some p → H q = some (.lst [.int (p.1 : Nat), .int (p.2 : Nat)])
  lying : Sts H r.lying m.stones
  d1 : r.left ≠ r.ends
  d2 : ∀ b, b ∈ r.points :: r.lying :: r.ents → b ≠ r.left ∧ b ≠ r.ends
def isTup : Option HO → Prop
  | some (.tup _) => True
  | _ => False
theorem Sts.but {H H' : Hp} {b x : Addr} {ps : List P3} (h : Sts H b ps) (hb : b ≠ x) (ht : ¬ isTup (H x)) (k : ∀ b o, H b = some o → b ≠ x → H' b = some o) : Sts H' b ps := by
  obtain ⟨vs, h1, h2⟩ := h
  refine ⟨vs, k _ _ h1 hb, h2.1, fun i v p e1 e2 => ?_⟩
  obtain ⟨a, ea, hs, sm⟩ := h2.2 i v p e1 e2
  refine ⟨a, ea, k _ _ hs ?_, sm⟩
  intro z
  rw [z] at hs
  rw [hs] at ht
  exact ht trivial
/-- all but x stands -/
theorem GL.but {H H' : Hp} {m : GM} {r : GV} {x : Addr} (h : GL H m r) (hx : x ∉ r.own) (ht : ¬ isTup (H x)) (k : ∀ b o, H b = some o → b ≠ x → H' b = some o) : GL H' m r where
  left := k _ _ h.left fun z => hx (by simp [GV.own, z])
  points := k _ _ h.points fun z => hx (by simp [GV.own, z])
  ends := k _ _ h.ends fun z => hx (by simp [GV.own, z])
  elen := h.elen
  ents := fun i q p e1 e2 => k _ _ (h.ents i q p e1 e2) fun z => hx (by
    have := List.mem_of_getElem? e1
    rw [z] at this
    simp [GV.own, this])
  lying := h.lying.but (fun z => hx (by simp [GV.own, z])) ht k
  d1 := h.d1
  d2 := h.d2
theorem GL.mono {H H' : Hp} {m : GM} {r : GV} (h : GL H m r) (e : Ex H H') : GL H' m r :=
  ⟨e _ _ h.left, e _ _ h.points, e _ _ h.ends, h.elen, fun i q p e1 e2 => e _ _ (h.ents i q p e1 e2), h.lying.mono e, h.d1, h.d2⟩
/-- what is a list of the match is a list -/
theorem GL.lst {H : Hp} {m : GM} {r : GV} (h : GL H m r) {b : Addr} (hb : b ∈ r.own) : ∃ xs, H b = some (.lst xs) := by
  unfold GV.own at hb
  simp only [List.mem_cons] at hb
  rcases hb with rfl | rfl | rfl | rfl | hb
  · exact ⟨_, h.left⟩
  · exact ⟨_, h.ends⟩
  · exact ⟨_, h.points⟩
  · obtain ⟨vs, e, _⟩ := h.lying
    exact ⟨vs, e⟩
  · obtain ⟨i, hi, e⟩ := List.mem_iff_getElem.mp hb
    have h1 : r.ents[i]? = some b := by rw [List.getElem?_eq_getElem hi, e]
    have hi2 : i < m.scores.length := by rw [← h.elen]; exact hi
    have h2 : m.scores[i]? = some m.scores[i] := List.getElem?_eq_getElem hi2
    exact ⟨_, h.ents i b _ h1 h2⟩
theorem GL.ins {H : Hp} {m : GM} {r : GV} (h : GL H m r) {g C dx : Addr} {fs : List (Str × V)} (hg : H g = some (.ins C dx fs)) : g ∉ r.own := fun hb => by
  obtain ⟨xs, e⟩ := h.lst hb
  rw [hg] at e
  cases e
theorem upd_but {H : Hp} {x : Addr} {o : HO} : ∀ b u, H b = some u → b ≠ x → upd H x o b = some u := fun b u h hb => by
  rw [upd_ne hb]
  exact h
theorem GL.updIns {H : Hp} {m : GM} {r : GV} (h : GL H m r) {g C dx : Addr} {fs : List (Str × V)} (hg : H g = some (.ins C dx fs)) (o : HO) : GL (upd H g o) m r :=
  h.but (h.ins hg) (by rw [hg]; exact fun z => z) upd_but

structure GameAt (C : Addr) (H : Hp) (g : Addr) (m : GM) (r : GV) : Prop where
  obj : ∃ dx, H g = some (.ins C dx (gF m r))
  ls : GL H m r
theorem GameAt.mono {C g : Addr} {H H' : Hp} {m : GM} {r : GV} (h : GameAt C H g m r) (e : Ex H H') : GameAt C H' g m r := by
  obtain ⟨dx, ho⟩ := h.obj
  exact ⟨⟨dx, e _ _ ho⟩, h.ls.mono e⟩
/-- what a method leaves alone -/
def Kp (S : List Addr) (H H' : Hp) : Prop := ∀ b o, H b = some o → b ∉ S → H' b = some o
theorem Kp.of_ex {S : List Addr} {H H' : Hp} (e : Ex H H') : Kp S H H' := fun b o h _ => e b o h
theorem Kp.trans {S : List Addr} {H H1 H2 : Hp} (a : Kp S H H1) (b : Kp S H1 H2) : Kp S H H2 := fun c o h hc => b c o (a c o h hc) hc
theorem Kp.upd {S : List Addr} {H H1 : Hp} {x : Addr} {o : HO} (a : Kp S H H1) (hx : x ∈ S) : Kp S H (upd H1 x o) := fun c u h hc => by
  rw [upd_ne (fun z => hc (by rw [z]; exact hx))]
  exact a c u h hc
/-- lists of the match behind: old ones or new ones -/
def Fr (H : Hp) (S S' : List Addr) : Prop := ∀ b ∈ S', b ∈ S ∨ H b = none
theorem opt_some (x : Option Nat) : (!decide (Kg65.opt x = -1)) = x.isSome := by
  cases x with
  | none => rfl
  | some n =>
    show (!decide ((n : Int) = -1)) = true
    rw [decide_eq_false (by omega)]
    rfl

section
variable {P : Program} {w : World} {K : PySem.W.Frag} {mg : Str → Option Value} {base : Heap} {a : Ad}
variable {σ : L2.St} {H : Hp} {te : TE} {C g : Addr} {m : GM} {r : GV}
/-! fields of a match, read -/
theorem rd_hammer (T : Tx K mg a) (h : Ev te σ H (.ref g)) (hG : GameAt a.Game H g m r) : Ev (tFld K te "hammer") σ H (.int m.hammer) := by
  obtain ⟨dx, ho⟩ := hG.obj
  exact ev_fld h ho T.c_Game T.n_Game_hammer (gf_hammer m r)
theorem rd_many (T : Tx K mg a) (h : Ev te σ H (.ref g)) (hG : GameAt a.Game H g m r) : Ev (tFld K te "many") σ H (.int m.many) := by
  obtain ⟨dx, ho⟩ := hG.obj
  exact ev_fld h ho T.c_Game T.n_Game_many (gf_many m r)
theorem rd_deliv (T : Tx K mg a) (h : Ev te σ H (.ref g)) (hG : GameAt a.Game H g m r) : Ev (tFld K te "delivered") σ H (.int m.deliv) := by
  obtain ⟨dx, ho⟩ := hG.obj
  exact ev_fld h ho T.c_Game T.n_Game_delivered (gf_deliv m r)
theorem rd_won (T : Tx K mg a) (h : Ev te σ H (.ref g)) (hG : GameAt a.Game H g m r) : Ev (tFld K te "won") σ H (.int m.won) := by
  obtain ⟨dx, ho⟩ := hG.obj
  exact ev_fld h ho T.c_Game T.n_Game_won (gf_won m r)
theorem rd_left (T : Tx K mg a) (h : Ev te σ H (.ref g)) (hG : GameAt a.Game H g m r) : Ev (tFld K te "left") σ H (.ref r.left) := by
  obtain ⟨dx, ho⟩ := hG.obj
  exact ev_fld h ho T.c_Game T.n_Game_left (gf_left m r)
theorem rd_points (T : Tx K mg a) (h : Ev te σ H (.ref g)) (hG : GameAt a.Game H g m r) : Ev (tFld K te "points") σ H (.ref r.points) := by
  obtain ⟨dx, ho⟩ := hG.obj
  exact ev_fld h ho T.c_Game T.n_Game_points (gf_points m r)
theorem rd_ends (T : Tx K mg a) (h : Ev te σ H (.ref g)) (hG : GameAt a.Game H g m r) : Ev (tFld K te "ends") σ H (.ref r.ends) := by
  obtain ⟨dx, ho⟩ := hG.obj
  exact ev_fld h ho T.c_Game T.n_Game_ends (gf_ends m r)
theorem rd_lying (T : Tx K mg a) (h : Ev te σ H (.ref g)) (hG : GameAt a.Game H g m r) : Ev (tFld K te "lying") σ H (.ref r.lying) := by
  obtain ⟨dx, ho⟩ := hG.obj
  exact ev_fld h ho T.c_Game T.n_Game_lying (gf_lying m r)
theorem rd_pt0 (T : Tx K mg a) (h : Ev te σ H (.ref g)) (hG : GameAt a.Game H g m r) : Ev (tOp (rIxL K) (tFld K te "points") (tC (.int 0))) σ H (.int m.p0) := ev_op (rd_points T h hG) ev_c (rv_ixL (sq_of hG.ls.points) rfl)
theorem rd_pt1 (T : Tx K mg a) (h : Ev te σ H (.ref g)) (hG : GameAt a.Game H g m r) : Ev (tOp (rIxL K) (tFld K te "points") (tC (.int 1))) σ H (.int m.p1) := ev_op (rd_points T h hG) ev_c (rv_ixL (sq_of hG.ls.points) rfl)
theorem rd_lf0 (T : Tx K mg a) (h : Ev te σ H (.ref g)) (hG : GameAt a.Game H g m r) : Ev (tOp (rIxL K) (tFld K te "left") (tC (.int 0))) σ H (.int m.ta) := ev_op (rd_left T h hG) ev_c (rv_ixL (sq_of hG.ls.left) rfl)
theorem rd_lf1 (T : Tx K mg a) (h : Ev te σ H (.ref g)) (hG : GameAt a.Game H g m r) : Ev (tOp (rIxL K) (tFld K te "left") (tC (.int 1))) σ H (.int m.tb) := ev_op (rd_left T h hG) ev_c (rv_ixL (sq_of hG.ls.left) rfl)
theorem rd_elen (T : Tx K mg a) (h : Ev te σ H (.ref g)) (hG : GameAt a.Game H g m r) : Ev (tCB (rLenS K) (tCons (tFld K te "ends") tNil)) σ H (.int (m.scores.length : Nat)) := by
  have q := ev_len (rd_ends T h hG) (sq_of (K := K) hG.ls.ends)
  rw [List.length_map, hG.ls.elen] at q
  exact q

/-! methods that read -/
def RG (C : Addr) (f : GM → V) (vs : List V) (H : Hp) (v : V) : Prop := ∃ g m r, vs = [.ref g] ∧ GameAt C H g m r ∧ v = f m
def RGL (C : Addr) (f : GM → List V) (vs : List V) (H : Hp) (xs : List V) : Prop := ∃ g m r, vs = [.ref g] ∧ GameAt C H g m r ∧ xs = f m
theorem spv_G {f : GM → V} (hG : GameAt C H g m r) : SpV (spV (RG C f)) [.ref g] H (f m) := spV_of ⟨g, m, r, rfl, hG, rfl⟩ fun H1 e => ⟨g, m, r, rfl, hG.mono e, rfl⟩
theorem spl_G {f : GM → List V} (hG : GameAt C H g m r) : SpL (spL (RGL C f)) [.ref g] H (f m) := spL_of fun H1 e => ⟨g, m, r, rfl, hG.mono e, rfl⟩
theorem sc_Game_is_over : FnScope ["self"] ["self"] (defScope st_Game_is_over) := ⟨rfl, rfl, rfl, by decide +kernel, rfl, by decide +kernel, by decide +kernel⟩
theorem ok_Game_is_over (T : Tx K mg a) : Ok P w K mg base 1 a.Game_is_over ["self"] (spV (RG a.Game fun m => .bl (!decide (m.won = -1)))) := by
  refine T.d_Game_is_over.ok sc_Game_is_over (by rintro vs H Q E ⟨v, ⟨g, m, r, rfl, _⟩, _⟩; rfl) (fun cdv A outer s H vs Q E hr h => ?_)
  obtain ⟨v, ⟨g, m, r, rfl, hG, rfl⟩, k⟩ := h
  refine ⟨_, (pss_one (ps_ret (pe_cmpR op_ne (pe_fld (pv 0) rfl) (pe_k rfl T.k_NOBODY) (nomark _)))), ?_⟩
  have q := ev_op (rd_won (K := K) T (ev_var (i := 0) (σ := start ["self"] [.ref g]) rfl) hG) (ev_c (v := .int (-1))) (rv_ne rfl)
  rw [dec_v] at q
  exact s_ret q k
def RSide (C : Addr) (vs : List V) (H : Hp) (v : V) : Prop := ∃ g m r n, vs = [.ref g, .int n] ∧ GameAt C H g m r ∧ v = .int (if n % 2 = 1 then m.hammer else 1 - m.hammer)
theorem sc_Game_side_of : FnScope ["self", "number"] ["self", "number"] (defScope st_Game_side_of) := ⟨rfl, rfl, rfl, by decide +kernel, rfl, by decide +kernel, by decide +kernel⟩
theorem ok_Game_side_of (T : Tx K mg a) : Ok P w K mg base 1 a.Game_side_of ["self", "number"] (spV (RSide a.Game)) := by
  refine T.d_Game_side_of.ok sc_Game_side_of (by rintro vs H Q E ⟨v, ⟨g, m, r, n, rfl, _⟩, _⟩; rfl) (fun cdv A outer s H vs Q E hr h => ?_)
  obtain ⟨v, ⟨g, m, r, n, rfl, hG, rfl⟩, k⟩ := h
  refine ⟨_, (pss_cons (ps_if (pt_cmpR op_eq (pe_op op_mod (pv 1) pe_int) pe_int (nomark _)) (pss_one (ps_ret (pe_fld (pv 0) rfl))) pss_nil)
      (pss_one (ps_ret (pe_op op_sub pe_int (pe_fld (pv 0) rfl))))), ?_⟩
  refine q_when (et_test (ev_op (ev_op (ev_var rfl) ev_c (rv_I (by decide))) ev_c (rv_eq rfl))) (fun hb H1 e1 => ?_) (fun hb H1 e1 => ?_)
  · rw [dec_v] at hb
    rw [if_pos (of_decide_eq_true hb)] at k
    exact s_ret (rd_hammer T (ev_var rfl) (hG.mono e1)) fun H2 e2 => k H2 (e1.trans e2)
  · rw [dec_v] at hb
    rw [if_neg (of_decide_eq_false hb)] at k
    exact s_ret (ev_op ev_c (rd_hammer T (ev_var rfl) (hG.mono e1)) rv_I0) fun H2 e2 => k H2 (e1.trans e2)
def stands (m : GM) : List Int := [m.p0, m.p1, (m.scores.length : Nat), m.hammer, m.deliv, m.won]
def standsV (m : GM) : List V := (stands m).map V.int
theorem sc_Game_stands : FnScope ["self"] ["self"] (defScope st_Game_stands) := ⟨rfl, rfl, rfl, by decide +kernel, rfl, by decide +kernel, by decide +kernel⟩
theorem ok_Game_stands (T : Tx K mg a) : Ok P w K mg base 1 a.Game_stands ["self"] (spL (RGL a.Game standsV)) := by
  refine T.d_Game_stands.ok sc_Game_stands (by rintro vs H Q E ⟨v, ⟨g, m, r, rfl, _⟩, _⟩; rfl) (fun cdv A outer s H vs Q E hr h => ?_)
  obtain ⟨v, ⟨g, m, r, rfl, hG, rfl⟩, k⟩ := h
  refine ⟨_, (pss_one (ps_ret (pe_lst (pa_cons (pe_ix (ix_listK K) (pe_fld (pv 0) rfl) pe_int (fun _ _ => rfl)) (pa_cons (pe_ix (ix_listK K) (pe_fld (pv 0) rfl) pe_int (fun _ _ => rfl)) (pa_cons (pe_callB (call_lenK K) (by rfl) T.b_len (by decide +kernel) (pa_cons (pe_fld (pv 0) rfl) pa_nil)) (pa_cons (pe_fld (pv 0) rfl) (pa_cons (pe_fld (pv 0) rfl) (pa_cons (pe_fld (pv 0) rfl) pa_nil))))))))), ?_⟩
  exact s_retL (el_lst (ea_cons (rd_pt0 T (ev_var rfl) hG) (ea_cons (rd_pt1 T (ev_var rfl) hG) (ea_cons (rd_elen T (ev_var rfl) hG) (ea_cons (rd_hammer T (ev_var rfl) hG) (ea_cons (rd_deliv T (ev_var rfl) hG) (ea_cons (rd_won T (ev_var rfl) hG) ea_nil)))))) (by show 6 ≤ 100000; decide)) k
end
end Cm
namespace Cm
open PySem PySem.Spec PyProof.Rows L2 Evl
open Kg65 (Game)
/-! ### what the methods do -/
def lostM (m : GM) (s : Int) : GM := { m with won := 1 - s }
def lastM (m : GM) : GM := if m.p1 < m.p0 then { m with won := 0 } else if m.p0 < m.p1 then { m with won := 1 } else { m with ta := m.ta + 270, tb := m.tb + 270 }
def scoredM (m : GM) : GM := { m with scores := m.scores ++ [pts m.stones m.hammer], p0 := m.p0 + ((pts m.stones m.hammer).1 : Nat), p1 := m.p1 + ((pts m.stones m.hammer).2 : Nat), stones := [], deliv := 0 }
def hamM (m : GM) (c : Nat × Nat) : GM := { m with hammer := if 0 < (c.2 : Int) then 0 else if 0 < (c.1 : Int) then 1 else m.hammer }
def endM (m : GM) : GM := if (scoredM m).many ≤ ((scoredM m).scores.length : Int) then lastM (hamM (scoredM m) (pts m.stones m.hammer)) else hamM (scoredM m) (pts m.stones m.hammer)
def goesM (m : GM) (ps : List P3) : GM := if m.deliv + 1 = 16 then endM { m with stones := ps, deliv := m.deliv + 1 } else { m with stones := ps, deliv := m.deliv + 1 }
def setT (m : GM) (s t : Int) : GM := if s = 0 then { m with ta := if m.ta - t > 0 then m.ta - t else 0 } else { m with tb := if m.tb - t > 0 then m.tb - t else 0 }
def leftM (m : GM) (s : Int) : Int := if s = 0 then m.ta else m.tb
def thinkM (m : GM) (s t : Int) : GM := if leftM (setT m s t) s = 0 then lostM (setT m s t) s else setT m s t

/-! ### the promise of a method that changes the match -/
def GPost (C g : Addr) (r : GV) (H : Hp) (m' : GM) (Q : VK) : Prop := ∀ H' r', GameAt C H' g m' r' → Kp (g :: r.own) H H' → Fr H (g :: r.own) r'.own → Q .non H'
theorem Fr.self {H : Hp} {S S' : List Addr} (h : ∀ b ∈ S', b ∈ S) : Fr H S S' := fun b hb => .inl (h b hb)
/-- one method behind another -/
theorem GPost.then {C g : Addr} {r r1 : GV} {H H1 : Hp} {m' : GM} {Q : VK} (k : GPost C g r H m' Q) (k1 : Kp (g :: r.own) H H1) (f1 : Fr H (g :: r.own) r1.own) : GPost C g r1 H1 m' Q := fun H' r' hG kp fr => by
  have hin : ∀ b o, H b = some o → b ∉ g :: r.own → b ∉ g :: r1.own := fun b o h hb hb1 => by
    rcases List.mem_cons.mp hb1 with rfl | hb1
    · exact hb List.mem_cons_self
    · rcases f1 b hb1 with z | z
      · exact hb z
      · rw [z] at h
        cases h
  refine k H' r' hG (fun b o h hb => kp b o (k1 b o h hb) (hin b o h hb)) fun b hb => ?_
  rcases fr b hb with z | z
  · rcases List.mem_cons.mp z with rfl | z
    · exact .inl List.mem_cons_self
    · exact f1 b z
  · by_cases hm : b ∈ g :: r.own
    · exact .inl hm
    · refine .inr ?_
      cases e : H b with
      | none => rfl
      | some o =>
        rw [k1 b o e hm] at z
        cases z

section
variable {K : PySem.W.Frag} {σ : L2.St} {H H1 : Hp} {te tv ta tb : TE} {C g dx : Addr} {m : GM} {r : GV} {D : Ends} {tz : TS} {f : Str} {fs : List (Str × V)} {v : V} {xs : List V}
/-! stores to fields -/
theorem q_fld (hv : Ev tv σ H v) (h : Ev te σ H (.ref g)) (ho : H g = some (.ins C dx fs)) (c : Cls K C) (n : NoAttr K C f) (hl : fs.length < 1000) (k : ∀ H1, Ex H H1 → tz D σ (upd H1 g (.ins C dx (putF f v fs)))) : tSeq (sFld K te tv f) tz D σ H :=
  hv H (Ex.refl H) _ fun H1 e1 => h H1 e1 _ fun H2 e2 => ⟨g, C, dx, fs, rfl, e2 _ _ (e1 _ _ ho), c, n, hl, k H2 (e1.trans e2)⟩
theorem s_fld (hv : Ev tv σ H v) (h : Ev te σ H (.ref g)) (ho : H g = some (.ins C dx fs)) (c : Cls K C) (n : NoAttr K C f) (hl : fs.length < 1000) (k : ∀ H1, Ex H H1 → D.nx σ (upd H1 g (.ins C dx (putF f v fs)))) : sFld K te tv f D σ H :=
  hv H (Ex.refl H) _ fun H1 e1 => h H1 e1 _ fun H2 e2 => ⟨g, C, dx, fs, rfl, e2 _ _ (e1 _ _ ho), c, n, hl, k H2 (e1.trans e2)⟩
theorem q_fldL (hv : EvL tv σ H xs) (h : Ev te σ H (.ref g)) (ho : H g = some (.ins C dx fs)) (c : Cls K C) (n : NoAttr K C f) (hl : fs.length < 1000) (k : ∀ p H1, H p = none → Ex H H1 → H1 p = some (.lst xs) → tz D σ (upd H1 g (.ins C dx (putF f (.ref p) fs)))) : tSeq (sFld K te tv f) tz D σ H :=
  hv H (Ex.refl H) _ fun p H1 hp e1 h1 => h H1 e1 _ fun H2 e2 => ⟨g, C, dx, fs, rfl, e2 _ _ (e1 _ _ ho), c, n, hl, k p H2 hp (e1.trans e2) (e2 _ _ h1)⟩
theorem s_fldL (hv : EvL tv σ H xs) (h : Ev te σ H (.ref g)) (ho : H g = some (.ins C dx fs)) (c : Cls K C) (n : NoAttr K C f) (hl : fs.length < 1000) (k : ∀ p H1, H p = none → Ex H H1 → H1 p = some (.lst xs) → D.nx σ (upd H1 g (.ins C dx (putF f (.ref p) fs)))) : sFld K te tv f D σ H :=
  hv H (Ex.refl H) _ fun p H1 hp e1 h1 => h H1 e1 _ fun H2 e2 => ⟨g, C, dx, fs, rfl, e2 _ _ (e1 _ _ ho), c, n, hl, k p H2 hp (e1.trans e2) (e2 _ _ h1)⟩

/-! what a store makes of the match -/
theorem GameAt.put {fs' : List (Str × V)} {m' : GM} {r' : GV} (ho : H g = some (.ins C dx fs)) (hf : fs' = gF m' r') (hL : GL H m' r') : GameAt C (upd H g (.ins C dx fs')) g m' r' := ⟨⟨dx, by rw [upd_same, hf]⟩, hL.updIns ho _⟩
theorem GL.newLeft {p : Addr} {x y : Int} (h : GL H m r) (hp : p ∉ r.own) (hn : H p = some (.lst [.int x, .int y])) : GL H { m with ta := x, tb := y } { r with left := p } := by
  refine ⟨hn, h.points, h.ends, h.elen, h.ents, h.lying, fun z => hp (by have z : p = r.ends := z; simp [GV.own, z]), fun b hb => ⟨fun z => hp ?_, (h.d2 b hb).2⟩⟩
  have z : b = p := z
  have hb : b ∈ r.points :: r.lying :: r.ents := hb
  rw [← z]
  simp only [GV.own, List.mem_cons] at hb ⊢
  rcases hb with h | h | h
  · exact .inr (.inr (.inl h))
  · exact .inr (.inr (.inr (.inl h)))
  · exact .inr (.inr (.inr (.inr h)))
theorem GL.newPoints {p : Addr} {x y : Int} (h : GL H m r) (hp : p ∉ r.own) (hn : H p = some (.lst [.int x, .int y])) : GL H { m with p0 := x, p1 := y } { r with points := p } := by
  refine ⟨h.left, hn, h.ends, h.elen, h.ents, h.lying, h.d1, fun b hb => ?_⟩
  have hb : b ∈ p :: r.lying :: r.ents := hb
  rcases List.mem_cons.mp hb with rfl | hb
  · exact ⟨fun z => hp (by simp [GV.own, z]), fun z => hp (by simp [GV.own, z])⟩
  · exact h.d2 b (List.mem_cons_of_mem _ hb)
theorem GL.newLying {p : Addr} {ps : List P3} (h : GL H m r) (hp : p ∉ r.own) (hn : Sts H p ps) : GL H { m with stones := ps } { r with lying := p } := by
  refine ⟨h.left, h.points, h.ends, h.elen, h.ents, hn, h.d1, fun b hb => ?_⟩
  have hb : b ∈ r.points :: p :: r.ents := hb
  rcases List.mem_cons.mp hb with rfl | hb
  · exact h.d2 _ List.mem_cons_self
  · rcases List.mem_cons.mp hb with rfl | hb
    · exact ⟨fun z => hp (by simp [GV.own, z]), fun z => hp (by simp [GV.own, z])⟩
    · exact h.d2 b (List.mem_cons_of_mem _ (List.mem_cons_of_mem _ hb))
theorem Sts.updL {b x : Addr} {ps : List P3} {o : HO} {ys : List V} (h : Sts H b ps) (hb : b ≠ x) (hx : H x = some (.lst ys)) : Sts (upd H x o) b ps := h.but hb (by rw [hx]; exact fun z => z) upd_but
theorem GL.setLeft {x y : Int} (h : GL H m r) : GL (upd H r.left (.lst [.int x, .int y])) { m with ta := x, tb := y } r where
  left := upd_same
  points := (upd_ne (h.d2 _ List.mem_cons_self).1).trans h.points
  ends := (upd_ne h.d1.symm).trans h.ends
  elen := h.elen
  ents := fun i q p e1 e2 => (upd_ne (h.d2 _ (List.mem_cons_of_mem _ (List.mem_cons_of_mem _ (List.mem_of_getElem? e1)))).1).trans (h.ents i q p e1 e2)
  lying := h.lying.updL (h.d2 _ (List.mem_cons_of_mem _ List.mem_cons_self)).1 h.left
  d1 := h.d1
  d2 := h.d2
theorem GL.addEnd {q : Addr} {c : Nat × Nat} (h : GL H m r) (hq : q ∉ r.own) (hn : H q = some (.lst [.int (c.1 : Nat), .int (c.2 : Nat)])) : GL (upd H r.ends (.lst (r.ents.map V.ref ++ [.ref q]))) { m with scores := m.scores ++ [c] } { r with ents := r.ents ++ [q] } where
  left := (upd_ne h.d1).trans h.left
  points := (upd_ne (h.d2 _ List.mem_cons_self).2).trans h.points
  ends := by
    show upd H r.ends _ r.ends = _
    rw [upd_same, List.map_append]
    rfl
  elen := by
    show (r.ents ++ [q]).length = (m.scores ++ [c]).length
    rw [List.length_append, List.length_append, h.elen]
    rfl
  ents := fun i p s e1 e2 => by
    have e1 : (r.ents ++ [q])[i]? = some p := e1
    have e2 : (m.scores ++ [c])[i]? = some s := e2
    by_cases hi : i < r.ents.length
    · rw [List.getElem?_append_left hi] at e1
      rw [List.getElem?_append_left (by rw [← h.elen]; exact hi)] at e2
      exact (upd_ne (h.d2 _ (List.mem_cons_of_mem _ (List.mem_cons_of_mem _ (List.mem_of_getElem? e1)))).2).trans (h.ents i p s e1 e2)
    · have hi0 : i = r.ents.length := by
        have := (List.getElem?_eq_some_iff.mp e1).1
        rw [List.length_append, List.length_singleton] at this
        omega
      subst hi0
      rw [List.getElem?_append_right (Nat.le_refl _), Nat.sub_self] at e1
      rw [h.elen, List.getElem?_append_right (Nat.le_refl _), Nat.sub_self] at e2
      cases e1
      cases e2
      exact (upd_ne fun z => hq (by simp [GV.own, z])).trans hn
  lying := h.lying.updL (h.d2 _ (List.mem_cons_of_mem _ List.mem_cons_self)).2 h.ends
  d1 := h.d1
  d2 := fun b hb => by
    have hb : b ∈ r.points :: r.lying :: (r.ents ++ [q]) := hb
    simp only [List.mem_cons, List.mem_append, List.mem_singleton] at hb
    rcases hb with rfl | rfl | hb | rfl | hb
    · exact h.d2 _ List.mem_cons_self
    · exact h.d2 _ (List.mem_cons_of_mem _ List.mem_cons_self)
    · exact h.d2 b (List.mem_cons_of_mem _ (List.mem_cons_of_mem _ hb))
    · exact ⟨fun z => hq (by simp [GV.own, z]), fun z => hq (by simp [GV.own, z])⟩
    · cases hb
/-- a list that was not there is no list of the match -/
theorem GL.fresh {p : Addr} (h : GL H m r) (hp : H p = none) : p ∉ r.own := fun hb => by
  obtain ⟨xs, e⟩ := h.lst hb
  rw [hp] at e
  cases e
end

section
variable {P : Program} {w : World} {K : PySem.W.Frag} {mg : Str → Option Value} {base : Heap} {a : Ad}

def spLost (C : Addr) : Sp := fun vs H Q _ => ∃ g m r s, vs = [.ref g, .int s] ∧ GameAt C H g m r ∧ GPost C g r H (lostM m s) Q
theorem sc_Game_lost : FnScope ["self", "side"] ["self", "side"] (defScope st_Game_lost) := ⟨rfl, rfl, rfl, by decide +kernel, rfl, by decide +kernel, by decide +kernel⟩
theorem ok_Game_lost (T : Tx K mg a) : Ok P w K mg base 1 a.Game_lost ["self", "side"] (spLost a.Game) := by
  refine T.d_Game_lost.ok sc_Game_lost (by rintro vs H Q E ⟨g, m, r, s, rfl, _⟩; rfl) (fun cdv A outer s H vs Q E hr h => ?_)
  obtain ⟨g, m, r, s, rfl, hG, k⟩ := h
  refine ⟨_, (pss_one (ps_fld (pv 0) (pe_op op_sub pe_int (pv 1)) rfl)), ?_⟩
  obtain ⟨dx, ho⟩ := hG.obj
  refine s_fld (ev_op ev_c (ev_var rfl) rv_I0) (ev_var rfl) ho T.c_Game T.n_Game_won (gF_len m r) fun H1 e1 => ?_
  have hL : GL H1 (lostM m s) r := ⟨(hG.ls.mono e1).left, (hG.ls.mono e1).points, (hG.ls.mono e1).ends, (hG.ls.mono e1).elen, (hG.ls.mono e1).ents, (hG.ls.mono e1).lying, (hG.ls.mono e1).d1, (hG.ls.mono e1).d2⟩
  exact k _ r (GameAt.put (e1 _ _ ho) (gp_won m r (1 - s)) hL) ((Kp.of_ex e1).upd List.mem_cons_self) (Fr.self fun b hb => List.mem_cons_of_mem _ hb)

def spLast (C : Addr) : Sp := fun vs H Q _ => ∃ g m r, vs = [.ref g] ∧ GameAt C H g m r ∧ GPost C g r H (lastM m) Q
theorem sc_Game_last_over : FnScope ["self"] ["self"] (defScope st_Game_last_over) := ⟨rfl, rfl, rfl, by decide +kernel, rfl, by decide +kernel, by decide +kernel⟩
theorem ok_Game_last_over (T : Tx K mg a) : Ok P w K mg base 1 a.Game_last_over ["self"] (spLast a.Game) := by
  refine T.d_Game_last_over.ok sc_Game_last_over (by rintro vs H Q E ⟨g, m, r, rfl, _⟩; rfl) (fun cdv A outer s H vs Q E hr h => ?_)
  obtain ⟨g, m, r, rfl, hG, k⟩ := h
  refine ⟨_, (pss_one (ps_if (pt_cmpR op_gt (pe_ix (ix_listK K) (pe_fld (pv 0) rfl) pe_int (fun _ _ => rfl)) (pe_ix (ix_listK K) (pe_fld (pv 0) rfl) pe_int (fun _ _ => rfl)) (nomark _)) (pss_one (ps_fld (pv 0) pe_int rfl)) (pss_one (ps_if (pt_cmpR op_gt (pe_ix (ix_listK K) (pe_fld (pv 0) rfl) pe_int (fun _ _ => rfl)) (pe_ix (ix_listK K) (pe_fld (pv 0) rfl) pe_int (fun _ _ => rfl)) (nomark _)) (pss_one (ps_fld (pv 0) pe_int rfl)) (pss_one (ps_fld (pv 0) (pe_lst (pa_cons (pe_op op_add (pe_ix (ix_listK K) (pe_fld (pv 0) rfl) pe_int (fun _ _ => rfl)) (pe_k rfl T.k_MORE_TIME)) (pa_cons (pe_op op_add (pe_ix (ix_listK K) (pe_fld (pv 0) rfl) pe_int (fun _ _ => rfl)) (pe_k rfl T.k_MORE_TIME)) pa_nil))) rfl)))))), ?_⟩
  refine s_if (ev_op (rd_pt0 T (ev_var rfl) hG) (rd_pt1 T (ev_var rfl) hG) rv_I0 |> et_test) (fun hb H1 e1 => ?_) (fun hb H1 e1 => ?_)
  · have hG1 := hG.mono e1
    obtain ⟨dx, ho⟩ := hG1.obj
    refine s_fld ev_c (ev_var rfl) ho T.c_Game T.n_Game_won (gF_len m r) fun H2 e2 => ?_
    have hL := (hG1.mono e2).ls
    have em : lastM m = { m with won := 0 } := if_pos (of_decide_eq_true hb)
    rw [em] at k
    exact k _ r (GameAt.put (e2 _ _ ho) (gp_won m r 0) ⟨hL.left, hL.points, hL.ends, hL.elen, hL.ents, hL.lying, hL.d1, hL.d2⟩) ((Kp.of_ex (e1.trans e2)).upd List.mem_cons_self) (Fr.self fun b hb => List.mem_cons_of_mem _ hb)
  · have hn := of_decide_eq_false hb
    have hG1 := hG.mono e1
    refine s_if (ev_op (rd_pt1 T (ev_var rfl) hG1) (rd_pt0 T (ev_var rfl) hG1) rv_I0 |> et_test) (fun hb1 H2 e2 => ?_) (fun hb1 H2 e2 => ?_)
    · have hG2 := hG1.mono e2
      obtain ⟨dx, ho⟩ := hG2.obj
      refine s_fld ev_c (ev_var rfl) ho T.c_Game T.n_Game_won (gF_len m r) fun H3 e3 => ?_
      have hL := (hG2.mono e3).ls
      have em : lastM m = { m with won := 1 } := (if_neg hn).trans (if_pos (of_decide_eq_true hb1))
      rw [em] at k
      exact k _ r (GameAt.put (e3 _ _ ho) (gp_won m r 1) ⟨hL.left, hL.points, hL.ends, hL.elen, hL.ents, hL.lying, hL.d1, hL.d2⟩) ((Kp.of_ex ((e1.trans e2).trans e3)).upd List.mem_cons_self) (Fr.self fun b hb => List.mem_cons_of_mem _ hb)
    · have hG2 := hG1.mono e2
      obtain ⟨dx, ho⟩ := hG2.obj
      refine s_fldL (el_lst (ea_cons (ev_op (rd_lf0 T (ev_var rfl) hG2) ev_c rv_I0) (ea_cons (ev_op (rd_lf1 T (ev_var rfl) hG2) ev_c rv_I0) ea_nil)) (by show 2 ≤ 100000; decide)) (ev_var rfl) ho T.c_Game T.n_Game_left (gF_len m r) fun p H3 np e3 h3 => ?_
      have em : lastM m = { m with ta := m.ta + 270, tb := m.tb + 270 } := (if_neg hn).trans (if_neg (of_decide_eq_false hb1))
      rw [em] at k
      have hL := (hG2.ls.mono e3).newLeft (hG2.ls.fresh np) h3
      have ef : putF "left" (.ref p) (gF m r) = gF { m with ta := m.ta + 270, tb := m.tb + 270 } { r with left := p } := gp_left m r p
      refine k _ _ (GameAt.put (e3 _ _ ho) ef hL) ((Kp.of_ex ((e1.trans e2).trans e3)).upd List.mem_cons_self) fun b hb => ?_
      have hb : b ∈ p :: r.ends :: r.points :: r.lying :: r.ents := hb
      rcases List.mem_cons.mp hb with rfl | hb
      · exact .inr (fresh_back (e1.trans e2) np)
      · exact .inl (List.mem_cons_of_mem _ (List.mem_cons_of_mem _ hb))
end
end Cm
namespace Cm
open PySem PySem.Spec PyProof.Rows L2 Evl
/-! ### a match on its way through a method that began at H0 with the lists r0 -/
structure GS (C g : Addr) (r0 : GV) (H0 H : Hp) (m : GM) (r : GV) : Prop where
  on : GameAt C H g m r
  kp : Kp (g :: r0.own) H0 H
  fr : Fr H0 (g :: r0.own) r.own
theorem Kp.upd' {S : List Addr} {H H1 : Hp} {x : Addr} {o : HO} (a : Kp S H H1) (hx : x ∈ S ∨ H x = none) : Kp S H (L2.upd H1 x o) := fun c u h hc => by
  rw [upd_ne (fun z => by
    subst z
    rcases hx with z | z
    · exact hc z
    · rw [z] at h
      cases h)]
  exact a c u h hc
theorem Kp.fresh {S : List Addr} {H H1 : Hp} {x : Addr} (a : Kp S H H1) (hx : H1 x = none) : x ∈ S ∨ H x = none := by
  by_cases hm : x ∈ S
  · exact .inl hm
  · refine .inr ?_
    cases e : H x with
    | none => rfl
    | some o =>
      rw [a x o e hm] at hx
      cases hx
section
variable {C g dx : Addr} {r0 r : GV} {H0 H H1 : Hp} {m m' : GM} {fs' : List (Str × V)} {p : Addr}
theorem GS.of (h : GameAt C H g m r) : GS C g r H H m r := ⟨h, Kp.of_ex (Ex.refl H), Fr.self fun b hb => List.mem_cons_of_mem _ hb⟩
theorem GS.ex (h : GS C g r0 H0 H m r) (e : Ex H H1) : GS C g r0 H0 H1 m r := ⟨h.on.mono e, h.kp.trans (Kp.of_ex e), h.fr⟩
theorem GS.setInt (h : GS C g r0 H0 H m r) (ho : H g = some (.ins C dx (gF m r))) (e : Ex H H1) (hf : fs' = gF m' r) (hl : GL H1 m r → GL H1 m' r) : GS C g r0 H0 (upd H1 g (.ins C dx fs')) m' r :=
  ⟨GameAt.put (e _ _ ho) hf (hl (h.on.ls.mono e)), (h.ex e).kp.upd List.mem_cons_self, h.fr⟩
theorem Fr.put {S S' : List Addr} {p : Addr} (h : Fr H0 S S') (hp : p ∈ S ∨ H0 p = none) {T : List Addr} (hT : ∀ b ∈ T, b = p ∨ b ∈ S') : Fr H0 S T := fun b hb => by
  rcases hT b hb with rfl | z
  · exact hp
  · exact h b z
theorem GS.newLeft {x y : Int} (h : GS C g r0 H0 H m r) (ho : H g = some (.ins C dx (gF m r))) (np : H p = none) (e : Ex H H1) (hp : H1 p = some (.lst [.int x, .int y])) :
    GS C g r0 H0 (upd H1 g (.ins C dx (putF "left" (.ref p) (gF m r)))) { m with ta := x, tb := y } { r with left := p } := by
  refine ⟨GameAt.put (e _ _ ho) (gp_left m r p) ((h.on.ls.mono e).newLeft (h.on.ls.fresh np) hp), (h.ex e).kp.upd List.mem_cons_self, h.fr.put (h.kp.fresh np) fun b hb => ?_⟩
  have hb : b ∈ p :: r.ends :: r.points :: r.lying :: r.ents := hb
  simp only [List.mem_cons, GV.own] at hb ⊢
  rcases hb with z | z | z | z | z <;> simp [z]
theorem GS.newPoints {x y : Int} (h : GS C g r0 H0 H m r) (ho : H g = some (.ins C dx (gF m r))) (np : H p = none) (e : Ex H H1) (hp : H1 p = some (.lst [.int x, .int y])) :
    GS C g r0 H0 (upd H1 g (.ins C dx (putF "points" (.ref p) (gF m r)))) { m with p0 := x, p1 := y } { r with points := p } := by
  refine ⟨GameAt.put (e _ _ ho) (gp_points m r p) ((h.on.ls.mono e).newPoints (h.on.ls.fresh np) hp), (h.ex e).kp.upd List.mem_cons_self, h.fr.put (h.kp.fresh np) fun b hb => ?_⟩
  have hb : b ∈ r.left :: r.ends :: p :: r.lying :: r.ents := hb
  simp only [List.mem_cons, GV.own] at hb ⊢
  rcases hb with z | z | z | z | z <;> simp [z]
theorem GS.newLying {ps : List P3} (h : GS C g r0 H0 H m r) (ho : H g = some (.ins C dx (gF m r))) (np : H p = none) (e : Ex H H1) (hp : Sts H1 p ps) :
    GS C g r0 H0 (upd H1 g (.ins C dx (putF "lying" (.ref p) (gF m r)))) { m with stones := ps } { r with lying := p } := by
  refine ⟨GameAt.put (e _ _ ho) (gp_lying m r p) ((h.on.ls.mono e).newLying (h.on.ls.fresh np) hp), (h.ex e).kp.upd List.mem_cons_self, h.fr.put (h.kp.fresh np) fun b hb => ?_⟩
  have hb : b ∈ r.left :: r.ends :: r.points :: p :: r.ents := hb
  simp only [List.mem_cons, GV.own] at hb ⊢
  rcases hb with z | z | z | z | z <;> simp [z]
theorem GS.addEnd {q : Addr} {c : Nat × Nat} (h : GS C g r0 H0 H m r) (hq : q ∉ r.own) (h0 : q ∈ g :: r0.own ∨ H0 q = none) (e : Ex H H1) (hn : H1 q = some (.lst [.int (c.1 : Nat), .int (c.2 : Nat)])) :
    GS C g r0 H0 (upd H1 r.ends (.lst (r.ents.map V.ref ++ [.ref q]))) { m with scores := m.scores ++ [c] } { r with ents := r.ents ++ [q] } := by
  obtain ⟨dx, ho⟩ := h.on.obj
  have hne : g ≠ r.ends := ne_of ho h.on.ls.ends (by intro z; cases z)
  refine ⟨⟨⟨dx, ?_⟩, (h.on.ls.mono e).addEnd hq hn⟩, (h.ex e).kp.upd' (h.fr _ (by simp [GV.own])), h.fr.put h0 fun b hb => ?_⟩
  · rw [upd_ne hne]
    exact e _ _ ho
  · have hb : b ∈ r.left :: r.ends :: r.points :: r.lying :: (r.ents ++ [q]) := hb
    simp only [List.mem_cons, List.mem_append, List.not_mem_nil, or_false, GV.own] at hb ⊢
    rcases hb with z | z | z | z | z | z <;> simp [z]
theorem GS.setLeft {x y : Int} (h : GS C g r0 H0 H m r) (e : Ex H H1) : GS C g r0 H0 (upd H1 r.left (.lst [.int x, .int y])) { m with ta := x, tb := y } r := by
  obtain ⟨dx, ho⟩ := h.on.obj
  have hne : g ≠ r.left := ne_of ho h.on.ls.left (by intro z; cases z)
  refine ⟨⟨⟨dx, ?_⟩, (h.on.ls.mono e).setLeft⟩, (h.ex e).kp.upd' (h.fr _ (by simp [GV.own])), h.fr⟩
  rw [upd_ne hne]
  exact e _ _ ho
theorem GS.done {Q : VK} (h : GS C g r0 H0 H m r) (k : GPost C g r0 H0 m Q) : Q .non H := k H r h.on h.kp h.fr
theorem GS.go {Q : VK} (h : GS C g r0 H0 H m r) (k : GPost C g r0 H0 m' Q) : GPost C g r H m' Q := k.then h.kp h.fr
end
section
variable {K : PySem.W.Frag} {σ : L2.St} {H : Hp} {te : TE} {C g dx : Addr} {D : Ends} {t : TA} {vs : List V} {sp : Sp} {n : Str} {fs : List (Str × V)} {E : XK}
/-- o.m(..) as a statement, the last one -/
theorem s_callm (h : Ev te σ H (.ref g)) (ho : H g = some (.ins C dx fs)) (l : fs.lookup n = none) (hv : EvA t σ H vs) (hs : ∀ H1, Ex H H1 → sp (.ref g :: vs) H1 (fun _ H' => D.nx σ H') E) : tDrop (tMeth C n sp [] E te t) D σ H :=
  h H (Ex.refl H) _ fun H1 e1 => ⟨g, dx, fs, rfl, e1 _ _ ho, l, hv H1 e1 _ fun H2 e2 => by
    rw [List.append_nil]
    exact hs H2 (e1.trans e2)⟩
end
section
variable {P : Program} {w : World} {K : PySem.W.Frag} {mg : Str → Option Value} {base : Heap} {a : Ad}

def spEnd (C : Addr) : Sp := fun vs H Q _ => ∃ g m r, vs = [.ref g] ∧ GameAt C H g m r ∧ (m.hammer = 0 ∨ m.hammer = 1) ∧ m.stones.length ≤ 1000 ∧ m.scores.length < 90000 ∧ GPost C g r H (endM m) Q
theorem sc_Game_end_over : FnScope ["self", "found"] ["self"] (defScope st_Game_end_over) := ⟨rfl, rfl, rfl, by decide +kernel, rfl, by decide +kernel, by decide +kernel⟩
theorem ok_Game_end_over (T : Tx K mg a) : Ok P w K mg base 5 a.Game_end_over ["self"] (spEnd a.Game) := by
  refine T.d_Game_end_over.ok sc_Game_end_over (by rintro vs H Q E ⟨g, m, r, rfl, _⟩; rfl) (fun cdv A outer s H vs Q E hr h => ?_)
  obtain ⟨g, m, r, rfl, hG, hh, hz, hs, k⟩ := h
  refine ⟨_, (pss_cons (ps_set (i := 1) sc_Game_end_over.nd rfl (by first | exact Or.inl rfl | exact Or.inr rfl) (pe_c (ok_points_of T) (hr.mono (by decide)) rfl T.g_points_of (pa_cons (pe_fld (pv 0) rfl) (pa_cons (pe_fld (pv 0) rfl) pa_nil))))
      (pss_cons (ps_expr (pe_bm PySem.F.plainAttrs_list PySem.F.slot_list_append PySem.F.type_list_append mt_append (pe_fld (pv 0) rfl) (pa_cons (pv 1) pa_nil)))
      (pss_cons (ps_fld (pv 0) (pe_lst (pa_cons (pe_op op_add (pe_ix (ix_listK K) (pe_fld (pv 0) rfl) pe_int (fun _ _ => rfl)) (pe_ix (ix_listK K) (pv 1) pe_int (fun _ _ => rfl))) (pa_cons (pe_op op_add (pe_ix (ix_listK K) (pe_fld (pv 0) rfl) pe_int (fun _ _ => rfl)) (pe_ix (ix_listK K) (pv 1) pe_int (fun _ _ => rfl))) pa_nil))) rfl)
      (pss_cons (ps_fld (pv 0) (pe_lst pa_nil) rfl)
      (pss_cons (ps_fld (pv 0) pe_int rfl)
      (pss_cons (ps_if (pt_cmpR op_gt (pe_ix (ix_listK K) (pv 1) pe_int (fun _ _ => rfl)) pe_int (nomark _)) (pss_one (ps_fld (pv 0) pe_int rfl)) pss_nil)
      (pss_cons (ps_if (pt_cmpR op_gt (pe_ix (ix_listK K) (pv 1) pe_int (fun _ _ => rfl)) pe_int (nomark _)) (pss_one (ps_fld (pv 0) pe_int rfl)) pss_nil)
      (pss_one (ps_if (pt_cmpR op_ge (pe_callB (call_lenK K) (by rfl) T.b_len (by decide +kernel) (pa_cons (pe_fld (pv 0) rfl) pa_nil)) (pe_fld (pv 0) rfl) (nomark _)) (pss_one (ps_expr (pe_m0 (pv 0) T.c_Game T.m_Game_last_over (ok_Game_last_over T) (hr.mono (by decide))))) pss_nil))))))))), ?_⟩
  generalize hc : pts m.stones m.hammer = c
  refine q_asgL (el_call (ea_cons (rd_lying T (ev_var rfl) hG) (ea_cons (rd_hammer T (ev_var rfl) hG) ea_nil)) (spl_pts hG.ls.lying hz hh)) fun q H1 nq e1 hq => ?_
  rw [hc] at hq
  have S1 := (GS.of hG).ex e1
  refine q_app S1.on.ls.ends (rd_ends T (ev_var rfl) S1.on) (ev_var rfl) (by rw [List.length_map, hG.ls.elen]; omega) fun H2 e2 => ?_
  have S2 := S1.addEnd (hG.ls.fresh nq) (.inr nq) e2 (e2 _ _ hq)
  have hq2 : (upd H2 r.ends (.lst (r.ents.map V.ref ++ [.ref q]))) q = some (.lst [.int (c.1 : Nat), .int (c.2 : Nat)]) := by
    rw [upd_ne fun z => hG.ls.fresh nq (by simp [GV.own, z])]
    exact e2 _ _ hq
  generalize upd H2 r.ends (.lst (r.ents.map V.ref ++ [.ref q])) = H3 at S2 hq2 ⊢
  obtain ⟨dx, ho⟩ := S2.on.obj
  refine q_fldL (el_lst (ea_cons (ev_op (rd_pt0 T (ev_var rfl) S2.on) (ev_op (ev_var rfl) ev_c (rv_ixL (sq_of hq2) rfl)) rv_I0) (ea_cons (ev_op (rd_pt1 T (ev_var rfl) S2.on) (ev_op (ev_var rfl) ev_c (rv_ixL (sq_of hq2) rfl)) rv_I0) ea_nil)) (by show 2 ≤ 100000; decide)) (ev_var rfl) ho T.c_Game T.n_Game_points (gF_len _ _) fun p H4 np e4 hp => ?_
  have S4 := S2.newPoints ho np e4 hp
  have nqg : q ≠ g := (ne_of ho hq2 (by intro z; cases z)).symm
  have hq4 : (upd H4 g (.ins a.Game dx (putF "points" (.ref p) (gF { m with scores := m.scores ++ [c] } { r with ents := r.ents ++ [q] })))) q = some (.lst [.int (c.1 : Nat), .int (c.2 : Nat)]) := by
    rw [upd_ne nqg]
    exact e4 _ _ hq2
  generalize upd H4 g (.ins a.Game dx (putF "points" (.ref p) (gF { m with scores := m.scores ++ [c] } { r with ents := r.ents ++ [q] }))) = H5 at S4 hq4 ⊢
  obtain ⟨dx5, ho5⟩ := S4.on.obj
  refine q_fldL (el_lst ea_nil (by show 0 ≤ 100000; decide)) (ev_var rfl) ho5 T.c_Game T.n_Game_lying (gF_len _ _) fun p6 H6 np6 e6 hp6 => ?_
  have S6 := S4.newLying (ps := []) ho5 np6 e6 ⟨[], hp6, rfl, fun i v p h _ => by simp at h⟩
  have hq6 : (upd H6 g (.ins a.Game dx5 (putF "lying" (.ref p6) (gF { m with scores := m.scores ++ [c], p0 := m.p0 + (c.1 : Nat), p1 := m.p1 + (c.2 : Nat) } { r with ents := r.ents ++ [q], points := p })))) q = some (.lst [.int (c.1 : Nat), .int (c.2 : Nat)]) := by
    rw [upd_ne nqg]
    exact e6 _ _ hq4
  generalize upd H6 g (.ins a.Game dx5 (putF "lying" (.ref p6) (gF { m with scores := m.scores ++ [c], p0 := m.p0 + (c.1 : Nat), p1 := m.p1 + (c.2 : Nat) } { r with ents := r.ents ++ [q], points := p }))) = H7 at S6 hq6 ⊢
  obtain ⟨dx7, ho7⟩ := S6.on.obj
  refine q_fld ev_c (ev_var rfl) ho7 T.c_Game T.n_Game_delivered (gF_len _ _) fun H8 e8 => ?_
  have S8 := S6.setInt (m' := scoredM m) ho7 e8 (show putF "delivered" (.int 0) (gF { m with scores := m.scores ++ [c], p0 := m.p0 + (c.1 : Nat), p1 := m.p1 + (c.2 : Nat), stones := [] } { r with ents := r.ents ++ [q], points := p, lying := p6 }) = gF (scoredM m) { r with ents := r.ents ++ [q], points := p, lying := p6 } by
      unfold scoredM
      rw [hc]
      exact gp_deliv _ _ 0) (fun h => by
    unfold scoredM
    rw [hc]
    exact ⟨h.left, h.points, h.ends, h.elen, h.ents, h.lying, h.d1, h.d2⟩)
  have hq8 : (upd H8 g (.ins a.Game dx7 (putF "delivered" (.int 0) (gF { m with scores := m.scores ++ [c], p0 := m.p0 + (c.1 : Nat), p1 := m.p1 + (c.2 : Nat), stones := [] } { r with ents := r.ents ++ [q], points := p, lying := p6 })))) q = some (.lst [.int (c.1 : Nat), .int (c.2 : Nat)]) := by
    rw [upd_ne nqg]
    exact e8 _ _ hq6
  generalize upd H8 g (.ins a.Game dx7 (putF "delivered" (.int 0) (gF { m with scores := m.scores ++ [c], p0 := m.p0 + (c.1 : Nat), p1 := m.p1 + (c.2 : Nat), stones := [] } { r with ents := r.ents ++ [q], points := p, lying := p6 }))) = H9 at S8 hq8 ⊢
  unfold endM at k
  rw [hc] at k
  generalize hr8 : ({ r with ents := r.ents ++ [q], points := p, lying := p6 } : GV) = r8 at S8
  generalize scoredM m = m8 at S8 k
  -- from here on: two ifs for the hammer, then the end
  have last : ∀ (H' : Hp) (m9 : GM), m9 = hamM m8 c → GS a.Game g r H H' m9 r8 →
      tIfS (tTest (tOp (rI0 fun i j => .bl (decide (j ≤ i))) (tCB (rLenS K) (tCons (tFld K (tVar 0) "ends") tNil)) (tFld K (tVar 0) "many"))) (tDrop (tMeth a.Game "last_over" (spLast a.Game) [] E0 (tVar 0) tNil)) tNext { nx := fun _ H' => Q .non H', rt := Q } [some (.ref g), some (.ref q)] H' := by
    intro H' m9 e9 S9
    have es : m9.scores = m8.scores ∧ m9.many = m8.many := by rw [e9]; exact ⟨rfl, rfl⟩
    refine s_when (et_test (ev_op (rd_elen T (ev_var rfl) S9.on) (rd_many T (ev_var rfl) S9.on) rv_I0)) (fun hb H10 e10 => ?_) (fun hb H10 e10 => ?_)
    · have hb := of_decide_eq_true hb
      rw [es.1, es.2] at hb
      rw [if_pos hb, ← e9] at k
      have S10 := S9.ex e10
      obtain ⟨dx10, ho10⟩ := S10.on.obj
      exact s_callm (ev_var rfl) ho10 (gf_last_over _ _) ea_nil fun H11 e11 => ⟨g, m9, r8, rfl, (S10.ex e11).on, (S10.ex e11).go k⟩
    · have hb := of_decide_eq_false hb
      rw [es.1, es.2] at hb
      rw [if_neg hb, ← e9] at k
      exact (S9.ex e10).done k
  have second : ∀ (H' : Hp) (m9 : GM), m9 = { m8 with hammer := if 0 < (c.1 : Int) then 1 else m8.hammer } → GS a.Game g r H H' m9 r8 → H' q = some (.lst [.int (c.1 : Nat), .int (c.2 : Nat)]) →
      tSeq (tIfS (tTest (tOp (rI0 fun i j => .bl (decide (j < i))) (tOp (rIxL K) (tVar 1) (tC (.int 1))) (tC (.int 0)))) (sFld K (tVar 0) (tC (.int 0)) "hammer") tNext)
        (tIfS (tTest (tOp (rI0 fun i j => .bl (decide (j ≤ i))) (tCB (rLenS K) (tCons (tFld K (tVar 0) "ends") tNil)) (tFld K (tVar 0) "many"))) (tDrop (tMeth a.Game "last_over" (spLast a.Game) [] E0 (tVar 0) tNil)) tNext) { nx := fun _ H' => Q .non H', rt := Q } [some (.ref g), some (.ref q)] H' := by
    intro H' m9 e9 S9 hq9
    refine q_when (et_test (ev_op (ev_op (ev_var rfl) ev_c (rv_ixL (sq_of hq9) rfl)) ev_c rv_I0)) (fun hb H10 e10 => ?_) (fun hb H10 e10 => ?_)
    · have hb := of_decide_eq_true hb
      have S10 := S9.ex e10
      obtain ⟨dx10, ho10⟩ := S10.on.obj
      refine s_fld ev_c (ev_var rfl) ho10 T.c_Game T.n_Game_hammer (gF_len _ _) fun H11 e11 => ?_
      refine last _ _ ?_ (S10.setInt (m' := { m9 with hammer := 0 }) ho10 e11 (gp_hammer _ _ 0) fun h => ⟨h.left, h.points, h.ends, h.elen, h.ents, h.lying, h.d1, h.d2⟩)
      rw [e9]
      unfold hamM
      rw [if_pos hb]
    · have hb := of_decide_eq_false hb
      refine last _ _ ?_ (S9.ex e10)
      rw [e9]
      unfold hamM
      rw [if_neg hb]
  refine q_when (et_test (ev_op (ev_op (ev_var rfl) ev_c (rv_ixL (sq_of hq8) rfl)) ev_c rv_I0)) (fun hb H10 e10 => ?_) (fun hb H10 e10 => ?_)
  · have hb := of_decide_eq_true hb
    have S10 := S8.ex e10
    obtain ⟨dx10, ho10⟩ := S10.on.obj
    refine s_fld ev_c (ev_var rfl) ho10 T.c_Game T.n_Game_hammer (gF_len _ _) fun H11 e11 => ?_
    refine second _ _ ?_ (S10.setInt (m' := { m8 with hammer := 1 }) ho10 e11 (gp_hammer _ _ 1) fun h => ⟨h.left, h.points, h.ends, h.elen, h.ents, h.lying, h.d1, h.d2⟩) ?_
    · rw [if_pos hb]
    · rw [upd_ne nqg]
      exact e11 _ _ (e10 _ _ hq8)
  · have hb := of_decide_eq_false hb
    refine second _ _ ?_ (S8.ex e10) (e10 _ _ hq8)
    rw [if_neg hb]
end
end Cm
namespace Cm
open PySem PySem.Spec PyProof.Rows L2 Evl
section
variable {P : Program} {w : World} {K : PySem.W.Frag} {mg : Str → Option Value} {base : Heap} {a : Ad}

def spGoes (C : Addr) : Sp := fun vs H Q _ => ∃ g b m r ps, vs = [.ref g, .ref b] ∧ GameAt C H g m r ∧ Sts H b ps ∧ (m.hammer = 0 ∨ m.hammer = 1) ∧ ps.length ≤ 1000 ∧ m.scores.length < 90000 ∧ GPost C g r H (goesM m ps) Q
theorem sc_Game_goes_on : FnScope ["self", "stones"] ["self", "stones"] (defScope st_Game_goes_on) := ⟨rfl, rfl, rfl, by decide +kernel, rfl, by decide +kernel, by decide +kernel⟩
theorem ok_Game_goes_on (T : Tx K mg a) : Ok P w K mg base 6 a.Game_goes_on ["self", "stones"] (spGoes a.Game) := by
  refine T.d_Game_goes_on.ok sc_Game_goes_on (by rintro vs H Q E ⟨g, b, m, r, ps, rfl, _⟩; rfl) (fun cdv A outer s H vs Q E hr h => ?_)
  obtain ⟨g, b, m, r, ps, rfl, hG, ⟨us, hb, hus⟩, hh, hz, hs, k⟩ := h
  refine ⟨_, (pss_cons (ps_fld (pv 0) (pe_callTy (call_listK K) (by rfl) T.b_list (by decide +kernel) (pa_cons (pv 1) pa_nil)) rfl)
      (pss_cons (ps_fld (pv 0) (pe_op op_add (pe_fld (pv 0) rfl) pe_int) rfl)
      (pss_one (ps_if (pt_cmpR op_eq (pe_fld (pv 0) rfl) (pe_k rfl T.k_STONES) (nomark _)) (pss_one (ps_expr (pe_m0 (pv 0) T.c_Game T.m_Game_end_over (ok_Game_end_over T) (hr.mono (by decide))))) pss_nil)))), ?_⟩
  obtain ⟨dx, ho⟩ := hG.obj
  refine q_fldL (el_list (ev_var rfl) (sq_of hb)) (ev_var rfl) ho T.c_Game T.n_Game_lying (gF_len _ _) fun p H1 np e1 hp => ?_
  have S1 := (GS.of hG).newLying ho np e1 ⟨us, hp, hus.mono e1⟩
  generalize upd H1 g (.ins a.Game dx (putF "lying" (.ref p) (gF m r))) = H2 at S1 ⊢
  obtain ⟨dx2, ho2⟩ := S1.on.obj
  refine q_fld (ev_op (rd_deliv T (ev_var rfl) S1.on) ev_c rv_I0) (ev_var rfl) ho2 T.c_Game T.n_Game_delivered (gF_len _ _) fun H3 e3 => ?_
  have S3 := S1.setInt (m' := { m with stones := ps, deliv := m.deliv + 1 }) ho2 e3 (gp_deliv _ _ _) (fun h => ⟨h.left, h.points, h.ends, h.elen, h.ents, h.lying, h.d1, h.d2⟩)
  unfold goesM at k
  have ht := et_test (ev_op (rd_deliv (te := tVar 0) (σ := [some (.ref g), some (.ref b)]) T (ev_var rfl) S3.on) (ev_c (v := .int 16)) (rv_eq rfl))
  rw [dec_v] at ht
  refine s_when ht (fun hb1 H5 e5 => ?_) (fun hb1 H5 e5 => ?_)
  · rw [if_pos (of_decide_eq_true hb1)] at k
    have S5 := S3.ex e5
    obtain ⟨dx5, ho5⟩ := S5.on.obj
    exact s_callm (ev_var rfl) ho5 (gf_end_over _ _) ea_nil fun H6 e6 => ⟨g, _, _, rfl, (S5.ex e6).on, hh, hz, hs, (S5.ex e6).go k⟩
  · rw [if_neg (of_decide_eq_false hb1)] at k
    exact (S3.ex e5).done k

def spThinks (C : Addr) : Sp := fun vs H Q _ => ∃ g m r s t, vs = [.ref g, .int s, .int t] ∧ GameAt C H g m r ∧ (s = 0 ∨ s = 1) ∧ GPost C g r H (thinkM m s t) Q
theorem setT0 (m : GM) (t : Int) : setT m 0 t = { m with ta := if m.ta - t > 0 then m.ta - t else 0, tb := m.tb } := rfl
theorem setT1 (m : GM) (t : Int) : setT m 1 t = { m with ta := m.ta, tb := if m.tb - t > 0 then m.tb - t else 0 } := rfl
theorem sc_Game_thinks : FnScope ["self", "side", "seconds"] ["self", "side", "seconds"] (defScope st_Game_thinks) := ⟨rfl, rfl, rfl, by decide +kernel, rfl, by decide +kernel, by decide +kernel⟩
theorem ok_Game_thinks (T : Tx K mg a) : Ok P w K mg base 2 a.Game_thinks ["self", "side", "seconds"] (spThinks a.Game) := by
  refine T.d_Game_thinks.ok sc_Game_thinks (by rintro vs H Q E ⟨g, m, r, s, t, rfl, _⟩; rfl) (fun cdv A outer s H vs Q E hr h => ?_)
  obtain ⟨g, m, r, s, t, rfl, hG, hs, k⟩ := h
  refine ⟨_, (pss_cons (ps_asg (pe_callB (call_max2 rfl) (by rfl) T.b_max (by decide +kernel) (pa_cons pe_int (pa_cons (pe_op op_sub (pe_ix (ix_listK K) (pe_fld (pv 0) rfl) (pv 1) (fun _ _ => rfl)) (pv 2)) pa_nil))) (pg_sub (pe_fld (pv 0) rfl) (pv 1) set_list))
      (pss_one (ps_if (pt_cmpR op_eq (pe_ix (ix_listK K) (pe_fld (pv 0) rfl) (pv 1) (fun _ _ => rfl)) pe_int (nomark _)) (pss_one (ps_expr (pe_m (pv 0) T.c_Game T.m_Game_lost (ok_Game_lost T) (hr.mono (by decide)) (pa_cons (pv 1) pa_nil)))) pss_nil))), ?_⟩
  unfold thinkM at k
  rcases hs with rfl | rfl
  · refine q_setL (j := 0) hG.ls.left (ev_max2 ev_c (ev_op (ev_op (rd_left T (ev_var rfl) hG) (ev_var rfl) (rv_ixL (sq_of hG.ls.left) rfl)) (ev_var rfl) rv_I0)) (rd_left T (ev_var rfl) hG) (ev_var rfl) (by show 0 < 2; decide) fun H1 e1 => ?_
    have S1 := (GS.of hG).setLeft (x := if m.ta - t > 0 then m.ta - t else 0) (y := m.tb) e1
    rw [← setT0] at S1
    show tIfS _ _ _ _ _ (upd H1 r.left (.lst [.int (if m.ta - t > 0 then m.ta - t else 0), .int m.tb]))
    generalize upd H1 r.left (.lst [.int (if m.ta - t > 0 then m.ta - t else 0), .int m.tb]) = H2 at S1 ⊢
    have ht2 : EvT (tTest (tOp rEq (tOp (rIxL K) (tFld K (tVar 0) "left") (tVar 1)) (tC (.int 0)))) [some (.ref g), some (.int 0), some (.int t)] H2 (decide ((setT m 0 t).ta = 0)) := by
      have q := et_test (ev_op (ev_op (rd_left (te := tVar 0) (σ := [some (.ref g), some (.int 0), some (.int t)]) T (ev_var rfl) S1.on) (ev_var (i := 1) (v := .int 0) rfl) (rv_ixL (K := K) (sq_of S1.on.ls.left) (v := .int (setT m 0 t).ta) rfl)) (ev_c (v := .int 0)) (rv_eq rfl))
      rw [dec_v] at q
      exact q
    refine s_when ht2 (fun hb1 H5 e5 => ?_) (fun hb1 H5 e5 => ?_)
    · rw [if_pos (show leftM (setT m 0 t) 0 = 0 from of_decide_eq_true hb1)] at k
      have S5 := S1.ex e5
      obtain ⟨dx5, ho5⟩ := S5.on.obj
      exact s_callm (ev_var rfl) ho5 (gf_lost _ _) (ea_cons (ev_var rfl) ea_nil) fun H6 e6 => ⟨g, _, _, 0, rfl, (S5.ex e6).on, (S5.ex e6).go k⟩
    · rw [if_neg (show ¬ leftM (setT m 0 t) 0 = 0 from of_decide_eq_false hb1)] at k
      exact (S1.ex e5).done k
  · refine q_setL (j := 1) hG.ls.left (ev_max2 ev_c (ev_op (ev_op (rd_left T (ev_var rfl) hG) (ev_var rfl) (rv_ixL (sq_of hG.ls.left) rfl)) (ev_var rfl) rv_I0)) (rd_left T (ev_var rfl) hG) (ev_var rfl) (by show 1 < 2; decide) fun H1 e1 => ?_
    have S1 := (GS.of hG).setLeft (x := m.ta) (y := if m.tb - t > 0 then m.tb - t else 0) e1
    rw [← setT1] at S1
    show tIfS _ _ _ _ _ (upd H1 r.left (.lst [.int m.ta, .int (if m.tb - t > 0 then m.tb - t else 0)]))
    generalize upd H1 r.left (.lst [.int m.ta, .int (if m.tb - t > 0 then m.tb - t else 0)]) = H2 at S1 ⊢
    have ht2 : EvT (tTest (tOp rEq (tOp (rIxL K) (tFld K (tVar 0) "left") (tVar 1)) (tC (.int 0)))) [some (.ref g), some (.int 1), some (.int t)] H2 (decide ((setT m 1 t).tb = 0)) := by
      have q := et_test (ev_op (ev_op (rd_left (te := tVar 0) (σ := [some (.ref g), some (.int 1), some (.int t)]) T (ev_var rfl) S1.on) (ev_var (i := 1) (v := .int 1) rfl) (rv_ixL (K := K) (sq_of S1.on.ls.left) (v := .int (setT m 1 t).tb) rfl)) (ev_c (v := .int 0)) (rv_eq rfl))
      rw [dec_v] at q
      exact q
    refine s_when ht2 (fun hb1 H5 e5 => ?_) (fun hb1 H5 e5 => ?_)
    · rw [if_pos (show leftM (setT m 1 t) 1 = 0 from of_decide_eq_true hb1)] at k
      have S5 := S1.ex e5
      obtain ⟨dx5, ho5⟩ := S5.on.obj
      exact s_callm (ev_var rfl) ho5 (gf_lost _ _) (ea_cons (ev_var rfl) ea_nil) fun H6 e6 => ⟨g, _, _, 1, rfl, (S5.ex e6).on, (S5.ex e6).go k⟩
    · rw [if_neg (show ¬ leftM (setT m 1 t) 1 = 0 from of_decide_eq_false hb1)] at k
      exact (S1.ex e5).done k

/-! ### a new match -/
def newM (many h t : Int) : GM := ⟨many, h, t, t, 0, 0, [], 0, [], -1⟩
def spInitG (C : Addr) : Sp := fun vs H Q _ => ∃ g dx n h t, vs = [.ref g, .int n, .int h, .int t] ∧ H g = some (.ins C dx []) ∧ ∀ H' r', GameAt C H' g (newM n h t) r' → (∀ b o, H b = some o → b ≠ g → H' b = some o) → (∀ b ∈ r'.own, H b = none) → Q .non H'
def i1 (n : Int) : List (Str × V) := [("many", V.int n)]
def i2 (n h : Int) : List (Str × V) := [("many", V.int n), ("hammer", V.int h)]
def i3 (n h : Int) (pl : Addr) : List (Str × V) := [("many", V.int n), ("hammer", V.int h), ("left", V.ref pl)]
def i4 (n h : Int) (pl pp : Addr) : List (Str × V) := [("many", V.int n), ("hammer", V.int h), ("left", V.ref pl), ("points", V.ref pp)]
def i5 (n h : Int) (pl pp pe : Addr) : List (Str × V) := [("many", V.int n), ("hammer", V.int h), ("left", V.ref pl), ("points", V.ref pp), ("ends", V.ref pe)]
def i6 (n h : Int) (pl pp pe : Addr) : List (Str × V) := [("many", V.int n), ("hammer", V.int h), ("left", V.ref pl), ("points", V.ref pp), ("ends", V.ref pe), ("delivered", V.int 0)]
def i7 (n h : Int) (pl pp pe py : Addr) : List (Str × V) := [("many", V.int n), ("hammer", V.int h), ("left", V.ref pl), ("points", V.ref pp), ("ends", V.ref pe), ("delivered", V.int 0), ("lying", V.ref py)]
theorem fresh_but {H H1 : Hp} {g p : Addr} (k : ∀ b o, H b = some o → b ≠ g → H1 b = some o) (hg : H1 g ≠ none) (hp : H1 p = none) : H p = none := by
  cases e : H p with
  | none => rfl
  | some o =>
    have hne : p ≠ g := fun z => hg (by rw [← z]; exact hp)
    rw [k p o e hne] at hp
    cases hp
theorem sc_Game_init : FnScope ["self", "many", "hammer", "time"] ["self", "many", "hammer", "time"] (defScope st_Game_init) := ⟨rfl, rfl, rfl, by decide +kernel, rfl, by decide +kernel, by decide +kernel⟩
theorem ok_Game_init (T : Tx K mg a) : Ok P w K mg base 1 a.Game_init ["self", "many", "hammer", "time"] (spInitG a.Game) := by
  refine T.d_Game_init.ok sc_Game_init (by rintro vs H Q E ⟨g, dx, n, h, t, rfl, _⟩; rfl) (fun cdv A outer s H vs Q E hr h => ?_)
  obtain ⟨g, dx, n, h, t, rfl, ho, k⟩ := h
  refine ⟨_, (pss_cons (ps_fld (pv 0) (pv 1) rfl)
      (pss_cons (ps_fld (pv 0) (pv 2) rfl)
      (pss_cons (ps_fld (pv 0) (pe_lst (pa_cons (pv 3) (pa_cons (pv 3) pa_nil))) rfl)
      (pss_cons (ps_fld (pv 0) (pe_lst (pa_cons pe_int (pa_cons pe_int pa_nil))) rfl)
      (pss_cons (ps_fld (pv 0) (pe_lst pa_nil) rfl)
      (pss_cons (ps_fld (pv 0) pe_int rfl)
      (pss_cons (ps_fld (pv 0) (pe_lst pa_nil) rfl)
      (pss_one (ps_fld (pv 0) (pe_k rfl T.k_NOBODY) rfl))))))))), ?_⟩
  have up : ∀ {H0 H1 : Hp} {o : HO}, (∀ b u, H b = some u → b ≠ g → H0 b = some u) → Ex H0 H1 → ∀ b u, H b = some u → b ≠ g → upd H1 g o b = some u := fun k0 e b u hb hne => (upd_ne hne).trans (e _ _ (k0 b u hb hne))
  refine q_fld (ev_var rfl) (ev_var rfl) ho T.c_Game T.n_Game_many (by show 0 < 1000; decide) fun H1 e1 => ?_
  have k1 := up (o := .ins a.Game dx (putF "many" (.int n) [])) (fun b u hb _ => hb) e1
  have o1 : (upd H1 g (.ins a.Game dx (putF "many" (.int n) []))) g = some (.ins a.Game dx (i1 n)) := upd_same
  generalize upd H1 g (.ins a.Game dx (putF "many" (.int n) [])) = G1 at k1 o1 ⊢
  refine q_fld (ev_var rfl) (ev_var rfl) o1 T.c_Game T.n_Game_hammer (by show 1 < 1000; decide) fun H2 e2 => ?_
  have f2 : putF "hammer" (.int h) (i1 n) = (i2 n h) := put_past (by decide +kernel)
  rw [f2]
  have k2 := up (o := .ins a.Game dx (i2 n h)) k1 e2
  have o2 : (upd H2 g (.ins a.Game dx (i2 n h))) g = _ := upd_same
  generalize upd H2 g (.ins a.Game dx (i2 n h)) = G2 at k2 o2 ⊢
  refine q_fldL (el_lst (ea_cons (ev_var rfl) (ea_cons (ev_var rfl) ea_nil)) (by show 2 ≤ 100000; decide)) (ev_var rfl) o2 T.c_Game T.n_Game_left (by show 2 < 1000; decide) fun pl H3 nl e3 hl => ?_
  have f3 : putF "left" (.ref pl) (i2 n h) = (i3 n h pl) := by
    unfold i2
    rw [put_past (by decide +kernel), put_past (by decide +kernel)]
    rfl
  rw [f3]
  have k3 := up (o := .ins a.Game dx (i3 n h pl)) k2 e3
  have gl : pl ≠ g := (ne_of_none o2 nl).symm
  have nl0 : H pl = none := fresh_but k2 (by rw [o2]; exact fun z => by cases z) nl
  have hl3 : (upd H3 g (.ins a.Game dx (i3 n h pl))) pl = some (.lst [.int t, .int t]) := (upd_ne gl).trans hl
  have o3 : (upd H3 g (.ins a.Game dx (i3 n h pl))) g = _ := upd_same
  generalize upd H3 g (.ins a.Game dx (i3 n h pl)) = G3 at k3 o3 hl3 ⊢
  refine q_fldL (el_lst (ea_cons ev_c (ea_cons ev_c ea_nil)) (by show 2 ≤ 100000; decide)) (ev_var rfl) o3 T.c_Game T.n_Game_points (by show 3 < 1000; decide) fun pp H4 npp e4 hp => ?_
  have f4 : putF "points" (.ref pp) (i3 n h pl) = (i4 n h pl pp) := by
    unfold i3
    rw [put_past (by decide +kernel), put_past (by decide +kernel), put_past (by decide +kernel)]
    rfl
  rw [f4]
  have k4 := up (o := .ins a.Game dx (i4 n h pl pp)) k3 e4
  have gp : pp ≠ g := (ne_of_none o3 npp).symm
  have np0 : H pp = none := fresh_but k3 (by rw [o3]; exact fun z => by cases z) npp
  have lp : pl ≠ pp := ne_of_none hl3 npp
  have hl4 : (upd H4 g (.ins a.Game dx (i4 n h pl pp))) pl = some (.lst [.int t, .int t]) := (upd_ne gl).trans (e4 _ _ hl3)
  have hp4 : (upd H4 g (.ins a.Game dx (i4 n h pl pp))) pp = some (.lst [.int 0, .int 0]) := (upd_ne gp).trans hp
  have o4 : (upd H4 g (.ins a.Game dx (i4 n h pl pp))) g = _ := upd_same
  generalize upd H4 g (.ins a.Game dx (i4 n h pl pp)) = G4 at k4 o4 hl4 hp4 ⊢
  refine q_fldL (el_lst ea_nil (by show 0 ≤ 100000; decide)) (ev_var rfl) o4 T.c_Game T.n_Game_ends (by show 4 < 1000; decide) fun pe H5 ne e5 he => ?_
  have f5 : putF "ends" (.ref pe) (i4 n h pl pp) = (i5 n h pl pp pe) := by
    unfold i4
    rw [put_past (by decide +kernel), put_past (by decide +kernel), put_past (by decide +kernel), put_past (by decide +kernel)]
    rfl
  rw [f5]
  have k5 := up (o := .ins a.Game dx (i5 n h pl pp pe)) k4 e5
  have ge : pe ≠ g := (ne_of_none o4 ne).symm
  have ne0 : H pe = none := fresh_but k4 (by rw [o4]; exact fun z => by cases z) ne
  have le : pl ≠ pe := ne_of_none hl4 ne
  have pe' : pp ≠ pe := ne_of_none hp4 ne
  have hl5 : (upd H5 g (.ins a.Game dx (i5 n h pl pp pe))) pl = some (.lst [.int t, .int t]) := (upd_ne gl).trans (e5 _ _ hl4)
  have hp5 : (upd H5 g (.ins a.Game dx (i5 n h pl pp pe))) pp = some (.lst [.int 0, .int 0]) := (upd_ne gp).trans (e5 _ _ hp4)
  have he5 : (upd H5 g (.ins a.Game dx (i5 n h pl pp pe))) pe = some (.lst []) := (upd_ne ge).trans he
  have o5 : (upd H5 g (.ins a.Game dx (i5 n h pl pp pe))) g = _ := upd_same
  generalize upd H5 g (.ins a.Game dx (i5 n h pl pp pe)) = G5 at k5 o5 hl5 hp5 he5 ⊢
  refine q_fld ev_c (ev_var rfl) o5 T.c_Game T.n_Game_delivered (by show 5 < 1000; decide) fun H6 e6 => ?_
  have f6 : putF "delivered" (.int 0) (i5 n h pl pp pe) = (i6 n h pl pp pe) := by
    unfold i5
    rw [put_past (by decide +kernel), put_past (by decide +kernel), put_past (by decide +kernel), put_past (by decide +kernel), put_past (by decide +kernel)]
    rfl
  rw [f6]
  have k6 := up (o := .ins a.Game dx (i6 n h pl pp pe)) k5 e6
  have hl6 : (upd H6 g (.ins a.Game dx (i6 n h pl pp pe))) pl = some (.lst [.int t, .int t]) := (upd_ne gl).trans (e6 _ _ hl5)
  have hp6 : (upd H6 g (.ins a.Game dx (i6 n h pl pp pe))) pp = some (.lst [.int 0, .int 0]) := (upd_ne gp).trans (e6 _ _ hp5)
  have he6 : (upd H6 g (.ins a.Game dx (i6 n h pl pp pe))) pe = some (.lst []) := (upd_ne ge).trans (e6 _ _ he5)
  have o6 : (upd H6 g (.ins a.Game dx (i6 n h pl pp pe))) g = _ := upd_same
  generalize upd H6 g (.ins a.Game dx (i6 n h pl pp pe)) = G6 at k6 o6 hl6 hp6 he6 ⊢
  refine q_fldL (el_lst ea_nil (by show 0 ≤ 100000; decide)) (ev_var rfl) o6 T.c_Game T.n_Game_lying (by show 6 < 1000; decide) fun py H7 ny e7 hy => ?_
  have f7 : putF "lying" (.ref py) (i6 n h pl pp pe) = (i7 n h pl pp pe py) := by
    unfold i6
    rw [put_past (by decide +kernel), put_past (by decide +kernel), put_past (by decide +kernel), put_past (by decide +kernel), put_past (by decide +kernel), put_past (by decide +kernel)]
    rfl
  rw [f7]
  have k7 := up (o := .ins a.Game dx (i7 n h pl pp pe py)) k6 e7
  have gy : py ≠ g := (ne_of_none o6 ny).symm
  have ny0 : H py = none := fresh_but k6 (by rw [o6]; exact fun z => by cases z) ny
  have ly : pl ≠ py := ne_of_none hl6 ny
  have ey : pe ≠ py := ne_of_none he6 ny
  have hl7 : (upd H7 g (.ins a.Game dx (i7 n h pl pp pe py))) pl = some (.lst [.int t, .int t]) := (upd_ne gl).trans (e7 _ _ hl6)
  have hp7 : (upd H7 g (.ins a.Game dx (i7 n h pl pp pe py))) pp = some (.lst [.int 0, .int 0]) := (upd_ne gp).trans (e7 _ _ hp6)
  have he7 : (upd H7 g (.ins a.Game dx (i7 n h pl pp pe py))) pe = some (.lst []) := (upd_ne ge).trans (e7 _ _ he6)
  have hy7 : (upd H7 g (.ins a.Game dx (i7 n h pl pp pe py))) py = some (.lst []) := (upd_ne gy).trans hy
  have o7 : (upd H7 g (.ins a.Game dx (i7 n h pl pp pe py))) g = _ := upd_same
  generalize upd H7 g (.ins a.Game dx (i7 n h pl pp pe py)) = G7 at k7 o7 hl7 hp7 he7 hy7 ⊢
  refine s_fld ev_c (ev_var rfl) o7 T.c_Game T.n_Game_won (by show 7 < 1000; decide) fun H8 e8 => ?_
  have f8 : putF "won" (.int (-1)) (i7 n h pl pp pe py) = gF (newM n h t) ⟨pl, pp, pe, py, []⟩ := by
    unfold i7
    rw [put_past (by decide +kernel), put_past (by decide +kernel), put_past (by decide +kernel), put_past (by decide +kernel), put_past (by decide +kernel), put_past (by decide +kernel), put_past (by decide +kernel)]
    rfl
  refine k _ ⟨pl, pp, pe, py, []⟩ (GameAt.put (e8 _ _ o7) f8 ⟨e8 _ _ hl7, e8 _ _ hp7, e8 _ _ he7, rfl, fun i q p z _ => by simp at z, ⟨[], e8 _ _ hy7, rfl, fun i v p z _ => by simp at z⟩, le, fun b hb => ?_⟩) (up k7 e8) fun b hb => ?_
  · have hb : b = pp ∨ b = py := by simpa using hb
    rcases hb with rfl | rfl
    · exact ⟨lp.symm, pe'⟩
    · exact ⟨ly.symm, ey.symm⟩
  · have hb : b = pl ∨ b = pe ∨ b = pp ∨ b = py := by simpa [GV.own] using hb
    rcases hb with rfl | rfl | rfl | rfl
    · exact nl0
    · exact ne0
    · exact np0
    · exact ny0
end
end Cm
namespace Cm
open PySem PySem.Spec PyProof.Rows L2 Evl
/-! ### what is told of a match -/
def b2n (b : Bool) : Int := if b then 1 else 0
def sideM (m : GM) (n : Int) : Int := if n % 2 = 1 then m.hammer else 1 - m.hammer
def nowM (m : GM) : List Int := [b2n (!decide (m.won = -1))] ++ stands m ++ [sideM m m.deliv, m.ta, m.tb]
def showM (m : GM) (p : P3) : List Int := [p.n, sideM m p.n, p.x, p.y, b2n (inHouse p), b2n (guard p)]
def stonesM (m : GM) : List Int := (m.stones.length : Nat) :: m.stones.flatMap (showM m)
def scoresM (m : GM) : List Int := (m.scores.length : Nat) :: m.scores.flatMap fun p => [(p.1 : Int), (p.2 : Int)]
def shotM (m : GM) : List Int := [((pts m.stones m.hammer).1 : Int) + ((pts m.stones m.hammer).2 : Int), ((pts m.stones m.hammer).1 : Int), ((pts m.stones m.hammer).2 : Int)]
def okm (m : GM) : Prop := (m.hammer = 0 ∨ m.hammer = 1) ∧ m.stones.length ≤ 1000 ∧ m.scores.length < 10000
def RT (C : Addr) (f : GM → List Int) (vs : List V) (H : Hp) (xs : List V) : Prop := ∃ g m r, vs = [.ref g] ∧ GameAt C H g m r ∧ okm m ∧ xs = (f m).map V.int
section
variable {K : PySem.W.Frag} {σ : L2.St} {H : Hp} {te ta tb : TE} {D : Ends} {l : Addr} {xs ys : List V} {tz : TS} {b : Bool}
/-- int(a truth value) -/
theorem ev_intB (h : Ev te σ H (.bl b)) : Ev (tCB (fun xs H Q => (∃ i, xs = [.int i] ∧ Q (.int i) H) ∨ ∃ k, xs = [.bl k] ∧ Q (.int (if k then 1 else 0)) H) (tCons te tNil)) σ H (.int (b2n b)) :=
  ev_cb (ea_cons h ea_nil) fun H1 _ Q q => .inr ⟨b, rfl, q H1 (Ex.refl H1)⟩
/-- xs.extend([..]) -/
theorem s_ext (hl : H l = some (.lst xs)) (ha : Ev ta σ H (.ref l)) (h : EvL te σ H ys) (hz : xs.length + ys.length ≤ sizeLine) (k : ∀ p H1, H p = none → Ex H H1 → H1 p = some (.lst ys) → D.nx σ (upd H1 l (.lst (xs ++ ys)))) :
    tDrop (tBM K "list" rExtend ta (tCons te tNil)) D σ H := ha H (Ex.refl H) _ fun H1 e1 =>
  ⟨Or.inl ⟨rfl, xs, sq_of (e1 l _ hl)⟩, h H1 e1 _ fun p H2 hp e2 h2 => ⟨l, p, xs, ys, rfl, rfl, e2 l _ (e1 l _ hl), h2, hz, k p H2 (fresh_back e1 hp) (e1.trans e2) h2⟩⟩
end
section
variable {P : Program} {w : World} {K : PySem.W.Frag} {mg : Str → Option Value} {base : Heap} {a : Ad}
theorem ev_side (T : Tx K mg a) {σ : L2.St} {H : Hp} {te ta : TE} {g : Addr} {m : GM} {r : GV} {n : Int} (h : Ev te σ H (.ref g)) (hn : Ev ta σ H (.int n)) (hG : GameAt a.Game H g m r) : Ev (tMeth a.Game "side_of" (spV (RSide a.Game)) [] E0 te (tCons ta tNil)) σ H (.int (sideM m n)) := by
  obtain ⟨dx, ho⟩ := hG.obj
  exact ev_meth h ho (gf_side_of _ _) (ea_cons hn ea_nil) (spV_of ⟨g, m, r, n, rfl, hG, rfl⟩ fun H1 e => ⟨g, m, r, n, rfl, hG.mono e, rfl⟩)
theorem ev_over (T : Tx K mg a) {σ : L2.St} {H : Hp} {te : TE} {g : Addr} {m : GM} {r : GV} (h : Ev te σ H (.ref g)) (hG : GameAt a.Game H g m r) : Ev (tMeth a.Game "is_over" (spV (RG a.Game fun m => .bl (!decide (m.won = -1)))) [] E0 te tNil) σ H (.bl (!decide (m.won = -1))) := by
  obtain ⟨dx, ho⟩ := hG.obj
  exact ev_meth h ho (gf_is_over _ _) ea_nil (spv_G hG)
theorem el_stands (T : Tx K mg a) {σ : L2.St} {H : Hp} {te : TE} {g : Addr} {m : GM} {r : GV} (h : Ev te σ H (.ref g)) (hG : GameAt a.Game H g m r) : EvL (tMeth a.Game "stands" (spL (RGL a.Game standsV)) [] E0 te tNil) σ H ((stands m).map V.int) := by
  obtain ⟨dx, ho⟩ := hG.obj
  exact el_meth h ho (gf_stands _ _) ea_nil (spl_G hG)
theorem RT_len {C : Addr} {f : GM → List Int} : ∀ vs H Q E, spL (RT C f) vs H Q E → vs.length = 1 := by
  rintro vs H Q E ⟨v, ⟨g, m, r, rfl, _⟩, _⟩
  rfl
theorem sc_now_told : FnScope ["game"] ["game"] (defScope st_now_told) := ⟨rfl, rfl, rfl, by decide +kernel, rfl, by decide +kernel, by decide +kernel⟩
theorem ok_now_told (T : Tx K mg a) : Ok P w K mg base 2 a.now_told ["game"] (spL (RT a.Game nowM)) := by
  refine T.d_now_told.ok sc_now_told RT_len (fun cdv A outer s H vs Q E hr h => ?_)
  obtain ⟨v, ⟨g, m, r, rfl, hG, ok, rfl⟩, k⟩ := h
  refine ⟨_, (pss_one (ps_ret (pe_op op_cat (pe_op op_cat (pe_lst (pa_cons (pe_callTy call_int1 (by rfl) T.b_int (by decide +kernel) (pa_cons (pe_m0 (pv 0) T.c_Game T.m_Game_is_over (ok_Game_is_over T) (hr.mono (by decide))) pa_nil)) pa_nil)) (pe_m0 (pv 0) T.c_Game T.m_Game_stands (ok_Game_stands T) (hr.mono (by decide)))) (pe_lst (pa_cons (pe_m (pv 0) T.c_Game T.m_Game_side_of (ok_Game_side_of T) (hr.mono (by decide)) (pa_cons (pe_fld (pv 0) rfl) pa_nil)) (pa_cons (pe_ix (ix_listK K) (pe_fld (pv 0) rfl) pe_int (fun _ _ => rfl)) (pa_cons (pe_ix (ix_listK K) (pe_fld (pv 0) rfl) pe_int (fun _ _ => rfl)) pa_nil))))))), ?_⟩
  have e : (nowM m).map V.int = ([V.int (b2n (!decide (m.won = -1)))] ++ (stands m).map V.int) ++ [V.int (sideM m m.deliv), V.int m.ta, V.int m.tb] := by
    unfold nowM
    rw [List.map_append, List.map_append]
    rfl
  rw [e] at k
  exact s_retL (el_cat (el_cat (el_lst (ea_cons (ev_intB (ev_over T (ev_var rfl) hG)) ea_nil) (by show 1 ≤ 100000; decide)) (el_stands T (ev_var rfl) hG) (by show 1 + 6 ≤ 100000; decide))
    (el_lst (ea_cons (ev_side T (ev_var rfl) (rd_deliv T (ev_var rfl) hG) hG) (ea_cons (rd_lf0 T (ev_var rfl) hG) (ea_cons (rd_lf1 T (ev_var rfl) hG) ea_nil))) (by show 3 ≤ 100000; decide)) (by show 7 + 3 ≤ 100000; decide)) k

theorem sc_shot_told : FnScope ["game", "points"] ["game"] (defScope st_shot_told) := ⟨rfl, rfl, rfl, by decide +kernel, rfl, by decide +kernel, by decide +kernel⟩
theorem ok_shot_told (T : Tx K mg a) : Ok P w K mg base 5 a.shot_told ["game"] (spL (RT a.Game shotM)) := by
  refine T.d_shot_told.ok sc_shot_told RT_len (fun cdv A outer s H vs Q E hr h => ?_)
  obtain ⟨v, ⟨g, m, r, rfl, hG, ok, rfl⟩, k⟩ := h
  refine ⟨_, (pss_cons (ps_set (i := 1) sc_shot_told.nd rfl (by first | exact Or.inl rfl | exact Or.inr rfl) (pe_c (ok_points_of T) (hr.mono (by decide)) rfl T.g_points_of (pa_cons (pe_fld (pv 0) rfl) (pa_cons (pe_fld (pv 0) rfl) pa_nil))))
      (pss_one (ps_ret (pe_lst (pa_cons (pe_op op_add (pe_ix (ix_listK K) (pv 1) pe_int (fun _ _ => rfl)) (pe_ix (ix_listK K) (pv 1) pe_int (fun _ _ => rfl))) (pa_cons (pe_ix (ix_listK K) (pv 1) pe_int (fun _ _ => rfl)) (pa_cons (pe_ix (ix_listK K) (pv 1) pe_int (fun _ _ => rfl)) pa_nil))))))), ?_⟩
  refine q_asgL (el_call (ea_cons (rd_lying T (ev_var rfl) hG) (ea_cons (rd_hammer T (ev_var rfl) hG) ea_nil)) (spl_pts hG.ls.lying ok.2.1 ok.1)) fun q H1 nq e1 hq => ?_
  refine s_retL (xs := (shotM m).map V.int) (el_lst (ea_cons (ev_op (ev_op (ev_var rfl) ev_c (rv_ixL (sq_of hq) rfl)) (ev_op (ev_var rfl) ev_c (rv_ixL (sq_of hq) rfl)) rv_I0) (ea_cons (ev_op (ev_var rfl) ev_c (rv_ixL (sq_of hq) rfl)) (ea_cons (ev_op (ev_var rfl) ev_c (rv_ixL (sq_of hq) rfl)) ea_nil))) (by show 3 ≤ 100000; decide)) fun p H2 np e2 h2 => k p H2 (fresh_back e1 np) (e1.trans e2) h2

theorem fmap_len {α β : Type} (l : List α) (f : α → List β) (c : Nat) (h : ∀ x, (f x).length = c) : (l.flatMap f).length = c * l.length := by
  induction l with
  | nil => rfl
  | cons a r ih =>
    rw [List.flatMap_cons, List.length_append, h, ih, List.length_cons, Nat.mul_add, Nat.mul_one, Nat.add_comm]
theorem sc_stones_told : FnScope ["game", "found", "stone"] ["game"] (defScope st_stones_told) := ⟨rfl, rfl, rfl, by decide +kernel, rfl, by decide +kernel, by decide +kernel⟩
theorem ok_stones_told (T : Tx K mg a) : Ok P w K mg base 4 a.stones_told ["game"] (spL (RT a.Game stonesM)) := by
  refine T.d_stones_told.ok sc_stones_told RT_len (fun cdv A outer s H vs Q E hr h => ?_)
  obtain ⟨v, ⟨g, m, r, rfl, hG, ok, rfl⟩, k⟩ := h
  refine ⟨_, (pss_cons (ps_set (i := 1) sc_stones_told.nd rfl (by first | exact Or.inl rfl | exact Or.inr rfl) (pe_lst (pa_cons (pe_callB (call_lenK K) (by rfl) T.b_len (by decide +kernel) (pa_cons (pe_fld (pv 0) rfl) pa_nil)) pa_nil)))
      (pss_cons (ps_for PassesOwn.never rfl (pi_listK K (pe_fld (pv 0) rfl)) (pg_name (i := 2) sc_stones_told.nd rfl (by first | exact Or.inl rfl | exact Or.inr rfl)) (pss_one (ps_expr (pe_bm PySem.F.plainAttrs_list PySem.F.slot_list_extend PySem.F.type_list_extend mt_extend (pv 1) (pa_cons (pe_lst (pa_cons (pe_ix (ix_tupK K) (pv 2) pe_int (fun _ _ => rfl)) (pa_cons (pe_m (pv 0) T.c_Game T.m_Game_side_of (ok_Game_side_of T) (hr.mono (by decide)) (pa_cons (pe_ix (ix_tupK K) (pv 2) pe_int (fun _ _ => rfl)) pa_nil)) (pa_cons (pe_ix (ix_tupK K) (pv 2) pe_int (fun _ _ => rfl)) (pa_cons (pe_ix (ix_tupK K) (pv 2) pe_int (fun _ _ => rfl)) (pa_cons (pe_callTy call_int1 (by rfl) T.b_int (by decide +kernel) (pa_cons (pe_c (ok_is_in_house T) (hr.mono (by decide)) rfl T.g_is_in_house (pa_cons (pv 2) pa_nil)) pa_nil)) (pa_cons (pe_callTy call_int1 (by rfl) T.b_int (by decide +kernel) (pa_cons (pe_c (ok_is_guard T) (hr.mono (by decide)) rfl T.g_is_guard (pa_cons (pv 2) pa_nil)) pa_nil)) pa_nil))))))) pa_nil)))))
      (pss_one (ps_ret (pv 1))))), ?_⟩
  obtain ⟨us, hu, hus⟩ := hG.ls.lying
  have hlen : us.length = m.stones.length := hus.1
  refine q_asgL (el_lst (ea_cons (ev_len (rd_lying T (ev_var rfl) hG) (sq_of hu)) ea_nil) (by show 1 ≤ 100000; decide)) fun q H1 nq e1 hq => ?_
  have hG1 := hG.mono e1
  refine q_forLn (xs := us) (rd_lying T (ev_var rfl) hG1) (sq_of (e1 _ _ hu)) (fun i σ' H' => Ex H H' ∧ (∃ v, σ' = [some (.ref g), some (.ref q), v]) ∧ H' q = some (.lst ((((m.stones.length : Nat) : Int) :: (m.stones.take i).flatMap (showM m)).map V.int))) (fun H2 e2 => ⟨e1.trans e2, ⟨none, rfl⟩, by
      rw [← hlen]
      exact e2 _ _ hq⟩) (fun i σ' H' _ ⟨e2, _⟩ => sq_of (e2 _ _ hu)) ?_ ?_
  · rintro i x σ' H' hi ⟨e2, ⟨v, rfl⟩, hq2⟩
    obtain ⟨p, c, hp, rfl, hc⟩ := hus.get hi
    have hc2 := hc.mono e2
    have hG2 := hG.mono e2
    refine s_ext (ys := (showM m p).map V.int) hq2 (ev_var rfl) (el_lst (ea_cons (ix0 (ev_var rfl) hc2) (ea_cons (ev_side T (ev_var rfl) (ix0 (ev_var rfl) hc2) hG2) (ea_cons (ix1 (ev_var rfl) hc2) (ea_cons (ix2 (ev_var rfl) hc2)
      (ea_cons (ev_intB (ev_1 (ev_var rfl) hc2)) (ea_cons (ev_intB (ev_1 (ev_var rfl) hc2)) ea_nil)))))) (by show 6 ≤ 100000; decide)) ?_ fun p' H3 np e3 h3 => ?_
    · have h1 : ((m.stones.take i).flatMap (showM m)).length ≤ 6 * 1000 := by
        rw [fmap_len _ _ 6 (fun _ => rfl), List.length_take]
        have := ok.2.1
        omega
      have h2 : ((showM m p).map V.int).length = 6 := rfl
      rw [List.length_map, List.length_cons, h2]
      exact sz_of (by omega)
    · refine ⟨Ex.mut (e2.trans e3) nq, ⟨_, rfl⟩, ?_⟩
      rw [upd_same, take_more hp, List.flatMap_append, List.flatMap_singleton, ← List.map_append, List.cons_append]
  · rintro σ' H' ⟨e2, ⟨v, rfl⟩, hq2⟩
    rw [hlen, List.take_length] at hq2
    exact s_ret (ev_var rfl) fun H3 e3 => k q H3 nq (e2.trans e3) (e3 _ _ hq2)

theorem sc_scores_told : FnScope ["game", "found", "points"] ["game"] (defScope st_scores_told) := ⟨rfl, rfl, rfl, by decide +kernel, rfl, by decide +kernel, by decide +kernel⟩
theorem ok_scores_told (T : Tx K mg a) : Ok P w K mg base 1 a.scores_told ["game"] (spL (RT a.Game scoresM)) := by
  refine T.d_scores_told.ok sc_scores_told RT_len (fun cdv A outer s H vs Q E hr h => ?_)
  obtain ⟨v, ⟨g, m, r, rfl, hG, ok, rfl⟩, k⟩ := h
  refine ⟨_, (pss_cons (ps_set (i := 1) sc_scores_told.nd rfl (by first | exact Or.inl rfl | exact Or.inr rfl) (pe_lst (pa_cons (pe_callB (call_lenK K) (by rfl) T.b_len (by decide +kernel) (pa_cons (pe_fld (pv 0) rfl) pa_nil)) pa_nil)))
      (pss_cons (ps_for PassesOwn.never rfl (pi_listK K (pe_fld (pv 0) rfl)) (pg_name (i := 2) sc_scores_told.nd rfl (by first | exact Or.inl rfl | exact Or.inr rfl)) (pss_one (ps_expr (pe_bm PySem.F.plainAttrs_list PySem.F.slot_list_extend PySem.F.type_list_extend mt_extend (pv 1) (pa_cons (pe_lst (pa_cons (pe_ix (ix_listK K) (pv 2) pe_int (fun _ _ => rfl)) (pa_cons (pe_ix (ix_listK K) (pv 2) pe_int (fun _ _ => rfl)) pa_nil))) pa_nil)))))
      (pss_one (ps_ret (pv 1))))), ?_⟩
  refine q_asgL (el_lst (ea_cons (rd_elen T (ev_var rfl) hG) ea_nil) (by show 1 ≤ 100000; decide)) fun q H1 nq e1 hq => ?_
  have hG1 := hG.mono e1
  refine q_forLn (xs := r.ents.map V.ref) (rd_ends T (ev_var rfl) hG1) (sq_of hG1.ls.ends) (fun i σ' H' => Ex H H' ∧ (∃ v, σ' = [some (.ref g), some (.ref q), v]) ∧ H' q = some (.lst ((((m.scores.length : Nat) : Int) :: (m.scores.take i).flatMap fun p => [(p.1 : Int), (p.2 : Int)]).map V.int))) (fun H2 e2 => ⟨e1.trans e2, ⟨none, rfl⟩, e2 _ _ hq⟩) (fun i σ' H' _ ⟨e2, _⟩ => sq_of (hG.mono e2).ls.ends) ?_ ?_
  · rintro i x σ' H' hi ⟨e2, ⟨v, rfl⟩, hq2⟩
    have hG2 := hG.mono e2
    obtain ⟨c, hc, rfl⟩ : ∃ c, r.ents[i]? = some c ∧ x = .ref c := by
      rw [List.getElem?_map] at hi
      cases e : r.ents[i]? with
      | none => rw [e] at hi; cases hi
      | some c => rw [e] at hi; exact ⟨c, rfl, (Option.some.inj hi).symm⟩
    have hi2 : i < m.scores.length := by
      rw [← hG.ls.elen]
      exact (List.getElem?_eq_some_iff.mp hc).1
    have hs : m.scores[i]? = some m.scores[i] := List.getElem?_eq_getElem hi2
    have he := hG2.ls.ents i c _ hc hs
    refine s_ext (ys := [V.int (m.scores[i].1 : Nat), V.int (m.scores[i].2 : Nat)]) hq2 (ev_var rfl) (el_lst (ea_cons (ev_op (ev_var rfl) ev_c (rv_ixL (sq_of he) rfl)) (ea_cons (ev_op (ev_var rfl) ev_c (rv_ixL (sq_of he) rfl)) ea_nil)) (by show 2 ≤ 100000; decide)) ?_ fun p' H3 np e3 h3 => ?_
    · have h1 : ((m.scores.take i).flatMap fun p => [(p.1 : Int), (p.2 : Int)]).length ≤ 2 * 10000 := by
        rw [fmap_len _ _ 2 (fun _ => rfl), List.length_take]
        have := ok.2.2
        omega
      rw [List.length_map, List.length_cons]
      show _ + 2 ≤ _
      exact sz_of (by omega)
    · refine ⟨Ex.mut (e2.trans e3) nq, ⟨_, rfl⟩, ?_⟩
      rw [upd_same, take_more hs, List.flatMap_append, List.flatMap_singleton, List.map_cons, List.map_cons, List.map_append, List.cons_append]
      rfl
  · rintro σ' H' ⟨e2, ⟨v, rfl⟩, hq2⟩
    rw [List.length_map, hG.ls.elen, List.take_length] at hq2
    exact s_ret (ev_var rfl) fun H3 e3 => k q H3 nq (e2.trans e3) (e3 _ _ hq2)
end
end Cm
namespace Cm
open PySem PySem.Spec PyProof.Rows L2 Evl
/-! ### the desk -/
def isSide (n : Int) : Bool := decide (n = 0) || decide (n = 1)
def closed (st : Option GM) : Bool := match st with
  | none => true
  | some m => !decide (m.won = -1)
def inR (lo x hi : Int) : Bool := decide (lo ≤ x) && decide (x ≤ hi)
def beginM (st : Option GM) (e h t : Int) : Option GM × List Int := if (!inR 1 e 12 || (!isSide h || !inR 1 t 10000)) = true then (st, [-1]) else (some (newM e h t), [0])
def deliverM (st : Option GM) (l : List Int) : Option GM × List Int := if told3 l = false then (st, [-1]) else match st with
  | none => (st, [-2])
  | some m => if (!decide (m.won = -1)) = true then (st, [-2]) else if canLie (stonesOf l) m.stones m.deliv = false then (st, [-4]) else
      (some (goesM m (if breaks (stonesOf l) m.stones m.deliv = true then m.stones else stonesOf l)), b2n (breaks (stonesOf l) m.stones m.deliv) :: stands (goesM m (if breaks (stonesOf l) m.stones m.deliv = true then m.stones else stonesOf l)))
def timeM (st : Option GM) (s t : Int) : Option GM × List Int := if (!isSide s || !inR 0 t 10000) = true then (st, [-1]) else match st with
  | none => (st, [-2])
  | some m => if (!decide (m.won = -1)) = true then (st, [-2]) else (some (thinkM m s t), leftM (thinkM m s t) s :: stands (thinkM m s t))
def giveM (st : Option GM) (s : Int) : Option GM × List Int := if (!isSide s) = true then (st, [-1]) else match st with
  | none => (st, [-2])
  | some m => if (!decide (m.won = -1)) = true then (st, [-2]) else (some (lostM m s), 0 :: stands (lostM m s))
def tellM (st : Option GM) (f : GM → List Int) : Option GM × List Int := match st with
  | none => (st, [-2])
  | some m => (st, f m)
def DeskAt (a : Ad) (H : Hp) (d : Addr) (st : Option GM) (own : List Addr) : Prop := match st with
  | none => ∃ dx, H d = some (.ins a.Desk dx [("game", .non)]) ∧ own = [d]
  | some m => ∃ dx g r, H d = some (.ins a.Desk dx [("game", .ref g)]) ∧ GameAt a.Game H g m r ∧ d ≠ g ∧ own = d :: g :: r.own
def DPost (a : Ad) (d : Addr) (own : List Addr) (H : Hp) (x : Option GM × List Int) (Q : VK) : Prop := ∀ H' own' p, DeskAt a H' d x.1 own' → Kp own H H' → Fr H own own' → (p ∈ own ∨ H p = none) → H' p = some (.lst (x.2.map V.int)) → Q (.ref p) H'
theorem DeskAt.mono {a : Ad} {H H' : Hp} {d : Addr} {st : Option GM} {own : List Addr} (h : DeskAt a H d st own) (e : Ex H H') : DeskAt a H' d st own := by
  cases st with
  | none =>
    obtain ⟨dx, ho, eo⟩ := h
    exact ⟨dx, e _ _ ho, eo⟩
  | some m =>
    obtain ⟨dx, g, r, ho, hG, hne, eo⟩ := h
    exact ⟨dx, g, r, e _ _ ho, hG.mono e, hne, eo⟩
theorem DeskAt.mem {a : Ad} {H : Hp} {d : Addr} {st : Option GM} {own : List Addr} (h : DeskAt a H d st own) : d ∈ own := by
  cases st with
  | none =>
    obtain ⟨dx, ho, eo⟩ := h
    rw [eo]
    exact List.mem_cons_self
  | some m =>
    obtain ⟨dx, g, r, ho, hG, hne, eo⟩ := h
    rw [eo]
    exact List.mem_cons_self
/-- an answer that changes nothing -/
theorem DPost.same {a : Ad} {d : Addr} {own : List Addr} {H H1 : Hp} {st : Option GM} {ans : List Int} {Q : VK} (k : DPost a d own H (st, ans) Q) (hD : DeskAt a H d st own) (e : Ex H H1) {p : Addr} {H2 : Hp} (np : H1 p = none) (e2 : Ex H1 H2) (h2 : H2 p = some (.lst (ans.map V.int))) : Q (.ref p) H2 :=
  k H2 own p (hD.mono (e.trans e2)) (Kp.of_ex (e.trans e2)) (Fr.self fun b hb => hb) (.inr (fresh_back e np)) h2
section
variable {P : Program} {w : World} {K : PySem.W.Frag} {mg : Str → Option Value} {base : Heap} {a : Ad}
variable {σ : L2.St} {H : Hp} {te : TE} {d : Addr} {st : Option GM} {own : List Addr}

def RI (f : Int → V) (vs : List V) (_ : Hp) (v : V) : Prop := ∃ n, vs = [.int n] ∧ v = f n
theorem sc_is_side : FnScope ["number"] ["number"] (defScope st_is_side) := ⟨rfl, rfl, rfl, by decide +kernel, rfl, by decide +kernel, by decide +kernel⟩
theorem ok_is_side (T : Tx K mg a) : Ok P w K mg base 1 a.is_side ["number"] (spV (RI fun n => .bl (isSide n))) := by
  refine T.d_is_side.ok sc_is_side (by rintro vs H Q E ⟨v, ⟨n, rfl, _⟩, _⟩; rfl) (fun cdv A outer s H vs Q E hr h => ?_)
  obtain ⟨v, ⟨n, rfl, rfl⟩, k⟩ := h
  refine ⟨_, (pss_one (ps_ret (pe_or (pe_cmpR op_eq (pv 0) pe_int (nomark _)) (pe_one (pe_cmpR op_eq (pv 0) pe_int (nomark _)))))), ?_⟩
  have q := ev_orV (ev_op (ev_var (i := 0) (σ := start ["number"] [.int n]) (H := H) rfl) (ev_c (v := .int 0)) (rv_eq rfl)) (fun _ => ev_op (ev_var (i := 0) rfl) (ev_c (v := .int 1)) (rv_eq rfl))
  rw [dec_v, dec_v] at q
  exact s_ret q k
theorem ev_isSide {n : Int} (h : Ev te σ H (.int n)) : Ev (tCall (spV (RI fun n => .bl (isSide n))) [] E0 (tCons te tNil)) σ H (.bl (isSide n)) := ev_c1 h (spV_of ⟨n, rfl, rfl⟩ fun H1 e => ⟨n, rfl, rfl⟩)

def spInitD (a : Ad) : Sp := fun vs H Q _ => ∃ d dx, vs = [.ref d] ∧ H d = some (.ins a.Desk dx []) ∧ ∀ H', DeskAt a H' d none [d] → (∀ b o, H b = some o → b ≠ d → H' b = some o) → Q .non H'
theorem sc_Desk_init : FnScope ["self"] ["self"] (defScope st_Desk_init) := ⟨rfl, rfl, rfl, by decide +kernel, rfl, by decide +kernel, by decide +kernel⟩
theorem ok_Desk_init (T : Tx K mg a) : Ok P w K mg base 1 a.Desk_init ["self"] (spInitD a) := by
  refine T.d_Desk_init.ok sc_Desk_init (by rintro vs H Q E ⟨d, dx, rfl, _⟩; rfl) (fun cdv A outer s H vs Q E hr h => ?_)
  obtain ⟨d, dx, rfl, ho, k⟩ := h
  refine ⟨_, (pss_one (ps_fld (pv 0) pe_non rfl)), ?_⟩
  exact s_fld ev_c (ev_var rfl) ho T.c_Desk T.n_Desk_game (by show 0 < 1000; decide) fun H1 e1 => k _ ⟨dx, upd_same, rfl⟩ fun b o hb hne => (upd_ne hne).trans (e1 _ _ hb)

theorem lk_game {v : V} : List.lookup ("game" : Str) [(("game" : Str), v)] = some v := lk_here
theorem rd_game (T : Tx K mg a) {v : V} {dx : Addr} (h : Ev te σ H (.ref d)) (ho : H d = some (.ins a.Desk dx [("game", v)])) : Ev (tFld K te "game") σ H v := ev_fld h ho T.c_Desk T.n_Desk_game lk_game
theorem dk_no {v : V} {m : Str} (h : (m == "game") = false) : List.lookup m [(("game" : Str), v)] = none := (lk_past h).trans rfl
def RCl (a : Ad) (vs : List V) (H : Hp) (v : V) : Prop := ∃ d st own, vs = [.ref d] ∧ DeskAt a H d st own ∧ v = .bl (closed st)
theorem sc_Desk_is_closed : FnScope ["self"] ["self"] (defScope st_Desk_is_closed) := ⟨rfl, rfl, rfl, by decide +kernel, rfl, by decide +kernel, by decide +kernel⟩
theorem ok_Desk_is_closed (T : Tx K mg a) : Ok P w K mg base 2 a.Desk_is_closed ["self"] (spV (RCl a)) := by
  refine T.d_Desk_is_closed.ok sc_Desk_is_closed (by rintro vs H Q E ⟨v, ⟨d, st, own, rfl, _⟩, _⟩; rfl) (fun cdv A outer s H vs Q E hr h => ?_)
  obtain ⟨v, ⟨d, st, own, rfl, hD, rfl⟩, k⟩ := h
  refine ⟨_, (pss_one (ps_ret (pe_or (pe_cmpR op_isN (pe_fld (pv 0) rfl) pe_non (nomark _)) (pe_one (pe_m0 (pe_fld (pv 0) rfl) T.c_Game T.m_Game_is_over (ok_Game_is_over T) (hr.mono (by decide))))))), ?_⟩
  cases st with
  | none =>
    obtain ⟨dx, ho, _⟩ := hD
    exact s_ret (ev_orV (a := true) (b := true) (ev_op (rd_game T (ev_var rfl) ho) ev_c (rv_val fun H3 _ Q q => ⟨rfl, q⟩)) (fun z => by cases z)) k
  | some m =>
    obtain ⟨dx, g, r, ho, hG, _⟩ := hD
    exact s_ret (ev_orV (a := false) (ev_op (rd_game T (ev_var rfl) ho) ev_c (rv_val fun H3 _ Q q => ⟨rfl, q⟩)) (fun _ => ev_over T (rd_game T (ev_var rfl) ho) hG)) k
theorem ev_closed (T : Tx K mg a) (h : Ev te σ H (.ref d)) (hD : DeskAt a H d st own) : Ev (tMeth a.Desk "is_closed" (spV (RCl a)) [] E0 te tNil) σ H (.bl (closed st)) := by
  have hs : SpV (spV (RCl a)) [.ref d] H (.bl (closed st)) := spV_of ⟨d, st, own, rfl, hD, rfl⟩ fun H1 e => ⟨d, st, own, rfl, hD.mono e, rfl⟩
  cases st with
  | none =>
    obtain ⟨dx, ho, _⟩ := hD
    exact ev_meth h ho (dk_no (by decide +kernel)) ea_nil hs
  | some m =>
    obtain ⟨dx, g, r, ho, hG, _⟩ := hD
    exact ev_meth h ho (dk_no (by decide +kernel)) ea_nil hs

/-- a new match in the desk's field -/
theorem q_fldE {tv : TE} {f : Str} {D : Ends} {tz : TS} {PV : V → Hp → Prop} (hv : ExE tv σ H PV) (k : ∀ v H1, PV v H1 → ∃ g C dx fs, te σ H1 (fun x H2 => x = .ref g ∧ H2 = H1) ∧ H1 g = some (.ins C dx fs) ∧ Cls K C ∧ NoAttr K C f ∧ fs.length < 1000 ∧ tz D σ (upd H1 g (.ins C dx (putF f v fs))))
    (hm : ∀ H1 (Q Q' : VK), te σ H1 Q → (∀ v H', Q v H' → Q' v H') → te σ H1 Q') : tSeq (sFld K te tv f) tz D σ H := hv _ fun v H1 hp => by
  obtain ⟨g, C, dx, fs, h1, h2, h3, h4, h5, h6⟩ := k v H1 hp
  exact hm H1 _ _ h1 fun x H2 ⟨ex, eH⟩ => by
    subst eH
    exact ⟨g, C, dx, fs, ex, h2, h3, h4, h5, h6⟩
theorem sc_Desk_begin : FnScope ["self", "words", "many", "hammer", "time"] ["self", "words"] (defScope st_Desk_begin) := ⟨rfl, rfl, rfl, by decide +kernel, rfl, by decide +kernel, by decide +kernel⟩
def spBegin (a : Ad) : Sp := fun vs H Q _ => ∃ d b st own e h t, vs = [.ref d, .ref b] ∧ DeskAt a H d st own ∧ H b = some (.lst [.int e, .int h, .int t]) ∧ DPost a d own H (beginM st e h t) Q
theorem ok_Desk_begin (T : Tx K mg a) : Ok P w K mg base 3 a.Desk_begin ["self", "words"] (spBegin a) := by
  refine T.d_Desk_begin.ok sc_Desk_begin (by rintro vs H Q E ⟨d, b, st, own, e, h, t, rfl, _⟩; rfl) (fun cdv A outer s H vs Q E hr h => ?_)
  obtain ⟨d, b, st, own, n, h, t, rfl, hD, hb, k⟩ := h
  refine ⟨_, (pss_cons (ps_asg (pv 1) (pg_unl rfl (pgs_cons (pg_name (i := 2) sc_Desk_begin.nd rfl (by first | exact Or.inl rfl | exact Or.inr rfl)) (pgs_cons (pg_name (i := 3) sc_Desk_begin.nd rfl (by first | exact Or.inl rfl | exact Or.inr rfl)) (pgs_cons (pg_name (i := 4) sc_Desk_begin.nd rfl (by first | exact Or.inl rfl | exact Or.inr rfl)) pgs_nil)))))
      (pss_cons (ps_if (PW.pt (pw_or (pt_not (pt_chain op_le op_le pe_int (pv 2) (pe_k rfl T.k_MOST_ENDS))) (pw_or (pt_not (pt_val (pe_c (ok_is_side T) (hr.mono (by decide)) rfl T.g_is_side (pa_cons (pv 3) pa_nil)))) (pw_or1 (pt_not (pt_chain op_le op_le pe_int (pv 4) (pe_k rfl T.k_MOST_TIME))))))) (pss_one (ps_ret (pe_lst (pa_cons (pe_k rfl T.k_BEYOND) pa_nil)))) pss_nil)
      (pss_cons (ps_fld (pv 0) (pe_mk T.mk_Game (ok_Game_init T) (hr.mono (by decide)) rfl T.g_Game (pa_cons (pv 2) (pa_cons (pv 3) (pa_cons (pv 4) pa_nil)))) rfl)
      (pss_one (ps_ret (pe_lst (pa_cons pe_int pa_nil))))))), ?_⟩
  refine ⟨_, rfl, b, _, rfl, sq_of hb, rfl, ?_⟩
  refine ⟨_, _, rfl, _, _, rfl, _, _, rfl, rfl, ?_⟩
  show tSeq _ _ _ [some (.ref d), some (.ref b), some (.int n), some (.int h), some (.int t)] H
  refine q_when (b := !inR 1 n 12 || (!isSide h || !inR 1 t 10000)) (et_or (et_not (et_chain ev_c (ev_var rfl) rv_I0 ev_c rv_I0)) fun _ => et_or (et_not (et_B (ev_isSide (ev_var rfl)))) fun _ => et_not (et_chain ev_c (ev_var rfl) rv_I0 ev_c rv_I0)) (fun hc H1 e1 => ?_) (fun hc H1 e1 => ?_)
  · have ek : beginM st n h t = (st, [-1]) := if_pos hc
    rw [ek] at k
    exact s_retL (el_lst (ea_cons ev_c ea_nil) (by show 1 ≤ 100000; decide)) fun p H2 np e2 h2 => k.same hD e1 np e2 h2
  · have ek : beginM st n h t = (some (newM n h t), [0]) := if_neg (by rw [hc]; decide)
    rw [ek] at k
    have hD1 := hD.mono e1
    obtain ⟨fs, dx, ho, hfs⟩ : ∃ fs dx, H1 d = some (.ins a.Desk dx fs) ∧ ∃ v, fs = [(("game" : Str), v)] := by
      cases st with
      | none =>
        obtain ⟨dx, ho, _⟩ := hD1
        exact ⟨_, dx, ho, _, rfl⟩
      | some m =>
        obtain ⟨dx, g, r, ho, _⟩ := hD1
        exact ⟨_, dx, ho, _, rfl⟩
    obtain ⟨v0, rfl⟩ := hfs
    refine q_fldE (PV := fun v H' => ∃ g r, v = .ref g ∧ H1 g = none ∧ GameAt a.Game H' g (newM n h t) r ∧ Ex H1 H' ∧ ∀ c ∈ r.own, H1 c = none) (fun Q' q => ?_) (fun v H2 ⟨g, r, ev, ng, hG, e2, hn⟩ => ?_) (fun H2 Q1 Q2 ⟨v, h1, h2⟩ hq => ⟨v, h1, hq _ _ h2⟩)
    · refine ⟨_, rfl, _, rfl, _, rfl, ?_⟩
      intro x dy nx ny nxy
      refine ⟨x, dy, n, h, t, rfl, upd_same, fun H2 r hG kk nn => ⟨rfl, q _ _ ⟨x, r, rfl, nx, hG, fun c o hc => ?_, fun c hc => ?_⟩⟩⟩
      · exact kk c o ((upd_ne (ne_of_none hc nx)).trans ((upd_ne (ne_of_none hc ny)).trans hc)) (ne_of_none hc nx)
      · have hz := nn c hc
        by_cases h1 : c = x
        · rw [h1]; exact nx
        · by_cases h2 : c = dy
          · rw [h2]; exact ny
          · rw [upd_ne h1, upd_ne h2] at hz
            exact hz
    · subst ev
      have ho2 := e2 _ _ ho
      refine ⟨d, a.Desk, dx, _, ⟨_, rfl, rfl, rfl⟩, ho2, T.c_Desk, T.n_Desk_game, (by show 1 < 1000; decide), ?_⟩
      have ef : putF "game" (V.ref g) [(("game" : Str), v0)] = [(("game" : Str), V.ref g)] := put_here
      rw [ef]
      have hdg : d ≠ g := ne_of_none ho ng
      have hG3 : GameAt a.Game (upd H2 d (.ins a.Desk dx [("game", .ref g)])) g (newM n h t) r := by
        obtain ⟨dz, hz⟩ := hG.obj
        exact ⟨⟨dz, (upd_ne hdg.symm).trans hz⟩, hG.ls.updIns ho2 _⟩
      refine s_retL (el_lst (ea_cons ev_c ea_nil) (by show 1 ≤ 100000; decide)) fun p H4 np e4 h4 => ?_
      have e01 := e1.trans e2
      refine k H4 (d :: g :: r.own) p ⟨dx, g, r, e4 _ _ upd_same, hG3.mono e4, hdg, rfl⟩ (((Kp.of_ex e01).upd hD.mem).trans (Kp.of_ex e4)) (fun c hc => ?_) ?_ h4
      · rcases List.mem_cons.mp hc with rfl | hc
        · exact .inl hD.mem
        · rcases List.mem_cons.mp hc with rfl | hc
          · exact .inr (fresh_back e1 ng)
          · exact .inr (fresh_back e1 (hn c hc))
      · have hpd : p ≠ d := fun z => by
          rw [z, upd_same] at np
          cases np
        rw [upd_ne hpd] at np
        exact .inr (fresh_back e01 np)
end
end Cm
namespace Cm
open PySem PySem.Spec PyProof.Rows L2 Evl
/-! ### a desk on its way through a call that began at H0 -/
structure DS (a : Ad) (d : Addr) (own0 : List Addr) (H0 H : Hp) (m : GM) (g : Addr) (r : GV) : Prop where
  ob : ∃ dx, H d = some (.ins a.Desk dx [("game", .ref g)])
  on : GameAt a.Game H g m r
  ne : d ≠ g
  kp : Kp own0 H0 H
  fr : Fr H0 own0 (d :: g :: r.own)
section
variable {a : Ad} {d g : Addr} {own0 : List Addr} {H0 H H1 : Hp} {m m' : GM} {r r' : GV}
theorem DS.of {st : Option GM} {own : List Addr} (h : DeskAt a H d st own) (e : st = some m) : ∃ g r, DS a d own H H m g r := by
  subst e
  obtain ⟨dx, g, r, ho, hG, hne, rfl⟩ := h
  exact ⟨g, r, ⟨dx, ho⟩, hG, hne, Kp.of_ex (Ex.refl H), Fr.self fun b hb => hb⟩
theorem DS.ex (h : DS a d own0 H0 H m g r) (e : Ex H H1) : DS a d own0 H0 H1 m g r := by
  obtain ⟨dx, ho⟩ := h.ob
  exact ⟨⟨dx, e _ _ ho⟩, h.on.mono e, h.ne, h.kp.trans (Kp.of_ex e), h.fr⟩
theorem DS.meth (h : DS a d own0 H0 H m g r) (hG : GameAt a.Game H1 g m' r') (kp : Kp (g :: r.own) H H1) (fr : Fr H (g :: r.own) r'.own) : DS a d own0 H0 H1 m' g r' := by
  obtain ⟨dx, ho⟩ := h.ob
  have hd : d ∉ g :: r.own := fun z => by
    rcases List.mem_cons.mp z with z | z
    · exact h.ne z
    · exact h.on.ls.ins ho z
  refine ⟨⟨dx, kp _ _ ho hd⟩, hG, h.ne, fun c o hc hn => ?_, fun b hb => ?_⟩
  · refine kp c o (h.kp c o hc hn) fun z => ?_
    rcases h.fr c (List.mem_cons_of_mem _ z) with y | y
    · exact hn y
    · rw [y] at hc
      cases hc
  · rcases List.mem_cons.mp hb with rfl | hb
    · exact h.fr _ List.mem_cons_self
    · rcases List.mem_cons.mp hb with rfl | hb
      · exact h.fr _ (List.mem_cons_of_mem _ List.mem_cons_self)
      · rcases fr b hb with z | z
        · exact h.fr b (List.mem_cons_of_mem _ z)
        · exact h.kp.fresh z
theorem DS.done {Q : VK} {ans : List Int} (h : DS a d own0 H0 H m g r) (k : DPost a d own0 H0 (some m, ans) Q) {p : Addr} {H2 : Hp} (np : H p = none) (e2 : Ex H H2) (h2 : H2 p = some (.lst (ans.map V.int))) : Q (.ref p) H2 := by
  obtain ⟨dx, ho⟩ := (h.ex e2).ob
  exact k H2 _ p ⟨dx, g, r, ho, (h.ex e2).on, h.ne, rfl⟩ (h.ex e2).kp h.fr (h.kp.fresh np) h2
theorem DPost.ex {own : List Addr} {x : Option GM × List Int} {Q : VK} (k : DPost a d own H x Q) (e : Ex H H1) : DPost a d own H1 x Q := fun H' own' p hD kp fr hp h =>
  k H' own' p hD (fun c o hc hn => kp c o (e c o hc) hn) (fun b hb => (fr b hb).imp id fun z => fresh_back e z) (hp.imp id fun z => fresh_back e z) h
end
section
variable {K : PySem.W.Frag} {σ : L2.St} {H : Hp} {te : TE} {C g dx : Addr} {D : Ends} {t : TA} {vs : List V} {sp : Sp} {n : Str} {fs : List (Str × V)} {E : XK} {tz : TS}
theorem q_callm (h : Ev te σ H (.ref g)) (ho : H g = some (.ins C dx fs)) (l : fs.lookup n = none) (hv : EvA t σ H vs) (hs : ∀ H1, Ex H H1 → sp (.ref g :: vs) H1 (fun _ H' => tz D σ H') E) : tSeq (tDrop (tMeth C n sp [] E te t)) tz D σ H :=
  s_callm (D := { D with nx := tz D }) h ho l hv hs
theorem s_retm (h : Ev te σ H (.ref g)) (ho : H g = some (.ins C dx fs)) (l : fs.lookup n = none) (hv : EvA t σ H vs) (hs : ∀ H1, Ex H H1 → sp (.ref g :: vs) H1 D.rt E) : tRet (tMeth C n sp [] E te t) D σ H :=
  h H (Ex.refl H) _ fun H1 e1 => ⟨g, dx, fs, rfl, e1 _ _ ho, l, hv H1 e1 _ fun H2 e2 => by
    rw [List.append_nil]
    exact hs H2 (e1.trans e2)⟩
end
theorem not_closed {st : Option GM} (h : closed st = false) : ∃ m, st = some m ∧ ¬ (!decide (m.won = -1)) = true := by
  cases st with
  | none => cases h
  | some m => exact ⟨m, rfl, by rw [show (!decide (m.won = -1)) = false from h]; decide⟩
theorem is_closed {st : Option GM} (h : closed st = true) : st = none ∨ ∃ m, st = some m ∧ (!decide (m.won = -1)) = true := by
  cases st with
  | none => exact .inl rfl
  | some m => exact .inr ⟨m, rfl, h⟩
section
variable {P : Program} {w : World} {K : PySem.W.Frag} {mg : Str → Option Value} {base : Heap} {a : Ad}

def spThink (a : Ad) : Sp := fun vs H Q _ => ∃ d b st own s t, vs = [.ref d, .ref b] ∧ DeskAt a H d st own ∧ H b = some (.lst [.int s, .int t]) ∧ DPost a d own H (timeM st s t) Q
theorem isSide_or {s : Int} (h : isSide s = true) : s = 0 ∨ s = 1 := by
  unfold isSide at h
  rw [Bool.or_eq_true, decide_eq_true_eq, decide_eq_true_eq] at h
  exact h
theorem sc_Desk_think : FnScope ["self", "words", "side", "seconds"] ["self", "words"] (defScope st_Desk_think) := ⟨rfl, rfl, rfl, by decide +kernel, rfl, by decide +kernel, by decide +kernel⟩
theorem ok_Desk_think (T : Tx K mg a) : Ok P w K mg base 3 a.Desk_think ["self", "words"] (spThink a) := by
  refine T.d_Desk_think.ok sc_Desk_think (by rintro vs H Q E ⟨d, b, st, own, s, t, rfl, _⟩; rfl) (fun cdv A outer s H vs Q E hr h => ?_)
  obtain ⟨d, b, st, own, s, t, rfl, hD, hb, k⟩ := h
  refine ⟨_, (pss_cons (ps_asg (pv 1) (pg_unl rfl (pgs_cons (pg_name (i := 2) sc_Desk_think.nd rfl (by first | exact Or.inl rfl | exact Or.inr rfl)) (pgs_cons (pg_name (i := 3) sc_Desk_think.nd rfl (by first | exact Or.inl rfl | exact Or.inr rfl)) pgs_nil))))
      (pss_cons (ps_if (PW.pt (pw_or (pt_not (pt_val (pe_c (ok_is_side T) (hr.mono (by decide)) rfl T.g_is_side (pa_cons (pv 2) pa_nil)))) (pw_or1 (pt_not (pt_chain op_le op_le pe_int (pv 3) (pe_k rfl T.k_MOST_TIME)))))) (pss_one (ps_ret (pe_lst (pa_cons (pe_k rfl T.k_BEYOND) pa_nil)))) pss_nil)
      (pss_cons (ps_if (pt_val (pe_m0 (pv 0) T.c_Desk T.m_Desk_is_closed (ok_Desk_is_closed T) (hr.mono (by decide)))) (pss_one (ps_ret (pe_lst (pa_cons (pe_k rfl T.k_NO_MATCH) pa_nil)))) pss_nil)
      (pss_cons (ps_expr (pe_m (pe_fld (pv 0) rfl) T.c_Game T.m_Game_thinks (ok_Game_thinks T) (hr.mono (by decide)) (pa_cons (pv 2) (pa_cons (pv 3) pa_nil))))
      (pss_one (ps_ret (pe_op op_cat (pe_lst (pa_cons (pe_ix (ix_listK K) (pe_fld (pe_fld (pv 0) rfl) rfl) (pv 2) (fun _ _ => rfl)) pa_nil)) (pe_m0 (pe_fld (pv 0) rfl) T.c_Game T.m_Game_stands (ok_Game_stands T) (hr.mono (by decide)))))))))), ?_⟩
  refine ⟨_, rfl, b, _, rfl, sq_of hb, rfl, ?_⟩
  refine ⟨_, _, rfl, _, _, rfl, rfl, ?_⟩
  show tSeq _ _ _ [some (.ref d), some (.ref b), some (.int s), some (.int t)] H
  unfold timeM at k
  refine q_when (b := !isSide s || !inR 0 t 10000) (et_or (et_not (et_B (ev_isSide (ev_var rfl)))) fun _ => et_not (et_chain ev_c (ev_var rfl) rv_I0 ev_c rv_I0)) (fun hc H1 e1 => ?_) (fun hc H1 e1 => ?_)
  · rw [if_pos hc] at k
    exact s_retL (el_lst (ea_cons ev_c ea_nil) (by show 1 ≤ 100000; decide)) fun p H2 np e2 h2 => k.same hD e1 np e2 h2
  · rw [if_neg (by rw [hc]; decide)] at k
    have hs : isSide s = true := by
      rw [Bool.or_eq_false_iff] at hc
      simpa using hc.1
    have hD1 := hD.mono e1
    refine q_when (et_B (ev_closed T (ev_var rfl) hD1)) (fun hc2 H2 e2 => ?_) (fun hc2 H2 e2 => ?_)
    · refine s_retL (xs := ([-2] : List Int).map V.int) (el_lst (ea_cons ev_c ea_nil) (by show 1 ≤ 100000; decide)) fun p H3 np e3 h3 => ?_
      rcases is_closed hc2 with rfl | ⟨m, rfl, hw⟩
      · exact k.same hD (e1.trans e2) np e3 h3
      · have k : DPost a d own H (if (!decide (m.won = -1)) = true then (some m, [-2]) else (some (thinkM m s t), leftM (thinkM m s t) s :: stands (thinkM m s t))) Q := k
        rw [if_pos hw] at k
        exact k.same hD (e1.trans e2) np e3 h3
    · obtain ⟨m, rfl, hw⟩ := not_closed hc2
      have k : DPost a d own H (if (!decide (m.won = -1)) = true then (some m, [-2]) else (some (thinkM m s t), leftM (thinkM m s t) s :: stands (thinkM m s t))) Q := k
      rw [if_neg hw] at k
      obtain ⟨g, r, S0⟩ := DS.of hD rfl
      have S2 := S0.ex (e1.trans e2)
      obtain ⟨dx, ho⟩ := S2.ob
      obtain ⟨dg, hog⟩ := S2.on.obj
      refine q_callm (rd_game T (ev_var rfl) ho) hog (gf_thinks _ _) (ea_cons (ev_var rfl) (ea_cons (ev_var rfl) ea_nil)) fun H3 e3 => ⟨g, m, r, s, t, rfl, (S2.ex e3).on, isSide_or hs, fun H4 r4 hG4 kp4 fr4 => ?_⟩
      have S4 := (S2.ex e3).meth hG4 kp4 fr4
      obtain ⟨dx4, ho4⟩ := S4.ob
      have hl : Ev (tOp (rIxL K) (tFld K (tFld K (tVar 0) "game") "left") (tVar 2)) [some (.ref d), some (.ref b), some (.int s), some (.int t)] H4 (.int (leftM (thinkM m s t) s)) := by
        rcases isSide_or hs with rfl | rfl
        · exact ev_op (rd_left T (rd_game T (ev_var rfl) ho4) S4.on) (ev_var (v := .int 0) rfl) (rv_ixL (sq_of S4.on.ls.left) rfl)
        · exact ev_op (rd_left T (rd_game T (ev_var rfl) ho4) S4.on) (ev_var (v := .int 1) rfl) (rv_ixL (sq_of S4.on.ls.left) rfl)
      exact s_retL (el_cat (el_lst (ea_cons hl ea_nil) (by show 1 ≤ 100000; decide)) (el_stands T (rd_game T (ev_var rfl) ho4) S4.on) (by show 1 + 6 ≤ 100000; decide)) fun p H5 np e5 h5 => S4.done k np e5 h5

def spGive (a : Ad) : Sp := fun vs H Q _ => ∃ d b st own s, vs = [.ref d, .ref b] ∧ DeskAt a H d st own ∧ H b = some (.lst [.int s]) ∧ DPost a d own H (giveM st s) Q
theorem sc_Desk_give : FnScope ["self", "words"] ["self", "words"] (defScope st_Desk_give) := ⟨rfl, rfl, rfl, by decide +kernel, rfl, by decide +kernel, by decide +kernel⟩
theorem ok_Desk_give (T : Tx K mg a) : Ok P w K mg base 3 a.Desk_give ["self", "words"] (spGive a) := by
  refine T.d_Desk_give.ok sc_Desk_give (by rintro vs H Q E ⟨d, b, st, own, s, rfl, _⟩; rfl) (fun cdv A outer s H vs Q E hr h => ?_)
  obtain ⟨d, b, st, own, s, rfl, hD, hb, k⟩ := h
  refine ⟨_, (pss_cons (ps_if (pt_not (pt_val (pe_c (ok_is_side T) (hr.mono (by decide)) rfl T.g_is_side (pa_cons (pe_ix (ix_listK K) (pv 1) pe_int (fun _ _ => rfl)) pa_nil)))) (pss_one (ps_ret (pe_lst (pa_cons (pe_k rfl T.k_BEYOND) pa_nil)))) pss_nil)
      (pss_cons (ps_if (pt_val (pe_m0 (pv 0) T.c_Desk T.m_Desk_is_closed (ok_Desk_is_closed T) (hr.mono (by decide)))) (pss_one (ps_ret (pe_lst (pa_cons (pe_k rfl T.k_NO_MATCH) pa_nil)))) pss_nil)
      (pss_cons (ps_expr (pe_m (pe_fld (pv 0) rfl) T.c_Game T.m_Game_lost (ok_Game_lost T) (hr.mono (by decide)) (pa_cons (pe_ix (ix_listK K) (pv 1) pe_int (fun _ _ => rfl)) pa_nil)))
      (pss_one (ps_ret (pe_op op_cat (pe_lst (pa_cons pe_int pa_nil)) (pe_m0 (pe_fld (pv 0) rfl) T.c_Game T.m_Game_stands (ok_Game_stands T) (hr.mono (by decide))))))))), ?_⟩
  unfold giveM at k
  have w0 : ∀ {H' : Hp}, H' b = some (.lst [.int s]) → Ev (tOp (rIxL K) (tVar 1) (tC (.int 0))) [some (.ref d), some (.ref b)] H' (.int s) := fun hb' => ev_op (ev_var rfl) ev_c (rv_ixL (sq_of hb') rfl)
  refine q_when (et_not (et_B (ev_isSide (w0 hb)))) (fun hc H1 e1 => ?_) (fun hc H1 e1 => ?_)
  · rw [if_pos hc] at k
    exact s_retL (el_lst (ea_cons ev_c ea_nil) (by show 1 ≤ 100000; decide)) fun p H2 np e2 h2 => k.same hD e1 np e2 h2
  · rw [if_neg (by rw [hc]; decide)] at k
    have hD1 := hD.mono e1
    refine q_when (et_B (ev_closed T (ev_var rfl) hD1)) (fun hc2 H2 e2 => ?_) (fun hc2 H2 e2 => ?_)
    · refine s_retL (xs := ([-2] : List Int).map V.int) (el_lst (ea_cons ev_c ea_nil) (by show 1 ≤ 100000; decide)) fun p H3 np e3 h3 => ?_
      rcases is_closed hc2 with rfl | ⟨m, rfl, hw⟩
      · exact k.same hD (e1.trans e2) np e3 h3
      · have k : DPost a d own H (if (!decide (m.won = -1)) = true then (some m, [-2]) else (some (lostM m s), 0 :: stands (lostM m s))) Q := k
        rw [if_pos hw] at k
        exact k.same hD (e1.trans e2) np e3 h3
    · obtain ⟨m, rfl, hw⟩ := not_closed hc2
      have k : DPost a d own H (if (!decide (m.won = -1)) = true then (some m, [-2]) else (some (lostM m s), 0 :: stands (lostM m s))) Q := k
      rw [if_neg hw] at k
      obtain ⟨g, r, S0⟩ := DS.of hD rfl
      have S2 := S0.ex (e1.trans e2)
      obtain ⟨dx, ho⟩ := S2.ob
      obtain ⟨dg, hog⟩ := S2.on.obj
      refine q_callm (rd_game T (ev_var rfl) ho) hog (gf_lost _ _) (ea_cons (w0 (e2 _ _ (e1 _ _ hb))) ea_nil) fun H3 e3 => ⟨g, m, r, s, rfl, (S2.ex e3).on, fun H4 r4 hG4 kp4 fr4 => ?_⟩
      have S4 := (S2.ex e3).meth hG4 kp4 fr4
      obtain ⟨dx4, ho4⟩ := S4.ob
      exact s_retL (el_cat (el_lst (ea_cons ev_c ea_nil) (by show 1 ≤ 100000; decide)) (el_stands T (rd_game T (ev_var rfl) ho4) S4.on) (by show 1 + 6 ≤ 100000; decide)) fun p H5 np e5 h5 => S4.done k np e5 h5

def spDeliver (a : Ad) : Sp := fun vs H Q _ => ∃ d b st own l, vs = [.ref d, .ref b] ∧ DeskAt a H d st own ∧ H b = some (.lst (l.map V.int)) ∧ l.length ≤ 60 ∧ (∀ n ∈ l, -2147483648 ≤ n ∧ n ≤ 2147483647) ∧ (∀ m, st = some m → okm m) ∧ DPost a d own H (deliverM st l) Q
theorem told3_eq (l : List Int) : (decide ((0 : Int) < ((l.map V.int).length : Int) % 3) || !((stonesOf l).map isTold).all id) = !told3 l := by
  unfold told3
  rw [List.length_map, all_map_id, Bool.not_and, ← decide_not]
  congr 1
  rw [decide_eq_decide]
  omega
theorem stonesOf_len (l : List Int) : (stonesOf l).length = l.length / 3 := by
  unfold stonesOf
  rw [List.length_map, List.length_range]
theorem sc_Desk_deliver : FnScope ["self", "words", "stones", "stone", "ahead", "broken"] ["self", "words"] (defScope st_Desk_deliver) := ⟨rfl, rfl, rfl, by decide +kernel, rfl, by decide +kernel, by decide +kernel⟩
theorem ok_Desk_deliver (T : Tx K mg a) : Ok P w K mg base 7 a.Desk_deliver ["self", "words"] (spDeliver a) := by
  refine T.d_Desk_deliver.ok sc_Desk_deliver (by rintro vs H Q E ⟨d, b, st, own, l, rfl, _⟩; rfl) (fun cdv A outer s H vs Q E hr h => ?_)
  obtain ⟨d, b, st, own, l, rfl, hD, hb, hl, hbd, hok, k⟩ := h
  refine ⟨_, (pss_cons (ps_set (i := 2) sc_Desk_deliver.nd rfl (by first | exact Or.inl rfl | exact Or.inr rfl) (pe_c (ok_stones_of T) (hr.mono (by decide)) rfl T.g_stones_of (pa_cons (pv 1) pa_nil)))
      (pss_cons (ps_if (PW.pt (pw_or (pt_cmpR op_gt (pe_op op_mod (pe_callB (call_lenK K) (by rfl) T.b_len (by decide +kernel) (pa_cons (pv 1) pa_nil)) pe_int) pe_int (nomark _)) (pw_or1 (pt_not (pt_val (pe_callB (cr_allK K rfl) (by rfl) T.b_all (by decide +kernel) (pa_cons (pe_lc (own := [("stone", 3)]) (g := gName 3) (by rfl) sc_Desk_deliver.nd (pi_listK K (pv 2)) (blkOk_by (N := ["self", "words", "stones", "stone", "ahead", "broken"]) (sc := (defScope st_Desk_deliver)) (by decide +kernel)) (fun _ _ _ _ _ => (pg_name (i := 3) sc_Desk_deliver.nd rfl (by first | exact Or.inl rfl | exact Or.inr rfl))) (fun _ _ _ _ _ => pts_nil) (fun _ _ _ _ _ => (pe_c (ok_is_told T) (hr.mono (by decide)) rfl T.g_is_told (pa_cons (pv 3) pa_nil)))) pa_nil))))))) (pss_one (ps_ret (pe_lst (pa_cons (pe_k rfl T.k_BEYOND) pa_nil)))) pss_nil)
      (pss_cons (ps_if (pt_val (pe_m0 (pv 0) T.c_Desk T.m_Desk_is_closed (ok_Desk_is_closed T) (hr.mono (by decide)))) (pss_one (ps_ret (pe_lst (pa_cons (pe_k rfl T.k_NO_MATCH) pa_nil)))) pss_nil)
      (pss_cons (ps_set (i := 4) sc_Desk_deliver.nd rfl (by first | exact Or.inl rfl | exact Or.inr rfl) (pe_fld (pe_fld (pv 0) rfl) rfl))
      (pss_cons (ps_if (pt_not (pt_val (pe_c (ok_can_lie T) (hr.mono (by decide)) rfl T.g_can_lie (pa_cons (pv 2) (pa_cons (pv 4) (pa_cons (pe_fld (pe_fld (pv 0) rfl) rfl) pa_nil)))))) (pss_one (ps_ret (pe_lst (pa_cons (pe_k rfl T.k_NOT_SO) pa_nil)))) pss_nil)
      (pss_cons (ps_set (i := 5) sc_Desk_deliver.nd rfl (by first | exact Or.inl rfl | exact Or.inr rfl) (pe_c (ok_breaks_rule T) (hr.mono (by decide)) rfl T.g_breaks_rule (pa_cons (pv 2) (pa_cons (pv 4) (pa_cons (pe_fld (pe_fld (pv 0) rfl) rfl) pa_nil)))))
      (pss_cons (ps_if (pt_val (pv 5)) (pss_one (ps_expr (pe_m (pe_fld (pv 0) rfl) T.c_Game T.m_Game_goes_on (ok_Game_goes_on T) (hr.mono (by decide)) (pa_cons (pv 4) pa_nil)))) (pss_one (ps_expr (pe_m (pe_fld (pv 0) rfl) T.c_Game T.m_Game_goes_on (ok_Game_goes_on T) (hr.mono (by decide)) (pa_cons (pv 2) pa_nil)))))
      (pss_one (ps_ret (pe_op op_cat (pe_lst (pa_cons (pe_callTy call_int1 (by rfl) T.b_int (by decide +kernel) (pa_cons (pv 5) pa_nil)) pa_nil)) (pe_m0 (pe_fld (pv 0) rfl) T.c_Game T.m_Game_stands (ok_Game_stands T) (hr.mono (by decide))))))))))))), ?_⟩
  unfold deliverM at k
  refine q_asgE (PV := fun v H' => Ex H H' ∧ ∃ p, v = .ref p ∧ Sts H' p (stonesOf l)) (ex_call (ea_cons (ev_var rfl) ea_nil) fun H1 e1 Q E q => ⟨b, l, rfl, e1 _ _ hb, by omega, hbd, fun p H2 e2 hp => q _ _ ⟨e1.trans e2, p, rfl, hp⟩⟩) fun v H1 ⟨e1, p, ev, hp⟩ => ?_
  subst ev
  have hz : (stonesOf l).length ≤ 1000 := by rw [stonesOf_len]; omega
  have hA := el_sts (K := K) (σ := [some (.ref d), some (.ref b), some (.ref p), none, none, none]) (H := H1) (j := 3) (vs := [3]) (tl := tVar 2) (te := tCall (spV (R1 fun p => .bl (isTold p))) [] E0 (tCons (tVar 3) tNil)) (tt := tYes)
      (fun _ => true) (fun p => .bl (isTold p)) (ev_var rfl) hp hz (fun _ => rfl) (fun c p H3 e3 hc => et_yes) (fun c p H3 e3 hc => ev_1 (ev_var rfl) hc)
  rw [filter_all] at hA
  have hB := ev_allN (K := K) (bs := (stonesOf l).map isTold) (by rw [List.map_map]; exact hA)
  have ht : EvT (tOr (tTest (tOp (rI0 fun i j => .bl (decide (j < i))) (tOp (rI (fun _ j => 0 < j) fun i j => .int (i % j)) (tCB (rLenS K) (tCons (tVar 1) tNil)) (tC (.int 3))) (tC (.int 0)))) (tNot (tB (tCB (rAll K) (tCons (tLc (iList K (tVar 2)) (gName 3) tYes (tCall (spV (R1 fun p => .bl (isTold p))) [] E0 (tCons (tVar 3) tNil)) [3]) tNil)))))
      [some (.ref d), some (.ref b), some (.ref p), none, none, none] H1 (!told3 l) := by
    rw [← told3_eq]
    exact et_or (et_test (ev_op (ev_op (ev_len (ev_var rfl) (sq_of (e1 _ _ hb))) ev_c (rv_I (by decide))) ev_c rv_I0)) fun _ => et_not (et_B hB)
  have hD1 := hD.mono e1
  refine q_when ht (fun hc H2 e2 => ?_) (fun hc H2 e2 => ?_)
  · rw [if_pos (show told3 l = false by simpa using hc)] at k
    exact s_retL (el_lst (ea_cons ev_c ea_nil) (by show 1 ≤ 100000; decide)) fun p H3 np e3 h3 => k.same hD (e1.trans e2) np e3 h3
  · rw [if_neg (show ¬ told3 l = false by simpa using hc)] at k
    have e02 := e1.trans e2
    refine q_when (et_B (ev_closed T (ev_var rfl) (hD.mono e02))) (fun hc2 H3 e3 => ?_) (fun hc2 H3 e3 => ?_)
    · refine s_retL (xs := ([-2] : List Int).map V.int) (el_lst (ea_cons ev_c ea_nil) (by show 1 ≤ 100000; decide)) fun p H4 np e4 h4 => ?_
      rcases is_closed hc2 with rfl | ⟨m, rfl, hw⟩
      · exact k.same hD (e02.trans e3) np e4 h4
      · simp only [if_pos hw] at k
        exact k.same hD (e02.trans e3) np e4 h4
    · obtain ⟨m, rfl, hw⟩ := not_closed hc2
      simp only [if_neg hw] at k
      obtain ⟨o1, o2, o3⟩ := hok m rfl
      obtain ⟨g, r, S0⟩ := DS.of hD rfl
      have S3 := S0.ex (e02.trans e3)
      obtain ⟨dx, ho⟩ := S3.ob
      refine q_asg (rd_lying T (rd_game T (ev_var rfl) ho) S3.on) fun H4 e4 => ?_
      have S4 := S3.ex e4
      have ho4 := e4 _ _ ho
      have hp4 := hp.mono ((e2.trans e3).trans e4)
      refine q_when (et_not (et_B (ev_call (z := .bl (canLie (stonesOf l) m.stones m.deliv)) (ea_cons (ev_var rfl) (ea_cons (ev_var rfl) (ea_cons (rd_deliv T (rd_game T (ev_var rfl) ho4) S4.on) ea_nil)))
        (spV_of ⟨p, r.lying, _, _, _, rfl, hp4, S4.on.ls.lying, hz, o2, rfl⟩ fun H5 e5 => ⟨p, r.lying, _, _, _, rfl, hp4.mono e5, S4.on.ls.lying.mono e5, hz, o2, rfl⟩)))) (fun hc3 H5 e5 => ?_) (fun hc3 H5 e5 => ?_)
      · have hcf : canLie (stonesOf l) m.stones m.deliv = false := by simpa using hc3
        simp only [if_pos hcf] at k
        refine s_retL (xs := ([-4] : List Int).map V.int) (el_lst (ea_cons ev_c ea_nil) (by show 1 ≤ 100000; decide)) fun q H6 np e6 h6 => (S4.ex e5).done k np e6 h6
      · have hcf : ¬ canLie (stonesOf l) m.stones m.deliv = false := by simpa using hc3
        simp only [if_neg hcf] at k
        have S5 := S4.ex e5
        have ho5 := e5 _ _ ho4
        have hp5 := hp4.mono e5
        refine q_asg (ev_call (z := .bl (breaks (stonesOf l) m.stones m.deliv)) (ea_cons (ev_var rfl) (ea_cons (ev_var rfl) (ea_cons (rd_deliv T (rd_game T (ev_var rfl) ho5) S5.on) ea_nil)))
          (spV_of ⟨p, r.lying, _, _, _, rfl, hp5, S5.on.ls.lying, hz, rfl⟩ fun H6 e6 => ⟨p, r.lying, _, _, _, rfl, hp5.mono e6, S5.on.ls.lying.mono e6, hz, rfl⟩)) fun H6 e6 => ?_
        generalize breaks (stonesOf l) m.stones m.deliv = br at k ⊢
        have last : ∀ (H' : Hp) (m' : GM) (r' : GV), m' = goesM m (if br = true then m.stones else stonesOf l) → DS a d own H H' m' g r' →
            tRet (tOp rCat (tLst (tCons (tCB (fun xs H Q => (∃ i, xs = [.int i] ∧ Q (.int i) H) ∨ ∃ k, xs = [.bl k] ∧ Q (.int (if k then 1 else 0)) H) (tCons (tVar 5) tNil)) tNil)) (tMeth a.Game "stands" (spL (RGL a.Game standsV)) [] E0 (tFld K (tVar 0) "game") tNil)) { nx := fun _ H' => Q .non H', rt := Q } [some (.ref d), some (.ref b), some (.ref p), none, some (.ref r.lying), some (.bl br)] H' := by
          intro H' m' r' em S'
          rw [← em] at k
          obtain ⟨dx', ho'⟩ := S'.ob
          exact s_retL (el_cat (el_lst (ea_cons (ev_intB (ev_var rfl)) ea_nil) (by show 1 ≤ 100000; decide)) (el_stands T (rd_game T (ev_var rfl) ho') S'.on) (by show 1 + 6 ≤ 100000; decide)) fun q H7 np e7 h7 => S'.done k np e7 h7
        have S6 := S5.ex e6
        refine q_if (et_B (ev_var rfl)) (fun hb1 H7 e7 => ?_) (fun hb1 H7 e7 => ?_)
        · have S7 := S6.ex e7
          obtain ⟨dx7, ho7⟩ := S7.ob
          obtain ⟨dg7, hog7⟩ := S7.on.obj
          refine s_callm (rd_game T (ev_var rfl) ho7) hog7 (gf_goes_on _ _) (ea_cons (ev_var rfl) ea_nil) fun H8 e8 => ⟨g, r.lying, m, r, m.stones, rfl, (S7.ex e8).on, (S7.ex e8).on.ls.lying, o1, o2, by omega, fun H9 r9 hG9 kp9 fr9 => ?_⟩
          exact last H9 _ r9 (by rw [if_pos hb1]) ((S7.ex e8).meth hG9 kp9 fr9)
        · have S7 := S6.ex e7
          obtain ⟨dx7, ho7⟩ := S7.ob
          obtain ⟨dg7, hog7⟩ := S7.on.obj
          have hp7 := (hp5.mono e6).mono e7
          refine s_callm (rd_game T (ev_var rfl) ho7) hog7 (gf_goes_on _ _) (ea_cons (ev_var rfl) ea_nil) fun H8 e8 => ⟨g, p, m, r, stonesOf l, rfl, (S7.ex e8).on, hp7.mono e8, o1, hz, by omega, fun H9 r9 hG9 kp9 fr9 => ?_⟩
          exact last H9 _ r9 (by rw [if_neg (by rw [hb1]; decide)]) ((S7.ex e8).meth hG9 kp9 fr9)
end
end Cm
namespace Cm
open PySem PySem.Spec PyProof.Rows L2 Evl
open Kg65 (Game Stone Call)
/-! ### the program's call is the specification's -/
def callM (st : Option GM) : Call → Option GM × List Int
  | .begin_ e h t => beginM st e h t
  | .deliver l => deliverM st l
  | .time s t => timeM st s t
  | .give s => giveM st s
  | .now => tellM st nowM
  | .stones => tellM st stonesM
  | .scores => tellM st scoresM
  | .shot => tellM st shotM
def fine (n : Nat) (s : Kg65.State) : Prop := ∀ G, s = some G → G.hammer ≤ 1 ∧ G.stones.length ≤ 60 ∧ G.scores.length ≤ n
theorem hammer_or {G : Game} (h : G.hammer ≤ 1) : G.hammer = 0 ∨ G.hammer = 1 := by omega
theorem pts_of {G : Game} (hh : G.hammer ≤ 1) : pts (ofG G).stones (ofG G).hammer = (G.counts 0, G.counts 1) := by
  have c1 := counts_h hh
  have c2 := counts_o hh
  show pts (G.stones.map ofS) (G.hammer : Int) = _
  unfold pts
  rcases hammer_or hh with e | e
  · rw [e] at c1 c2
    rw [e, if_pos (show ((0 : Nat) : Int) = 0 from rfl), ← c1, ← c2]
  · rw [e] at c1 c2
    rw [e, if_neg (show ¬ ((1 : Nat) : Int) = 0 by decide), ← c1, ← c2]
theorem won_of (x : Option Nat) : (!decide (Kg65.opt x = -1)) = x.isSome := opt_some x
theorem ofG_ended {G : Game} (hh : G.hammer ≤ 1) : ofG (ended G) = hamM (scoredM (ofG G)) (pts (ofG G).stones (ofG G).hammer) := by
  have ep := pts_of hh
  have t0 := total_add G (G.counts 0) (G.counts 1) 0 (ended G) rfl
  have t1 := total_add G (G.counts 0) (G.counts 1) 1 (ended G) rfl
  rw [if_pos rfl] at t0
  rw [if_neg (by decide)] at t1
  have eh : ((if 0 < G.counts 0 then 1 else if 0 < G.counts 1 then 0 else G.hammer : Nat) : Int) = if 0 < ((G.counts 1 : Nat) : Int) then 0 else if 0 < ((G.counts 0 : Nat) : Int) then 1 else (G.hammer : Int) := by
    by_cases h0 : 0 < G.counts 0
    · rw [if_pos h0, not_both hh h0, if_neg (by decide), if_pos (by omega)]
      rfl
    · rw [if_neg h0]
      by_cases h1 : 0 < G.counts 1
      · rw [if_pos h1, if_pos (by omega)]
        rfl
      · rw [if_neg h1, if_neg (by omega), if_neg (by omega)]
  have e1 : ofG (ended G) = ⟨G.ends, ((if 0 < G.counts 0 then 1 else if 0 < G.counts 1 then 0 else G.hammer : Nat) : Int), G.timeA, G.timeB, ((ended G).total 0 : Nat), ((ended G).total 1 : Nat), G.scores ++ [(G.counts 0, G.counts 1)], 0, [], Kg65.opt G.won⟩ := rfl
  have e2 : hamM (scoredM (ofG G)) (pts (ofG G).stones (ofG G).hammer) = ⟨G.ends, if 0 < ((pts (ofG G).stones (ofG G).hammer).2 : Int) then 0 else if 0 < ((pts (ofG G).stones (ofG G).hammer).1 : Int) then 1 else (G.hammer : Int), G.timeA, G.timeB, (G.total 0 : Int) + ((pts (ofG G).stones (ofG G).hammer).1 : Nat), (G.total 1 : Int) + ((pts (ofG G).stones (ofG G).hammer).2 : Nat), G.scores ++ [pts (ofG G).stones (ofG G).hammer], 0, [], Kg65.opt G.won⟩ := rfl
  rw [e1, e2, ep, eh, t0, t1]
  simp only [Int.natCast_add]
theorem ofG_last (G : Game) : ofG (lastOver G) = lastM (ofG G) := by
  unfold lastOver lastM
  have e0 : (ofG G).p0 = (G.total 0 : Int) := rfl
  have e1 : (ofG G).p1 = (G.total 1 : Int) := rfl
  rw [e0, e1]
  by_cases h : G.total 1 < G.total 0
  · rw [if_pos h, if_pos (show (G.total 1 : Int) < (G.total 0 : Int) by omega)]
    rfl
  · rw [if_neg h, if_neg (show ¬ (G.total 1 : Int) < (G.total 0 : Int) by omega)]
    by_cases h' : G.total 0 < G.total 1
    · rw [if_pos h', if_pos (show (G.total 0 : Int) < (G.total 1 : Int) by omega)]
      rfl
    · rw [if_neg h', if_neg (show ¬ (G.total 0 : Int) < (G.total 1 : Int) by omega)]
      rfl
theorem ofG_close {G : Game} (hh : G.hammer ≤ 1) : ofG G.close = endM (ofG G) := by
  rw [close_eq]
  unfold endM
  have e0 : (scoredM (ofG G)).many = (G.ends : Int) := rfl
  have e1 : (scoredM (ofG G)).scores.length = (ended G).scores.length := by
    show ((G.scores ++ [_]).length) = (G.scores ++ [_]).length
    rw [List.length_append, List.length_append]
    rfl
  rw [e0, e1, ← ofG_ended hh]
  by_cases h : G.ends ≤ (ended G).scores.length
  · rw [if_pos h, if_pos (by omega), ofG_last]
  · rw [if_neg h, if_neg (by omega)]
theorem ofG_goes {G : Game} (hh : G.hammer ≤ 1) (ps : List Stone) : ofG (goesOn G ps) = goesM (ofG G) (ps.map ofS) := by
  unfold goesOn goesM
  have e0 : (ofG G).deliv = (G.count : Int) := rfl
  rw [e0]
  by_cases h : G.count + 1 = 16
  · rw [if_pos h, if_pos (by omega), ofG_close (G := { G with stones := ps, count := G.count + 1 }) hh]
    rfl
  · rw [if_neg h, if_neg (by omega)]
    rfl
theorem stands_of (G : Game) : stands (ofG G) = Kg65.told G := rfl
theorem side_of {G : Game} (hh : G.hammer ≤ 1) (k : Nat) : sideM (ofG G) (k : Int) = (G.sideOf k : Int) := by
  unfold sideM Game.sideOf
  have e0 : (ofG G).hammer = (G.hammer : Int) := rfl
  rw [e0]
  by_cases h : k % 2 = 1
  · rw [if_pos h, if_pos (by omega)]
  · rw [if_neg h, if_neg (by omega)]
    omega
theorem isSide_within (h : Int) : isSide h = Kg65.within h 0 1 := by
  unfold isSide Kg65.within
  rw [← Bool.decide_or, ← Bool.decide_and, decide_eq_decide]
  omega
theorem inR_within (lo x hi : Int) : inR lo x hi = Kg65.within x lo hi := rfl
theorem truth_b (b : Bool) : Kg65.truth b = b2n b := rfl
theorem onGame_open {G : Game} (h : G.won = none) (f : Game → Kg65.State × Kg65.Ans) : Kg65.onGame (some G) f = f G := by
  show (if G.won.isSome = true then _ else _) = _
  rw [h]
  rfl
theorem onGame_shut {G : Game} (h : G.won ≠ none) (f : Game → Kg65.State × Kg65.Ans) : Kg65.onGame (some G) f = (some G, Kg65.num (-2)) := by
  show (if G.won.isSome = true then _ else _) = _
  cases e : G.won with
  | none => exact absurd e h
  | some x => rfl
theorem shut_M {G : Game} (h : G.won ≠ none) : (!decide ((ofG G).won = -1)) = true := by
  show (!decide (Kg65.opt G.won = -1)) = true
  rw [won_of]
  cases e : G.won with
  | none => exact absurd e h
  | some x => rfl
theorem open_M {G : Game} (h : G.won = none) : ¬ (!decide ((ofG G).won = -1)) = true := by
  show ¬ (!decide (Kg65.opt G.won = -1)) = true
  rw [won_of, h]
  decide
theorem max_if (x : Int) : max 0 x = if x > 0 then x else 0 := by
  split <;> omega
theorem think_of (G : Game) (s t : Int) (hs : s = 0 ∨ s = 1) :
    let h := if s = 0 then { G with timeA := max 0 (G.timeA - t) } else { G with timeB := max 0 (G.timeB - t) }
    let left := if s = 0 then h.timeA else h.timeB
    let u := if left ≤ 0 then { h with won := some (1 - s.toNat) } else h
    ofG u = thinkM (ofG G) s t ∧ left = leftM (thinkM (ofG G) s t) s := by
  rcases hs with rfl | rfl
  · show ofG (if (max 0 (G.timeA - t)) ≤ 0 then { G with timeA := max 0 (G.timeA - t), won := some 1 } else { G with timeA := max 0 (G.timeA - t) }) = (if (if G.timeA - t > 0 then G.timeA - t else 0) = 0 then lostM (setT (ofG G) 0 t) 0 else setT (ofG G) 0 t) ∧ max 0 (G.timeA - t) = leftM (if (if G.timeA - t > 0 then G.timeA - t else 0) = 0 then lostM (setT (ofG G) 0 t) 0 else setT (ofG G) 0 t) 0
    rw [← max_if]
    have es : setT (ofG G) 0 t = ofG { G with timeA := max 0 (G.timeA - t) } := by
      rw [max_if]
      rfl
    by_cases h : max 0 (G.timeA - t) ≤ 0
    · rw [if_pos h, if_pos (by omega), es]
      exact ⟨rfl, rfl⟩
    · rw [if_neg h, if_neg (by omega), es]
      exact ⟨rfl, rfl⟩
  · show ofG (if (max 0 (G.timeB - t)) ≤ 0 then { G with timeB := max 0 (G.timeB - t), won := some 0 } else { G with timeB := max 0 (G.timeB - t) }) = (if (if G.timeB - t > 0 then G.timeB - t else 0) = 0 then lostM (setT (ofG G) 1 t) 1 else setT (ofG G) 1 t) ∧ max 0 (G.timeB - t) = leftM (if (if G.timeB - t > 0 then G.timeB - t else 0) = 0 then lostM (setT (ofG G) 1 t) 1 else setT (ofG G) 1 t) 1
    rw [← max_if]
    have es : setT (ofG G) 1 t = ofG { G with timeB := max 0 (G.timeB - t) } := by
      rw [max_if]
      rfl
    by_cases h : max 0 (G.timeB - t) ≤ 0
    · rw [if_pos h, if_pos (by omega), es]
      exact ⟨rfl, rfl⟩
    · rw [if_neg h, if_neg (by omega), es]
      exact ⟨rfl, rfl⟩
theorem showM_of {G : Game} (hh : G.hammer ≤ 1) (s : Stone) : showM (ofG G) (ofS s) = Kg65.showStone G s := by
  show [(s.number : Int), sideM (ofG G) (s.number : Int), s.x, s.y, b2n (inHouse (ofS s)), b2n (guard (ofS s))] = _
  rw [side_of hh]
  rfl
/-- **a call**: the program's mirror and the specification -/
theorem callM_spec {n : Nat} {s : Kg65.State} (hf : fine n s) (k : Call) : callM (s.map ofG) k = ((Kg65.spec s k).1.map ofG, tellOf (Kg65.spec s k).2) := by
  cases k with
  | begin_ e h t =>
    show beginM (s.map ofG) e h t = ((if (Kg65.within e 1 12 && (Kg65.within h 0 1 && Kg65.within t 1 10000)) = false then (s, Kg65.num (-1)) else (some ⟨e.toNat, h.toNat, 0, [], [], t, t, none⟩, Kg65.num 0) : Kg65.State × Kg65.Ans).1.map ofG, tellOf (if (Kg65.within e 1 12 && (Kg65.within h 0 1 && Kg65.within t 1 10000)) = false then (s, Kg65.num (-1)) else (some ⟨e.toNat, h.toNat, 0, [], [], t, t, none⟩, Kg65.num 0) : Kg65.State × Kg65.Ans).2)
    unfold beginM
    rw [inR_within, inR_within, isSide_within]
    have eb : (!Kg65.within e 1 12 || (!Kg65.within h 0 1 || !Kg65.within t 1 10000)) = !(Kg65.within e 1 12 && (Kg65.within h 0 1 && Kg65.within t 1 10000)) := by
      rw [Bool.not_and, Bool.not_and]
    rw [eb]
    cases hc : (Kg65.within e 1 12 && (Kg65.within h 0 1 && Kg65.within t 1 10000)) with
    | false => rfl
    | true =>
      rw [if_neg (by decide), if_neg (by decide)]
      simp only [Kg65.within, Bool.and_eq_true, decide_eq_true_eq] at hc
      have e1 : (e.toNat : Int) = e := by omega
      have e2 : (h.toNat : Int) = h := by omega
      show (some (newM e h t), [(0 : Int)]) = (some (⟨(e.toNat : Int), (h.toNat : Int), t, t, 0, 0, [], 0, [], -1⟩ : GM), [0])
      rw [e1, e2]
      rfl
  | deliver l =>
    obtain ⟨s0, s1⟩ := spec_stones l
    show deliverM (s.map ofG) l = _
    unfold deliverM
    cases ht : told3 l with
    | false =>
      have e : Kg65.spec s (.deliver l) = (s, Kg65.num (-1)) := by
        show (match Kg65.stonesOf l with | none => (s, Kg65.num (-1)) | some now => _) = _
        rw [s0 ht]
      rw [e, if_pos rfl]
      rfl
    | true =>
      obtain ⟨now, e1, e2⟩ := s1 ht
      have e : Kg65.spec s (.deliver l) = Kg65.onGame s fun g => if g.couldBe now = false then (s, Kg65.num (-4)) else (some (g.deliver now), ⟨Kg65.truth (g.breaks now), Kg65.told (g.deliver now)⟩) := by
        show (match Kg65.stonesOf l with | none => (s, Kg65.num (-1)) | some now => _) = _
        rw [e1]
      rw [e, if_neg (by decide)]
      cases s with
      | none => rfl
      | some G =>
        obtain ⟨hh, _, _⟩ := hf G rfl
        by_cases hw : G.won = none
        · rw [onGame_open hw]
          show (if (!decide ((ofG G).won = -1)) = true then _ else _) = _
          rw [if_neg (open_M hw), e2]
          have ec : canLie (now.map ofS) (ofG G).stones (ofG G).deliv = G.couldBe now := canLie_of G now
          have eb : breaks (now.map ofS) (ofG G).stones (ofG G).deliv = G.breaks now := breaks_of hh now
          rw [ec, eb]
          by_cases hcb : G.couldBe now = false
          · rw [if_pos hcb, if_pos hcb]
            rfl
          · rw [if_neg hcb, if_neg hcb, deliver_eq]
            have eps : (if G.breaks now = true then (ofG G).stones else now.map ofS) = (if G.breaks now = true then G.stones else now).map ofS := by
              split <;> rfl
            rw [eps, ← ofG_goes hh, stands_of, ← truth_b]
            rfl
        · rw [onGame_shut hw]
          show (if (!decide ((ofG G).won = -1)) = true then _ else _) = _
          rw [if_pos (shut_M hw)]
          rfl
  | time sd t =>
    show timeM (s.map ofG) sd t = _
    unfold timeM
    have e : Kg65.spec s (.time sd t) = if (Kg65.within sd 0 1 && Kg65.within t 0 10000) = false then (s, Kg65.num (-1)) else Kg65.onGame s fun g =>
        let h := if sd = 0 then { g with timeA := max 0 (g.timeA - t) } else { g with timeB := max 0 (g.timeB - t) }
        let left := if sd = 0 then h.timeA else h.timeB
        let u := if left ≤ 0 then { h with won := some (1 - sd.toNat) } else h
        (some u, ⟨left, Kg65.told u⟩) := rfl
    rw [e, inR_within, isSide_within]
    have eb : (!Kg65.within sd 0 1 || !Kg65.within t 0 10000) = !(Kg65.within sd 0 1 && Kg65.within t 0 10000) := by rw [Bool.not_and]
    rw [eb]
    cases hc : (Kg65.within sd 0 1 && Kg65.within t 0 10000) with
    | false => rfl
    | true =>
      rw [if_neg (by decide), if_neg (by decide)]
      simp only [Kg65.within, Bool.and_eq_true, decide_eq_true_eq] at hc
      cases s with
      | none => rfl
      | some G =>
        by_cases hw : G.won = none
        · rw [onGame_open hw]
          show (if (!decide ((ofG G).won = -1)) = true then _ else _) = _
          rw [if_neg (open_M hw)]
          obtain ⟨h1, h2⟩ := think_of G sd t (by omega)
          rw [← h2, ← h1, stands_of]
          rfl
        · rw [onGame_shut hw]
          show (if (!decide ((ofG G).won = -1)) = true then _ else _) = _
          rw [if_pos (shut_M hw)]
          rfl
  | give sd =>
    show giveM (s.map ofG) sd = _
    unfold giveM
    have e : Kg65.spec s (.give sd) = if Kg65.within sd 0 1 = false then (s, Kg65.num (-1)) else Kg65.onGame s fun g => (some { g with won := some (1 - sd.toNat) }, ⟨0, Kg65.told { g with won := some (1 - sd.toNat) }⟩) := rfl
    rw [e, isSide_within]
    cases hc : Kg65.within sd 0 1 with
    | false => rfl
    | true =>
      rw [if_neg (by decide), if_neg (by decide)]
      simp only [Kg65.within, Bool.and_eq_true, decide_eq_true_eq] at hc
      cases s with
      | none => rfl
      | some G =>
        by_cases hw : G.won = none
        · rw [onGame_open hw]
          show (if (!decide ((ofG G).won = -1)) = true then _ else _) = _
          rw [if_neg (open_M hw)]
          have e1 : lostM (ofG G) sd = ofG { G with won := some (1 - sd.toNat) } := by
            have e2 : (1 : Int) - sd = ((1 - sd.toNat : Nat) : Int) := by omega
            unfold lostM
            rw [e2]
            rfl
          rw [e1, stands_of]
          rfl
        · rw [onGame_shut hw]
          show (if (!decide ((ofG G).won = -1)) = true then _ else _) = _
          rw [if_pos (shut_M hw)]
          rfl
  | now =>
    cases s with
    | none => rfl
    | some G =>
      obtain ⟨hh, _, _⟩ := hf G rfl
      show (some (ofG G), [b2n (!decide (Kg65.opt G.won = -1))] ++ stands (ofG G) ++ [sideM (ofG G) (G.count : Int), G.timeA, G.timeB]) = _
      rw [won_of, stands_of, side_of hh]
      rfl
  | stones =>
    cases s with
    | none => rfl
    | some G =>
      obtain ⟨hh, _, _⟩ := hf G rfl
      show (some (ofG G), (((G.stones.map ofS).length : Nat) : Int) :: (G.stones.map ofS).flatMap (showM (ofG G))) = (some (ofG G), ((G.stones.length : Nat) : Int) :: G.stones.flatMap (Kg65.showStone G))
      have e1 : (G.stones.map ofS).flatMap (showM (ofG G)) = G.stones.flatMap (Kg65.showStone G) := by
        rw [List.flatMap_map]
        congr 1
        funext s
        exact showM_of hh s
      rw [e1, List.length_map]
  | scores =>
    cases s with
    | none => rfl
    | some G => rfl
  | shot =>
    cases s with
    | none => rfl
    | some G =>
      obtain ⟨hh, _, _⟩ := hf G rfl
      show (some (ofG G), shotM (ofG G)) = (some (ofG G), [(G.counts 0 : Int) + (G.counts 1 : Int), (G.counts 0 : Int), (G.counts 1 : Int)])
      unfold shotM
      rw [pts_of hh]
theorem fine_ok {n : Nat} {s : Kg65.State} (hf : fine n s) (hn : n ≤ 300) : ∀ m, s.map ofG = some m → okm m := fun m e => by
  cases s with
  | none => cases e
  | some G =>
    cases e
    obtain ⟨h1, h2, h3⟩ := hf G rfl
    refine ⟨?_, ?_, ?_⟩
    · show (G.hammer : Int) = 0 ∨ (G.hammer : Int) = 1
      omega
    · show (G.stones.map ofS).length ≤ 1000
      rw [List.length_map]
      omega
    · show G.scores.length < 10000
      omega
theorem ended_fine {G : Game} (hh : G.hammer ≤ 1) : (ended G).hammer ≤ 1 ∧ (ended G).stones.length ≤ 60 ∧ (ended G).scores.length = G.scores.length + 1 := by
  refine ⟨?_, Nat.zero_le _, ?_⟩
  · show (if 0 < G.counts 0 then 1 else if 0 < G.counts 1 then 0 else G.hammer) ≤ 1
    split
    · exact Nat.le_refl _
    · split
      · exact Nat.zero_le _
      · exact hh
  · show (G.scores ++ [_]).length = _
    rw [List.length_append]
    rfl
theorem last_fine (G : Game) : (lastOver G).hammer = G.hammer ∧ (lastOver G).stones = G.stones ∧ (lastOver G).scores = G.scores := by
  unfold lastOver
  split
  · exact ⟨rfl, rfl, rfl⟩
  · split <;> exact ⟨rfl, rfl, rfl⟩
theorem close_fine {G : Game} (hh : G.hammer ≤ 1) : G.close.hammer ≤ 1 ∧ G.close.stones.length ≤ 60 ∧ G.close.scores.length = G.scores.length + 1 := by
  have h := ended_fine hh
  rw [close_eq]
  split
  · obtain ⟨a, b, c⟩ := last_fine (ended G)
    rw [a, b, c]
    exact h
  · exact h
theorem goes_fine {G : Game} (hh : G.hammer ≤ 1) {ps : List Stone} (hp : ps.length ≤ 60) : (goesOn G ps).hammer ≤ 1 ∧ (goesOn G ps).stones.length ≤ 60 ∧ (goesOn G ps).scores.length ≤ G.scores.length + 1 := by
  unfold goesOn
  split
  · obtain ⟨a, b, c⟩ := close_fine (G := { G with stones := ps, count := G.count + 1 }) hh
    exact ⟨a, b, Nat.le_of_eq c⟩
  · exact ⟨hh, hp, Nat.le_succ _⟩
theorem onGame_fine {n : Nat} {s : Kg65.State} (hf : fine n s) (f : Game → Kg65.State × Kg65.Ans) (h : ∀ G, s = some G → fine (n + 1) (f G).1) : fine (n + 1) (Kg65.onGame s f).1 := by
  cases s with
  | none =>
    intro G e
    cases e
  | some G =>
    by_cases hw : G.won = none
    · rw [onGame_open hw]
      exact h G rfl
    · rw [onGame_shut hw]
      intro G' e
      cases e
      obtain ⟨a, b, c⟩ := hf G rfl
      exact ⟨a, b, Nat.le_succ_of_le c⟩
theorem fine_more {n : Nat} {s : Kg65.State} (hf : fine n s) : fine (n + 1) s := fun G e => by
  obtain ⟨a, b, c⟩ := hf G e
  exact ⟨a, b, Nat.le_succ_of_le c⟩
theorem fine_step {n : Nat} {s : Kg65.State} (hf : fine n s) (k : Call) (hk : okc k) : fine (n + 1) (Kg65.spec s k).1 := by
  cases k with
  | begin_ e h t =>
    show fine (n + 1) (if (Kg65.within e 1 12 && (Kg65.within h 0 1 && Kg65.within t 1 10000)) = false then (s, Kg65.num (-1)) else (some ⟨e.toNat, h.toNat, 0, [], [], t, t, none⟩, Kg65.num 0) : Kg65.State × Kg65.Ans).1
    cases hc : (Kg65.within e 1 12 && (Kg65.within h 0 1 && Kg65.within t 1 10000)) with
    | false => exact fine_more hf
    | true =>
      rw [if_neg (by decide)]
      simp only [Kg65.within, Bool.and_eq_true, decide_eq_true_eq] at hc
      intro G e
      cases e
      exact ⟨by show h.toNat ≤ 1; omega, Nat.zero_le _, Nat.zero_le _⟩
  | deliver l =>
    show fine (n + 1) (match Kg65.stonesOf l with | none => (s, Kg65.num (-1)) | some now => Kg65.onGame s fun g => if g.couldBe now = false then (s, Kg65.num (-4)) else (some (g.deliver now), ⟨Kg65.truth (g.breaks now), Kg65.told (g.deliver now)⟩) : Kg65.State × Kg65.Ans).1
    cases hs : Kg65.stonesOf l with
    | none => exact fine_more hf
    | some now =>
      have hl := (spec_stones_ok l now hs).1
      have hk : l.length ≤ 60 := hk
      refine onGame_fine hf _ fun G e => ?_
      subst e
      show fine (n + 1) (if G.couldBe now = false then (some G, Kg65.num (-4)) else (some (G.deliver now), ⟨Kg65.truth (G.breaks now), Kg65.told (G.deliver now)⟩) : Kg65.State × Kg65.Ans).1
      obtain ⟨a, b, c⟩ := hf G rfl
      split
      · exact fine_more hf
      · intro G' e
        have e : G.deliver now = G' := Option.some.inj e
        rw [← e, deliver_eq]
        have hp : (if G.breaks now = true then G.stones else now).length ≤ 60 := by
          split <;> omega
        obtain ⟨x, y, z⟩ := goes_fine a hp
        exact ⟨x, y, by omega⟩
  | time sd t =>
    show fine (n + 1) (if (Kg65.within sd 0 1 && Kg65.within t 0 10000) = false then (s, Kg65.num (-1)) else Kg65.onGame s _ : Kg65.State × Kg65.Ans).1
    split
    · exact fine_more hf
    · refine onGame_fine hf _ fun G e => ?_
      subst e
      obtain ⟨a, b, c⟩ := hf G rfl
      intro G' e
      have e := (Option.some.inj e).symm
      subst e
      by_cases h0 : sd = 0
      · subst h0
        rw [if_pos rfl, if_pos rfl]
        split <;> exact ⟨a, b, Nat.le_succ_of_le c⟩
      · rw [if_neg h0, if_neg h0]
        split <;> exact ⟨a, b, Nat.le_succ_of_le c⟩
  | give sd =>
    show fine (n + 1) (if Kg65.within sd 0 1 = false then (s, Kg65.num (-1)) else Kg65.onGame s _ : Kg65.State × Kg65.Ans).1
    split
    · exact fine_more hf
    · refine onGame_fine hf _ fun G e => ?_
      subst e
      obtain ⟨a, b, c⟩ := hf G rfl
      intro G' e
      have e := (Option.some.inj e).symm
      subst e
      exact ⟨a, b, Nat.le_succ_of_le c⟩
  | now => cases s <;> exact fine_more hf
  | stones => cases s <;> exact fine_more hf
  | scores => cases s <;> exact fine_more hf
  | shot => cases s <;> exact fine_more hf
end Cm
namespace Cm
open PySem PySem.Spec PyProof.Rows L2 Evl
open Kg65 (Call)
section
variable {P : Program} {w : World} {K : PySem.W.Frag} {mg : Str → Option Value} {base : Heap} {a : Ad}
theorem Ok.mono {j k : Nat} {f : Addr} {ps : List Str} {sp : Sp} (O : Ok P w K mg base j f ps sp) (h : j ≤ k) : Ok P w K mg base k f ps sp := by
  obtain ⟨fd, F, b⟩ := O.ex
  exact ⟨⟨fd, F.mono h, b⟩, O.kp⟩
def tellS (a : Ad) (f : Addr) (sp : Sp) : Prop := (f = a.now_told ∧ sp = spL (RT a.Game nowM)) ∨ (f = a.stones_told ∧ sp = spL (RT a.Game stonesM)) ∨ (f = a.scores_told ∧ sp = spL (RT a.Game scoresM)) ∨ (f = a.shot_told ∧ sp = spL (RT a.Game shotM))
theorem held_tell (T : Tx K mg a) : ∀ f sp, tellS a f sp → ∃ ps, Ok P w K mg base 5 f ps sp := by
  rintro f sp (⟨rfl, rfl⟩ | ⟨rfl, rfl⟩ | ⟨rfl, rfl⟩ | ⟨rfl, rfl⟩)
  · exact ⟨_, (ok_now_told T).mono (by decide)⟩
  · exact ⟨_, (ok_stones_told T).mono (by decide)⟩
  · exact ⟨_, (ok_scores_told T).mono (by decide)⟩
  · exact ⟨_, (ok_shot_told T).mono (by decide)⟩
def tellF (n : Int) : GM → List Int := if n = 0 then nowM else if n = 1 then stonesM else if n = 2 then scoresM else shotM
def spTell (a : Ad) : Sp := fun vs H Q _ => ∃ d st own n, vs = [.ref d, .int n] ∧ DeskAt a H d st own ∧ (n = 0 ∨ n = 1 ∨ n = 2 ∨ n = 3) ∧ (∀ m, st = some m → okm m) ∧ DPost a d own H (tellM st (tellF n)) Q
theorem sc_Desk_tell : FnScope ["self", "which"] ["self", "which"] (defScope st_Desk_tell) := ⟨rfl, rfl, rfl, by decide +kernel, rfl, by decide +kernel, by decide +kernel⟩
theorem ok_Desk_tell (T : Tx K mg a) : Ok P w K mg base 6 a.Desk_tell ["self", "which"] (spTell a) := by
  refine T.d_Desk_tell.ok sc_Desk_tell (by rintro vs H Q E ⟨d, st, own, n, rfl, _⟩; rfl) (fun cdv A outer s H vs Q E hr h => ?_)
  obtain ⟨d, st, own, n, rfl, hD, hn, hok, k⟩ := h
  refine ⟨_, (pss_cons (ps_if (pt_cmpR op_isN (pe_fld (pv 0) rfl) pe_non (nomark _)) (pss_one (ps_ret (pe_lst (pa_cons (pe_k rfl T.k_NO_MATCH) pa_nil)))) pss_nil)
      (pss_one (ps_ret (pe_callE (held_tell T) (hr.mono (by decide)) (pe_ix (ix_listK K) (pe_lst (pa_cons (pe_glob (v := V.ref a.now_told) rfl T.g_now_told rfl) (pa_cons (pe_glob (v := V.ref a.stones_told) rfl T.g_stones_told rfl) (pa_cons (pe_glob (v := V.ref a.scores_told) rfl T.g_scores_told rfl) (pa_cons (pe_glob (v := V.ref a.shot_told) rfl T.g_shot_told rfl) pa_nil))))) (pv 1) (fun _ _ => rfl)) (pa_cons (pe_fld (pv 0) rfl) pa_nil))))), ?_⟩
  cases st with
  | none =>
    obtain ⟨dx, ho, _⟩ := id hD
    refine q_when (b := true) (et_test (ev_op (rd_game T (ev_var rfl) ho) ev_c (rv_val fun H3 _ Q q => ⟨rfl, q⟩))) (fun _ H1 e1 => ?_) (fun hb => by cases hb)
    exact s_retL (xs := ([-2] : List Int).map V.int) (el_lst (ea_cons ev_c ea_nil) (by show 1 ≤ 100000; decide)) fun p H2 np e2 h2 => k.same hD e1 np e2 h2
  | some m =>
    obtain ⟨dx, g, r, ho, hG, _⟩ := id hD
    refine q_when (b := false) (et_test (ev_op (rd_game T (ev_var rfl) ho) ev_c (rv_val fun H3 _ Q q => ⟨rfl, q⟩))) (fun hb => by cases hb) (fun _ H1 e1 => ?_)
    have ho1 := e1 _ _ ho
    have hG1 := hG.mono e1
    have fin : ∀ (f : Addr) (F : GM → List Int), tellS a f (spL (RT a.Game F)) → tellF n = F →
        Ev (tOp (rIxL K) (tLst (tCons (tC (.ref a.now_told)) (tCons (tC (.ref a.stones_told)) (tCons (tC (.ref a.scores_told)) (tCons (tC (.ref a.shot_told)) tNil))))) (tVar 1)) [some (.ref d), some (.int n)] H1 (.ref f) →
        tRet (tCallE (tellS a) (tOp (rIxL K) (tLst (tCons (tC (.ref a.now_told)) (tCons (tC (.ref a.stones_told)) (tCons (tC (.ref a.scores_told)) (tCons (tC (.ref a.shot_told)) tNil))))) (tVar 1)) (tCons (tFld K (tVar 0) "game") tNil)) { nx := fun _ H' => Q .non H', rt := Q } [some (.ref d), some (.int n)] H1 := by
      intro f F hS eF hE
      rw [eF] at k
      refine hE H1 (Ex.refl H1) _ fun H2 e2 => ⟨f, _, rfl, hS, ?_⟩
      have hA : EvA (tCons (tFld K (tVar 0) "game") tNil) [some (.ref d), some (.int n)] H2 [.ref g] := ea_cons (rd_game T (ev_var rfl) (e2 _ _ ho1)) ea_nil
      refine hA H2 (Ex.refl H2) _ fun H3 e3 => ⟨(F m).map V.int, ⟨g, m, r, rfl, hG1.mono (e2.trans e3), hok m rfl, rfl⟩, fun p H4 np e4 h4 => ?_⟩
      exact k.same hD (e1.trans (e2.trans e3)) np e4 h4
    have hI : ∀ (f : Addr) (i : Int), n = i → atI [V.ref a.now_told, V.ref a.stones_told, V.ref a.scores_told, V.ref a.shot_told] i = some (.ref f) → Ev (tOp (rIxL K) (tLst (tCons (tC (.ref a.now_told)) (tCons (tC (.ref a.stones_told)) (tCons (tC (.ref a.scores_told)) (tCons (tC (.ref a.shot_told)) tNil))))) (tVar 1)) [some (.ref d), some (.int n)] H1 (.ref f) := by
      intro f i ei hi
      subst ei
      exact ev_opL1 (el_lst (ea_cons ev_c (ea_cons ev_c (ea_cons ev_c (ea_cons ev_c ea_nil)))) (by show 4 ≤ 100000; decide)) (fun H2 e2 => ev_var rfl) fun p H2 hp e2 => rv_ixL (sq_of hp) hi
    rcases hn with e | e | e | e
    · exact fin a.now_told nowM (.inl ⟨rfl, rfl⟩) (by rw [e]; rfl) (hI _ 0 e rfl)
    · exact fin a.stones_told stonesM (.inr (.inl ⟨rfl, rfl⟩)) (by rw [e]; rfl) (hI _ 1 e rfl)
    · exact fin a.scores_told scoresM (.inr (.inr (.inl ⟨rfl, rfl⟩))) (by rw [e]; rfl) (hI _ 2 e rfl)
    · exact fin a.shot_told shotM (.inr (.inr (.inr ⟨rfl, rfl⟩))) (by rw [e]; rfl) (hI _ 3 e rfl)

/-! ### one call -/
def spAnswered (a : Ad) : Sp := fun vs H Q _ => ∃ d b st own, ∃ k : Call, vs = [.ref d, .int (num k), .ref b] ∧ DeskAt a H d st own ∧ H b = some (.lst ((words k).map V.int)) ∧ okc k ∧ (∀ n ∈ words k, -2147483648 ≤ n ∧ n ≤ 2147483647) ∧ (∀ m, st = some m → okm m) ∧ DPost a d own H (callM st k) Q
theorem DeskAt.ins {a : Ad} {H : Hp} {d : Addr} {st : Option GM} {own : List Addr} (h : DeskAt a H d st own) : ∃ dx v, H d = some (.ins a.Desk dx [("game", v)]) := by
  cases st with
  | none =>
    obtain ⟨dx, ho, _⟩ := h
    exact ⟨dx, _, ho⟩
  | some m =>
    obtain ⟨dx, g, r, ho, _⟩ := h
    exact ⟨dx, _, ho⟩
theorem tst {σ : L2.St} {H : Hp} {i : Nat} {n c : Int} (h : σ[i]? = some (some (.int n))) : EvT (tTest (tOp rEq (tVar i) (tC (.int c)))) σ H (decide (n = c)) := by
  have q := et_test (ev_op (ev_var (H := H) h) (ev_c (v := .int c)) (rv_eq rfl))
  rw [dec_v] at q
  exact q
theorem sc_answered : FnScope ["desk", "call", "words"] ["desk", "call", "words"] (defScope st_answered) := ⟨rfl, rfl, rfl, by decide +kernel, rfl, by decide +kernel, by decide +kernel⟩
theorem ok_answered (T : Tx K mg a) : Ok P w K mg base 8 a.answered ["desk", "call", "words"] (spAnswered a) := by
  refine T.d_answered.ok sc_answered (by rintro vs H Q E ⟨d, b, st, own, k, rfl, _⟩; rfl) (fun cdv A outer s H vs Q E hr h => ?_)
  obtain ⟨d, b, st, own, c, rfl, hD, hb, hc, hbd, hok, k⟩ := h
  refine ⟨_, (pss_cons (ps_if (pt_cmpR op_eq (pv 1) (pe_k rfl T.k_BEGIN) (nomark _)) (pss_one (ps_ret (pe_m (pv 0) T.c_Desk T.m_Desk_begin (ok_Desk_begin T) (hr.mono (by decide)) (pa_cons (pv 2) pa_nil)))) pss_nil)
      (pss_cons (ps_if (pt_cmpR op_eq (pv 1) (pe_k rfl T.k_DELIVER) (nomark _)) (pss_one (ps_ret (pe_m (pv 0) T.c_Desk T.m_Desk_deliver (ok_Desk_deliver T) (hr.mono (by decide)) (pa_cons (pv 2) pa_nil)))) pss_nil)
      (pss_cons (ps_if (pt_cmpR op_eq (pv 1) (pe_k rfl T.k_TIME) (nomark _)) (pss_one (ps_ret (pe_m (pv 0) T.c_Desk T.m_Desk_think (ok_Desk_think T) (hr.mono (by decide)) (pa_cons (pv 2) pa_nil)))) pss_nil)
      (pss_cons (ps_if (pt_cmpR op_eq (pv 1) (pe_k rfl T.k_GIVE) (nomark _)) (pss_one (ps_ret (pe_m (pv 0) T.c_Desk T.m_Desk_give (ok_Desk_give T) (hr.mono (by decide)) (pa_cons (pv 2) pa_nil)))) pss_nil)
      (pss_one (ps_ret (pe_m (pv 0) T.c_Desk T.m_Desk_tell (ok_Desk_tell T) (hr.mono (by decide)) (pa_cons (pe_op op_sub (pv 1) (pe_k rfl T.k_NOW)) pa_nil)))))))), ?_⟩
  refine q_when (tst rfl) (fun h1 H1 e1 => ?_) (fun h1 H1 e1 => ?_)
  · have h1 := of_decide_eq_true h1
    cases c with
    | begin_ e h t =>
      have hD1 := hD.mono e1
      obtain ⟨dx, v, ho⟩ := hD1.ins
      exact s_retm (ev_var rfl) ho (dk_no (by decide +kernel)) (ea_cons (ev_var rfl) ea_nil) fun H2 e2 => ⟨d, b, st, own, e, h, t, rfl, hD1.mono e2, e2 _ _ (e1 _ _ hb), k.ex (e1.trans e2)⟩
    | deliver _ => cases h1
    | time _ _ => cases h1
    | give _ => cases h1
    | now => cases h1
    | stones => cases h1
    | scores => cases h1
    | shot => cases h1
  have n1 := of_decide_eq_false h1
  refine q_when (tst rfl) (fun h2 H2 e2 => ?_) (fun h2 H2 e2 => ?_)
  · have h2 := of_decide_eq_true h2
    cases c with
    | deliver l =>
      have hD2 := hD.mono (e1.trans e2)
      obtain ⟨dx, v, ho⟩ := hD2.ins
      exact s_retm (ev_var rfl) ho (dk_no (by decide +kernel)) (ea_cons (ev_var rfl) ea_nil) fun H3 e3 => ⟨d, b, st, own, l, rfl, hD2.mono e3, e3 _ _ (e2 _ _ (e1 _ _ hb)), hc, hbd, hok, k.ex ((e1.trans e2).trans e3)⟩
    | begin_ _ _ _ => cases h2
    | time _ _ => cases h2
    | give _ => cases h2
    | now => cases h2
    | stones => cases h2
    | scores => cases h2
    | shot => cases h2
  have n2 := of_decide_eq_false h2
  refine q_when (tst rfl) (fun h3 H3 e3 => ?_) (fun h3 H3 e3 => ?_)
  · have h3 := of_decide_eq_true h3
    cases c with
    | time sd t =>
      have e03 := (e1.trans e2).trans e3
      have hD3 := hD.mono e03
      obtain ⟨dx, v, ho⟩ := hD3.ins
      exact s_retm (ev_var rfl) ho (dk_no (by decide +kernel)) (ea_cons (ev_var rfl) ea_nil) fun H4 e4 => ⟨d, b, st, own, sd, t, rfl, hD3.mono e4, e4 _ _ (e03 _ _ hb), k.ex (e03.trans e4)⟩
    | begin_ _ _ _ => cases h3
    | deliver _ => cases h3
    | give _ => cases h3
    | now => cases h3
    | stones => cases h3
    | scores => cases h3
    | shot => cases h3
  have n3 := of_decide_eq_false h3
  have e03 := (e1.trans e2).trans e3
  refine q_when (tst rfl) (fun h4 H4 e4 => ?_) (fun h4 H4 e4 => ?_)
  · have h4 := of_decide_eq_true h4
    cases c with
    | give sd =>
      have e04 := e03.trans e4
      have hD4 := hD.mono e04
      obtain ⟨dx, v, ho⟩ := hD4.ins
      exact s_retm (ev_var rfl) ho (dk_no (by decide +kernel)) (ea_cons (ev_var rfl) ea_nil) fun H5 e5 => ⟨d, b, st, own, sd, rfl, hD4.mono e5, e5 _ _ (e04 _ _ hb), k.ex (e04.trans e5)⟩
    | begin_ _ _ _ => cases h4
    | deliver _ => cases h4
    | time _ _ => cases h4
    | now => cases h4
    | stones => cases h4
    | scores => cases h4
    | shot => cases h4
  have n4 := of_decide_eq_false h4
  have e04 := e03.trans e4
  have hD4 := hD.mono e04
  obtain ⟨dx, v, ho⟩ := hD4.ins
  refine s_retm (ev_var rfl) ho (dk_no (by decide +kernel)) (ea_cons (ev_op (ev_var rfl) ev_c rv_I0) ea_nil) fun H5 e5 => ⟨d, st, own, num c - 5, rfl, hD4.mono e5, ?_, hok, ?_⟩
  · cases c with
    | begin_ _ _ _ => exact absurd rfl n1
    | deliver _ => exact absurd rfl n2
    | time _ _ => exact absurd rfl n3
    | give _ => exact absurd rfl n4
    | now => exact .inl rfl
    | stones => exact .inr (.inl rfl)
    | scores => exact .inr (.inr (.inl rfl))
    | shot => exact .inr (.inr (.inr rfl))
  · refine DPost.ex ?_ (e04.trans e5)
    cases c with
    | begin_ _ _ _ => exact absurd rfl n1
    | deliver _ => exact absurd rfl n2
    | time _ _ => exact absurd rfl n3
    | give _ => exact absurd rfl n4
    | now => exact k
    | stones => exact k
    | scores => exact k
    | shot => exact k

/-! ### where a call's numbers stand -/
/-- the request's list: it is read, never written -/
def Req (K : PySem.W.Frag) (H : Hp) (b : Addr) (xs : List V) : Prop := (∃ o, H b = some (.frz o (.lst xs))) ∨ SqL K (fun _ => none) b xs
theorem Req.sq {H : Hp} {b : Addr} {xs : List V} (h : Req K H b xs) : SqL K H b xs := by
  rcases h with h | ((h | ⟨o, h⟩) | h)
  · exact .inl (.inr h)
  · cases h
  · cases h
  · exact .inr h
theorem Req.keep {H H' : Hp} {b : Addr} {xs : List V} (h : Req K H b xs) (k : ∀ o u, H b = some (.frz o u) → H' b = some (.frz o u)) : Req K H' b xs := by
  rcases h with ⟨o, h⟩ | h
  · exact .inl ⟨o, k _ _ h⟩
  · exact .inr h
def spBounds (K : PySem.W.Frag) : Sp := fun vs H Q _ => ∃ b l pre post, ∃ k : Call, vs = [.ref b, .int (pre.length : Nat)] ∧ Req K H b (l.map V.int) ∧ l = pre ++ flat k ++ post ∧ l.length ≤ 20000 ∧ ∀ p H2, H p = none → Ex H H2 → H2 p = some (.tup [.int ((pre.length + ahead k : Nat) : Int), .int ((pre.length + (flat k).length : Nat) : Int)]) → Q (.ref p) H2
theorem at_head {l pre post : List Int} {k : Call} (e : l = pre ++ flat k ++ post) : atI (l.map V.int) (pre.length : Nat) = some (.int (num k)) := by
  refine atI_nat ?_
  rw [List.getElem?_map, e, List.append_assoc, List.getElem?_append_right (Nat.le_refl _), Nat.sub_self, List.getElem?_append_left (flat_pos k), flat_head]
  rfl
theorem sc_bounds_of : FnScope ["calls", "at"] ["calls", "at"] (defScope st_bounds_of) := ⟨rfl, rfl, rfl, by decide +kernel, rfl, by decide +kernel, by decide +kernel⟩
theorem ok_bounds_of (T : Tx K mg a) : Ok P w K mg base 1 a.bounds_of ["calls", "at"] (spBounds K) := by
  refine T.d_bounds_of.ok sc_bounds_of (by rintro vs H Q E ⟨b, l, pre, post, k, rfl, _⟩; rfl) (fun cdv A outer s H vs Q E hr h => ?_)
  obtain ⟨b, l, pre, post, c, rfl, hb, el, hl, k⟩ := h
  refine ⟨_, (pss_cons (ps_if (pt_cmpR op_eq (pe_ix (ix_listK K) (pv 0) (pv 1) (fun _ _ => rfl)) (pe_k rfl T.k_DELIVER) (nomark _)) (pss_one (ps_ret (pe_tup (pa_cons (pe_op op_add (pv 1) pe_int) (pa_cons (pe_op op_add (pe_op op_add (pv 1) pe_int) (pe_ix (ix_listK K) (pv 0) (pe_op op_add (pv 1) pe_int) (fun _ _ => rfl))) pa_nil))))) pss_nil)
      (pss_one (ps_ret (pe_tup (pa_cons (pe_op op_add (pv 1) pe_int) (pa_cons (pe_op op_add (pe_op op_add (pv 1) pe_int) (pe_ix (ix_tupK K) (pe_glob (v := V.ref a.SIZES) rfl T.g_SIZES rfl) (pe_ix (ix_listK K) (pv 0) (pv 1) (fun _ _ => rfl)) (fun _ _ => rfl))) pa_nil)))))), ?_⟩
  have mono : ∀ {H1 : Hp}, Ex H H1 → SqL K H1 b (l.map V.int) := fun e => ex_l e hb.sq
  have hd : ∀ {H1 : Hp}, Ex H H1 → Ev (tOp (rIxL K) (tVar 0) (tVar 1)) [some (.ref b), some (.int (pre.length : Nat))] H1 (.int (num c)) := fun e => ev_op (ev_var rfl) (ev_var rfl) (rv_ixL (mono e) (at_head el))
  have ht := et_test (ev_op (hd (Ex.refl H)) (ev_c (v := .int 2)) (rv_eq rfl))
  rw [dec_v] at ht
  refine q_when ht (fun h1 H1 e1 => ?_) (fun h1 H1 e1 => ?_)
  · have h1 := of_decide_eq_true h1
    cases c with
    | deliver ws =>
      have e2 : atI (l.map V.int) ((pre.length : Nat) + 1 : Int) = some (.int (ws.length : Nat)) := by
        have e3 : ((pre.length : Nat) + 1 : Int) = ((pre.length + 1 : Nat) : Int) := by omega
        rw [e3]
        refine atI_nat ?_
        rw [List.getElem?_map, el, List.append_assoc, List.getElem?_append_right (Nat.le_succ _)]
        have e4 : pre.length + 1 - pre.length = 1 := by omega
        rw [e4]
        rfl
      have hw : (flat (Call.deliver ws)).length = ws.length + 2 := rfl
      refine s_retU (eu_tup (ea_cons (ev_op (ev_var rfl) ev_c rv_I0) (ea_cons (ev_op (ev_op (ev_var rfl) (ev_c (v := .int 2)) rv_I0) (ev_op (ev_var rfl) (ev_op (ev_var rfl) (ev_c (v := .int 1)) rv_I0) (rv_ixL (mono e1) e2)) rv_I0) ea_nil)) (by show 2 ≤ 100000; decide)) fun p H2 np e3 h2 => k p H2 (fresh_back e1 np) (e1.trans e3) ?_
      rw [h2, hw]
      have e5 : ((pre.length : Nat) : Int) + 2 = ((pre.length + 2 : Nat) : Int) := by omega
      have e6 : ((pre.length : Nat) : Int) + 2 + (ws.length : Nat) = ((pre.length + (ws.length + 2) : Nat) : Int) := by omega
      rw [e6, e5]
      rfl
    | begin_ _ _ _ => cases h1
    | time _ _ => cases h1
    | give _ => cases h1
    | now => cases h1
    | stones => cases h1
    | scores => cases h1
    | shot => cases h1
  · have h1 := of_decide_eq_false h1
    have hs : ∃ z : Int, atI [V.int 0, V.int 3, V.int 0, V.int 2, V.int 1, V.int 0, V.int 0, V.int 0, V.int 0] (num c) = some (.int z) ∧ ahead c = 1 ∧ ((flat c).length : Int) = 1 + z := by
      cases c with
      | deliver ws => exact absurd rfl h1
      | begin_ _ _ _ => exact ⟨3, rfl, rfl, rfl⟩
      | time _ _ => exact ⟨2, rfl, rfl, rfl⟩
      | give _ => exact ⟨1, rfl, rfl, rfl⟩
      | now => exact ⟨0, rfl, rfl, rfl⟩
      | stones => exact ⟨0, rfl, rfl, rfl⟩
      | scores => exact ⟨0, rfl, rfl, rfl⟩
      | shot => exact ⟨0, rfl, rfl, rfl⟩
    obtain ⟨z, hz, ha, hlen⟩ := hs
    refine s_retU (eu_tup (ea_cons (ev_op (ev_var rfl) ev_c rv_I0) (ea_cons (ev_op (ev_op (ev_var rfl) (ev_c (v := .int 1)) rv_I0) (ev_op ev_c (hd e1) (rv_ixT (T.s_SIZES _) hz)) rv_I0) ea_nil)) (by show 2 ≤ 100000; decide)) fun p H2 np e3 h2 => k p H2 (fresh_back e1 np) (e1.trans e3) ?_
    rw [h2, ha]
    have e5 : ((pre.length : Nat) : Int) + 1 = ((pre.length + 1 : Nat) : Int) := by omega
    have e6 : ((pre.length : Nat) : Int) + 1 + z = ((pre.length + (flat c).length : Nat) : Int) := by omega
    rw [e6, e5]
end
end Cm
namespace Cm
open PySem PySem.Spec PyProof.Rows L2 Evl
open Kg65 (Call)
/-! ### the lists of a desk are lists, its objects objects -/
theorem DeskAt.kind {a : Ad} {H : Hp} {d : Addr} {st : Option GM} {own : List Addr} (h : DeskAt a H d st own) {c : Addr} (hc : c ∈ own) : (∃ xs, H c = some (.lst xs)) ∨ ∃ C dx fs, H c = some (.ins C dx fs) := by
  cases st with
  | none =>
    obtain ⟨dx, ho, rfl⟩ := h
    have e : c = d := by simpa using hc
    subst e
    exact .inr ⟨_, _, _, ho⟩
  | some m =>
    obtain ⟨dx, g, r, ho, hG, _, rfl⟩ := h
    rcases List.mem_cons.mp hc with rfl | hc
    · exact .inr ⟨_, _, _, ho⟩
    · rcases List.mem_cons.mp hc with rfl | hc
      · obtain ⟨dz, hz⟩ := hG.obj
        exact .inr ⟨_, _, _, hz⟩
      · exact .inl (hG.ls.lst hc)
theorem DeskAt.but {a : Ad} {H H' : Hp} {d x : Addr} {st : Option GM} {own : List Addr} (h : DeskAt a H d st own) (hx : x ∉ own) (ht : ¬ isTup (H x)) (k : ∀ b o, H b = some o → b ≠ x → H' b = some o) : DeskAt a H' d st own := by
  cases st with
  | none =>
    obtain ⟨dx, ho, rfl⟩ := h
    exact ⟨dx, k _ _ ho (fun z => hx (by rw [← z]; exact List.mem_cons_self)), rfl⟩
  | some m =>
    obtain ⟨dx, g, r, ho, hG, hne, rfl⟩ := h
    obtain ⟨dz, hz⟩ := hG.obj
    refine ⟨dx, g, r, k _ _ ho (fun z => hx (by rw [← z]; exact List.mem_cons_self)), ⟨⟨dz, k _ _ hz fun z => hx (by rw [← z]; exact List.mem_cons_of_mem _ List.mem_cons_self)⟩, ?_⟩, hne, rfl⟩
    exact hG.ls.but (fun z => hx (List.mem_cons_of_mem _ (List.mem_cons_of_mem _ z))) ht k
section
variable {K : PySem.W.Frag} {σ : L2.St} {H : Hp} {te ta : TE} {D : Ends} {l b : Addr} {xs ys : List V} {tz : TS} {v : V}
/-- append, extend: of long lists -/
theorem q_appB (hl : H l = some (.lst xs)) (ha : Ev ta σ H (.ref l)) (h : Ev te σ H v) (hz : xs.length < sizeLine) (k : ∀ H1, Ex H H1 → tz D σ (upd H1 l (.lst (xs ++ [v])))) :
    tSeq (tDrop (tBM K "list" rAppend ta (tCons te tNil))) tz D σ H := ha H (Ex.refl H) _ fun H1 e1 =>
  ⟨Or.inl ⟨rfl, xs, sq_of (e1 l _ hl)⟩, h H1 e1 _ fun H2 e2 => ⟨l, xs, v, rfl, rfl, e2 l _ (e1 l _ hl), hz, k H2 (e1.trans e2)⟩⟩
theorem q_extB (hl : H l = some (.lst xs)) (hb : H b = some (.lst ys)) (ha : Ev ta σ H (.ref l)) (h : Ev te σ H (.ref b)) (hz : xs.length + ys.length ≤ sizeLine) (k : ∀ H1, Ex H H1 → tz D σ (upd H1 l (.lst (xs ++ ys)))) :
    tSeq (tDrop (tBM K "list" rExtend ta (tCons te tNil))) tz D σ H := ha H (Ex.refl H) _ fun H1 e1 =>
  ⟨Or.inl ⟨rfl, xs, sq_of (e1 l _ hl)⟩, h H1 e1 _ fun H2 e2 => ⟨l, b, xs, ys, rfl, rfl, e2 l _ (e1 l _ hl), e2 b _ (e1 b _ hb), hz, k H2 (e1.trans e2)⟩⟩
theorem q_asgG {g : TG} {PV : V → Hp → Prop} (h : ExE te σ H PV) (k : ∀ v H', PV v H' → g v σ H' fun σ2 H2 => tz D σ2 H2) : tSeq (tAsg te g) tz D σ H := h _ k
theorem ex_call3 {tb tc : TE} {v1 v2 : V} {sp : Sp} {E : XK} {PV : V → Hp → Prop} (h1 : Ev ta σ H v1) (h2 : Ev tb σ H v2) (h3 : EvL tc σ H xs) (hs : ∀ p H1, H1 p = some (.lst xs) → Ex H H1 → ∀ (Q : VK) (E : XK), (∀ v H', PV v H' → Q v H') → sp [v1, v2, .ref p] H1 Q E) :
    ExE (tCall sp [] E (tCons ta (tCons tb (tCons tc tNil)))) σ H PV := fun Q q => h1 H (Ex.refl H) _ fun H1 e1 => h2 H1 e1 _ fun H2 e2 => h3 H2 (e1.trans e2) _ fun p H3 _ e3 hp => hs p H3 hp ((e1.trans e2).trans e3) Q E q
end
/-- where the loop stands: done behind it, todo ahead -/
structure Turn (a : Ad) (K : PySem.W.Frag) (ns : List Int) (ks : List Call) (b d f : Addr) (todo : List Call) (σ : L2.St) (H : Hp) : Prop where
  ex : ∃ (don : List Call) (own : List Addr) (x y z : Option V), ks = don ++ todo ∧ σ = [some (.ref b), some (.ref d), some (.ref f), some (.int ((don.flatMap flat).length : Nat)), x, y, z] ∧
    DeskAt a H d ((after none don).map ofG) own ∧ H f = some (.lst ((run none don).map V.int)) ∧ f ∉ own ∧ Req K H b (ns.map V.int) ∧ fine don.length (after none don)
def spAns (K : PySem.W.Frag) : Sp := fun vs H Q _ => ∃ (b : Addr) (ns : List Int), vs = [.ref b] ∧ Req K H b (ns.map V.int) ∧ ns.length ≤ 20000 ∧ (∀ n ∈ ns, -2147483648 ≤ n ∧ n ≤ 2147483647) ∧ PyKg65.answers_asked ns = true ∧
  ∀ H' p, H' p = some (.lst ((PyKg65.answers ns).map V.int)) → Q (.ref p) H'
theorem flat_split {don todo : List Call} {k : Call} : (don ++ k :: todo).flatMap flat = don.flatMap flat ++ flat k ++ todo.flatMap flat := by
  rw [List.flatMap_append, List.flatMap_cons, List.append_assoc]
theorem words_at {ns pre post : List Int} {k : Call} (e : ns = pre ++ flat k ++ post) : cutV (ns.map V.int) (some ((pre.length + ahead k : Nat) : Int)) (some ((pre.length + (flat k).length : Nat) : Int)) = (words k).map V.int := by
  have hl : ns.length = pre.length + (flat k).length + post.length := by
    rw [e, List.length_append, List.length_append]
  have hf := flat_len k
  rw [cut_mid _ _ _ (by rw [List.length_map]; omega) (by omega), ← List.map_drop, ← List.map_take]
  congr 1
  rw [e, List.append_assoc, ← List.drop_drop, List.drop_left, List.drop_append_of_le_length (by omega), flat_words]
  have : pre.length + (flat k).length - (pre.length + ahead k) = (words k).length := by omega
  rw [this, List.take_left]
section
variable {P : Program} {w : World} {K : PySem.W.Frag} {mg : Str → Option Value} {base : Heap} {a : Ad}
theorem sc_answers : FnScope ["calls", "desk", "found", "at", "first", "behind", "told"] ["calls"] (defScope st_answers) := ⟨rfl, rfl, rfl, by decide +kernel, rfl, by decide +kernel, by decide +kernel⟩
theorem fn_answers (T : Tx K mg a) {fd : FuncData} (F : Fun K "answers" "answers" st_answers a.answers fd) : FnOk P w K mg base CX0 9 a.answers fd ["calls"] (spAns K) := by
  refine F.ok sc_answers (by rintro vs H Q E ⟨b, ns, rfl, _⟩; rfl) (fun cdv A outer s H vs Q E hr h => ?_)
  obtain ⟨b, ns, rfl, hb, hl, hbd, hask, k⟩ := h
  obtain ⟨ks, ens, hks, hok, ea, hlen⟩ := asked_of hask
  refine ⟨_, (pss_cons (ps_set (i := 1) sc_answers.nd rfl (by first | exact Or.inl rfl | exact Or.inr rfl) (pe_mk0 T.mk_Desk (ok_Desk_init T) (hr.mono (by decide)) rfl T.g_Desk))
      (pss_cons (ps_set (i := 2) sc_answers.nd rfl (by first | exact Or.inl rfl | exact Or.inr rfl) (pe_lst pa_nil))
      (pss_cons (ps_set (i := 3) sc_answers.nd rfl (by first | exact Or.inl rfl | exact Or.inr rfl) pe_int)
      (pss_cons (ps_while PassesOwn.never (pt_cmpR op_lt (pv 3) (pe_callB (call_lenK K) (by rfl) T.b_len (by decide +kernel) (pa_cons (pv 0) pa_nil)) (nomark _)) (pss_cons (ps_asg (pe_c (ok_bounds_of T) (hr.mono (by decide)) rfl T.g_bounds_of (pa_cons (pv 0) (pa_cons (pv 3) pa_nil))) (pg_tup rfl (pgs_cons (pg_name (i := 4) sc_answers.nd rfl (by first | exact Or.inl rfl | exact Or.inr rfl)) (pgs_cons (pg_name (i := 5) sc_answers.nd rfl (by first | exact Or.inl rfl | exact Or.inr rfl)) pgs_nil))))
      (pss_cons (ps_set (i := 6) sc_answers.nd rfl (by first | exact Or.inl rfl | exact Or.inr rfl) (pe_c (ok_answered T) (hr.mono (by decide)) rfl T.g_answered (pa_cons (pv 1) (pa_cons (pe_ix (ix_listK K) (pv 0) (pv 3) (fun _ _ => rfl)) (pa_cons (pe_slice (sl_listK K) (pv 0) (po_some (pv 4)) (po_some (pv 5))) pa_nil)))))
      (pss_cons (ps_expr (pe_bm PySem.F.plainAttrs_list PySem.F.slot_list_append PySem.F.type_list_append mt_append (pv 2) (pa_cons (pe_callB (call_lenK K) (by rfl) T.b_len (by decide +kernel) (pa_cons (pv 6) pa_nil)) pa_nil)))
      (pss_cons (ps_expr (pe_bm PySem.F.plainAttrs_list PySem.F.slot_list_extend PySem.F.type_list_extend mt_extend (pv 2) (pa_cons (pv 6) pa_nil)))
      (pss_one (ps_set (i := 3) sc_answers.nd rfl (by first | exact Or.inl rfl | exact Or.inr rfl) (pv 5))))))))
      (pss_one (ps_ret (pv 2))))))), ?_⟩
  -- desk = Desk()
  intro d dx nd ndx nex
  refine ⟨d, dx, rfl, upd_same, fun H1 hD1 k1 => ⟨rfl, ?_⟩⟩
  have e01 : Ex H H1 := fun c o hc => k1 c o ((upd_ne (ne_of_none hc nd)).trans ((upd_ne (ne_of_none hc ndx)).trans hc)) (ne_of_none hc nd)
  -- found = []; at = 0
  refine q_asgL (el_lst ea_nil (by show 0 ≤ 100000; decide)) fun f H2 nf e2 hf => ?_
  refine q_asg ev_c fun H3 e3 => ?_
  -- the loop
  refine q_while (fun m σ H' => ∃ todo, m = todo.length ∧ Turn a K ns ks b d f todo σ H') ks.length ⟨ks, rfl, ⟨[], [d], none, none, none, rfl, rfl, (hD1.mono e2).mono e3, e3 _ _ hf, ?_, (hb.keep (fun o u h => e3 _ _ (e2 _ _ (e01 _ _ h)))), fun G e => by cases e⟩⟩ ?_
  · intro z
    have z : f = d := by simpa using z
    subst z
    obtain ⟨dz, hz, _⟩ := hD1
    rw [nf] at hz
    cases hz
  · rintro m σ H' ⟨todo, rfl, ⟨don, own, x, y, z, eks, rfl, hD, hF, hfo, hR, hfi⟩⟩
    have hlen_ns : (ns.map V.int).length = ns.length := List.length_map _
    have ht := et_test (ev_op (ev_var (i := 3) (σ := [some (.ref b), some (.ref d), some (.ref f), some (.int ((don.flatMap flat).length : Nat)), x, y, z]) (H := H') (v := .int ((don.flatMap flat).length : Nat)) rfl) (ev_len (K := K) (ev_var (i := 0) rfl) hR.sq) (rv_I0 (g := fun i j => .bl (decide (i < j)))))
    rw [hlen_ns] at ht
    refine ⟨_, ht, fun hb1 H4 e4 => ?_, fun hb1 H4 e4 => ?_⟩
    · have hb1 := of_decide_eq_true hb1
      -- there is a call
      cases todo with
      | nil =>
        rw [List.append_nil] at eks
        rw [ens, eks] at hb1
        omega
      | cons c todo =>
        have ens' : ns = don.flatMap flat ++ flat c ++ todo.flatMap flat := by rw [ens, eks, flat_split]
        have hcok : okc c := hok c (by rw [eks]; simp)
        refine ⟨fun σ' H' => Turn a K ns ks b d f todo σ' H', fun σ' H' t => ⟨todo.length, Nat.lt_succ_self _, todo, rfl, t⟩, ?_⟩
        have hR4 : Req K H4 b (ns.map V.int) := hR.keep fun o u h => e4 _ _ h
        have hD4 := hD.mono e4
        have hF4 := e4 _ _ hF
        -- first, behind = bounds_of(calls, at)
        refine q_asgG (PV := fun v H' => ∃ p, v = .ref p ∧ Ex H4 H' ∧ H' p = some (.tup [.int (((don.flatMap flat).length + ahead c : Nat) : Int), .int (((don.flatMap flat).length + (flat c).length : Nat) : Int)])) (ex_call (ea_cons (ev_var rfl) (ea_cons (ev_var rfl) ea_nil)) fun H5 e5 Q5 E5 q5 =>
          ⟨b, ns, don.flatMap flat, todo.flatMap flat, c, rfl, hR4.keep fun o u h => e5 _ _ h, ens', hl, fun p H6 np e6 hp => q5 _ _ ⟨p, rfl, e5.trans e6, hp⟩⟩) fun v H6 ⟨p, ev, e6, hp⟩ => ?_
        refine ⟨p, _, ev, st_of hp, rfl, ?_⟩
        refine ⟨_, _, rfl, _, _, rfl, rfl, ?_⟩
        show tSeq _ _ _ [some (.ref b), some (.ref d), some (.ref f), some (.int ((don.flatMap flat).length : Nat)), some (.int (((don.flatMap flat).length + ahead c : Nat) : Int)), some (.int (((don.flatMap flat).length + (flat c).length : Nat) : Int)), z] H6
        have hR6 : Req K H6 b (ns.map V.int) := hR4.keep fun o u h => e6 _ _ h
        have hD6 := hD4.mono e6
        have hF6 := e6 _ _ hF4
        -- told = answered(desk, calls[at], calls[first:behind])
        have hS := el_sl (K := K) (σ := [some (.ref b), some (.ref d), some (.ref f), some (.int ((don.flatMap flat).length : Nat)), some (.int (((don.flatMap flat).length + ahead c : Nat) : Int)), some (.int (((don.flatMap flat).length + (flat c).length : Nat) : Int)), z]) (te := tVar 0) (tl := tPart (tVar 4)) (th := tPart (tVar 5))
          (ev_var rfl) (eo_some (ev_var rfl)) (eo_some (ev_var rfl)) hR6.sq
        rw [words_at ens'] at hS
        have hdn : don.length + 1 ≤ 220 := by
          have h1 : ks.length = don.length + (todo.length + 1) := by rw [eks, List.length_append, List.length_cons]
          omega
        have hwb : ∀ n ∈ words c, -2147483648 ≤ n ∧ n ≤ 2147483647 := fun n hn => hbd n (by
          rw [ens']
          refine List.mem_append_left _ (List.mem_append_right _ ?_)
          rw [← flat_words] at hn
          exact List.mem_of_mem_drop hn)
        refine q_asgE (PV := fun v H' => ∃ H7 own' p, v = .ref p ∧ Ex H6 H7 ∧ DeskAt a H' d ((Kg65.spec (after none don) c).1.map ofG) own' ∧ Kp own H7 H' ∧ Fr H7 own own' ∧ (p ∈ own ∨ H7 p = none) ∧ H' p = some (.lst ((tellOf (Kg65.spec (after none don) c).2).map V.int)))
          (ex_call3 (ev_var rfl) (ev_op (ev_var rfl) (ev_var rfl) (rv_ixL hR6.sq (at_head ens'))) hS fun q H7 hq e7 Q7 E7 q7 => ⟨d, q, _, own, c, rfl, hD6.mono e7, hq, hcok, hwb, fine_ok hfi (by omega), fun H8 own' p hD8 kp8 fr8 hp8 h8 => q7 _ _ ⟨H7, own', p, rfl, e7, ?_⟩⟩) fun v H8 ⟨H7, own', p', ev', e7, hD8, kp8, fr8, hp8, h8⟩ => ?_
        · rw [callM_spec hfi c] at hD8 h8
          exact ⟨hD8, kp8, fr8, hp8, h8⟩
        subst ev'
        show tSeq _ _ _ [some (.ref b), some (.ref d), some (.ref f), some (.int ((don.flatMap flat).length : Nat)), some (.int (((don.flatMap flat).length + ahead c : Nat) : Int)), some (.int (((don.flatMap flat).length + (flat c).length : Nat) : Int)), some (.ref p')] H8
        have hF7 := e7 _ _ hF6
        have hF8 := kp8 _ _ hF7 hfo
        have hfo' : f ∉ own' := fun hm => by
          rcases fr8 f hm with z | z
          · exact hfo z
          · rw [hF7] at z
            cases z
        have hpf : p' ≠ f := fun e => by
          rcases hp8 with z | z
          · exact hfo (by rw [← e]; exact z)
          · rw [e, hF7] at z
            cases z
        have hD7 := hD6.mono e7
        have hR8 : Req K H8 b (ns.map V.int) := (hR6.keep fun o u h => e7 _ _ h).keep fun o u h => kp8 _ _ h fun hm => by
          rcases hD7.kind hm with ⟨xs, e⟩ | ⟨C, dz, fs, e⟩
          · rw [h] at e
            cases e
          · rw [h] at e
            cases e
        -- sizes
        have hrun : run none ks = run none don ++ (((tellOf (Kg65.spec (after none don) c).2).length : Int) :: tellOf (Kg65.spec (after none don) c).2 ++ run (Kg65.spec (after none don) c).1 todo) := by
          rw [eks, run_append]
          rfl
        have hrl : (run none don).length + 1 + (tellOf (Kg65.spec (after none don) c).2).length ≤ 10000000 := by
          rw [hrun, List.length_append, List.length_append, List.length_cons] at hlen
          omega
        have hmx : ∀ n : Nat, n ≤ 10000000 → n < sizeLine := fun n h => by
          rw [sizeLine_eq]
          omega
        -- found.append(len(told)); found.extend(told); at = behind
        refine q_appB hF8 (ev_var rfl) (ev_len (ev_var rfl) (sq_of h8)) (by rw [List.length_map]; exact hmx _ (by omega)) fun H9 e9 => ?_
        have h10 : (upd H9 f (.lst ((run none don).map V.int ++ [.int (((tellOf (Kg65.spec (after none don) c).2).map V.int).length : Nat)]))) p' = some (.lst ((tellOf (Kg65.spec (after none don) c).2).map V.int)) := (upd_ne hpf).trans (e9 _ _ h8)
        have hD10 : DeskAt a (upd H9 f (.lst ((run none don).map V.int ++ [.int (((tellOf (Kg65.spec (after none don) c).2).map V.int).length : Nat)]))) d ((Kg65.spec (after none don) c).1.map ofG) own' := (hD8.mono e9).but hfo' (by rw [e9 _ _ hF8]; exact fun z => z) upd_but
        have hR10 : Req K (upd H9 f (.lst ((run none don).map V.int ++ [.int (((tellOf (Kg65.spec (after none don) c).2).map V.int).length : Nat)]))) b (ns.map V.int) := hR8.keep fun o u h => by
          rw [upd_ne fun z => by
            rw [z, hF8] at h
            cases h]
          exact e9 _ _ h
        refine q_extB upd_same h10 (ev_var rfl) (ev_var rfl) (by
          rw [List.length_append, List.length_map, List.length_map]
          exact Nat.le_of_lt (hmx _ hrl)) fun H11 e11 => ?_
        have hl11 : H11 f = some (.lst ((run none don).map V.int ++ [.int (((tellOf (Kg65.spec (after none don) c).2).map V.int).length : Nat)])) := e11 _ _ upd_same
        refine s_asg (ev_var rfl) fun H12 e12 => ?_
        have eat : (((don ++ [c]).flatMap flat).length : Nat) = (don.flatMap flat).length + (flat c).length := by
          rw [List.flatMap_append, List.flatMap_singleton, List.length_append]
        refine ⟨don ++ [c], own', some (.int (((don.flatMap flat).length + ahead c : Nat) : Int)), some (.int (((don.flatMap flat).length + (flat c).length : Nat) : Int)), some (.ref p'), by rw [eks, List.append_assoc]; rfl, ?_, ?_, ?_, hfo', ?_, ?_⟩
        · rw [eat]
          rfl
        · rw [after_append]
          exact ((hD10.mono e11).but hfo' (by rw [hl11]; exact fun z => z) upd_but).mono e12
        · have hnew : (run none (don ++ [c])).map V.int = (run none don).map V.int ++ [.int (((tellOf (Kg65.spec (after none don) c).2).map V.int).length : Nat)] ++ (tellOf (Kg65.spec (after none don) c).2).map V.int := by
            rw [run_append, List.map_append, List.append_assoc]
            congr 1
            show List.map V.int ((((tellOf (Kg65.spec (after none don) c).2).length : Int) :: tellOf (Kg65.spec (after none don) c).2) ++ []) = _
            rw [List.append_nil, List.map_cons, List.length_map]
            rfl
          rw [hnew]
          exact e12 _ _ upd_same
        · exact (hR10.keep fun o u h => by
            rw [upd_ne fun z => by
              have h' := e11 _ _ h
              rw [z, hl11] at h'
              cases h']
            exact e11 _ _ h).keep fun o u h => e12 _ _ h
        · rw [after_append, List.length_append]
          exact fine_step hfi c hcok
    · have hb1 := of_decide_eq_false hb1
      -- no call is left
      cases todo with
      | nil =>
        rw [List.append_nil] at eks
        refine s_ret (ev_var rfl) fun H5 e5 => k H5 f ?_
        rw [ea, eks]
        exact e5 _ _ (e4 _ _ hF)
      | cons c todo =>
        have ens' : ns = don.flatMap flat ++ flat c ++ todo.flatMap flat := by rw [ens, eks, flat_split]
        have h1 : ns.length = (don.flatMap flat).length + (flat c).length + (todo.flatMap flat).length := by
          rw [ens', List.length_append, List.length_append]
        have h2 := flat_pos c
        omega
end
end Cm
namespace Cm
open PySem PySem.Spec PyProof.Rows L2 Evl
/-! ### what the top has written -/
section
variable {K : PySem.W.Frag}
theorem df_mk {x qual : Str} {st : Stmt} {ps : List Str} {f : Addr} {oc : Value} {od an : Option Addr} {osl : Array (Option Value)} {kV doc pm cdv ct : Value} (l : K.lookup f = some ⟨oc, od, .func (PySem.W.fnOf x qual (defArgs st) (defBody st) (defScope st) .none kV doc pm an cdv ct), osl⟩)
    (c : PySem.W.codeIn K cdv qual = true) (k : PySem.W.keepIn K (.ref f) = true)
    (hb : ∀ (kV doc pm : Value) (an : Option Addr) (cdv ct : Value) (us : List Value), us.length = ps.length → bindArgs (PySem.W.fnOf x qual (defArgs st) (defBody st) (defScope st) .none kV doc pm an cdv ct) ⟨us, []⟩ = pure (ps.zip us)) : Df K x qual st ps f :=
  ⟨_, fun_mk l c k, (fun_mk l c k).binds hb⟩
theorem Df.kp' {x qual : Str} {st : Stmt} {ps : List Str} {f : Addr} (F : Df K x qual st ps f) : PySem.W.keepIn K (.ref f) = true := by
  obtain ⟨fd, F, _⟩ := F.ex
  exact F.kp
def tupInts (o : Obj) : Option (List Int) := match o.data with
  | .seq its _ => its.toList.mapM fun v => match v with
    | .int i _ => some i
    | _ => none
  | _ => none
theorem vals_mapM : ∀ (l : List Value) (ns : List Int), (l.mapM fun v => match v with | .int i _ => some i | _ => (none : Option Int)) = some ns → Vals (ns.map V.int) l
  | [], ns, h => by
    have e : ([] : List Int) = ns := by simpa using h
    subst e
    exact .nil
  | v :: r, ns, h => by
    rw [List.mapM_cons] at h
    cases v with
    | int i t =>
      cases hr : (r.mapM fun v => match v with | .int i _ => some i | _ => (none : Option Int)) with
      | none =>
        rw [hr] at h
        cases h
      | some ms =>
        rw [hr] at h
        have e : i :: ms = ns := Option.some.inj h
        subst e
        exact .cons ⟨t, rfl⟩ (vals_mapM r ms hr)
    | _ => cases h
theorem sqT_of {a : Addr} {ob : Obj} {ns : List Int} (h : K.lookup a = some ob) (hc : ob.cls = .type "tuple") (hd : tupInts ob = some ns) (hn : ns.length ≤ 1000) : ∀ H : Hp, SqT K H a (ns.map V.int) := fun H => by
  unfold tupInts at hd
  cases e : ob.data with
  | seq its n =>
    rw [e] at hd
    have hv := vals_mapM _ _ hd
    refine .inr ⟨ob, its, n, h, hc, e, ?_, hv⟩
    have hl : its.size = ns.length := by
      have := hv.length
      simpa using this.symm
    rw [hl]
    exact Nat.le_trans hn (by rw [sizeLine_eq]; decide)
  | _ => rw [e] at hd; cases hd
end
theorem all_mk {P : Program} {w : World} {K : PySem.W.Frag} {h : Heap} {mg : Str → Option Value} {fa : Addr} (X : K.In h) (G : h.Ns mainGlobals mg) (hfa : mg "answers" = some (.ref fa))
    {x_from_tee x_is_in_play x_is_in_house x_is_guard x_is_on_middle x_lie_clear x_stones_of x_numbers_of x_with_number x_distances_of x_nearer_ones x_points_of x_Game_init x_Game_is_over x_Game_side_of x_Game_stands x_Game_goes_on x_Game_end_over x_Game_last_over x_Game_thinks x_Game_lost x_is_told x_are_unlike x_all_clear x_can_lie x_is_wronged x_breaks_rule x_now_told x_stones_told x_scores_told x_shot_told x_is_side x_Desk_init x_Desk_is_closed x_Desk_begin x_Desk_deliver x_Desk_think x_Desk_give x_Desk_tell x_answered x_bounds_of x_answers x_Game x_Desk x_SIZES : Addr}
    {o1_from_tee o1_is_in_play o1_is_in_house o1_is_guard o1_is_on_middle o1_lie_clear o1_stones_of o1_numbers_of o1_with_number o1_distances_of o1_nearer_ones o1_points_of o1_Game_init o1_Game_is_over o1_Game_side_of o1_Game_stands o1_Game_goes_on o1_Game_end_over o1_Game_last_over o1_Game_thinks o1_Game_lost o1_is_told o1_are_unlike o1_all_clear o1_can_lie o1_is_wronged o1_breaks_rule o1_now_told o1_stones_told o1_scores_told o1_shot_told o1_is_side o1_Desk_init o1_Desk_is_closed o1_Desk_begin o1_Desk_deliver o1_Desk_think o1_Desk_give o1_Desk_tell o1_answered o1_bounds_of o1_answers : Option Addr}
    {o2_from_tee o2_is_in_play o2_is_in_house o2_is_guard o2_is_on_middle o2_lie_clear o2_stones_of o2_numbers_of o2_with_number o2_distances_of o2_nearer_ones o2_points_of o2_Game_init o2_Game_is_over o2_Game_side_of o2_Game_stands o2_Game_goes_on o2_Game_end_over o2_Game_last_over o2_Game_thinks o2_Game_lost o2_is_told o2_are_unlike o2_all_clear o2_can_lie o2_is_wronged o2_breaks_rule o2_now_told o2_stones_told o2_scores_told o2_shot_told o2_is_side o2_Desk_init o2_Desk_is_closed o2_Desk_begin o2_Desk_deliver o2_Desk_think o2_Desk_give o2_Desk_tell o2_answered o2_bounds_of o2_answers : Option Addr}
    {sl_from_tee sl_is_in_play sl_is_in_house sl_is_guard sl_is_on_middle sl_lie_clear sl_stones_of sl_numbers_of sl_with_number sl_distances_of sl_nearer_ones sl_points_of sl_Game_init sl_Game_is_over sl_Game_side_of sl_Game_stands sl_Game_goes_on sl_Game_end_over sl_Game_last_over sl_Game_thinks sl_Game_lost sl_is_told sl_are_unlike sl_all_clear sl_can_lie sl_is_wronged sl_breaks_rule sl_now_told sl_stones_told sl_scores_told sl_shot_told sl_is_side sl_Desk_init sl_Desk_is_closed sl_Desk_begin sl_Desk_deliver sl_Desk_think sl_Desk_give sl_Desk_tell sl_answered sl_bounds_of sl_answers : Array (Option Value)}
    {v1_from_tee v1_is_in_play v1_is_in_house v1_is_guard v1_is_on_middle v1_lie_clear v1_stones_of v1_numbers_of v1_with_number v1_distances_of v1_nearer_ones v1_points_of v1_Game_init v1_Game_is_over v1_Game_side_of v1_Game_stands v1_Game_goes_on v1_Game_end_over v1_Game_last_over v1_Game_thinks v1_Game_lost v1_is_told v1_are_unlike v1_all_clear v1_can_lie v1_is_wronged v1_breaks_rule v1_now_told v1_stones_told v1_scores_told v1_shot_told v1_is_side v1_Desk_init v1_Desk_is_closed v1_Desk_begin v1_Desk_deliver v1_Desk_think v1_Desk_give v1_Desk_tell v1_answered v1_bounds_of v1_answers : Value}
    {v2_from_tee v2_is_in_play v2_is_in_house v2_is_guard v2_is_on_middle v2_lie_clear v2_stones_of v2_numbers_of v2_with_number v2_distances_of v2_nearer_ones v2_points_of v2_Game_init v2_Game_is_over v2_Game_side_of v2_Game_stands v2_Game_goes_on v2_Game_end_over v2_Game_last_over v2_Game_thinks v2_Game_lost v2_is_told v2_are_unlike v2_all_clear v2_can_lie v2_is_wronged v2_breaks_rule v2_now_told v2_stones_told v2_scores_told v2_shot_told v2_is_side v2_Desk_init v2_Desk_is_closed v2_Desk_begin v2_Desk_deliver v2_Desk_think v2_Desk_give v2_Desk_tell v2_answered v2_bounds_of v2_answers : Value}
    {v3_from_tee v3_is_in_play v3_is_in_house v3_is_guard v3_is_on_middle v3_lie_clear v3_stones_of v3_numbers_of v3_with_number v3_distances_of v3_nearer_ones v3_points_of v3_Game_init v3_Game_is_over v3_Game_side_of v3_Game_stands v3_Game_goes_on v3_Game_end_over v3_Game_last_over v3_Game_thinks v3_Game_lost v3_is_told v3_are_unlike v3_all_clear v3_can_lie v3_is_wronged v3_breaks_rule v3_now_told v3_stones_told v3_scores_told v3_shot_told v3_is_side v3_Desk_init v3_Desk_is_closed v3_Desk_begin v3_Desk_deliver v3_Desk_think v3_Desk_give v3_Desk_tell v3_answered v3_bounds_of v3_answers : Value}
    {v4_from_tee v4_is_in_play v4_is_in_house v4_is_guard v4_is_on_middle v4_lie_clear v4_stones_of v4_numbers_of v4_with_number v4_distances_of v4_nearer_ones v4_points_of v4_Game_init v4_Game_is_over v4_Game_side_of v4_Game_stands v4_Game_goes_on v4_Game_end_over v4_Game_last_over v4_Game_thinks v4_Game_lost v4_is_told v4_are_unlike v4_all_clear v4_can_lie v4_is_wronged v4_breaks_rule v4_now_told v4_stones_told v4_scores_told v4_shot_told v4_is_side v4_Desk_init v4_Desk_is_closed v4_Desk_begin v4_Desk_deliver v4_Desk_think v4_Desk_give v4_Desk_tell v4_answered v4_bounds_of v4_answers : Value}
    {v5_from_tee v5_is_in_play v5_is_in_house v5_is_guard v5_is_on_middle v5_lie_clear v5_stones_of v5_numbers_of v5_with_number v5_distances_of v5_nearer_ones v5_points_of v5_Game_init v5_Game_is_over v5_Game_side_of v5_Game_stands v5_Game_goes_on v5_Game_end_over v5_Game_last_over v5_Game_thinks v5_Game_lost v5_is_told v5_are_unlike v5_all_clear v5_can_lie v5_is_wronged v5_breaks_rule v5_now_told v5_stones_told v5_scores_told v5_shot_told v5_is_side v5_Desk_init v5_Desk_is_closed v5_Desk_begin v5_Desk_deliver v5_Desk_think v5_Desk_give v5_Desk_tell v5_answered v5_bounds_of v5_answers : Value}
    {v6_from_tee v6_is_in_play v6_is_in_house v6_is_guard v6_is_on_middle v6_lie_clear v6_stones_of v6_numbers_of v6_with_number v6_distances_of v6_nearer_ones v6_points_of v6_Game_init v6_Game_is_over v6_Game_side_of v6_Game_stands v6_Game_goes_on v6_Game_end_over v6_Game_last_over v6_Game_thinks v6_Game_lost v6_is_told v6_are_unlike v6_all_clear v6_can_lie v6_is_wronged v6_breaks_rule v6_now_told v6_stones_told v6_scores_told v6_shot_told v6_is_side v6_Desk_init v6_Desk_is_closed v6_Desk_begin v6_Desk_deliver v6_Desk_think v6_Desk_give v6_Desk_tell v6_answered v6_bounds_of v6_answers : Value}
    {t_BEYOND t_NO_MATCH t_NOT_SO t_NOBODY t_MOST_ENDS t_MOST_TIME t_MORE_TIME t_STONES t_FREE_STONES t_MOST_PLACE t_SIDE_LINE t_BACK_LINE t_HOG_LINE t_HOUSE t_MIDDLE_LINE t_CLEAR t_BEGIN t_DELIVER t_TIME t_GIVE t_NOW : Tok}
    {ob_SIZES : Obj}
    (aC_Game : PySem.W.nsIn K mainGlobals "Game" = some (some (.ref x_Game)))
    (aC_Desk : PySem.W.nsIn K mainGlobals "Desk" = some (some (.ref x_Desk)))
    (a_from_tee : PySem.W.nsIn K mainGlobals "from_tee" = some (some (.ref x_from_tee)))
    (l_from_tee : K.lookup x_from_tee = some ⟨v1_from_tee, o1_from_tee, .func (PySem.W.fnOf "from_tee" "from_tee" (defArgs st_from_tee) (defBody st_from_tee) (defScope st_from_tee) .none v2_from_tee v3_from_tee v4_from_tee o2_from_tee v5_from_tee v6_from_tee), sl_from_tee⟩)
    (c_from_tee : PySem.W.codeIn K v5_from_tee "from_tee" = true)
    (k_from_tee : PySem.W.keepIn K (.ref x_from_tee) = true)
    (a_is_in_play : PySem.W.nsIn K mainGlobals "is_in_play" = some (some (.ref x_is_in_play)))
    (l_is_in_play : K.lookup x_is_in_play = some ⟨v1_is_in_play, o1_is_in_play, .func (PySem.W.fnOf "is_in_play" "is_in_play" (defArgs st_is_in_play) (defBody st_is_in_play) (defScope st_is_in_play) .none v2_is_in_play v3_is_in_play v4_is_in_play o2_is_in_play v5_is_in_play v6_is_in_play), sl_is_in_play⟩)
    (c_is_in_play : PySem.W.codeIn K v5_is_in_play "is_in_play" = true)
    (k_is_in_play : PySem.W.keepIn K (.ref x_is_in_play) = true)
    (a_is_in_house : PySem.W.nsIn K mainGlobals "is_in_house" = some (some (.ref x_is_in_house)))
    (l_is_in_house : K.lookup x_is_in_house = some ⟨v1_is_in_house, o1_is_in_house, .func (PySem.W.fnOf "is_in_house" "is_in_house" (defArgs st_is_in_house) (defBody st_is_in_house) (defScope st_is_in_house) .none v2_is_in_house v3_is_in_house v4_is_in_house o2_is_in_house v5_is_in_house v6_is_in_house), sl_is_in_house⟩)
    (c_is_in_house : PySem.W.codeIn K v5_is_in_house "is_in_house" = true)
    (k_is_in_house : PySem.W.keepIn K (.ref x_is_in_house) = true)
    (a_is_guard : PySem.W.nsIn K mainGlobals "is_guard" = some (some (.ref x_is_guard)))
    (l_is_guard : K.lookup x_is_guard = some ⟨v1_is_guard, o1_is_guard, .func (PySem.W.fnOf "is_guard" "is_guard" (defArgs st_is_guard) (defBody st_is_guard) (defScope st_is_guard) .none v2_is_guard v3_is_guard v4_is_guard o2_is_guard v5_is_guard v6_is_guard), sl_is_guard⟩)
    (c_is_guard : PySem.W.codeIn K v5_is_guard "is_guard" = true)
    (k_is_guard : PySem.W.keepIn K (.ref x_is_guard) = true)
    (a_is_on_middle : PySem.W.nsIn K mainGlobals "is_on_middle" = some (some (.ref x_is_on_middle)))
    (l_is_on_middle : K.lookup x_is_on_middle = some ⟨v1_is_on_middle, o1_is_on_middle, .func (PySem.W.fnOf "is_on_middle" "is_on_middle" (defArgs st_is_on_middle) (defBody st_is_on_middle) (defScope st_is_on_middle) .none v2_is_on_middle v3_is_on_middle v4_is_on_middle o2_is_on_middle v5_is_on_middle v6_is_on_middle), sl_is_on_middle⟩)
    (c_is_on_middle : PySem.W.codeIn K v5_is_on_middle "is_on_middle" = true)
    (k_is_on_middle : PySem.W.keepIn K (.ref x_is_on_middle) = true)
    (a_lie_clear : PySem.W.nsIn K mainGlobals "lie_clear" = some (some (.ref x_lie_clear)))
    (l_lie_clear : K.lookup x_lie_clear = some ⟨v1_lie_clear, o1_lie_clear, .func (PySem.W.fnOf "lie_clear" "lie_clear" (defArgs st_lie_clear) (defBody st_lie_clear) (defScope st_lie_clear) .none v2_lie_clear v3_lie_clear v4_lie_clear o2_lie_clear v5_lie_clear v6_lie_clear), sl_lie_clear⟩)
    (c_lie_clear : PySem.W.codeIn K v5_lie_clear "lie_clear" = true)
    (k_lie_clear : PySem.W.keepIn K (.ref x_lie_clear) = true)
    (a_stones_of : PySem.W.nsIn K mainGlobals "stones_of" = some (some (.ref x_stones_of)))
    (l_stones_of : K.lookup x_stones_of = some ⟨v1_stones_of, o1_stones_of, .func (PySem.W.fnOf "stones_of" "stones_of" (defArgs st_stones_of) (defBody st_stones_of) (defScope st_stones_of) .none v2_stones_of v3_stones_of v4_stones_of o2_stones_of v5_stones_of v6_stones_of), sl_stones_of⟩)
    (c_stones_of : PySem.W.codeIn K v5_stones_of "stones_of" = true)
    (k_stones_of : PySem.W.keepIn K (.ref x_stones_of) = true)
    (a_numbers_of : PySem.W.nsIn K mainGlobals "numbers_of" = some (some (.ref x_numbers_of)))
    (l_numbers_of : K.lookup x_numbers_of = some ⟨v1_numbers_of, o1_numbers_of, .func (PySem.W.fnOf "numbers_of" "numbers_of" (defArgs st_numbers_of) (defBody st_numbers_of) (defScope st_numbers_of) .none v2_numbers_of v3_numbers_of v4_numbers_of o2_numbers_of v5_numbers_of v6_numbers_of), sl_numbers_of⟩)
    (c_numbers_of : PySem.W.codeIn K v5_numbers_of "numbers_of" = true)
    (k_numbers_of : PySem.W.keepIn K (.ref x_numbers_of) = true)
    (a_with_number : PySem.W.nsIn K mainGlobals "with_number" = some (some (.ref x_with_number)))
    (l_with_number : K.lookup x_with_number = some ⟨v1_with_number, o1_with_number, .func (PySem.W.fnOf "with_number" "with_number" (defArgs st_with_number) (defBody st_with_number) (defScope st_with_number) .none v2_with_number v3_with_number v4_with_number o2_with_number v5_with_number v6_with_number), sl_with_number⟩)
    (c_with_number : PySem.W.codeIn K v5_with_number "with_number" = true)
    (k_with_number : PySem.W.keepIn K (.ref x_with_number) = true)
    (a_distances_of : PySem.W.nsIn K mainGlobals "distances_of" = some (some (.ref x_distances_of)))
    (l_distances_of : K.lookup x_distances_of = some ⟨v1_distances_of, o1_distances_of, .func (PySem.W.fnOf "distances_of" "distances_of" (defArgs st_distances_of) (defBody st_distances_of) (defScope st_distances_of) .none v2_distances_of v3_distances_of v4_distances_of o2_distances_of v5_distances_of v6_distances_of), sl_distances_of⟩)
    (c_distances_of : PySem.W.codeIn K v5_distances_of "distances_of" = true)
    (k_distances_of : PySem.W.keepIn K (.ref x_distances_of) = true)
    (a_nearer_ones : PySem.W.nsIn K mainGlobals "nearer_ones" = some (some (.ref x_nearer_ones)))
    (l_nearer_ones : K.lookup x_nearer_ones = some ⟨v1_nearer_ones, o1_nearer_ones, .func (PySem.W.fnOf "nearer_ones" "nearer_ones" (defArgs st_nearer_ones) (defBody st_nearer_ones) (defScope st_nearer_ones) .none v2_nearer_ones v3_nearer_ones v4_nearer_ones o2_nearer_ones v5_nearer_ones v6_nearer_ones), sl_nearer_ones⟩)
    (c_nearer_ones : PySem.W.codeIn K v5_nearer_ones "nearer_ones" = true)
    (k_nearer_ones : PySem.W.keepIn K (.ref x_nearer_ones) = true)
    (a_points_of : PySem.W.nsIn K mainGlobals "points_of" = some (some (.ref x_points_of)))
    (l_points_of : K.lookup x_points_of = some ⟨v1_points_of, o1_points_of, .func (PySem.W.fnOf "points_of" "points_of" (defArgs st_points_of) (defBody st_points_of) (defScope st_points_of) .none v2_points_of v3_points_of v4_points_of o2_points_of v5_points_of v6_points_of), sl_points_of⟩)
    (c_points_of : PySem.W.codeIn K v5_points_of "points_of" = true)
    (k_points_of : PySem.W.keepIn K (.ref x_points_of) = true)
    (a_Game_init : PySem.W.findIn K (.ref x_Game) "__init__" = some (some (.ref x_Game_init)))
    (i_Game_init : PySem.W.isFn K (.ref x_Game_init) = true)
    (l_Game_init : K.lookup x_Game_init = some ⟨v1_Game_init, o1_Game_init, .func (PySem.W.fnOf "__init__" "Game.__init__" (defArgs st_Game_init) (defBody st_Game_init) (defScope st_Game_init) .none v2_Game_init v3_Game_init v4_Game_init o2_Game_init v5_Game_init v6_Game_init), sl_Game_init⟩)
    (c_Game_init : PySem.W.codeIn K v5_Game_init "Game.__init__" = true)
    (k_Game_init : PySem.W.keepIn K (.ref x_Game_init) = true)
    (a_Game_is_over : PySem.W.findIn K (.ref x_Game) "is_over" = some (some (.ref x_Game_is_over)))
    (i_Game_is_over : PySem.W.isFn K (.ref x_Game_is_over) = true)
    (l_Game_is_over : K.lookup x_Game_is_over = some ⟨v1_Game_is_over, o1_Game_is_over, .func (PySem.W.fnOf "is_over" "Game.is_over" (defArgs st_Game_is_over) (defBody st_Game_is_over) (defScope st_Game_is_over) .none v2_Game_is_over v3_Game_is_over v4_Game_is_over o2_Game_is_over v5_Game_is_over v6_Game_is_over), sl_Game_is_over⟩)
    (c_Game_is_over : PySem.W.codeIn K v5_Game_is_over "Game.is_over" = true)
    (k_Game_is_over : PySem.W.keepIn K (.ref x_Game_is_over) = true)
    (a_Game_side_of : PySem.W.findIn K (.ref x_Game) "side_of" = some (some (.ref x_Game_side_of)))
    (i_Game_side_of : PySem.W.isFn K (.ref x_Game_side_of) = true)
    (l_Game_side_of : K.lookup x_Game_side_of = some ⟨v1_Game_side_of, o1_Game_side_of, .func (PySem.W.fnOf "side_of" "Game.side_of" (defArgs st_Game_side_of) (defBody st_Game_side_of) (defScope st_Game_side_of) .none v2_Game_side_of v3_Game_side_of v4_Game_side_of o2_Game_side_of v5_Game_side_of v6_Game_side_of), sl_Game_side_of⟩)
    (c_Game_side_of : PySem.W.codeIn K v5_Game_side_of "Game.side_of" = true)
    (k_Game_side_of : PySem.W.keepIn K (.ref x_Game_side_of) = true)
    (a_Game_stands : PySem.W.findIn K (.ref x_Game) "stands" = some (some (.ref x_Game_stands)))
    (i_Game_stands : PySem.W.isFn K (.ref x_Game_stands) = true)
    (l_Game_stands : K.lookup x_Game_stands = some ⟨v1_Game_stands, o1_Game_stands, .func (PySem.W.fnOf "stands" "Game.stands" (defArgs st_Game_stands) (defBody st_Game_stands) (defScope st_Game_stands) .none v2_Game_stands v3_Game_stands v4_Game_stands o2_Game_stands v5_Game_stands v6_Game_stands), sl_Game_stands⟩)
    (c_Game_stands : PySem.W.codeIn K v5_Game_stands "Game.stands" = true)
    (k_Game_stands : PySem.W.keepIn K (.ref x_Game_stands) = true)
    (a_Game_goes_on : PySem.W.findIn K (.ref x_Game) "goes_on" = some (some (.ref x_Game_goes_on)))
    (i_Game_goes_on : PySem.W.isFn K (.ref x_Game_goes_on) = true)
    (l_Game_goes_on : K.lookup x_Game_goes_on = some ⟨v1_Game_goes_on, o1_Game_goes_on, .func (PySem.W.fnOf "goes_on" "Game.goes_on" (defArgs st_Game_goes_on) (defBody st_Game_goes_on) (defScope st_Game_goes_on) .none v2_Game_goes_on v3_Game_goes_on v4_Game_goes_on o2_Game_goes_on v5_Game_goes_on v6_Game_goes_on), sl_Game_goes_on⟩)
    (c_Game_goes_on : PySem.W.codeIn K v5_Game_goes_on "Game.goes_on" = true)
    (k_Game_goes_on : PySem.W.keepIn K (.ref x_Game_goes_on) = true)
    (a_Game_end_over : PySem.W.findIn K (.ref x_Game) "end_over" = some (some (.ref x_Game_end_over)))
    (i_Game_end_over : PySem.W.isFn K (.ref x_Game_end_over) = true)
    (l_Game_end_over : K.lookup x_Game_end_over = some ⟨v1_Game_end_over, o1_Game_end_over, .func (PySem.W.fnOf "end_over" "Game.end_over" (defArgs st_Game_end_over) (defBody st_Game_end_over) (defScope st_Game_end_over) .none v2_Game_end_over v3_Game_end_over v4_Game_end_over o2_Game_end_over v5_Game_end_over v6_Game_end_over), sl_Game_end_over⟩)
    (c_Game_end_over : PySem.W.codeIn K v5_Game_end_over "Game.end_over" = true)
    (k_Game_end_over : PySem.W.keepIn K (.ref x_Game_end_over) = true)
    (a_Game_last_over : PySem.W.findIn K (.ref x_Game) "last_over" = some (some (.ref x_Game_last_over)))
    (i_Game_last_over : PySem.W.isFn K (.ref x_Game_last_over) = true)
    (l_Game_last_over : K.lookup x_Game_last_over = some ⟨v1_Game_last_over, o1_Game_last_over, .func (PySem.W.fnOf "last_over" "Game.last_over" (defArgs st_Game_last_over) (defBody st_Game_last_over) (defScope st_Game_last_over) .none v2_Game_last_over v3_Game_last_over v4_Game_last_over o2_Game_last_over v5_Game_last_over v6_Game_last_over), sl_Game_last_over⟩)
    (c_Game_last_over : PySem.W.codeIn K v5_Game_last_over "Game.last_over" = true)
    (k_Game_last_over : PySem.W.keepIn K (.ref x_Game_last_over) = true)
    (a_Game_thinks : PySem.W.findIn K (.ref x_Game) "thinks" = some (some (.ref x_Game_thinks)))
    (i_Game_thinks : PySem.W.isFn K (.ref x_Game_thinks) = true)
    (l_Game_thinks : K.lookup x_Game_thinks = some ⟨v1_Game_thinks, o1_Game_thinks, .func (PySem.W.fnOf "thinks" "Game.thinks" (defArgs st_Game_thinks) (defBody st_Game_thinks) (defScope st_Game_thinks) .none v2_Game_thinks v3_Game_thinks v4_Game_thinks o2_Game_thinks v5_Game_thinks v6_Game_thinks), sl_Game_thinks⟩)
    (c_Game_thinks : PySem.W.codeIn K v5_Game_thinks "Game.thinks" = true)
    (k_Game_thinks : PySem.W.keepIn K (.ref x_Game_thinks) = true)
    (a_Game_lost : PySem.W.findIn K (.ref x_Game) "lost" = some (some (.ref x_Game_lost)))
    (i_Game_lost : PySem.W.isFn K (.ref x_Game_lost) = true)
    (l_Game_lost : K.lookup x_Game_lost = some ⟨v1_Game_lost, o1_Game_lost, .func (PySem.W.fnOf "lost" "Game.lost" (defArgs st_Game_lost) (defBody st_Game_lost) (defScope st_Game_lost) .none v2_Game_lost v3_Game_lost v4_Game_lost o2_Game_lost v5_Game_lost v6_Game_lost), sl_Game_lost⟩)
    (c_Game_lost : PySem.W.codeIn K v5_Game_lost "Game.lost" = true)
    (k_Game_lost : PySem.W.keepIn K (.ref x_Game_lost) = true)
    (a_is_told : PySem.W.nsIn K mainGlobals "is_told" = some (some (.ref x_is_told)))
    (l_is_told : K.lookup x_is_told = some ⟨v1_is_told, o1_is_told, .func (PySem.W.fnOf "is_told" "is_told" (defArgs st_is_told) (defBody st_is_told) (defScope st_is_told) .none v2_is_told v3_is_told v4_is_told o2_is_told v5_is_told v6_is_told), sl_is_told⟩)
    (c_is_told : PySem.W.codeIn K v5_is_told "is_told" = true)
    (k_is_told : PySem.W.keepIn K (.ref x_is_told) = true)
    (a_are_unlike : PySem.W.nsIn K mainGlobals "are_unlike" = some (some (.ref x_are_unlike)))
    (l_are_unlike : K.lookup x_are_unlike = some ⟨v1_are_unlike, o1_are_unlike, .func (PySem.W.fnOf "are_unlike" "are_unlike" (defArgs st_are_unlike) (defBody st_are_unlike) (defScope st_are_unlike) .none v2_are_unlike v3_are_unlike v4_are_unlike o2_are_unlike v5_are_unlike v6_are_unlike), sl_are_unlike⟩)
    (c_are_unlike : PySem.W.codeIn K v5_are_unlike "are_unlike" = true)
    (k_are_unlike : PySem.W.keepIn K (.ref x_are_unlike) = true)
    (a_all_clear : PySem.W.nsIn K mainGlobals "all_clear" = some (some (.ref x_all_clear)))
    (l_all_clear : K.lookup x_all_clear = some ⟨v1_all_clear, o1_all_clear, .func (PySem.W.fnOf "all_clear" "all_clear" (defArgs st_all_clear) (defBody st_all_clear) (defScope st_all_clear) .none v2_all_clear v3_all_clear v4_all_clear o2_all_clear v5_all_clear v6_all_clear), sl_all_clear⟩)
    (c_all_clear : PySem.W.codeIn K v5_all_clear "all_clear" = true)
    (k_all_clear : PySem.W.keepIn K (.ref x_all_clear) = true)
    (a_can_lie : PySem.W.nsIn K mainGlobals "can_lie" = some (some (.ref x_can_lie)))
    (l_can_lie : K.lookup x_can_lie = some ⟨v1_can_lie, o1_can_lie, .func (PySem.W.fnOf "can_lie" "can_lie" (defArgs st_can_lie) (defBody st_can_lie) (defScope st_can_lie) .none v2_can_lie v3_can_lie v4_can_lie o2_can_lie v5_can_lie v6_can_lie), sl_can_lie⟩)
    (c_can_lie : PySem.W.codeIn K v5_can_lie "can_lie" = true)
    (k_can_lie : PySem.W.keepIn K (.ref x_can_lie) = true)
    (a_is_wronged : PySem.W.nsIn K mainGlobals "is_wronged" = some (some (.ref x_is_wronged)))
    (l_is_wronged : K.lookup x_is_wronged = some ⟨v1_is_wronged, o1_is_wronged, .func (PySem.W.fnOf "is_wronged" "is_wronged" (defArgs st_is_wronged) (defBody st_is_wronged) (defScope st_is_wronged) .none v2_is_wronged v3_is_wronged v4_is_wronged o2_is_wronged v5_is_wronged v6_is_wronged), sl_is_wronged⟩)
    (c_is_wronged : PySem.W.codeIn K v5_is_wronged "is_wronged" = true)
    (k_is_wronged : PySem.W.keepIn K (.ref x_is_wronged) = true)
    (a_breaks_rule : PySem.W.nsIn K mainGlobals "breaks_rule" = some (some (.ref x_breaks_rule)))
    (l_breaks_rule : K.lookup x_breaks_rule = some ⟨v1_breaks_rule, o1_breaks_rule, .func (PySem.W.fnOf "breaks_rule" "breaks_rule" (defArgs st_breaks_rule) (defBody st_breaks_rule) (defScope st_breaks_rule) .none v2_breaks_rule v3_breaks_rule v4_breaks_rule o2_breaks_rule v5_breaks_rule v6_breaks_rule), sl_breaks_rule⟩)
    (c_breaks_rule : PySem.W.codeIn K v5_breaks_rule "breaks_rule" = true)
    (k_breaks_rule : PySem.W.keepIn K (.ref x_breaks_rule) = true)
    (a_now_told : PySem.W.nsIn K mainGlobals "now_told" = some (some (.ref x_now_told)))
    (l_now_told : K.lookup x_now_told = some ⟨v1_now_told, o1_now_told, .func (PySem.W.fnOf "now_told" "now_told" (defArgs st_now_told) (defBody st_now_told) (defScope st_now_told) .none v2_now_told v3_now_told v4_now_told o2_now_told v5_now_told v6_now_told), sl_now_told⟩)
    (c_now_told : PySem.W.codeIn K v5_now_told "now_told" = true)
    (k_now_told : PySem.W.keepIn K (.ref x_now_told) = true)
    (a_stones_told : PySem.W.nsIn K mainGlobals "stones_told" = some (some (.ref x_stones_told)))
    (l_stones_told : K.lookup x_stones_told = some ⟨v1_stones_told, o1_stones_told, .func (PySem.W.fnOf "stones_told" "stones_told" (defArgs st_stones_told) (defBody st_stones_told) (defScope st_stones_told) .none v2_stones_told v3_stones_told v4_stones_told o2_stones_told v5_stones_told v6_stones_told), sl_stones_told⟩)
    (c_stones_told : PySem.W.codeIn K v5_stones_told "stones_told" = true)
    (k_stones_told : PySem.W.keepIn K (.ref x_stones_told) = true)
    (a_scores_told : PySem.W.nsIn K mainGlobals "scores_told" = some (some (.ref x_scores_told)))
    (l_scores_told : K.lookup x_scores_told = some ⟨v1_scores_told, o1_scores_told, .func (PySem.W.fnOf "scores_told" "scores_told" (defArgs st_scores_told) (defBody st_scores_told) (defScope st_scores_told) .none v2_scores_told v3_scores_told v4_scores_told o2_scores_told v5_scores_told v6_scores_told), sl_scores_told⟩)
    (c_scores_told : PySem.W.codeIn K v5_scores_told "scores_told" = true)
    (k_scores_told : PySem.W.keepIn K (.ref x_scores_told) = true)
    (a_shot_told : PySem.W.nsIn K mainGlobals "shot_told" = some (some (.ref x_shot_told)))
    (l_shot_told : K.lookup x_shot_told = some ⟨v1_shot_told, o1_shot_told, .func (PySem.W.fnOf "shot_told" "shot_told" (defArgs st_shot_told) (defBody st_shot_told) (defScope st_shot_told) .none v2_shot_told v3_shot_told v4_shot_told o2_shot_told v5_shot_told v6_shot_told), sl_shot_told⟩)
    (c_shot_told : PySem.W.codeIn K v5_shot_told "shot_told" = true)
    (k_shot_told : PySem.W.keepIn K (.ref x_shot_told) = true)
    (a_is_side : PySem.W.nsIn K mainGlobals "is_side" = some (some (.ref x_is_side)))
    (l_is_side : K.lookup x_is_side = some ⟨v1_is_side, o1_is_side, .func (PySem.W.fnOf "is_side" "is_side" (defArgs st_is_side) (defBody st_is_side) (defScope st_is_side) .none v2_is_side v3_is_side v4_is_side o2_is_side v5_is_side v6_is_side), sl_is_side⟩)
    (c_is_side : PySem.W.codeIn K v5_is_side "is_side" = true)
    (k_is_side : PySem.W.keepIn K (.ref x_is_side) = true)
    (a_Desk_init : PySem.W.findIn K (.ref x_Desk) "__init__" = some (some (.ref x_Desk_init)))
    (i_Desk_init : PySem.W.isFn K (.ref x_Desk_init) = true)
    (l_Desk_init : K.lookup x_Desk_init = some ⟨v1_Desk_init, o1_Desk_init, .func (PySem.W.fnOf "__init__" "Desk.__init__" (defArgs st_Desk_init) (defBody st_Desk_init) (defScope st_Desk_init) .none v2_Desk_init v3_Desk_init v4_Desk_init o2_Desk_init v5_Desk_init v6_Desk_init), sl_Desk_init⟩)
    (c_Desk_init : PySem.W.codeIn K v5_Desk_init "Desk.__init__" = true)
    (k_Desk_init : PySem.W.keepIn K (.ref x_Desk_init) = true)
    (a_Desk_is_closed : PySem.W.findIn K (.ref x_Desk) "is_closed" = some (some (.ref x_Desk_is_closed)))
    (i_Desk_is_closed : PySem.W.isFn K (.ref x_Desk_is_closed) = true)
    (l_Desk_is_closed : K.lookup x_Desk_is_closed = some ⟨v1_Desk_is_closed, o1_Desk_is_closed, .func (PySem.W.fnOf "is_closed" "Desk.is_closed" (defArgs st_Desk_is_closed) (defBody st_Desk_is_closed) (defScope st_Desk_is_closed) .none v2_Desk_is_closed v3_Desk_is_closed v4_Desk_is_closed o2_Desk_is_closed v5_Desk_is_closed v6_Desk_is_closed), sl_Desk_is_closed⟩)
    (c_Desk_is_closed : PySem.W.codeIn K v5_Desk_is_closed "Desk.is_closed" = true)
    (k_Desk_is_closed : PySem.W.keepIn K (.ref x_Desk_is_closed) = true)
    (a_Desk_begin : PySem.W.findIn K (.ref x_Desk) "begin" = some (some (.ref x_Desk_begin)))
    (i_Desk_begin : PySem.W.isFn K (.ref x_Desk_begin) = true)
    (l_Desk_begin : K.lookup x_Desk_begin = some ⟨v1_Desk_begin, o1_Desk_begin, .func (PySem.W.fnOf "begin" "Desk.begin" (defArgs st_Desk_begin) (defBody st_Desk_begin) (defScope st_Desk_begin) .none v2_Desk_begin v3_Desk_begin v4_Desk_begin o2_Desk_begin v5_Desk_begin v6_Desk_begin), sl_Desk_begin⟩)
    (c_Desk_begin : PySem.W.codeIn K v5_Desk_begin "Desk.begin" = true)
    (k_Desk_begin : PySem.W.keepIn K (.ref x_Desk_begin) = true)
    (a_Desk_deliver : PySem.W.findIn K (.ref x_Desk) "deliver" = some (some (.ref x_Desk_deliver)))
    (i_Desk_deliver : PySem.W.isFn K (.ref x_Desk_deliver) = true)
    (l_Desk_deliver : K.lookup x_Desk_deliver = some ⟨v1_Desk_deliver, o1_Desk_deliver, .func (PySem.W.fnOf "deliver" "Desk.deliver" (defArgs st_Desk_deliver) (defBody st_Desk_deliver) (defScope st_Desk_deliver) .none v2_Desk_deliver v3_Desk_deliver v4_Desk_deliver o2_Desk_deliver v5_Desk_deliver v6_Desk_deliver), sl_Desk_deliver⟩)
    (c_Desk_deliver : PySem.W.codeIn K v5_Desk_deliver "Desk.deliver" = true)
    (k_Desk_deliver : PySem.W.keepIn K (.ref x_Desk_deliver) = true)
    (a_Desk_think : PySem.W.findIn K (.ref x_Desk) "think" = some (some (.ref x_Desk_think)))
    (i_Desk_think : PySem.W.isFn K (.ref x_Desk_think) = true)
    (l_Desk_think : K.lookup x_Desk_think = some ⟨v1_Desk_think, o1_Desk_think, .func (PySem.W.fnOf "think" "Desk.think" (defArgs st_Desk_think) (defBody st_Desk_think) (defScope st_Desk_think) .none v2_Desk_think v3_Desk_think v4_Desk_think o2_Desk_think v5_Desk_think v6_Desk_think), sl_Desk_think⟩)
    (c_Desk_think : PySem.W.codeIn K v5_Desk_think "Desk.think" = true)
    (k_Desk_think : PySem.W.keepIn K (.ref x_Desk_think) = true)
    (a_Desk_give : PySem.W.findIn K (.ref x_Desk) "give" = some (some (.ref x_Desk_give)))
    (i_Desk_give : PySem.W.isFn K (.ref x_Desk_give) = true)
    (l_Desk_give : K.lookup x_Desk_give = some ⟨v1_Desk_give, o1_Desk_give, .func (PySem.W.fnOf "give" "Desk.give" (defArgs st_Desk_give) (defBody st_Desk_give) (defScope st_Desk_give) .none v2_Desk_give v3_Desk_give v4_Desk_give o2_Desk_give v5_Desk_give v6_Desk_give), sl_Desk_give⟩)
    (c_Desk_give : PySem.W.codeIn K v5_Desk_give "Desk.give" = true)
    (k_Desk_give : PySem.W.keepIn K (.ref x_Desk_give) = true)
    (a_Desk_tell : PySem.W.findIn K (.ref x_Desk) "tell" = some (some (.ref x_Desk_tell)))
    (i_Desk_tell : PySem.W.isFn K (.ref x_Desk_tell) = true)
    (l_Desk_tell : K.lookup x_Desk_tell = some ⟨v1_Desk_tell, o1_Desk_tell, .func (PySem.W.fnOf "tell" "Desk.tell" (defArgs st_Desk_tell) (defBody st_Desk_tell) (defScope st_Desk_tell) .none v2_Desk_tell v3_Desk_tell v4_Desk_tell o2_Desk_tell v5_Desk_tell v6_Desk_tell), sl_Desk_tell⟩)
    (c_Desk_tell : PySem.W.codeIn K v5_Desk_tell "Desk.tell" = true)
    (k_Desk_tell : PySem.W.keepIn K (.ref x_Desk_tell) = true)
    (a_answered : PySem.W.nsIn K mainGlobals "answered" = some (some (.ref x_answered)))
    (l_answered : K.lookup x_answered = some ⟨v1_answered, o1_answered, .func (PySem.W.fnOf "answered" "answered" (defArgs st_answered) (defBody st_answered) (defScope st_answered) .none v2_answered v3_answered v4_answered o2_answered v5_answered v6_answered), sl_answered⟩)
    (c_answered : PySem.W.codeIn K v5_answered "answered" = true)
    (k_answered : PySem.W.keepIn K (.ref x_answered) = true)
    (a_bounds_of : PySem.W.nsIn K mainGlobals "bounds_of" = some (some (.ref x_bounds_of)))
    (l_bounds_of : K.lookup x_bounds_of = some ⟨v1_bounds_of, o1_bounds_of, .func (PySem.W.fnOf "bounds_of" "bounds_of" (defArgs st_bounds_of) (defBody st_bounds_of) (defScope st_bounds_of) .none v2_bounds_of v3_bounds_of v4_bounds_of o2_bounds_of v5_bounds_of v6_bounds_of), sl_bounds_of⟩)
    (c_bounds_of : PySem.W.codeIn K v5_bounds_of "bounds_of" = true)
    (k_bounds_of : PySem.W.keepIn K (.ref x_bounds_of) = true)
    (a_answers : PySem.W.nsIn K mainGlobals "answers" = some (some (.ref x_answers)))
    (l_answers : K.lookup x_answers = some ⟨v1_answers, o1_answers, .func (PySem.W.fnOf "answers" "answers" (defArgs st_answers) (defBody st_answers) (defScope st_answers) .none v2_answers v3_answers v4_answers o2_answers v5_answers v6_answers), sl_answers⟩)
    (c_answers : PySem.W.codeIn K v5_answers "answers" = true)
    (k_answers : PySem.W.keepIn K (.ref x_answers) = true)
    (pg_Game : PySem.W.plainGet K x_Game Str.empty = true)
    (hd_Game : PySem.W.hasDictIn K x_Game = true)
    (po_Game : PySem.W.plainOver K x_Game = true)
    (sa_Game : PySem.W.findIn K (.ref x_Game) "__setattr__" = some (some (.builtin "object.__setattr__")))
    (mk_Game : PySem.W.makesIn K x_Game = true)
    (kc_Game : PySem.W.keepIn K (.ref x_Game) = true)
    (n_Game_many : PySem.W.findIn K (.ref x_Game) "many" = some none)
    (n_Game_hammer : PySem.W.findIn K (.ref x_Game) "hammer" = some none)
    (n_Game_left : PySem.W.findIn K (.ref x_Game) "left" = some none)
    (n_Game_points : PySem.W.findIn K (.ref x_Game) "points" = some none)
    (n_Game_ends : PySem.W.findIn K (.ref x_Game) "ends" = some none)
    (n_Game_delivered : PySem.W.findIn K (.ref x_Game) "delivered" = some none)
    (n_Game_lying : PySem.W.findIn K (.ref x_Game) "lying" = some none)
    (n_Game_won : PySem.W.findIn K (.ref x_Game) "won" = some none)
    (pg_Desk : PySem.W.plainGet K x_Desk Str.empty = true)
    (hd_Desk : PySem.W.hasDictIn K x_Desk = true)
    (po_Desk : PySem.W.plainOver K x_Desk = true)
    (sa_Desk : PySem.W.findIn K (.ref x_Desk) "__setattr__" = some (some (.builtin "object.__setattr__")))
    (mk_Desk : PySem.W.makesIn K x_Desk = true)
    (kc_Desk : PySem.W.keepIn K (.ref x_Desk) = true)
    (n_Desk_game : PySem.W.findIn K (.ref x_Desk) "game" = some none)
    (z_BEYOND : PySem.W.nsIn K mainGlobals "BEYOND" = some (some (.int (-1) t_BEYOND)))
    (z_NO_MATCH : PySem.W.nsIn K mainGlobals "NO_MATCH" = some (some (.int (-2) t_NO_MATCH)))
    (z_NOT_SO : PySem.W.nsIn K mainGlobals "NOT_SO" = some (some (.int (-4) t_NOT_SO)))
    (z_NOBODY : PySem.W.nsIn K mainGlobals "NOBODY" = some (some (.int (-1) t_NOBODY)))
    (z_MOST_ENDS : PySem.W.nsIn K mainGlobals "MOST_ENDS" = some (some (.int (12) t_MOST_ENDS)))
    (z_MOST_TIME : PySem.W.nsIn K mainGlobals "MOST_TIME" = some (some (.int (10000) t_MOST_TIME)))
    (z_MORE_TIME : PySem.W.nsIn K mainGlobals "MORE_TIME" = some (some (.int (270) t_MORE_TIME)))
    (z_STONES : PySem.W.nsIn K mainGlobals "STONES" = some (some (.int (16) t_STONES)))
    (z_FREE_STONES : PySem.W.nsIn K mainGlobals "FREE_STONES" = some (some (.int (5) t_FREE_STONES)))
    (z_MOST_PLACE : PySem.W.nsIn K mainGlobals "MOST_PLACE" = some (some (.int (10000) t_MOST_PLACE)))
    (z_SIDE_LINE : PySem.W.nsIn K mainGlobals "SIDE_LINE" = some (some (.int (2230) t_SIDE_LINE)))
    (z_BACK_LINE : PySem.W.nsIn K mainGlobals "BACK_LINE" = some (some (.int (1974) t_BACK_LINE)))
    (z_HOG_LINE : PySem.W.nsIn K mainGlobals "HOG_LINE" = some (some (.int (6256) t_HOG_LINE)))
    (z_HOUSE : PySem.W.nsIn K mainGlobals "HOUSE" = some (some (.int (1974) t_HOUSE)))
    (z_MIDDLE_LINE : PySem.W.nsIn K mainGlobals "MIDDLE_LINE" = some (some (.int (145) t_MIDDLE_LINE)))
    (z_CLEAR : PySem.W.nsIn K mainGlobals "CLEAR" = some (some (.int (288) t_CLEAR)))
    (z_BEGIN : PySem.W.nsIn K mainGlobals "BEGIN" = some (some (.int (1) t_BEGIN)))
    (z_DELIVER : PySem.W.nsIn K mainGlobals "DELIVER" = some (some (.int (2) t_DELIVER)))
    (z_TIME : PySem.W.nsIn K mainGlobals "TIME" = some (some (.int (3) t_TIME)))
    (z_GIVE : PySem.W.nsIn K mainGlobals "GIVE" = some (some (.int (4) t_GIVE)))
    (z_NOW : PySem.W.nsIn K mainGlobals "NOW" = some (some (.int (5) t_NOW)))
    (z_SIZES : PySem.W.nsIn K mainGlobals "SIZES" = some (some (.ref x_SIZES)))
    (y_SIZES : K.lookup x_SIZES = some ob_SIZES)
    (yc_SIZES : ob_SIZES.cls = .type "tuple")
    (yd_SIZES : tupInts ob_SIZES = some [0, 3, 0, 2, 1, 0, 0, 0, 0])
    (b_len : PySem.W.nsIn K mainGlobals "len" = some none)
    (b_all : PySem.W.nsIn K mainGlobals "all" = some none)
    (b_int : PySem.W.nsIn K mainGlobals "int" = some none)
    (b_list : PySem.W.nsIn K mainGlobals "list" = some none)
    (b_max : PySem.W.nsIn K mainGlobals "max" = some none)
    (b_range : PySem.W.nsIn K mainGlobals "range" = some none) :
    ∃ fd : FuncData, (∀ (s : Shared) (us : List Value), us.length = (["calls"] : List Str).length → BindsTo s fd ⟨us, []⟩ ((["calls"] : List Str).zip us)) ∧ ∀ base : Heap, K.In base → base.Ns mainGlobals mg → FnOk P w K mg base CX0 9 fa fd ["calls"] (spAns K) := by
  have e := hfa.symm.trans (PySem.W.mg_of X G a_answers)
  cases e
  have T : Tx K mg ⟨x_from_tee, x_is_in_play, x_is_in_house, x_is_guard, x_is_on_middle, x_lie_clear, x_stones_of, x_numbers_of, x_with_number, x_distances_of, x_nearer_ones, x_points_of, x_Game_init, x_Game_is_over, x_Game_side_of, x_Game_stands, x_Game_goes_on, x_Game_end_over, x_Game_last_over, x_Game_thinks, x_Game_lost, x_is_told, x_are_unlike, x_all_clear, x_can_lie, x_is_wronged, x_breaks_rule, x_now_told, x_stones_told, x_scores_told, x_shot_told, x_is_side, x_Desk_init, x_Desk_is_closed, x_Desk_begin, x_Desk_deliver, x_Desk_think, x_Desk_give, x_Desk_tell, x_answered, x_bounds_of, fa, x_Game, x_Desk, x_SIZES⟩ := {
    d_from_tee := df_mk l_from_tee c_from_tee k_from_tee fun _ _ _ _ _ _ us hl => match us, hl with | [_], _ => rfl
    g_from_tee := PySem.W.mg_of X G a_from_tee
    d_is_in_play := df_mk l_is_in_play c_is_in_play k_is_in_play fun _ _ _ _ _ _ us hl => match us, hl with | [_], _ => rfl
    g_is_in_play := PySem.W.mg_of X G a_is_in_play
    d_is_in_house := df_mk l_is_in_house c_is_in_house k_is_in_house fun _ _ _ _ _ _ us hl => match us, hl with | [_], _ => rfl
    g_is_in_house := PySem.W.mg_of X G a_is_in_house
    d_is_guard := df_mk l_is_guard c_is_guard k_is_guard fun _ _ _ _ _ _ us hl => match us, hl with | [_], _ => rfl
    g_is_guard := PySem.W.mg_of X G a_is_guard
    d_is_on_middle := df_mk l_is_on_middle c_is_on_middle k_is_on_middle fun _ _ _ _ _ _ us hl => match us, hl with | [_], _ => rfl
    g_is_on_middle := PySem.W.mg_of X G a_is_on_middle
    d_lie_clear := df_mk l_lie_clear c_lie_clear k_lie_clear fun _ _ _ _ _ _ us hl => match us, hl with | [_, _], _ => rfl
    g_lie_clear := PySem.W.mg_of X G a_lie_clear
    d_stones_of := df_mk l_stones_of c_stones_of k_stones_of fun _ _ _ _ _ _ us hl => match us, hl with | [_], _ => rfl
    g_stones_of := PySem.W.mg_of X G a_stones_of
    d_numbers_of := df_mk l_numbers_of c_numbers_of k_numbers_of fun _ _ _ _ _ _ us hl => match us, hl with | [_], _ => rfl
    g_numbers_of := PySem.W.mg_of X G a_numbers_of
    d_with_number := df_mk l_with_number c_with_number k_with_number fun _ _ _ _ _ _ us hl => match us, hl with | [_, _], _ => rfl
    g_with_number := PySem.W.mg_of X G a_with_number
    d_distances_of := df_mk l_distances_of c_distances_of k_distances_of fun _ _ _ _ _ _ us hl => match us, hl with | [_, _], _ => rfl
    g_distances_of := PySem.W.mg_of X G a_distances_of
    d_nearer_ones := df_mk l_nearer_ones c_nearer_ones k_nearer_ones fun _ _ _ _ _ _ us hl => match us, hl with | [_, _], _ => rfl
    g_nearer_ones := PySem.W.mg_of X G a_nearer_ones
    d_points_of := df_mk l_points_of c_points_of k_points_of fun _ _ _ _ _ _ us hl => match us, hl with | [_, _], _ => rfl
    g_points_of := PySem.W.mg_of X G a_points_of
    d_Game_init := df_mk l_Game_init c_Game_init k_Game_init fun _ _ _ _ _ _ us hl => match us, hl with | [_, _, _, _], _ => rfl
    d_Game_is_over := df_mk l_Game_is_over c_Game_is_over k_Game_is_over fun _ _ _ _ _ _ us hl => match us, hl with | [_], _ => rfl
    m_Game_is_over := ⟨a_Game_is_over, i_Game_is_over, k_Game_is_over⟩
    d_Game_side_of := df_mk l_Game_side_of c_Game_side_of k_Game_side_of fun _ _ _ _ _ _ us hl => match us, hl with | [_, _], _ => rfl
    m_Game_side_of := ⟨a_Game_side_of, i_Game_side_of, k_Game_side_of⟩
    d_Game_stands := df_mk l_Game_stands c_Game_stands k_Game_stands fun _ _ _ _ _ _ us hl => match us, hl with | [_], _ => rfl
    m_Game_stands := ⟨a_Game_stands, i_Game_stands, k_Game_stands⟩
    d_Game_goes_on := df_mk l_Game_goes_on c_Game_goes_on k_Game_goes_on fun _ _ _ _ _ _ us hl => match us, hl with | [_, _], _ => rfl
    m_Game_goes_on := ⟨a_Game_goes_on, i_Game_goes_on, k_Game_goes_on⟩
    d_Game_end_over := df_mk l_Game_end_over c_Game_end_over k_Game_end_over fun _ _ _ _ _ _ us hl => match us, hl with | [_], _ => rfl
    m_Game_end_over := ⟨a_Game_end_over, i_Game_end_over, k_Game_end_over⟩
    d_Game_last_over := df_mk l_Game_last_over c_Game_last_over k_Game_last_over fun _ _ _ _ _ _ us hl => match us, hl with | [_], _ => rfl
    m_Game_last_over := ⟨a_Game_last_over, i_Game_last_over, k_Game_last_over⟩
    d_Game_thinks := df_mk l_Game_thinks c_Game_thinks k_Game_thinks fun _ _ _ _ _ _ us hl => match us, hl with | [_, _, _], _ => rfl
    m_Game_thinks := ⟨a_Game_thinks, i_Game_thinks, k_Game_thinks⟩
    d_Game_lost := df_mk l_Game_lost c_Game_lost k_Game_lost fun _ _ _ _ _ _ us hl => match us, hl with | [_, _], _ => rfl
    m_Game_lost := ⟨a_Game_lost, i_Game_lost, k_Game_lost⟩
    d_is_told := df_mk l_is_told c_is_told k_is_told fun _ _ _ _ _ _ us hl => match us, hl with | [_], _ => rfl
    g_is_told := PySem.W.mg_of X G a_is_told
    d_are_unlike := df_mk l_are_unlike c_are_unlike k_are_unlike fun _ _ _ _ _ _ us hl => match us, hl with | [_], _ => rfl
    g_are_unlike := PySem.W.mg_of X G a_are_unlike
    d_all_clear := df_mk l_all_clear c_all_clear k_all_clear fun _ _ _ _ _ _ us hl => match us, hl with | [_], _ => rfl
    g_all_clear := PySem.W.mg_of X G a_all_clear
    d_can_lie := df_mk l_can_lie c_can_lie k_can_lie fun _ _ _ _ _ _ us hl => match us, hl with | [_, _, _], _ => rfl
    g_can_lie := PySem.W.mg_of X G a_can_lie
    d_is_wronged := df_mk l_is_wronged c_is_wronged k_is_wronged fun _ _ _ _ _ _ us hl => match us, hl with | [_, _], _ => rfl
    g_is_wronged := PySem.W.mg_of X G a_is_wronged
    d_breaks_rule := df_mk l_breaks_rule c_breaks_rule k_breaks_rule fun _ _ _ _ _ _ us hl => match us, hl with | [_, _, _], _ => rfl
    g_breaks_rule := PySem.W.mg_of X G a_breaks_rule
    d_now_told := df_mk l_now_told c_now_told k_now_told fun _ _ _ _ _ _ us hl => match us, hl with | [_], _ => rfl
    g_now_told := PySem.W.mg_of X G a_now_told
    d_stones_told := df_mk l_stones_told c_stones_told k_stones_told fun _ _ _ _ _ _ us hl => match us, hl with | [_], _ => rfl
    g_stones_told := PySem.W.mg_of X G a_stones_told
    d_scores_told := df_mk l_scores_told c_scores_told k_scores_told fun _ _ _ _ _ _ us hl => match us, hl with | [_], _ => rfl
    g_scores_told := PySem.W.mg_of X G a_scores_told
    d_shot_told := df_mk l_shot_told c_shot_told k_shot_told fun _ _ _ _ _ _ us hl => match us, hl with | [_], _ => rfl
    g_shot_told := PySem.W.mg_of X G a_shot_told
    d_is_side := df_mk l_is_side c_is_side k_is_side fun _ _ _ _ _ _ us hl => match us, hl with | [_], _ => rfl
    g_is_side := PySem.W.mg_of X G a_is_side
    d_Desk_init := df_mk l_Desk_init c_Desk_init k_Desk_init fun _ _ _ _ _ _ us hl => match us, hl with | [_], _ => rfl
    d_Desk_is_closed := df_mk l_Desk_is_closed c_Desk_is_closed k_Desk_is_closed fun _ _ _ _ _ _ us hl => match us, hl with | [_], _ => rfl
    m_Desk_is_closed := ⟨a_Desk_is_closed, i_Desk_is_closed, k_Desk_is_closed⟩
    d_Desk_begin := df_mk l_Desk_begin c_Desk_begin k_Desk_begin fun _ _ _ _ _ _ us hl => match us, hl with | [_, _], _ => rfl
    m_Desk_begin := ⟨a_Desk_begin, i_Desk_begin, k_Desk_begin⟩
    d_Desk_deliver := df_mk l_Desk_deliver c_Desk_deliver k_Desk_deliver fun _ _ _ _ _ _ us hl => match us, hl with | [_, _], _ => rfl
    m_Desk_deliver := ⟨a_Desk_deliver, i_Desk_deliver, k_Desk_deliver⟩
    d_Desk_think := df_mk l_Desk_think c_Desk_think k_Desk_think fun _ _ _ _ _ _ us hl => match us, hl with | [_, _], _ => rfl
    m_Desk_think := ⟨a_Desk_think, i_Desk_think, k_Desk_think⟩
    d_Desk_give := df_mk l_Desk_give c_Desk_give k_Desk_give fun _ _ _ _ _ _ us hl => match us, hl with | [_, _], _ => rfl
    m_Desk_give := ⟨a_Desk_give, i_Desk_give, k_Desk_give⟩
    d_Desk_tell := df_mk l_Desk_tell c_Desk_tell k_Desk_tell fun _ _ _ _ _ _ us hl => match us, hl with | [_, _], _ => rfl
    m_Desk_tell := ⟨a_Desk_tell, i_Desk_tell, k_Desk_tell⟩
    d_answered := df_mk l_answered c_answered k_answered fun _ _ _ _ _ _ us hl => match us, hl with | [_, _, _], _ => rfl
    g_answered := PySem.W.mg_of X G a_answered
    d_bounds_of := df_mk l_bounds_of c_bounds_of k_bounds_of fun _ _ _ _ _ _ us hl => match us, hl with | [_, _], _ => rfl
    g_bounds_of := PySem.W.mg_of X G a_bounds_of
    d_answers := df_mk l_answers c_answers k_answers fun _ _ _ _ _ _ us hl => match us, hl with | [_], _ => rfl
    g_answers := PySem.W.mg_of X G a_answers
    g_Game := PySem.W.mg_of X G aC_Game
    c_Game := ⟨pg_Game, hd_Game, po_Game, sa_Game⟩
    mk_Game := ⟨mk_Game, a_Game_init, i_Game_init, kc_Game⟩
    n_Game_many := n_Game_many
    n_Game_hammer := n_Game_hammer
    n_Game_left := n_Game_left
    n_Game_points := n_Game_points
    n_Game_ends := n_Game_ends
    n_Game_delivered := n_Game_delivered
    n_Game_lying := n_Game_lying
    n_Game_won := n_Game_won
    g_Desk := PySem.W.mg_of X G aC_Desk
    c_Desk := ⟨pg_Desk, hd_Desk, po_Desk, sa_Desk⟩
    mk_Desk := ⟨mk_Desk, a_Desk_init, i_Desk_init, kc_Desk⟩
    n_Desk_game := n_Desk_game
    k_BEYOND := ⟨_, PySem.W.mg_of X G z_BEYOND⟩
    k_NO_MATCH := ⟨_, PySem.W.mg_of X G z_NO_MATCH⟩
    k_NOT_SO := ⟨_, PySem.W.mg_of X G z_NOT_SO⟩
    k_NOBODY := ⟨_, PySem.W.mg_of X G z_NOBODY⟩
    k_MOST_ENDS := ⟨_, PySem.W.mg_of X G z_MOST_ENDS⟩
    k_MOST_TIME := ⟨_, PySem.W.mg_of X G z_MOST_TIME⟩
    k_MORE_TIME := ⟨_, PySem.W.mg_of X G z_MORE_TIME⟩
    k_STONES := ⟨_, PySem.W.mg_of X G z_STONES⟩
    k_FREE_STONES := ⟨_, PySem.W.mg_of X G z_FREE_STONES⟩
    k_MOST_PLACE := ⟨_, PySem.W.mg_of X G z_MOST_PLACE⟩
    k_SIDE_LINE := ⟨_, PySem.W.mg_of X G z_SIDE_LINE⟩
    k_BACK_LINE := ⟨_, PySem.W.mg_of X G z_BACK_LINE⟩
    k_HOG_LINE := ⟨_, PySem.W.mg_of X G z_HOG_LINE⟩
    k_HOUSE := ⟨_, PySem.W.mg_of X G z_HOUSE⟩
    k_MIDDLE_LINE := ⟨_, PySem.W.mg_of X G z_MIDDLE_LINE⟩
    k_CLEAR := ⟨_, PySem.W.mg_of X G z_CLEAR⟩
    k_BEGIN := ⟨_, PySem.W.mg_of X G z_BEGIN⟩
    k_DELIVER := ⟨_, PySem.W.mg_of X G z_DELIVER⟩
    k_TIME := ⟨_, PySem.W.mg_of X G z_TIME⟩
    k_GIVE := ⟨_, PySem.W.mg_of X G z_GIVE⟩
    k_NOW := ⟨_, PySem.W.mg_of X G z_NOW⟩
    g_SIZES := PySem.W.mg_of X G z_SIZES
    s_SIZES := sqT_of (ns := [0, 3, 0, 2, 1, 0, 0, 0, 0]) y_SIZES yc_SIZES yd_SIZES (by decide)
    b_len := PySem.W.mg_none_of X G b_len
    b_all := PySem.W.mg_none_of X G b_all
    b_int := PySem.W.mg_none_of X G b_int
    b_list := PySem.W.mg_none_of X G b_list
    b_max := PySem.W.mg_none_of X G b_max
    b_range := PySem.W.mg_none_of X G b_range
  }
  exact ⟨PySem.W.fnOf "answers" "answers" (defArgs st_answers) (defBody st_answers) (defScope st_answers) .none v2_answers v3_answers v4_answers o2_answers v5_answers v6_answers, fun s us hu => match us, hu with | [_], _ => .of_eq rfl, fun base _ _ => fn_answers T (fun_mk l_answers c_answers k_answers)⟩
end Cm
open PySem PySem.W PyProof.Rows
set_option maxRecDepth 100000 in
set_option maxHeartbeats 8000000 in
theorem PySem.Challenge.cw_curlingmatch_s01_answers_holds : PySem.Challenge.rw_curlingmatch_s01_answers.Holds := by
  w_on; k_headS; (case hw => exact ⟨[.list [.int 7]], by decide +kernel, by decide +kernel⟩)
  k_fillS
  refine L2.walk_specK (r := PySem.Challenge.rw_curlingmatch_s01_answers) (k := 9) (CX := L2.CX0) (ps := ["calls"]) (sp := Cm.spAns) (by decide +kernel) rfl rfl ⟨rfl, by decide, by decide⟩ (fun w h Y => PySem.W.kIn_of Y) ?F ?S (fun _ _ _ _ z => z)
  case F =>
    intro w mg fa h Y KX G hmg
    refine' Cm.all_mk KX G hmg ?aC_Game ?aC_Desk ?a_from_tee ?l_from_tee ?c_from_tee ?k_from_tee ?a_is_in_play ?l_is_in_play ?c_is_in_play ?k_is_in_play ?a_is_in_house ?l_is_in_house ?c_is_in_house ?k_is_in_house ?a_is_guard ?l_is_guard ?c_is_guard ?k_is_guard ?a_is_on_middle ?l_is_on_middle ?c_is_on_middle ?k_is_on_middle ?a_lie_clear ?l_lie_clear ?c_lie_clear ?k_lie_clear ?a_stones_of ?l_stones_of ?c_stones_of ?k_stones_of ?a_numbers_of ?l_numbers_of ?c_numbers_of ?k_numbers_of ?a_with_number ?l_with_number ?c_with_number ?k_with_number ?a_distances_of ?l_distances_of ?c_distances_of ?k_distances_of ?a_nearer_ones ?l_nearer_ones ?c_nearer_ones ?k_nearer_ones ?a_points_of ?l_points_of ?c_points_of ?k_points_of ?a_Game_init ?i_Game_init ?l_Game_init ?c_Game_init ?k_Game_init ?a_Game_is_over ?i_Game_is_over ?l_Game_is_over ?c_Game_is_over ?k_Game_is_over ?a_Game_side_of ?i_Game_side_of ?l_Game_side_of ?c_Game_side_of ?k_Game_side_of ?a_Game_stands ?i_Game_stands ?l_Game_stands ?c_Game_stands ?k_Game_stands ?a_Game_goes_on ?i_Game_goes_on ?l_Game_goes_on ?c_Game_goes_on ?k_Game_goes_on ?a_Game_end_over ?i_Game_end_over ?l_Game_end_over ?c_Game_end_over ?k_Game_end_over ?a_Game_last_over ?i_Game_last_over ?l_Game_last_over ?c_Game_last_over ?k_Game_last_over ?a_Game_thinks ?i_Game_thinks ?l_Game_thinks ?c_Game_thinks ?k_Game_thinks ?a_Game_lost ?i_Game_lost ?l_Game_lost ?c_Game_lost ?k_Game_lost ?a_is_told ?l_is_told ?c_is_told ?k_is_told ?a_are_unlike ?l_are_unlike ?c_are_unlike ?k_are_unlike ?a_all_clear ?l_all_clear ?c_all_clear ?k_all_clear ?a_can_lie ?l_can_lie ?c_can_lie ?k_can_lie ?a_is_wronged ?l_is_wronged ?c_is_wronged ?k_is_wronged ?a_breaks_rule ?l_breaks_rule ?c_breaks_rule ?k_breaks_rule ?a_now_told ?l_now_told ?c_now_told ?k_now_told ?a_stones_told ?l_stones_told ?c_stones_told ?k_stones_told ?a_scores_told ?l_scores_told ?c_scores_told ?k_scores_told ?a_shot_told ?l_shot_told ?c_shot_told ?k_shot_told ?a_is_side ?l_is_side ?c_is_side ?k_is_side ?a_Desk_init ?i_Desk_init ?l_Desk_init ?c_Desk_init ?k_Desk_init ?a_Desk_is_closed ?i_Desk_is_closed ?l_Desk_is_closed ?c_Desk_is_closed ?k_Desk_is_closed ?a_Desk_begin ?i_Desk_begin ?l_Desk_begin ?c_Desk_begin ?k_Desk_begin ?a_Desk_deliver ?i_Desk_deliver ?l_Desk_deliver ?c_Desk_deliver ?k_Desk_deliver ?a_Desk_think ?i_Desk_think ?l_Desk_think ?c_Desk_think ?k_Desk_think ?a_Desk_give ?i_Desk_give ?l_Desk_give ?c_Desk_give ?k_Desk_give ?a_Desk_tell ?i_Desk_tell ?l_Desk_tell ?c_Desk_tell ?k_Desk_tell ?a_answered ?l_answered ?c_answered ?k_answered ?a_bounds_of ?l_bounds_of ?c_bounds_of ?k_bounds_of ?a_answers ?l_answers ?c_answers ?k_answers ?pg_Game ?hd_Game ?po_Game ?sa_Game ?mk_Game ?kc_Game ?n_Game_many ?n_Game_hammer ?n_Game_left ?n_Game_points ?n_Game_ends ?n_Game_delivered ?n_Game_lying ?n_Game_won ?pg_Desk ?hd_Desk ?po_Desk ?sa_Desk ?mk_Desk ?kc_Desk ?n_Desk_game ?z_BEYOND ?z_NO_MATCH ?z_NOT_SO ?z_NOBODY ?z_MOST_ENDS ?z_MOST_TIME ?z_MORE_TIME ?z_STONES ?z_FREE_STONES ?z_MOST_PLACE ?z_SIDE_LINE ?z_BACK_LINE ?z_HOG_LINE ?z_HOUSE ?z_MIDDLE_LINE ?z_CLEAR ?z_BEGIN ?z_DELIVER ?z_TIME ?z_GIVE ?z_NOW ?z_SIZES ?y_SIZES ?yc_SIZES ?yd_SIZES ?b_len ?b_all ?b_int ?b_list ?b_max ?b_range
    (case aC_Game => k_is)
    (case aC_Desk => k_is)
    (case a_from_tee => k_is)
    (case l_from_tee => k_is)
    (case c_from_tee => k_is)
    (case k_from_tee => k_is)
    (case a_is_in_play => k_is)
    (case l_is_in_play => k_is)
    (case c_is_in_play => k_is)
    (case k_is_in_play => k_is)
    (case a_is_in_house => k_is)
    (case l_is_in_house => k_is)
    (case c_is_in_house => k_is)
    (case k_is_in_house => k_is)
    (case a_is_guard => k_is)
    (case l_is_guard => k_is)
    (case c_is_guard => k_is)
    (case k_is_guard => k_is)
    (case a_is_on_middle => k_is)
    (case l_is_on_middle => k_is)
    (case c_is_on_middle => k_is)
    (case k_is_on_middle => k_is)
    (case a_lie_clear => k_is)
    (case l_lie_clear => k_is)
    (case c_lie_clear => k_is)
    (case k_lie_clear => k_is)
    (case a_stones_of => k_is)
    (case l_stones_of => k_is)
    (case c_stones_of => k_is)
    (case k_stones_of => k_is)
    (case a_numbers_of => k_is)
    (case l_numbers_of => k_is)
    (case c_numbers_of => k_is)
    (case k_numbers_of => k_is)
    (case a_with_number => k_is)
    (case l_with_number => k_is)
    (case c_with_number => k_is)
    (case k_with_number => k_is)
    (case a_distances_of => k_is)
    (case l_distances_of => k_is)
    (case c_distances_of => k_is)
    (case k_distances_of => k_is)
    (case a_nearer_ones => k_is)
    (case l_nearer_ones => k_is)
    (case c_nearer_ones => k_is)
    (case k_nearer_ones => k_is)
    (case a_points_of => k_is)
    (case l_points_of => k_is)
    (case c_points_of => k_is)
    (case k_points_of => k_is)
    (case a_Game_init => k_is)
    (case i_Game_init => k_is)
    (case l_Game_init => k_is)
    (case c_Game_init => k_is)
    (case k_Game_init => k_is)
    (case a_Game_is_over => k_is)
    (case i_Game_is_over => k_is)
    (case l_Game_is_over => k_is)
    (case c_Game_is_over => k_is)
    (case k_Game_is_over => k_is)
    (case a_Game_side_of => k_is)
    (case i_Game_side_of => k_is)
    (case l_Game_side_of => k_is)
    (case c_Game_side_of => k_is)
    (case k_Game_side_of => k_is)
    (case a_Game_stands => k_is)
    (case i_Game_stands => k_is)
    (case l_Game_stands => k_is)
    (case c_Game_stands => k_is)
    (case k_Game_stands => k_is)
    (case a_Game_goes_on => k_is)
    (case i_Game_goes_on => k_is)
    (case l_Game_goes_on => k_is)
    (case c_Game_goes_on => k_is)
    (case k_Game_goes_on => k_is)
    (case a_Game_end_over => k_is)
    (case i_Game_end_over => k_is)
    (case l_Game_end_over => k_is)
    (case c_Game_end_over => k_is)
    (case k_Game_end_over => k_is)
    (case a_Game_last_over => k_is)
    (case i_Game_last_over => k_is)
    (case l_Game_last_over => k_is)
    (case c_Game_last_over => k_is)
    (case k_Game_last_over => k_is)
    (case a_Game_thinks => k_is)
    (case i_Game_thinks => k_is)
    (case l_Game_thinks => k_is)
    (case c_Game_thinks => k_is)
    (case k_Game_thinks => k_is)
    (case a_Game_lost => k_is)
    (case i_Game_lost => k_is)
    (case l_Game_lost => k_is)
    (case c_Game_lost => k_is)
    (case k_Game_lost => k_is)
    (case a_is_told => k_is)
    (case l_is_told => k_is)
    (case c_is_told => k_is)
    (case k_is_told => k_is)
    (case a_are_unlike => k_is)
    (case l_are_unlike => k_is)
    (case c_are_unlike => k_is)
    (case k_are_unlike => k_is)
    (case a_all_clear => k_is)
    (case l_all_clear => k_is)
    (case c_all_clear => k_is)
    (case k_all_clear => k_is)
    (case a_can_lie => k_is)
    (case l_can_lie => k_is)
    (case c_can_lie => k_is)
    (case k_can_lie => k_is)
    (case a_is_wronged => k_is)
    (case l_is_wronged => k_is)
    (case c_is_wronged => k_is)
    (case k_is_wronged => k_is)
    (case a_breaks_rule => k_is)
    (case l_breaks_rule => k_is)
    (case c_breaks_rule => k_is)
    (case k_breaks_rule => k_is)
    (case a_now_told => k_is)
    (case l_now_told => k_is)
    (case c_now_told => k_is)
    (case k_now_told => k_is)
    (case a_stones_told => k_is)
    (case l_stones_told => k_is)
    (case c_stones_told => k_is)
    (case k_stones_told => k_is)
    (case a_scores_told => k_is)
    (case l_scores_told => k_is)
    (case c_scores_told => k_is)
    (case k_scores_told => k_is)
    (case a_shot_told => k_is)
    (case l_shot_told => k_is)
    (case c_shot_told => k_is)
    (case k_shot_told => k_is)
    (case a_is_side => k_is)
    (case l_is_side => k_is)
    (case c_is_side => k_is)
    (case k_is_side => k_is)
    (case a_Desk_init => k_is)
    (case i_Desk_init => k_is)
    (case l_Desk_init => k_is)
    (case c_Desk_init => k_is)
    (case k_Desk_init => k_is)
    (case a_Desk_is_closed => k_is)
    (case i_Desk_is_closed => k_is)
    (case l_Desk_is_closed => k_is)
    (case c_Desk_is_closed => k_is)
    (case k_Desk_is_closed => k_is)
    (case a_Desk_begin => k_is)
    (case i_Desk_begin => k_is)
    (case l_Desk_begin => k_is)
    (case c_Desk_begin => k_is)
    (case k_Desk_begin => k_is)
    (case a_Desk_deliver => k_is)
    (case i_Desk_deliver => k_is)
    (case l_Desk_deliver => k_is)
    (case c_Desk_deliver => k_is)
    (case k_Desk_deliver => k_is)
    (case a_Desk_think => k_is)
    (case i_Desk_think => k_is)
    (case l_Desk_think => k_is)
    (case c_Desk_think => k_is)
    (case k_Desk_think => k_is)
    (case a_Desk_give => k_is)
    (case i_Desk_give => k_is)
    (case l_Desk_give => k_is)
    (case c_Desk_give => k_is)
    (case k_Desk_give => k_is)
    (case a_Desk_tell => k_is)
    (case i_Desk_tell => k_is)
    (case l_Desk_tell => k_is)
    (case c_Desk_tell => k_is)
    (case k_Desk_tell => k_is)
    (case a_answered => k_is)
    (case l_answered => k_is)
    (case c_answered => k_is)
    (case k_answered => k_is)
    (case a_bounds_of => k_is)
    (case l_bounds_of => k_is)
    (case c_bounds_of => k_is)
    (case k_bounds_of => k_is)
    (case a_answers => k_is)
    (case l_answers => k_is)
    (case c_answers => k_is)
    (case k_answers => k_is)
    (case pg_Game => k_is)
    (case hd_Game => k_is)
    (case po_Game => k_is)
    (case sa_Game => k_is)
    (case mk_Game => k_is)
    (case kc_Game => k_is)
    (case n_Game_many => k_is)
    (case n_Game_hammer => k_is)
    (case n_Game_left => k_is)
    (case n_Game_points => k_is)
    (case n_Game_ends => k_is)
    (case n_Game_delivered => k_is)
    (case n_Game_lying => k_is)
    (case n_Game_won => k_is)
    (case pg_Desk => k_is)
    (case hd_Desk => k_is)
    (case po_Desk => k_is)
    (case sa_Desk => k_is)
    (case mk_Desk => k_is)
    (case kc_Desk => k_is)
    (case n_Desk_game => k_is)
    (case z_BEYOND => k_is)
    (case z_NO_MATCH => k_is)
    (case z_NOT_SO => k_is)
    (case z_NOBODY => k_is)
    (case z_MOST_ENDS => k_is)
    (case z_MOST_TIME => k_is)
    (case z_MORE_TIME => k_is)
    (case z_STONES => k_is)
    (case z_FREE_STONES => k_is)
    (case z_MOST_PLACE => k_is)
    (case z_SIDE_LINE => k_is)
    (case z_BACK_LINE => k_is)
    (case z_HOG_LINE => k_is)
    (case z_HOUSE => k_is)
    (case z_MIDDLE_LINE => k_is)
    (case z_CLEAR => k_is)
    (case z_BEGIN => k_is)
    (case z_DELIVER => k_is)
    (case z_TIME => k_is)
    (case z_GIVE => k_is)
    (case z_NOW => k_is)
    (case z_SIZES => k_is)
    (case y_SIZES => k_is)
    (case yc_SIZES => rfl)
    (case yd_SIZES => rfl)
    (case b_len => k_is)
    (case b_all => k_is)
    (case b_int => k_is)
    (case b_list => k_is)
    (case b_max => k_is)
    (case b_range => k_is)
  case S =>
    intro K H xs a hO hwi hask hx
    cases hx with
    | cons h1 h2 =>
      cases h2
      cases h1 with
      | lst hs ha =>
        have e := L2.ints_dw a.1 _ ha
        subst e
        have q : ((Codec.inLen 0 20000 a.1 && a.1.all (Codec.inInt (-2147483648) 2147483647)) && true) = true := hwi
        rw [Bool.and_eq_true, Bool.and_eq_true] at q
        refine ⟨_, a.1, rfl, ?_, (Codec.inNat_iff.mp q.1.1).2, fun n hn => ?_, hask, fun H' p hp => .lst (L2.SqL.of hp) (L2.dw_ints _)⟩
        · rcases hs with (hs | ⟨o, hs⟩) | hs
          · rcases hO _ with z | ⟨o, u, z⟩
            · rw [hs] at z
              cases z
            · rw [hs] at z
              cases z
          · exact .inl ⟨o, hs⟩
          · exact .inr (.inr hs)
        · have r := List.all_eq_true.mp q.1.2 n hn
          have r : (decide (-2147483648 ≤ n) && decide (n ≤ 2147483647)) = true := r
          rw [Bool.and_eq_true, decide_eq_true_eq, decide_eq_true_eq] at r
          exact r
#print axioms PySem.Challenge.cw_curlingmatch_s01_answers_holds
