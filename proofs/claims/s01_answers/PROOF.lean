import PyProof.Rows.All
import Wide.All
import OpenK.AllK
import Wide.FinOn
import Open.SpecLaws
import KE.OsGo
import KE.OsRun
import HandS.ForSpec
import HandS.Comp
import HandS.Iter
import HandS.ExcInit
import HandS.ExcField
import PySem.Challenge.RW_clockarbiter_s01_answers
set_option Elab.async false
set_option linter.all false
set_option maxRecDepth 100000
set_option maxHeartbeats 4000000
namespace Ck
/-! ### The calls, told one behind another -/
def kind : Kg69.Call → Int
  | .begin_ .. => 1
  | .move .. => 2
  | .illegal .. => 3
  | .can .. => 4
  | .offer .. => 5
  | .accept .. => 6
  | .claim .. => 7
  | .give .. => 8
  | .now => 9
  | .clocks => 10
  | .again => 11
def nums : Kg69.Call → List Int
  | .begin_ m e n _ => [m, e, n]
  | .move u n f e => [u, n, f, e]
  | .illegal u => [u]
  | .can w y => [w, y]
  | .offer w => [w]
  | .accept w => [w]
  | .claim k => [k]
  | .give w => [w]
  | .now => []
  | .clocks => []
  | .again => []
def rowOf : Kg69.Call → List Int
  | .begin_ _ _ _ l => l
  | _ => []
def enc : Kg69.Call → List Int
  | .begin_ m e n l => 1 :: m :: e :: n :: (l.length : Int) :: l
  | c => kind c :: nums c
def ansOf (a : Kg69.Ans) : List Int := ((a.value :: a.out).length : Int) :: (a.value :: a.out)
def play : Kg69.State → List Kg69.Call → List Int
  | _, [] => []
  | s, c :: r => ansOf (Kg69.spec s c).2 ++ play (Kg69.spec s c).1 r
theorem shape_cases {p : Int} {x : Nat × Nat} (h : PyKg69.shape p = some x) :
    (p = 1 ∧ x = (3, 1)) ∨ (p = 2 ∧ x = (4, 0)) ∨ (p = 3 ∧ x = (1, 0)) ∨ (p = 4 ∧ x = (2, 0)) ∨ (p = 5 ∧ x = (1, 0)) ∨ (p = 6 ∧ x = (1, 0)) ∨ (p = 7 ∧ x = (1, 0)) ∨ (p = 8 ∧ x = (1, 0)) ∨ (p = 9 ∧ x = (0, 0)) ∨ (p = 10 ∧ x = (0, 0)) ∨ (p = 11 ∧ x = (0, 0)) := by
  unfold PyKg69.shape at h
  repeat' split at h
  all_goals first
    | (have e := Option.some.inj h; subst e; simp_all; done)
    | cases h
theorem call_enc {p : Int} {r : List Int} {c : List (List Int)} {t : List Int} (h : PyFlat.call PyKg69.shape (p :: r) = some (c, t)) :
    ∃ k, Kg69Neutral.callOf (PyKg69.whole c) = some k ∧ p :: r = enc k ++ t := by
  unfold PyFlat.call at h
  dsimp only at h
  cases hs : PyKg69.shape p with
  | none => rw [hs] at h; cases h
  | some x =>
    rw [hs] at h
    rcases shape_cases hs with ⟨rfl, rfl⟩ | ⟨rfl, rfl⟩ | ⟨rfl, rfl⟩ | ⟨rfl, rfl⟩ | ⟨rfl, rfl⟩ | ⟨rfl, rfl⟩ | ⟨rfl, rfl⟩ | ⟨rfl, rfl⟩ | ⟨rfl, rfl⟩ | ⟨rfl, rfl⟩ | ⟨rfl, rfl⟩
    · -- begin
      dsimp only at h
      by_cases hl : r.length < 3
      · rw [if_pos hl] at h; cases h
      · rw [if_neg hl] at h
        match r, hl with
        | [], hl => exact absurd (by simp) hl
        | [_], hl => exact absurd (by simp) hl
        | [_, _], hl => exact absurd (by simp) hl
        | a :: b :: d :: r', _ =>
          simp only [List.drop_succ_cons, List.drop_zero, PyFlat.rows] at h
          cases r' with
          | nil => simp [PyFlat.row] at h
          | cons z q =>
            simp only [PyFlat.row] at h
            by_cases hz : 0 ≤ z ∧ z.toNat ≤ q.length
            · rw [if_pos hz] at h
              simp only [Option.some.injEq, Prod.mk.injEq] at h
              obtain ⟨rfl, rfl⟩ := h
              refine ⟨.begin_ a b d (q.take z.toNat), rfl, ?_⟩
              have e : ((q.take z.toNat).length : Int) = z := by
                rw [List.length_take, Nat.min_eq_left hz.2]
                omega
              simp only [enc, e, List.cons_append, List.take_append_drop]
            · rw [if_neg hz] at h
              cases h
    all_goals
      dsimp only at h
      split at h
      · cases h
      rename_i hl
      simp only [PyFlat.rows, Option.some.injEq, Prod.mk.injEq] at h
      obtain ⟨rfl, rfl⟩ := h
    · match r, hl with
      | [], hl => exact absurd (by simp) hl
      | [_], hl => exact absurd (by simp) hl
      | [_, _], hl => exact absurd (by simp) hl
      | [_, _, _], hl => exact absurd (by simp) hl
      | a :: b :: d :: e :: r', _ => exact ⟨.move a b d e, rfl, rfl⟩
    · match r, hl with
      | [], hl => exact absurd (by simp) hl
      | a :: r', _ => exact ⟨.illegal a, rfl, rfl⟩
    · match r, hl with
      | [], hl => exact absurd (by simp) hl
      | [_], hl => exact absurd (by simp) hl
      | a :: b :: r', _ => exact ⟨.can a b, rfl, rfl⟩
    · match r, hl with
      | [], hl => exact absurd (by simp) hl
      | a :: r', _ => exact ⟨.offer a, rfl, rfl⟩
    · match r, hl with
      | [], hl => exact absurd (by simp) hl
      | a :: r', _ => exact ⟨.accept a, rfl, rfl⟩
    · match r, hl with
      | [], hl => exact absurd (by simp) hl
      | a :: r', _ => exact ⟨.claim a, rfl, rfl⟩
    · match r, hl with
      | [], hl => exact absurd (by simp) hl
      | a :: r', _ => exact ⟨.give a, rfl, rfl⟩
    · exact ⟨.now, rfl, rfl⟩
    · exact ⟨.clocks, rfl, rfl⟩
    · exact ⟨.again, rfl, rfl⟩
theorem calls_enc : ∀ (f : Nat) (l : List Int) (raw : List (List (List Int))), PyFlat.calls PyKg69.shape f l = some raw →
    ∃ cs : List Kg69.Call, l = cs.flatMap enc ∧ cs.length = raw.length ∧ ∀ s, PyFlat.told (PyFlat.played Kg69Neutral.step s (raw.map PyKg69.whole)) = play s cs
  | f, [], raw, h => by
    have e : raw = [] := by
      cases f <;> simp [PyFlat.calls] at h <;> simp [h]
    subst e
    exact ⟨[], rfl, rfl, fun s => rfl⟩
  | 0, p :: r, raw, h => by simp [PyFlat.calls] at h
  | f + 1, p :: r, raw, h => by
    unfold PyFlat.calls at h
    cases hc : PyFlat.call PyKg69.shape (p :: r) with
    | none => rw [hc] at h; cases h
    | some x =>
      obtain ⟨c, t⟩ := x
      rw [hc] at h
      dsimp only at h
      cases hr : PyFlat.calls PyKg69.shape f t with
      | none => rw [hr] at h; cases h
      | some cs' =>
        rw [hr] at h
        have e := Option.some.inj h
        subst e
        obtain ⟨k, hk, hp⟩ := call_enc hc
        obtain ⟨cs, h1, h2, h3⟩ := calls_enc f t cs' hr
        refine ⟨k :: cs, ?_, ?_, fun s => ?_⟩
        · rw [hp, h1]
          rfl
        · simp [h2]
        · have hst : Kg69Neutral.step s (PyKg69.whole c) = ((Kg69.spec s k).1, (Kg69.spec s k).2.value :: (Kg69.spec s k).2.out) := by
            unfold Kg69Neutral.step
            rw [hk]
          show PyFlat.told (PyFlat.played Kg69Neutral.step s (PyKg69.whole c :: cs'.map PyKg69.whole)) = ansOf (Kg69.spec s k).2 ++ play (Kg69.spec s k).1 cs
          rw [← h3]
          show PyFlat.told ((Kg69Neutral.step s (PyKg69.whole c)).2 :: PyFlat.played Kg69Neutral.step (Kg69Neutral.step s (PyKg69.whole c)).1 (cs'.map PyKg69.whole)) = _
          rw [hst]
          rfl
theorem parsed (l : List Int) (h : PyKg69.answers_asked l = true) : ∃ cs : List Kg69.Call, l = cs.flatMap enc ∧ cs.length ≤ 250 ∧ PyKg69.answers l = play Kg69.init cs := by
  unfold PyKg69.answers_asked at h
  cases hc : PyFlat.calls PyKg69.shape l.length l with
  | none => rw [hc] at h; cases h
  | some raw =>
    rw [hc] at h
    simp only [Bool.and_eq_true] at h
    have h250 : raw.length ≤ 250 := by
      have z := h.1.1.1.2
      unfold PyFlat.atMost at z
      exact of_decide_eq_true z
    obtain ⟨cs, h1, h2, h3⟩ := calls_enc _ _ _ hc
    refine ⟨cs, h1, by omega, ?_⟩
    unfold PyKg69.answers PyKg69.calls
    rw [hc]
    exact h3 _
end Ck

namespace Ck
/-! ### The program as plain functions -/
abbrev P2 := Int × Int
def get (p : P2) (i : Int) : Int := if i = 0 then p.1 else p.2
def put (p : P2) (i x : Int) : P2 := if i = 0 then (x, p.2) else (p.1, x)
/-- a game: Times, Positions and Match in one -/
structure M where
  mode : Int
  extra : Int
  str : List P2
  side : Int
  c : P2
  m : P2
  w : P2
  u : P2
  offers : Int
  winner : Int
  why : Int
  stood : List P2
  without : Int
def added (mode extra : Int) : Int := extra * (if mode = 1 then 1 else 0)
def firstOf (l : List P2) : Int := match l with
  | x :: _ => x.2
  | [] => 0
def atFirst (mode extra : Int) (str : List P2) : Int := firstOf str + added mode extra
def M.fresh (mode extra : Int) (str : List P2) (number : Int) : M :=
  { mode := mode, extra := extra, str := str, side := 0, c := (atFirst mode extra str, atFirst mode extra str), m := (0, 0), w := (0, 0), u := (1, 1), offers := -1, winner := -1, why := -1, stood := [(number, 0)], without := 0 }
def M.fin (m : M) (winner why : Int) : M := { m with winner := winner, why := why }
def M.lose (m : M) (side why : Int) : M := if get m.u (1 - side) = 1 then m.fin (1 - side) why else m.fin 2 6
def taken (mode extra used : Int) : Int := if mode = 2 then (if used - extra > 0 then used - extra else 0) else used
def M.left (m : M) (used : Int) : Int := get m.c m.side - taken m.mode m.extra used
def M.takeOff (m : M) (used : Int) : M := if m.left used > 0 then { m with c := put m.c m.side (m.left used) } else ({ m with c := put m.c m.side 0 } : M).lose m.side 2
def ofStr (made : Int) : Int → List P2 → Int
  | ahead, x :: y :: l => if ahead + x.1 = made then y.2 else ofStr made (ahead + x.1) (y :: l)
  | _, _ => 0
def M.coming (m : M) (made : Int) : Int := ofStr made 0 m.str + added m.mode m.extra
def M.stand (m : M) (number side : Int) (fresh : Bool) : M := if fresh = true then { m with stood := [(number, side)], without := 0 } else { m with stood := m.stood ++ [(number, side)], without := m.without + 1 }
def times (l : List P2) : Nat := match l.getLast? with
  | some x => l.countP (fun y => y == x)
  | none => 0
def M.endBy (m : M) (mover ends : Int) : M :=
  if ends = 1 then m.fin mover 0
  else if ends = 2 then m.fin 2 5
  else if ends = 3 then m.fin 2 6
  else if (times m.stood : Int) ≥ 5 then m.fin 2 9
  else if m.without ≥ 150 then m.fin 2 10
  else m
/-- made one more, the clock by what comes, the other's move -/
def M.step1 (m : M) : M := { m with m := put m.m m.side (get m.m m.side + 1) }
def M.step2 (m : M) : M := { m with c := put m.c m.side (get m.c m.side + m.coming (get m.m m.side)) }
def M.step3 (m : M) : M := { m with side := 1 - m.side }
def M.step4 (m : M) (mover : Int) : M := if m.offers = 1 - mover then { m with offers := -1 } else m
def M.moved (m : M) (number : Int) (fresh : Bool) (ends : Int) : M :=
  (((m.step1.step2.step3.step4 m.side).stand number (1 - m.side) fresh).endBy m.side ends)
def M.move (m : M) (used number : Int) (fresh : Bool) (ends : Int) : M := if m.left used > 0 then (m.takeOff used).moved number fresh ends else m.takeOff used
def M.giveTime (m : M) (side : Int) : M := { m with c := put m.c side (get m.c side + 1200) }
def M.wrong1 (m : M) : M := { m with w := put m.w m.side (get m.w m.side + 1) }
def M.blame (m : M) : M := if get m.w m.side = 1 then m.giveTime (1 - m.side) else m.lose m.side 3
def M.illegal (m : M) (used : Int) : M := if m.left used > 0 then (m.takeOff used).wrong1.blame else m.takeOff used
def M.isClaimed (m : M) (claim : Int) : Bool := if claim = 0 then decide ((times m.stood : Int) ≥ 3) else decide (m.without ≥ 100)
def M.offered (m : M) : M := if m.offers = -1 then { m with offers := m.side } else m
def M.claim (m : M) (claim : Int) : M := if m.isClaimed claim = true then m.fin 2 (if claim = 0 then 7 else 8) else (m.giveTime (1 - m.side)).offered
def M.over (m : M) : Bool := !decide (m.why = -1)
def M.stands (m : M) : List Int := [if m.over = true then 1 else 0, m.side, m.c.1, m.c.2, m.winner, m.why]
def M.told (m : M) : List Int := m.stands ++ [m.m.1, m.m.2, m.w.1, m.w.2, m.offers, m.u.1, m.u.2]
def M.clocksTold (m : M) : List Int := [(m.str.length : Int), ofStr (m.m.1 + 1) 0 m.str, ofStr (m.m.2 + 1) 0 m.str]
def M.positionsTold (m : M) : List Int := [(times m.stood : Int), m.without, (m.stood.length : Int)]
def pairsOf : List Int → List P2
  | a :: b :: l => (a, b) :: pairsOf l
  | _ => []
def lastOf (l : List P2) : Int := match l.getLast? with
  | some x => x.1
  | none => 0
def goodRow (row : List Int) : Bool :=
  if row.length % 2 = 1 ∨ ¬ (1 ≤ row.length / 2 ∧ row.length / 2 ≤ 4) then false
  else if ¬ lastOf (pairsOf row) = 0 ∨ ¬ ((pairsOf row).dropLast.all fun p => decide (1 ≤ p.1) && decide (p.1 ≤ 200)) = true then false
  else (pairsOf row).all fun p => decide (1 ≤ p.2) && decide (p.2 ≤ 1000000)
def inn (n most : Int) : Bool := decide (0 ≤ n) && decide (n ≤ most)
/-- a call: refused, or the game then and what is answered -/
abbrev R := Except Int (Option M × List Int)
def onM (s : Option M) (f : M → R) : R := match s with
  | none => .error (-2)
  | some m => if m.over = true then .error (-2) else f m
def told1 (m : M) : R := .ok (some m, m.stands)
def desk (s : Option M) : Kg69.Call → R
  | .begin_ m e n l => if inn m 2 = true ∧ inn e 6000 = true ∧ inn n 1000000 = true ∧ goodRow l = true then .ok (some (M.fresh m e (pairsOf l) n), [0]) else .error (-1)
  | .move u n f e => if inn u 10000000 = true ∧ inn n 1000000 = true ∧ inn f 1 = true ∧ inn e 3 = true then onM s fun m => told1 (m.move u n (decide (f = 1)) e) else .error (-1)
  | .illegal u => if inn u 10000000 = true then onM s fun m => told1 (m.illegal u) else .error (-1)
  | .can w y => if inn w 1 = true ∧ inn y 1 = true then onM s fun m => .ok (some { m with u := put m.u w y }, [0]) else .error (-1)
  | .offer w => if inn w 1 = true then onM s fun m => if m.offers = -1 then .ok (some { m with offers := w }, [0]) else .error (-4) else .error (-1)
  | .accept w => if inn w 1 = true then onM s fun m => if m.offers = 1 - w then told1 (m.fin 2 4) else .error (-4) else .error (-1)
  | .claim k => if inn k 1 = true then onM s fun m => told1 (m.claim k) else .error (-1)
  | .give w => if inn w 1 = true then onM s fun m => told1 (m.lose w 1) else .error (-1)
  | .now => match s with
    | none => .error (-2)
    | some m => .ok (some m, m.told)
  | .clocks => match s with
    | none => .error (-2)
    | some m => .ok (some m, m.clocksTold)
  | .again => match s with
    | none => .error (-2)
    | some m => .ok (some m, m.positionsTold)
/-- the state then, what is answered -/
def next (s : Option M) (c : Kg69.Call) : Option M := match desk s c with
  | .ok x => x.1
  | .error _ => s
def outOf (s : Option M) (c : Kg69.Call) : List Int := match desk s c with
  | .ok x => x.2
  | .error e => [e]
def runM : Option M → List Kg69.Call → List Int
  | _, [] => []
  | s, c :: r => ((outOf s c).length : Int) :: outOf s c ++ runM (next s c) r
/-- what the walk asks of a game -/
structure Fit (m : M) : Prop where
  side : m.side = 0 ∨ m.side = 1
  str : m.str ≠ []
  stood : m.stood ≠ []
end Ck

namespace Ck
/-! ### The plain functions answer as the specification does -/
def cst (s : Kg69.Stretch) : P2 := ((s.moves : Int), (s.tenths : Int))
def csn (s : Kg69.Seen) : P2 := ((s.number : Int), (s.who : Int))
def winOf (r : Option Kg69.Result) : Int := match r with
  | none => -1
  | some r => match r.winner with
    | some w => (w : Int)
    | none => 2
def whyOf (r : Option Kg69.Result) : Int := match r with
  | none => -1
  | some r => (r.why : Int)
def ofGame (g : Kg69.Game) : M :=
  { mode := (g.mode : Int), extra := (g.extra : Int), str := g.stretches.map cst, side := (g.who : Int), c := ((g.a.left : Int), (g.b.left : Int)), m := ((g.a.moves : Int), (g.b.moves : Int)),
    w := ((g.a.illegal : Int), (g.b.illegal : Int)), u := (Kg69.truth g.a.can, Kg69.truth g.b.can), offers := Kg69.opt g.offer, winner := winOf g.result, why := whyOf g.result, stood := g.seen.map csn, without := (g.quiet : Int) }
structure GOk (g : Kg69.Game) : Prop where
  who : g.who = 0 ∨ g.who = 1
  str : g.stretches ≠ []
  seen : g.seen ≠ []
theorem truth_one (b : Bool) : (Kg69.truth b = 1) = (b = true) := by
  cases b <;> simp [Kg69.truth]
theorem csn_beq (a b : Kg69.Seen) : (csn a == csn b) = (a == b) := by
  obtain ⟨n, w⟩ := a
  obtain ⟨n', w'⟩ := b
  rw [Bool.eq_iff_iff]
  simp only [beq_iff_eq, csn, Prod.mk.injEq, Kg69.Seen.mk.injEq]
  omega
theorem times_map (l : List Kg69.Seen) : times (l.map csn) = (match l.getLast? with
  | some x => (l.filter fun y => y == x).length
  | none => 0) := by
  unfold times
  rw [List.getLast?_map]
  cases l.getLast? with
  | none => rfl
  | some x =>
    show (l.map csn).countP (fun y => y == csn x) = (l.filter fun y => y == x).length
    rw [List.countP_map, List.countP_eq_length_filter]
    congr 1
    apply List.filter_congr
    intro y _
    exact csn_beq y x
theorem times_game (g : Kg69.Game) : times (ofGame g).stood = g.times := times_map g.seen
theorem ofStr_zero : ∀ (l : List Kg69.Stretch) (made ahead : Nat), made < ahead → ofStr (made : Int) (ahead : Int) (l.map cst) = 0
  | [], _, _, _ => rfl
  | [_], _, _, _ => rfl
  | x :: y :: l, made, ahead, h => by
    show (if (ahead : Int) + (x.moves : Int) = (made : Int) then (y.tenths : Int) else ofStr (made : Int) ((ahead : Int) + (x.moves : Int)) ((y :: l).map cst)) = 0
    rw [if_neg (by omega)]
    have := ofStr_zero (y :: l) made (ahead + x.moves) (by omega)
    rw [Int.natCast_add] at this
    exact this
theorem ofStr_new : ∀ (l : List Kg69.Stretch) (n ahead : Nat), ofStr ((ahead + n : Nat) : Int) (ahead : Int) (l.map cst) = (Kg69.newTime n l : Int)
  | [], _, _ => rfl
  | [_], _, _ => rfl
  | x :: y :: l, n, ahead => by
    show (if (ahead : Int) + (x.moves : Int) = ((ahead + n : Nat) : Int) then (y.tenths : Int) else ofStr ((ahead + n : Nat) : Int) ((ahead : Int) + (x.moves : Int)) ((y :: l).map cst)) =
      ((if x.moves = n then y.tenths else if n < x.moves then 0 else Kg69.newTime (n - x.moves) (y :: l) : Nat) : Int)
    by_cases h : x.moves = n
    · rw [if_pos (by omega), if_pos h]
    · rw [if_neg (by omega), if_neg h]
      by_cases h2 : n < x.moves
      · rw [if_pos h2]
        have := ofStr_zero (y :: l) (ahead + n) (ahead + x.moves) (by omega)
        rw [Int.natCast_add ahead x.moves] at this
        exact this
      · rw [if_neg h2]
        have := ofStr_new (y :: l) (n - x.moves) (ahead + x.moves)
        rw [show ahead + x.moves + (n - x.moves) = ahead + n by omega, Int.natCast_add ahead x.moves] at this
        exact this
theorem ofStr_game (l : List Kg69.Stretch) (n : Nat) : ofStr (n : Int) 0 (l.map cst) = (Kg69.newTime n l : Int) := by
  have := ofStr_new l n 0
  rw [Nat.zero_add] at this
  exact this
theorem taken_nat (mode extra used : Nat) : taken (mode : Int) (extra : Int) (used : Int) = ((if mode = 2 then used - min used extra else used : Nat) : Int) := by
  unfold taken
  by_cases h : mode = 2
  · rw [if_pos (by omega), if_pos h]
    split <;> omega
  · rw [if_neg (by omega), if_neg h]
theorem added_nat (mode extra : Nat) : added (mode : Int) (extra : Int) = ((if mode = 1 then extra else 0 : Nat) : Int) := by
  unfold added
  by_cases h : mode = 1
  · rw [if_pos (by omega), if_pos h]
    omega
  · rw [if_neg (by omega), if_neg h]
    omega
theorem lose_game (g : Kg69.Game) (w why : Nat) (hw : w = 0 ∨ w = 1) : ofGame (g.loses w why) = (ofGame g).lose (w : Int) (why : Int) := by
  unfold M.lose Kg69.Game.loses
  have e : get (ofGame g).u (1 - (w : Int)) = Kg69.truth (g.side (1 - w)).can := by
    rcases hw with rfl | rfl <;> simp [get, ofGame, Kg69.Game.side]
  rw [e]
  simp only [truth_one]
  by_cases h : (g.side (1 - w)).can = true
  · rw [if_pos h, if_pos h]
    rcases hw with rfl | rfl <;> rfl
  · rw [if_neg h, if_neg h]
    rfl
theorem left_game (g : Kg69.Game) (hw : g.who = 0 ∨ g.who = 1) (used : Nat) : (ofGame g).left (used : Int) = ((g.side g.who).left : Int) - ((if g.mode = 2 then used - min used g.extra else used : Nat) : Int) := by
  unfold M.left
  rw [show (ofGame g).mode = (g.mode : Int) from rfl, show (ofGame g).extra = (g.extra : Int) from rfl, taken_nat]
  congr 1
  rcases hw with h | h <;> simp [get, ofGame, Kg69.Game.side, h]
theorem falls_game (g : Kg69.Game) (hw : g.who = 0 ∨ g.who = 1) (used : Nat) : g.falls (g.side g.who) used = !decide ((ofGame g).left (used : Int) > 0) := by
  rw [left_game g hw]
  unfold Kg69.Game.falls
  rw [← decide_not, decide_eq_decide]
  split <;> omega
theorem set0_game (g : Kg69.Game) (hw : g.who = 0 ∨ g.who = 1) (x : Nat) : ofGame (g.set g.who { g.side g.who with left := x }) = { ofGame g with c := put (ofGame g).c (ofGame g).side (x : Int) } := by
  rcases hw with h | h <;> simp [ofGame, put, Kg69.Game.set, Kg69.Game.side, h]
theorem flag_game (g : Kg69.Game) (hw : g.who = 0 ∨ g.who = 1) (used : Nat) (h : ¬ (ofGame g).left (used : Int) > 0) : ofGame ((g.set g.who { g.side g.who with left := 0 }).loses g.who 2) = (ofGame g).takeOff (used : Int) := by
  unfold M.takeOff
  rw [if_neg h, lose_game _ _ _ hw, set0_game g hw]
  rfl
theorem ofGame_fin (g : Kg69.Game) (w : Option Nat) (why : Nat) : ofGame { g with result := some ⟨w, why⟩ } = (ofGame g).fin (match w with | some w => (w : Int) | none => 2) (why : Int) := rfl
def afterMove (g : Kg69.Game) (used number : Nat) (fresh : Bool) : Kg69.Game := { (g.set g.who (g.clock (g.side g.who) used)) with
  who := 1 - g.who, seen := (if fresh = true then [] else g.seen) ++ [⟨number, 1 - g.who⟩], quiet := if fresh = true then 0 else g.quiet + 1, offer := if g.offer = some (1 - g.who) then none else g.offer }
def endedBy (k : Kg69.Game) (w ends : Nat) : Kg69.Game := if ends = 1 then { k with result := some ⟨some w, 0⟩ } else if ends = 2 then { k with result := some ⟨none, 5⟩ } else if ends = 3 then { k with result := some ⟨none, 6⟩ }
  else if 5 ≤ k.times then { k with result := some ⟨none, 9⟩ } else if 150 ≤ k.quiet then { k with result := some ⟨none, 10⟩ } else k
theorem moved_eq (g : Kg69.Game) (used number : Nat) (fresh : Bool) (ends : Nat) : g.moved used number fresh ends = if g.falls (g.side g.who) used = true then (g.set g.who { g.side g.who with left := 0 }).loses g.who 2 else endedBy (afterMove g used number fresh) g.who ends := rfl
theorem after_eq (m : M) (used number : Int) (fresh : Bool) (h : m.left used > 0) : (((m.takeOff used).step1.step2.step3.step4 m.side).stand number (1 - m.side) fresh) =
    { mode := m.mode, extra := m.extra, str := m.str, side := 1 - m.side, c := put (put m.c m.side (m.left used)) m.side (get (put m.c m.side (m.left used)) m.side + (ofStr (get (put m.m m.side (get m.m m.side + 1)) m.side) 0 m.str + added m.mode m.extra)),
      m := put m.m m.side (get m.m m.side + 1), w := m.w, u := m.u, offers := if m.offers = 1 - m.side then -1 else m.offers, winner := m.winner, why := m.why,
      stood := if fresh = true then [(number, 1 - m.side)] else m.stood ++ [(number, 1 - m.side)], without := if fresh = true then 0 else m.without + 1 } := by
  unfold M.takeOff
  rw [if_pos h]
  unfold M.step1 M.step2 M.step3 M.step4 M.stand M.coming
  dsimp only
  by_cases h1 : m.offers = 1 - m.side
  · cases fresh <;> simp [h1]
  · cases fresh <;> simp [h1]
theorem opt_off (o : Option Nat) (w : Nat) (hw : w = 0 ∨ w = 1) : Kg69.opt (if o = some (1 - w) then none else o) = if Kg69.opt o = 1 - (w : Int) then -1 else Kg69.opt o := by
  cases o with
  | none =>
    rcases hw with rfl | rfl <;> simp [Kg69.opt]
  | some v =>
    by_cases z : v = 1 - w
    · rw [if_pos (by rw [z]), if_pos (by show (v : Int) = 1 - (w : Int); omega)]
      rfl
    · rw [if_neg (fun q => z (Option.some.inj q)), if_neg (by show ¬ (v : Int) = 1 - (w : Int); omega)]
theorem clock_nat (l s t n : Nat) (h : (l : Int) - (s : Int) > 0) : ((l - s + t + n : Nat) : Int) = (l : Int) - (s : Int) + ((n : Int) + (t : Int)) := by omega
theorem move_game (g : Kg69.Game) (ok : GOk g) (used number : Nat) (fresh : Bool) (ends : Nat) : ofGame (g.moved used number fresh ends) = (ofGame g).move (used : Int) (number : Int) fresh (ends : Int) := by
  unfold M.move
  rw [moved_eq, falls_game g ok.who]
  by_cases h : (ofGame g).left (used : Int) > 0
  · rw [decide_eq_true h]
    rw [if_neg (by decide), if_pos h]
    generalize hh : afterMove g used number fresh = k
    have e : ofGame k = (((((ofGame g).takeOff (used : Int)).step1.step2.step3.step4 (ofGame g).side).stand (number : Int) (1 - (ofGame g).side) fresh)) := by
      subst hh
      rw [after_eq _ _ _ _ h, left_game g ok.who used]
      rw [left_game g ok.who used] at h
      have ew : ((1 - g.who : Nat) : Int) = 1 - (g.who : Int) := by
        rcases ok.who with z | z <;> omega
      have e1 : ∀ n : Nat, ((n : Int) + 1) = ((n + 1 : Nat) : Int) := fun n => by omega
      have hr : (afterMove g used number fresh).result = g.result := by
        unfold afterMove Kg69.Game.set
        split <;> rfl
      rw [show (ofGame g).mode = (g.mode : Int) from rfl, show (ofGame g).extra = (g.extra : Int) from rfl, added_nat]
      rw [show ofGame (afterMove g used number fresh) = M.mk _ _ _ _ _ _ _ _ _ _ _ _ _ from rfl, M.mk.injEq]
      refine ⟨?_, ?_, ?_, ew, ?_, ?_, ?_, ?_, opt_off g.offer g.who ok.who, ?_, ?_, ?_, ?_⟩
      · rcases ok.who with z | z <;> simp [afterMove, Kg69.Game.set, z]
      · rcases ok.who with z | z <;> simp [afterMove, Kg69.Game.set, z]
      · rcases ok.who with z | z <;> simp [afterMove, Kg69.Game.set, z, ofGame]
      · rcases ok.who with z | z
        · simp only [afterMove, Kg69.Game.set, Kg69.Game.side, Kg69.Game.clock, z, ofGame, get, put, if_true, Int.natCast_zero, Prod.mk.injEq, and_true, e1, ofStr_game] at h ⊢
          exact clock_nat _ _ _ _ h
        · simp only [afterMove, Kg69.Game.set, Kg69.Game.side, Kg69.Game.clock, z, ofGame, get, put, Nat.one_ne_zero, if_false, Int.natCast_one, show ¬ ((1 : Int) = 0) by decide, Prod.mk.injEq, true_and, e1, ofStr_game] at h ⊢
          exact clock_nat _ _ _ _ h
      · rcases ok.who with z | z <;> simp [afterMove, Kg69.Game.set, Kg69.Game.side, Kg69.Game.clock, z, ofGame, get, put]
      · rcases ok.who with z | z <;> simp [afterMove, Kg69.Game.set, Kg69.Game.side, Kg69.Game.clock, z, ofGame]
      · rcases ok.who with z | z <;> simp [afterMove, Kg69.Game.set, Kg69.Game.side, Kg69.Game.clock, z, ofGame]
      · rw [hr]
        rfl
      · rw [hr]
        rfl
      · show ((if fresh = true then [] else g.seen) ++ [(⟨number, 1 - g.who⟩ : Kg69.Seen)]).map csn = _
        cases fresh
        · simp only [Bool.false_eq_true, if_false, List.map_append, List.map_cons, List.map_nil, csn, ew]
          rfl
        · simp only [if_true, List.nil_append, List.map_cons, List.map_nil, csn, ew]
          rfl
      · show ((if fresh = true then 0 else g.quiet + 1 : Nat) : Int) = _
        cases fresh
        · simp only [Bool.false_eq_true, if_false]
          rfl
        · rfl
    have et := times_game k
    have eq_ : (ofGame k).without = (k.quiet : Int) := rfl
    unfold endedBy
    have es : ((ofGame g).takeOff (used : Int)).side = (ofGame g).side := by
      unfold M.takeOff
      rw [if_pos h]
    unfold M.moved
    rw [es, ← e]
    unfold M.endBy
    rw [et, eq_]
    by_cases h1 : ends = 1
    · rw [if_pos h1, if_pos (show (ends : Int) = 1 by omega)]
      rfl
    rw [if_neg h1, if_neg (show ¬ (ends : Int) = 1 by omega)]
    by_cases h2 : ends = 2
    · rw [if_pos h2, if_pos (show (ends : Int) = 2 by omega)]
      rfl
    rw [if_neg h2, if_neg (show ¬ (ends : Int) = 2 by omega)]
    by_cases h3 : ends = 3
    · rw [if_pos h3, if_pos (show (ends : Int) = 3 by omega)]
      rfl
    rw [if_neg h3, if_neg (show ¬ (ends : Int) = 3 by omega)]
    by_cases h4 : 5 ≤ k.times
    · rw [if_pos h4, if_pos (show (k.times : Int) ≥ 5 by omega)]
      rfl
    rw [if_neg h4, if_neg (show ¬ (k.times : Int) ≥ 5 by omega)]
    by_cases h5 : 150 ≤ k.quiet
    · rw [if_pos h5, if_pos (show (k.quiet : Int) ≥ 150 by omega)]
      rfl
    rw [if_neg h5, if_neg (show ¬ (k.quiet : Int) ≥ 150 by omega)]
  · rw [decide_eq_false h]
    rw [if_pos (by decide), if_neg h]
    exact flag_game g ok.who used h

/-! ### illegal moves, claims -/
def wronged (g : Kg69.Game) (used : Nat) : Kg69.Side := { g.side g.who with left := (g.side g.who).left - (if g.mode = 2 then used - min used g.extra else used), illegal := (g.side g.who).illegal + 1 }
def afterWrong (g : Kg69.Game) (used : Nat) : Kg69.Game := g.set g.who (wronged g used)
def blamed (h : Kg69.Game) (w n : Nat) : Kg69.Game := if 2 ≤ n then h.loses w 3 else h.set (1 - w) { h.side (1 - w) with left := (h.side (1 - w)).left + 1200 }
theorem wrong_eq (g : Kg69.Game) (used : Nat) : g.wrong used = if g.falls (g.side g.who) used = true then (g.set g.who { g.side g.who with left := 0 }).loses g.who 2 else blamed (afterWrong g used) g.who (wronged g used).illegal := rfl
theorem give_game (g : Kg69.Game) (w : Nat) (hw : w = 0 ∨ w = 1) : ofGame (g.set w { g.side w with left := (g.side w).left + 1200 }) = (ofGame g).giveTime (w : Int) := by
  rcases hw with rfl | rfl <;> simp [ofGame, M.giveTime, get, put, Kg69.Game.set, Kg69.Game.side]
theorem illegal_game (g : Kg69.Game) (ok : GOk g) (used : Nat) : ofGame (g.wrong used) = (ofGame g).illegal (used : Int) := by
  unfold M.illegal
  rw [wrong_eq, falls_game g ok.who]
  by_cases h : (ofGame g).left (used : Int) > 0
  · rw [decide_eq_true h]
    rw [if_neg (by decide), if_pos h]
    have e : ofGame (afterWrong g used) = ((ofGame g).takeOff (used : Int)).wrong1 := by
      unfold M.takeOff M.wrong1
      rw [if_pos h, left_game g ok.who used]
      rw [left_game g ok.who used] at h
      rcases ok.who with z | z
      · simp only [Kg69.Game.side, z, if_true] at h
        simp only [afterWrong, wronged, Kg69.Game.set, Kg69.Game.side, z, ofGame, get, put, if_true, Int.natCast_zero]
        simp only [M.mk.injEq, Prod.mk.injEq, and_true, true_and]
        omega
      · simp only [Kg69.Game.side, z, Nat.one_ne_zero, if_false] at h
        simp only [afterWrong, wronged, Kg69.Game.set, Kg69.Game.side, z, ofGame, get, put, Nat.one_ne_zero, if_false, Int.natCast_one, show ¬ ((1 : Int) = 0) by decide]
        simp only [M.mk.injEq, Prod.mk.injEq, and_true, true_and]
        omega
    rw [← e]
    have hwho : (afterWrong g used).who = g.who := by
      unfold afterWrong Kg69.Game.set
      split <;> rfl
    have hi : get (ofGame (afterWrong g used)).w (ofGame (afterWrong g used)).side = ((wronged g used).illegal : Int) := by
      rw [show (ofGame (afterWrong g used)).side = ((afterWrong g used).who : Int) from rfl, hwho]
      rcases ok.who with z | z <;> simp [get, ofGame, afterWrong, Kg69.Game.set, z]
    have hge : 1 ≤ (wronged g used).illegal := by
      show 1 ≤ (g.side g.who).illegal + 1
      omega
    have hs : (ofGame (afterWrong g used)).side = (g.who : Int) := by
      rw [show (ofGame (afterWrong g used)).side = ((afterWrong g used).who : Int) from rfl, hwho]
    unfold M.blame blamed
    rw [hi, hs]
    by_cases h2 : 2 ≤ (wronged g used).illegal
    · rw [if_pos h2, if_neg (by omega)]
      exact lose_game _ _ _ ok.who
    · rw [if_neg h2, if_pos (by omega), give_game _ _ (by rcases ok.who with z | z <;> rw [z] <;> simp)]
      congr 1
      rcases ok.who with z | z <;> omega
  · rw [decide_eq_false h]
    rw [if_pos (by decide), if_neg h]
    exact flag_game g ok.who used h
theorem claim_yes (g : Kg69.Game) (k : Int) (hk : k = 0 ∨ k = 1) : (ofGame g).isClaimed k = true ↔ (k = 0 ∧ 3 ≤ g.times) ∨ (k = 1 ∧ 100 ≤ g.quiet) := by
  unfold M.isClaimed
  rw [times_game]
  have eq_ : (ofGame g).without = (g.quiet : Int) := rfl
  rw [eq_]
  rcases hk with rfl | rfl
  · rw [if_pos rfl, decide_eq_true_iff]
    omega
  · rw [if_neg (by decide), decide_eq_true_iff]
    omega
/-! ### stretches -/
theorem pairs_len : ∀ l : List Int, (pairsOf l).length = l.length / 2
  | [] => rfl
  | [_] => by simp [pairsOf]
  | _ :: _ :: l => by
    have := pairs_len l
    simp only [pairsOf, List.length_cons, this]
    omega
/-- all but the last for some moves, the last for none, tenths -/
def strOk : List P2 → Bool
  | [] => false
  | [p] => decide (p.1 = 0) && (decide (1 ≤ p.2) && decide (p.2 ≤ 1000000))
  | p :: q :: l => (decide (1 ≤ p.1) && decide (p.1 ≤ 200)) && ((decide (1 ≤ p.2) && decide (p.2 ≤ 1000000)) && strOk (q :: l))
theorem strOk_eq : ∀ l : List P2, l ≠ [] → strOk l = (decide (lastOf l = 0) && ((l.dropLast.all fun p => decide (1 ≤ p.1) && decide (p.1 ≤ 200)) && (l.all fun p => decide (1 ≤ p.2) && decide (p.2 ≤ 1000000))))
  | [], h => absurd rfl h
  | [p], _ => by
    show _ = (decide (p.1 = 0) && (true && ((decide (1 ≤ p.2) && decide (p.2 ≤ 1000000)) && true)))
    rw [Bool.and_true, Bool.true_and]
    rfl
  | p :: q :: l, _ => by
    have ih := strOk_eq (q :: l) (by simp)
    have e : lastOf (p :: q :: l) = lastOf (q :: l) := by simp [lastOf, List.getLast?_cons_cons]
    have e2 : ((p :: q :: l).all fun p => decide (1 ≤ p.2) && decide (p.2 ≤ 1000000)) = ((decide (1 ≤ p.2) && decide (p.2 ≤ 1000000)) && ((q :: l).all fun p => decide (1 ≤ p.2) && decide (p.2 ≤ 1000000))) := List.all_cons
    have e3 : ((p :: (q :: l).dropLast).all fun p => decide (1 ≤ p.1) && decide (p.1 ≤ 200)) = ((decide (1 ≤ p.1) && decide (p.1 ≤ 200)) && ((q :: l).dropLast.all fun p => decide (1 ≤ p.1) && decide (p.1 ≤ 200))) := List.all_cons
    rw [strOk, ih, e, List.dropLast_cons_cons, e2, e3]
    generalize ((q :: l).all fun p => decide (1 ≤ p.2) && decide (p.2 ≤ 1000000)) = z
    generalize ((q :: l).dropLast.all fun p => decide (1 ≤ p.1) && decide (p.1 ≤ 200)) = y
    generalize decide (lastOf (q :: l) = 0) = x
    generalize decide (1 ≤ p.1) = a
    generalize decide (p.1 ≤ 200) = b
    generalize decide (1 ≤ p.2) = c
    generalize decide (p.2 ≤ 1000000) = d
    cases a <;> cases b <;> cases c <;> cases d <;> cases x <;> cases y <;> rfl
theorem within_iff (z lo hi : Int) : Kg69.within z lo hi = true ↔ lo ≤ z ∧ z ≤ hi := by
  simp [Kg69.within]
theorem inn_within (z hi : Int) : inn z hi = Kg69.within z 0 hi := rfl
/-- the stretches that a row tells, if it does -/
theorem stretches_some : ∀ (l : List Int) (r : List Kg69.Stretch), Kg69.stretchesOf l = some r → l.length % 2 = 0 ∧ strOk (pairsOf l) = true ∧ r.map cst = pairsOf l
  | [], r, h => by simp [Kg69.stretchesOf] at h
  | [_], r, h => by simp [Kg69.stretchesOf] at h
  | [m, t], r, h => by
    unfold Kg69.stretchesOf at h
    split at h
    · rename_i c
      have e := Option.some.inj h
      subst e
      obtain ⟨rfl, c2⟩ := c
      rw [within_iff] at c2
      refine ⟨by simp, by simp [pairsOf, strOk, c2.1, c2.2], ?_⟩
      simp only [List.map_cons, List.map_nil, cst, pairsOf]
      rw [show ((t.toNat : Nat) : Int) = t by omega]
      rfl
    · cases h
  | m :: t :: x :: l, r, h => by
    unfold Kg69.stretchesOf at h
    split at h
    · rename_i c
      rw [within_iff, within_iff] at c
      cases hr : Kg69.stretchesOf (x :: l) with
      | none => rw [hr] at h; cases h
      | some r' =>
        rw [hr] at h
        have e := Option.some.inj h
        subst e
        obtain ⟨h1, h2, h3⟩ := stretches_some (x :: l) r' hr
        refine ⟨by simp only [List.length_cons] at h1 ⊢; omega, ?_, ?_⟩
        · cases hp : pairsOf (x :: l) with
          | nil => rw [hp] at h2; cases h2
          | cons q qs =>
            rw [hp] at h2
            show strOk ((m, t) :: pairsOf (x :: l)) = true
            rw [hp, strOk, h2]
            simp [c.1.1, c.1.2, c.2.1, c.2.2]
        · rw [List.map_cons, h3]
          simp only [cst, pairsOf]
          rw [show ((t.toNat : Nat) : Int) = t by omega, show ((m.toNat : Nat) : Int) = m by omega]
    · cases h
theorem stretches_none : ∀ (l : List Int), Kg69.stretchesOf l = none → l.length % 2 = 1 ∨ strOk (pairsOf l) = false
  | [], _ => by right; rfl
  | [_], _ => by left; rfl
  | [m, t], h => by
    right
    unfold Kg69.stretchesOf at h
    split at h
    · cases h
    · rename_i c
      rw [within_iff] at c
      show (decide (m = 0) && (decide (1 ≤ t) && decide (t ≤ 1000000))) = false
      rw [Bool.eq_false_iff]
      intro q
      simp only [Bool.and_eq_true, decide_eq_true_eq] at q
      exact c q
  | [_, _, _], _ => by left; simp
  | m :: t :: x :: y :: l, h => by
    unfold Kg69.stretchesOf at h
    have hp : pairsOf (m :: t :: x :: y :: l) = (m, t) :: (x, y) :: pairsOf l := rfl
    have hp2 : pairsOf (x :: y :: l) = (x, y) :: pairsOf l := rfl
    split at h
    · cases hr : Kg69.stretchesOf (x :: y :: l) with
      | some r' => rw [hr] at h; cases h
      | none =>
        rcases stretches_none (x :: y :: l) hr with z | z
        · left
          simp only [List.length_cons] at z ⊢
          omega
        · right
          rw [hp, strOk, ← hp2, z]
          simp
    · rename_i c
      right
      rw [within_iff, within_iff] at c
      rw [hp, strOk, Bool.eq_false_iff]
      intro q
      simp only [Bool.and_eq_true, decide_eq_true_eq] at q
      exact c ⟨q.1, q.2.1⟩
theorem good_eq (l : List Int) : goodRow l = true ↔ ∃ r, Kg69.stretchesOf l = some r ∧ r.length ≤ 4 := by
  have hl := pairs_len l
  unfold goodRow
  cases hr : Kg69.stretchesOf l with
  | some r =>
    obtain ⟨h1, h2, h3⟩ := stretches_some l r hr
    have hlen : r.length = l.length / 2 := by
      rw [← hl, ← h3, List.length_map]
    have hne : pairsOf l ≠ [] := fun z => by
      rw [z] at h2
      cases h2
    have hpos : 1 ≤ l.length / 2 := by
      rw [← hl]
      cases hp : pairsOf l with
      | nil => exact absurd hp hne
      | cons p q => simp
    rw [strOk_eq _ hne] at h2
    simp only [Bool.and_eq_true, decide_eq_true_eq] at h2
    by_cases h4 : l.length / 2 ≤ 4
    · rw [if_neg (by omega), if_neg (by
        intro z
        rcases z with z | z
        · exact z h2.1
        · exact z h2.2.1)]
      exact ⟨fun _ => ⟨r, rfl, by omega⟩, fun _ => h2.2.2⟩
    · rw [if_pos (by omega)]
      refine ⟨fun z => absurd z (by decide), fun ⟨r', e, h5⟩ => ?_⟩
      have e' := Option.some.inj e
      subst e'
      omega
  | none =>
    refine ⟨fun z => ?_, fun ⟨r', e, h5⟩ => nomatch e⟩
    exfalso
    split at z
    · cases z
    · rename_i c
      split at z
      · cases z
      · rename_i c2
        rcases stretches_none l hr with h1 | h1
        · exact c (.inl h1)
        · have hne : pairsOf l ≠ [] := fun q => by
            have : (pairsOf l).length = 0 := by rw [q]; rfl
            omega
          rw [strOk_eq _ hne, Bool.eq_false_iff] at h1
          refine h1 ?_
          simp only [Bool.and_eq_true, decide_eq_true_eq]
          refine ⟨?_, ?_, z⟩
          · exact Decidable.byContradiction fun q => c2 (.inl q)
          · exact Decidable.byContradiction fun q => c2 (.inr q)
/-! ### the calls -/
theorem over_game (g : Kg69.Game) : (ofGame g).over = g.result.isSome := by
  unfold M.over
  rw [show (ofGame g).why = whyOf g.result from rfl]
  cases g.result with
  | none => rfl
  | some r =>
    show (!decide ((r.why : Int) = -1)) = true
    rw [decide_eq_false (by omega)]
    rfl
theorem told_game (g : Kg69.Game) : (ofGame g).stands = Kg69.truth g.result.isSome :: Kg69.told g := by
  unfold M.stands
  rw [over_game]
  unfold Kg69.told Kg69.truth
  show [_, (g.who : Int), (g.a.left : Int), (g.b.left : Int), winOf g.result, whyOf g.result] = _
  cases h : g.result with
  | none => rfl
  | some r => rfl
theorem ok_set {g : Kg69.Game} (ok : GOk g) (w : Nat) (x : Kg69.Side) : GOk (g.set w x) := by
  unfold Kg69.Game.set
  split
  · exact ⟨ok.who, ok.str, ok.seen⟩
  · exact ⟨ok.who, ok.str, ok.seen⟩
theorem ok_loses {g : Kg69.Game} (ok : GOk g) (w y : Nat) : GOk (g.loses w y) := ⟨ok.who, ok.str, ok.seen⟩
theorem ok_moved {g : Kg69.Game} (ok : GOk g) (used number : Nat) (fresh : Bool) (ends : Nat) : GOk (g.moved used number fresh ends) := by
  rw [moved_eq]
  split
  · exact ok_loses (ok_set ok _ _) _ _
  · have k : GOk (afterMove g used number fresh) := ⟨by
      show 1 - g.who = 0 ∨ 1 - g.who = 1
      rcases ok.who with z | z <;> omega, (ok_set ok _ _).str, by
      show (if fresh = true then [] else g.seen) ++ [(⟨number, 1 - g.who⟩ : Kg69.Seen)] ≠ []
      simp⟩
    unfold endedBy
    repeat' split
    all_goals exact ⟨k.who, k.str, k.seen⟩
theorem ok_wrong {g : Kg69.Game} (ok : GOk g) (used : Nat) : GOk (g.wrong used) := by
  rw [wrong_eq]
  split
  · exact ok_loses (ok_set ok _ _) _ _
  · unfold blamed
    split
    · exact ok_loses (ok_set ok _ _) _ _
    · exact ok_set (ok_set ok _ _) _ _
structure Agree (s : Kg69.State) (c : Kg69.Call) : Prop where
  st : next (s.map ofGame) c = (Kg69.spec s c).1.map ofGame
  out : outOf (s.map ofGame) c = (Kg69.spec s c).2.value :: (Kg69.spec s c).2.out
  ok : ∀ g, (Kg69.spec s c).1 = some g → GOk g
theorem agree_err {s : Kg69.State} {c : Kg69.Call} {e : Int} (ok : ∀ g, s = some g → GOk g) (h1 : desk (s.map ofGame) c = .error e) (h2 : Kg69.spec s c = (s, Kg69.num e)) : Agree s c := by
  refine ⟨?_, ?_, ?_⟩
  · unfold next
    rw [h1, h2]
  · unfold outOf
    rw [h1, h2]
    rfl
  · rw [h2]
    exact ok
theorem agree_ok {s : Kg69.State} {c : Kg69.Call} {g : Kg69.Game} {a : Kg69.Ans} {m : M} {l : List Int} (h1 : desk (s.map ofGame) c = .ok (some m, l)) (h2 : Kg69.spec s c = (some g, a)) (e1 : ofGame g = m) (e2 : a.value :: a.out = l) (ok : GOk g) : Agree s c := by
  refine ⟨?_, ?_, ?_⟩
  · unfold next
    rw [h1, h2]
    exact congrArg some e1.symm
  · unfold outOf
    rw [h1, h2]
    exact e2.symm
  · rw [h2]
    intro g' e
    cases e
    exact ok
theorem not_and_false {a b : Bool} (h : ¬ (a = true ∧ b = true)) : (a && b) = false := by
  cases a <;> cases b <;> simp_all
theorem agree (s : Kg69.State) (ok : ∀ g, s = some g → GOk g) (c : Kg69.Call) : Agree s c := by
  cases c with
  | begin_ m e n l =>
    by_cases h : inn m 2 = true ∧ inn e 6000 = true ∧ inn n 1000000 = true ∧ goodRow l = true
    · obtain ⟨h1, h2, h3, h4⟩ := h
      have hd : desk (s.map ofGame) (.begin_ m e n l) = .ok (some (M.fresh m e (pairsOf l) n), [0]) := if_pos ⟨h1, h2, h3, h4⟩
      obtain ⟨r, hr, hr4⟩ := (good_eq l).mp h4
      obtain ⟨_, hs2, hs⟩ := stretches_some l r hr
      have hne : r ≠ [] := fun z => by
        rw [z] at hs
        rw [← hs] at hs2
        cases hs2
      have hsp : Kg69.spec s (.begin_ m e n l) = (some ⟨m.toNat, e.toNat, r, ⟨(r.headD ⟨0, 0⟩).tenths + (if m = 1 then e.toNat else 0), 0, 0, true⟩, ⟨(r.headD ⟨0, 0⟩).tenths + (if m = 1 then e.toNat else 0), 0, 0, true⟩, 0, [⟨n.toNat, 0⟩], 0, none, none⟩, Kg69.num 0) := by
        unfold Kg69.spec
        dsimp only
        rw [hr]
        dsimp only
        rw [if_neg]
        rw [← inn_within, ← inn_within, ← inn_within, h1, h2, h3, decide_eq_true hr4]
        decide
      rw [inn_within, within_iff] at h1 h2 h3
      refine agree_ok hd hsp ?_ rfl ⟨.inl rfl, hne, by simp⟩
      unfold M.fresh atFirst
      rw [← hs]
      have em : ((m.toNat : Nat) : Int) = m := by omega
      have ee : ((e.toNat : Nat) : Int) = e := by omega
      have en : ((n.toNat : Nat) : Int) = n := by omega
      have ef : firstOf (r.map cst) + added m e = (((r.headD ⟨0, 0⟩).tenths + (if m = 1 then e.toNat else 0) : Nat) : Int) := by
        have ea : added m e = ((if m = 1 then e.toNat else 0 : Nat) : Int) := by
          unfold added
          split <;> omega
        rw [ea, Int.natCast_add]
        cases r with
        | nil => exact absurd rfl hne
        | cons x r => rfl
      rw [ef]
      simp only [ofGame, em, ee, en, Kg69.truth, Kg69.opt, winOf, whyOf, List.map_cons, List.map_nil, csn, if_true]
      rfl
    · have hd : desk (s.map ofGame) (.begin_ m e n l) = .error (-1) := if_neg h
      refine agree_err ok hd ?_
      unfold Kg69.spec
      dsimp only
      cases hr : Kg69.stretchesOf l with
      | none => rfl
      | some r =>
        dsimp only
        rw [if_pos]
        rw [← inn_within, ← inn_within, ← inn_within, Bool.eq_false_iff]
        intro z
        simp only [Bool.and_eq_true, decide_eq_true_eq] at z
        exact h ⟨z.1, z.2.1, z.2.2.1, (good_eq l).mpr ⟨r, hr, z.2.2.2⟩⟩
  | move u n f e =>
    by_cases h : inn u 10000000 = true ∧ inn n 1000000 = true ∧ inn f 1 = true ∧ inn e 3 = true
    · have hb : (Kg69.within u 0 10000000 && (Kg69.within n 0 1000000 && (Kg69.within f 0 1 && Kg69.within e 0 3))) = true := by
        rw [← inn_within, ← inn_within, ← inn_within, ← inn_within, h.1, h.2.1, h.2.2.1, h.2.2.2]
        rfl
      have hd : desk (s.map ofGame) (.move u n f e) = onM (s.map ofGame) fun m => told1 (m.move u n (decide (f = 1)) e) := if_pos h
      have hs : Kg69.spec s (.move u n f e) = Kg69.onGame s fun g => Kg69.answered (g.moved u.toNat n.toNat (f == 1) e.toNat) := if_neg (by rw [hb]; decide)
      simp only [inn_within, within_iff] at h
      cases s with
      | none => exact agree_err ok hd hs
      | some g =>
        by_cases hv : g.result.isSome = true
        · exact agree_err ok (hd.trans (if_pos (by rw [over_game]; exact hv))) (hs.trans (if_pos hv))
        · refine agree_ok (hd.trans (if_neg (by rw [over_game]; exact hv))) (hs.trans (if_neg hv)) ?_ ?_ (ok_moved (ok g rfl) _ _ _ _)
          · rw [move_game g (ok g rfl)]
            rw [show ((u.toNat : Nat) : Int) = u by omega, show ((n.toNat : Nat) : Int) = n by omega, show ((e.toNat : Nat) : Int) = e by omega]
            rfl
          · rw [← told_game, move_game g (ok g rfl)]
            rw [show ((u.toNat : Nat) : Int) = u by omega, show ((n.toNat : Nat) : Int) = n by omega, show ((e.toNat : Nat) : Int) = e by omega]
            rfl
    · refine agree_err ok (if_neg h) (if_pos ?_)
      rw [← inn_within, ← inn_within, ← inn_within, ← inn_within, Bool.eq_false_iff]
      intro z
      simp only [Bool.and_eq_true] at z
      exact h z
  | illegal u =>
    by_cases h : inn u 10000000 = true
    · have hd : desk (s.map ofGame) (.illegal u) = onM (s.map ofGame) fun m => told1 (m.illegal u) := if_pos h
      have hs : Kg69.spec s (.illegal u) = Kg69.onGame s fun g => Kg69.answered (g.wrong u.toNat) := if_neg (by rw [← inn_within, h]; decide)
      simp only [inn_within, within_iff] at h
      cases s with
      | none => exact agree_err ok hd hs
      | some g =>
        by_cases hv : g.result.isSome = true
        · exact agree_err ok (hd.trans (if_pos (by rw [over_game]; exact hv))) (hs.trans (if_pos hv))
        · refine agree_ok (hd.trans (if_neg (by rw [over_game]; exact hv))) (hs.trans (if_neg hv)) ?_ ?_ (ok_wrong (ok g rfl) _)
          · rw [illegal_game g (ok g rfl), show ((u.toNat : Nat) : Int) = u by omega]
          · rw [← told_game, illegal_game g (ok g rfl), show ((u.toNat : Nat) : Int) = u by omega]
    · exact agree_err ok (if_neg h) (if_pos (by rw [← inn_within]; simpa using h))
  | can w y =>
    by_cases h : inn w 1 = true ∧ inn y 1 = true
    · have hd : desk (s.map ofGame) (.can w y) = onM (s.map ofGame) fun m => .ok (some { m with u := put m.u w y }, [0]) := if_pos h
      have hs : Kg69.spec s (.can w y) = Kg69.onGame s fun g => (some (g.set w.toNat { g.side w.toNat with can := y == 1 }), Kg69.num 0) := if_neg (by rw [← inn_within, ← inn_within, h.1, h.2]; decide)
      simp only [inn_within, within_iff] at h
      cases s with
      | none => exact agree_err ok hd hs
      | some g =>
        by_cases hv : g.result.isSome = true
        · exact agree_err ok (hd.trans (if_pos (by rw [over_game]; exact hv))) (hs.trans (if_pos hv))
        · refine agree_ok (hd.trans (if_neg (by rw [over_game]; exact hv))) (hs.trans (if_neg hv)) ?_ rfl (ok_set (ok g rfl) _ _)
          have hw : w = 0 ∨ w = 1 := by omega
          have hy : y = 0 ∨ y = 1 := by omega
          rcases hw with rfl | rfl <;> rcases hy with rfl | rfl <;> rfl
    · refine agree_err ok (if_neg h) (if_pos ?_)
      rw [← inn_within, ← inn_within]
      exact not_and_false h
  | offer w =>
    by_cases h : inn w 1 = true
    · have hd : desk (s.map ofGame) (.offer w) = onM (s.map ofGame) fun m => if m.offers = -1 then .ok (some { m with offers := w }, [0]) else .error (-4) := if_pos h
      have hs : Kg69.spec s (.offer w) = Kg69.onGame s fun g => if g.offer.isSome = true then (s, Kg69.num (-4)) else (some { g with offer := some w.toNat }, Kg69.num 0) := if_neg (by rw [← inn_within, h]; decide)
      simp only [inn_within, within_iff] at h
      cases s with
      | none => exact agree_err ok hd hs
      | some g =>
        by_cases hv : g.result.isSome = true
        · exact agree_err ok (hd.trans (if_pos (by rw [over_game]; exact hv))) (hs.trans (if_pos hv))
        · have hd2 := hd.trans (if_neg (by rw [over_game]; exact hv))
          have hs2 := hs.trans (if_neg hv)
          have eo : (ofGame g).offers = Kg69.opt g.offer := rfl
          cases ho : g.offer with
          | none =>
            refine agree_ok (hd2.trans (if_pos (by rw [eo, ho]; rfl))) (hs2.trans (if_neg (by rw [ho]; decide))) ?_ rfl ⟨(ok g rfl).who, (ok g rfl).str, (ok g rfl).seen⟩
            show ({ ofGame g with offers := ((w.toNat : Nat) : Int) } : M) = _
            rw [show ((w.toNat : Nat) : Int) = w by omega]
          | some v => exact agree_err ok (hd2.trans (if_neg (by rw [eo, ho]; show ¬ (v : Int) = -1; omega))) (hs2.trans (if_pos (by rw [ho]; rfl)))
    · exact agree_err ok (if_neg h) (if_pos (by rw [← inn_within]; simpa using h))
  | accept w =>
    by_cases h : inn w 1 = true
    · have hd : desk (s.map ofGame) (.accept w) = onM (s.map ofGame) fun m => if m.offers = 1 - w then told1 (m.fin 2 4) else .error (-4) := if_pos h
      have hs : Kg69.spec s (.accept w) = Kg69.onGame s fun g => if g.offer = some (1 - w.toNat) then Kg69.ended g ⟨none, 4⟩ else (s, Kg69.num (-4)) := if_neg (by rw [← inn_within, h]; decide)
      simp only [inn_within, within_iff] at h
      cases s with
      | none => exact agree_err ok hd hs
      | some g =>
        by_cases hv : g.result.isSome = true
        · exact agree_err ok (hd.trans (if_pos (by rw [over_game]; exact hv))) (hs.trans (if_pos hv))
        · have hd2 := hd.trans (if_neg (by rw [over_game]; exact hv))
          have hs2 := hs.trans (if_neg hv)
          have eo : (ofGame g).offers = Kg69.opt g.offer := rfl
          by_cases hq : g.offer = some (1 - w.toNat)
          · have e1 : ofGame { g with result := some ⟨none, 4⟩ } = (ofGame g).fin 2 4 := rfl
            refine agree_ok (hd2.trans (if_pos (by rw [eo, hq]; show ((1 - w.toNat : Nat) : Int) = 1 - w; omega))) (hs2.trans (if_pos hq)) e1 ?_ ⟨(ok g rfl).who, (ok g rfl).str, (ok g rfl).seen⟩
            show (1 : Int) :: Kg69.told _ = _
            rw [← e1, told_game]
            rfl
          · refine agree_err ok (hd2.trans (if_neg ?_)) (hs2.trans (if_neg hq))
            rw [eo]
            intro z
            apply hq
            cases ho : g.offer with
            | none =>
              rw [ho] at z
              have z' : (-1 : Int) = 1 - w := z
              omega
            | some v =>
              rw [ho] at z
              have z' : (v : Int) = 1 - w := z
              congr 1
              omega
    · exact agree_err ok (if_neg h) (if_pos (by rw [← inn_within]; simpa using h))
  | claim k =>
    by_cases h : inn k 1 = true
    · have hd : desk (s.map ofGame) (.claim k) = onM (s.map ofGame) fun m => told1 (m.claim k) := if_pos h
      have hs : Kg69.spec s (.claim k) = Kg69.onGame s fun g =>
          if k = 0 ∧ 3 ≤ g.times then Kg69.ended g ⟨none, 7⟩
          else if k = 1 ∧ 100 ≤ g.quiet then Kg69.ended g ⟨none, 8⟩
          else (some { (g.set (1 - g.who) { g.side (1 - g.who) with left := (g.side (1 - g.who)).left + 1200 }) with offer := if g.offer.isSome = true then g.offer else some g.who },
            ⟨0, Kg69.told (g.set (1 - g.who) { g.side (1 - g.who) with left := (g.side (1 - g.who)).left + 1200 })⟩) := if_neg (by rw [← inn_within, h]; decide)
      simp only [inn_within, within_iff] at h
      cases s with
      | none => exact agree_err ok hd hs
      | some g =>
        by_cases hv : g.result.isSome = true
        · exact agree_err ok (hd.trans (if_pos (by rw [over_game]; exact hv))) (hs.trans (if_pos hv))
        · have hd2 := hd.trans (if_neg (by rw [over_game]; exact hv))
          have hs2 := hs.trans (if_neg hv)
          have hk : k = 0 ∨ k = 1 := by omega
          have cy := claim_yes g k hk
          by_cases h7 : k = 0 ∧ 3 ≤ g.times
          · have ec : (ofGame g).claim k = (ofGame g).fin 2 7 := by
              unfold M.claim
              rw [if_pos (cy.mpr (.inl h7)), if_pos h7.1]
            have e1 : ofGame { g with result := some ⟨none, 7⟩ } = (ofGame g).fin 2 7 := rfl
            refine agree_ok hd2 (hs2.trans (if_pos h7)) (e1.trans ec.symm) ?_ ⟨(ok g rfl).who, (ok g rfl).str, (ok g rfl).seen⟩
            show (1 : Int) :: Kg69.told _ = _
            rw [ec, ← e1, told_game]
            rfl
          · by_cases h8 : k = 1 ∧ 100 ≤ g.quiet
            · have ec : (ofGame g).claim k = (ofGame g).fin 2 8 := by
                unfold M.claim
                rw [if_pos (cy.mpr (.inr h8)), if_neg (by omega)]
              have e1 : ofGame { g with result := some ⟨none, 8⟩ } = (ofGame g).fin 2 8 := rfl
              refine agree_ok hd2 ((hs2.trans (if_neg h7)).trans (if_pos h8)) (e1.trans ec.symm) ?_ ⟨(ok g rfl).who, (ok g rfl).str, (ok g rfl).seen⟩
              show (1 : Int) :: Kg69.told _ = _
              rw [ec, ← e1, told_game]
              rfl
            · have hno : ¬ (ofGame g).isClaimed k = true := fun z => by
                rcases cy.mp z with z | z
                · exact h7 z
                · exact h8 z
              have okg := ok g rfl
              have hw1 : 1 - g.who = 0 ∨ 1 - g.who = 1 := by rcases okg.who with z | z <;> omega
              have egi := give_game g (1 - g.who) hw1
              have ew : ((1 - g.who : Nat) : Int) = 1 - (ofGame g).side := by
                show ((1 - g.who : Nat) : Int) = 1 - (g.who : Int)
                rcases okg.who with z | z <;> omega
              rw [ew] at egi
              generalize hq : g.set (1 - g.who) { g.side (1 - g.who) with left := (g.side (1 - g.who)).left + 1200 } = q at hs2 egi
              have qo : q.offer = g.offer := by
                rw [← hq]
                unfold Kg69.Game.set
                split <;> rfl
              have qr : q.result = g.result := by
                rw [← hq]
                unfold Kg69.Game.set
                split <;> rfl
              have qw : q.who = g.who := by
                rw [← hq]
                unfold Kg69.Game.set
                split <;> rfl
              have ec : (ofGame g).claim k = ofGame { q with offer := if g.offer.isSome = true then g.offer else some g.who } := by
                unfold M.claim
                rw [if_neg hno, ← egi]
                unfold M.offered
                rw [show (ofGame q).offers = Kg69.opt q.offer from rfl, qo]
                cases ho : g.offer with
                | none =>
                  rw [if_pos (show Kg69.opt none = -1 from rfl)]
                  show ({ ofGame q with offers := (q.who : Int) } : M) = { ofGame q with offers := (g.who : Int) }
                  rw [qw]
                | some v =>
                  rw [if_neg (by show ¬ (v : Int) = -1; omega)]
                  show ofGame q = { ofGame q with offers := (v : Int) }
                  have : (ofGame q).offers = (v : Int) := by
                    show Kg69.opt q.offer = (v : Int)
                    rw [qo, ho]
                    rfl
                  rw [← this]
              have okq : GOk q := by
                rw [← hq]
                exact ok_set okg _ _
              refine agree_ok hd2 ((hs2.trans (if_neg h7)).trans (if_neg h8)) ec.symm ?_ ⟨okq.who, okq.str, okq.seen⟩
              rw [ec, told_game]
              show (0 : Int) :: Kg69.told q = Kg69.truth q.result.isSome :: Kg69.told _
              have : q.result.isSome = false := by
                rw [qr]
                simpa using hv
              rw [this]
              rfl
    · exact agree_err ok (if_neg h) (if_pos (by rw [← inn_within]; simpa using h))
  | give w =>
    by_cases h : inn w 1 = true
    · have hd : desk (s.map ofGame) (.give w) = onM (s.map ofGame) fun m => told1 (m.lose w 1) := if_pos h
      have hs : Kg69.spec s (.give w) = Kg69.onGame s fun g => Kg69.answered (g.loses w.toNat 1) := if_neg (by rw [← inn_within, h]; decide)
      simp only [inn_within, within_iff] at h
      cases s with
      | none => exact agree_err ok hd hs
      | some g =>
        by_cases hv : g.result.isSome = true
        · exact agree_err ok (hd.trans (if_pos (by rw [over_game]; exact hv))) (hs.trans (if_pos hv))
        · have el : ofGame (g.loses w.toNat 1) = (ofGame g).lose w 1 := by
            rw [lose_game g w.toNat 1 (by omega), show ((w.toNat : Nat) : Int) = w by omega]
            rfl
          refine agree_ok (hd.trans (if_neg (by rw [over_game]; exact hv))) (hs.trans (if_neg hv)) el ?_ (ok_loses (ok g rfl) _ _)
          rw [← told_game, el]
    · exact agree_err ok (if_neg h) (if_pos (by rw [← inn_within]; simpa using h))
  | now =>
    cases s with
    | none => exact agree_err ok rfl rfl
    | some g =>
      refine agree_ok (m := ofGame g) (l := (ofGame g).told) rfl rfl rfl ?_ (ok g rfl)
      unfold M.told
      rw [told_game]
      rfl
  | clocks =>
    cases s with
    | none => exact agree_err ok rfl rfl
    | some g =>
      refine agree_ok (m := ofGame g) (l := (ofGame g).clocksTold) rfl rfl rfl ?_ (ok g rfl)
      unfold M.clocksTold
      have e1 : ∀ n : Nat, ((n : Int) + 1) = ((n + 1 : Nat) : Int) := fun n => by omega
      show _ = [((g.stretches.map cst).length : Int), ofStr ((g.a.moves : Int) + 1) 0 (g.stretches.map cst), ofStr ((g.b.moves : Int) + 1) 0 (g.stretches.map cst)]
      rw [e1, e1, ofStr_game, ofStr_game, List.length_map]
  | again =>
    cases s with
    | none => exact agree_err ok rfl rfl
    | some g =>
      refine agree_ok (m := ofGame g) (l := (ofGame g).positionsTold) rfl rfl rfl ?_ (ok g rfl)
      unfold M.positionsTold
      rw [times_game]
      show _ = [(g.times : Int), (g.quiet : Int), ((g.seen.map csn).length : Int)]
      rw [List.length_map]
theorem play_run : ∀ (cs : List Kg69.Call) (s : Kg69.State), (∀ g, s = some g → GOk g) → play s cs = runM (s.map ofGame) cs
  | [], _, _ => rfl
  | c :: r, s, ok => by
    have a := agree s ok c
    show ansOf (Kg69.spec s c).2 ++ play (Kg69.spec s c).1 r = ((outOf (s.map ofGame) c).length : Int) :: outOf (s.map ofGame) c ++ runM (next (s.map ofGame) c) r
    rw [a.st, a.out, play_run r _ a.ok]
    rfl
theorem answers_run (l : List Int) (h : PyKg69.answers_asked l = true) : ∃ cs : List Kg69.Call, l = cs.flatMap enc ∧ cs.length ≤ 250 ∧ PyKg69.answers l = runM none cs := by
  obtain ⟨cs, h1, h2, h3⟩ := parsed l h
  exact ⟨cs, h1, h2, h3.trans (play_run cs none (fun g e => nomatch e))⟩
end Ck

namespace Ck
open PySem PySem.Spec PyProof.Rows L2
def mF (x0 x1 x2 x3 x4 x5 x6 x7 x8 x9 : V) : List (Str × V) := [("times", x0), ("positions", x1), ("side", x2), ("clocks", x3), ("made", x4), ("wrong", x5), ("could", x6), ("offers", x7), ("winner", x8), ("why", x9)]
theorem mF_times {x0 x1 x2 x3 x4 x5 x6 x7 x8 x9 : V} : List.lookup ("times" : Str) (mF x0 x1 x2 x3 x4 x5 x6 x7 x8 x9) = some x0 := by kernel_rfl
theorem mF_positions {x0 x1 x2 x3 x4 x5 x6 x7 x8 x9 : V} : List.lookup ("positions" : Str) (mF x0 x1 x2 x3 x4 x5 x6 x7 x8 x9) = some x1 := by kernel_rfl
theorem mF_side {x0 x1 x2 x3 x4 x5 x6 x7 x8 x9 : V} : List.lookup ("side" : Str) (mF x0 x1 x2 x3 x4 x5 x6 x7 x8 x9) = some x2 := by kernel_rfl
theorem mF_clocks {x0 x1 x2 x3 x4 x5 x6 x7 x8 x9 : V} : List.lookup ("clocks" : Str) (mF x0 x1 x2 x3 x4 x5 x6 x7 x8 x9) = some x3 := by kernel_rfl
theorem mF_made {x0 x1 x2 x3 x4 x5 x6 x7 x8 x9 : V} : List.lookup ("made" : Str) (mF x0 x1 x2 x3 x4 x5 x6 x7 x8 x9) = some x4 := by kernel_rfl
theorem mF_wrong {x0 x1 x2 x3 x4 x5 x6 x7 x8 x9 : V} : List.lookup ("wrong" : Str) (mF x0 x1 x2 x3 x4 x5 x6 x7 x8 x9) = some x5 := by kernel_rfl
theorem mF_could {x0 x1 x2 x3 x4 x5 x6 x7 x8 x9 : V} : List.lookup ("could" : Str) (mF x0 x1 x2 x3 x4 x5 x6 x7 x8 x9) = some x6 := by kernel_rfl
theorem mF_offers {x0 x1 x2 x3 x4 x5 x6 x7 x8 x9 : V} : List.lookup ("offers" : Str) (mF x0 x1 x2 x3 x4 x5 x6 x7 x8 x9) = some x7 := by kernel_rfl
theorem mF_winner {x0 x1 x2 x3 x4 x5 x6 x7 x8 x9 : V} : List.lookup ("winner" : Str) (mF x0 x1 x2 x3 x4 x5 x6 x7 x8 x9) = some x8 := by kernel_rfl
theorem mF_why {x0 x1 x2 x3 x4 x5 x6 x7 x8 x9 : V} : List.lookup ("why" : Str) (mF x0 x1 x2 x3 x4 x5 x6 x7 x8 x9) = some x9 := by kernel_rfl
theorem mF_no_is_over {x0 x1 x2 x3 x4 x5 x6 x7 x8 x9 : V} : List.lookup ("is_over" : Str) (mF x0 x1 x2 x3 x4 x5 x6 x7 x8 x9) = none := by kernel_rfl
theorem mF_no_end {x0 x1 x2 x3 x4 x5 x6 x7 x8 x9 : V} : List.lookup ("end" : Str) (mF x0 x1 x2 x3 x4 x5 x6 x7 x8 x9) = none := by kernel_rfl
theorem mF_no_lose {x0 x1 x2 x3 x4 x5 x6 x7 x8 x9 : V} : List.lookup ("lose" : Str) (mF x0 x1 x2 x3 x4 x5 x6 x7 x8 x9) = none := by kernel_rfl
theorem mF_no_does_take_off {x0 x1 x2 x3 x4 x5 x6 x7 x8 x9 : V} : List.lookup ("does_take_off" : Str) (mF x0 x1 x2 x3 x4 x5 x6 x7 x8 x9) = none := by kernel_rfl
theorem mF_no_move {x0 x1 x2 x3 x4 x5 x6 x7 x8 x9 : V} : List.lookup ("move" : Str) (mF x0 x1 x2 x3 x4 x5 x6 x7 x8 x9) = none := by kernel_rfl
theorem mF_no_end_by_move {x0 x1 x2 x3 x4 x5 x6 x7 x8 x9 : V} : List.lookup ("end_by_move" : Str) (mF x0 x1 x2 x3 x4 x5 x6 x7 x8 x9) = none := by kernel_rfl
theorem mF_no_give_time {x0 x1 x2 x3 x4 x5 x6 x7 x8 x9 : V} : List.lookup ("give_time" : Str) (mF x0 x1 x2 x3 x4 x5 x6 x7 x8 x9) = none := by kernel_rfl
theorem mF_no_illegal {x0 x1 x2 x3 x4 x5 x6 x7 x8 x9 : V} : List.lookup ("illegal" : Str) (mF x0 x1 x2 x3 x4 x5 x6 x7 x8 x9) = none := by kernel_rfl
theorem mF_no_claim {x0 x1 x2 x3 x4 x5 x6 x7 x8 x9 : V} : List.lookup ("claim" : Str) (mF x0 x1 x2 x3 x4 x5 x6 x7 x8 x9) = none := by kernel_rfl
theorem mF_no_stands {x0 x1 x2 x3 x4 x5 x6 x7 x8 x9 : V} : List.lookup ("stands" : Str) (mF x0 x1 x2 x3 x4 x5 x6 x7 x8 x9) = none := by kernel_rfl
theorem mF_no_told {x0 x1 x2 x3 x4 x5 x6 x7 x8 x9 : V} : List.lookup ("told" : Str) (mF x0 x1 x2 x3 x4 x5 x6 x7 x8 x9) = none := by kernel_rfl
theorem mF_no_stretches_told {x0 x1 x2 x3 x4 x5 x6 x7 x8 x9 : V} : List.lookup ("stretches_told" : Str) (mF x0 x1 x2 x3 x4 x5 x6 x7 x8 x9) = none := by kernel_rfl
theorem mF_put_times {x0 x1 x2 x3 x4 x5 x6 x7 x8 x9 y : V} : putF "times" y (mF x0 x1 x2 x3 x4 x5 x6 x7 x8 x9) = mF y x1 x2 x3 x4 x5 x6 x7 x8 x9 := by kernel_rfl
theorem mF_put_positions {x0 x1 x2 x3 x4 x5 x6 x7 x8 x9 y : V} : putF "positions" y (mF x0 x1 x2 x3 x4 x5 x6 x7 x8 x9) = mF x0 y x2 x3 x4 x5 x6 x7 x8 x9 := by kernel_rfl
theorem mF_put_side {x0 x1 x2 x3 x4 x5 x6 x7 x8 x9 y : V} : putF "side" y (mF x0 x1 x2 x3 x4 x5 x6 x7 x8 x9) = mF x0 x1 y x3 x4 x5 x6 x7 x8 x9 := by kernel_rfl
theorem mF_put_clocks {x0 x1 x2 x3 x4 x5 x6 x7 x8 x9 y : V} : putF "clocks" y (mF x0 x1 x2 x3 x4 x5 x6 x7 x8 x9) = mF x0 x1 x2 y x4 x5 x6 x7 x8 x9 := by kernel_rfl
theorem mF_put_made {x0 x1 x2 x3 x4 x5 x6 x7 x8 x9 y : V} : putF "made" y (mF x0 x1 x2 x3 x4 x5 x6 x7 x8 x9) = mF x0 x1 x2 x3 y x5 x6 x7 x8 x9 := by kernel_rfl
theorem mF_put_wrong {x0 x1 x2 x3 x4 x5 x6 x7 x8 x9 y : V} : putF "wrong" y (mF x0 x1 x2 x3 x4 x5 x6 x7 x8 x9) = mF x0 x1 x2 x3 x4 y x6 x7 x8 x9 := by kernel_rfl
theorem mF_put_could {x0 x1 x2 x3 x4 x5 x6 x7 x8 x9 y : V} : putF "could" y (mF x0 x1 x2 x3 x4 x5 x6 x7 x8 x9) = mF x0 x1 x2 x3 x4 x5 y x7 x8 x9 := by kernel_rfl
theorem mF_put_offers {x0 x1 x2 x3 x4 x5 x6 x7 x8 x9 y : V} : putF "offers" y (mF x0 x1 x2 x3 x4 x5 x6 x7 x8 x9) = mF x0 x1 x2 x3 x4 x5 x6 y x8 x9 := by kernel_rfl
theorem mF_put_winner {x0 x1 x2 x3 x4 x5 x6 x7 x8 x9 y : V} : putF "winner" y (mF x0 x1 x2 x3 x4 x5 x6 x7 x8 x9) = mF x0 x1 x2 x3 x4 x5 x6 x7 y x9 := by kernel_rfl
theorem mF_put_why {x0 x1 x2 x3 x4 x5 x6 x7 x8 x9 y : V} : putF "why" y (mF x0 x1 x2 x3 x4 x5 x6 x7 x8 x9) = mF x0 x1 x2 x3 x4 x5 x6 x7 x8 y := by kernel_rfl
theorem mF_new {x0 x1 x2 x3 x4 x5 x6 x7 x8 x9 : V} : (putF "why" x9 (putF "winner" x8 (putF "offers" x7 (putF "could" x6 (putF "wrong" x5 (putF "made" x4 (putF "clocks" x3 (putF "side" x2 (putF "positions" x1 (putF "times" x0 [])))))))))) = mF x0 x1 x2 x3 x4 x5 x6 x7 x8 x9 := by kernel_rfl
theorem mF_len {x0 x1 x2 x3 x4 x5 x6 x7 x8 x9 : V} : (mF x0 x1 x2 x3 x4 x5 x6 x7 x8 x9).length = 10 := rfl
def tF (x0 x1 x2 : V) : List (Str × V) := [("mode", x0), ("extra", x1), ("stretches", x2)]
theorem tF_mode {x0 x1 x2 : V} : List.lookup ("mode" : Str) (tF x0 x1 x2) = some x0 := by kernel_rfl
theorem tF_extra {x0 x1 x2 : V} : List.lookup ("extra" : Str) (tF x0 x1 x2) = some x1 := by kernel_rfl
theorem tF_stretches {x0 x1 x2 : V} : List.lookup ("stretches" : Str) (tF x0 x1 x2) = some x2 := by kernel_rfl
theorem tF_no_at_first {x0 x1 x2 : V} : List.lookup ("at_first" : Str) (tF x0 x1 x2) = none := by kernel_rfl
theorem tF_no_taken_off {x0 x1 x2 : V} : List.lookup ("taken_off" : Str) (tF x0 x1 x2) = none := by kernel_rfl
theorem tF_no_of_stretches {x0 x1 x2 : V} : List.lookup ("of_stretches" : Str) (tF x0 x1 x2) = none := by kernel_rfl
theorem tF_no_coming {x0 x1 x2 : V} : List.lookup ("coming" : Str) (tF x0 x1 x2) = none := by kernel_rfl
theorem tF_put_mode {x0 x1 x2 y : V} : putF "mode" y (tF x0 x1 x2) = tF y x1 x2 := by kernel_rfl
theorem tF_put_extra {x0 x1 x2 y : V} : putF "extra" y (tF x0 x1 x2) = tF x0 y x2 := by kernel_rfl
theorem tF_put_stretches {x0 x1 x2 y : V} : putF "stretches" y (tF x0 x1 x2) = tF x0 x1 y := by kernel_rfl
theorem tF_new {x0 x1 x2 : V} : (putF "stretches" x2 (putF "extra" x1 (putF "mode" x0 []))) = tF x0 x1 x2 := by kernel_rfl
theorem tF_len {x0 x1 x2 : V} : (tF x0 x1 x2).length = 3 := rfl
def pF (x0 x1 : V) : List (Str × V) := [("stood", x0), ("without", x1)]
theorem pF_stood {x0 x1 : V} : List.lookup ("stood" : Str) (pF x0 x1) = some x0 := by kernel_rfl
theorem pF_without {x0 x1 : V} : List.lookup ("without" : Str) (pF x0 x1) = some x1 := by kernel_rfl
theorem pF_no_stand {x0 x1 : V} : List.lookup ("stand" : Str) (pF x0 x1) = none := by kernel_rfl
theorem pF_no_many_times {x0 x1 : V} : List.lookup ("many_times" : Str) (pF x0 x1) = none := by kernel_rfl
theorem pF_no_is_fifth {x0 x1 : V} : List.lookup ("is_fifth" : Str) (pF x0 x1) = none := by kernel_rfl
theorem pF_no_is_long {x0 x1 : V} : List.lookup ("is_long" : Str) (pF x0 x1) = none := by kernel_rfl
theorem pF_no_is_claimed {x0 x1 : V} : List.lookup ("is_claimed" : Str) (pF x0 x1) = none := by kernel_rfl
theorem pF_no_told {x0 x1 : V} : List.lookup ("told" : Str) (pF x0 x1) = none := by kernel_rfl
theorem pF_put_stood {x0 x1 y : V} : putF "stood" y (pF x0 x1) = pF y x1 := by kernel_rfl
theorem pF_put_without {x0 x1 y : V} : putF "without" y (pF x0 x1) = pF x0 y := by kernel_rfl
theorem pF_new {x0 x1 : V} : (putF "without" x1 (putF "stood" x0 [])) = pF x0 x1 := by kernel_rfl
theorem pF_len {x0 x1 : V} : (pF x0 x1).length = 2 := rfl
def dF (x0 : V) : List (Str × V) := [("match", x0)]
theorem dF_match {x0 : V} : List.lookup ("match" : Str) (dF x0) = some x0 := by kernel_rfl
theorem dF_no_begin {x0 : V} : List.lookup ("begin" : Str) (dF x0) = none := by kernel_rfl
theorem dF_no_game {x0 : V} : List.lookup ("game" : Str) (dF x0) = none := by kernel_rfl
theorem dF_no_going {x0 : V} : List.lookup ("going" : Str) (dF x0) = none := by kernel_rfl
theorem dF_no_move {x0 : V} : List.lookup ("move" : Str) (dF x0) = none := by kernel_rfl
theorem dF_no_illegal {x0 : V} : List.lookup ("illegal" : Str) (dF x0) = none := by kernel_rfl
theorem dF_no_can {x0 : V} : List.lookup ("can" : Str) (dF x0) = none := by kernel_rfl
theorem dF_no_offer {x0 : V} : List.lookup ("offer" : Str) (dF x0) = none := by kernel_rfl
theorem dF_no_accept {x0 : V} : List.lookup ("accept" : Str) (dF x0) = none := by kernel_rfl
theorem dF_no_claim {x0 : V} : List.lookup ("claim" : Str) (dF x0) = none := by kernel_rfl
theorem dF_no_give {x0 : V} : List.lookup ("give" : Str) (dF x0) = none := by kernel_rfl
theorem dF_no_told {x0 : V} : List.lookup ("told" : Str) (dF x0) = none := by kernel_rfl
theorem dF_no_answer {x0 : V} : List.lookup ("answer" : Str) (dF x0) = none := by kernel_rfl
theorem dF_put_match {x0 y : V} : putF "match" y (dF x0) = dF y := by kernel_rfl
theorem dF_new {x0 : V} : (putF "match" x0 []) = dF x0 := by kernel_rfl
theorem dF_len {x0 : V} : (dF x0).length = 1 := rfl
end Ck

namespace Ck
open PySem PySem.Spec PyProof.Rows L2
/-! ### a def with its promise, by its name -/
structure MOk (P : Program) (w : World) (K : PySem.W.Frag) (mg : Str → Option Value) (base : Heap) (CX : CXT) (k : Nat) (C : Addr) (m : Str) (ps : List Str) (sp : Sp) : Prop where
  ex : ∃ f fd, Meth K C m f ∧ Binds K fd ps [] ∧ FnOk P w K mg base CX k f fd ps sp
structure FOk (P : Program) (w : World) (K : PySem.W.Frag) (mg : Str → Option Value) (base : Heap) (CX : CXT) (k : Nat) (x : Str) (ps : List Str) (sp : Sp) : Prop where
  ex : ∃ f fd, mg x = some (.ref f) ∧ PySem.W.keepIn K (.ref f) = true ∧ Binds K fd ps [] ∧ FnOk P w K mg base CX k f fd ps sp
structure COk (P : Program) (w : World) (K : PySem.W.Frag) (mg : Str → Option Value) (base : Heap) (k : Nat) (x : Str) (C : Addr) (ps : List Str) (sp : Sp) : Prop where
  ex : ∃ f fd, Mk K C f ∧ mg x = some (.ref C) ∧ Binds K fd ps [] ∧ FnOk P w K mg base CX0 k f fd ps sp
/-- a def of the text as it stands behind the top: a method, a def of the module, a class's __init__ -/
structure MTx (K : PySem.W.Frag) (C : Addr) (m qual : Str) (st : Stmt) (ps : List Str) : Prop where
  ex : ∃ f fd, Fun K m qual st f fd ∧ Meth K C m f ∧ Binds K fd ps []
structure FTx (K : PySem.W.Frag) (mg : Str → Option Value) (x : Str) (st : Stmt) (ps : List Str) : Prop where
  ex : ∃ f fd, Fun K x x st f fd ∧ mg x = some (.ref f) ∧ Binds K fd ps []
structure CTx (K : PySem.W.Frag) (mg : Str → Option Value) (x : Str) (C : Addr) (qual : Str) (st : Stmt) (ps : List Str) : Prop where
  ex : ∃ f fd, Fun K "__init__" qual st f fd ∧ Mk K C f ∧ mg x = some (.ref C) ∧ Binds K fd ps []
section
variable {P : Program} {w : World} {K : PySem.W.Frag} {mg : Str → Option Value} {base : Heap} {C : Addr} {m x qual : Str} {st : Stmt} {ps N : List Str} {k : Nat} {sp : Sp}
/-- THE RULE for a def that raises nothing, by its kind -/
theorem MTx.ok (T : MTx K C m qual st ps) (S : FnScope N ps (defScope st)) (len : ∀ vs H Q E, sp vs H Q E → vs.length = ps.length)
    (hbody : ∀ (f : Addr) (cdv : Value) (A : Around) (outer : List Env) (s : Shared) (H : Hp) (vs : List V) (Q : VK) (E : XK), Room k (A.deeper (envOfC qual (defScope st) s.heap.objs.size f cdv)) → sp vs H Q E →
      ∃ t, PSs (cxOf CX0 P w K mg base N qual (defScope st) f cdv A outer s H E).nox (defBody st) t ∧ t { nx := fun _ H' => Q .non H', rt := Q } (start N vs) H) : MOk P w K mg base CX0 (k + 1) C m ps sp := by
  obtain ⟨f, fd, F, M, B⟩ := T.ex
  exact ⟨f, fd, M, B, F.ok S len (hbody f)⟩
theorem MTx.okX (T : MTx K C m qual st ps) (S : FnScope N ps (defScope st)) (len : ∀ vs H Q E, sp vs H Q E → vs.length = ps.length)
    (hbody : ∀ (f : Addr) (cdv : Value) (A : Around) (outer : List Env) (s : Shared) (H : Hp) (vs : List V) (Q : VK) (E : XK), Room k (A.deeper (envOfC qual (defScope st) s.heap.objs.size f cdv)) → sp vs H Q E →
      ∃ t, PSs (cxOf (L2.CX P w) P w K mg base N qual (defScope st) f cdv A outer s H E) (defBody st) t ∧ t { nx := fun _ H' => Q .non H', rt := Q } (start N vs) H) : MOk P w K mg base (L2.CX P w) (k + 1) C m ps sp := by
  obtain ⟨f, fd, F, M, B⟩ := T.ex
  exact ⟨f, fd, M, B, F.okX S len (hbody f)⟩
theorem FTx.ok (T : FTx K mg x st ps) (S : FnScope N ps (defScope st)) (len : ∀ vs H Q E, sp vs H Q E → vs.length = ps.length)
    (hbody : ∀ (f : Addr) (cdv : Value) (A : Around) (outer : List Env) (s : Shared) (H : Hp) (vs : List V) (Q : VK) (E : XK), Room k (A.deeper (envOfC x (defScope st) s.heap.objs.size f cdv)) → sp vs H Q E →
      ∃ t, PSs (cxOf CX0 P w K mg base N x (defScope st) f cdv A outer s H E).nox (defBody st) t ∧ t { nx := fun _ H' => Q .non H', rt := Q } (start N vs) H) : FOk P w K mg base CX0 (k + 1) x ps sp := by
  obtain ⟨f, fd, F, M, B⟩ := T.ex
  exact ⟨f, fd, M, F.kp, B, F.ok S len (hbody f)⟩
theorem FTx.okX (T : FTx K mg x st ps) (S : FnScope N ps (defScope st)) (len : ∀ vs H Q E, sp vs H Q E → vs.length = ps.length)
    (hbody : ∀ (f : Addr) (cdv : Value) (A : Around) (outer : List Env) (s : Shared) (H : Hp) (vs : List V) (Q : VK) (E : XK), Room k (A.deeper (envOfC x (defScope st) s.heap.objs.size f cdv)) → sp vs H Q E →
      ∃ t, PSs (cxOf (L2.CX P w) P w K mg base N x (defScope st) f cdv A outer s H E) (defBody st) t ∧ t { nx := fun _ H' => Q .non H', rt := Q } (start N vs) H) : FOk P w K mg base (L2.CX P w) (k + 1) x ps sp := by
  obtain ⟨f, fd, F, M, B⟩ := T.ex
  exact ⟨f, fd, M, F.kp, B, F.okX S len (hbody f)⟩
theorem CTx.ok (T : CTx K mg x C qual st ps) (S : FnScope N ps (defScope st)) (len : ∀ vs H Q E, sp vs H Q E → vs.length = ps.length)
    (hbody : ∀ (f : Addr) (cdv : Value) (A : Around) (outer : List Env) (s : Shared) (H : Hp) (vs : List V) (Q : VK) (E : XK), Room k (A.deeper (envOfC qual (defScope st) s.heap.objs.size f cdv)) → sp vs H Q E →
      ∃ t, PSs (cxOf CX0 P w K mg base N qual (defScope st) f cdv A outer s H E).nox (defBody st) t ∧ t { nx := fun _ H' => Q .non H', rt := Q } (start N vs) H) : COk P w K mg base (k + 1) x C ps sp := by
  obtain ⟨f, fd, F, M, G, B⟩ := T.ex
  exact ⟨f, fd, M, G, B, F.ok S len (hbody f)⟩
end
section
variable {X : Cx} {CX : CXT} {k j : Nat} {C : Addr} {ps : List Str} {sp : Sp} {E : XK} {m x : Str} {p pos apos : Pos} {e o : Expr} {es : List Expr} {ta : TE} {t : TA} {pl : Sem Bool}
theorem pe_methM (he : PE X o ta) (c : Cls X.K C) (F : MOk X.prog X.w X.K X.mg X.base CX k C m ps sp) (hr : Room j X.A) (hj : k ≤ j) (hx : Passes CX X E) (ha : PA X (e :: es) t)
    (hst : starEach (e :: es) X.env = (false, eval e X.env) :: starEach es X.env := by rfl) (hpl : (backTo pos (starEach es X.env)).any (·.1) = false := by rfl)
    (ht : eval (.Call (.Attribute o m apos) (e :: es) [] pos) X.env = (do
      let ov ← eval o X.env
      standAt apos.atName
      let (f, first) ← holding [ov] (getMethod ov m pl)
      callWith pos f first (backTo pos (starEach (e :: es) X.env)) (backToKw pos (keywordEach [] X.env))) := by rfl) :
    PE X (.Call (.Attribute o m apos) (e :: es) [] pos) (tMeth C m sp [] E ta t) := by
  obtain ⟨f, fd, M, B, G⟩ := F.ex
  exact pe_meth he c M G (hr.mono hj) B .nil hx ha hst hpl ht
theorem pe_methM0 (he : PE X o ta) (c : Cls X.K C) (F : MOk X.prog X.w X.K X.mg X.base CX k C m ps sp) (hr : Room j X.A) (hj : k ≤ j) (hx : Passes CX X E)
    (ht : eval (.Call (.Attribute o m apos) [] [] pos) X.env = (do
      let ov ← eval o X.env
      standAt apos.atName
      let (f, first) ← holding [ov] (getMethod ov m pl)
      callWith pos f first (backTo pos (starEach [] X.env)) (backToKw pos (keywordEach [] X.env))) := by rfl) :
    PE X (.Call (.Attribute o m apos) [] [] pos) (tMeth C m sp [] E ta tNil) := by
  obtain ⟨f, fd, M, B, G⟩ := F.ex
  exact pe_meth0 he c M G (hr.mono hj) B .nil hx ht
theorem pe_callF (F : FOk X.prog X.w X.K X.mg X.base CX k x ps sp) (hr : Room j X.A) (hj : k ≤ j) (hg : Gl X x) (hx : Passes CX X E) (ha : PA X (e :: es) t) (hdb : (x == ("__debug__" : Str)) = false := by decide)
    (he : starEach (e :: es) X.env = (false, eval e X.env) :: starEach es X.env := by rfl) (hpl : (backTo pos (starEach es X.env)).any (·.1) = false := by rfl) :
    PE X (.Call (.Name x p) (e :: es) [] pos) (tCall sp [] E t) := by
  obtain ⟨f, fd, M, kp, B, G⟩ := F.ex
  exact pe_call G (hr.mono hj) hg M kp B .nil hx ha hdb he hpl
theorem pe_makeC (F : COk X.prog X.w X.K X.mg X.base k x C ps sp) (hr : Room j X.A) (hj : k + 1 ≤ j) (hg : Gl X x) (ha : PA X (e :: es) t) (hdb : (x == ("__debug__" : Str)) = false := by decide)
    (he : starEach (e :: es) X.env = (false, eval e X.env) :: starEach es X.env := by rfl) (hpl : (backTo pos (starEach es X.env)).any (·.1) = false := by rfl) :
    PE X (.Call (.Name x p) (e :: es) [] pos) (tMake C sp [] E0 t) := by
  obtain ⟨f, fd, M, G, B, O⟩ := F.ex
  exact pe_make M O (hr.mono hj) hg G B .nil pass0 ha hdb he hpl
theorem pe_makeC0 (F : COk X.prog X.w X.K X.mg X.base k x C ps sp) (hr : Room j X.A) (hj : k + 1 ≤ j) (hg : Gl X x) (hdb : (x == ("__debug__" : Str)) = false := by decide) :
    PE X (.Call (.Name x p) [] [] pos) (tMake C sp [] E0 tNil) := by
  obtain ⟨f, fd, M, G, B, O⟩ := F.ex
  exact pe_make0 M O (hr.mono hj) hg G B .nil pass0 hdb
/-- o.m(e, ..) within a try: what it raises is wished for at the slots as they stand -/
def tMethS (C : Addr) (m : Str) (sp : Sp) (E : L2.St → XK) (ta : TE) (t : TA) : TE := fun σ H Q => ta σ H fun x H1 => ∃ a dx fs, x = .ref a ∧ H1 a = some (.ins C dx fs) ∧ fs.lookup m = none ∧ t σ H1 fun vs H2 => sp (x :: vs) H2 Q (E σ)
theorem pe_methMS {E : L2.St → XK} (he : PE X o ta) (c : Cls X.K C) (F : MOk X.prog X.w X.K X.mg X.base CX k C m ps sp) (hr : Room j X.A) (hj : k ≤ j) (hx : ∀ σ, PassesAt CX X σ (E σ)) (ha : PA X (e :: es) t)
    (hst : starEach (e :: es) X.env = (false, eval e X.env) :: starEach es X.env := by rfl) (hpl : (backTo pos (starEach es X.env)).any (·.1) = false := by rfl)
    (ht : eval (.Call (.Attribute o m apos) (e :: es) [] pos) X.env = (do
      let ov ← eval o X.env
      standAt apos.atName
      let (f, first) ← holding [ov] (getMethod ov m pl)
      callWith pos f first (backTo pos (starEach (e :: es) X.env)) (backToKw pos (keywordEach [] X.env))) := by rfl) :
    PE X (.Call (.Attribute o m apos) (e :: es) [] pos) (tMethS C m sp E ta t) := by
  obtain ⟨f, fd, M, B, G⟩ := F.ex
  refine ⟨fun pins s σ H Q I h => ?_⟩
  refine PySem.W.methodCall_KW (pl := pl) (thn (he.run pins s σ H _ I h) fun u s1 ⟨x, H1, I1, rx, a, dx, fs, ex, ea, l, q⟩ => ?_) ht
  subst ex
  obtain rfl : u = Value.ref a := rx
  refine getmeth_ok I1 ea c M l ?_
  refine PySem.W.callWith_K (first := [.ref a]) (h₀ := X.base) I.ok.mod.kin M.kp (thn (ha.run pos pins s1 σ H1 _ I1 q) fun us s2 ⟨vs, H2, I2, r, q2⟩ => ⟨I2.kIn, ?_⟩) hst hpl
  exact run_fnS (us := .ref a :: us) (vs := .ref a :: vs) G (hr.mono hj) B (hx σ) I2 (.cons rfl r) q2
/-- a whole number of the module -/
def GI (mg : Str → Option Value) (x : Str) (i : Int) : Prop := ∃ t, mg x = some (.int i t)
theorem pe_gi {i : Int} (h : GI X.mg x i) (hg : Gl X x := by rfl) (hd : (x == ("__debug__" : Str)) = false := by decide) : PE X (.Name x pos) (tC (.int i)) := by
  obtain ⟨t, e⟩ := h
  exact pe_glob hg e ⟨t, rfl⟩ hd
end
/-- what a callee raises leaves the def, too -/
theorem passX {P : Program} {w : World} {K : PySem.W.Frag} {mg : Str → Option Value} {base : Heap} {N : List Str} {qual : Str} {sc : Scope} {f : Addr} {cd : Value} {A : Around} {outer : List Env} {s : Shared} {H : Hp} {E : XK} :
    Passes (L2.CX P w) (cxOf (L2.CX P w) P w K mg base N qual sc f cd A outer s H E) E := passes_call (takes_of rfl rfl rfl rfl) (fun _ _ _ _ h => h)
/-! ### l.count(x), the items data of any depth -/
section
variable {X : Cx}
def rCountD (K : PySem.W.Frag) : V → List V → Hp → VK → Prop := fun x xs H Q => ∃ (a : Addr) (y : V) (d : PyData) (ds : List PyData), x = V.ref a ∧ xs = [y] ∧ Dp K H (V.ref a) (.list ds) ∧ Dp K H y d ∧
  SeqAt.shaped (.list ds) = true ∧ SeqAt.shaped d = true ∧ Q (.int (ds.countP fun z => PyData.eqv z d : Nat)) H
theorem room_in_shaped {A : Around} {ds : List PyData} {d : PyData} (sd : SeqAt.shaped d = true) (hu : A.units + 65 < cLine) : A.units + 1 + min (PyData.depthAll ds) d.depth < cLine := by
  have h : (d.canLay0 && decide (d.depth ≤ 64)) = true := sd
  have h2 : d.depth ≤ 64 := of_decide_eq_true (Bool.and_eq_true_iff.mp h).2
  omega
theorem mt_countD (hu : X.A.units + 65 < cLine) : MtR X "list.count" (rCountD X.K) := by
  intro pins s σ H x xs v us Q I rx rxs h
  obtain ⟨a, y, d, ds, rfl, rfl, hl, hy, sl, sd, q⟩ := h
  cases rx
  cases rxs with
  | cons ry rt =>
    rename_i uy ut
    cases rt
    obtain ⟨bs, r1⟩ := Dp.reads I d y uy hy ry
    have hxs : PyData.canLayAll0 ds = true := SeqAt.canLay_of_shaped sl
    have hroom : X.A.units + 1 + min (PyData.depthAll ds) d.depth < cLine := room_in_shaped sd hu
    cases hl with
    | lst hs ha =>
      obtain ⟨its, rv, ⟨⟨cls, dd, data, sls⟩, n, ho, hc, hdn, hdt⟩, hlen⟩ := I.list hs
      simp only at hc hdt
      subst hc hdt
      obtain ⟨as, h4⟩ := Dp.readsAll I ds _ its ha rv
      have hmap : its.map (SeqAt.readOf s.heap) = ds := SeqAt.readsAll_map ds its as hxs h4
      refine call_meets PySem.F.slot_list_count ⟨_, ho, rfl⟩ PySem.F.entry_list_count (PySem.F.args_list_count_2 _ _)
        (SeqAt.list_countAt a its.toArray n dd sls uy (fun u => PyData.eqv (SeqAt.readOf s.heap u) d)) ⟨ho, SeqAt.items_eqAt (vs := its.toArray) (show ReadsAll s.heap its.toArray.toList ds as from h4) r1 hxs (SeqAt.canLay_of_shaped sd) hroom, ?_⟩
      have ec : its.toArray.toList.countP (fun u => PyData.eqv (SeqAt.readOf s.heap u) d) = ds.countP fun z => PyData.eqv z d := by
        rw [← hmap, List.countP_map]
        rfl
      refine ⟨.int (ds.countP fun z => PyData.eqv z d : Nat), H, I.tok _, ⟨s.toks, ?_⟩, q⟩
      show Value.int ((its.toArray.toList.countP (fun u => PyData.eqv (SeqAt.readOf s.heap u) d) : Nat) : Int) s.toks = _
      rw [ec]
end
/-- a pair as data -/
def pD (z : P2) : PyData := .tuple [.int z.1, .int z.2]
theorem pD_lay (z : P2) : (pD z).canLay0 = true := by simp [pD, PyData.canLay0, PyData.canLayAll0]
theorem pD_depth (z : P2) : (pD z).depth = 1 := by simp [pD, PyData.depth, PyData.depthAll]
theorem pDs_lay : ∀ zs : List P2, PyData.canLayAll0 (zs.map pD) = true
  | [] => by simp [PyData.canLayAll0]
  | z :: zs => by simp [PyData.canLayAll0, pD_lay z, pDs_lay zs]
theorem pDs_depth : ∀ zs : List P2, PyData.depthAll (zs.map pD) ≤ 1
  | [] => by simp [PyData.depthAll]
  | z :: zs => by
    have h1 := pDs_depth zs
    have h2 := pD_depth z
    simp only [List.map_cons, PyData.depthAll]
    omega
theorem pD_shaped (z : P2) : SeqAt.shaped (pD z) = true := by
  have h := pD_depth z
  show ((pD z).canLay0 && decide ((pD z).depth ≤ 64)) = true
  rw [Bool.and_eq_true]
  exact ⟨pD_lay z, decide_eq_true (by omega)⟩
theorem pDs_shaped (zs : List P2) : SeqAt.shaped (.list (zs.map pD)) = true := by
  have h1 := pDs_depth zs
  have h2 : PyData.depth (.list (zs.map pD)) ≤ 64 := by
    simp only [PyData.depth]
    omega
  show (PyData.canLay0 (.list (zs.map pD)) && decide (PyData.depth (.list (zs.map pD)) ≤ 64)) = true
  rw [Bool.and_eq_true]
  exact ⟨by simp only [PyData.canLay0]; exact pDs_lay zs, decide_eq_true h2⟩
theorem pD_eqv (z w : P2) : PyData.eqv (pD z) (pD w) = (z == w) := by
  obtain ⟨a, b⟩ := z
  obtain ⟨a', b'⟩ := w
  have e : PyData.eqv (pD (a, b)) (pD (a', b')) = ((a == a') && ((b == b') && true)) := by simp only [pD, PyData.eqv, PyData.eqvAll]
  rw [e, Bool.and_true]
  rfl
end Ck

namespace Ck
open PySem PySem.Spec PyProof.Rows L2
/-! ### how a game lies in the heap -/
structure Cs where
  M : Addr
  T : Addr
  P : Addr
  D : Addr
  R : Addr
  N : Addr
/-- tuples of two whole numbers, at those addresses -/
def Tups (H : Hp) (as : List Addr) (l : List P2) : Prop := Paired (fun (a : Addr) (z : P2) => H a = some (.tup [.int z.1, .int z.2])) as l
/-- a list of such tuples -/
def LT (H : Hp) (a : Addr) (l : List P2) : Prop := ∃ as : List Addr, H a = some (.lst (as.map V.ref)) ∧ Tups H as l
/-- every tuple stands -/
def TupKeep (H H' : Hp) : Prop := ∀ b xs, H b = some (.tup xs) → H' b = some (.tup xs)
theorem Tups.keep {H H' : Hp} {as : List Addr} {l : List P2} (h : Tups H as l) (k : TupKeep H H') : Tups H' as l := Paired.mapP h fun a z e => k a _ e
theorem Tups.length {H : Hp} {as : List Addr} {l : List P2} (h : Tups H as l) : as.length = l.length := Paired.length h
theorem Tups.get : ∀ {H : Hp} {as : List Addr} {l : List P2} {i : Nat} {z : P2}, Tups H as l → l[i]? = some z → ∃ a, as[i]? = some a ∧ H a = some (.tup [.int z.1, .int z.2])
  | _, _, _, _, _, .nil, e => by simp at e
  | _, _, _, 0, _, .cons r _, e => by
    simp at e
    subst e
    exact ⟨_, rfl, r⟩
  | _, _, _, i + 1, z, .cons _ t, e => by
    obtain ⟨u, h1, h2⟩ := Tups.get (i := i) (z := z) t (by simpa using e)
    exact ⟨u, by simpa using h1, h2⟩
theorem Tups.append : ∀ {H : Hp} {as bs : List Addr} {l k : List P2}, Tups H as l → Tups H bs k → Tups H (as ++ bs) (l ++ k)
  | _, _, _, _, _, .nil, s => s
  | _, _, _, _, _, .cons r t, s => .cons r (Tups.append t s)
theorem LT.keep {H H' : Hp} {a : Addr} {l : List P2} (h : LT H a l) (e : H' a = H a) (k : TupKeep H H') : LT H' a l := by
  obtain ⟨as, h1, h2⟩ := h
  exact ⟨as, e.trans h1, h2.keep k⟩
theorem LT.same {H H' : Hp} {a : Addr} {l : List P2} (h : LT H a l) (s : Same H H') : LT H' a l := by
  obtain ⟨as, h1, h2⟩ := h
  exact ⟨as, s _ _ h1, h2.keep fun b xs e => s b _ e⟩
theorem LT.at {H : Hp} {a : Addr} {l : List P2} (h : LT H a l) : ∃ o, H a = some o := by
  obtain ⟨as, h1, _⟩ := h
  exact ⟨_, h1⟩
/-- what is no tuple may be written -/
theorem TupKeep.upd {H : Hp} {a : Addr} {o : HO} (h : ∀ xs, H a ≠ some (.tup xs)) : TupKeep H (upd H a o) := fun b xs e => by
  rw [upd_ne (fun z => h xs (by rw [← z]; exact e))]
  exact e
theorem TupKeep.lst {H : Hp} {a : Addr} {o : HO} {xs : List V} (h : H a = some (.lst xs)) : TupKeep H (L2.upd H a o) := TupKeep.upd fun ys z => by
  rw [h] at z
  cases z
theorem TupKeep.ins {H : Hp} {a C dx : Addr} {o : HO} {fs : List (Str × V)} (h : H a = some (.ins C dx fs)) : TupKeep H (L2.upd H a o) := TupKeep.upd fun ys z => by
  rw [h] at z
  cases z
theorem TupKeep.LT {H : Hp} {a : Addr} {o : HO} {l : List P2} (h : LT H a l) : TupKeep H (L2.upd H a o) := by
  obtain ⟨as, h1, _⟩ := h
  exact TupKeep.lst h1
theorem TupKeep.trans {H H1 H2 : Hp} (a : TupKeep H H1) (b : TupKeep H1 H2) : TupKeep H H2 := fun c xs e => b c xs (a c xs e)
theorem Same.new {H : Hp} {p : Addr} {o : HO} (h : H p = none) : Same H (L2.upd H p o) := fun a u e => by
  rw [upd_ne (ne_of_none e h)]
  exact e
structure TimesAt (cs : Cs) (H : Hp) (t dt s : Addr) (mode extra : Int) (str : List P2) : Prop where
  T : H t = some (.ins cs.T dt (tF (.int mode) (.int extra) (.ref s)))
  S : LT H s str
structure PosAt (cs : Cs) (H : Hp) (p dp st : Addr) (stood : List P2) (without : Int) : Prop where
  P : H p = some (.ins cs.P dp (pF (.ref st) (.int without)))
  S : LT H st stood
structure MA where
  a : Addr
  dx : Addr
  t : Addr
  dt : Addr
  s : Addr
  p : Addr
  dp : Addr
  st : Addr
  c : Addr
  m : Addr
  w : Addr
  u : Addr
/-- what may be written -/
def MA.cells (A : MA) : List Addr := [A.a, A.p, A.st, A.c, A.m, A.w, A.u]
structure Apart (A : MA) : Prop where
  nd : [A.a, A.p, A.st, A.c, A.m, A.w, A.u, A.t, A.s].Nodup
structure At (cs : Cs) (H : Hp) (A : MA) (g : M) : Prop where
  hM : H A.a = some (.ins cs.M A.dx (mF (.ref A.t) (.ref A.p) (.int g.side) (.ref A.c) (.ref A.m) (.ref A.w) (.ref A.u) (.int g.offers) (.int g.winner) (.int g.why)))
  hT : TimesAt cs H A.t A.dt A.s g.mode g.extra g.str
  hP : PosAt cs H A.p A.dp A.st g.stood g.without
  hc : H A.c = some (.lst [.int g.c.1, .int g.c.2])
  hm : H A.m = some (.lst [.int g.m.1, .int g.m.2])
  hw : H A.w = some (.lst [.int g.w.1, .int g.w.2])
  hu : H A.u = some (.lst [.int g.u.1, .int g.u.2])
  ap : Apart A
def Keep (A : MA) (H H' : Hp) : Prop := ∀ b o, H b = some o → b ∉ A.cells → H' b = some o
theorem Keep.refl (A : MA) (H : Hp) : Keep A H H := fun _ _ e _ => e
theorem Keep.trans {A : MA} {H H1 H2 : Hp} (a : Keep A H H1) (b : Keep A H1 H2) : Keep A H H2 := fun c o e h => b c o (a c o e h) h
theorem Keep.upd {A : MA} {H : Hp} {x : Addr} {o : HO} (hx : x ∈ A.cells) : Keep A H (L2.upd H x o) := fun b u e h => by
  rw [upd_ne (fun z => h (by rw [z]; exact hx))]
  exact e
theorem Keep.same {A : MA} {H H' : Hp} (s : Same H H') : Keep A H H' := fun b o e _ => s b o e
theorem Same.at {cs : Cs} {H H' : Hp} {A : MA} {m : M} (s : Same H H') (h : At cs H A m) : At cs H' A m :=
  ⟨s _ _ h.hM, ⟨s _ _ h.hT.T, h.hT.S.same s⟩, ⟨s _ _ h.hP.P, h.hP.S.same s⟩, s _ _ h.hc, s _ _ h.hm, s _ _ h.hw, s _ _ h.hu, h.ap⟩
/-- the nine addresses are apart -/
structure Ne9 (A : MA) : Prop where
  ap : A.a ≠ A.p
  ast : A.a ≠ A.st
  ac : A.a ≠ A.c
  am : A.a ≠ A.m
  aw : A.a ≠ A.w
  au : A.a ≠ A.u
  at_ : A.a ≠ A.t
  as_ : A.a ≠ A.s
  pst : A.p ≠ A.st
  pc : A.p ≠ A.c
  pm : A.p ≠ A.m
  pw : A.p ≠ A.w
  pu : A.p ≠ A.u
  pt : A.p ≠ A.t
  ps : A.p ≠ A.s
  stc : A.st ≠ A.c
  stm : A.st ≠ A.m
  stw : A.st ≠ A.w
  stu : A.st ≠ A.u
  stt : A.st ≠ A.t
  sts : A.st ≠ A.s
  cm : A.c ≠ A.m
  cw : A.c ≠ A.w
  cu : A.c ≠ A.u
  ct : A.c ≠ A.t
  cs_ : A.c ≠ A.s
  mw : A.m ≠ A.w
  mu : A.m ≠ A.u
  mt : A.m ≠ A.t
  ms : A.m ≠ A.s
  wu : A.w ≠ A.u
  wt : A.w ≠ A.t
  ws : A.w ≠ A.s
  ut : A.u ≠ A.t
  us : A.u ≠ A.s
  ts : A.t ≠ A.s
theorem Apart.ne {A : MA} (h : Apart A) : Ne9 A := by
  have n := h.nd
  simp only [List.nodup_cons, List.mem_cons, List.not_mem_nil, not_or, or_false, List.nodup_nil, and_true, not_false_eq_true] at n
  obtain ⟨⟨a1, a2, a3, a4, a5, a6, a7, a8⟩, ⟨b1, b2, b3, b4, b5, b6, b7⟩, ⟨c1, c2, c3, c4, c5, c6⟩, ⟨d1, d2, d3, d4, d5⟩, ⟨e1, e2, e3, e4⟩, ⟨f1, f2, f3⟩, ⟨g1, g2⟩, i1⟩ := n
  exact ⟨a1, a2, a3, a4, a5, a6, a7, a8, b1, b2, b3, b4, b5, b6, b7, c1, c2, c3, c4, c5, c6, d1, d2, d3, d4, d5, e1, e2, e3, e4, f1, f2, f3, g1, g2, i1⟩
section
variable {cs : Cs} {H : Hp} {A : MA} {m : M}
/-! ### stores -/
theorem At.setSelf (h : At cs H A m) (side offers winner why : Int) :
    At cs (upd H A.a (.ins cs.M A.dx (mF (.ref A.t) (.ref A.p) (.int side) (.ref A.c) (.ref A.m) (.ref A.w) (.ref A.u) (.int offers) (.int winner) (.int why)))) A { m with side := side, offers := offers, winner := winner, why := why } := by
  have n := h.ap.ne
  have k : TupKeep H (upd H A.a (.ins cs.M A.dx (mF (.ref A.t) (.ref A.p) (.int side) (.ref A.c) (.ref A.m) (.ref A.w) (.ref A.u) (.int offers) (.int winner) (.int why)))) := TupKeep.ins h.hM
  exact ⟨upd_same, ⟨(upd_ne n.at_.symm).trans h.hT.T, h.hT.S.keep (upd_ne n.as_.symm) k⟩, ⟨(upd_ne n.ap.symm).trans h.hP.P, h.hP.S.keep (upd_ne n.ast.symm) k⟩,
    (upd_ne n.ac.symm).trans h.hc, (upd_ne n.am.symm).trans h.hm, (upd_ne n.aw.symm).trans h.hw, (upd_ne n.au.symm).trans h.hu, h.ap⟩
theorem At.setC (h : At cs H A m) (y : P2) : At cs (upd H A.c (.lst [.int y.1, .int y.2])) A { m with c := y } := by
  have n := h.ap.ne
  have k : TupKeep H (upd H A.c (.lst [.int y.1, .int y.2])) := TupKeep.lst h.hc
  exact ⟨(upd_ne n.ac).trans h.hM, ⟨(upd_ne n.ct.symm).trans h.hT.T, h.hT.S.keep (upd_ne n.cs_.symm) k⟩, ⟨(upd_ne n.pc).trans h.hP.P, h.hP.S.keep (upd_ne n.stc) k⟩,
    upd_same, (upd_ne n.cm.symm).trans h.hm, (upd_ne n.cw.symm).trans h.hw, (upd_ne n.cu.symm).trans h.hu, h.ap⟩
theorem At.setM (h : At cs H A m) (y : P2) : At cs (upd H A.m (.lst [.int y.1, .int y.2])) A { m with m := y } := by
  have n := h.ap.ne
  have k : TupKeep H (upd H A.m (.lst [.int y.1, .int y.2])) := TupKeep.lst h.hm
  exact ⟨(upd_ne n.am).trans h.hM, ⟨(upd_ne n.mt.symm).trans h.hT.T, h.hT.S.keep (upd_ne n.ms.symm) k⟩, ⟨(upd_ne n.pm).trans h.hP.P, h.hP.S.keep (upd_ne n.stm) k⟩,
    (upd_ne n.cm).trans h.hc, upd_same, (upd_ne n.mw.symm).trans h.hw, (upd_ne n.mu.symm).trans h.hu, h.ap⟩
theorem At.setW (h : At cs H A m) (y : P2) : At cs (upd H A.w (.lst [.int y.1, .int y.2])) A { m with w := y } := by
  have n := h.ap.ne
  have k : TupKeep H (upd H A.w (.lst [.int y.1, .int y.2])) := TupKeep.lst h.hw
  exact ⟨(upd_ne n.aw).trans h.hM, ⟨(upd_ne n.wt.symm).trans h.hT.T, h.hT.S.keep (upd_ne n.ws.symm) k⟩, ⟨(upd_ne n.pw).trans h.hP.P, h.hP.S.keep (upd_ne n.stw) k⟩,
    (upd_ne n.cw).trans h.hc, (upd_ne n.mw).trans h.hm, upd_same, (upd_ne n.wu.symm).trans h.hu, h.ap⟩
theorem At.setU (h : At cs H A m) (y : P2) : At cs (upd H A.u (.lst [.int y.1, .int y.2])) A { m with u := y } := by
  have n := h.ap.ne
  have k : TupKeep H (upd H A.u (.lst [.int y.1, .int y.2])) := TupKeep.lst h.hu
  exact ⟨(upd_ne n.au).trans h.hM, ⟨(upd_ne n.ut.symm).trans h.hT.T, h.hT.S.keep (upd_ne n.us.symm) k⟩, ⟨(upd_ne n.pu).trans h.hP.P, h.hP.S.keep (upd_ne n.stu) k⟩,
    (upd_ne n.cu).trans h.hc, (upd_ne n.mu).trans h.hm, (upd_ne n.wu).trans h.hw, upd_same, h.ap⟩
/-- Positions has been changed: at A.p, A.st (or a new list) -/
theorem At.setP {H' : Hp} {st : Addr} {stood : List P2} {without : Int} (h : At cs H A m) (hp : PosAt cs H' A.p A.dp st stood without) (hs : st = A.st ∨ H st = none) (k : ∀ b o, H b = some o → b ≠ A.p → b ≠ A.st → H' b = some o) :
    At cs H' { A with st := st } { m with stood := stood, without := without } := by
  have n := h.ap.ne
  have tk : TupKeep H H' := fun b xs e => k b _ e (fun z => by rw [z, h.hP.P] at e; cases e) (fun z => by
    obtain ⟨as, h1, _⟩ := h.hP.S
    rw [z, h1] at e
    cases e)
  obtain ⟨os, hos⟩ := h.hP.S.at
  obtain ⟨oz, hoz⟩ := h.hT.S.at
  have ne : ∀ {b : Addr} {o : HO}, H b = some o → b ≠ A.st → b ≠ st := fun {b o} e hb z => by
    rcases hs with q | q
    · exact hb (z.trans q)
    · rw [z, q] at e
      cases e
  have e1 := ne h.hM n.ast
  have e2 := ne h.hP.P n.pst
  have e3 := ne h.hc n.stc.symm
  have e4 := ne h.hm n.stm.symm
  have e5 := ne h.hw n.stw.symm
  have e6 := ne h.hu n.stu.symm
  have e7 := ne h.hT.T n.stt.symm
  have e8 := ne hoz n.sts.symm
  have ks : H' A.s = H A.s := (k _ _ hoz n.ps.symm n.sts.symm).trans hoz.symm
  refine ⟨k _ _ h.hM n.ap n.ast, ⟨k _ _ h.hT.T n.pt.symm n.stt.symm, h.hT.S.keep ks tk⟩, hp, k _ _ h.hc n.pc.symm n.stc.symm, k _ _ h.hm n.pm.symm n.stm.symm, k _ _ h.hw n.pw.symm n.stw.symm, k _ _ h.hu n.pu.symm n.stu.symm, ⟨?_⟩⟩
  have nn := h.ap.nd
  simp only [List.nodup_cons, List.mem_cons, List.not_mem_nil, not_or, or_false, List.nodup_nil, and_true, not_false_eq_true] at nn ⊢
  obtain ⟨⟨a1, a2, a3, a4, a5, a6, a7, a8⟩, ⟨b1, b2, b3, b4, b5, b6, b7⟩, ⟨c1, c2, c3, c4, c5, c6⟩, r⟩ := nn
  exact ⟨⟨a1, e1, a3, a4, a5, a6, a7, a8⟩, ⟨e2, b2, b3, b4, b5, b6, b7⟩, ⟨e3.symm, e4.symm, e5.symm, e6.symm, e7.symm, e8.symm⟩, r⟩
end
/-! ### an item by its side -/
theorem at2 {p : P2} {i : Int} (h : i = 0 ∨ i = 1) : atI [V.int p.1, V.int p.2] i = some (.int (get p i)) := by
  rcases h with rfl | rfl <;> rfl
theorem ix2 {i : Int} {x y : V} (h : i = 0 ∨ i = 1) : ixN [x, y].length i = some i.toNat := by
  rcases h with rfl | rfl <;> rfl
theorem set2 {p : P2} {i x : Int} (h : i = 0 ∨ i = 1) : [V.int p.1, V.int p.2].set i.toNat (.int x) = [V.int (put p i x).1, V.int (put p i x).2] := by
  rcases h with rfl | rfl <;> rfl
theorem other {i : Int} (h : i = 0 ∨ i = 1) : 1 - i = 0 ∨ 1 - i = 1 := by omega
theorem decV {i j : Int} : decide (V.int i = V.int j) = decide (i = j) := by
  by_cases h : i = j
  · subst h
    simp
  · rw [decide_eq_false h, decide_eq_false (fun z => h (V.int.inj z))]
theorem sz {n : Nat} (h : Nat.ble n 100 = true := by rfl) : n ≤ sizeLine := Nat.le_trans (Nat.le_of_ble_eq_true h) (by decide)
theorem szl {n : Nat} (h : Nat.ble n 100 = true := by rfl) : n < sizeLine := Nat.lt_of_le_of_lt (Nat.le_of_ble_eq_true h) (by decide)
theorem few {n : Nat} (h : Nat.ble n 100 = true := by rfl) : n < 1000 := Nat.lt_of_le_of_lt (Nat.le_of_ble_eq_true h) (by decide)
theorem hu65 {A : Around} {k : Nat} (hr : Room k A) : A.units + 65 < cLine := by
  have := hr.un
  omega
/-- an if whose test is known -/
theorem ifT {c : Bool} {A B : Prop} (hc : c = true) (h : A) : if c = true then A else B := by
  rw [if_pos hc]
  exact h
theorem ifF {c : Bool} {A B : Prop} (hc : c = false) (h : B) : if c = true then A else B := by
  rw [hc, if_neg Bool.false_ne_true]
  exact h
end Ck

namespace Ck
open PySem PySem.Spec PyProof.Rows L2
/-! ### the text by places; what the top has written (printed by gen.py) -/
def top (i : Nat) : Stmt := PySem.Challenge.pw_clockarbiter_s01_answers.main.body.getD i (.Pass ⟨0, 0, 0, 0⟩)
abbrev s_Positions_init : Stmt := inClass (top 5) 0
theorem sc_Positions_init : FnScope ["self", "number"] ["self", "number"] (defScope s_Positions_init) := ⟨rfl, rfl, rfl, by decide +kernel, rfl, by decide +kernel, by decide +kernel⟩
abbrev s_Positions_stand : Stmt := inClass (top 5) 1
theorem sc_Positions_stand : FnScope ["self", "number", "side", "is_fresh"] ["self", "number", "side", "is_fresh"] (defScope s_Positions_stand) := ⟨rfl, rfl, rfl, by decide +kernel, rfl, by decide +kernel, by decide +kernel⟩
abbrev s_Positions_many_times : Stmt := inClass (top 5) 2
theorem sc_Positions_many_times : FnScope ["self"] ["self"] (defScope s_Positions_many_times) := ⟨rfl, rfl, rfl, by decide +kernel, rfl, by decide +kernel, by decide +kernel⟩
abbrev s_Positions_is_fifth : Stmt := inClass (top 5) 3
theorem sc_Positions_is_fifth : FnScope ["self"] ["self"] (defScope s_Positions_is_fifth) := ⟨rfl, rfl, rfl, by decide +kernel, rfl, by decide +kernel, by decide +kernel⟩
abbrev s_Positions_is_long : Stmt := inClass (top 5) 4
theorem sc_Positions_is_long : FnScope ["self"] ["self"] (defScope s_Positions_is_long) := ⟨rfl, rfl, rfl, by decide +kernel, rfl, by decide +kernel, by decide +kernel⟩
abbrev s_Positions_is_claimed : Stmt := inClass (top 5) 5
theorem sc_Positions_is_claimed : FnScope ["self", "claim"] ["self", "claim"] (defScope s_Positions_is_claimed) := ⟨rfl, rfl, rfl, by decide +kernel, rfl, by decide +kernel, by decide +kernel⟩
abbrev s_Positions_told : Stmt := inClass (top 5) 6
theorem sc_Positions_told : FnScope ["self"] ["self"] (defScope s_Positions_told) := ⟨rfl, rfl, rfl, by decide +kernel, rfl, by decide +kernel, by decide +kernel⟩
abbrev s_Match_init : Stmt := inClass (top 25) 0
theorem sc_Match_init : FnScope ["self", "times", "number"] ["self", "times", "number"] (defScope s_Match_init) := ⟨rfl, rfl, rfl, by decide +kernel, rfl, by decide +kernel, by decide +kernel⟩
abbrev s_Match_is_over : Stmt := inClass (top 25) 1
theorem sc_Match_is_over : FnScope ["self"] ["self"] (defScope s_Match_is_over) := ⟨rfl, rfl, rfl, by decide +kernel, rfl, by decide +kernel, by decide +kernel⟩
abbrev s_Match_end : Stmt := inClass (top 25) 2
theorem sc_Match_end : FnScope ["self", "winner", "why"] ["self", "winner", "why"] (defScope s_Match_end) := ⟨rfl, rfl, rfl, by decide +kernel, rfl, by decide +kernel, by decide +kernel⟩
abbrev s_Match_lose : Stmt := inClass (top 25) 3
theorem sc_Match_lose : FnScope ["self", "side", "why"] ["self", "side", "why"] (defScope s_Match_lose) := ⟨rfl, rfl, rfl, by decide +kernel, rfl, by decide +kernel, by decide +kernel⟩
abbrev s_Match_does_take_off : Stmt := inClass (top 25) 4
theorem sc_Match_does_take_off : FnScope ["self", "used", "left"] ["self", "used"] (defScope s_Match_does_take_off) := ⟨rfl, rfl, rfl, by decide +kernel, rfl, by decide +kernel, by decide +kernel⟩
abbrev s_Match_move : Stmt := inClass (top 25) 5
theorem sc_Match_move : FnScope ["self", "used", "number", "is_fresh", "ends", "mover"] ["self", "used", "number", "is_fresh", "ends"] (defScope s_Match_move) := ⟨rfl, rfl, rfl, by decide +kernel, rfl, by decide +kernel, by decide +kernel⟩
abbrev s_Match_end_by_move : Stmt := inClass (top 25) 6
theorem sc_Match_end_by_move : FnScope ["self", "mover", "ends"] ["self", "mover", "ends"] (defScope s_Match_end_by_move) := ⟨rfl, rfl, rfl, by decide +kernel, rfl, by decide +kernel, by decide +kernel⟩
abbrev s_Match_give_time : Stmt := inClass (top 25) 7
theorem sc_Match_give_time : FnScope ["self", "side"] ["self", "side"] (defScope s_Match_give_time) := ⟨rfl, rfl, rfl, by decide +kernel, rfl, by decide +kernel, by decide +kernel⟩
abbrev s_Match_illegal : Stmt := inClass (top 25) 8
theorem sc_Match_illegal : FnScope ["self", "used"] ["self", "used"] (defScope s_Match_illegal) := ⟨rfl, rfl, rfl, by decide +kernel, rfl, by decide +kernel, by decide +kernel⟩
abbrev s_Match_claim : Stmt := inClass (top 25) 9
theorem sc_Match_claim : FnScope ["self", "claim"] ["self", "claim"] (defScope s_Match_claim) := ⟨rfl, rfl, rfl, by decide +kernel, rfl, by decide +kernel, by decide +kernel⟩
abbrev s_Match_stands : Stmt := inClass (top 25) 10
theorem sc_Match_stands : FnScope ["self"] ["self"] (defScope s_Match_stands) := ⟨rfl, rfl, rfl, by decide +kernel, rfl, by decide +kernel, by decide +kernel⟩
abbrev s_Match_told : Stmt := inClass (top 25) 11
theorem sc_Match_told : FnScope ["self"] ["self"] (defScope s_Match_told) := ⟨rfl, rfl, rfl, by decide +kernel, rfl, by decide +kernel, by decide +kernel⟩
abbrev s_Match_stretches_told : Stmt := inClass (top 25) 12
theorem sc_Match_stretches_told : FnScope ["self", "made"] ["self"] (defScope s_Match_stretches_told) := ⟨rfl, rfl, rfl, by decide +kernel, rfl, by decide +kernel, by decide +kernel⟩
abbrev s_pairs_of : Stmt := top 34
theorem sc_pairs_of : FnScope ["row", "at"] ["row"] (defScope s_pairs_of) := ⟨rfl, rfl, rfl, by decide +kernel, rfl, by decide +kernel, by decide +kernel⟩
abbrev s_are_stretches : Stmt := top 35
theorem sc_are_stretches : FnScope ["row", "pairs", "moves", "tenths"] ["row"] (defScope s_are_stretches) := ⟨rfl, rfl, rfl, by decide +kernel, rfl, by decide +kernel, by decide +kernel⟩
abbrev s_Times_init : Stmt := inClass (top 36) 0
theorem sc_Times_init : FnScope ["self", "mode", "extra", "stretches"] ["self", "mode", "extra", "stretches"] (defScope s_Times_init) := ⟨rfl, rfl, rfl, by decide +kernel, rfl, by decide +kernel, by decide +kernel⟩
abbrev s_Times_at_first : Stmt := inClass (top 36) 1
theorem sc_Times_at_first : FnScope ["self"] ["self"] (defScope s_Times_at_first) := ⟨rfl, rfl, rfl, by decide +kernel, rfl, by decide +kernel, by decide +kernel⟩
abbrev s_Times_taken_off : Stmt := inClass (top 36) 2
theorem sc_Times_taken_off : FnScope ["self", "used"] ["self", "used"] (defScope s_Times_taken_off) := ⟨rfl, rfl, rfl, by decide +kernel, rfl, by decide +kernel, by decide +kernel⟩
abbrev s_Times_of_stretches : Stmt := inClass (top 36) 3
theorem sc_Times_of_stretches : FnScope ["self", "made", "ahead", "moves", "tenths", "behind"] ["self", "made"] (defScope s_Times_of_stretches) := ⟨rfl, rfl, rfl, by decide +kernel, rfl, by decide +kernel, by decide +kernel⟩
abbrev s_Times_coming : Stmt := inClass (top 36) 4
theorem sc_Times_coming : FnScope ["self", "made"] ["self", "made"] (defScope s_Times_coming) := ⟨rfl, rfl, rfl, by decide +kernel, rfl, by decide +kernel, by decide +kernel⟩
abbrev s_Refused_init : Stmt := inClass (top 46) 0
theorem sc_Refused_init : FnScope ["self", "code"] ["self", "code"] (defScope s_Refused_init) := ⟨rfl, rfl, rfl, by decide +kernel, rfl, by decide +kernel, by decide +kernel⟩
abbrev s_want : Stmt := top 47
theorem sc_want : FnScope ["truth", "code"] ["truth", "code"] (defScope s_want) := ⟨rfl, rfl, rfl, by decide +kernel, rfl, by decide +kernel, by decide +kernel⟩
abbrev s_want_within : Stmt := top 48
theorem sc_want_within : FnScope ["number", "most"] ["number", "most"] (defScope s_want_within) := ⟨rfl, rfl, rfl, by decide +kernel, rfl, by decide +kernel, by decide +kernel⟩
abbrev s_Desk_init : Stmt := inClass (top 49) 0
theorem sc_Desk_init : FnScope ["self"] ["self"] (defScope s_Desk_init) := ⟨rfl, rfl, rfl, by decide +kernel, rfl, by decide +kernel, by decide +kernel⟩
abbrev s_Desk_begin : Stmt := inClass (top 49) 1
theorem sc_Desk_begin : FnScope ["self", "mode", "extra", "number", "row"] ["self", "mode", "extra", "number", "row"] (defScope s_Desk_begin) := ⟨rfl, rfl, rfl, by decide +kernel, rfl, by decide +kernel, by decide +kernel⟩
abbrev s_Desk_game : Stmt := inClass (top 49) 2
theorem sc_Desk_game : FnScope ["self"] ["self"] (defScope s_Desk_game) := ⟨rfl, rfl, rfl, by decide +kernel, rfl, by decide +kernel, by decide +kernel⟩
abbrev s_Desk_going : Stmt := inClass (top 49) 3
theorem sc_Desk_going : FnScope ["self"] ["self"] (defScope s_Desk_going) := ⟨rfl, rfl, rfl, by decide +kernel, rfl, by decide +kernel, by decide +kernel⟩
abbrev s_Desk_move : Stmt := inClass (top 49) 4
theorem sc_Desk_move : FnScope ["self", "used", "number", "fresh", "ends", "match"] ["self", "used", "number", "fresh", "ends"] (defScope s_Desk_move) := ⟨rfl, rfl, rfl, by decide +kernel, rfl, by decide +kernel, by decide +kernel⟩
abbrev s_Desk_illegal : Stmt := inClass (top 49) 5
theorem sc_Desk_illegal : FnScope ["self", "used", "match"] ["self", "used"] (defScope s_Desk_illegal) := ⟨rfl, rfl, rfl, by decide +kernel, rfl, by decide +kernel, by decide +kernel⟩
abbrev s_Desk_can : Stmt := inClass (top 49) 6
theorem sc_Desk_can : FnScope ["self", "side", "could"] ["self", "side", "could"] (defScope s_Desk_can) := ⟨rfl, rfl, rfl, by decide +kernel, rfl, by decide +kernel, by decide +kernel⟩
abbrev s_Desk_offer : Stmt := inClass (top 49) 7
theorem sc_Desk_offer : FnScope ["self", "side", "match"] ["self", "side"] (defScope s_Desk_offer) := ⟨rfl, rfl, rfl, by decide +kernel, rfl, by decide +kernel, by decide +kernel⟩
abbrev s_Desk_accept : Stmt := inClass (top 49) 8
theorem sc_Desk_accept : FnScope ["self", "side", "match"] ["self", "side"] (defScope s_Desk_accept) := ⟨rfl, rfl, rfl, by decide +kernel, rfl, by decide +kernel, by decide +kernel⟩
abbrev s_Desk_claim : Stmt := inClass (top 49) 9
theorem sc_Desk_claim : FnScope ["self", "claim", "match"] ["self", "claim"] (defScope s_Desk_claim) := ⟨rfl, rfl, rfl, by decide +kernel, rfl, by decide +kernel, by decide +kernel⟩
abbrev s_Desk_give : Stmt := inClass (top 49) 10
theorem sc_Desk_give : FnScope ["self", "side", "match"] ["self", "side"] (defScope s_Desk_give) := ⟨rfl, rfl, rfl, by decide +kernel, rfl, by decide +kernel, by decide +kernel⟩
abbrev s_Desk_told : Stmt := inClass (top 49) 11
theorem sc_Desk_told : FnScope ["self", "call", "n"] ["self", "call", "n"] (defScope s_Desk_told) := ⟨rfl, rfl, rfl, by decide +kernel, rfl, by decide +kernel, by decide +kernel⟩
abbrev s_Desk_answer : Stmt := inClass (top 49) 12
theorem sc_Desk_answer : FnScope ["self", "call", "n", "row", "e"] ["self", "call", "n", "row"] (defScope s_Desk_answer) := ⟨rfl, rfl, rfl, by decide +kernel, rfl, by decide +kernel, by decide +kernel⟩
abbrev s_answers : Stmt := top 50
theorem sc_answers : FnScope ["calls", "desk", "found", "at", "call", "behind", "n", "row", "begin", "told"] ["calls"] (defScope s_answers) := ⟨rfl, rfl, rfl, by decide +kernel, rfl, by decide +kernel, by decide +kernel⟩
structure Txt (K : PySem.W.Frag) (mg : Str → Option Value) (cs : Cs) : Prop where
  cM : Cls K cs.M
  cT : Cls K cs.T
  cP : Cls K cs.P
  cD : Cls K cs.D
  nM_times : NoAttr K cs.M "times"
  nM_positions : NoAttr K cs.M "positions"
  nM_side : NoAttr K cs.M "side"
  nM_clocks : NoAttr K cs.M "clocks"
  nM_made : NoAttr K cs.M "made"
  nM_wrong : NoAttr K cs.M "wrong"
  nM_could : NoAttr K cs.M "could"
  nM_offers : NoAttr K cs.M "offers"
  nM_winner : NoAttr K cs.M "winner"
  nM_why : NoAttr K cs.M "why"
  nT_mode : NoAttr K cs.T "mode"
  nT_extra : NoAttr K cs.T "extra"
  nT_stretches : NoAttr K cs.T "stretches"
  nP_stood : NoAttr K cs.P "stood"
  nP_without : NoAttr K cs.P "without"
  nD_match : NoAttr K cs.D "match"
  FIFTH : GI mg "FIFTH" (5)
  MOST_WITHOUT : GI mg "MOST_WITHOUT" (150)
  THIRD : GI mg "THIRD" (3)
  CLAIMED_WITHOUT : GI mg "CLAIMED_WITHOUT" (100)
  NOBODY : GI mg "NOBODY" (-1)
  GOES_ON : GI mg "GOES_ON" (-1)
  DRAWN : GI mg "DRAWN" (2)
  MATE : GI mg "MATE" (0)
  GAVE_UP : GI mg "GAVE_UP" (1)
  FLAG : GI mg "FLAG" (2)
  ILLEGAL : GI mg "ILLEGAL" (3)
  AGREED : GI mg "AGREED" (4)
  STALEMATE : GI mg "STALEMATE" (5)
  NOBODY_MATES : GI mg "NOBODY_MATES" (6)
  THIRD_TIME : GI mg "THIRD_TIME" (7)
  CLAIMED_LONG : GI mg "CLAIMED_LONG" (8)
  FIFTH_TIME : GI mg "FIFTH_TIME" (9)
  TOO_LONG : GI mg "TOO_LONG" (10)
  MORE_TIME : GI mg "MORE_TIME" (1200)
  IS_MATE : GI mg "IS_MATE" (1)
  IS_STALEMATE : GI mg "IS_STALEMATE" (2)
  IS_DEAD : GI mg "IS_DEAD" (3)
  ADDED : GI mg "ADDED" (1)
  HELD_BACK : GI mg "HELD_BACK" (2)
  MOST_STRETCHES : GI mg "MOST_STRETCHES" (4)
  MOST_MOVES : GI mg "MOST_MOVES" (200)
  MOST_TENTHS : GI mg "MOST_TENTHS" (1000000)
  MOST_MODE : GI mg "MOST_MODE" (2)
  MOST_EXTRA : GI mg "MOST_EXTRA" (6000)
  BAD : GI mg "BAD" (-1)
  NO_GAME : GI mg "NO_GAME" (-2)
  NOT_OFFERED : GI mg "NOT_OFFERED" (-4)
  MOST_USED : GI mg "MOST_USED" (10000000)
  MOST_NUMBER : GI mg "MOST_NUMBER" (1000000)
  MOST_ENDS : GI mg "MOST_ENDS" (3)
  BEGIN : GI mg "BEGIN" (1)
  b_len : mg "len" = none
  b_int : mg "int" = none
  b_max : mg "max" = none
  b_all : mg "all" = none
  b_range : mg "range" = none
  b_zip : mg "zip" = none
  NUMBERS : mg "NUMBERS" = some (.ref cs.N)
  NUMS : ∀ H : Hp, SqT K H cs.N ([0, 3, 4, 1, 2, 1, 1, 1, 1, 0, 0, 0].map V.int)
  gR : mg "Refused" = some (.ref cs.R)
  oR : OexC K cs.R
  xR : XfC K cs.R
  nR_code : PySem.W.findIn K (.ref cs.R) "code" = some none
  eR : PySem.W.exmOne K (.ref cs.R) (.ref cs.R) = some true
end Ck

namespace Ck
open PySem PySem.Spec PyProof.Rows L2
/-! ### Positions: what each def promises -/
def sp_Positions_init (cs : Cs) (K : PySem.W.Frag) : Sp := fun vs H Q _ => ∃ (x dx : Addr) (n : Int), vs = [.ref x, .int n] ∧ H x = some (.ins cs.P dx []) ∧
  ∀ (H' : Hp) (st : Addr), H st = none → PosAt cs H' x dx st [(n, 0)] 0 → (∀ b o, H b = some o → b ≠ x → H' b = some o) → Q .non H'
def sp_Positions_stand (cs : Cs) (K : PySem.W.Frag) : Sp := fun vs H Q _ => ∃ (p dp st : Addr) (stood : List P2) (without n side : Int) (fresh : Bool), vs = [.ref p, .int n, .int side, .bl fresh] ∧ PosAt cs H p dp st stood without ∧ stood.length < sizeLine ∧
  ∀ (H' : Hp) (st' : Addr), (st' = st ∨ H st' = none) → PosAt cs H' p dp st' (if fresh = true then [(n, side)] else stood ++ [(n, side)]) (if fresh = true then 0 else without + 1) → (∀ b o, H b = some o → b ≠ p → b ≠ st → H' b = some o) → Q .non H'
def sp_Positions_many_times (cs : Cs) (K : PySem.W.Frag) : Sp := fun vs H Q _ => ∃ (p dp st : Addr) (stood : List P2) (without : Int), vs = [.ref p] ∧ PosAt cs H p dp st stood without ∧ stood ≠ [] ∧ Q (.int (times stood : Int)) H
def sp_Positions_is_fifth (cs : Cs) (K : PySem.W.Frag) : Sp := fun vs H Q _ => ∃ (p dp st : Addr) (stood : List P2) (without : Int), vs = [.ref p] ∧ PosAt cs H p dp st stood without ∧ stood ≠ [] ∧ Q (.bl (decide ((times stood : Int) ≥ 5))) H
def sp_Positions_is_long (cs : Cs) (K : PySem.W.Frag) : Sp := fun vs H Q _ => ∃ (p dp st : Addr) (stood : List P2) (without : Int), vs = [.ref p] ∧ PosAt cs H p dp st stood without ∧ Q (.bl (decide (without ≥ 150))) H
def sp_Positions_is_claimed (cs : Cs) (K : PySem.W.Frag) : Sp := fun vs H Q _ => ∃ (p dp st : Addr) (stood : List P2) (without claim : Int), vs = [.ref p, .int claim] ∧ PosAt cs H p dp st stood without ∧ stood ≠ [] ∧
  Q (.bl (if claim = 0 then decide ((times stood : Int) ≥ 3) else decide (without ≥ 100))) H
def sp_Positions_told (cs : Cs) (K : PySem.W.Frag) : Sp := fun vs H Q _ => ∃ (p dp st : Addr) (stood : List P2) (without : Int), vs = [.ref p] ∧ PosAt cs H p dp st stood without ∧ stood ≠ [] ∧
  ∀ q, H q = none → Q (.ref q) (upd H q (.lst ([(times stood : Int), without, (stood.length : Int)].map V.int)))
/-! ### a list's last item -/
theorem Tups.last {H : Hp} : ∀ {l : List P2} {z : P2} {as : List Addr}, Tups H as (l ++ [z]) → ∃ bs a, as = bs ++ [a] ∧ H a = some (.tup [.int z.1, .int z.2])
  | [], z, as, h => by
    cases h with
    | cons r t =>
      cases t
      exact ⟨[], _, rfl, r⟩
  | x :: l, z, as, h => by
    cases h with
    | cons r t =>
      obtain ⟨bs, a, e, ha⟩ := Tups.last (l := l) t
      exact ⟨_ :: bs, a, by rw [e]; rfl, ha⟩
theorem Tups.dp {K : PySem.W.Frag} {H : Hp} : ∀ {l : List P2} {as : List Addr}, Tups H as l → DpAll K H (as.map V.ref) (l.map pD)
  | _, _, .nil => .nil
  | _, _, .cons r t => .cons (.tup (SqT.of r) (.cons (.int _) (.cons (.int _) .nil))) (Tups.dp t)
theorem times_last (l : List P2) (z : P2) : times (l ++ [z]) = ((l ++ [z]).map pD).countP fun y => PyData.eqv y (pD z) := by
  unfold times
  rw [List.getLast?_concat, List.countP_map]
  show (l ++ [z]).countP (fun y => y == z) = _
  congr 1
  funext y
  exact (pD_eqv y z).symm
theorem snoc_of {α : Type} {l : List α} (h : l ≠ []) : ∃ k z, l = k ++ [z] := ⟨l.dropLast, l.getLast h, (List.dropLast_concat_getLast h).symm⟩
section
variable {P : Program} {w : World} {K : PySem.W.Frag} {mg : Str → Option Value} {base : Heap} {cs : Cs}
theorem ok_Positions_init (X : CTx K mg "Positions" cs.P "Positions.__init__" s_Positions_init ["self", "number"]) (T : Txt K mg cs) : COk P w K mg base 1 "Positions" cs.P ["self", "number"] (sp_Positions_init cs K) := by
  refine X.ok sc_Positions_init (fun vs H Q E h => ?_) (fun f cdv A outer s H vs Q E hr h => ⟨_, (pss_cons (ps_fld (pv 0) (pe_lst (pa_cons (pe_tup (pa_cons (pv 1) (pa_cons pe_int pa_nil))) pa_nil)) rfl)
      (pss_one (ps_fld (pv 0) pe_int rfl))), ?_⟩)
  · obtain ⟨_, _, _, rfl, _⟩ := h
    rfl
  · obtain ⟨x, dx, n, rfl, hx, k⟩ := h
    refine ⟨_, rfl, sz, fun p np => ⟨sz, fun q nq => ?_⟩⟩
    have xp : x ≠ p := ne_of_none hx np
    have hx1 : upd H p (.tup [.int n, .int 0]) x = some (.ins cs.P dx []) := (upd_ne xp).trans hx
    have xq : x ≠ q := ne_of_none hx1 nq
    have qp : p ≠ q := ne_of_none upd_same nq
    have nqH : H q = none := by
      rw [upd_ne qp.symm] at nq
      exact nq
    refine ⟨_, rfl, x, cs.P, dx, [], rfl, (upd_ne xq).trans hx1, T.cP, T.nP_stood, few, ?_⟩
    refine ⟨_, rfl, x, cs.P, dx, _, rfl, upd_same, T.cP, T.nP_without, few, ?_⟩
    refine k _ q nqH ⟨Eq.trans upd_same (congrArg (fun z => some (HO.ins cs.P dx z)) pF_new), [p], ?_, .cons ?_ .nil⟩ fun b o e hb => ?_
    · rw [upd_ne xq.symm, upd_ne xq.symm]
      exact upd_same
    · rw [upd_ne xp.symm, upd_ne xp.symm, upd_ne qp]
      exact upd_same
    · rw [upd_ne hb, upd_ne hb, upd_ne (ne_of_none e nqH), upd_ne (ne_of_none e np)]
      exact e
theorem ok_Positions_stand (X : MTx K cs.P "stand" "Positions.stand" s_Positions_stand ["self", "number", "side", "is_fresh"]) (T : Txt K mg cs) : MOk P w K mg base CX0 1 cs.P "stand" ["self", "number", "side", "is_fresh"] (sp_Positions_stand cs K) := by
  refine X.ok sc_Positions_stand (fun vs H Q E h => ?_) (fun f cdv A outer s H vs Q E hr h => ⟨_, (pss_cons (ps_if (pt_val (pv 3)) (pss_cons (ps_fld (pv 0) (pe_lst pa_nil) rfl)
      (pss_one (ps_fld (pv 0) pe_int rfl))) (pss_one (ps_fld (pv 0) (pe_op op_add (pe_fld (pv 0) rfl) pe_int) rfl)))
      (pss_one (ps_expr (pe_bm PySem.F.plainAttrs_list PySem.F.slot_list_append PySem.F.type_list_append mt_append (pe_fld (pv 0) rfl) (pa_cons (pe_tup (pa_cons (pv 1) (pa_cons (pv 2) pa_nil))) pa_nil))))), ?_⟩)
  · obtain ⟨_, _, _, _, _, _, _, _, rfl, _⟩ := h
    rfl
  · obtain ⟨p, dp, st, stood, without, n, side, fresh, rfl, hp, hl, k⟩ := h
    obtain ⟨as, hs, ht⟩ := hp.S
    have hps : p ≠ st := ne_of hp.P hs (by intro z; cases z)
    refine ⟨_, rfl, _, rfl, ?_⟩
    cases fresh with
    | true =>
      refine ifT rfl ?_
      refine ⟨sz, fun q nq => ?_⟩
      have pq : p ≠ q := ne_of_none hp.P nq
      refine ⟨_, rfl, p, cs.P, dp, _, rfl, (upd_ne pq).trans hp.P, T.cP, T.nP_stood, few, ?_⟩
      refine ⟨_, rfl, p, cs.P, dp, _, rfl, upd_same, T.cP, T.nP_without, few, ?_⟩
      refine ⟨_, rfl, p, cs.P, dp, _, _, rfl, upd_same, T.cP, T.nP_stood, (congrArg (List.lookup _) (Eq.trans (congrArg (putF _ _) pF_put_stood) pF_put_without)).trans pF_stood, ?_⟩
      have hq : ∀ (o1 o2 : HO), upd (upd (upd H q (.lst [])) p o1) p o2 q = some (.lst []) := fun o1 o2 => by
        rw [upd_ne pq.symm, upd_ne pq.symm]
        exact upd_same
      refine ⟨.inl ⟨rfl, _, SqL.of (hq _ _)⟩, _, rfl, _, rfl, sz, fun r nr => ?_⟩
      have hr1 : H r = none ∧ r ≠ q ∧ r ≠ p := by
        have rq : r ≠ q := (ne_of_none (hq _ _) nr).symm
        have rp : r ≠ p := (ne_of_none upd_same nr).symm
        rw [upd_ne rp, upd_ne rp, upd_ne rq] at nr
        exact ⟨nr, rq, rp⟩
      refine ⟨q, _, _, rfl, rfl, (upd_ne hr1.2.1.symm).trans (hq _ _), szl, ?_⟩
      refine k _ q (.inr nq) ⟨?_, [r], ?_, .cons ?_ .nil⟩ fun b o e hb1 hb2 => ?_
      · rw [upd_ne pq, upd_ne hr1.2.2.symm]
        exact Eq.trans upd_same (congrArg (fun z => some (HO.ins cs.P dp z)) (Eq.trans (congrArg (putF _ _) pF_put_stood) pF_put_without))
      · exact upd_same
      · rw [upd_ne hr1.2.1]
        exact upd_same
      · rw [upd_ne (ne_of_none e nq), upd_ne (ne_of_none e hr1.1), upd_ne hb1, upd_ne hb1, upd_ne (ne_of_none e nq)]
        exact e
    | false =>
      refine ifF rfl ?_
      refine ⟨_, rfl, p, cs.P, dp, _, _, rfl, hp.P, T.cP, T.nP_without, pF_without, _, _, rfl, rfl, ?_⟩
      refine ⟨_, rfl, p, cs.P, dp, _, rfl, hp.P, T.cP, T.nP_without, few, ?_⟩
      refine ⟨_, rfl, p, cs.P, dp, _, _, rfl, upd_same, T.cP, T.nP_stood, (congrArg (List.lookup _) pF_put_without).trans pF_stood, ?_⟩
      have hq : ∀ (o1 : HO), upd H p o1 st = some (.lst (as.map V.ref)) := fun o1 => (upd_ne hps.symm).trans hs
      refine ⟨.inl ⟨rfl, _, SqL.of (hq _)⟩, _, rfl, _, rfl, sz, fun r nr => ?_⟩
      have hr1 : H r = none ∧ r ≠ st ∧ r ≠ p := by
        have rq : r ≠ st := (ne_of_none (hq _) nr).symm
        have rp : r ≠ p := (ne_of_none upd_same nr).symm
        rw [upd_ne rp] at nr
        exact ⟨nr, rq, rp⟩
      refine ⟨st, _, _, rfl, rfl, (upd_ne hr1.2.1.symm).trans (hq _), ?_, ?_⟩
      · rw [List.length_map, ht.length]
        exact hl
      have tk : ∀ b o, H b = some o → b ≠ p → b ≠ st → upd (upd (upd H p (.ins cs.P dp (putF "without" (.int (without + 1)) (pF (.ref st) (.int without))))) r (.tup [.int n, .int side])) st (.lst (as.map V.ref ++ [.ref r])) b = some o := fun b o e hb1 hb2 => by
        rw [upd_ne hb2, upd_ne (ne_of_none e hr1.1), upd_ne hb1]
        exact e
      refine k _ st (.inl rfl) ⟨?_, as ++ [r], ?_, Tups.append (ht.keep fun b xs e => ?_) (.cons ?_ .nil)⟩ tk
      · rw [upd_ne hps, upd_ne hr1.2.2.symm]
        exact Eq.trans upd_same (congrArg (fun z => some (HO.ins cs.P dp z)) pF_put_without)
      · rw [List.map_append]
        exact upd_same
      · exact tk b _ e (ne_of e hp.P (by intro z; cases z)) (ne_of e hs (by intro z; cases z))
      · rw [upd_ne hr1.2.1]
        exact upd_same
theorem ok_Positions_many_times (X : MTx K cs.P "many_times" "Positions.many_times" s_Positions_many_times ["self"]) (T : Txt K mg cs) : MOk P w K mg base CX0 1 cs.P "many_times" ["self"] (sp_Positions_many_times cs K) := by
  refine X.ok sc_Positions_many_times (fun vs H Q E h => ?_) (fun f cdv A outer s H vs Q E hr h => ⟨_, (pss_one (ps_ret (pe_bm PySem.F.plainAttrs_list PySem.F.slot_list_count PySem.F.type_list_count (mt_countD (hu65 hr)) (pe_fld (pv 0) rfl) (pa_cons (pe_ix ix_list (pe_fld (pv 0) rfl) (pe_un un_neg pe_int) (fun _ _ => rfl)) pa_nil)))), ?_⟩)
  · obtain ⟨_, _, _, _, _, rfl, _⟩ := h
    rfl
  · obtain ⟨p, dp, st, stood, without, rfl, hp, hne, k⟩ := h
    obtain ⟨l, z, rfl⟩ := snoc_of hne
    obtain ⟨as, hs, ht⟩ := hp.S
    obtain ⟨bs, a, rfl, ha⟩ := ht.last
    rw [times_last] at k
    refine ⟨_, rfl, p, cs.P, dp, _, _, rfl, hp.P, T.cP, T.nP_stood, pF_stood, .inl ⟨rfl, _, SqL.of hs⟩, _, rfl, p, cs.P, dp, _, _, rfl, hp.P, T.cP, T.nP_stood, pF_stood, _, rfl, st, _, _, .ref a, rfl, rfl, SqL.of hs, ?_, ?_⟩
    · rw [List.map_append]
      exact atI_last _ _
    · exact ⟨st, _, pD z, _, rfl, rfl, .lst (SqL.of hs) ht.dp, .tup (SqT.of ha) (.cons (.int _) (.cons (.int _) .nil)), pDs_shaped _, pD_shaped z, k⟩
theorem ok_Positions_is_fifth (X : MTx K cs.P "is_fifth" "Positions.is_fifth" s_Positions_is_fifth ["self"]) (T : Txt K mg cs) (m_Positions_many_times : MOk P w K mg base CX0 1 cs.P "many_times" ["self"] (sp_Positions_many_times cs K)) : MOk P w K mg base CX0 2 cs.P "is_fifth" ["self"] (sp_Positions_is_fifth cs K) := by
  refine X.ok sc_Positions_is_fifth (fun vs H Q E h => ?_) (fun f cdv A outer s H vs Q E hr h => ⟨_, (pss_one (ps_ret (pe_cmpR op_ge (pe_methM0 (pv 0) T.cP m_Positions_many_times hr (by decide) pass0) (pe_gi T.FIFTH) (nomark _)))), ?_⟩)
  · obtain ⟨_, _, _, _, _, rfl, _⟩ := h
    rfl
  · obtain ⟨p, dp, st, stood, without, rfl, hp, hne, k⟩ := h
    exact ⟨_, rfl, p, dp, _, rfl, hp.P, pF_no_many_times, p, dp, st, stood, without, rfl, hp, hne, _, _, rfl, rfl, k⟩
theorem ok_Positions_is_long (X : MTx K cs.P "is_long" "Positions.is_long" s_Positions_is_long ["self"]) (T : Txt K mg cs) : MOk P w K mg base CX0 1 cs.P "is_long" ["self"] (sp_Positions_is_long cs K) := by
  refine X.ok sc_Positions_is_long (fun vs H Q E h => ?_) (fun f cdv A outer s H vs Q E hr h => ⟨_, (pss_one (ps_ret (pe_cmpR op_ge (pe_fld (pv 0) rfl) (pe_gi T.MOST_WITHOUT) (nomark _)))), ?_⟩)
  · obtain ⟨_, _, _, _, _, rfl, _⟩ := h
    rfl
  · obtain ⟨p, dp, st, stood, without, rfl, hp, k⟩ := h
    exact ⟨_, rfl, p, cs.P, dp, _, _, rfl, hp.P, T.cP, T.nP_without, pF_without, _, _, rfl, rfl, k⟩
theorem ok_Positions_is_claimed (X : MTx K cs.P "is_claimed" "Positions.is_claimed" s_Positions_is_claimed ["self", "claim"]) (T : Txt K mg cs) (m_Positions_many_times : MOk P w K mg base CX0 1 cs.P "many_times" ["self"] (sp_Positions_many_times cs K)) : MOk P w K mg base CX0 2 cs.P "is_claimed" ["self", "claim"] (sp_Positions_is_claimed cs K) := by
  refine X.ok sc_Positions_is_claimed (fun vs H Q E h => ?_) (fun f cdv A outer s H vs Q E hr h => ⟨_, (pss_cons (ps_if (pt_cmpR op_eq (pv 1) pe_int (nomark _)) (pss_one (ps_ret (pe_cmpR op_ge (pe_methM0 (pv 0) T.cP m_Positions_many_times hr (by decide) pass0) (pe_gi T.THIRD) (nomark _)))) pss_nil)
      (pss_one (ps_ret (pe_cmpR op_ge (pe_fld (pv 0) rfl) (pe_gi T.CLAIMED_WITHOUT) (nomark _))))), ?_⟩)
  · obtain ⟨_, _, _, _, _, _, rfl, _⟩ := h
    rfl
  · obtain ⟨p, dp, st, stood, without, claim, rfl, hp, hne, k⟩ := h
    refine ⟨_, rfl, rfl, _, rfl, ?_⟩
    rw [decV]
    by_cases c : claim = 0
    · rw [if_pos c] at k
      refine ifT (decide_eq_true c) ?_
      exact ⟨_, rfl, p, dp, _, rfl, hp.P, pF_no_many_times, p, dp, st, stood, without, rfl, hp, hne, _, _, rfl, rfl, k⟩
    · rw [if_neg c] at k
      refine ifF (decide_eq_false c) ?_
      exact ⟨_, rfl, p, cs.P, dp, _, _, rfl, hp.P, T.cP, T.nP_without, pF_without, _, _, rfl, rfl, k⟩
theorem ok_Positions_told (X : MTx K cs.P "told" "Positions.told" s_Positions_told ["self"]) (T : Txt K mg cs) (m_Positions_many_times : MOk P w K mg base CX0 1 cs.P "many_times" ["self"] (sp_Positions_many_times cs K)) : MOk P w K mg base CX0 2 cs.P "told" ["self"] (sp_Positions_told cs K) := by
  refine X.ok sc_Positions_told (fun vs H Q E h => ?_) (fun f cdv A outer s H vs Q E hr h => ⟨_, (pss_one (ps_ret (pe_lst (pa_cons (pe_methM0 (pv 0) T.cP m_Positions_many_times hr (by decide) pass0) (pa_cons (pe_fld (pv 0) rfl) (pa_cons (pe_callB call_len_seq (by rfl) T.b_len PySem.boot_len (pa_cons (pe_fld (pv 0) rfl) pa_nil)) pa_nil)))))), ?_⟩)
  · obtain ⟨_, _, _, _, _, rfl, _⟩ := h
    rfl
  · obtain ⟨p, dp, st, stood, without, rfl, hp, hne, k⟩ := h
    obtain ⟨as, hs, ht⟩ := id hp.S
    refine ⟨_, rfl, p, dp, _, rfl, hp.P, pF_no_many_times, p, dp, st, stood, without, rfl, hp, hne, ?_⟩
    refine ⟨_, rfl, p, cs.P, dp, _, _, rfl, hp.P, T.cP, T.nP_without, pF_without, ?_⟩
    refine ⟨_, rfl, p, cs.P, dp, _, _, rfl, hp.P, T.cP, T.nP_stood, pF_stood, st, _, rfl, .inl (SqL.of hs), sz, fun q nq => ?_⟩
    have := k q nq
    rw [List.length_map, ht.length]
    exact this
end
end Ck

namespace Ck
open PySem PySem.Spec PyProof.Rows L2
/-! ### Times, rows of stretches: what each def promises -/
def sp_Times_init (cs : Cs) (K : PySem.W.Frag) : Sp := fun vs H Q _ => ∃ (x dx s : Addr) (mode extra : Int), vs = [.ref x, .int mode, .int extra, .ref s] ∧ H x = some (.ins cs.T dx []) ∧
  ∀ H' : Hp, H' x = some (.ins cs.T dx (tF (.int mode) (.int extra) (.ref s))) → (∀ b o, H b = some o → b ≠ x → H' b = some o) → Q .non H'
def sp_Times_at_first (cs : Cs) (K : PySem.W.Frag) : Sp := fun vs H Q _ => ∃ (t dt s : Addr) (mode extra : Int) (str : List P2), vs = [.ref t] ∧ TimesAt cs H t dt s mode extra str ∧ str ≠ [] ∧ Q (.int (atFirst mode extra str)) H
def sp_Times_taken_off (cs : Cs) (K : PySem.W.Frag) : Sp := fun vs H Q _ => ∃ (t dt s : Addr) (mode extra used : Int) (str : List P2), vs = [.ref t, .int used] ∧ TimesAt cs H t dt s mode extra str ∧ Q (.int (taken mode extra used)) H
def sp_Times_of_stretches (cs : Cs) (K : PySem.W.Frag) : Sp := fun vs H Q _ => ∃ (t dt s : Addr) (mode extra made : Int) (str : List P2), vs = [.ref t, .int made] ∧ TimesAt cs H t dt s mode extra str ∧ ∀ H', Same H H' → Q (.int (ofStr made 0 str)) H'
def sp_Times_coming (cs : Cs) (K : PySem.W.Frag) : Sp := fun vs H Q _ => ∃ (t dt s : Addr) (mode extra made : Int) (str : List P2), vs = [.ref t, .int made] ∧ TimesAt cs H t dt s mode extra str ∧ ∀ H', Same H H' → Q (.int (ofStr made 0 str + added mode extra)) H'
def sp_pairs_of (cs : Cs) (K : PySem.W.Frag) : Sp := fun vs H Q _ => ∃ (r : Addr) (row : List Int), vs = [.ref r] ∧ SqL K H r (row.map V.int) ∧ row.length % 2 = 0 ∧ row.length ≤ 10000 ∧ ∀ (H' : Hp) (p : Addr), Same H H' → H p = none → LT H' p (pairsOf row) → Q (.ref p) H'
def sp_are_stretches (cs : Cs) (K : PySem.W.Frag) : Sp := fun vs H Q _ => ∃ (r : Addr) (row : List Int), vs = [.ref r] ∧ SqL K H r (row.map V.int) ∧ row.length ≤ 10000 ∧ ∀ H' : Hp, Same H H' → Q (.bl (goodRow row)) H'
/-! ### small things -/
theorem one_of (mode extra : Int) : extra * (if decide (V.int mode = V.int 1) = true then 1 else 0) = added mode extra := by
  unfold added
  rw [decV]
  by_cases h : mode = 1
  · rw [decide_eq_true h, if_pos rfl, if_pos h]
  · rw [decide_eq_false h, if_neg (by decide), if_neg h]
theorem mul_ok (extra mode : Int) : CMul extra (if decide (V.int mode = V.int 1) = true then 1 else 0) := .inr (by split <;> decide)
theorem same_times {cs : Cs} {H H' : Hp} {t dt s : Addr} {mode extra : Int} {str : List P2} (e : Same H H') (h : TimesAt cs H t dt s mode extra str) : TimesAt cs H' t dt s mode extra str := ⟨e _ _ h.T, h.S.same e⟩
theorem cut_tail (xs : List V) : cutV xs (some 1) none = xs.drop 1 := by
  unfold cutV
  rw [show (some (1 : Int)) = some ((1 : Nat) : Int) from rfl, HT.sIx_nat, HT.sIx_none]
  cases xs with
  | nil => rfl
  | cons x l =>
    rw [show min 1 (x :: l).length = 1 by simp only [List.length_cons]; omega]
    rw [List.take_of_length_le (by simp)]
theorem cut_init (xs : List V) : cutV xs none (some (-1)) = xs.dropLast := by
  unfold cutV
  rw [HT.sIx_none, List.drop_zero, Nat.sub_zero, List.dropLast_eq_take]
  congr 1
  have := HT.clip_eq (-1) xs.length xs.length
  rw [if_pos (by decide)] at this
  omega
theorem Tups.init : ∀ {H : Hp} {as : List Addr} {l : List P2}, Tups H as l → Tups H as.dropLast l.dropLast
  | _, _, _, .nil => .nil
  | _, _, _, .cons r .nil => .nil
  | _, _, _, .cons r (.cons r' t) => .cons r (Tups.init (.cons r' t))
/-- lo <= x <= hi -/
theorem chain_le {lo x hi : Int} {σ : L2.St} {H : Hp} {Q : VK} {i : Nat} (hx : σ[i]? = some (some (.int x))) (q : Q (.bl (decide (lo ≤ x) && decide (x ≤ hi))) H) :
    tChain (rI0 fun i j => .bl (decide (i ≤ j))) (rI0 fun i j => .bl (decide (i ≤ j))) (tC (.int lo)) (tVar i) (tC (.int hi)) σ H Q := by
  refine ⟨_, hx, _, _, rfl, rfl, _, rfl, ?_⟩
  by_cases h : lo ≤ x
  · refine ifT (decide_eq_true h) ?_
    rw [decide_eq_true h, Bool.true_and] at q
    exact ⟨_, _, rfl, rfl, q⟩
  · refine ifF (decide_eq_false h) ?_
    rw [decide_eq_false h, Bool.false_and] at q
    exact q
/-- a loop over zip of two lists, the second not longer -/
theorem for_zipN {K : PySem.W.Frag} {a b : Addr} {xs ys : List V} {g : TG} {tb : TS} {D : Ends} {σ : L2.St} {H : Hp} (hl : ys.length ≤ xs.length) (Pv : Nat → L2.St → Hp → Prop) (h0 : Pv 0 σ H) (hq : ∀ i σ H, Pv i σ H → SqL K H a xs ∧ SqL K H b ys)
    (hs : ∀ (i : Nat) (x y : V) (T : Addr) (σ : L2.St) (H : Hp), xs[i]? = some x → ys[i]? = some y → Pv i σ H → H T = none → g (.ref T) σ (upd H T (.tup [x, y])) fun σ2 H2 => tb { D with nx := Pv (i + 1), ct := Pv (i + 1), bk := D.nx } σ2 H2) (hd : ∀ σ H, Pv ys.length σ H → D.nx σ H) :
    ∃ W : Nat → Nat → L2.St → Hp → Prop, (∃ m, W 0 m σ H) ∧ ∀ i m σ H, W i m σ H →
      ((Itz K a b).stop i H ∧ D.nx σ H) ∨ ((Itz K a b).go i H ∧ ∃ N : L2.St → Hp → Prop, (∀ σ' H', N σ' H' → ∃ m', m' < m ∧ W (i + 1) m' σ' H') ∧ ∀ v H', (Itz K a b).yld i H v H' → g v σ H' fun σ2 H2 => tb { D with nx := N, ct := N, bk := D.nx } σ2 H2) := by
  refine ⟨fun i m σ H => m = ys.length - i ∧ i ≤ ys.length ∧ Pv i σ H, ⟨ys.length, rfl, Nat.zero_le _, h0⟩, ?_⟩
  rintro i m σ H ⟨rfl, hi, p⟩
  obtain ⟨qx, qy⟩ := hq i σ H p
  by_cases hlt : i < ys.length
  · have hlt2 : i < xs.length := by omega
    have hx : xs[i]? = some xs[i] := List.getElem?_eq_getElem hlt2
    have hy : ys[i]? = some ys[i] := List.getElem?_eq_getElem hlt
    refine .inr ⟨⟨xs, ys, _, _, qx, qy, hx, hy⟩, Pv (i + 1), fun σ' H' p' => ⟨ys.length - (i + 1), by omega, rfl, hlt, p'⟩, fun v H' y => ?_⟩
    obtain ⟨T, x', y', rfl, hT, rfl, f1, f2⟩ := y
    exact hs i x' y' T σ H (f1 xs qx) (f2 ys qy) p hT
  · have e : i = ys.length := by omega
    subst e
    exact .inl ⟨⟨xs, ys, qx, qy, Or.inr (Nat.le_refl _)⟩, hd σ H p⟩
/-- a comprehension over a range with a step -/
theorem lc_rangeC {lo c : Int} {n : Nat} {g : TG} {tt : TT} {te : TE} {vs : List Nat} {σ : L2.St} {H1 : Hp} {D : Addr} {Qd : Hp → Prop} (Pv : Nat → Hp → Prop) (h0 : Pv 0 (upd H1 D (.lst [])))
    (hs : ∀ i H, i < n → Pv i H → g (.int (lo + (i : Nat) * c)) (wipe σ vs) H fun σ2 H2 => wipe σ2 vs = wipe σ vs ∧ tt σ2 H2 fun b H3 =>
      if b = true then te σ2 H3 fun y H4 => ∃ acc, H4 D = some (.lst acc) ∧ acc.length < sizeLine ∧ Pv (i + 1) (upd H4 D (.lst (acc ++ [y]))) else Pv (i + 1) H3) (hd : ∀ H, Pv n H → Qd H) :
    ∃ W : Nat → Nat → Hp → Prop, (∃ m, W 0 m (upd H1 D (.lst []))) ∧ ∀ i m H, W i m H →
      ((Itc lo c n).stop i H ∧ Qd H) ∨ ((Itc lo c n).go i H ∧ ∃ Nx : Hp → Prop, (∀ H', Nx H' → ∃ m', m' < m ∧ W (i + 1) m' H') ∧ ∀ x H', (Itc lo c n).yld i H x H' → g x (wipe σ vs) H' fun σ2 H2 => wipe σ2 vs = wipe σ vs ∧ tt σ2 H2 fun b H3 =>
        if b = true then te σ2 H3 fun y H4 => ∃ acc, H4 D = some (.lst acc) ∧ acc.length < sizeLine ∧ Nx (upd H4 D (.lst (acc ++ [y]))) else Nx H3) := by
  refine ⟨fun i m H => m = n - i ∧ i ≤ n ∧ Pv i H, ⟨n, by simp, Nat.zero_le _, h0⟩, ?_⟩
  rintro i m H ⟨rfl, hi, p⟩
  by_cases hlt : i < n
  · refine .inr ⟨hlt, Pv (i + 1), fun H' p' => ⟨n - (i + 1), by omega, rfl, hlt, p'⟩, fun x H' y => ?_⟩
    obtain ⟨e, y⟩ := y
    subst e y
    exact hs i _ hlt p
  · have e : i = n := by omega
    subst e
    exact .inl ⟨Nat.le_refl _, hd H p⟩
theorem ofStr_short (made ahead : Int) : ∀ l : List P2, l.length ≤ 1 → ofStr made ahead l = 0
  | [], _ => rfl
  | [_], _ => rfl
  | _ :: _ :: l, h => by simp at h
theorem rg2 {n : Nat} (h : n % 2 = 0) (hl : n ≤ 10000) : RgC 0 (n : Int) 2 (n / 2) := by
  have e : Builtin.Range.rangeSize 0 (n : Int) 2 = ((n / 2 : Nat) : Int) := by
    unfold Builtin.Range.rangeSize
    rw [if_pos (by decide)]
    split <;> omega
  refine ⟨by decide, by decide, ?_, e⟩
  unfold Builtin.Range.small
  rw [e]
  generalize hk : ((n / 2 : Nat) : Int) = k
  have hk1 : 0 ≤ k := by omega
  have hk2 : k ≤ 5000 := by omega
  have hn1 : (0 : Int) ≤ (n : Int) := by omega
  have hn2 : (n : Int) ≤ 10000 := by omega
  generalize (n : Int) = z at hn1 hn2
  simp only [Builtin.Range.rangeFitsLong, Bool.and_eq_true, Bool.or_eq_true, decide_eq_true_eq, beq_iff_eq, show (2 : Int) > 0 by decide, if_true]
  omega
theorem pairs_get : ∀ (row : List Int) (i : Nat), i < row.length / 2 → ∃ a b, row[2 * i]? = some a ∧ row[2 * i + 1]? = some b ∧ (pairsOf row)[i]? = some (a, b)
  | [], i, h => by simp at h
  | [_], i, h => by simp at h
  | a :: b :: l, 0, _ => ⟨a, b, rfl, rfl, rfl⟩
  | a :: b :: l, i + 1, h => by
    obtain ⟨x, y, h1, h2, h3⟩ := pairs_get l i (by simp only [List.length_cons] at h; omega)
    exact ⟨x, y, h1, h2, h3⟩
theorem take_more {α : Type} : ∀ {l : List α} {i : Nat} {x : α}, l[i]? = some x → l.take (i + 1) = l.take i ++ [x]
  | [], i, x, h => by simp at h
  | a :: l, 0, x, h => by
    have e : a = x := Option.some.inj h
    subst e
    rfl
  | a :: l, i + 1, x, h => by
    have ih := take_more (l := l) (i := i) (x := x) h
    show a :: l.take (i + 1) = a :: l.take i ++ [x]
    rw [ih]
    rfl
theorem drop_at {α : Type} : ∀ {l : List α} {i : Nat} {x : α}, l[i]? = some x → l.drop i = x :: l.drop (i + 1)
  | [], i, x, h => by simp at h
  | a :: l, 0, x, h => by
    have e : a = x := Option.some.inj h
    subst e
    rfl
  | a :: l, i + 1, x, h => drop_at (l := l) (i := i) (x := x) h
theorem snoc_of' {α : Type} {l : List α} (h : l ≠ []) : ∃ k z, l = k ++ [z] := ⟨l.dropLast, l.getLast h, (List.dropLast_concat_getLast h).symm⟩
theorem Tups.last' {H : Hp} : ∀ {l : List P2} {z : P2} {as : List Addr}, Tups H as (l ++ [z]) → ∃ bs a, as = bs ++ [a] ∧ H a = some (.tup [.int z.1, .int z.2])
  | [], z, as, h => by
    cases h with
    | cons r t =>
      cases t
      exact ⟨[], _, rfl, r⟩
  | x :: l, z, as, h => by
    cases h with
    | cons r t =>
      obtain ⟨bs, a, e, ha⟩ := Tups.last' (l := l) t
      exact ⟨_ :: bs, a, by rw [e]; rfl, ha⟩
section
variable {P : Program} {w : World} {K : PySem.W.Frag} {mg : Str → Option Value} {base : Heap} {cs : Cs}
theorem ok_Times_init (X : CTx K mg "Times" cs.T "Times.__init__" s_Times_init ["self", "mode", "extra", "stretches"]) (T : Txt K mg cs) : COk P w K mg base 1 "Times" cs.T ["self", "mode", "extra", "stretches"] (sp_Times_init cs K) := by
  refine X.ok sc_Times_init (fun vs H Q E h => ?_) (fun f cdv A outer s H vs Q E hr h => ⟨_, (pss_cons (ps_fld (pv 0) (pv 1) rfl)
      (pss_cons (ps_fld (pv 0) (pv 2) rfl)
      (pss_one (ps_fld (pv 0) (pv 3) rfl)))), ?_⟩)
  · obtain ⟨_, _, _, _, _, rfl, _⟩ := h
    rfl
  · obtain ⟨x, dx, s, mode, extra, rfl, hx, k⟩ := h
    refine ⟨_, rfl, _, rfl, x, cs.T, dx, [], rfl, hx, T.cT, T.nT_mode, few, ?_⟩
    refine ⟨_, rfl, _, rfl, x, cs.T, dx, _, rfl, upd_same, T.cT, T.nT_extra, few, ?_⟩
    refine ⟨_, rfl, _, rfl, x, cs.T, dx, _, rfl, upd_same, T.cT, T.nT_stretches, few, ?_⟩
    refine k _ (Eq.trans upd_same (congrArg (fun z => some (HO.ins cs.T dx z)) tF_new)) fun b o e hb => ?_
    rw [upd_ne hb, upd_ne hb, upd_ne hb]
    exact e
theorem ok_Times_at_first (X : MTx K cs.T "at_first" "Times.at_first" s_Times_at_first ["self"]) (T : Txt K mg cs) : MOk P w K mg base CX0 1 cs.T "at_first" ["self"] (sp_Times_at_first cs K) := by
  refine X.ok sc_Times_at_first (fun vs H Q E h => ?_) (fun f cdv A outer s H vs Q E hr h => ⟨_, (pss_one (ps_ret (pe_op op_add (pe_ix ix_tup (pe_ix ix_list (pe_fld (pv 0) rfl) pe_int (fun _ _ => rfl)) pe_int (fun _ _ => rfl)) (pe_op op_mul (pe_fld (pv 0) rfl) (pe_callTy call_int1 (by rfl) T.b_int (by decide +kernel) (pa_cons (pe_cmpR op_eq (pe_fld (pv 0) rfl) (pe_gi T.ADDED) (nomark _)) pa_nil)))))), ?_⟩)
  · obtain ⟨_, _, _, _, _, _, rfl, _⟩ := h
    rfl
  · obtain ⟨t, dt, s, mode, extra, str, rfl, ht, hne, k⟩ := h
    obtain ⟨as, hs, hz⟩ := ht.S
    cases str with
    | nil => exact absurd rfl hne
    | cons z l =>
      cases hz with
      | cons ha hz =>
        refine ⟨_, rfl, t, cs.T, dt, _, _, rfl, ht.T, T.cT, T.nT_stretches, tF_stretches, s, _, _, _, rfl, rfl, SqL.of hs, at_of (j := 0) rfl rfl, _, _, _, _, rfl, rfl, SqT.of ha, rfl, ?_⟩
        refine ⟨_, rfl, t, cs.T, dt, _, _, rfl, ht.T, T.cT, T.nT_extra, tF_extra, _, rfl, t, cs.T, dt, _, _, rfl, ht.T, T.cT, T.nT_mode, tF_mode, rfl, .inr ⟨_, rfl, _, _, rfl, rfl, mul_ok _ _, _, _, rfl, rfl, ?_⟩⟩
        have e := one_of mode extra
        rw [e]
        exact k
theorem ok_Times_taken_off (X : MTx K cs.T "taken_off" "Times.taken_off" s_Times_taken_off ["self", "used"]) (T : Txt K mg cs) : MOk P w K mg base CX0 1 cs.T "taken_off" ["self", "used"] (sp_Times_taken_off cs K) := by
  refine X.ok sc_Times_taken_off (fun vs H Q E h => ?_) (fun f cdv A outer s H vs Q E hr h => ⟨_, (pss_cons (ps_if (pt_cmpR op_eq (pe_fld (pv 0) rfl) (pe_gi T.HELD_BACK) (nomark _)) (pss_one (ps_ret (pe_callB (call_max2 rfl) (by rfl) T.b_max (by decide +kernel) (pa_cons pe_int (pa_cons (pe_op op_sub (pv 1) (pe_fld (pv 0) rfl)) pa_nil))))) pss_nil)
      (pss_one (ps_ret (pv 1)))), ?_⟩)
  · obtain ⟨_, _, _, _, _, _, _, rfl, _⟩ := h
    rfl
  · obtain ⟨t, dt, s, mode, extra, used, str, rfl, ht, k⟩ := h
    refine ⟨_, rfl, t, cs.T, dt, _, _, rfl, ht.T, T.cT, T.nT_mode, tF_mode, rfl, _, rfl, ?_⟩
    rw [decV]
    unfold taken at k
    by_cases c : mode = 2
    · rw [if_pos c] at k
      refine ifT (decide_eq_true c) ?_
      exact ⟨_, rfl, _, rfl, t, cs.T, dt, _, _, rfl, ht.T, T.cT, T.nT_extra, tF_extra, _, _, rfl, rfl, _, _, rfl, k⟩
    · rw [if_neg c] at k
      refine ifF (decide_eq_false c) ?_
      exact ⟨_, rfl, k⟩
theorem ok_Times_of_stretches (X : MTx K cs.T "of_stretches" "Times.of_stretches" s_Times_of_stretches ["self", "made"]) (T : Txt K mg cs) : MOk P w K mg base CX0 1 cs.T "of_stretches" ["self", "made"] (sp_Times_of_stretches cs K) := by
  refine X.ok sc_Times_of_stretches (fun vs H Q E h => ?_) (fun f cdv A outer s H vs Q E hr h => ⟨_, (pss_cons (ps_set (i := 2) sc_Times_of_stretches.nd rfl (Or.inl rfl) pe_int)
      (pss_cons (ps_for PassesOwn.never rfl (pi_zip (by rfl) T.b_zip (pa_cons (pe_fld (pv 0) rfl) (pa_cons (pe_slice sl_list (pe_fld (pv 0) rfl) (po_some pe_int) po_none) pa_nil))) (pg_tup rfl (pgs_cons (pg_tup rfl (pgs_cons (pg_name (i := 3) sc_Times_of_stretches.nd rfl (Or.inl rfl)) (pgs_cons (pg_name (i := 4) sc_Times_of_stretches.nd rfl (Or.inl rfl)) pgs_nil))) (pgs_cons (pg_name (i := 5) sc_Times_of_stretches.nd rfl (Or.inl rfl)) pgs_nil))) (pss_cons (ps_set (i := 2) sc_Times_of_stretches.nd rfl (Or.inl rfl) (pe_op op_add (pv 2) (pv 3)))
      (pss_one (ps_if (pt_cmpR op_eq (pv 2) (pv 1) (nomark _)) (pss_one (ps_ret (pe_ix ix_tup (pv 5) pe_int (fun _ _ => rfl)))) pss_nil))))
      (pss_one (ps_ret pe_int)))), ?_⟩)
  · obtain ⟨_, _, _, _, _, _, _, rfl, _⟩ := h
    rfl
  · obtain ⟨t, dt, s, mode, extra, made, str, rfl, ht, k⟩ := h
    obtain ⟨as, hs, hz⟩ := ht.S
    refine ⟨_, rfl, t, cs.T, dt, _, _, rfl, ht.T, T.cT, T.nT_stretches, tF_stretches, _, rfl, t, cs.T, dt, _, _, rfl, ht.T, T.cT, T.nT_stretches, tF_stretches, _, rfl, s, _, rfl, SqL.of hs, fun p np => ?_⟩
    rw [cut_tail]
    have s1 : Same H (upd H p (.lst ((as.map V.ref).drop 1))) := Same.new np
    refine ⟨s, p, _, _, rfl, SqL.of (s1 _ _ hs), SqL.of upd_same, ?_⟩
    refine for_zipN (K := K) (a := s) (b := p) (xs := as.map V.ref) (ys := (as.map V.ref).drop 1) (by simp) (fun i σ H' => ∃ (ahead : Int) (v3 v4 v5 : Option V), σ = [some (.ref t), some (.int made), some (.int ahead), v3, v4, v5] ∧ Same (upd H p (.lst ((as.map V.ref).drop 1))) H' ∧ ofStr made 0 str = ofStr made ahead (str.drop i))
      ⟨0, none, none, none, rfl, Same.refl _, rfl⟩ (fun i σ H' ⟨_, _, _, _, _, s2, _⟩ => ⟨SqL.of (s2 _ _ (s1 _ _ hs)), SqL.of (s2 _ _ upd_same)⟩) ?_ ?_
    · rintro i x y Tn σ H' hx hy ⟨ahead, v3, v4, v5, rfl, s2, e⟩ nT
      have hy' : (as.map V.ref)[i + 1]? = some y := by
        rw [List.getElem?_drop, Nat.add_comm] at hy
        exact hy
      have hlen := hz.length
      rw [List.getElem?_map] at hx hy'
      obtain ⟨a1, e1, rfl⟩ := Option.map_eq_some_iff.mp hx
      obtain ⟨a2, e2, rfl⟩ := Option.map_eq_some_iff.mp hy'
      have l1 : i < str.length := by
        have := (List.getElem?_eq_some_iff.mp e1).1
        omega
      have l2 : i + 1 < str.length := by
        have := (List.getElem?_eq_some_iff.mp e2).1
        omega
      obtain ⟨b1, f1, h1⟩ := hz.get (List.getElem?_eq_getElem l1)
      obtain ⟨b2, f2, h2⟩ := hz.get (List.getElem?_eq_getElem l2)
      rw [e1] at f1
      rw [e2] at f2
      cases f1
      cases f2
      have s3 : Same H (upd H' Tn (.tup [.ref a1, .ref a2])) := (s1.trans s2).trans (Same.new nT)
      refine ⟨Tn, _, rfl, SqT.of upd_same, rfl, _, _, rfl, a1, _, rfl, SqT.of (s3 _ _ h1), rfl, _, _, rfl, _, _, rfl, rfl, _, _, rfl, rfl, ?_⟩
      refine ⟨_, rfl, _, rfl, _, _, rfl, rfl, ?_⟩
      refine ⟨_, rfl, _, rfl, rfl, _, rfl, ?_⟩
      rw [decV]
      have ed : str.drop i = str[i] :: str[i + 1] :: str.drop (i + 1 + 1) := by
        rw [drop_at (List.getElem?_eq_getElem l1), drop_at (List.getElem?_eq_getElem l2)]
      rw [ed] at e
      have ed2 : str.drop (i + 1) = str[i + 1] :: str.drop (i + 1 + 1) := drop_at (List.getElem?_eq_getElem l2)
      have eo : ofStr made ahead (str[i] :: str[i + 1] :: str.drop (i + 1 + 1)) = if ahead + str[i].1 = made then str[i + 1].2 else ofStr made (ahead + str[i].1) (str[i + 1] :: str.drop (i + 1 + 1)) := rfl
      rw [eo] at e
      by_cases c : ahead + str[i].1 = made
      · refine ifT (decide_eq_true c) ?_
        rw [if_pos c] at e
        rw [e] at k
        exact ⟨_, rfl, a2, _, _, _, rfl, rfl, SqT.of (s3 _ _ h2), rfl, k _ s3⟩
      · refine ifF (decide_eq_false c) ?_
        rw [if_neg c, ← ed2] at e
        exact ⟨ahead + str[i].1, _, _, _, rfl, s2.trans (Same.new nT), e⟩
    · rintro σ H' ⟨ahead, v3, v4, v5, rfl, s2, e⟩
      have hlen := hz.length
      have e0 : ofStr made ahead (str.drop ((as.map V.ref).drop 1).length) = 0 := by
        rw [List.length_drop, List.length_map, hlen]
        exact ofStr_short _ _ _ (by rw [List.length_drop]; omega)
      rw [e0] at e
      rw [e] at k
      exact k _ (s1.trans s2)
theorem ok_Times_coming (X : MTx K cs.T "coming" "Times.coming" s_Times_coming ["self", "made"]) (T : Txt K mg cs) (m_Times_of_stretches : MOk P w K mg base CX0 1 cs.T "of_stretches" ["self", "made"] (sp_Times_of_stretches cs K)) : MOk P w K mg base CX0 2 cs.T "coming" ["self", "made"] (sp_Times_coming cs K) := by
  refine X.ok sc_Times_coming (fun vs H Q E h => ?_) (fun f cdv A outer s H vs Q E hr h => ⟨_, (pss_one (ps_ret (pe_op op_add (pe_methM (pv 0) T.cT m_Times_of_stretches hr (by decide) pass0 (pa_cons (pv 1) pa_nil)) (pe_op op_mul (pe_fld (pv 0) rfl) (pe_callTy call_int1 (by rfl) T.b_int (by decide +kernel) (pa_cons (pe_cmpR op_eq (pe_fld (pv 0) rfl) (pe_gi T.ADDED) (nomark _)) pa_nil)))))), ?_⟩)
  · obtain ⟨_, _, _, _, _, _, _, rfl, _⟩ := h
    rfl
  · obtain ⟨t, dt, s, mode, extra, made, str, rfl, ht, k⟩ := h
    refine ⟨_, rfl, t, dt, _, rfl, ht.T, tF_no_of_stretches, _, rfl, t, dt, s, mode, extra, made, str, rfl, ht, fun H' s1 => ?_⟩
    have ht' := same_times s1 ht
    refine ⟨_, rfl, t, cs.T, dt, _, _, rfl, ht'.T, T.cT, T.nT_extra, tF_extra, _, rfl, t, cs.T, dt, _, _, rfl, ht'.T, T.cT, T.nT_mode, tF_mode, rfl, .inr ⟨_, rfl, _, _, rfl, rfl, mul_ok _ _, _, _, rfl, rfl, ?_⟩⟩
    rw [one_of mode extra]
    exact k _ s1
theorem ok_pairs_of (X : FTx K mg "pairs_of" s_pairs_of ["row"]) (T : Txt K mg cs) : FOk P w K mg base CX0 1 "pairs_of" ["row"] (sp_pairs_of cs K) := by
  refine X.ok sc_pairs_of (fun vs H Q E h => ?_) (fun f cdv A outer s H vs Q E hr h => ⟨_, (pss_one (ps_ret (pe_lc (own := [("at", 1)]) (g := (gName 1)) (tt := tYes) rfl sc_pairs_of.nd (pi_range3 (by rfl) T.b_range (pa_cons pe_int (pa_cons (pe_callB call_len_seq (by rfl) T.b_len PySem.boot_len (pa_cons (pv 0) pa_nil)) (pa_cons pe_int pa_nil)))) (blkOk_by (own := [("at", 1)]) (N := ["row", "at"]) (sc := defScope s_pairs_of) (by decide +kernel)) (fun _ _ _ _ _ => (pg_name (i := 1) sc_pairs_of.nd rfl (Or.inl rfl))) (fun _ _ _ _ _ => pts_nil) (fun _ _ _ _ _ => (pe_tup (pa_cons (pe_ix (show IxR _ (rIxL K) from ix_list) (pv 0) (pv 1) (fun _ _ => rfl)) (pa_cons (pe_ix (show IxR _ (rIxL K) from ix_list) (pv 0) (pe_op op_add (pv 1) pe_int) (fun _ _ => rfl)) pa_nil))))))), ?_⟩)
  · obtain ⟨_, _, rfl, _⟩ := h
    rfl
  · obtain ⟨r, row, rfl, hs, h2, hl, k⟩ := h
    refine ⟨_, rfl, r, _, rfl, .inl hs, 0, _, 2, row.length / 2, rfl, ?_, fun D nD => ?_⟩
    · rw [List.length_map]
      exact rg2 h2 hl
    have s1 : Same H (upd H D (.lst [])) := Same.new nD
    refine lc_rangeC (fun i H' => ∃ as : List Addr, H' D = some (.lst (as.map V.ref)) ∧ Tups H' as ((pairsOf row).take i) ∧ Same H H') ⟨[], upd_same, .nil, s1⟩ ?_ ?_
    · rintro i H' hi ⟨as, hD, hz, s2⟩
      obtain ⟨a, b, e1, e2, e3⟩ := pairs_get row i hi
      have hs' := s2.seq hs
      have m1 : atI (row.map V.int) (0 + (i : Nat) * 2) = some (.int a) := at_of (j := 2 * i) (by omega) (by rw [List.getElem?_map, e1]; rfl)
      have m2 : atI (row.map V.int) (0 + (i : Nat) * 2 + 1) = some (.int b) := at_of (j := 2 * i + 1) (by omega) (by rw [List.getElem?_map, e2]; rfl)
      refine ⟨rfl, ?_⟩
      refine ⟨_, rfl, _, rfl, r, _, _, _, rfl, rfl, hs', m1, _, rfl, _, rfl, _, _, rfl, rfl, r, _, _, _, rfl, rfl, hs', m2, sz, fun q nq => ?_⟩
      have Dq : D ≠ q := ne_of_none hD nq
      refine ⟨_, (upd_ne Dq).trans hD, ?_, as ++ [q], ?_, ?_, fun b o e => ?_⟩
      · have hzl := hz.length
        rw [List.length_map, hzl, List.length_take]
        have := sizeLine_eq
        omega
      · rw [List.map_append]
        exact upd_same
      · rw [take_more e3]
        refine Tups.append (hz.keep fun c xs e => ?_) (.cons ?_ .nil)
        · rw [upd_ne (ne_of e hD (by intro z; cases z)), upd_ne (ne_of_none e nq)]
          exact e
        · rw [upd_ne Dq.symm]
          exact upd_same
      · rw [upd_ne (ne_of_none e nD), upd_ne (ne_of_none (s2 _ _ e) nq)]
        exact s2 _ _ e
    · rintro H' ⟨as, hD, hz, s2⟩
      rw [← pairs_len, List.take_length] at hz
      exact k H' D s2 nD ⟨as, hD, hz⟩
theorem ok_are_stretches (X : FTx K mg "are_stretches" s_are_stretches ["row"]) (T : Txt K mg cs) (f_pairs_of : FOk P w K mg base CX0 1 "pairs_of" ["row"] (sp_pairs_of cs K)) : FOk P w K mg base CX0 2 "are_stretches" ["row"] (sp_are_stretches cs K) := by
  refine X.ok sc_are_stretches (fun vs H Q E h => ?_) (fun f cdv A outer s H vs Q E hr h => ⟨_, (pss_cons (ps_if (PW.pt (pw_or (pt_cmpR op_eq (pe_op op_mod (pe_callB call_len_seq (by rfl) T.b_len PySem.boot_len (pa_cons (pv 0) pa_nil)) pe_int) pe_int (nomark _)) (pw_or1 (pt_not (pt_chain op_le op_le pe_int (pe_op op_fdiv (pe_callB call_len_seq (by rfl) T.b_len PySem.boot_len (pa_cons (pv 0) pa_nil)) pe_int) (pe_gi T.MOST_STRETCHES)))))) (pss_one (ps_ret pe_bl)) pss_nil)
      (pss_cons (ps_set (i := 1) sc_are_stretches.nd rfl (Or.inl rfl) (pe_callF f_pairs_of hr (by decide) rfl pass0 (pa_cons (pv 0) pa_nil)))
      (pss_cons (ps_if (PW.pt (pw_or (pt_cmpR op_ne (pe_ix ix_tup (pe_ix ix_list (pv 1) (pe_un un_neg pe_int) (fun _ _ => rfl)) pe_int (fun _ _ => rfl)) pe_int (nomark _)) (pw_or1 (pt_not (pt_val (pe_callB (cr_all rfl) (by rfl) T.b_all (by decide +kernel) (pa_cons (pe_lc (own := [("moves", 2), ("tenths", 3)]) (g := (gTup K 2 (gCons (gName 2) (gCons (gName 3) gNil)))) (tt := tYes) rfl sc_are_stretches.nd (pi_list (pe_slice sl_list (pv 1) po_none (po_some (pe_un un_neg pe_int)))) (blkOk_by (own := [("moves", 2), ("tenths", 3)]) (N := ["row", "pairs", "moves", "tenths"]) (sc := defScope s_are_stretches) (by decide +kernel)) (fun _ _ _ _ _ => (pg_tup rfl (pgs_cons (pg_name (i := 2) sc_are_stretches.nd rfl (Or.inl rfl)) (pgs_cons (pg_name (i := 3) sc_are_stretches.nd rfl (Or.inl rfl)) pgs_nil)))) (fun _ _ _ _ _ => pts_nil) (fun _ _ _ _ _ => (pe_chain op_le op_le pe_int (pv 2) (pe_gi T.MOST_MOVES)))) pa_nil))))))) (pss_one (ps_ret pe_bl)) pss_nil)
      (pss_one (ps_ret (pe_callB (cr_all rfl) (by rfl) T.b_all (by decide +kernel) (pa_cons (pe_lc (own := [("moves", 2), ("tenths", 3)]) (g := (gTup K 2 (gCons (gName 2) (gCons (gName 3) gNil)))) (tt := tYes) rfl sc_are_stretches.nd (pi_list (pv 1)) (blkOk_by (own := [("moves", 2), ("tenths", 3)]) (N := ["row", "pairs", "moves", "tenths"]) (sc := defScope s_are_stretches) (by decide +kernel)) (fun _ _ _ _ _ => (pg_tup rfl (pgs_cons (pg_name (i := 2) sc_are_stretches.nd rfl (Or.inl rfl)) (pgs_cons (pg_name (i := 3) sc_are_stretches.nd rfl (Or.inl rfl)) pgs_nil)))) (fun _ _ _ _ _ => pts_nil) (fun _ _ _ _ _ => (pe_chain op_le op_le pe_int (pv 3) (pe_gi T.MOST_TENTHS)))) pa_nil))))))), ?_⟩)
  · obtain ⟨_, _, rfl, _⟩ := h
    rfl
  · obtain ⟨r, row, rfl, hs, hl, k⟩ := h
    refine ⟨_, rfl, r, _, rfl, .inl hs, _, _, rfl, rfl, (by decide : (0 : Int) < 2), rfl, _, rfl, ?_⟩
    rw [decV, List.length_map]
    unfold goodRow at k
    by_cases c1 : row.length % 2 = 1
    · refine ifT (decide_eq_true (by omega)) ?_
      refine ifT rfl ?_
      rw [if_pos (.inl c1)] at k
      exact k _ (Same.refl _)
    refine ifF (decide_eq_false (by omega)) ?_
    refine ⟨_, rfl, r, _, rfl, .inl hs, _, _, rfl, rfl, ⟨by decide, by decide⟩, _, _, rfl, rfl, _, rfl, ?_⟩
    rw [List.length_map]
    by_cases c2 : ¬ 1 ≤ row.length / 2
    · refine ifF (decide_eq_false (by omega)) ⟨_, rfl, ifT rfl ?_⟩
      rw [if_pos (.inr (fun z => c2 z.1))] at k
      exact k _ (Same.refl _)
    replace c2 := Decidable.not_not.mp c2
    refine ifT (decide_eq_true (by omega)) ⟨_, _, rfl, rfl, _, rfl, ?_⟩
    by_cases c3 : ¬ row.length / 2 ≤ 4
    · have e : (!decide ((row.length : Int) / 2 ≤ 4)) = true := by
        rw [decide_eq_false (by omega)]
        rfl
      refine ifT e ?_
      rw [if_pos (.inr (fun z => c3 z.2))] at k
      exact k _ (Same.refl _)
    replace c3 := Decidable.not_not.mp c3
    have e4 : (!decide ((row.length : Int) / 2 ≤ 4)) = false := by
      rw [decide_eq_true (by omega)]
      rfl
    refine ifF e4 ?_
    rw [if_neg (by
      intro z
      rcases z with z | z
      · exact c1 z
      · exact z ⟨c2, c3⟩)] at k
    refine ⟨_, rfl, r, row, rfl, hs, by omega, hl, fun H1 p s1 np hp => ?_⟩
    obtain ⟨as, hp1, hz⟩ := hp
    have hne : pairsOf row ≠ [] := fun z => by
      have := pairs_len row
      rw [z] at this
      simp at this
      omega
    obtain ⟨l, z, el⟩ := snoc_of' hne
    obtain ⟨bs, a, eas, ha⟩ := Tups.last' (el ▸ hz)
    have elast : lastOf (pairsOf row) = z.1 := by
      unfold lastOf
      rw [el, List.getLast?_concat]
    refine ⟨_, rfl, _, rfl, p, _, _, .ref a, rfl, rfl, SqL.of hp1, ?_, a, _, _, _, rfl, rfl, SqT.of ha, rfl, rfl, _, rfl, ?_⟩
    · rw [eas, List.map_append]
      exact atI_last _ _
    rw [decV]
    rw [elast] at k
    by_cases c4 : ¬ z.1 = 0
    · have e : (!decide (z.1 = 0)) = true := by
        rw [decide_eq_false c4]
        rfl
      refine ifT e (ifT rfl ?_)
      rw [if_pos (.inl c4)] at k
      exact k _ s1
    replace c4 := Decidable.not_not.mp c4
    have e5 : (!decide (z.1 = 0)) = false := by
      rw [decide_eq_true c4]
      rfl
    refine ifF e5 ?_
    refine ⟨_, rfl, _, rfl, _, rfl, p, _, rfl, SqL.of hp1, fun q nq => ?_⟩
    rw [cut_init]
    have s2 : Same H1 (upd H1 q (.lst ((as.map V.ref).dropLast))) := Same.new nq
    refine ⟨q, rfl, ⟨_, SqL.of upd_same⟩, fun D nD => ?_⟩
    have s3 : Same (upd H1 q (.lst ((as.map V.ref).dropLast))) (upd (upd H1 q (.lst ((as.map V.ref).dropLast))) D (.lst [])) := Same.new nD
    have hz2 : Tups H1 as.dropLast (pairsOf row).dropLast := hz.init
    have em : (as.map V.ref).dropLast = as.dropLast.map V.ref := by rw [List.map_dropLast]
    refine lc_list (K := K) (a := q) (xs := (as.map V.ref).dropLast) (fun i H' => H' D = some (.lst ((((pairsOf row).dropLast.take i).map fun p => decide (1 ≤ p.1) && decide (p.1 ≤ 200)).map V.bl)) ∧ Same (upd H1 q (.lst ((as.map V.ref).dropLast))) H')
      ⟨upd_same, s3⟩ (fun i H' _ ⟨_, s4⟩ => SqL.of (s4 _ _ upd_same)) ?_ ?_
    · rintro i x H' hx ⟨hD, s4⟩
      rw [em, List.getElem?_map] at hx
      obtain ⟨b, eb, rfl⟩ := Option.map_eq_some_iff.mp hx
      have li : i < (pairsOf row).dropLast.length := by
        rw [← hz2.length]
        exact (List.getElem?_eq_some_iff.mp eb).1
      obtain ⟨b', eb', hb⟩ := hz2.get (List.getElem?_eq_getElem li)
      rw [eb] at eb'
      cases eb'
      refine ⟨b, _, rfl, SqT.of (s4 _ _ (s2 _ _ hb)), rfl, _, _, rfl, _, _, rfl, rfl, rfl, ?_⟩
      refine chain_le rfl ⟨_, hD, ?_, ?_, fun c o e => ?_⟩
      · rw [List.length_map, List.length_map, List.length_take, List.length_dropLast, pairs_len]
        have := sizeLine_eq
        omega
      · rw [take_more (List.getElem?_eq_getElem li), List.map_append, List.map_append]
        exact upd_same
      · rw [upd_ne (ne_of_none e nD)]
        exact s4 _ _ e
    · rintro H' ⟨hD, s4⟩
      rw [em, List.length_map, hz2.length, List.take_length] at hD
      refine ⟨D, _, rfl, SqL.of hD, _, rfl, ?_⟩
      have ea : (((pairsOf row).dropLast.map fun p => decide (1 ≤ p.1) && decide (p.1 ≤ 200)).all id) = (pairsOf row).dropLast.all fun p => decide (1 ≤ p.1) && decide (p.1 ≤ 200) := by
        rw [List.all_map]
        rfl
      rw [ea]
      cases c6 : (pairsOf row).dropLast.all fun p => decide (1 ≤ p.1) && decide (p.1 ≤ 200) with
      | false =>
        refine ifT rfl ?_
        rw [if_pos (.inr (by rw [c6]; decide))] at k
        exact k _ ((s1.trans s2).trans s4)
      | true =>
        refine ifF rfl ?_
        rw [if_neg (by
          intro y
          rcases y with y | y
          · exact y c4
          · exact y c6)] at k
        have s5 := (s1.trans s2).trans s4
        have s6 := s2.trans s4
        refine ⟨_, rfl, p, rfl, ⟨_, SqL.of (s6 _ _ hp1)⟩, fun D2 nD2 => ?_⟩
        have s7 : Same H' (upd H' D2 (.lst [])) := Same.new nD2
        refine lc_list (K := K) (a := p) (xs := as.map V.ref) (fun i H2 => H2 D2 = some (.lst ((((pairsOf row).take i).map fun p => decide (1 ≤ p.2) && decide (p.2 ≤ 1000000)).map V.bl)) ∧ Same H' H2)
          ⟨upd_same, s7⟩ (fun i H2 _ ⟨_, s8⟩ => SqL.of (s8 _ _ (s6 _ _ hp1))) ?_ ?_
        · rintro i x H2 hx ⟨hD2, s8⟩
          rw [List.getElem?_map] at hx
          obtain ⟨b, eb, rfl⟩ := Option.map_eq_some_iff.mp hx
          have li : i < (pairsOf row).length := by
            rw [← hz.length]
            exact (List.getElem?_eq_some_iff.mp eb).1
          obtain ⟨b', eb', hb⟩ := hz.get (List.getElem?_eq_getElem li)
          rw [eb] at eb'
          cases eb'
          refine ⟨b, _, rfl, SqT.of (s8 _ _ (s6 _ _ hb)), rfl, _, _, rfl, _, _, rfl, rfl, rfl, ?_⟩
          refine chain_le rfl ⟨_, hD2, ?_, ?_, fun c o e => ?_⟩
          · rw [List.length_map, List.length_map, List.length_take, pairs_len]
            have := sizeLine_eq
            omega
          · rw [take_more (List.getElem?_eq_getElem li), List.map_append, List.map_append]
            exact upd_same
          · rw [upd_ne (ne_of_none e nD2)]
            exact s8 _ _ e
        · rintro H2 ⟨hD2, s8⟩
          rw [List.length_map, hz.length, List.take_length] at hD2
          refine ⟨D2, _, rfl, SqL.of hD2, ?_⟩
          have eb : (((pairsOf row).map fun p => decide (1 ≤ p.2) && decide (p.2 ≤ 1000000)).all id) = (pairsOf row).all fun p => decide (1 ≤ p.2) && decide (p.2 ≤ 1000000) := by
            rw [List.all_map]
            rfl
          rw [eb]
          exact k _ (s5.trans s8)
end
end Ck

namespace Ck
open PySem PySem.Spec PyProof.Rows L2
/-! ### Match: what each def promises -/
def sp_Match_init (cs : Cs) (K : PySem.W.Frag) : Sp := fun vs H Q _ => ∃ (x dx t dt s : Addr) (mode extra n : Int) (str : List P2), vs = [.ref x, .ref t, .int n] ∧ H x = some (.ins cs.M dx []) ∧ TimesAt cs H t dt s mode extra str ∧ str ≠ [] ∧
  ∀ (H' : Hp) (A : MA), A.a = x → A.t = t → A.s = s → (∀ b ∈ [A.p, A.st, A.c, A.m, A.w, A.u], H b = none) → At cs H' A (M.fresh mode extra str n) → (∀ b o, H b = some o → b ≠ x → H' b = some o) → Q .non H'
def sp_Match_is_over (cs : Cs) (K : PySem.W.Frag) : Sp := fun vs H Q _ => ∃ (A : MA) (g : M), vs = [.ref A.a] ∧ At cs H A g ∧ Q (.bl g.over) H
def sp_Match_end (cs : Cs) (K : PySem.W.Frag) : Sp := fun vs H Q _ => ∃ (A : MA) (g : M) (winner why : Int), vs = [.ref A.a, .int winner, .int why] ∧ At cs H A g ∧ ∀ H', At cs H' A (g.fin winner why) → Keep A H H' → Q .non H'
def sp_Match_lose (cs : Cs) (K : PySem.W.Frag) : Sp := fun vs H Q _ => ∃ (A : MA) (g : M) (side why : Int), vs = [.ref A.a, .int side, .int why] ∧ At cs H A g ∧ (side = 0 ∨ side = 1) ∧ ∀ H', At cs H' A (g.lose side why) → Keep A H H' → Q .non H'
def sp_Match_does_take_off (cs : Cs) (K : PySem.W.Frag) : Sp := fun vs H Q _ => ∃ (A : MA) (g : M) (used : Int), vs = [.ref A.a, .int used] ∧ At cs H A g ∧ (g.side = 0 ∨ g.side = 1) ∧ ∀ H', At cs H' A (g.takeOff used) → Keep A H H' → Q (.bl (decide (g.left used > 0))) H'
def sp_Match_move (cs : Cs) (K : PySem.W.Frag) : Sp := fun vs H Q _ => ∃ (A : MA) (g : M) (used number ends : Int) (fresh : Bool), vs = [.ref A.a, .int used, .int number, .bl fresh, .int ends] ∧ At cs H A g ∧ (g.side = 0 ∨ g.side = 1) ∧ g.stood.length < sizeLine ∧
  ∀ (H' : Hp) (st : Addr), (st = A.st ∨ H st = none) → At cs H' { A with st := st } (g.move used number fresh ends) → Keep A H H' → Q .non H'
def sp_Match_end_by_move (cs : Cs) (K : PySem.W.Frag) : Sp := fun vs H Q _ => ∃ (A : MA) (g : M) (mover ends : Int), vs = [.ref A.a, .int mover, .int ends] ∧ At cs H A g ∧ g.stood ≠ [] ∧ ∀ H', At cs H' A (g.endBy mover ends) → Keep A H H' → Q .non H'
def sp_Match_give_time (cs : Cs) (K : PySem.W.Frag) : Sp := fun vs H Q _ => ∃ (A : MA) (g : M) (side : Int), vs = [.ref A.a, .int side] ∧ At cs H A g ∧ (side = 0 ∨ side = 1) ∧ ∀ H', At cs H' A (g.giveTime side) → Keep A H H' → Q .non H'
def sp_Match_illegal (cs : Cs) (K : PySem.W.Frag) : Sp := fun vs H Q _ => ∃ (A : MA) (g : M) (used : Int), vs = [.ref A.a, .int used] ∧ At cs H A g ∧ (g.side = 0 ∨ g.side = 1) ∧ ∀ H', At cs H' A (g.illegal used) → Keep A H H' → Q .non H'
def sp_Match_claim (cs : Cs) (K : PySem.W.Frag) : Sp := fun vs H Q _ => ∃ (A : MA) (g : M) (claim : Int), vs = [.ref A.a, .int claim] ∧ At cs H A g ∧ (g.side = 0 ∨ g.side = 1) ∧ (claim = 0 ∨ claim = 1) ∧ g.stood ≠ [] ∧ ∀ H', At cs H' A (g.claim claim) → Keep A H H' → Q .non H'
def sp_Match_stands (cs : Cs) (K : PySem.W.Frag) : Sp := fun vs H Q _ => ∃ (A : MA) (g : M), vs = [.ref A.a] ∧ At cs H A g ∧ ∀ (H' : Hp) (q : Addr), Same H H' → H q = none → H' q = some (.lst (g.stands.map V.int)) → Q (.ref q) H'
def sp_Match_told (cs : Cs) (K : PySem.W.Frag) : Sp := fun vs H Q _ => ∃ (A : MA) (g : M), vs = [.ref A.a] ∧ At cs H A g ∧ ∀ (H' : Hp) (q : Addr), Same H H' → H q = none → H' q = some (.lst (g.told.map V.int)) → Q (.ref q) H'
def sp_Match_stretches_told (cs : Cs) (K : PySem.W.Frag) : Sp := fun vs H Q _ => ∃ (A : MA) (g : M), vs = [.ref A.a] ∧ At cs H A g ∧ ∀ (H' : Hp) (q : Addr), Same H H' → H q = none → H' q = some (.lst (g.clocksTold.map V.int)) → Q (.ref q) H'
section
variable {cs : Cs} {H : Hp} {A : MA} {g : M}
/-! ### stores, as the text makes them -/
theorem At.putWinner (h : At cs H A g) (y : Int) : At cs (upd H A.a (.ins cs.M A.dx (putF "winner" (.int y) (mF (.ref A.t) (.ref A.p) (.int g.side) (.ref A.c) (.ref A.m) (.ref A.w) (.ref A.u) (.int g.offers) (.int g.winner) (.int g.why))))) A { g with winner := y } := by
  rw [mF_put_winner]
  exact h.setSelf g.side g.offers y g.why
theorem At.putWhy (h : At cs H A g) (y : Int) : At cs (upd H A.a (.ins cs.M A.dx (putF "why" (.int y) (mF (.ref A.t) (.ref A.p) (.int g.side) (.ref A.c) (.ref A.m) (.ref A.w) (.ref A.u) (.int g.offers) (.int g.winner) (.int g.why))))) A { g with why := y } := by
  rw [mF_put_why]
  exact h.setSelf g.side g.offers g.winner y
theorem At.putSide (h : At cs H A g) (y : Int) : At cs (upd H A.a (.ins cs.M A.dx (putF "side" (.int y) (mF (.ref A.t) (.ref A.p) (.int g.side) (.ref A.c) (.ref A.m) (.ref A.w) (.ref A.u) (.int g.offers) (.int g.winner) (.int g.why))))) A { g with side := y } := by
  rw [mF_put_side]
  exact h.setSelf y g.offers g.winner g.why
theorem At.putOffers (h : At cs H A g) (y : Int) : At cs (upd H A.a (.ins cs.M A.dx (putF "offers" (.int y) (mF (.ref A.t) (.ref A.p) (.int g.side) (.ref A.c) (.ref A.m) (.ref A.w) (.ref A.u) (.int g.offers) (.int g.winner) (.int g.why))))) A { g with offers := y } := by
  rw [mF_put_offers]
  exact h.setSelf g.side y g.winner g.why
theorem At.putC (h : At cs H A g) {i : Int} (hi : i = 0 ∨ i = 1) (x : Int) : At cs (upd H A.c (.lst ([V.int g.c.1, V.int g.c.2].set i.toNat (.int x)))) A { g with c := put g.c i x } := by
  rw [set2 hi]
  exact h.setC _
theorem At.putM (h : At cs H A g) {i : Int} (hi : i = 0 ∨ i = 1) (x : Int) : At cs (upd H A.m (.lst ([V.int g.m.1, V.int g.m.2].set i.toNat (.int x)))) A { g with m := put g.m i x } := by
  rw [set2 hi]
  exact h.setM _
theorem At.putW (h : At cs H A g) {i : Int} (hi : i = 0 ∨ i = 1) (x : Int) : At cs (upd H A.w (.lst ([V.int g.w.1, V.int g.w.2].set i.toNat (.int x)))) A { g with w := put g.w i x } := by
  rw [set2 hi]
  exact h.setW _
theorem At.putU (h : At cs H A g) {i : Int} (hi : i = 0 ∨ i = 1) (x : Int) : At cs (upd H A.u (.lst ([V.int g.u.1, V.int g.u.2].set i.toNat (.int x)))) A { g with u := put g.u i x } := by
  rw [set2 hi]
  exact h.setU _
theorem At.dom {H0 : Hp} (h : At cs H A g) (k : Keep A H0 H) (b : Addr) (e : H b = none) : H0 b = none := by
  cases q : H0 b with
  | none => rfl
  | some o =>
    exfalso
    by_cases hb : b ∈ A.cells
    · have z' : b = A.a ∨ b = A.p ∨ b = A.st ∨ b = A.c ∨ b = A.m ∨ b = A.w ∨ b = A.u := by simpa [MA.cells] using hb
      obtain ⟨os, hos⟩ := h.hP.S.at
      rcases z' with z' | z' | z' | z' | z' | z' | z'
      · rw [z', h.hM] at e
        cases e
      · rw [z', h.hP.P] at e
        cases e
      · rw [z', hos] at e
        cases e
      · rw [z', h.hc] at e
        cases e
      · rw [z', h.hm] at e
        cases e
      · rw [z', h.hw] at e
        cases e
      · rw [z', h.hu] at e
        cases e
    · rw [k b o q hb] at e
      cases e
theorem inA : A.a ∈ A.cells := by simp [MA.cells]
theorem inP : A.p ∈ A.cells := by simp [MA.cells]
theorem inSt : A.st ∈ A.cells := by simp [MA.cells]
theorem inC : A.c ∈ A.cells := by simp [MA.cells]
theorem inM : A.m ∈ A.cells := by simp [MA.cells]
theorem inW : A.w ∈ A.cells := by simp [MA.cells]
theorem inU : A.u ∈ A.cells := by simp [MA.cells]
end
/-! ### a game in the making -/
structure Ini (cs : Cs) (H : Hp) (x dx t dt s p dp st : Addr) (mode extra n : Int) (str : List P2) (G : Hp) (fs : List (Str × V)) (ls : List (Addr × List V)) : Prop where
  X : G x = some (.ins cs.M dx fs)
  T : TimesAt cs G t dt s mode extra str
  P : PosAt cs G p dp st [(n, 0)] 0
  L : ∀ q ∈ ls, G q.1 = some (.lst q.2)
  K : ∀ b o, H b = some o → b ≠ x → G b = some o
  F : ∀ q ∈ ls, H q.1 = none
  N : (x :: p :: st :: t :: s :: ls.map (·.1)).Nodup
section
variable {cs : Cs} {H G : Hp} {x dx t dt s p dp st : Addr} {mode extra n : Int} {str : List P2} {fs : List (Str × V)} {ls : List (Addr × List V)}
theorem Ini.fld (h : Ini cs H x dx t dt s p dp st mode extra n str G fs ls) (fs' : List (Str × V)) : Ini cs H x dx t dt s p dp st mode extra n str (upd G x (.ins cs.M dx fs')) fs' ls := by
  have nd := (List.nodup_cons.mp h.N).1
  have ne : ∀ {b : Addr}, b ∈ p :: st :: t :: s :: ls.map (·.1) → b ≠ x := fun {b} hb z => nd (by rw [← z]; exact hb)
  have k : TupKeep G (upd G x (.ins cs.M dx fs')) := TupKeep.ins h.X
  exact ⟨upd_same, ⟨(upd_ne (ne (by simp))).trans h.T.T, h.T.S.keep (upd_ne (ne (by simp))) k⟩, ⟨(upd_ne (ne (by simp))).trans h.P.P, h.P.S.keep (upd_ne (ne (by simp))) k⟩,
    fun q hq => (upd_ne (ne (by simp only [List.mem_cons, List.mem_map]; exact .inr (.inr (.inr (.inr ⟨q, hq, rfl⟩)))))).trans (h.L q hq),
    fun b o e hb => (upd_ne hb).trans (h.K b o e hb), h.F, h.N⟩
theorem Ini.new (h : Ini cs H x dx t dt s p dp st mode extra n str G fs ls) {c : Addr} {l : List V} (nc : G c = none) : Ini cs H x dx t dt s p dp st mode extra n str (upd G c (.lst l)) fs ((c, l) :: ls) := by
  have sm : Same G (upd G c (.lst l)) := Same.new nc
  obtain ⟨o1, e1⟩ := h.T.S.at
  obtain ⟨o2, e2⟩ := h.P.S.at
  refine ⟨sm _ _ h.X, ⟨sm _ _ h.T.T, h.T.S.same sm⟩, ⟨sm _ _ h.P.P, h.P.S.same sm⟩, fun q hq => ?_, fun b o e hb => sm _ _ (h.K b o e hb), fun q hq => ?_, ?_⟩
  · rcases List.mem_cons.mp hq with z | z
    · rw [z]
      exact upd_same
    · exact sm _ _ (h.L q z)
  · rcases List.mem_cons.mp hq with z | z
    · rw [z]
      show H c = none
      cases e : H c with
      | none => rfl
      | some o =>
        have cx : c ≠ x := fun y => by
          rw [y, h.X] at nc
          cases nc
        rw [h.K c o e cx] at nc
        cases nc
    · exact h.F q z
  · have nin : c ∉ x :: p :: st :: t :: s :: ls.map (·.1) := fun hm => by
      have some_ : ∃ o, G c = some o := by
        rcases List.mem_cons.mp hm with z | hm
        · exact ⟨_, z ▸ h.X⟩
        rcases List.mem_cons.mp hm with z | hm
        · exact ⟨_, z ▸ h.P.P⟩
        rcases List.mem_cons.mp hm with z | hm
        · exact ⟨_, z ▸ e2⟩
        rcases List.mem_cons.mp hm with z | hm
        · exact ⟨_, z ▸ h.T.T⟩
        rcases List.mem_cons.mp hm with z | hm
        · exact ⟨_, z ▸ e1⟩
        obtain ⟨q, hq, z⟩ := List.mem_map.mp hm
        exact ⟨_, z ▸ h.L q hq⟩
      obtain ⟨o, e⟩ := some_
      rw [e] at nc
      cases nc
    have pm : (c :: (x :: p :: st :: t :: s :: ls.map (·.1))).Perm (x :: p :: st :: t :: s :: c :: ls.map (·.1)) :=
      (List.perm_middle (a := c) (l₁ := [x, p, st, t, s]) (l₂ := ls.map (fun q : Addr × List V => q.1))).symm
    exact pm.nodup_iff.mp (List.nodup_cons.mpr ⟨nin, h.N⟩)
theorem Ini.at {c m w u : Addr} {C M_ W U : P2} {side offers winner why : Int} (h : Ini cs H x dx t dt s p dp st mode extra n str G (mF (.ref t) (.ref p) (.int side) (.ref c) (.ref m) (.ref w) (.ref u) (.int offers) (.int winner) (.int why))
      [(u, [.int U.1, .int U.2]), (w, [.int W.1, .int W.2]), (m, [.int M_.1, .int M_.2]), (c, [.int C.1, .int C.2])]) :
    At cs G ⟨x, dx, t, dt, s, p, dp, st, c, m, w, u⟩ { mode := mode, extra := extra, str := str, side := side, c := C, m := M_, w := W, u := U, offers := offers, winner := winner, why := why, stood := [(n, 0)], without := 0 } := by
  refine ⟨h.X, h.T, h.P, h.L (c, _) (by simp), h.L (m, _) (by simp), h.L (w, _) (by simp), h.L (u, _) (by simp), ⟨?_⟩⟩
  have pm : (x :: p :: st :: t :: s :: [u, w, m, c]).Perm [x, p, st, c, m, w, u, t, s] := by
    refine .cons _ (.cons _ (.cons _ ?_))
    have e1 : ([t, s] ++ [u, w, m, c]).Perm ([u, w, m, c] ++ [t, s]) := List.perm_append_comm
    have e2 : ([u, w, m, c] ++ [t, s]).Perm ([c, m, w, u] ++ [t, s]) := List.Perm.append_right _ (List.reverse_perm [c, m, w, u])
    exact e1.trans e2
  exact pm.nodup_iff.mp h.N
end
theorem take_pos {g : M} {used : Int} (c : g.left used > 0) : g.takeOff used = { g with c := put g.c g.side (g.left used) } := if_pos c
theorem take_neg {g : M} {used : Int} (c : ¬ g.left used > 0) : g.takeOff used = ({ g with c := put g.c g.side 0 } : M).lose g.side 2 := if_neg c
section
variable {P : Program} {w : World} {K : PySem.W.Frag} {mg : Str → Option Value} {base : Heap} {cs : Cs}
theorem ok_Match_is_over (X : MTx K cs.M "is_over" "Match.is_over" s_Match_is_over ["self"]) (T : Txt K mg cs) : MOk P w K mg base CX0 1 cs.M "is_over" ["self"] (sp_Match_is_over cs K) := by
  refine X.ok sc_Match_is_over (fun vs H Q E h => ?_) (fun f cdv B outer s H vs Q E hr h => ⟨_, (pss_one (ps_ret (pe_cmpR op_ne (pe_fld (pv 0) rfl) (pe_gi T.GOES_ON) (nomark _)))), ?_⟩)
  · obtain ⟨_, _, rfl, _⟩ := h
    rfl
  · obtain ⟨A, g, rfl, h, k⟩ := h
    refine ⟨_, rfl, A.a, cs.M, A.dx, _, _, rfl, h.hM, T.cM, T.nM_why, mF_why, rfl, ?_⟩
    rw [decV]
    exact k
theorem ok_Match_end (X : MTx K cs.M "end" "Match.end" s_Match_end ["self", "winner", "why"]) (T : Txt K mg cs) : MOk P w K mg base CX0 1 cs.M "end" ["self", "winner", "why"] (sp_Match_end cs K) := by
  refine X.ok sc_Match_end (fun vs H Q E h => ?_) (fun f cdv B outer s H vs Q E hr h => ⟨_, (pss_cons (ps_fld (pv 0) (pv 1) rfl)
      (pss_one (ps_fld (pv 0) (pv 2) rfl))), ?_⟩)
  · obtain ⟨_, _, _, _, rfl, _⟩ := h
    rfl
  · obtain ⟨A, g, winner, why, rfl, h, k⟩ := h
    refine ⟨_, rfl, _, rfl, A.a, cs.M, A.dx, _, rfl, h.hM, T.cM, T.nM_winner, few, ?_⟩
    have h1 := h.putWinner winner
    refine ⟨_, rfl, _, rfl, A.a, cs.M, A.dx, _, rfl, h1.hM, T.cM, T.nM_why, few, ?_⟩
    exact k _ (h1.putWhy why) ((Keep.upd inA).trans (Keep.upd inA))
theorem ok_Match_lose (X : MTx K cs.M "lose" "Match.lose" s_Match_lose ["self", "side", "why"]) (T : Txt K mg cs) (m_Match_end : MOk P w K mg base CX0 1 cs.M "end" ["self", "winner", "why"] (sp_Match_end cs K)) : MOk P w K mg base CX0 2 cs.M "lose" ["self", "side", "why"] (sp_Match_lose cs K) := by
  refine X.ok sc_Match_lose (fun vs H Q E h => ?_) (fun f cdv B outer s H vs Q E hr h => ⟨_, (pss_one (ps_if (pt_cmpR op_eq (pe_ix ix_list (pe_fld (pv 0) rfl) (pe_op op_sub pe_int (pv 1)) (fun _ _ => rfl)) pe_int (nomark _)) (pss_one (ps_expr (pe_methM (pv 0) T.cM m_Match_end hr (by decide) pass0 (pa_cons (pe_op op_sub pe_int (pv 1)) (pa_cons (pv 2) pa_nil))))) (pss_one (ps_expr (pe_methM (pv 0) T.cM m_Match_end hr (by decide) pass0 (pa_cons (pe_gi T.DRAWN) (pa_cons (pe_gi T.NOBODY_MATES) pa_nil))))))), ?_⟩)
  · obtain ⟨_, _, _, _, rfl, _⟩ := h
    rfl
  · obtain ⟨A, g, side, why, rfl, h, hs, k⟩ := h
    refine ⟨_, rfl, A.a, cs.M, A.dx, _, _, rfl, h.hM, T.cM, T.nM_could, mF_could, _, rfl, _, _, rfl, rfl, A.u, _, _, _, rfl, rfl, SqL.of h.hu, at2 (other hs), rfl, _, rfl, ?_⟩
    rw [decV]
    unfold M.lose at k
    by_cases c : get g.u (1 - side) = 1
    · rw [if_pos c] at k
      refine ifT (decide_eq_true c) ?_
      exact ⟨_, rfl, A.a, A.dx, _, rfl, h.hM, mF_no_end, _, rfl, _, _, rfl, rfl, _, rfl, A, g, _, _, rfl, h, k⟩
    · rw [if_neg c] at k
      refine ifF (decide_eq_false c) ?_
      exact ⟨_, rfl, A.a, A.dx, _, rfl, h.hM, mF_no_end, A, g, _, _, rfl, h, k⟩
theorem ok_Match_does_take_off (X : MTx K cs.M "does_take_off" "Match.does_take_off" s_Match_does_take_off ["self", "used"]) (T : Txt K mg cs) (m_Times_taken_off : MOk P w K mg base CX0 1 cs.T "taken_off" ["self", "used"] (sp_Times_taken_off cs K)) (m_Match_lose : MOk P w K mg base CX0 2 cs.M "lose" ["self", "side", "why"] (sp_Match_lose cs K)) : MOk P w K mg base CX0 3 cs.M "does_take_off" ["self", "used"] (sp_Match_does_take_off cs K) := by
  refine X.ok sc_Match_does_take_off (fun vs H Q E h => ?_) (fun f cdv B outer s H vs Q E hr h => ⟨_, (pss_cons (ps_set (i := 2) sc_Match_does_take_off.nd rfl (Or.inl rfl) (pe_op op_sub (pe_ix ix_list (pe_fld (pv 0) rfl) (pe_fld (pv 0) rfl) (fun _ _ => rfl)) (pe_methM (pe_fld (pv 0) rfl) T.cT m_Times_taken_off hr (by decide) pass0 (pa_cons (pv 1) pa_nil))))
      (pss_cons (ps_if (pt_cmpR op_gt (pv 2) pe_int (nomark _)) (pss_cons (ps_asg (pv 2) (pg_sub (pe_fld (pv 0) rfl) (pe_fld (pv 0) rfl) set_list))
      (pss_one (ps_ret pe_bl))) pss_nil)
      (pss_cons (ps_asg pe_int (pg_sub (pe_fld (pv 0) rfl) (pe_fld (pv 0) rfl) set_list))
      (pss_cons (ps_expr (pe_methM (pv 0) T.cM m_Match_lose hr (by decide) pass0 (pa_cons (pe_fld (pv 0) rfl) (pa_cons (pe_gi T.FLAG) pa_nil))))
      (pss_one (ps_ret pe_bl)))))), ?_⟩)
  · obtain ⟨_, _, _, rfl, _⟩ := h
    rfl
  · obtain ⟨A, g, used, rfl, h, hs, k⟩ := h
    refine ⟨_, rfl, A.a, cs.M, A.dx, _, _, rfl, h.hM, T.cM, T.nM_clocks, mF_clocks, _, rfl, A.a, cs.M, A.dx, _, _, rfl, h.hM, T.cM, T.nM_side, mF_side, A.c, _, _, _, rfl, rfl, SqL.of h.hc, at2 hs, _, rfl, A.a, cs.M, A.dx, _, _, rfl, h.hM, T.cM, T.nM_times, mF_times, A.t, A.dt, _, rfl, h.hT.T, tF_no_taken_off, _, rfl, A.t, A.dt, A.s, _, _, used, _, rfl, h.hT, _, _, rfl, rfl, ?_⟩
    refine ⟨_, rfl, _, _, rfl, rfl, _, rfl, ?_⟩
    by_cases c : g.left used > 0
    · rw [take_pos c, decide_eq_true c] at k
      refine ifT (decide_eq_true c) ?_
      refine ⟨_, rfl, _, rfl, A.a, cs.M, A.dx, _, _, rfl, h.hM, T.cM, T.nM_clocks, mF_clocks, _, rfl, A.a, cs.M, A.dx, _, _, rfl, h.hM, T.cM, T.nM_side, mF_side, A.c, _, _, _, rfl, rfl, h.hc, ix2 hs, ?_⟩
      exact k _ (h.putC hs (g.left used)) (Keep.upd inC)
    · rw [take_neg c, decide_eq_false c] at k
      refine ifF (decide_eq_false c) ?_
      refine ⟨_, rfl, A.a, cs.M, A.dx, _, _, rfl, h.hM, T.cM, T.nM_clocks, mF_clocks, _, rfl, A.a, cs.M, A.dx, _, _, rfl, h.hM, T.cM, T.nM_side, mF_side, A.c, _, _, _, rfl, rfl, h.hc, ix2 hs, ?_⟩
      have h1 := h.putC hs 0
      refine ⟨_, rfl, A.a, A.dx, _, rfl, h1.hM, mF_no_lose, _, rfl, A.a, cs.M, A.dx, _, _, rfl, h1.hM, T.cM, T.nM_side, mF_side, A, _, g.side, 2, rfl, h1, hs, fun H' h2 kp => ?_⟩
      exact k _ h2 ((Keep.upd inC).trans kp)
theorem ok_Match_end_by_move (X : MTx K cs.M "end_by_move" "Match.end_by_move" s_Match_end_by_move ["self", "mover", "ends"]) (T : Txt K mg cs) (m_Match_end : MOk P w K mg base CX0 1 cs.M "end" ["self", "winner", "why"] (sp_Match_end cs K)) (m_Positions_is_fifth : MOk P w K mg base CX0 2 cs.P "is_fifth" ["self"] (sp_Positions_is_fifth cs K)) (m_Positions_is_long : MOk P w K mg base CX0 1 cs.P "is_long" ["self"] (sp_Positions_is_long cs K)) : MOk P w K mg base CX0 3 cs.M "end_by_move" ["self", "mover", "ends"] (sp_Match_end_by_move cs K) := by
  refine X.ok sc_Match_end_by_move (fun vs H Q E h => ?_) (fun f cdv B outer s H vs Q E hr h => ⟨_, (pss_one (ps_if (pt_cmpR op_eq (pv 2) (pe_gi T.IS_MATE) (nomark _)) (pss_one (ps_expr (pe_methM (pv 0) T.cM m_Match_end hr (by decide) pass0 (pa_cons (pv 1) (pa_cons (pe_gi T.MATE) pa_nil))))) (pss_one (ps_if (pt_cmpR op_eq (pv 2) (pe_gi T.IS_STALEMATE) (nomark _)) (pss_one (ps_expr (pe_methM (pv 0) T.cM m_Match_end hr (by decide) pass0 (pa_cons (pe_gi T.DRAWN) (pa_cons (pe_gi T.STALEMATE) pa_nil))))) (pss_one (ps_if (pt_cmpR op_eq (pv 2) (pe_gi T.IS_DEAD) (nomark _)) (pss_one (ps_expr (pe_methM (pv 0) T.cM m_Match_end hr (by decide) pass0 (pa_cons (pe_gi T.DRAWN) (pa_cons (pe_gi T.NOBODY_MATES) pa_nil))))) (pss_one (ps_if (pt_val (pe_methM0 (pe_fld (pv 0) rfl) T.cP m_Positions_is_fifth hr (by decide) pass0)) (pss_one (ps_expr (pe_methM (pv 0) T.cM m_Match_end hr (by decide) pass0 (pa_cons (pe_gi T.DRAWN) (pa_cons (pe_gi T.FIFTH_TIME) pa_nil))))) (pss_one (ps_if (pt_val (pe_methM0 (pe_fld (pv 0) rfl) T.cP m_Positions_is_long hr (by decide) pass0)) (pss_one (ps_expr (pe_methM (pv 0) T.cM m_Match_end hr (by decide) pass0 (pa_cons (pe_gi T.DRAWN) (pa_cons (pe_gi T.TOO_LONG) pa_nil))))) pss_nil)))))))))), ?_⟩)
  · obtain ⟨_, _, _, _, rfl, _⟩ := h
    rfl
  · obtain ⟨A, g, mover, ends, rfl, h, hne, k⟩ := h
    unfold M.endBy at k
    refine ⟨_, rfl, rfl, _, rfl, ?_⟩
    rw [decV]
    by_cases c1 : ends = 1
    · rw [if_pos c1] at k
      exact ifT (decide_eq_true c1) ⟨_, rfl, A.a, A.dx, _, rfl, h.hM, mF_no_end, _, rfl, A, g, _, _, rfl, h, k⟩
    rw [if_neg c1] at k
    refine ifF (decide_eq_false c1) ?_
    refine ⟨_, rfl, rfl, _, rfl, ?_⟩
    rw [decV]
    by_cases c2 : ends = 2
    · rw [if_pos c2] at k
      exact ifT (decide_eq_true c2) ⟨_, rfl, A.a, A.dx, _, rfl, h.hM, mF_no_end, A, g, _, _, rfl, h, k⟩
    rw [if_neg c2] at k
    refine ifF (decide_eq_false c2) ?_
    refine ⟨_, rfl, rfl, _, rfl, ?_⟩
    rw [decV]
    by_cases c3 : ends = 3
    · rw [if_pos c3] at k
      exact ifT (decide_eq_true c3) ⟨_, rfl, A.a, A.dx, _, rfl, h.hM, mF_no_end, A, g, _, _, rfl, h, k⟩
    rw [if_neg c3] at k
    refine ifF (decide_eq_false c3) ?_
    refine ⟨_, rfl, A.a, cs.M, A.dx, _, _, rfl, h.hM, T.cM, T.nM_positions, mF_positions, A.p, A.dp, _, rfl, h.hP.P, pF_no_is_fifth, A.p, A.dp, A.st, _, _, rfl, h.hP, hne, _, rfl, ?_⟩
    by_cases c4 : (times g.stood : Int) ≥ 5
    · rw [if_pos c4] at k
      exact ifT (decide_eq_true c4) ⟨_, rfl, A.a, A.dx, _, rfl, h.hM, mF_no_end, A, g, _, _, rfl, h, k⟩
    rw [if_neg c4] at k
    refine ifF (decide_eq_false c4) ?_
    refine ⟨_, rfl, A.a, cs.M, A.dx, _, _, rfl, h.hM, T.cM, T.nM_positions, mF_positions, A.p, A.dp, _, rfl, h.hP.P, pF_no_is_long, A.p, A.dp, A.st, _, _, rfl, h.hP, _, rfl, ?_⟩
    by_cases c5 : g.without ≥ 150
    · rw [if_pos c5] at k
      exact ifT (decide_eq_true c5) ⟨_, rfl, A.a, A.dx, _, rfl, h.hM, mF_no_end, A, g, _, _, rfl, h, k⟩
    rw [if_neg c5] at k
    exact ifF (decide_eq_false c5) (k _ h (Keep.refl _ _))
theorem ok_Match_give_time (X : MTx K cs.M "give_time" "Match.give_time" s_Match_give_time ["self", "side"]) (T : Txt K mg cs) : MOk P w K mg base CX0 1 cs.M "give_time" ["self", "side"] (sp_Match_give_time cs K) := by
  refine X.ok sc_Match_give_time (fun vs H Q E h => ?_) (fun f cdv B outer s H vs Q E hr h => ⟨_, (pss_one (ps_asg (pe_op op_add (pe_ix ix_list (pe_fld (pv 0) rfl) (pv 1) (fun _ _ => rfl)) (pe_gi T.MORE_TIME)) (pg_sub (pe_fld (pv 0) rfl) (pv 1) set_list))), ?_⟩)
  · obtain ⟨_, _, _, rfl, _⟩ := h
    rfl
  · obtain ⟨A, g, side, rfl, h, hs, k⟩ := h
    refine ⟨_, rfl, A.a, cs.M, A.dx, _, _, rfl, h.hM, T.cM, T.nM_clocks, mF_clocks, _, rfl, A.c, _, _, _, rfl, rfl, SqL.of h.hc, at2 hs, _, _, rfl, rfl, _, rfl, A.a, cs.M, A.dx, _, _, rfl, h.hM, T.cM, T.nM_clocks, mF_clocks, _, rfl, A.c, _, _, _, rfl, rfl, h.hc, ix2 hs, ?_⟩
    exact k _ (h.putC hs _) (Keep.upd inC)
theorem ok_Match_move (X : MTx K cs.M "move" "Match.move" s_Match_move ["self", "used", "number", "is_fresh", "ends"]) (T : Txt K mg cs) (m_Match_does_take_off : MOk P w K mg base CX0 3 cs.M "does_take_off" ["self", "used"] (sp_Match_does_take_off cs K)) (m_Times_coming : MOk P w K mg base CX0 2 cs.T "coming" ["self", "made"] (sp_Times_coming cs K)) (m_Positions_stand : MOk P w K mg base CX0 1 cs.P "stand" ["self", "number", "side", "is_fresh"] (sp_Positions_stand cs K)) (m_Match_end_by_move : MOk P w K mg base CX0 3 cs.M "end_by_move" ["self", "mover", "ends"] (sp_Match_end_by_move cs K)) : MOk P w K mg base CX0 4 cs.M "move" ["self", "used", "number", "is_fresh", "ends"] (sp_Match_move cs K) := by
  refine X.ok sc_Match_move (fun vs H Q E h => ?_) (fun f cdv B outer s H vs Q E hr h => ⟨_, (pss_one (ps_if (pt_val (pe_methM (pv 0) T.cM m_Match_does_take_off hr (by decide) pass0 (pa_cons (pv 1) pa_nil))) (pss_cons (ps_set (i := 5) sc_Match_move.nd rfl (Or.inl rfl) (pe_fld (pv 0) rfl))
      (pss_cons (ps_asg (pe_op op_add (pe_ix ix_list (pe_fld (pv 0) rfl) (pv 5) (fun _ _ => rfl)) pe_int) (pg_sub (pe_fld (pv 0) rfl) (pv 5) set_list))
      (pss_cons (ps_asg (pe_op op_add (pe_ix ix_list (pe_fld (pv 0) rfl) (pv 5) (fun _ _ => rfl)) (pe_methM (pe_fld (pv 0) rfl) T.cT m_Times_coming hr (by decide) pass0 (pa_cons (pe_ix ix_list (pe_fld (pv 0) rfl) (pv 5) (fun _ _ => rfl)) pa_nil))) (pg_sub (pe_fld (pv 0) rfl) (pv 5) set_list))
      (pss_cons (ps_fld (pv 0) (pe_op op_sub pe_int (pv 5)) rfl)
      (pss_cons (ps_if (pt_cmpR op_eq (pe_fld (pv 0) rfl) (pe_op op_sub pe_int (pv 5)) (nomark _)) (pss_one (ps_fld (pv 0) (pe_gi T.NOBODY) rfl)) pss_nil)
      (pss_cons (ps_expr (pe_methM (pe_fld (pv 0) rfl) T.cP m_Positions_stand hr (by decide) pass0 (pa_cons (pv 2) (pa_cons (pe_fld (pv 0) rfl) (pa_cons (pv 3) pa_nil)))))
      (pss_one (ps_expr (pe_methM (pv 0) T.cM m_Match_end_by_move hr (by decide) pass0 (pa_cons (pv 5) (pa_cons (pv 4) pa_nil))))))))))) pss_nil)), ?_⟩)
  · obtain ⟨_, _, _, _, _, _, rfl, _⟩ := h
    rfl
  · obtain ⟨A, g, used, number, ends, fresh, rfl, h, hs, hl, k⟩ := h
    unfold M.move at k
    refine ⟨_, rfl, A.a, A.dx, _, rfl, h.hM, mF_no_does_take_off, _, rfl, A, g, used, rfl, h, hs, fun H1 h1 kp1 => ⟨_, rfl, ?_⟩⟩
    by_cases c : g.left used > 0
    · rw [if_pos c] at k
      refine ifT (decide_eq_true c) ?_
      have es : (g.takeOff used).side = g.side := by rw [take_pos c]
      have el : (g.takeOff used).stood = g.stood := by rw [take_pos c]
      rw [← es] at hs
      rw [← el] at hl
      generalize g.takeOff used = g1 at *
      refine ⟨_, rfl, A.a, cs.M, A.dx, _, _, rfl, h1.hM, T.cM, T.nM_side, mF_side, ?_⟩
      refine ⟨_, rfl, A.a, cs.M, A.dx, _, _, rfl, h1.hM, T.cM, T.nM_made, mF_made, _, rfl, A.m, _, _, _, rfl, rfl, SqL.of h1.hm, at2 hs, _, _, rfl, rfl, _, rfl, A.a, cs.M, A.dx, _, _, rfl, h1.hM, T.cM, T.nM_made, mF_made, _, rfl, A.m, _, _, _, rfl, rfl, h1.hm, ix2 hs, ?_⟩
      have h2 : At cs _ A g1.step1 := h1.putM hs (get g1.m g1.side + 1)
      refine ⟨_, rfl, A.a, cs.M, A.dx, _, _, rfl, h2.hM, T.cM, T.nM_clocks, mF_clocks, _, rfl, A.c, _, _, _, rfl, rfl, SqL.of h2.hc, at2 hs, _, rfl, A.a, cs.M, A.dx, _, _, rfl, h2.hM, T.cM, T.nM_times, mF_times, A.t, A.dt, _, rfl, h2.hT.T, tF_no_coming, _, rfl, A.a, cs.M, A.dx, _, _, rfl, h2.hM, T.cM, T.nM_made, mF_made, _, rfl, A.m, _, _, _, rfl, rfl, SqL.of h2.hm, at2 hs, A.t, A.dt, A.s, _, _, _, _, rfl, h2.hT, fun H3 s3 => ?_⟩
      have h3 := Same.at s3 h2
      refine ⟨_, _, rfl, rfl, _, rfl, A.a, cs.M, A.dx, _, _, rfl, h3.hM, T.cM, T.nM_clocks, mF_clocks, _, rfl, A.c, _, _, _, rfl, rfl, h3.hc, ix2 hs, ?_⟩
      have h4 : At cs _ A g1.step1.step2 := h3.putC hs _
      refine ⟨_, rfl, _, _, rfl, rfl, _, rfl, A.a, cs.M, A.dx, _, rfl, h4.hM, T.cM, T.nM_side, few, ?_⟩
      have h5 : At cs _ A g1.step1.step2.step3 := h4.putSide _
      refine ⟨_, rfl, A.a, cs.M, A.dx, _, _, rfl, h5.hM, T.cM, T.nM_offers, mF_offers, _, rfl, _, _, rfl, rfl, rfl, _, rfl, ?_⟩
      rw [decV]
      have rest : ∀ H6 : Hp, At cs H6 A (g1.step1.step2.step3.step4 g1.side) → Keep A H H6 → tSeq (tDrop (tMeth cs.P "stand" (sp_Positions_stand cs K) [] E0 (tFld K (tVar 0) "positions") (tCons (tVar 2) (tCons (tFld K (tVar 0) "side") (tCons (tVar 3) tNil)))))
          (tDrop (tMeth cs.M "end_by_move" (sp_Match_end_by_move cs K) [] E0 (tVar 0) (tCons (tVar 5) (tCons (tVar 4) tNil)))) { nx := fun _ H' => Q .non H', rt := Q } [some (.ref A.a), some (.int used), some (.int number), some (.bl fresh), some (.int ends), some (.int g1.side)] H6 := by
        intro H6 h6 kp6
        have nn := h6.dom kp6
        have e6 : (g1.step1.step2.step3.step4 g1.side).side = 1 - g1.side := by
          unfold M.step4
          split <;> rfl
        have l6 : (g1.step1.step2.step3.step4 g1.side).stood = g1.stood := by
          unfold M.step4
          split <;> rfl
        refine ⟨_, rfl, A.a, cs.M, A.dx, _, _, rfl, h6.hM, T.cM, T.nM_positions, mF_positions, A.p, A.dp, _, rfl, h6.hP.P, pF_no_stand, _, rfl, _, rfl, A.a, cs.M, A.dx, _, _, rfl, h6.hM, T.cM, T.nM_side, mF_side, _, rfl, A.p, A.dp, A.st, _, _, _, _, _, rfl, h6.hP, (by rw [l6]; exact hl), fun H7 st hst hp7 k7 => ?_⟩
        have h7 := h6.setP hp7 hst k7
        have e7 : ({ (g1.step1.step2.step3.step4 g1.side) with stood := (if fresh = true then [(number, (g1.step1.step2.step3.step4 g1.side).side)] else (g1.step1.step2.step3.step4 g1.side).stood ++ [(number, (g1.step1.step2.step3.step4 g1.side).side)]), without := (if fresh = true then 0 else (g1.step1.step2.step3.step4 g1.side).without + 1) } : M) = (g1.step1.step2.step3.step4 g1.side).stand number (1 - g1.side) fresh := by
          rw [e6]
          unfold M.stand
          cases fresh <;> rfl
        rw [e7] at h7
        have kp7 : Keep A H H7 := kp6.trans fun b o e hb => k7 b o e (fun z => hb (by rw [z]; exact inP)) (fun z => hb (by rw [z]; exact inSt))
        have ne7 : ((g1.step1.step2.step3.step4 g1.side).stand number (1 - g1.side) fresh).stood ≠ [] := by
          unfold M.stand
          cases fresh <;> simp
        have hst' : st = A.st ∨ H st = none := by
          rcases hst with z | z
          · exact .inl z
          · exact .inr (nn st z)
        refine ⟨_, rfl, A.a, A.dx, _, rfl, h7.hM, mF_no_end_by_move, _, rfl, _, rfl, { A with st := st }, _, _, _, rfl, h7, ne7, fun H8 h8 k8 => ?_⟩
        refine k H8 st hst' h8 fun b o e hb => k8 b o (kp7 b o e hb) fun z => ?_
        rcases hst' with y | y
        · rw [y] at z
          exact hb z
        · have z' : b = A.a ∨ b = A.p ∨ b = st ∨ b = A.c ∨ b = A.m ∨ b = A.w ∨ b = A.u := by simpa [MA.cells] using z
          rcases z' with z' | z' | z' | z' | z' | z' | z'
          · exact hb (z' ▸ inA)
          · exact hb (z' ▸ inP)
          · rw [z', y] at e
            cases e
          · exact hb (z' ▸ inC)
          · exact hb (z' ▸ inM)
          · exact hb (z' ▸ inW)
          · exact hb (z' ▸ inU)
      by_cases c2 : g1.offers = 1 - g1.side
      · refine ifT (decide_eq_true c2) ?_
        refine ⟨_, rfl, A.a, cs.M, A.dx, _, rfl, h5.hM, T.cM, T.nM_offers, few, ?_⟩
        refine rest _ ?_ (((((kp1.trans (Keep.upd inM)).trans (Keep.same s3)).trans (Keep.upd inC)).trans (Keep.upd inA)).trans (Keep.upd inA))
        have e : g1.step1.step2.step3.step4 g1.side = { g1.step1.step2.step3 with offers := -1 } := if_pos c2
        rw [e]
        exact h5.putOffers _
      · refine ifF (decide_eq_false c2) ?_
        refine rest _ ?_ ((((kp1.trans (Keep.upd inM)).trans (Keep.same s3)).trans (Keep.upd inC)).trans (Keep.upd inA))
        have e : g1.step1.step2.step3.step4 g1.side = g1.step1.step2.step3 := if_neg c2
        rw [e]
        exact h5
    · rw [if_neg c] at k
      refine ifF (decide_eq_false c) ?_
      exact k H1 A.st (.inl rfl) h1 kp1
theorem ok_Match_illegal (X : MTx K cs.M "illegal" "Match.illegal" s_Match_illegal ["self", "used"]) (T : Txt K mg cs) (m_Match_does_take_off : MOk P w K mg base CX0 3 cs.M "does_take_off" ["self", "used"] (sp_Match_does_take_off cs K)) (m_Match_give_time : MOk P w K mg base CX0 1 cs.M "give_time" ["self", "side"] (sp_Match_give_time cs K)) (m_Match_lose : MOk P w K mg base CX0 2 cs.M "lose" ["self", "side", "why"] (sp_Match_lose cs K)) : MOk P w K mg base CX0 4 cs.M "illegal" ["self", "used"] (sp_Match_illegal cs K) := by
  refine X.ok sc_Match_illegal (fun vs H Q E h => ?_) (fun f cdv B outer s H vs Q E hr h => ⟨_, (pss_one (ps_if (pt_val (pe_methM (pv 0) T.cM m_Match_does_take_off hr (by decide) pass0 (pa_cons (pv 1) pa_nil))) (pss_cons (ps_asg (pe_op op_add (pe_ix ix_list (pe_fld (pv 0) rfl) (pe_fld (pv 0) rfl) (fun _ _ => rfl)) pe_int) (pg_sub (pe_fld (pv 0) rfl) (pe_fld (pv 0) rfl) set_list))
      (pss_one (ps_if (pt_cmpR op_eq (pe_ix ix_list (pe_fld (pv 0) rfl) (pe_fld (pv 0) rfl) (fun _ _ => rfl)) pe_int (nomark _)) (pss_one (ps_expr (pe_methM (pv 0) T.cM m_Match_give_time hr (by decide) pass0 (pa_cons (pe_op op_sub pe_int (pe_fld (pv 0) rfl)) pa_nil)))) (pss_one (ps_expr (pe_methM (pv 0) T.cM m_Match_lose hr (by decide) pass0 (pa_cons (pe_fld (pv 0) rfl) (pa_cons (pe_gi T.ILLEGAL) pa_nil)))))))) pss_nil)), ?_⟩)
  · obtain ⟨_, _, _, rfl, _⟩ := h
    rfl
  · obtain ⟨A, g, used, rfl, h, hs, k⟩ := h
    unfold M.illegal at k
    refine ⟨_, rfl, A.a, A.dx, _, rfl, h.hM, mF_no_does_take_off, _, rfl, A, g, used, rfl, h, hs, fun H1 h1 kp1 => ⟨_, rfl, ?_⟩⟩
    by_cases c : g.left used > 0
    · rw [if_pos c] at k
      refine ifT (decide_eq_true c) ?_
      have es : (g.takeOff used).side = g.side := by rw [take_pos c]
      rw [← es] at hs
      generalize g.takeOff used = g1 at *
      refine ⟨_, rfl, A.a, cs.M, A.dx, _, _, rfl, h1.hM, T.cM, T.nM_wrong, mF_wrong, _, rfl, A.a, cs.M, A.dx, _, _, rfl, h1.hM, T.cM, T.nM_side, mF_side, A.w, _, _, _, rfl, rfl, SqL.of h1.hw, at2 hs, _, _, rfl, rfl, _, rfl, A.a, cs.M, A.dx, _, _, rfl, h1.hM, T.cM, T.nM_wrong, mF_wrong, _, rfl, A.a, cs.M, A.dx, _, _, rfl, h1.hM, T.cM, T.nM_side, mF_side, A.w, _, _, _, rfl, rfl, h1.hw, ix2 hs, ?_⟩
      have h2 : At cs _ A g1.wrong1 := h1.putW hs (get g1.w g1.side + 1)
      refine ⟨_, rfl, A.a, cs.M, A.dx, _, _, rfl, h2.hM, T.cM, T.nM_wrong, mF_wrong, _, rfl, A.a, cs.M, A.dx, _, _, rfl, h2.hM, T.cM, T.nM_side, mF_side, A.w, _, _, _, rfl, rfl, SqL.of h2.hw, at2 hs, rfl, _, rfl, ?_⟩
      rw [decV]
      have hs2 : g1.wrong1.side = 0 ∨ g1.wrong1.side = 1 := hs
      unfold M.blame at k
      by_cases c2 : get g1.wrong1.w g1.wrong1.side = 1
      · rw [if_pos c2] at k
        refine ifT (decide_eq_true c2) ?_
        exact ⟨_, rfl, A.a, A.dx, _, rfl, h2.hM, mF_no_give_time, _, rfl, A.a, cs.M, A.dx, _, _, rfl, h2.hM, T.cM, T.nM_side, mF_side, _, _, rfl, rfl, A, _, _, rfl, h2, other hs2, fun H3 h3 kp3 => k H3 h3 ((kp1.trans (Keep.upd inW)).trans kp3)⟩
      · rw [if_neg c2] at k
        refine ifF (decide_eq_false c2) ?_
        exact ⟨_, rfl, A.a, A.dx, _, rfl, h2.hM, mF_no_lose, _, rfl, A.a, cs.M, A.dx, _, _, rfl, h2.hM, T.cM, T.nM_side, mF_side, A, _, _, _, rfl, h2, hs2, fun H3 h3 kp3 => k H3 h3 ((kp1.trans (Keep.upd inW)).trans kp3)⟩
    · rw [if_neg c] at k
      refine ifF (decide_eq_false c) ?_
      exact k H1 h1 kp1
theorem ok_Match_claim (X : MTx K cs.M "claim" "Match.claim" s_Match_claim ["self", "claim"]) (T : Txt K mg cs) (m_Positions_is_claimed : MOk P w K mg base CX0 2 cs.P "is_claimed" ["self", "claim"] (sp_Positions_is_claimed cs K)) (m_Match_end : MOk P w K mg base CX0 1 cs.M "end" ["self", "winner", "why"] (sp_Match_end cs K)) (m_Match_give_time : MOk P w K mg base CX0 1 cs.M "give_time" ["self", "side"] (sp_Match_give_time cs K)) : MOk P w K mg base CX0 3 cs.M "claim" ["self", "claim"] (sp_Match_claim cs K) := by
  refine X.ok sc_Match_claim (fun vs H Q E h => ?_) (fun f cdv B outer s H vs Q E hr h => ⟨_, (pss_one (ps_if (pt_val (pe_methM (pe_fld (pv 0) rfl) T.cP m_Positions_is_claimed hr (by decide) pass0 (pa_cons (pv 1) pa_nil))) (pss_one (ps_expr (pe_methM (pv 0) T.cM m_Match_end hr (by decide) pass0 (pa_cons (pe_gi T.DRAWN) (pa_cons (pe_ix ix_list (pe_lst (pa_cons (pe_gi T.THIRD_TIME) (pa_cons (pe_gi T.CLAIMED_LONG) pa_nil))) (pv 1) (fun _ _ => rfl)) pa_nil))))) (pss_cons (ps_expr (pe_methM (pv 0) T.cM m_Match_give_time hr (by decide) pass0 (pa_cons (pe_op op_sub pe_int (pe_fld (pv 0) rfl)) pa_nil)))
      (pss_one (ps_if (pt_cmpR op_eq (pe_fld (pv 0) rfl) (pe_gi T.NOBODY) (nomark _)) (pss_one (ps_fld (pv 0) (pe_fld (pv 0) rfl) rfl)) pss_nil))))), ?_⟩)
  · obtain ⟨_, _, _, rfl, _⟩ := h
    rfl
  · obtain ⟨A, g, claim, rfl, h, hs, hc, hne, k⟩ := h
    unfold M.claim M.isClaimed at k
    refine ⟨_, rfl, A.a, cs.M, A.dx, _, _, rfl, h.hM, T.cM, T.nM_positions, mF_positions, A.p, A.dp, _, rfl, h.hP.P, pF_no_is_claimed, _, rfl, A.p, A.dp, A.st, _, _, claim, rfl, h.hP, hne, _, rfl, ?_⟩
    by_cases c : (if claim = 0 then decide ((times g.stood : Int) ≥ 3) else decide (g.without ≥ 100)) = true
    · rw [if_pos c] at k
      refine ifT c ?_
      refine ⟨_, rfl, A.a, A.dx, _, rfl, h.hM, mF_no_end, sz, fun q nq => ?_⟩
      have s1 : Same H (upd H q (.lst [.int 7, .int 8])) := Same.new nq
      have h1 := Same.at s1 h
      refine ⟨_, rfl, q, _, _, .int (if claim = 0 then 7 else 8), rfl, rfl, SqL.of upd_same, ?_, A, g, _, _, rfl, h1, fun H2 h2 kp2 => k H2 h2 ((Keep.same s1).trans kp2)⟩
      rcases hc with rfl | rfl <;> rfl
    · rw [if_neg c] at k
      refine ifF (Bool.eq_false_iff.mpr c) ?_
      refine ⟨_, rfl, A.a, A.dx, _, rfl, h.hM, mF_no_give_time, _, rfl, A.a, cs.M, A.dx, _, _, rfl, h.hM, T.cM, T.nM_side, mF_side, _, _, rfl, rfl, A, g, _, rfl, h, other hs, fun H1 h1 kp1 => ?_⟩
      refine ⟨_, rfl, A.a, cs.M, A.dx, _, _, rfl, h1.hM, T.cM, T.nM_offers, mF_offers, rfl, _, rfl, ?_⟩
      rw [decV]
      unfold M.offered at k
      by_cases c2 : (g.giveTime (1 - g.side)).offers = -1
      · rw [if_pos c2] at k
        refine ifT (decide_eq_true c2) ?_
        refine ⟨_, rfl, A.a, cs.M, A.dx, _, _, rfl, h1.hM, T.cM, T.nM_side, mF_side, _, rfl, A.a, cs.M, A.dx, _, rfl, h1.hM, T.cM, T.nM_offers, few, ?_⟩
        exact k _ (h1.putOffers _) (kp1.trans (Keep.upd inA))
      · rw [if_neg c2] at k
        refine ifF (decide_eq_false c2) ?_
        exact k _ h1 kp1
theorem ok_Match_stands (X : MTx K cs.M "stands" "Match.stands" s_Match_stands ["self"]) (T : Txt K mg cs) (m_Match_is_over : MOk P w K mg base CX0 1 cs.M "is_over" ["self"] (sp_Match_is_over cs K)) : MOk P w K mg base CX0 2 cs.M "stands" ["self"] (sp_Match_stands cs K) := by
  refine X.ok sc_Match_stands (fun vs H Q E h => ?_) (fun f cdv B outer s H vs Q E hr h => ⟨_, (pss_one (ps_ret (pe_op op_cat (pe_op op_cat (pe_lst (pa_cons (pe_callTy call_int1 (by rfl) T.b_int (by decide +kernel) (pa_cons (pe_methM0 (pv 0) T.cM m_Match_is_over hr (by decide) pass0) pa_nil)) (pa_cons (pe_fld (pv 0) rfl) pa_nil))) (pe_fld (pv 0) rfl)) (pe_lst (pa_cons (pe_fld (pv 0) rfl) (pa_cons (pe_fld (pv 0) rfl) pa_nil)))))), ?_⟩)
  · obtain ⟨_, _, rfl, _⟩ := h
    rfl
  · obtain ⟨A, g, rfl, h, k⟩ := h
    refine ⟨_, rfl, A.a, A.dx, _, rfl, h.hM, mF_no_is_over, A, g, rfl, h, .inr ⟨_, rfl, ?_⟩⟩
    refine ⟨_, rfl, A.a, cs.M, A.dx, _, _, rfl, h.hM, T.cM, T.nM_side, mF_side, sz, fun q nq => ?_⟩
    have s1 : Same H (upd H q (.lst [.int (if g.over = true then 1 else 0), .int g.side])) := Same.new nq
    have h1 := Same.at s1 h
    refine ⟨_, rfl, A.a, cs.M, A.dx, _, _, rfl, h1.hM, T.cM, T.nM_clocks, mF_clocks, q, A.c, _, _, rfl, rfl, upd_same, h1.hc, sz, fun r nr => ?_⟩
    have s2 := s1.trans (Same.new (o := .lst ([.int (if g.over = true then 1 else 0), .int g.side] ++ [.int g.c.1, .int g.c.2])) nr)
    have h2 := Same.at s2 h
    refine ⟨_, rfl, A.a, cs.M, A.dx, _, _, rfl, h2.hM, T.cM, T.nM_winner, mF_winner, _, rfl, A.a, cs.M, A.dx, _, _, rfl, h2.hM, T.cM, T.nM_why, mF_why, sz, fun u nu => ?_⟩
    have s3 := s2.trans (Same.new (o := .lst [.int g.winner, .int g.why]) nu)
    refine ⟨r, u, _, _, rfl, rfl, (Same.new nu) _ _ upd_same, upd_same, sz, fun v nv => ?_⟩
    have s4 := s3.trans (Same.new (o := .lst (([.int (if g.over = true then 1 else 0), .int g.side] ++ [.int g.c.1, .int g.c.2]) ++ [.int g.winner, .int g.why])) nv)
    exact k _ v s4 (s3.free nv) upd_same
theorem ok_Match_told (X : MTx K cs.M "told" "Match.told" s_Match_told ["self"]) (T : Txt K mg cs) (m_Match_stands : MOk P w K mg base CX0 2 cs.M "stands" ["self"] (sp_Match_stands cs K)) : MOk P w K mg base CX0 3 cs.M "told" ["self"] (sp_Match_told cs K) := by
  refine X.ok sc_Match_told (fun vs H Q E h => ?_) (fun f cdv B outer s H vs Q E hr h => ⟨_, (pss_one (ps_ret (pe_op op_cat (pe_op op_cat (pe_op op_cat (pe_op op_cat (pe_methM0 (pv 0) T.cM m_Match_stands hr (by decide) pass0) (pe_fld (pv 0) rfl)) (pe_fld (pv 0) rfl)) (pe_lst (pa_cons (pe_fld (pv 0) rfl) pa_nil))) (pe_fld (pv 0) rfl)))), ?_⟩)
  · obtain ⟨_, _, rfl, _⟩ := h
    rfl
  · obtain ⟨A, g, rfl, h, k⟩ := h
    refine ⟨_, rfl, A.a, A.dx, _, rfl, h.hM, mF_no_stands, A, g, rfl, h, fun H1 q1 s1 n1 e1 => ?_⟩
    have h1 := Same.at s1 h
    refine ⟨_, rfl, A.a, cs.M, A.dx, _, _, rfl, h1.hM, T.cM, T.nM_made, mF_made, q1, A.m, _, _, rfl, rfl, e1, h1.hm, sz, fun q2 n2 => ?_⟩
    have s2 := s1.trans (Same.new (o := .lst (g.stands.map V.int ++ [.int g.m.1, .int g.m.2])) n2)
    have h2 := Same.at s2 h
    refine ⟨_, rfl, A.a, cs.M, A.dx, _, _, rfl, h2.hM, T.cM, T.nM_wrong, mF_wrong, q2, A.w, _, _, rfl, rfl, upd_same, h2.hw, sz, fun q3 n3 => ?_⟩
    have s3 := s2.trans (Same.new (o := .lst ((g.stands.map V.int ++ [.int g.m.1, .int g.m.2]) ++ [.int g.w.1, .int g.w.2])) n3)
    have h3 := Same.at s3 h
    refine ⟨_, rfl, A.a, cs.M, A.dx, _, _, rfl, h3.hM, T.cM, T.nM_offers, mF_offers, sz, fun q4 n4 => ?_⟩
    have s4 := s3.trans (Same.new (o := .lst [.int g.offers]) n4)
    refine ⟨q3, q4, _, _, rfl, rfl, (Same.new n4) _ _ upd_same, upd_same, sz, fun q5 n5 => ?_⟩
    have s5 := s4.trans (Same.new (o := .lst (((g.stands.map V.int ++ [.int g.m.1, .int g.m.2]) ++ [.int g.w.1, .int g.w.2]) ++ [.int g.offers])) n5)
    have h5 := Same.at s5 h
    refine ⟨_, rfl, A.a, cs.M, A.dx, _, _, rfl, h5.hM, T.cM, T.nM_could, mF_could, q5, A.u, _, _, rfl, rfl, upd_same, h5.hu, sz, fun q6 n6 => ?_⟩
    exact k _ q6 (s5.trans (Same.new n6)) (s5.free n6) upd_same
theorem ok_Match_stretches_told (X : MTx K cs.M "stretches_told" "Match.stretches_told" s_Match_stretches_told ["self"]) (T : Txt K mg cs) (m_Times_of_stretches : MOk P w K mg base CX0 1 cs.T "of_stretches" ["self", "made"] (sp_Times_of_stretches cs K)) : MOk P w K mg base CX0 2 cs.M "stretches_told" ["self"] (sp_Match_stretches_told cs K) := by
  refine X.ok sc_Match_stretches_told (fun vs H Q E h => ?_) (fun f cdv B outer s H vs Q E hr h => ⟨_, (pss_one (ps_ret (pe_op op_cat (pe_lst (pa_cons (pe_callB call_len_seq (by rfl) T.b_len PySem.boot_len (pa_cons (pe_fld (pe_fld (pv 0) rfl) rfl) pa_nil)) pa_nil)) (pe_lc (own := [("made", 1)]) (g := (gName 1)) (tt := tYes) rfl sc_Match_stretches_told.nd (pi_list (pe_fld (pv 0) rfl)) (blkOk_by (own := [("made", 1)]) (N := ["self", "made"]) (sc := defScope s_Match_stretches_told) (by decide +kernel)) (fun _ _ _ _ _ => (pg_name (i := 1) sc_Match_stretches_told.nd rfl (Or.inl rfl))) (fun _ _ _ _ _ => pts_nil) (fun _ _ _ _ _ => (pe_methM (show PE _ _ (tFld K (tVar 0) "times") from pe_fld (pv 0) rfl) T.cT m_Times_of_stretches hr (by decide) pass0 (pa_cons (pe_op op_add (pv 1) pe_int) pa_nil))))))), ?_⟩)
  · obtain ⟨_, _, rfl, _⟩ := h
    rfl
  · obtain ⟨A, g, rfl, h, k⟩ := h
    obtain ⟨as, hs, hz⟩ := id h.hT.S
    refine ⟨_, rfl, A.a, cs.M, A.dx, _, _, rfl, h.hM, T.cM, T.nM_times, mF_times, A.t, cs.T, A.dt, _, _, rfl, h.hT.T, T.cT, T.nT_stretches, tF_stretches, A.s, _, rfl, .inl (SqL.of hs), sz, fun q nq => ?_⟩
    rw [List.length_map, hz.length] at *
    have s1 : Same H (upd H q (.lst [.int (g.str.length : Nat)])) := Same.new nq
    have h1 := Same.at s1 h
    refine ⟨_, rfl, A.a, cs.M, A.dx, _, _, rfl, h1.hM, T.cM, T.nM_made, mF_made, A.m, rfl, ⟨_, SqL.of h1.hm⟩, fun D nD => ?_⟩
    have s2 := Same.new (o := .lst []) nD
    refine lc_list (K := K) (a := A.m) (xs := [.int g.m.1, .int g.m.2]) (fun i H' => H' D = some (.lst ((([g.m.1, g.m.2].take i).map fun z => ofStr (z + 1) 0 g.str).map V.int)) ∧ Same (upd H q (.lst [.int (g.str.length : Nat)])) H')
      ⟨upd_same, s2⟩ (fun i H' _ ⟨_, s3⟩ => SqL.of (s3 _ _ h1.hm)) ?_ ?_
    · rintro i x H' hx ⟨hD, s3⟩
      have h3 := Same.at s3 h1
      obtain ⟨z, hz1, rfl⟩ : ∃ z, [g.m.1, g.m.2][i]? = some z ∧ x = V.int z := by
        have hx' : ([g.m.1, g.m.2].map V.int)[i]? = some x := hx
        rw [List.getElem?_map] at hx'
        obtain ⟨z, e1, e2⟩ := Option.map_eq_some_iff.mp hx'
        exact ⟨z, e1, e2.symm⟩
      refine ⟨rfl, ?_⟩
      refine ⟨_, rfl, A.a, cs.M, A.dx, _, _, rfl, h3.hM, T.cM, T.nM_times, mF_times, A.t, A.dt, _, rfl, h3.hT.T, tF_no_of_stretches, _, rfl, _, _, rfl, rfl, A.t, A.dt, A.s, _, _, _, _, rfl, h3.hT, fun H4 s4 => ?_⟩
      refine ⟨_, s4 _ _ hD, ?_, ?_, fun c o e => ?_⟩
      · rw [List.length_map, List.length_map, List.length_take]
        have := sizeLine_eq
        simp only [List.length_cons, List.length_nil]
        omega
      · rw [take_more hz1, List.map_append, List.map_append]
        exact upd_same
      · rw [upd_ne (ne_of_none e nD)]
        exact s4 _ _ (s3 _ _ e)
    · rintro H' ⟨hD, s3⟩
      refine ⟨q, D, _, _, rfl, rfl, s3 _ _ upd_same, hD, sz, fun r nr => ?_⟩
      have s5 := (s1.trans s3).trans (Same.new (o := .lst ([.int (g.str.length : Nat)] ++ (([g.m.1, g.m.2].take 2).map fun z => ofStr (z + 1) 0 g.str).map V.int)) nr)
      exact k _ r s5 ((s1.trans s3).free nr) upd_same
theorem ok_Match_init (X : CTx K mg "Match" cs.M "Match.__init__" s_Match_init ["self", "times", "number"]) (T : Txt K mg cs) (k_Positions : COk P w K mg base 1 "Positions" cs.P ["self", "number"] (sp_Positions_init cs K)) (m_Times_at_first : MOk P w K mg base CX0 1 cs.T "at_first" ["self"] (sp_Times_at_first cs K)) : COk P w K mg base 4 "Match" cs.M ["self", "times", "number"] (sp_Match_init cs K) := by
  refine X.ok sc_Match_init (fun vs H Q E h => ?_) (fun f cdv B outer s H vs Q E hr h => ⟨_, (pss_cons (ps_fld (pv 0) (pv 1) rfl)
      (pss_cons (ps_fld (pv 0) (pe_makeC k_Positions hr (by decide) rfl (pa_cons (pv 2) pa_nil)) rfl)
      (pss_cons (ps_fld (pv 0) pe_int rfl)
      (pss_cons (ps_fld (pv 0) (pe_lst (pa_cons (pe_methM0 (pv 1) T.cT m_Times_at_first hr (by decide) pass0) (pa_cons (pe_methM0 (pv 1) T.cT m_Times_at_first hr (by decide) pass0) pa_nil))) rfl)
      (pss_cons (ps_fld (pv 0) (pe_lst (pa_cons pe_int (pa_cons pe_int pa_nil))) rfl)
      (pss_cons (ps_fld (pv 0) (pe_lst (pa_cons pe_int (pa_cons pe_int pa_nil))) rfl)
      (pss_cons (ps_fld (pv 0) (pe_lst (pa_cons pe_int (pa_cons pe_int pa_nil))) rfl)
      (pss_cons (ps_fld (pv 0) (pe_gi T.NOBODY) rfl)
      (pss_cons (ps_fld (pv 0) (pe_gi T.GOES_ON) rfl)
      (pss_one (ps_fld (pv 0) (pe_gi T.GOES_ON) rfl))))))))))), ?_⟩)
  · obtain ⟨_, _, _, _, _, _, _, _, _, rfl, _⟩ := h
    rfl
  · obtain ⟨x, dx, t, dt, s, mode, extra, n, str, rfl, hx, ht, hne, k⟩ := h
    have xt : x ≠ t := ne_of hx ht.T (fun z => absurd (congrArg List.length (HO.ins.inj z).2.2) (by rw [tF_len]; decide))
    obtain ⟨as, hs, hz⟩ := id ht.S
    have xs : x ≠ s := ne_of hx hs (by intro z; cases z)
    have ts : t ≠ s := ne_of ht.T hs (by intro z; cases z)
    -- all that stands but x
    have base1 : ∀ (o : HO), TimesAt cs (upd H x o) t dt s mode extra str := fun o => ⟨(upd_ne xt.symm).trans ht.T, ht.S.keep (upd_ne xs.symm) (TupKeep.ins hx)⟩
    refine ⟨_, rfl, _, rfl, x, cs.M, dx, [], rfl, hx, T.cM, T.nM_times, few, ?_⟩
    -- Positions(number)
    refine ⟨_, rfl, fun p dp np nd ne => ?_⟩
    refine ⟨p, dp, n, rfl, upd_same, fun H1 st nst hp k1 => ⟨rfl, ?_⟩⟩
    have xp : x ≠ p := ne_of_none upd_same np
    have xd : x ≠ dp := ne_of_none upd_same nd
    have npH : H p = none := by
      rw [upd_ne xp.symm] at np
      exact np
    have ndH : H dp = none := by
      rw [upd_ne xd.symm] at nd
      exact nd
    have stp : st ≠ p := fun z => by
      rw [z, upd_same] at nst
      cases nst
    have std : st ≠ dp := fun z => by
      rw [z, upd_ne ne, upd_same] at nst
      cases nst
    have stx : st ≠ x := fun z => by
      rw [z, upd_ne xp, upd_ne xd, upd_same] at nst
      cases nst
    have nstH : H st = none := by
      rw [upd_ne stp, upd_ne std, upd_ne stx] at nst
      exact nst
    have kH : ∀ b o, H b = some o → b ≠ x → H1 b = some o := fun b o e hb => k1 b o (by rw [upd_ne (ne_of_none e npH), upd_ne (ne_of_none e ndH), upd_ne hb]; exact e) (ne_of_none e npH)
    have hx1 : H1 x = some (.ins cs.M dx (putF "times" (.ref t) [])) := k1 x _ (by rw [upd_ne xp, upd_ne xd]; exact upd_same) xp
    have ht1 : TimesAt cs H1 t dt s mode extra str := ⟨kH _ _ ht.T xt.symm, as, kH _ _ hs xs.symm, hz.keep fun b xs' e => kH b _ e (ne_of e hx (by intro z; cases z))⟩
    have i1 : Ini cs H x dx t dt s p dp st mode extra n str H1 (putF "times" (.ref t) []) [] := by
      refine ⟨hx1, ht1, hp, fun q hq => (nomatch hq), kH, fun q hq => (nomatch hq), ?_⟩
      have tp : t ≠ p := ne_of_none ht.T npH
      have sp_ : s ≠ p := ne_of_none hs npH
      have tst : t ≠ st := ne_of_none ht.T nstH
      have sst : s ≠ st := ne_of_none hs nstH
      simp only [List.map_nil, List.nodup_cons, List.mem_cons, List.not_mem_nil, not_or, or_false, List.nodup_nil, and_true, not_false_eq_true]
      exact ⟨⟨xp, stx.symm, xt, xs⟩, ⟨stp.symm, tp.symm, sp_.symm⟩, ⟨tst.symm, sst.symm⟩, ts⟩
    refine ⟨_, rfl, x, cs.M, dx, _, rfl, i1.X, T.cM, T.nM_positions, few, ?_⟩
    have i2 := i1.fld (putF "positions" (.ref p) (putF "times" (.ref t) []))
    refine ⟨_, rfl, x, cs.M, dx, _, rfl, i2.X, T.cM, T.nM_side, few, ?_⟩
    have i3 := i2.fld (putF "side" (.int 0) (putF "positions" (.ref p) (putF "times" (.ref t) [])))
    refine ⟨_, rfl, t, dt, _, rfl, i3.T.T, tF_no_at_first, t, dt, s, mode, extra, str, rfl, i3.T, hne, _, rfl, t, dt, _, rfl, i3.T.T, tF_no_at_first, t, dt, s, mode, extra, str, rfl, i3.T, hne, sz, fun c nc => ?_⟩
    have i4 := i3.new (l := [.int (atFirst mode extra str), .int (atFirst mode extra str)]) nc
    refine ⟨_, rfl, x, cs.M, dx, _, rfl, i4.X, T.cM, T.nM_clocks, few, ?_⟩
    have i5 := i4.fld (putF "clocks" (.ref c) (putF "side" (.int 0) (putF "positions" (.ref p) (putF "times" (.ref t) []))))
    refine ⟨sz, fun m nm => ?_⟩
    have i6 := i5.new (l := [.int 0, .int 0]) nm
    refine ⟨_, rfl, x, cs.M, dx, _, rfl, i6.X, T.cM, T.nM_made, few, ?_⟩
    have i7 := i6.fld (putF "made" (.ref m) (putF "clocks" (.ref c) (putF "side" (.int 0) (putF "positions" (.ref p) (putF "times" (.ref t) [])))))
    refine ⟨sz, fun w nw => ?_⟩
    have i8 := i7.new (l := [.int 0, .int 0]) nw
    refine ⟨_, rfl, x, cs.M, dx, _, rfl, i8.X, T.cM, T.nM_wrong, few, ?_⟩
    have i9 := i8.fld (putF "wrong" (.ref w) (putF "made" (.ref m) (putF "clocks" (.ref c) (putF "side" (.int 0) (putF "positions" (.ref p) (putF "times" (.ref t) []))))))
    refine ⟨sz, fun u nu => ?_⟩
    have i10 := i9.new (l := [.int 1, .int 1]) nu
    refine ⟨_, rfl, x, cs.M, dx, _, rfl, i10.X, T.cM, T.nM_could, few, ?_⟩
    have i11 := i10.fld (putF "could" (.ref u) (putF "wrong" (.ref w) (putF "made" (.ref m) (putF "clocks" (.ref c) (putF "side" (.int 0) (putF "positions" (.ref p) (putF "times" (.ref t) [])))))))
    refine ⟨_, rfl, x, cs.M, dx, _, rfl, i11.X, T.cM, T.nM_offers, few, ?_⟩
    have i12 := i11.fld (putF "offers" (.int (-1)) (putF "could" (.ref u) (putF "wrong" (.ref w) (putF "made" (.ref m) (putF "clocks" (.ref c) (putF "side" (.int 0) (putF "positions" (.ref p) (putF "times" (.ref t) []))))))))
    refine ⟨_, rfl, x, cs.M, dx, _, rfl, i12.X, T.cM, T.nM_winner, few, ?_⟩
    have i13 := i12.fld (putF "winner" (.int (-1)) (putF "offers" (.int (-1)) (putF "could" (.ref u) (putF "wrong" (.ref w) (putF "made" (.ref m) (putF "clocks" (.ref c) (putF "side" (.int 0) (putF "positions" (.ref p) (putF "times" (.ref t) [])))))))))
    refine ⟨_, rfl, x, cs.M, dx, _, rfl, i13.X, T.cM, T.nM_why, few, ?_⟩
    have i14 := i13.fld (putF "why" (.int (-1)) (putF "winner" (.int (-1)) (putF "offers" (.int (-1)) (putF "could" (.ref u) (putF "wrong" (.ref w) (putF "made" (.ref m) (putF "clocks" (.ref c) (putF "side" (.int 0) (putF "positions" (.ref p) (putF "times" (.ref t) []))))))))))
    have i15 := i14
    rw [mF_new] at i15
    refine k _ ⟨x, dx, t, dt, s, p, dp, st, c, m, w, u⟩ rfl rfl rfl (fun b hb => ?_) ?_ fun b o e hb => i14.K b o e hb
    · have hb' : b = p ∨ b = st ∨ b = c ∨ b = m ∨ b = w ∨ b = u := by simpa using hb
      rcases hb' with z | z | z | z | z | z
      · exact z ▸ npH
      · exact z ▸ nstH
      · exact z ▸ i14.F _ (.tail _ (.tail _ (.tail _ (.head _))))
      · exact z ▸ i14.F _ (.tail _ (.tail _ (.head _)))
      · exact z ▸ i14.F _ (.tail _ (.head _))
      · exact z ▸ i14.F _ (.head _)
    · have e := Ini.at (C := (atFirst mode extra str, atFirst mode extra str)) (M_ := (0, 0)) (W := (0, 0)) (U := (1, 1)) i15
      rw [mF_new]
      exact e
end
end Ck

namespace Ck
/-! ### what the walk asks of a game stays -/
structure Alike (g g' : M) : Prop where
  side : g'.side = g.side
  str : g'.str = g.str
  stood : g'.stood = g.stood
theorem Alike.trans {g g1 g2 : M} (a : Alike g g1) (b : Alike g1 g2) : Alike g g2 := ⟨b.side.trans a.side, b.str.trans a.str, b.stood.trans a.stood⟩
theorem Alike.fit {g g' : M} (a : Alike g g') (h : Fit g) : Fit g' := ⟨by rw [a.side]; exact h.side, by rw [a.str]; exact h.str, by rw [a.stood]; exact h.stood⟩
theorem Alike.len {g g' : M} (a : Alike g g') {n : Nat} (h : g.stood.length ≤ n) : g'.stood.length ≤ n + 1 := by
  rw [a.stood]
  omega
theorem alike_fin (g : M) (w y : Int) : Alike g (g.fin w y) := ⟨rfl, rfl, rfl⟩
theorem alike_lose (g : M) (w y : Int) : Alike g (g.lose w y) := by
  unfold M.lose
  split
  · exact ⟨rfl, rfl, rfl⟩
  · exact ⟨rfl, rfl, rfl⟩
theorem alike_take (g : M) (u : Int) : Alike g (g.takeOff u) := by
  unfold M.takeOff
  split
  · exact ⟨rfl, rfl, rfl⟩
  · exact (show Alike g { g with c := put g.c g.side 0 } from ⟨rfl, rfl, rfl⟩).trans (alike_lose _ _ _)
theorem alike_give (g : M) (w : Int) : Alike g (g.giveTime w) := ⟨rfl, rfl, rfl⟩
theorem alike_illegal (g : M) (u : Int) : Alike g (g.illegal u) := by
  unfold M.illegal
  split
  · refine ((alike_take g u).trans (show Alike _ (g.takeOff u).wrong1 from ⟨rfl, rfl, rfl⟩)).trans ?_
    unfold M.blame
    split
    · exact alike_give _ _
    · exact alike_lose _ _ _
  · exact alike_take g u
theorem alike_claim (g : M) (k : Int) : Alike g (g.claim k) := by
  unfold M.claim
  split
  · exact alike_fin _ _ _
  · refine (alike_give g (1 - g.side)).trans ?_
    unfold M.offered
    split
    · exact ⟨rfl, rfl, rfl⟩
    · exact ⟨rfl, rfl, rfl⟩
theorem alike_end (g : M) (w e : Int) : Alike g (g.endBy w e) := by
  unfold M.endBy
  repeat' split
  all_goals exact ⟨rfl, rfl, rfl⟩
theorem fit_move {g : M} (h : Fit g) (u n : Int) (f : Bool) (e : Int) {k : Nat} (hk : g.stood.length ≤ k) : Fit (g.move u n f e) ∧ (g.move u n f e).stood.length ≤ k + 1 := by
  unfold M.move
  split
  · have a := alike_take g u
    generalize g.takeOff u = g1 at a
    unfold M.moved
    have e4 : (g1.step1.step2.step3.step4 g1.side).side = 1 - g1.side ∧ (g1.step1.step2.step3.step4 g1.side).str = g1.str ∧ (g1.step1.step2.step3.step4 g1.side).stood = g1.stood := by
      unfold M.step4
      split <;> exact ⟨rfl, rfl, rfl⟩
    have e5 : ((g1.step1.step2.step3.step4 g1.side).stand n (1 - g1.side) f).side = 1 - g1.side ∧ ((g1.step1.step2.step3.step4 g1.side).stand n (1 - g1.side) f).str = g1.str ∧ ((g1.step1.step2.step3.step4 g1.side).stand n (1 - g1.side) f).stood ≠ [] ∧
        ((g1.step1.step2.step3.step4 g1.side).stand n (1 - g1.side) f).stood.length ≤ k + 1 := by
      unfold M.stand
      cases f with
      | true =>
        refine ⟨e4.1, e4.2.1, by simp, ?_⟩
        show ([(n, 1 - g1.side)] : List P2).length ≤ k + 1
        simp
      | false =>
        refine ⟨e4.1, e4.2.1, ?_, ?_⟩
        · show (g1.step1.step2.step3.step4 g1.side).stood ++ [(n, 1 - g1.side)] ≠ []
          simp
        · show ((g1.step1.step2.step3.step4 g1.side).stood ++ [(n, 1 - g1.side)]).length ≤ k + 1
          rw [e4.2.2, a.stood]
          simp
          omega
    have a6 := alike_end ((g1.step1.step2.step3.step4 g1.side).stand n (1 - g1.side) f) g1.side e
    have hs := h.side
    have hs1 := a.side
    refine ⟨⟨?_, ?_, ?_⟩, ?_⟩
    · rw [a6.side, e5.1, hs1]
      omega
    · rw [a6.str, e5.2.1, a.str]
      exact h.str
    · rw [a6.stood]
      exact e5.2.2.1
    · rw [a6.stood]
      exact e5.2.2.2
  · have a := alike_take g u
    exact ⟨a.fit h, a.len hk⟩
theorem good_pairs {l : List Int} (h : goodRow l = true) : pairsOf l ≠ [] ∧ l.length % 2 = 0 := by
  unfold goodRow at h
  split at h
  · cases h
  · rename_i c
    refine ⟨fun z => ?_, by omega⟩
    have := pairs_len l
    rw [z] at this
    simp at this
    omega
theorem fit_fresh (mode extra n : Int) {str : List P2} (h : str ≠ []) : Fit (M.fresh mode extra str n) := ⟨.inl rfl, h, by simp [M.fresh]⟩
end Ck

namespace Ck
open PySem PySem.Spec PyProof.Rows L2
/-! ### refusals -/
/-- a refusal leaves all that was tracked as it was; its own dict tells its number -/
def Ref (cs : Cs) (E : XK) (H : Hp) (c : Int) : Prop := ∀ (H' : Hp) (d : Addr), Same H H' → H' d = some (.xd [("code", .int c)]) → E (.ref cs.R) (some d) H'
theorem Ref.same {cs : Cs} {E : XK} {H H1 : Hp} {c : Int} (r : Ref cs E H c) (s : Same H H1) : Ref cs E H1 c := fun H' d s1 e => r H' d (s.trans s1) e
def sp_Refused_init (cs : Cs) (K : PySem.W.Frag) : Sp := fun vs H Q _ => ∃ (a : Addr) (c : Int), vs = [.ref a, .int c] ∧ H a = some (exo a cs.R none) ∧
  ∀ dx, H dx = none → dx ≠ a → Q .non (upd (upd H dx (exd dx [("code", .int c)])) a (exo a cs.R (some dx)))
structure RTx (K : PySem.W.Frag) (cs : Cs) : Prop where
  ex : ∃ f fd, Fun K "__init__" "Refused.__init__" s_Refused_init f fd ∧ PySem.W.findIn K (.ref cs.R) "__init__" = some (some (.ref f)) ∧ PySem.W.typeIn K (.ref f) = some (.type "function") ∧ Binds K fd ["self", "code"] []
structure ROk (P : Program) (w : World) (K : PySem.W.Frag) (mg : Str → Option Value) (base : Heap) (cs : Cs) : Prop where
  ex : ∃ f fd, PySem.W.findIn K (.ref cs.R) "__init__" = some (some (.ref f)) ∧ PySem.W.typeIn K (.ref f) = some (.type "function") ∧ Binds K fd ["self", "code"] [] ∧ FnOk P w K mg base CX0 1 f fd ["self", "code"] (sp_Refused_init cs K)
def sp_want (cs : Cs) (K : PySem.W.Frag) : Sp := fun vs H Q E => ∃ (b : Bool) (c : Int), vs = [.bl b, .int c] ∧ (b = true → Q .non H) ∧ (b = false → Ref cs E H c)
def sp_want_within (cs : Cs) (K : PySem.W.Frag) : Sp := fun vs H Q E => ∃ (n most : Int), vs = [.int n, .int most] ∧ (inn n most = true → Q .non H) ∧ (inn n most = false → Ref cs E H (-1))
/-- lo <= x <= hi, hi a name -/
theorem chain_leV {lo x hi : Int} {σ : L2.St} {H : Hp} {Q : VK} {i j : Nat} (hx : σ[i]? = some (some (.int x))) (hy : σ[j]? = some (some (.int hi))) (q : Q (.bl (decide (lo ≤ x) && decide (x ≤ hi))) H) :
    tChain (rI0 fun i j => .bl (decide (i ≤ j))) (rI0 fun i j => .bl (decide (i ≤ j))) (tC (.int lo)) (tVar i) (tVar j) σ H Q := by
  refine ⟨_, hx, _, _, rfl, rfl, _, rfl, ?_⟩
  by_cases h : lo ≤ x
  · refine ifT (decide_eq_true h) ?_
    rw [decide_eq_true h, Bool.true_and] at q
    exact ⟨_, hy, _, _, rfl, rfl, q⟩
  · refine ifF (decide_eq_false h) ?_
    rw [decide_eq_false h, Bool.false_and] at q
    exact q
/-! ### the desk in the heap -/
def DeskAt (cs : Cs) (H : Hp) (os : List Addr) (d : Addr) (n : Nat) : Option M → Prop
  | none => os = [d] ∧ ∃ dd, H d = some (.ins cs.D dd (dF .non))
  | some g => ∃ (A : MA) (dd : Addr), os = d :: A.cells ∧ H d = some (.ins cs.D dd (dF (.ref A.a))) ∧ At cs H A g ∧ d ∉ A.t :: A.s :: A.cells ∧ Fit g ∧ g.stood.length ≤ n
structure Own (H : Hp) (os os' : List Addr) (H' : Hp) : Prop where
  new : ∀ b ∈ os', b ∈ os ∨ H b = none
  keep : ∀ b o, H b = some o → b ∉ os → H' b = some o
/-- how a call ends -/
structure Done (cs : Cs) (H : Hp) (os : List Addr) (d : Addr) (n : Nat) (r : R) (Q : VK) (E : XK) : Prop where
  no : ∀ e, r = .error e → Ref cs E H e
  yes : ∀ t out, r = .ok (t, out) → ∀ (H' : Hp) (os' : List Addr) (q : Addr), DeskAt cs H' os' d (n + 1) t → Own H os os' H' → (H q = none ∨ q ∈ os) → H' q = some (.lst (out.map V.int)) → Q (.ref q) H'
/-- the game has been changed in its place (its list of positions may be a new one) -/
theorem Done.tell {cs : Cs} {H H1 H2 : Hp} {A : MA} {d dd st q : Addr} {n : Nat} {r : R} {Q : VK} {E : XK} {g' : M} {out : List Int} (D : Done cs H (d :: A.cells) d n r Q E) (er : r = .ok (some g', out))
    (hd : H d = some (.ins cs.D dd (dF (.ref A.a)))) (nd : d ∉ A.t :: A.s :: A.cells) (hst : st = A.st ∨ H st = none) (h1 : At cs H1 { A with st := st } g') (kp : Keep A H H1) (s2 : Same H1 H2) (nq : H1 q = none)
    (hq : H2 q = some (.lst (out.map V.int))) (fit : Fit g') (len : g'.stood.length ≤ n + 1) : Q (.ref q) H2 := by
  have ndc : d ∉ A.cells := fun z => nd (.tail _ (.tail _ z))
  have nds : d ≠ st := fun z => by
    rcases hst with y | y
    · exact ndc (by rw [z, y]; exact inSt)
    · rw [z, y] at hd
      cases hd
  have mem : ∀ b, b ∈ ({ A with st := st } : MA).cells → b = st ∨ b ∈ A.cells := fun b hb => by
    have z' : b = A.a ∨ b = A.p ∨ b = st ∨ b = A.c ∨ b = A.m ∨ b = A.w ∨ b = A.u := by simpa [MA.cells] using hb
    rcases z' with z' | z' | z' | z' | z' | z' | z'
    · exact .inr (z' ▸ inA)
    · exact .inr (z' ▸ inP)
    · exact .inl z'
    · exact .inr (z' ▸ inC)
    · exact .inr (z' ▸ inM)
    · exact .inr (z' ▸ inW)
    · exact .inr (z' ▸ inU)
  refine D.yes _ _ er H2 (d :: ({ A with st := st } : MA).cells) q ⟨{ A with st := st }, dd, rfl, s2 _ _ (kp d _ hd ndc), Same.at s2 h1, fun z => ?_, fit, len⟩ ⟨fun b hb => ?_, fun b o e hb => ?_⟩ ?_ hq
  · rcases List.mem_cons.mp z with z | z
    · exact nd (z ▸ .head _)
    rcases List.mem_cons.mp z with z | z
    · exact nd (z ▸ .tail _ (.head _))
    rcases mem d z with z | z
    · exact nds z
    · exact ndc z
  · rcases List.mem_cons.mp hb with z | z
    · exact .inl (z ▸ .head _)
    rcases mem b z with z | z
    · rcases hst with y | y
      · exact .inl (.tail _ (by rw [z, y]; exact inSt))
      · exact .inr (by rw [z]; exact y)
    · exact .inl (.tail _ z)
  · exact s2 _ _ (kp b o e fun z => hb (.tail _ z))
  · cases e : H q with
    | none => exact .inl rfl
    | some o =>
      by_cases hc : q ∈ A.cells
      · exact .inr (.tail _ hc)
      · rw [kp q o e hc] at nq
        cases nq
/-- the game stands as it was -/
theorem Done.look {cs : Cs} {H H2 : Hp} {A : MA} {d dd q : Addr} {n : Nat} {r : R} {Q : VK} {E : XK} {g : M} {out : List Int} (D : Done cs H (d :: A.cells) d n r Q E) (er : r = .ok (some g, out))
    (hd : H d = some (.ins cs.D dd (dF (.ref A.a)))) (nd : d ∉ A.t :: A.s :: A.cells) (h : At cs H A g) (s2 : Same H H2) (nq : H q = none) (hq : H2 q = some (.lst (out.map V.int))) (fit : Fit g) (len : g.stood.length ≤ n) : Q (.ref q) H2 :=
  D.tell (st := A.st) er hd nd (.inl rfl) h (Keep.refl _ _) s2 nq hq fit (Nat.le_succ_of_le len)
/-! ### Desk: what each def promises -/
def sp_Desk_init (cs : Cs) (K : PySem.W.Frag) : Sp := fun vs H Q _ => ∃ (x dx : Addr), vs = [.ref x] ∧ H x = some (.ins cs.D dx []) ∧ ∀ H' : Hp, H' x = some (.ins cs.D dx (dF .non)) → (∀ b o, H b = some o → b ≠ x → H' b = some o) → Q .non H'
def sp_Desk_game (cs : Cs) (K : PySem.W.Frag) : Sp := fun vs H Q E => ∃ (d dd : Addr) (v : V), vs = [.ref d] ∧ H d = some (.ins cs.D dd (dF v)) ∧ (v = .non → Ref cs E H (-2)) ∧ (v ≠ .non → Q v H)
def sp_Desk_going (cs : Cs) (K : PySem.W.Frag) : Sp := fun vs H Q E => ∃ (d dd : Addr) (v : V), vs = [.ref d] ∧ H d = some (.ins cs.D dd (dF v)) ∧
  ((v = .non ∧ Ref cs E H (-2)) ∨ ∃ (A : MA) (g : M), v = .ref A.a ∧ At cs H A g ∧ (g.over = true → Ref cs E H (-2)) ∧ (g.over = false → Q (.ref A.a) H))
def sp_Desk_begin (cs : Cs) (K : PySem.W.Frag) : Sp := fun vs H Q E => ∃ (d r : Addr) (os : List Addr) (n : Nat) (s : Option M) (mo ex nu : Int) (row : List Int), vs = [.ref d, .int mo, .int ex, .int nu, .ref r] ∧ SqL K H r (row.map V.int) ∧ row.length ≤ 10000 ∧ DeskAt cs H os d n s ∧ Done cs H os d n (desk s (.begin_ mo ex nu row)) Q E
def sp_Desk_move (cs : Cs) (K : PySem.W.Frag) : Sp := fun vs H Q E => ∃ (d : Addr) (os : List Addr) (n : Nat) (s : Option M) (u nu f e : Int), vs = [.ref d, .int u, .int nu, .int f, .int e] ∧ DeskAt cs H os d n s ∧ n ≤ 100000 ∧ Done cs H os d n (desk s (.move u nu f e)) Q E
def sp_Desk_illegal (cs : Cs) (K : PySem.W.Frag) : Sp := fun vs H Q E => ∃ (d : Addr) (os : List Addr) (n : Nat) (s : Option M) (u : Int), vs = [.ref d, .int u] ∧ DeskAt cs H os d n s ∧ Done cs H os d n (desk s (.illegal u)) Q E
def sp_Desk_can (cs : Cs) (K : PySem.W.Frag) : Sp := fun vs H Q E => ∃ (d : Addr) (os : List Addr) (n : Nat) (s : Option M) (u y : Int), vs = [.ref d, .int u, .int y] ∧ DeskAt cs H os d n s ∧ Done cs H os d n (desk s (.can u y)) Q E
def sp_Desk_offer (cs : Cs) (K : PySem.W.Frag) : Sp := fun vs H Q E => ∃ (d : Addr) (os : List Addr) (n : Nat) (s : Option M) (u : Int), vs = [.ref d, .int u] ∧ DeskAt cs H os d n s ∧ Done cs H os d n (desk s (.offer u)) Q E
def sp_Desk_accept (cs : Cs) (K : PySem.W.Frag) : Sp := fun vs H Q E => ∃ (d : Addr) (os : List Addr) (n : Nat) (s : Option M) (u : Int), vs = [.ref d, .int u] ∧ DeskAt cs H os d n s ∧ Done cs H os d n (desk s (.accept u)) Q E
def sp_Desk_claim (cs : Cs) (K : PySem.W.Frag) : Sp := fun vs H Q E => ∃ (d : Addr) (os : List Addr) (n : Nat) (s : Option M) (u : Int), vs = [.ref d, .int u] ∧ DeskAt cs H os d n s ∧ Done cs H os d n (desk s (.claim u)) Q E
def sp_Desk_give (cs : Cs) (K : PySem.W.Frag) : Sp := fun vs H Q E => ∃ (d : Addr) (os : List Addr) (n : Nat) (s : Option M) (u : Int), vs = [.ref d, .int u] ∧ DeskAt cs H os d n s ∧ Done cs H os d n (desk s (.give u)) Q E
section
variable {P : Program} {w : World} {K : PySem.W.Frag} {mg : Str → Option Value} {base : Heap} {cs : Cs}
theorem ok_Refused_init (X : RTx K cs) (T : Txt K mg cs) : ROk P w K mg base cs := by
  obtain ⟨f, fd, F, a, b, c⟩ := X.ex
  refine ⟨f, fd, a, b, c, F.ok sc_Refused_init (fun vs H Q E h => ?_) (fun cdv A outer s H vs Q E hr h => ⟨_, pss_one (ps_ost (pv 0) (pv 1)), ?_⟩)⟩
  · obtain ⟨_, _, rfl, _⟩ := h
    rfl
  · obtain ⟨a, c, rfl, ha, k⟩ := h
    exact ⟨_, rfl, _, rfl, a, cs.R, rfl, T.oR, T.nR_code, .inl ⟨ha, k⟩⟩
theorem ok_want (X : FTx K mg "want" s_want ["truth", "code"]) (T : Txt K mg cs) (r_ : ROk P w K mg base cs) : FOk P w K mg base (L2.CX P w) 4 "want" ["truth", "code"] (sp_want cs K) := by
  obtain ⟨fI, fdI, iC, tI, bI, F1⟩ := r_.ex
  refine X.okX sc_want (fun vs H Q E h => ?_) (fun f cdv A outer s H vs Q E hr h => ⟨_, pss_one (ps_if (pt_not (pt_val (pv 0))) (pss_one (ps_raise rfl (takes_of rfl rfl rfl rfl) (pmk_oex T.oR iC tI F1 (hr.mono (by decide)) bI .nil pass0 rfl T.gR (by exact (pa_cons (pv 1) pa_nil))))) pss_nil), ?_⟩)
  · obtain ⟨_, _, rfl, _⟩ := h
    rfl
  · obtain ⟨b, c, rfl, k1, k2⟩ := h
    refine ⟨_, rfl, _, rfl, ?_⟩
    cases b with
    | true => exact ifF rfl (k1 rfl)
    | false =>
      refine ifT rfl ?_
      refine ⟨_, rfl, by simp, fun a na => ⟨a, c, rfl, upd_same, fun dx nd ne => ⟨rfl, dx, _, upd_same, (upd_ne ne).trans upd_same, ?_, ?_⟩⟩⟩
      · rw [upd_ne ne] at nd
        exact nd
      · have nd' : H dx = none := by
          rw [upd_ne ne] at nd
          exact nd
        refine k2 rfl _ dx (fun b o e => ?_) upd_same
        have ba : b ≠ a := ne_of_none e na
        have bd : b ≠ dx := ne_of_none e nd'
        rw [upd_ne bd, del_ne ba, upd_ne ba, upd_ne bd, upd_ne ba]
        exact e
theorem ok_want_within (X : FTx K mg "want_within" s_want_within ["number", "most"]) (T : Txt K mg cs) (f_want : FOk P w K mg base (L2.CX P w) 4 "want" ["truth", "code"] (sp_want cs K)) : FOk P w K mg base (L2.CX P w) 5 "want_within" ["number", "most"] (sp_want_within cs K) := by
  refine X.okX sc_want_within (fun vs H Q E h => ?_) (fun f cdv A outer s H vs Q E hr h => ⟨_, (pss_one (ps_expr (pe_callF f_want hr (by decide) rfl passX (pa_cons (pe_chain op_le op_le pe_int (pv 0) (pv 1)) (pa_cons (pe_gi T.BAD) pa_nil))))), ?_⟩)
  · obtain ⟨_, _, rfl, _⟩ := h
    rfl
  · obtain ⟨n, most, rfl, k1, k2⟩ := h
    exact chain_leV (i := 0) (j := 1) rfl rfl ⟨inn n most, -1, rfl, k1, k2⟩
theorem ok_Desk_init (X : CTx K mg "Desk" cs.D "Desk.__init__" s_Desk_init ["self"]) (T : Txt K mg cs) : COk P w K mg base 1 "Desk" cs.D ["self"] (sp_Desk_init cs K) := by
  refine X.ok sc_Desk_init (fun vs H Q E h => ?_) (fun f cdv A outer s H vs Q E hr h => ⟨_, (pss_one (ps_fld (pv 0) pe_non rfl)), ?_⟩)
  · obtain ⟨_, _, rfl, _⟩ := h
    rfl
  · obtain ⟨x, dx, rfl, hx, k⟩ := h
    refine ⟨_, rfl, x, cs.D, dx, [], rfl, hx, T.cD, T.nD_match, few, ?_⟩
    exact k _ (Eq.trans upd_same (congrArg (fun z => some (HO.ins cs.D dx z)) dF_new)) fun b o e hb => (upd_ne hb).trans e
theorem ok_Desk_game (X : MTx K cs.D "game" "Desk.game" s_Desk_game ["self"]) (T : Txt K mg cs) (f_want : FOk P w K mg base (L2.CX P w) 4 "want" ["truth", "code"] (sp_want cs K)) : MOk P w K mg base (L2.CX P w) 5 cs.D "game" ["self"] (sp_Desk_game cs K) := by
  refine X.okX sc_Desk_game (fun vs H Q E h => ?_) (fun f cdv A outer s H vs Q E hr h => ⟨_, (pss_cons (ps_expr (pe_callF f_want hr (by decide) rfl passX (pa_cons (pe_cmpR op_notN (pe_fld (pv 0) rfl) pe_non (nomark _)) (pa_cons (pe_gi T.NO_GAME) pa_nil))))
      (pss_one (ps_ret (pe_fld (pv 0) rfl)))), ?_⟩)
  · obtain ⟨_, _, _, rfl, _⟩ := h
    rfl
  · obtain ⟨d, dd, v, rfl, hd, k1, k2⟩ := h
    refine ⟨_, rfl, d, cs.D, dd, _, _, rfl, hd, T.cD, T.nD_match, dF_match, rfl, _, -2, rfl, fun c => ?_, fun c => ?_⟩
    · refine ⟨_, rfl, d, cs.D, dd, _, _, rfl, hd, T.cD, T.nD_match, dF_match, k2 fun z => ?_⟩
      rw [z] at c
      simp at c
    · exact k1 (by simpa using c)
theorem ok_Desk_going (X : MTx K cs.D "going" "Desk.going" s_Desk_going ["self"]) (T : Txt K mg cs) (f_want : FOk P w K mg base (L2.CX P w) 4 "want" ["truth", "code"] (sp_want cs K)) (m_Match_is_over : MOk P w K mg base CX0 1 cs.M "is_over" ["self"] (sp_Match_is_over cs K)) (m_Desk_game : MOk P w K mg base (L2.CX P w) 5 cs.D "game" ["self"] (sp_Desk_game cs K)) : MOk P w K mg base (L2.CX P w) 6 cs.D "going" ["self"] (sp_Desk_going cs K) := by
  refine X.okX sc_Desk_going (fun vs H Q E h => ?_) (fun f cdv A outer s H vs Q E hr h => ⟨_, (pss_cons (ps_expr (pe_callF f_want hr (by decide) rfl passX (pa_cons (pe_not (pe_methM0 (pe_methM0 (pv 0) T.cD m_Desk_game hr (by decide) passX) T.cM m_Match_is_over hr (by decide) pass0)) (pa_cons (pe_gi T.NO_GAME) pa_nil))))
      (pss_one (ps_ret (pe_fld (pv 0) rfl)))), ?_⟩)
  · obtain ⟨_, _, _, rfl, _⟩ := h
    rfl
  · obtain ⟨d, dd, v, rfl, hd, k⟩ := h
    refine ⟨_, rfl, d, dd, _, rfl, hd, dF_no_game, d, dd, v, rfl, hd, fun z => ?_, fun z => ?_⟩
    · rcases k with ⟨_, k⟩ | ⟨A, g, rfl, _⟩
      · exact k
      · cases z
    · rcases k with ⟨z', _⟩ | ⟨A, g, rfl, h, k1, k2⟩
      · exact absurd z' z
      · refine ⟨A.a, A.dx, _, rfl, h.hM, mF_no_is_over, A, g, rfl, h, _, rfl, _, -2, rfl, fun c => ?_, fun c => ?_⟩
        · exact ⟨_, rfl, d, cs.D, dd, _, _, rfl, hd, T.cD, T.nD_match, dF_match, k2 (by simpa using c)⟩
        · exact k1 (by simpa using c)
end
end Ck

namespace Ck
open PySem PySem.Spec PyProof.Rows L2
theorem inn_iff {n most : Int} : inn n most = true ↔ 0 ≤ n ∧ n ≤ most := by
  unfold inn
  rw [Bool.and_eq_true, decide_eq_true_iff, decide_eq_true_iff]
theorem inn_one {n : Int} (h : inn n 1 = true) : n = 0 ∨ n = 1 := by
  have := inn_iff.mp h
  omega
theorem no1 {a : Bool} {b : Prop} (h : a = false) : ¬ (a = true ∧ b) := fun z => by
  rw [h] at z
  exact absurd z.1 (by decide)
theorem no2 {a b : Bool} {c : Prop} (h : b = false) : ¬ (a = true ∧ b = true ∧ c) := fun z => by
  rw [h] at z
  exact absurd z.2.1 (by decide)
theorem no3 {a b c : Bool} {e : Prop} (h : c = false) : ¬ (a = true ∧ b = true ∧ c = true ∧ e) := fun z => by
  rw [h] at z
  exact absurd z.2.2.1 (by decide)
theorem no4 {a b c e : Bool} (h : e = false) : ¬ (a = true ∧ b = true ∧ c = true ∧ e = true) := fun z => by
  rw [h] at z
  exact absurd z.2.2.2 (by decide)
theorem no22 {a b : Bool} (h : b = false) : ¬ (a = true ∧ b = true) := fun z => by
  rw [h] at z
  exact absurd z.2 (by decide)
theorem no11 {a : Bool} (h : a = false) : ¬ a = true := fun z => by
  rw [h] at z
  exact absurd z (by decide)
section
variable {P : Program} {w : World} {K : PySem.W.Frag} {mg : Str → Option Value} {base : Heap} {cs : Cs}
theorem ok_Desk_move (X : MTx K cs.D "move" "Desk.move" s_Desk_move ["self", "used", "number", "fresh", "ends"]) (T : Txt K mg cs) (f_want_within : FOk P w K mg base (L2.CX P w) 5 "want_within" ["number", "most"] (sp_want_within cs K)) (m_Desk_going : MOk P w K mg base (L2.CX P w) 6 cs.D "going" ["self"] (sp_Desk_going cs K)) (m_Match_move : MOk P w K mg base CX0 4 cs.M "move" ["self", "used", "number", "is_fresh", "ends"] (sp_Match_move cs K)) (m_Match_stands : MOk P w K mg base CX0 2 cs.M "stands" ["self"] (sp_Match_stands cs K)) : MOk P w K mg base (L2.CX P w) 7 cs.D "move" ["self", "used", "number", "fresh", "ends"] (sp_Desk_move cs K) := by
  refine X.okX sc_Desk_move (fun vs H Q E h => ?_) (fun f cdv B outer s H vs Q E hr h => ⟨_, (pss_cons (ps_expr (pe_callF f_want_within hr (by decide) rfl passX (pa_cons (pv 1) (pa_cons (pe_gi T.MOST_USED) pa_nil))))
      (pss_cons (ps_expr (pe_callF f_want_within hr (by decide) rfl passX (pa_cons (pv 2) (pa_cons (pe_gi T.MOST_NUMBER) pa_nil))))
      (pss_cons (ps_expr (pe_callF f_want_within hr (by decide) rfl passX (pa_cons (pv 3) (pa_cons pe_int pa_nil))))
      (pss_cons (ps_expr (pe_callF f_want_within hr (by decide) rfl passX (pa_cons (pv 4) (pa_cons (pe_gi T.MOST_ENDS) pa_nil))))
      (pss_cons (ps_set (i := 5) sc_Desk_move.nd rfl (Or.inl rfl) (pe_methM0 (pv 0) T.cD m_Desk_going hr (by decide) passX))
      (pss_cons (ps_expr (pe_methM (pv 5) T.cM m_Match_move hr (by decide) pass0 (pa_cons (pv 1) (pa_cons (pv 2) (pa_cons (pe_cmpR op_eq (pv 3) pe_int (nomark _)) (pa_cons (pv 4) pa_nil))))))
      (pss_one (ps_ret (pe_methM0 (pv 5) T.cM m_Match_stands hr (by decide) pass0))))))))), ?_⟩)
  · obtain ⟨_, _, _, _, _, _, _, _, rfl, _⟩ := h
    rfl
  · obtain ⟨d, os, n, s, u, nu, f, e, rfl, hD, hn, D⟩ := h
    refine ⟨_, rfl, u, _, rfl, fun c1 => ?_, fun c1 => D.no _ (if_neg (no1 c1))⟩
    refine ⟨_, rfl, nu, _, rfl, fun c2 => ?_, fun c2 => D.no _ (if_neg (no2 c2))⟩
    refine ⟨_, rfl, f, _, rfl, fun c3 => ?_, fun c3 => D.no _ (if_neg (no3 c3))⟩
    refine ⟨_, rfl, e, _, rfl, fun c4 => ?_, fun c4 => D.no _ (if_neg (no4 c4))⟩
    have er : desk s (.move u nu f e) = onM s fun m => told1 (m.move u nu (decide (f = 1)) e) := if_pos ⟨c1, c2, c3, c4⟩
    cases s with
    | none =>
      obtain ⟨rfl, dd, hd⟩ := hD
      exact ⟨_, rfl, d, dd, _, rfl, hd, dF_no_going, d, dd, .non, rfl, hd, .inl ⟨rfl, D.no _ er⟩⟩
    | some g =>
      obtain ⟨A, dd, rfl, hd, h, nd, fit, len⟩ := hD
      refine ⟨_, rfl, d, dd, _, rfl, hd, dF_no_going, d, dd, _, rfl, hd, .inr ⟨A, g, rfl, h, fun ho => D.no _ (er.trans (if_pos ho)), fun ho => ?_⟩⟩
      have er2 := er.trans (if_neg (by rw [ho]; decide))
      have sz1 : g.stood.length < sizeLine := by
        have := sizeLine_eq
        omega
      refine ⟨_, rfl, A.a, A.dx, _, rfl, h.hM, mF_no_move, _, rfl, _, rfl, _, rfl, rfl, _, rfl, A, g, u, nu, e, _, rfl, h, fit.side, sz1, fun H1 st hst h1 kp => ?_⟩
      rw [decV] at h1
      have fm := fit_move fit u nu (decide (f = 1)) e len
      exact ⟨_, rfl, A.a, A.dx, _, rfl, h1.hM, mF_no_stands, { A with st := st }, _, rfl, h1, fun H2 q s2 nq hq => D.tell er2 hd nd hst h1 kp s2 nq hq fm.1 fm.2⟩
theorem ok_Desk_illegal (X : MTx K cs.D "illegal" "Desk.illegal" s_Desk_illegal ["self", "used"]) (T : Txt K mg cs) (f_want_within : FOk P w K mg base (L2.CX P w) 5 "want_within" ["number", "most"] (sp_want_within cs K)) (m_Desk_going : MOk P w K mg base (L2.CX P w) 6 cs.D "going" ["self"] (sp_Desk_going cs K)) (m_Match_illegal : MOk P w K mg base CX0 4 cs.M "illegal" ["self", "used"] (sp_Match_illegal cs K)) (m_Match_stands : MOk P w K mg base CX0 2 cs.M "stands" ["self"] (sp_Match_stands cs K)) : MOk P w K mg base (L2.CX P w) 7 cs.D "illegal" ["self", "used"] (sp_Desk_illegal cs K) := by
  refine X.okX sc_Desk_illegal (fun vs H Q E h => ?_) (fun f cdv B outer s H vs Q E hr h => ⟨_, (pss_cons (ps_expr (pe_callF f_want_within hr (by decide) rfl passX (pa_cons (pv 1) (pa_cons (pe_gi T.MOST_USED) pa_nil))))
      (pss_cons (ps_set (i := 2) sc_Desk_illegal.nd rfl (Or.inl rfl) (pe_methM0 (pv 0) T.cD m_Desk_going hr (by decide) passX))
      (pss_cons (ps_expr (pe_methM (pv 2) T.cM m_Match_illegal hr (by decide) pass0 (pa_cons (pv 1) pa_nil)))
      (pss_one (ps_ret (pe_methM0 (pv 2) T.cM m_Match_stands hr (by decide) pass0)))))), ?_⟩)
  · obtain ⟨_, _, _, _, _, rfl, _⟩ := h
    rfl
  · obtain ⟨d, os, n, s, u, rfl, hD, D⟩ := h
    refine ⟨_, rfl, u, _, rfl, fun c1 => ?_, fun c1 => D.no _ (if_neg (no11 c1))⟩
    have er : desk s (.illegal u) = onM s fun m => told1 (m.illegal u) := if_pos c1
    cases s with
    | none =>
      obtain ⟨rfl, dd, hd⟩ := hD
      exact ⟨_, rfl, d, dd, _, rfl, hd, dF_no_going, d, dd, .non, rfl, hd, .inl ⟨rfl, D.no _ er⟩⟩
    | some g =>
      obtain ⟨A, dd, rfl, hd, h, nd, fit, len⟩ := hD
      refine ⟨_, rfl, d, dd, _, rfl, hd, dF_no_going, d, dd, _, rfl, hd, .inr ⟨A, g, rfl, h, fun ho => D.no _ (er.trans (if_pos ho)), fun ho => ?_⟩⟩
      have er2 := er.trans (if_neg (by rw [ho]; decide))
      refine ⟨_, rfl, A.a, A.dx, _, rfl, h.hM, mF_no_illegal, _, rfl, A, g, u, rfl, h, fit.side, fun H1 h1 kp => ?_⟩
      have al := alike_illegal g u
      exact ⟨_, rfl, A.a, A.dx, _, rfl, h1.hM, mF_no_stands, A, _, rfl, h1, fun H2 q s2 nq hq => D.tell (st := A.st) er2 hd nd (.inl rfl) h1 kp s2 nq hq (al.fit fit) (al.len len)⟩
theorem ok_Desk_can (X : MTx K cs.D "can" "Desk.can" s_Desk_can ["self", "side", "could"]) (T : Txt K mg cs) (f_want_within : FOk P w K mg base (L2.CX P w) 5 "want_within" ["number", "most"] (sp_want_within cs K)) (m_Desk_going : MOk P w K mg base (L2.CX P w) 6 cs.D "going" ["self"] (sp_Desk_going cs K)) : MOk P w K mg base (L2.CX P w) 7 cs.D "can" ["self", "side", "could"] (sp_Desk_can cs K) := by
  refine X.okX sc_Desk_can (fun vs H Q E h => ?_) (fun f cdv B outer s H vs Q E hr h => ⟨_, (pss_cons (ps_expr (pe_callF f_want_within hr (by decide) rfl passX (pa_cons (pv 1) (pa_cons pe_int pa_nil))))
      (pss_cons (ps_expr (pe_callF f_want_within hr (by decide) rfl passX (pa_cons (pv 2) (pa_cons pe_int pa_nil))))
      (pss_cons (ps_asg (pv 2) (pg_sub (pe_fld (pe_methM0 (pv 0) T.cD m_Desk_going hr (by decide) passX) rfl) (pv 1) set_list))
      (pss_one (ps_ret (pe_lst (pa_cons pe_int pa_nil))))))), ?_⟩)
  · obtain ⟨_, _, _, _, _, _, rfl, _⟩ := h
    rfl
  · obtain ⟨d, os, n, s, u, y, rfl, hD, D⟩ := h
    refine ⟨_, rfl, u, _, rfl, fun c1 => ?_, fun c1 => D.no _ (if_neg (no1 c1))⟩
    refine ⟨_, rfl, y, _, rfl, fun c2 => ?_, fun c2 => D.no _ (if_neg (no22 c2))⟩
    have er : desk s (.can u y) = onM s fun m => .ok (some { m with u := put m.u u y }, [0]) := if_pos ⟨c1, c2⟩
    cases s with
    | none =>
      obtain ⟨rfl, dd, hd⟩ := hD
      exact ⟨_, rfl, _, rfl, d, dd, _, rfl, hd, dF_no_going, d, dd, .non, rfl, hd, .inl ⟨rfl, D.no _ er⟩⟩
    | some g =>
      obtain ⟨A, dd, rfl, hd, h, nd, fit, len⟩ := hD
      refine ⟨_, rfl, _, rfl, d, dd, _, rfl, hd, dF_no_going, d, dd, _, rfl, hd, .inr ⟨A, g, rfl, h, fun ho => D.no _ (er.trans (if_pos ho)), fun ho => ?_⟩⟩
      have er2 := er.trans (if_neg (by rw [ho]; decide))
      refine ⟨A.a, cs.M, A.dx, _, _, rfl, h.hM, T.cM, T.nM_could, mF_could, _, rfl, A.u, _, _, _, rfl, rfl, h.hu, ix2 (inn_one c1), ?_⟩
      have h1 := h.putU (inn_one c1) y
      exact ⟨sz, fun q nq => D.tell (st := A.st) er2 hd nd (.inl rfl) h1 (Keep.upd inU) (Same.new nq) nq upd_same ⟨fit.side, fit.str, fit.stood⟩ (Nat.le_succ_of_le len)⟩
theorem ok_Desk_offer (X : MTx K cs.D "offer" "Desk.offer" s_Desk_offer ["self", "side"]) (T : Txt K mg cs) (f_want_within : FOk P w K mg base (L2.CX P w) 5 "want_within" ["number", "most"] (sp_want_within cs K)) (m_Desk_going : MOk P w K mg base (L2.CX P w) 6 cs.D "going" ["self"] (sp_Desk_going cs K)) (f_want : FOk P w K mg base (L2.CX P w) 4 "want" ["truth", "code"] (sp_want cs K)) : MOk P w K mg base (L2.CX P w) 7 cs.D "offer" ["self", "side"] (sp_Desk_offer cs K) := by
  refine X.okX sc_Desk_offer (fun vs H Q E h => ?_) (fun f cdv B outer s H vs Q E hr h => ⟨_, (pss_cons (ps_expr (pe_callF f_want_within hr (by decide) rfl passX (pa_cons (pv 1) (pa_cons pe_int pa_nil))))
      (pss_cons (ps_set (i := 2) sc_Desk_offer.nd rfl (Or.inl rfl) (pe_methM0 (pv 0) T.cD m_Desk_going hr (by decide) passX))
      (pss_cons (ps_expr (pe_callF f_want hr (by decide) rfl passX (pa_cons (pe_cmpR op_eq (pe_fld (pv 2) rfl) (pe_gi T.NOBODY) (nomark _)) (pa_cons (pe_gi T.NOT_OFFERED) pa_nil))))
      (pss_cons (ps_fld (pv 2) (pv 1) rfl)
      (pss_one (ps_ret (pe_lst (pa_cons pe_int pa_nil)))))))), ?_⟩)
  · obtain ⟨_, _, _, _, _, rfl, _⟩ := h
    rfl
  · obtain ⟨d, os, n, s, u, rfl, hD, D⟩ := h
    refine ⟨_, rfl, u, _, rfl, fun c1 => ?_, fun c1 => D.no _ (if_neg (no11 c1))⟩
    have er : desk s (.offer u) = onM s fun m => if m.offers = -1 then .ok (some { m with offers := u }, [0]) else .error (-4) := if_pos c1
    cases s with
    | none =>
      obtain ⟨rfl, dd, hd⟩ := hD
      exact ⟨_, rfl, d, dd, _, rfl, hd, dF_no_going, d, dd, .non, rfl, hd, .inl ⟨rfl, D.no _ er⟩⟩
    | some g =>
      obtain ⟨A, dd, rfl, hd, h, nd, fit, len⟩ := hD
      refine ⟨_, rfl, d, dd, _, rfl, hd, dF_no_going, d, dd, _, rfl, hd, .inr ⟨A, g, rfl, h, fun ho => D.no _ (er.trans (if_pos ho)), fun ho => ?_⟩⟩
      have er2 := er.trans (if_neg (by rw [ho]; decide))
      refine ⟨_, rfl, A.a, cs.M, A.dx, _, _, rfl, h.hM, T.cM, T.nM_offers, mF_offers, rfl, _, -4, rfl, fun c => ?_, fun c => ?_⟩
      · rw [decV, decide_eq_true_iff] at c
        refine ⟨_, rfl, _, rfl, A.a, cs.M, A.dx, _, rfl, h.hM, T.cM, T.nM_offers, few, ?_⟩
        have h1 := h.putOffers u
        exact ⟨sz, fun q nq => D.tell (st := A.st) (er2.trans (if_pos c)) hd nd (.inl rfl) h1 (Keep.upd inA) (Same.new nq) nq upd_same ⟨fit.side, fit.str, fit.stood⟩ (Nat.le_succ_of_le len)⟩
      · rw [decV, decide_eq_false_iff_not] at c
        exact D.no _ (er2.trans (if_neg c))
theorem ok_Desk_accept (X : MTx K cs.D "accept" "Desk.accept" s_Desk_accept ["self", "side"]) (T : Txt K mg cs) (f_want_within : FOk P w K mg base (L2.CX P w) 5 "want_within" ["number", "most"] (sp_want_within cs K)) (m_Desk_going : MOk P w K mg base (L2.CX P w) 6 cs.D "going" ["self"] (sp_Desk_going cs K)) (f_want : FOk P w K mg base (L2.CX P w) 4 "want" ["truth", "code"] (sp_want cs K)) (m_Match_end : MOk P w K mg base CX0 1 cs.M "end" ["self", "winner", "why"] (sp_Match_end cs K)) (m_Match_stands : MOk P w K mg base CX0 2 cs.M "stands" ["self"] (sp_Match_stands cs K)) : MOk P w K mg base (L2.CX P w) 7 cs.D "accept" ["self", "side"] (sp_Desk_accept cs K) := by
  refine X.okX sc_Desk_accept (fun vs H Q E h => ?_) (fun f cdv B outer s H vs Q E hr h => ⟨_, (pss_cons (ps_expr (pe_callF f_want_within hr (by decide) rfl passX (pa_cons (pv 1) (pa_cons pe_int pa_nil))))
      (pss_cons (ps_set (i := 2) sc_Desk_accept.nd rfl (Or.inl rfl) (pe_methM0 (pv 0) T.cD m_Desk_going hr (by decide) passX))
      (pss_cons (ps_expr (pe_callF f_want hr (by decide) rfl passX (pa_cons (pe_cmpR op_eq (pe_fld (pv 2) rfl) (pe_op op_sub pe_int (pv 1)) (nomark _)) (pa_cons (pe_gi T.NOT_OFFERED) pa_nil))))
      (pss_cons (ps_expr (pe_methM (pv 2) T.cM m_Match_end hr (by decide) pass0 (pa_cons (pe_gi T.DRAWN) (pa_cons (pe_gi T.AGREED) pa_nil))))
      (pss_one (ps_ret (pe_methM0 (pv 2) T.cM m_Match_stands hr (by decide) pass0))))))), ?_⟩)
  · obtain ⟨_, _, _, _, _, rfl, _⟩ := h
    rfl
  · obtain ⟨d, os, n, s, u, rfl, hD, D⟩ := h
    refine ⟨_, rfl, u, _, rfl, fun c1 => ?_, fun c1 => D.no _ (if_neg (no11 c1))⟩
    have er : desk s (.accept u) = onM s fun m => if m.offers = 1 - u then told1 (m.fin 2 4) else .error (-4) := if_pos c1
    cases s with
    | none =>
      obtain ⟨rfl, dd, hd⟩ := hD
      exact ⟨_, rfl, d, dd, _, rfl, hd, dF_no_going, d, dd, .non, rfl, hd, .inl ⟨rfl, D.no _ er⟩⟩
    | some g =>
      obtain ⟨A, dd, rfl, hd, h, nd, fit, len⟩ := hD
      refine ⟨_, rfl, d, dd, _, rfl, hd, dF_no_going, d, dd, _, rfl, hd, .inr ⟨A, g, rfl, h, fun ho => D.no _ (er.trans (if_pos ho)), fun ho => ?_⟩⟩
      have er2 := er.trans (if_neg (by rw [ho]; decide))
      refine ⟨_, rfl, A.a, cs.M, A.dx, _, _, rfl, h.hM, T.cM, T.nM_offers, mF_offers, _, rfl, _, _, rfl, rfl, rfl, _, -4, rfl, fun c => ?_, fun c => ?_⟩
      · rw [decV, decide_eq_true_iff] at c
        refine ⟨_, rfl, A.a, A.dx, _, rfl, h.hM, mF_no_end, A, g, _, _, rfl, h, fun H1 h1 kp => ?_⟩
        exact ⟨_, rfl, A.a, A.dx, _, rfl, h1.hM, mF_no_stands, A, _, rfl, h1, fun H2 q s2 nq hq => D.tell (st := A.st) (er2.trans (if_pos c)) hd nd (.inl rfl) h1 kp s2 nq hq ⟨fit.side, fit.str, fit.stood⟩ (Nat.le_succ_of_le len)⟩
      · rw [decV, decide_eq_false_iff_not] at c
        exact D.no _ (er2.trans (if_neg c))
theorem ok_Desk_claim (X : MTx K cs.D "claim" "Desk.claim" s_Desk_claim ["self", "claim"]) (T : Txt K mg cs) (f_want_within : FOk P w K mg base (L2.CX P w) 5 "want_within" ["number", "most"] (sp_want_within cs K)) (m_Desk_going : MOk P w K mg base (L2.CX P w) 6 cs.D "going" ["self"] (sp_Desk_going cs K)) (m_Match_claim : MOk P w K mg base CX0 3 cs.M "claim" ["self", "claim"] (sp_Match_claim cs K)) (m_Match_stands : MOk P w K mg base CX0 2 cs.M "stands" ["self"] (sp_Match_stands cs K)) : MOk P w K mg base (L2.CX P w) 7 cs.D "claim" ["self", "claim"] (sp_Desk_claim cs K) := by
  refine X.okX sc_Desk_claim (fun vs H Q E h => ?_) (fun f cdv B outer s H vs Q E hr h => ⟨_, (pss_cons (ps_expr (pe_callF f_want_within hr (by decide) rfl passX (pa_cons (pv 1) (pa_cons pe_int pa_nil))))
      (pss_cons (ps_set (i := 2) sc_Desk_claim.nd rfl (Or.inl rfl) (pe_methM0 (pv 0) T.cD m_Desk_going hr (by decide) passX))
      (pss_cons (ps_expr (pe_methM (pv 2) T.cM m_Match_claim hr (by decide) pass0 (pa_cons (pv 1) pa_nil)))
      (pss_one (ps_ret (pe_methM0 (pv 2) T.cM m_Match_stands hr (by decide) pass0)))))), ?_⟩)
  · obtain ⟨_, _, _, _, _, rfl, _⟩ := h
    rfl
  · obtain ⟨d, os, n, s, u, rfl, hD, D⟩ := h
    refine ⟨_, rfl, u, _, rfl, fun c1 => ?_, fun c1 => D.no _ (if_neg (no11 c1))⟩
    have er : desk s (.claim u) = onM s fun m => told1 (m.claim u) := if_pos c1
    cases s with
    | none =>
      obtain ⟨rfl, dd, hd⟩ := hD
      exact ⟨_, rfl, d, dd, _, rfl, hd, dF_no_going, d, dd, .non, rfl, hd, .inl ⟨rfl, D.no _ er⟩⟩
    | some g =>
      obtain ⟨A, dd, rfl, hd, h, nd, fit, len⟩ := hD
      refine ⟨_, rfl, d, dd, _, rfl, hd, dF_no_going, d, dd, _, rfl, hd, .inr ⟨A, g, rfl, h, fun ho => D.no _ (er.trans (if_pos ho)), fun ho => ?_⟩⟩
      have er2 := er.trans (if_neg (by rw [ho]; decide))
      refine ⟨_, rfl, A.a, A.dx, _, rfl, h.hM, mF_no_claim, _, rfl, A, g, u, rfl, h, fit.side, inn_one c1, fit.stood, fun H1 h1 kp => ?_⟩
      have al := alike_claim g u
      exact ⟨_, rfl, A.a, A.dx, _, rfl, h1.hM, mF_no_stands, A, _, rfl, h1, fun H2 q s2 nq hq => D.tell (st := A.st) er2 hd nd (.inl rfl) h1 kp s2 nq hq (al.fit fit) (al.len len)⟩
theorem ok_Desk_give (X : MTx K cs.D "give" "Desk.give" s_Desk_give ["self", "side"]) (T : Txt K mg cs) (f_want_within : FOk P w K mg base (L2.CX P w) 5 "want_within" ["number", "most"] (sp_want_within cs K)) (m_Desk_going : MOk P w K mg base (L2.CX P w) 6 cs.D "going" ["self"] (sp_Desk_going cs K)) (m_Match_lose : MOk P w K mg base CX0 2 cs.M "lose" ["self", "side", "why"] (sp_Match_lose cs K)) (m_Match_stands : MOk P w K mg base CX0 2 cs.M "stands" ["self"] (sp_Match_stands cs K)) : MOk P w K mg base (L2.CX P w) 7 cs.D "give" ["self", "side"] (sp_Desk_give cs K) := by
  refine X.okX sc_Desk_give (fun vs H Q E h => ?_) (fun f cdv B outer s H vs Q E hr h => ⟨_, (pss_cons (ps_expr (pe_callF f_want_within hr (by decide) rfl passX (pa_cons (pv 1) (pa_cons pe_int pa_nil))))
      (pss_cons (ps_set (i := 2) sc_Desk_give.nd rfl (Or.inl rfl) (pe_methM0 (pv 0) T.cD m_Desk_going hr (by decide) passX))
      (pss_cons (ps_expr (pe_methM (pv 2) T.cM m_Match_lose hr (by decide) pass0 (pa_cons (pv 1) (pa_cons (pe_gi T.GAVE_UP) pa_nil))))
      (pss_one (ps_ret (pe_methM0 (pv 2) T.cM m_Match_stands hr (by decide) pass0)))))), ?_⟩)
  · obtain ⟨_, _, _, _, _, rfl, _⟩ := h
    rfl
  · obtain ⟨d, os, n, s, u, rfl, hD, D⟩ := h
    refine ⟨_, rfl, u, _, rfl, fun c1 => ?_, fun c1 => D.no _ (if_neg (no11 c1))⟩
    have er : desk s (.give u) = onM s fun m => told1 (m.lose u 1) := if_pos c1
    cases s with
    | none =>
      obtain ⟨rfl, dd, hd⟩ := hD
      exact ⟨_, rfl, d, dd, _, rfl, hd, dF_no_going, d, dd, .non, rfl, hd, .inl ⟨rfl, D.no _ er⟩⟩
    | some g =>
      obtain ⟨A, dd, rfl, hd, h, nd, fit, len⟩ := hD
      refine ⟨_, rfl, d, dd, _, rfl, hd, dF_no_going, d, dd, _, rfl, hd, .inr ⟨A, g, rfl, h, fun ho => D.no _ (er.trans (if_pos ho)), fun ho => ?_⟩⟩
      have er2 := er.trans (if_neg (by rw [ho]; decide))
      refine ⟨_, rfl, A.a, A.dx, _, rfl, h.hM, mF_no_lose, _, rfl, A, g, u, 1, rfl, h, inn_one c1, fun H1 h1 kp => ?_⟩
      have al := alike_lose g u 1
      exact ⟨_, rfl, A.a, A.dx, _, rfl, h1.hM, mF_no_stands, A, _, rfl, h1, fun H2 q s2 nq hq => D.tell (st := A.st) er2 hd nd (.inl rfl) h1 kp s2 nq hq (al.fit fit) (al.len len)⟩
theorem ok_Desk_begin (X : MTx K cs.D "begin" "Desk.begin" s_Desk_begin ["self", "mode", "extra", "number", "row"]) (T : Txt K mg cs) (f_want_within : FOk P w K mg base (L2.CX P w) 5 "want_within" ["number", "most"] (sp_want_within cs K)) (f_want : FOk P w K mg base (L2.CX P w) 4 "want" ["truth", "code"] (sp_want cs K)) (f_are_stretches : FOk P w K mg base CX0 2 "are_stretches" ["row"] (sp_are_stretches cs K)) (k_Match : COk P w K mg base 4 "Match" cs.M ["self", "times", "number"] (sp_Match_init cs K)) (k_Times : COk P w K mg base 1 "Times" cs.T ["self", "mode", "extra", "stretches"] (sp_Times_init cs K)) (f_pairs_of : FOk P w K mg base CX0 1 "pairs_of" ["row"] (sp_pairs_of cs K)) : MOk P w K mg base (L2.CX P w) 7 cs.D "begin" ["self", "mode", "extra", "number", "row"] (sp_Desk_begin cs K) := by
  refine X.okX sc_Desk_begin (fun vs H Q E h => ?_) (fun f cdv B outer s H vs Q E hr h => ⟨_, (pss_cons (ps_expr (pe_callF f_want_within hr (by decide) rfl passX (pa_cons (pv 1) (pa_cons (pe_gi T.MOST_MODE) pa_nil))))
      (pss_cons (ps_expr (pe_callF f_want_within hr (by decide) rfl passX (pa_cons (pv 2) (pa_cons (pe_gi T.MOST_EXTRA) pa_nil))))
      (pss_cons (ps_expr (pe_callF f_want_within hr (by decide) rfl passX (pa_cons (pv 3) (pa_cons (pe_gi T.MOST_NUMBER) pa_nil))))
      (pss_cons (ps_expr (pe_callF f_want hr (by decide) rfl passX (pa_cons (pe_callF f_are_stretches hr (by decide) rfl pass0 (pa_cons (pv 4) pa_nil)) (pa_cons (pe_gi T.BAD) pa_nil))))
      (pss_cons (ps_fld (pv 0) (pe_makeC k_Match hr (by decide) rfl (pa_cons (pe_makeC k_Times hr (by decide) rfl (pa_cons (pv 1) (pa_cons (pv 2) (pa_cons (pe_callF f_pairs_of hr (by decide) rfl pass0 (pa_cons (pv 4) pa_nil)) pa_nil)))) (pa_cons (pv 3) pa_nil))) rfl)
      (pss_one (ps_ret (pe_lst (pa_cons pe_int pa_nil))))))))), ?_⟩)
  · obtain ⟨_, _, _, _, _, _, _, _, _, rfl, _⟩ := h
    rfl
  · obtain ⟨d, r, os, n, s, mo, ex, nu, row, rfl, hs, hl, hD, D⟩ := h
    refine ⟨_, rfl, mo, _, rfl, fun c1 => ?_, fun c1 => D.no _ (if_neg (no1 c1))⟩
    refine ⟨_, rfl, ex, _, rfl, fun c2 => ?_, fun c2 => D.no _ (if_neg (no2 c2))⟩
    refine ⟨_, rfl, nu, _, rfl, fun c3 => ?_, fun c3 => D.no _ (if_neg (no3 c3))⟩
    refine ⟨_, rfl, r, row, rfl, hs, hl, fun H1 s1 => ?_⟩
    refine ⟨goodRow row, -1, rfl, fun c4 => ?_, fun c4 => (D.no _ (if_neg (no4 c4))).same s1⟩
    have er : desk s (.begin_ mo ex nu row) = .ok (some (M.fresh mo ex (pairsOf row) nu), [0]) := if_pos ⟨c1, c2, c3, c4⟩
    obtain ⟨hne, hev⟩ := good_pairs c4
    -- the desk itself
    obtain ⟨dd, v, hd⟩ : ∃ dd v, H d = some (.ins cs.D dd (dF v)) := by
      cases s with
      | none =>
        obtain ⟨_, dd, hd⟩ := hD
        exact ⟨dd, _, hd⟩
      | some g =>
        obtain ⟨A, dd, _, hd, _⟩ := hD
        exact ⟨dd, _, hd⟩
    have dos : d ∈ os := by
      cases s with
      | none =>
        obtain ⟨e, _⟩ := hD
        rw [e]
        exact .head _
      | some g =>
        obtain ⟨A, dd, e, _⟩ := hD
        rw [e]
        exact .head _
    refine ⟨_, rfl, _, rfl, _, rfl, r, row, rfl, s1.seq hs, hev, hl, fun H2 p s2 np hp => ?_⟩
    have s12 := s1.trans s2
    intro x dx nx nd ne
    have s3 : Same H2 (upd (upd H2 dx (.own x)) x (.ins cs.T dx [])) := fun b o e => by
      rw [upd_ne (ne_of_none e nx), upd_ne (ne_of_none e nd)]
      exact e
    refine ⟨x, dx, p, mo, ex, rfl, upd_same, fun H3 hx k3 => ⟨rfl, ?_⟩⟩
    have s4 : Same H2 H3 := fun b o e => k3 b o (s3 b o e) (ne_of_none e nx)
    have s14 := s12.trans s4
    have ht : TimesAt cs H3 x dx p mo ex (pairsOf row) := ⟨hx, hp.same s4⟩
    refine ⟨_, rfl, ?_⟩
    intro y dy ny ndy ney
    have s5 : Same H3 (upd (upd H3 dy (.own y)) y (.ins cs.M dy [])) := fun b o e => by
      rw [upd_ne (ne_of_none e ny), upd_ne (ne_of_none e ndy)]
      exact e
    refine ⟨y, dy, x, dx, p, mo, ex, nu, _, rfl, upd_same, same_times s5 ht, hne, fun H4 A ea et es fr h4 k4 => ⟨rfl, ?_⟩⟩
    have s6 : Same H3 H4 := fun b o e => k4 b o (s5 b o e) (ne_of_none e ny)
    have s16 := s14.trans s6
    refine ⟨_, rfl, d, cs.D, dd, _, rfl, s16 _ _ hd, T.cD, T.nD_match, few, ?_⟩
    have nyH : H y = none := s14.free ny
    have frH : ∀ b ∈ A.cells, H b = none := fun b hb => by
      have z' : b = A.a ∨ b ∈ [A.p, A.st, A.c, A.m, A.w, A.u] := List.mem_cons.mp hb
      rcases z' with z | z
      · rw [z, ea]
        exact nyH
      · exact (s14.trans s5).free (fr b z)
    have ndA : ∀ b ∈ A.cells, d ≠ b := fun b hb z => by
      rw [z, frH b hb] at hd
      cases hd
    have h5 : At cs (upd H4 d (.ins cs.D dd (dF (.ref A.a)))) A (M.fresh mo ex (pairsOf row) nu) := by
      have tk : TupKeep H4 (upd H4 d (.ins cs.D dd (dF (.ref A.a)))) := TupKeep.ins (s16 _ _ hd)
      have dt : d ≠ A.t := fun z => by
        rw [et] at z
        rw [z, s12.free nx] at hd
        cases hd
      have ds : d ≠ A.s := fun z => by
        rw [es] at z
        rw [z, s1.free np] at hd
        cases hd
      exact ⟨(upd_ne (ndA _ inA).symm).trans h4.hM, ⟨(upd_ne dt.symm).trans h4.hT.T, h4.hT.S.keep (upd_ne ds.symm) tk⟩, ⟨(upd_ne (ndA _ inP).symm).trans h4.hP.P, h4.hP.S.keep (upd_ne (ndA _ inSt).symm) tk⟩,
        (upd_ne (ndA _ inC).symm).trans h4.hc, (upd_ne (ndA _ inM).symm).trans h4.hm, (upd_ne (ndA _ inW).symm).trans h4.hw, (upd_ne (ndA _ inU).symm).trans h4.hu, h4.ap⟩
    rw [dF_put_match, ← ea]
    refine ⟨sz, fun q nq => ?_⟩
    have s7 : Same (upd H4 d (.ins cs.D dd (dF (.ref A.a)))) (upd (upd H4 d (.ins cs.D dd (dF (.ref A.a)))) q (.lst [.int 0])) := Same.new nq
    refine D.yes _ _ er _ (d :: A.cells) q ⟨A, dd, rfl, s7 _ _ upd_same, Same.at s7 h5, ?_, fit_fresh _ _ _ hne, ?_⟩ ⟨fun b hb => ?_, fun b o e hb => ?_⟩ (.inl ?_) upd_same
    · intro z
      rcases List.mem_cons.mp z with z | z
      · rw [et] at z
        rw [z, s12.free nx] at hd
        cases hd
      rcases List.mem_cons.mp z with z | z
      · rw [es] at z
        rw [z, s1.free np] at hd
        cases hd
      · exact ndA d z rfl
    · show ([(nu, 0)] : List P2).length ≤ n + 1
      simp
    · rcases List.mem_cons.mp hb with z | z
      · exact .inl (z ▸ dos)
      · exact .inr (frH b z)
    · refine s7 _ _ ?_
      rw [upd_ne (fun z => hb (by rw [z]; exact dos))]
      exact s16 _ _ e
    · have qd : q ≠ d := (ne_of_none upd_same nq).symm
      rw [upd_ne qd] at nq
      exact s16.free nq
end
end Ck

namespace Ck
open PySem PySem.Spec PyProof.Rows L2
def sp_Desk_told (cs : Cs) (K : PySem.W.Frag) : Sp := fun vs H Q E => ∃ (d a : Addr) (os : List Addr) (n : Nat) (s : Option M) (c : Kg69.Call), vs = [.ref d, .int (kind c), .ref a] ∧ SqL K H a ((nums c).map V.int) ∧ kind c ≠ 1 ∧ DeskAt cs H os d n s ∧ n ≤ 100000 ∧ Done cs H os d n (desk s c) Q E
def sp_Desk_answer (cs : Cs) (K : PySem.W.Frag) : Sp := fun vs H Q _ => ∃ (d a r : Addr) (os : List Addr) (n : Nat) (s : Option M) (c : Kg69.Call), vs = [.ref d, .int (kind c), .ref a, .ref r] ∧ SqL K H a ((nums c).map V.int) ∧ SqL K H r ((rowOf c).map V.int) ∧ (rowOf c).length ≤ 10000 ∧
  DeskAt cs H os d n s ∧ n ≤ 100000 ∧ ∀ (H' : Hp) (os' : List Addr) (q : Addr), DeskAt cs H' os' d (n + 1) (next s c) → Own H os os' H' → (H q = none ∨ q ∈ os) → H' q = some (.lst ((outOf s c).map V.int)) → Q (.ref q) H'
theorem DeskAt.same {cs : Cs} {H H' : Hp} {os : List Addr} {d : Addr} {n : Nat} : ∀ {s : Option M}, DeskAt cs H os d n s → Same H H' → DeskAt cs H' os d (n + 1) s
  | none, ⟨e, dd, hd⟩, sm => ⟨e, dd, sm _ _ hd⟩
  | some g, ⟨A, dd, e, hd, h, nd, fit, len⟩, sm => ⟨A, dd, e, sm _ _ hd, Same.at sm h, nd, fit, Nat.le_succ_of_le len⟩
theorem DeskAt.obj {cs : Cs} {H : Hp} {os : List Addr} {d : Addr} {n : Nat} : ∀ {s : Option M}, DeskAt cs H os d n s → ∃ dd v, H d = some (.ins cs.D dd (dF v))
  | none, ⟨e, dd, hd⟩ => ⟨dd, _, hd⟩
  | some g, ⟨A, dd, e, hd, h, nd, fit, len⟩ => ⟨dd, _, hd⟩
section
variable {P : Program} {w : World} {K : PySem.W.Frag} {mg : Str → Option Value} {base : Heap} {cs : Cs}
theorem ok_Desk_told (X : MTx K cs.D "told" "Desk.told" s_Desk_told ["self", "call", "n"]) (T : Txt K mg cs) (m_Desk_move : MOk P w K mg base (L2.CX P w) 7 cs.D "move" ["self", "used", "number", "fresh", "ends"] (sp_Desk_move cs K)) (m_Desk_illegal : MOk P w K mg base (L2.CX P w) 7 cs.D "illegal" ["self", "used"] (sp_Desk_illegal cs K)) (m_Desk_can : MOk P w K mg base (L2.CX P w) 7 cs.D "can" ["self", "side", "could"] (sp_Desk_can cs K)) (m_Desk_offer : MOk P w K mg base (L2.CX P w) 7 cs.D "offer" ["self", "side"] (sp_Desk_offer cs K)) (m_Desk_accept : MOk P w K mg base (L2.CX P w) 7 cs.D "accept" ["self", "side"] (sp_Desk_accept cs K)) (m_Desk_claim : MOk P w K mg base (L2.CX P w) 7 cs.D "claim" ["self", "claim"] (sp_Desk_claim cs K)) (m_Desk_give : MOk P w K mg base (L2.CX P w) 7 cs.D "give" ["self", "side"] (sp_Desk_give cs K)) (m_Match_told : MOk P w K mg base CX0 3 cs.M "told" ["self"] (sp_Match_told cs K)) (m_Desk_game : MOk P w K mg base (L2.CX P w) 5 cs.D "game" ["self"] (sp_Desk_game cs K)) (m_Match_stretches_told : MOk P w K mg base CX0 2 cs.M "stretches_told" ["self"] (sp_Match_stretches_told cs K)) (m_Positions_told : MOk P w K mg base CX0 2 cs.P "told" ["self"] (sp_Positions_told cs K)) : MOk P w K mg base (L2.CX P w) 8 cs.D "told" ["self", "call", "n"] (sp_Desk_told cs K) := by
  refine X.okX sc_Desk_told (fun vs H Q E h => ?_) (fun f cdv B outer s H vs Q E hr h => ⟨_, (pss_cons (ps_if (pt_cmpR op_eq (pv 1) pe_int (nomark _)) (pss_one (ps_ret (pe_methM (pv 0) T.cD m_Desk_move hr (by decide) passX (pa_cons (pe_ix ix_list (pv 2) pe_int (fun _ _ => rfl)) (pa_cons (pe_ix ix_list (pv 2) pe_int (fun _ _ => rfl)) (pa_cons (pe_ix ix_list (pv 2) pe_int (fun _ _ => rfl)) (pa_cons (pe_ix ix_list (pv 2) pe_int (fun _ _ => rfl)) pa_nil))))))) pss_nil)
      (pss_cons (ps_if (pt_cmpR op_eq (pv 1) pe_int (nomark _)) (pss_one (ps_ret (pe_methM (pv 0) T.cD m_Desk_illegal hr (by decide) passX (pa_cons (pe_ix ix_list (pv 2) pe_int (fun _ _ => rfl)) pa_nil)))) pss_nil)
      (pss_cons (ps_if (pt_cmpR op_eq (pv 1) pe_int (nomark _)) (pss_one (ps_ret (pe_methM (pv 0) T.cD m_Desk_can hr (by decide) passX (pa_cons (pe_ix ix_list (pv 2) pe_int (fun _ _ => rfl)) (pa_cons (pe_ix ix_list (pv 2) pe_int (fun _ _ => rfl)) pa_nil))))) pss_nil)
      (pss_cons (ps_if (pt_cmpR op_eq (pv 1) pe_int (nomark _)) (pss_one (ps_ret (pe_methM (pv 0) T.cD m_Desk_offer hr (by decide) passX (pa_cons (pe_ix ix_list (pv 2) pe_int (fun _ _ => rfl)) pa_nil)))) pss_nil)
      (pss_cons (ps_if (pt_cmpR op_eq (pv 1) pe_int (nomark _)) (pss_one (ps_ret (pe_methM (pv 0) T.cD m_Desk_accept hr (by decide) passX (pa_cons (pe_ix ix_list (pv 2) pe_int (fun _ _ => rfl)) pa_nil)))) pss_nil)
      (pss_cons (ps_if (pt_cmpR op_eq (pv 1) pe_int (nomark _)) (pss_one (ps_ret (pe_methM (pv 0) T.cD m_Desk_claim hr (by decide) passX (pa_cons (pe_ix ix_list (pv 2) pe_int (fun _ _ => rfl)) pa_nil)))) pss_nil)
      (pss_cons (ps_if (pt_cmpR op_eq (pv 1) pe_int (nomark _)) (pss_one (ps_ret (pe_methM (pv 0) T.cD m_Desk_give hr (by decide) passX (pa_cons (pe_ix ix_list (pv 2) pe_int (fun _ _ => rfl)) pa_nil)))) pss_nil)
      (pss_cons (ps_if (pt_cmpR op_eq (pv 1) pe_int (nomark _)) (pss_one (ps_ret (pe_methM0 (pe_methM0 (pv 0) T.cD m_Desk_game hr (by decide) passX) T.cM m_Match_told hr (by decide) pass0))) pss_nil)
      (pss_cons (ps_if (pt_cmpR op_eq (pv 1) pe_int (nomark _)) (pss_one (ps_ret (pe_methM0 (pe_methM0 (pv 0) T.cD m_Desk_game hr (by decide) passX) T.cM m_Match_stretches_told hr (by decide) pass0))) pss_nil)
      (pss_one (ps_ret (pe_methM0 (pe_fld (pe_methM0 (pv 0) T.cD m_Desk_game hr (by decide) passX) rfl) T.cP m_Positions_told hr (by decide) pass0)))))))))))), ?_⟩)
  · obtain ⟨_, _, _, _, _, _, rfl, _⟩ := h
    rfl
  · obtain ⟨d, a, os, n, s, c, rfl, hs, hk, hD, hn, D⟩ := h
    obtain ⟨dd, v, hd⟩ := hD.obj
    cases c with
    | begin_ m e nu l => exact absurd rfl hk
    | move u nu f e =>
      refine ⟨_, rfl, rfl, _, rfl, ifT (by rw [decV]; rfl) ?_⟩
      exact ⟨_, rfl, d, dd, _, rfl, hd, dF_no_move, _, rfl, a, _, _, _, rfl, rfl, hs, rfl, _, rfl, a, _, _, _, rfl, rfl, hs, rfl, _, rfl, a, _, _, _, rfl, rfl, hs, rfl, _, rfl, a, _, _, _, rfl, rfl, hs, rfl, d, os, n, s, u, nu, f, e, rfl, hD, hn, D⟩
    | illegal u =>
      refine ⟨_, rfl, rfl, _, rfl, ifF (by rw [decV]; rfl) ?_⟩
      refine ⟨_, rfl, rfl, _, rfl, ifT (by rw [decV]; rfl) ?_⟩
      exact ⟨_, rfl, d, dd, _, rfl, hd, dF_no_illegal, _, rfl, a, _, _, _, rfl, rfl, hs, rfl, d, os, n, s, u, rfl, hD, D⟩
    | can u y =>
      refine ⟨_, rfl, rfl, _, rfl, ifF (by rw [decV]; rfl) ?_⟩
      refine ⟨_, rfl, rfl, _, rfl, ifF (by rw [decV]; rfl) ?_⟩
      refine ⟨_, rfl, rfl, _, rfl, ifT (by rw [decV]; rfl) ?_⟩
      exact ⟨_, rfl, d, dd, _, rfl, hd, dF_no_can, _, rfl, a, _, _, _, rfl, rfl, hs, rfl, _, rfl, a, _, _, _, rfl, rfl, hs, rfl, d, os, n, s, u, y, rfl, hD, D⟩
    | offer u =>
      refine ⟨_, rfl, rfl, _, rfl, ifF (by rw [decV]; rfl) ?_⟩
      refine ⟨_, rfl, rfl, _, rfl, ifF (by rw [decV]; rfl) ?_⟩
      refine ⟨_, rfl, rfl, _, rfl, ifF (by rw [decV]; rfl) ?_⟩
      refine ⟨_, rfl, rfl, _, rfl, ifT (by rw [decV]; rfl) ?_⟩
      exact ⟨_, rfl, d, dd, _, rfl, hd, dF_no_offer, _, rfl, a, _, _, _, rfl, rfl, hs, rfl, d, os, n, s, u, rfl, hD, D⟩
    | accept u =>
      refine ⟨_, rfl, rfl, _, rfl, ifF (by rw [decV]; rfl) ?_⟩
      refine ⟨_, rfl, rfl, _, rfl, ifF (by rw [decV]; rfl) ?_⟩
      refine ⟨_, rfl, rfl, _, rfl, ifF (by rw [decV]; rfl) ?_⟩
      refine ⟨_, rfl, rfl, _, rfl, ifF (by rw [decV]; rfl) ?_⟩
      refine ⟨_, rfl, rfl, _, rfl, ifT (by rw [decV]; rfl) ?_⟩
      exact ⟨_, rfl, d, dd, _, rfl, hd, dF_no_accept, _, rfl, a, _, _, _, rfl, rfl, hs, rfl, d, os, n, s, u, rfl, hD, D⟩
    | claim u =>
      refine ⟨_, rfl, rfl, _, rfl, ifF (by rw [decV]; rfl) ?_⟩
      refine ⟨_, rfl, rfl, _, rfl, ifF (by rw [decV]; rfl) ?_⟩
      refine ⟨_, rfl, rfl, _, rfl, ifF (by rw [decV]; rfl) ?_⟩
      refine ⟨_, rfl, rfl, _, rfl, ifF (by rw [decV]; rfl) ?_⟩
      refine ⟨_, rfl, rfl, _, rfl, ifF (by rw [decV]; rfl) ?_⟩
      refine ⟨_, rfl, rfl, _, rfl, ifT (by rw [decV]; rfl) ?_⟩
      exact ⟨_, rfl, d, dd, _, rfl, hd, dF_no_claim, _, rfl, a, _, _, _, rfl, rfl, hs, rfl, d, os, n, s, u, rfl, hD, D⟩
    | give u =>
      refine ⟨_, rfl, rfl, _, rfl, ifF (by rw [decV]; rfl) ?_⟩
      refine ⟨_, rfl, rfl, _, rfl, ifF (by rw [decV]; rfl) ?_⟩
      refine ⟨_, rfl, rfl, _, rfl, ifF (by rw [decV]; rfl) ?_⟩
      refine ⟨_, rfl, rfl, _, rfl, ifF (by rw [decV]; rfl) ?_⟩
      refine ⟨_, rfl, rfl, _, rfl, ifF (by rw [decV]; rfl) ?_⟩
      refine ⟨_, rfl, rfl, _, rfl, ifF (by rw [decV]; rfl) ?_⟩
      refine ⟨_, rfl, rfl, _, rfl, ifT (by rw [decV]; rfl) ?_⟩
      exact ⟨_, rfl, d, dd, _, rfl, hd, dF_no_give, _, rfl, a, _, _, _, rfl, rfl, hs, rfl, d, os, n, s, u, rfl, hD, D⟩
    | now =>
      refine ⟨_, rfl, rfl, _, rfl, ifF (by rw [decV]; rfl) ?_⟩
      refine ⟨_, rfl, rfl, _, rfl, ifF (by rw [decV]; rfl) ?_⟩
      refine ⟨_, rfl, rfl, _, rfl, ifF (by rw [decV]; rfl) ?_⟩
      refine ⟨_, rfl, rfl, _, rfl, ifF (by rw [decV]; rfl) ?_⟩
      refine ⟨_, rfl, rfl, _, rfl, ifF (by rw [decV]; rfl) ?_⟩
      refine ⟨_, rfl, rfl, _, rfl, ifF (by rw [decV]; rfl) ?_⟩
      refine ⟨_, rfl, rfl, _, rfl, ifF (by rw [decV]; rfl) ?_⟩
      refine ⟨_, rfl, rfl, _, rfl, ifT (by rw [decV]; rfl) ?_⟩
      cases s with
      | none =>
        obtain ⟨_, dd, hd⟩ := hD
        exact ⟨_, rfl, d, dd, _, rfl, hd, dF_no_game, d, dd, .non, rfl, hd, fun _ => D.no _ rfl, fun z => absurd rfl z⟩
      | some g =>
        obtain ⟨A, dd, rfl, hd, h, nd, fit, len⟩ := hD
        exact ⟨_, rfl, d, dd, _, rfl, hd, dF_no_game, d, dd, _, rfl, hd, fun z => (nomatch z), fun _ => ⟨A.a, A.dx, _, rfl, h.hM, mF_no_told, A, g, rfl, h, fun H2 q s2 nq hq => D.look rfl hd nd h s2 nq hq fit len⟩⟩
    | clocks =>
      refine ⟨_, rfl, rfl, _, rfl, ifF (by rw [decV]; rfl) ?_⟩
      refine ⟨_, rfl, rfl, _, rfl, ifF (by rw [decV]; rfl) ?_⟩
      refine ⟨_, rfl, rfl, _, rfl, ifF (by rw [decV]; rfl) ?_⟩
      refine ⟨_, rfl, rfl, _, rfl, ifF (by rw [decV]; rfl) ?_⟩
      refine ⟨_, rfl, rfl, _, rfl, ifF (by rw [decV]; rfl) ?_⟩
      refine ⟨_, rfl, rfl, _, rfl, ifF (by rw [decV]; rfl) ?_⟩
      refine ⟨_, rfl, rfl, _, rfl, ifF (by rw [decV]; rfl) ?_⟩
      refine ⟨_, rfl, rfl, _, rfl, ifF (by rw [decV]; rfl) ?_⟩
      refine ⟨_, rfl, rfl, _, rfl, ifT (by rw [decV]; rfl) ?_⟩
      cases s with
      | none =>
        obtain ⟨_, dd, hd⟩ := hD
        exact ⟨_, rfl, d, dd, _, rfl, hd, dF_no_game, d, dd, .non, rfl, hd, fun _ => D.no _ rfl, fun z => absurd rfl z⟩
      | some g =>
        obtain ⟨A, dd, rfl, hd, h, nd, fit, len⟩ := hD
        exact ⟨_, rfl, d, dd, _, rfl, hd, dF_no_game, d, dd, _, rfl, hd, fun z => (nomatch z), fun _ => ⟨A.a, A.dx, _, rfl, h.hM, mF_no_stretches_told, A, g, rfl, h, fun H2 q s2 nq hq => D.look rfl hd nd h s2 nq hq fit len⟩⟩
    | again =>
      refine ⟨_, rfl, rfl, _, rfl, ifF (by rw [decV]; rfl) ?_⟩
      refine ⟨_, rfl, rfl, _, rfl, ifF (by rw [decV]; rfl) ?_⟩
      refine ⟨_, rfl, rfl, _, rfl, ifF (by rw [decV]; rfl) ?_⟩
      refine ⟨_, rfl, rfl, _, rfl, ifF (by rw [decV]; rfl) ?_⟩
      refine ⟨_, rfl, rfl, _, rfl, ifF (by rw [decV]; rfl) ?_⟩
      refine ⟨_, rfl, rfl, _, rfl, ifF (by rw [decV]; rfl) ?_⟩
      refine ⟨_, rfl, rfl, _, rfl, ifF (by rw [decV]; rfl) ?_⟩
      refine ⟨_, rfl, rfl, _, rfl, ifF (by rw [decV]; rfl) ?_⟩
      refine ⟨_, rfl, rfl, _, rfl, ifF (by rw [decV]; rfl) ?_⟩
      cases s with
      | none =>
        obtain ⟨_, dd, hd⟩ := hD
        exact ⟨_, rfl, d, dd, _, rfl, hd, dF_no_game, d, dd, .non, rfl, hd, fun _ => D.no _ rfl, fun z => absurd rfl z⟩
      | some g =>
        obtain ⟨A, dd, rfl, hd, h, nd, fit, len⟩ := hD
        exact ⟨_, rfl, d, dd, _, rfl, hd, dF_no_game, d, dd, _, rfl, hd, fun z => (nomatch z), fun _ => ⟨A.a, cs.M, A.dx, _, _, rfl, h.hM, T.cM, T.nM_positions, mF_positions, A.p, A.dp, _, rfl, h.hP.P, pF_no_told, A.p, A.dp, A.st, _, _, rfl, h.hP, fit.stood, fun q nq => D.look rfl hd nd h (Same.new nq) nq upd_same fit len⟩⟩
theorem ok_Desk_answer (X : MTx K cs.D "answer" "Desk.answer" s_Desk_answer ["self", "call", "n", "row"]) (T : Txt K mg cs) (m_Desk_begin : MOk P w K mg base (L2.CX P w) 7 cs.D "begin" ["self", "mode", "extra", "number", "row"] (sp_Desk_begin cs K)) (m_Desk_told : MOk P w K mg base (L2.CX P w) 8 cs.D "told" ["self", "call", "n"] (sp_Desk_told cs K)) : MOk P w K mg base CX0 9 cs.D "answer" ["self", "call", "n", "row"] (sp_Desk_answer cs K) := by
  refine X.ok sc_Desk_answer (fun vs H Q E h => ?_) (fun f cdv B outer s H vs Q E hr h => ⟨_, (pss_one (ps_try_as (i := 4) (Wout := fun _ _ _ _ => False) rfl rfl sc_Desk_answer.nd rfl rfl ⟨rfl, by decide, Or.inl T.gR⟩ takes0 (fun W pn xe tk _ => (pss_cons (ps_if (pt_cmpR op_eq (pv 1) (pe_gi T.BEGIN) (nomark _)) (pss_one (ps_ret (pe_methMS (pv 0) T.cD m_Desk_begin hr (by decide) (fun σ => passAt tk σ) (by exact (pa_cons (pe_ix (show IxR _ (rIxL K) from ix_list) (pv 2) pe_int (fun _ _ => rfl)) (pa_cons (pe_ix (show IxR _ (rIxL K) from ix_list) (pv 2) pe_int (fun _ _ => rfl)) (pa_cons (pe_ix (show IxR _ (rIxL K) from ix_list) (pv 2) pe_int (fun _ _ => rfl)) (pa_cons (pv 3) pa_nil)))))))) pss_nil)
      (pss_one (ps_ret (pe_methMS (pv 0) T.cD m_Desk_told hr (by decide) (fun σ => passAt tk σ) (by exact (pa_cons (pv 1) (pa_cons (pv 2) pa_nil)))))))) (fun a oe cls d pn hz hf => pss_one (ps_ret (pe_lst (by exact (pa_cons (pe_xf T.xR T.nR_code hz hf (pv 4)) pa_nil))))))), ?_⟩)
  · obtain ⟨_, _, _, _, _, _, _, rfl, _⟩ := h
    rfl
  · obtain ⟨d, a, r, os, n, s, c, rfl, hs, hr1, hl, hD, hn, k⟩ := h
    obtain ⟨dd, v, hd⟩ := hD.obj
    -- how a call ends here: a refusal is told by its number alone
    have done : ∀ E' : XK, (∀ e, desk s c = .error e → Ref cs E' H e) → Done cs H os d n (desk s c) Q E' := fun E' hE => ⟨hE, fun t out er H' os' q h1 h2 h4 h3 => by
      have en : next s c = t := by
        unfold next
        rw [er]
      have eo : outOf s c = out := by
        unfold outOf
        rw [er]
      refine k H' os' q ?_ h2 h4 ?_
      · rw [en]
        exact h1
      · rw [eo]
        exact h3⟩
    have caught : ∀ e, desk s c = .error e → ∀ (H' : Hp) (dx : Addr), Same H H' → H' dx = some (.xd [("code", .int e)]) → ∀ q, H' q = none → Q (.ref q) (upd H' q (.lst [.int e])) := fun e er H' dx sm hx q nq => by
      have en : next s c = s := by
        unfold next
        rw [er]
      have eo : outOf s c = [e] := by
        unfold outOf
        rw [er]
      have s2 := sm.trans (Same.new (o := .lst [.int e]) nq)
      refine k _ os q ?_ ⟨fun b hb => .inl hb, fun b o e hb => s2 _ _ e⟩ (.inl (sm.free nq)) ?_
      · rw [en]
        exact hD.same s2
      · rw [eo]
        exact upd_same
    refine ⟨_, rfl, rfl, _, rfl, ?_⟩
    rw [decV]
    by_cases c1 : kind c = 1
    · refine ifT (decide_eq_true c1) ?_
      cases c with
      | begin_ mo ex nu l =>
        refine ⟨_, rfl, d, dd, _, rfl, hd, dF_no_begin, _, rfl, a, _, _, _, rfl, rfl, hs, rfl, _, rfl, a, _, _, _, rfl, rfl, hs, rfl, _, rfl, a, _, _, _, rfl, rfl, hs, rfl, _, rfl, d, r, os, n, s, mo, ex, nu, l, rfl, hr1, hl, hD, done _ fun e er H' dx sm hx => ?_⟩
        exact ⟨true, T.eR, fun _ a0 na => ⟨_, rfl, rfl, rfl, dx, _, _, rfl, hx, (by kernel_rfl), sz, fun q nq => caught e er H' dx sm hx q nq⟩, fun q => Bool.noConfusion q⟩
      | _ => simp [kind] at c1
    · refine ifF (decide_eq_false c1) ?_
      refine ⟨_, rfl, d, dd, _, rfl, hd, dF_no_told, _, rfl, _, rfl, d, a, os, n, s, c, rfl, hs, c1, hD, hn, done _ fun e er H' dx sm hx => ?_⟩
      exact ⟨true, T.eR, fun _ a0 na => ⟨_, rfl, rfl, rfl, dx, _, _, rfl, hx, (by kernel_rfl), sz, fun q nq => caught e er H' dx sm hx q nq⟩, fun q => Bool.noConfusion q⟩
end
end Ck

namespace Ck
open PySem PySem.Spec PyProof.Rows L2
theorem asked_short (l : List Int) (h : PyKg69.answers_asked l = true) : (PyKg69.answers l).length ≤ 10000000 := by
  unfold PyKg69.answers_asked at h
  cases hc : PyFlat.calls PyKg69.shape l.length l with
  | none =>
    rw [hc] at h
    cases h
  | some raw =>
    rw [hc] at h
    simp only [Bool.and_eq_true] at h
    have z := h.2
    unfold PyFlat.short at z
    exact of_decide_eq_true z
/-- answers: a list of whole numbers that may be asked is handed in, what is due comes out -/
def spAns (K : PySem.W.Frag) : Sp := fun vs H Q _ => ∃ (a : Addr) (ns : List Int), vs = [.ref a] ∧ SqL K H a (ns.map V.int) ∧ ns.length ≤ 6000 ∧ PyKg69.answers_asked ns = true ∧
  ∀ (H' : Hp) (p : Addr), H' p = some (.lst ((PyKg69.answers ns).map V.int)) → Q (.ref p) H'
/-- what stands behind a call's number -/
def tl : Kg69.Call → List Int
  | .begin_ m e n l => m :: e :: n :: (l.length : Int) :: l
  | c => nums c
theorem enc_tl (c : Kg69.Call) : enc c = kind c :: tl c := by cases c <;> rfl
theorem tl_else {c : Kg69.Call} (h : kind c ≠ 1) : tl c = nums c ∧ rowOf c = [] := by
  cases c with
  | begin_ m e n l => exact absurd rfl h
  | _ => exact ⟨rfl, rfl⟩
theorem nums_at (c : Kg69.Call) : atI ([0, 3, 4, 1, 2, 1, 1, 1, 1, 0, 0, 0].map V.int) (kind c) = some (.int ((nums c).length : Int)) := by cases c <;> rfl
theorem get_mid {α : Type} (pre : List α) (x : α) (post : List α) : (pre ++ x :: post)[pre.length]? = some x := by simp
theorem cut_mid (pre mid post : List Int) {lo hi : Int} (h1 : lo = (pre.length : Int)) (h2 : hi = ((pre.length + mid.length : Nat) : Int)) : cutV ((pre ++ (mid ++ post)).map V.int) (some lo) (some hi) = mid.map V.int := by
  subst h1 h2
  unfold cutV
  rw [HT.sIx_nat, HT.sIx_nat, List.length_map]
  have e1 : min pre.length (pre ++ (mid ++ post)).length = pre.length := by
    simp only [List.length_append]
    omega
  have e2 : min (pre.length + mid.length) (pre ++ (mid ++ post)).length = pre.length + mid.length := by
    simp only [List.length_append]
    omega
  rw [e1, e2, Nat.add_sub_cancel_left, ← List.map_drop, ← List.map_take, List.drop_left, List.take_left]
/-- found grows: the desk and its game stand -/
theorem DeskAt.found {cs : Cs} {H : Hp} {os : List Addr} {d fa : Addr} {n : Nat} {l : List Int} {o : HO} (nf : fa ∉ os) (hf : H fa = some (.lst (l.map V.int))) : ∀ {s : Option M}, DeskAt cs H os d n s → DeskAt cs (upd H fa o) os d n s
  | none, ⟨e, dd, hd⟩ => by
    refine ⟨e, dd, ?_⟩
    rw [upd_ne (fun z => nf (by rw [e, ← z]; exact .head _))]
    exact hd
  | some g, ⟨A, dd, e, hd, h, nd, fit, len⟩ => by
    have ne : ∀ b ∈ A.cells, b ≠ fa := fun b hb z => nf (by rw [e, ← z]; exact .tail _ hb)
    have nd' : d ≠ fa := fun z => nf (by rw [e, ← z]; exact .head _)
    have nt : A.t ≠ fa := ne_of h.hT.T hf (by intro z; cases z)
    have ns : A.s ≠ fa := by
      obtain ⟨as, h1, h2⟩ := h.hT.S
      refine ne_of h1 hf fun z => ?_
      have z' := HO.lst.inj z
      have hl := h2.length
      cases as with
      | nil =>
        have : g.str = [] := List.eq_nil_of_length_eq_zero (by rw [← hl]; rfl)
        exact fit.str this
      | cons x xs =>
        cases l with
        | nil => cases z'
        | cons y ys =>
          have := (List.cons.inj z').1
          cases this
    have tk : TupKeep H (upd H fa o) := TupKeep.lst hf
    refine ⟨A, dd, e, (upd_ne nd').trans hd, ?_, nd, fit, len⟩
    exact ⟨(upd_ne (ne _ inA)).trans h.hM, ⟨(upd_ne nt).trans h.hT.T, h.hT.S.keep (upd_ne ns) tk⟩, ⟨(upd_ne (ne _ inP)).trans h.hP.P, h.hP.S.keep (upd_ne (ne _ inSt)) tk⟩,
      (upd_ne (ne _ inC)).trans h.hc, (upd_ne (ne _ inM)).trans h.hm, (upd_ne (ne _ inW)).trans h.hw, (upd_ne (ne _ inU)).trans h.hu, h.ap⟩
section
variable {P : Program} {w : World} {K : PySem.W.Frag} {mg : Str → Option Value} {base : Heap} {cs : Cs}
theorem ok_answers {f : Addr} {fd : FuncData} (F : Fun K "answers" "answers" s_answers f fd) (T : Txt K mg cs) (k_Desk : COk P w K mg base 1 "Desk" cs.D ["self"] (sp_Desk_init cs K)) (m_Desk_answer : MOk P w K mg base CX0 9 cs.D "answer" ["self", "call", "n", "row"] (sp_Desk_answer cs K)) : FnOk P w K mg base CX0 10 f fd ["calls"] (spAns K) := by
  refine F.ok sc_answers (fun vs H Q E h => ?_) (fun cdv B outer s H vs Q E hr h => ⟨_, (pss_cons (ps_set (i := 1) sc_answers.nd rfl (Or.inl rfl) (pe_makeC0 k_Desk hr (by decide) rfl))
      (pss_cons (ps_set (i := 2) sc_answers.nd rfl (Or.inl rfl) (pe_lst pa_nil))
      (pss_cons (ps_set (i := 3) sc_answers.nd rfl (Or.inl rfl) pe_int)
      (pss_cons (ps_while PassesOwn.never (pt_cmpR op_lt (pv 3) (pe_callB call_len_seq (by rfl) T.b_len PySem.boot_len (pa_cons (pv 0) pa_nil)) (nomark _)) (pss_cons (ps_set (i := 4) sc_answers.nd rfl (Or.inl rfl) (pe_ix ix_list (pv 0) (pv 3) (fun _ _ => rfl)))
      (pss_cons (ps_set (i := 5) sc_answers.nd rfl (Or.inl rfl) (pe_op op_add (pe_op op_add (pv 3) pe_int) (pe_ix ix_tup (pe_glob (v := .ref cs.N) rfl T.NUMBERS rfl) (pv 4) (fun _ _ => rfl))))
      (pss_cons (ps_set (i := 6) sc_answers.nd rfl (Or.inl rfl) (pe_slice sl_list (pv 0) (po_some (pe_op op_add (pv 3) pe_int)) (po_some (pv 5))))
      (pss_cons (ps_set (i := 7) sc_answers.nd rfl (Or.inl rfl) (pe_lst pa_nil))
      (pss_cons (ps_if (pt_cmpR op_eq (pv 4) (pe_gi T.BEGIN) (nomark _)) (pss_cons (ps_set (i := 8) sc_answers.nd rfl (Or.inl rfl) (pe_op op_add (pv 5) pe_int))
      (pss_cons (ps_set (i := 5) sc_answers.nd rfl (Or.inl rfl) (pe_op op_add (pv 8) (pe_ix ix_list (pv 0) (pv 5) (fun _ _ => rfl))))
      (pss_one (ps_set (i := 7) sc_answers.nd rfl (Or.inl rfl) (pe_slice sl_list (pv 0) (po_some (pv 8)) (po_some (pv 5))))))) pss_nil)
      (pss_cons (ps_set (i := 9) sc_answers.nd rfl (Or.inl rfl) (pe_methM (pv 1) T.cD m_Desk_answer hr (by decide) pass0 (pa_cons (pv 4) (pa_cons (pv 6) (pa_cons (pv 7) pa_nil)))))
      (pss_cons (ps_expr (pe_bm PySem.F.plainAttrs_list PySem.F.slot_list_append PySem.F.type_list_append mt_append (pv 2) (pa_cons (pe_callB call_len_seq (by rfl) T.b_len PySem.boot_len (pa_cons (pv 9) pa_nil)) pa_nil)))
      (pss_cons (ps_expr (pe_bm PySem.F.plainAttrs_list PySem.F.slot_list_extend PySem.F.type_list_extend mt_extend (pv 2) (pa_cons (pv 9) pa_nil)))
      (pss_one (ps_set (i := 3) sc_answers.nd rfl (Or.inl rfl) (pv 5))))))))))))
      (pss_one (ps_ret (pv 2))))))), ?_⟩)
  · obtain ⟨_, _, rfl, _⟩ := h
    rfl
  · obtain ⟨a, ns, rfl, hS, hlen, hask, k⟩ := h
    obtain ⟨calls, ens, hcl, eans⟩ := answers_run ns hask
    have hshort := asked_short ns hask
    rw [eans] at k hshort
    intro d dd nd ndd ned
    refine ⟨d, dd, rfl, upd_same, fun H1 hd k1 => ⟨rfl, ?_⟩⟩
    have s1 : Same H H1 := Same.made nd ndd k1
    refine ⟨sz, fun fa nf => ?_⟩
    have s2 : Same H1 (upd H1 fa (.lst [])) := Same.new nf
    have nfH : H fa = none := s1.free nf
    have dfa : d ≠ fa := ne_of_none hd nf
    refine ⟨fun m σ H' => ∃ (done todo : List Kg69.Call) (s : Option M) (os : List Addr) (fnd : List Int) (v4 v5 v6 v7 v8 v9 : Option V), m = todo.length ∧
      σ = [some (.ref a), some (.ref d), some (.ref fa), some (.int ((done.flatMap enc).length : Int)), v4, v5, v6, v7, v8, v9] ∧ calls = done ++ todo ∧ DeskAt cs H' os d done.length s ∧ (∀ b ∈ os, H b = none) ∧
      H' fa = some (.lst (fnd.map V.int)) ∧ fa ∉ os ∧ Same H H' ∧ fnd ++ runM s todo = runM none calls, ⟨calls.length, [], calls, none, [d], [], none, none, none, none, none, none, rfl, rfl, rfl, ⟨rfl, dd, s2 _ _ hd⟩, ?_, upd_same, ?_, s1.trans s2, rfl⟩, ?_⟩
    · intro b hb
      have e : b = d := by simpa using hb
      rw [e]
      exact nd
    · intro z
      have e : fa = d := by simpa using z
      exact dfa e.symm
    rintro m σ H' ⟨done, todo, s, os, fnd, v4, v5, v6, v7, v8, v9, rfl, rfl, ecalls, hD, hos, hfa, nfa, sm, erun⟩
    have hS' := sm.seq hS
    have edl : done.length ≤ 250 := by
      rw [ecalls, List.length_append] at hcl
      omega
    have en : ns = done.flatMap enc ++ todo.flatMap enc := by
      rw [ens, ecalls, List.flatMap_append]
    refine ⟨_, rfl, _, rfl, a, _, rfl, .inl hS', _, _, rfl, rfl, _, rfl, ?_⟩
    rw [List.length_map]
    cases todo with
    | nil =>
      have el : ns.length = (done.flatMap enc).length := by
        rw [en]
        simp
      refine ifF (decide_eq_false (by omega)) ?_
      refine ⟨_, rfl, k _ fa ?_⟩
      have er2 : fnd = runM none calls := by
        rw [← erun]
        exact (List.append_nil fnd).symm
      rw [← er2]
      exact hfa
    | cons c rest =>
      have en2 : ns = done.flatMap enc ++ (kind c :: (tl c ++ rest.flatMap enc)) := by
        rw [en, List.flatMap_cons, enc_tl]
        rfl
      have el : ns.length = (done.flatMap enc).length + (1 + (tl c).length + (rest.flatMap enc).length) := by
        rw [en2]
        simp only [List.length_append, List.length_cons]
        omega
      refine ifT (decide_eq_true (by omega)) ?_
      refine ⟨fun σ' H2 => ∃ (s' : Option M) (os' : List Addr) (fnd' : List Int) (w4 w5 w6 w7 w8 w9 : Option V),
        σ' = [some (.ref a), some (.ref d), some (.ref fa), some (.int (((done ++ [c]).flatMap enc).length : Int)), w4, w5, w6, w7, w8, w9] ∧ DeskAt cs H2 os' d (done ++ [c]).length s' ∧ (∀ b ∈ os', H b = none) ∧
        H2 fa = some (.lst (fnd'.map V.int)) ∧ fa ∉ os' ∧ Same H H2 ∧ fnd' ++ runM s' rest = runM none calls, ?_, ?_⟩
      · rintro σ' H2 ⟨s', os', fnd', w4, w5, w6, w7, w8, w9, rfl, q1, q2, q3, q4, q5, q6⟩
        exact ⟨rest.length, Nat.lt_succ_self _, done ++ [c], rest, s', os', fnd', w4, w5, w6, w7, w8, w9, rfl, rfl, by rw [ecalls]; simp, q1, q2, q3, q4, q5, q6⟩
      -- call = calls[at]
      have m1 : atI (ns.map V.int) ((done.flatMap enc).length : Int) = some (.int (kind c)) := atI_nat (by rw [en2, List.getElem?_map, get_mid]; rfl)
      refine ⟨_, rfl, _, rfl, a, _, _, _, rfl, rfl, hS', m1, ?_⟩
      -- behind = at + 1 + NUMBERS[call]
      refine ⟨_, rfl, _, _, rfl, rfl, _, rfl, cs.N, _, _, _, rfl, rfl, T.NUMS _, nums_at c, _, _, rfl, rfl, ?_⟩
      -- n = calls[at + 1:behind]
      refine ⟨_, rfl, _, rfl, _, _, rfl, rfl, _, rfl, _, rfl, _, rfl, a, _, rfl, hS', fun pn npn => ?_⟩
      have ecut : cutV (ns.map V.int) (some (((done.flatMap enc).length : Int) + 1)) (some (((done.flatMap enc).length : Int) + 1 + ((nums c).length : Int))) = (nums c).map V.int := by
        obtain ⟨more, em⟩ : ∃ more, tl c = nums c ++ more := by
          by_cases c1 : kind c = 1
          · cases c with
            | begin_ m e n l => exact ⟨(l.length : Int) :: l, rfl⟩
            | _ => simp [kind] at c1
          · exact ⟨[], by rw [(tl_else c1).1, List.append_nil]⟩
        have e3 : ns = (done.flatMap enc ++ [kind c]) ++ (nums c ++ (more ++ rest.flatMap enc)) := by
          rw [en2, em]
          simp
        rw [e3]
        refine cut_mid _ _ _ ?_ ?_
        · simp
        · simp
      rw [ecut]
      have s3 : Same H' (upd H' pn (.lst ((nums c).map V.int))) := Same.new npn
      -- row = []
      refine ⟨sz, fun pr npr => ?_⟩
      have s4 := s3.trans (Same.new (o := .lst []) npr)
      have hn4 : (upd (upd H' pn (.lst ((nums c).map V.int))) pr (.lst [])) pn = some (.lst ((nums c).map V.int)) := (Same.new npr) _ _ upd_same
      refine ⟨_, rfl, rfl, _, rfl, ?_⟩
      rw [decV]
      -- told = desk.answer(call, n, row); ..
      have rest_ : ∀ (H5 : Hp) (r : Addr) (bh : Int) (b8 : Option V), bh = (((done ++ [c]).flatMap enc).length : Int) → Same H' H5 → H5 pn = some (.lst ((nums c).map V.int)) → H5 r = some (.lst ((rowOf c).map V.int)) →
          tSeq (tAsg (tMeth cs.D "answer" (sp_Desk_answer cs K) [] E0 (tVar 1) (tCons (tVar 4) (tCons (tVar 6) (tCons (tVar 7) tNil)))) (gName 9))
            (tSeq (tDrop (tBM K "list" rAppend (tVar 2) (tCons (tCB (fun xs H Q => ∃ p ys, xs = [.ref p] ∧ (SqL K H p ys ∨ SqT K H p ys) ∧ Q (.int ys.length) H) (tCons (tVar 9) tNil)) tNil)))
              (tSeq (tDrop (tBM K "list" rExtend (tVar 2) (tCons (tVar 9) tNil))) (tAsg (tVar 5) (gName 3))))
            { nx := fun σ' H2 => ∃ (s' : Option M) (os' : List Addr) (fnd' : List Int) (w4 w5 w6 w7 w8 w9 : Option V),
                σ' = [some (.ref a), some (.ref d), some (.ref fa), some (.int (((done ++ [c]).flatMap enc).length : Int)), w4, w5, w6, w7, w8, w9] ∧ DeskAt cs H2 os' d (done ++ [c]).length s' ∧ (∀ b ∈ os', H b = none) ∧
                H2 fa = some (.lst (fnd'.map V.int)) ∧ fa ∉ os' ∧ Same H H2 ∧ fnd' ++ runM s' rest = runM none calls,
              ct := fun σ' H2 => ∃ (s' : Option M) (os' : List Addr) (fnd' : List Int) (w4 w5 w6 w7 w8 w9 : Option V),
                σ' = [some (.ref a), some (.ref d), some (.ref fa), some (.int (((done ++ [c]).flatMap enc).length : Int)), w4, w5, w6, w7, w8, w9] ∧ DeskAt cs H2 os' d (done ++ [c]).length s' ∧ (∀ b ∈ os', H b = none) ∧
                H2 fa = some (.lst (fnd'.map V.int)) ∧ fa ∉ os' ∧ Same H H2 ∧ fnd' ++ runM s' rest = runM none calls,
              bk := fun σ H => tRet (tVar 2) { nx := fun _ H' => Q .non H', rt := Q } σ H, rt := Q }
            [some (.ref a), some (.ref d), some (.ref fa), some (.int ((done.flatMap enc).length : Int)), some (.int (kind c)), some (.int bh), some (.ref pn), some (.ref r), b8, v9] H5 := by
        intro H5 r bh b8 ebh s5 h5n h5r
        obtain ⟨dd', v, hd'⟩ := (hD.same s5).obj
        have hrl : (rowOf c).length ≤ 10000 := by
          have : (rowOf c).length ≤ (tl c).length := by
            cases c with
            | begin_ m e n l =>
              show l.length ≤ (m :: e :: n :: (l.length : Int) :: l).length
              simp only [List.length_cons]
              omega
            | _ => exact Nat.zero_le _
          omega
        have hD5 : DeskAt cs H5 os d done.length s := by
          cases s with
          | none =>
            obtain ⟨e, dd, hd⟩ := hD
            exact ⟨e, dd, s5 _ _ hd⟩
          | some g =>
            obtain ⟨A, dd, e, hd, h, nd, fit, len⟩ := hD
            exact ⟨A, dd, e, s5 _ _ hd, Same.at s5 h, nd, fit, len⟩
        refine ⟨_, rfl, d, dd', _, rfl, hd', dF_no_answer, _, rfl, _, rfl, _, rfl, d, pn, r, os, done.length, s, c, rfl, SqL.of h5n, SqL.of h5r, hrl, hD5, by omega, fun H6 os' q h6 ow nq hq => ?_⟩
        have f5 : H5 fa = some (.lst (fnd.map V.int)) := s5 _ _ hfa
        have f6 : H6 fa = some (.lst (fnd.map V.int)) := ow.keep _ _ f5 nfa
        have nfa' : fa ∉ os' := fun z => by
          rcases ow.new _ z with y | y
          · exact nfa y
          · rw [f5] at y
            cases y
        have hos' : ∀ b ∈ os', H b = none := fun b hb => by
          rcases ow.new _ hb with y | y
          · exact hos b y
          · exact (sm.trans s5).free y
        have s6 : Same H H6 := fun b o e => ow.keep _ _ ((sm.trans s5) _ _ e) fun z => by
          rw [hos b z] at e
          cases e
        have er1 : runM s (c :: rest) = ((outOf s c).length : Int) :: outOf s c ++ runM (next s c) rest := rfl
        rw [er1] at erun
        have hlen2 : fnd.length + (1 + (outOf s c).length) ≤ 10000000 := by
          have e := congrArg List.length erun
          simp only [List.length_append, List.length_cons] at e
          omega
        have qf : q ≠ fa := fun z => by
          rcases nq with y | y
          · rw [z, f5] at y
            cases y
          · exact nfa (z ▸ y)
        refine ⟨_, rfl, .inl ⟨rfl, _, SqL.of f6⟩, _, rfl, q, _, rfl, .inl (SqL.of hq), fa, _, _, rfl, rfl, f6, ?_, ?_⟩
        · rw [List.length_map]
          have := sizeLine_eq
          omega
        refine ⟨_, rfl, .inl ⟨rfl, _, SqL.of upd_same⟩, _, rfl, fa, q, _, _, rfl, rfl, upd_same, (upd_ne qf).trans hq, ?_, ?_⟩
        · simp only [List.length_append, List.length_map, List.length_cons, List.length_nil]
          have := sizeLine_eq
          omega
        refine ⟨_, rfl, ?_⟩
        have hD7 : DeskAt cs (upd H6 fa (.lst (fnd.map V.int ++ [.int (((outOf s c).map V.int).length : Nat)]))) os' d (done.length + 1) (next s c) := h6.found nfa' f6
        have e7 : fnd.map V.int ++ [V.int (((outOf s c).map V.int).length : Nat)] = (fnd ++ [((outOf s c).length : Int)]).map V.int := by
          rw [List.map_append, List.length_map]
          rfl
        have hD8 : DeskAt cs (upd (upd H6 fa (.lst (fnd.map V.int ++ [.int (((outOf s c).map V.int).length : Nat)]))) fa (.lst ((fnd.map V.int ++ [.int (((outOf s c).map V.int).length : Nat)]) ++ (outOf s c).map V.int))) os' d (done.length + 1) (next s c) :=
          hD7.found nfa' (l := fnd ++ [((outOf s c).length : Int)]) (by rw [← e7]; exact upd_same)
        refine ⟨next s c, os', (fnd ++ [((outOf s c).length : Int)]) ++ outOf s c, some (.int (kind c)), some (.int bh), some (.ref pn), some (.ref r), b8, some (.ref q), ?_, ?_, hos', ?_, nfa', fun b o e => ?_, ?_⟩
        · rw [← ebh]
          rfl
        · rw [List.length_append]
          exact hD8
        · rw [List.map_append, ← e7]
          exact upd_same
        · have bf : b ≠ fa := ne_of_none e nfH
          rw [upd_ne bf, upd_ne bf]
          exact s6 _ _ e
        · rw [← erun]
          simp
      by_cases c1 : kind c = 1
      · refine ifT (decide_eq_true c1) ?_
        cases c with
        | begin_ mo ex nu l =>
          -- begin = behind + 1
          refine ⟨_, rfl, _, _, rfl, rfl, ?_⟩
          have e6 : ns = (done.flatMap enc ++ [1, mo, ex, nu]) ++ (l.length : Int) :: (l ++ rest.flatMap enc) := by
            rw [en2]
            simp [tl, kind]
          have s4' := s4.seq hS'
          have m2 : atI (ns.map V.int) (((done.flatMap enc).length : Int) + 1 + (([mo, ex, nu] : List Int).length : Int)) = some (.int (l.length : Int)) := at_of (j := (done.flatMap enc ++ [1, mo, ex, nu]).length) (by simp; omega) (by rw [e6, List.getElem?_map, get_mid]; rfl)
          -- behind = begin + calls[behind]
          refine ⟨_, rfl, _, rfl, _, rfl, a, _, _, _, rfl, rfl, s4', m2, _, _, rfl, rfl, ?_⟩
          -- row = calls[begin:behind]
          refine ⟨_, rfl, _, rfl, _, rfl, _, rfl, _, rfl, a, _, rfl, s4', fun p2 np2 => ?_⟩
          have ecut2 : cutV (ns.map V.int) (some (((done.flatMap enc).length : Int) + 1 + (([mo, ex, nu] : List Int).length : Int) + 1)) (some (((done.flatMap enc).length : Int) + 1 + (([mo, ex, nu] : List Int).length : Int) + 1 + (l.length : Int))) = l.map V.int := by
            have e7 : ns = (done.flatMap enc ++ [1, mo, ex, nu, (l.length : Int)]) ++ (l ++ rest.flatMap enc) := by
              rw [e6]
              simp
            rw [e7]
            refine cut_mid _ _ _ ?_ ?_
            · simp
              omega
            · simp
              omega
          have s5 := s4.trans (Same.new (o := .lst (cutV (ns.map V.int) (some (((done.flatMap enc).length : Int) + 1 + (([mo, ex, nu] : List Int).length : Int) + 1)) (some (((done.flatMap enc).length : Int) + 1 + (([mo, ex, nu] : List Int).length : Int) + 1 + (l.length : Int))))) np2)
          refine rest_ _ p2 _ _ ?_ s5 ((Same.new np2) _ _ hn4) ?_
          · have e8 : ((done ++ [Kg69.Call.begin_ mo ex nu l]).flatMap enc).length = (done.flatMap enc).length + (5 + l.length) := by
              rw [List.flatMap_append, List.length_append]
              congr 1
              show (1 :: mo :: ex :: nu :: (l.length : Int) :: l ++ []).length = _
              simp only [List.append_nil, List.length_cons]
              omega
            rw [e8]
            show ((done.flatMap enc).length : Int) + 1 + ((3 : Nat) : Int) + 1 + (l.length : Int) = _
            omega
          · exact Eq.trans upd_same (congrArg (fun z => some (HO.lst z)) ecut2)
        | _ => simp [kind] at c1
      · refine ifF (decide_eq_false c1) ?_
        have etl := tl_else c1
        have e5 : (((done ++ [c]).flatMap enc).length : Int) = ((done.flatMap enc).length : Int) + 1 + ((nums c).length : Int) := by
          rw [List.flatMap_append]
          simp only [List.length_append, List.flatMap_cons, List.flatMap_nil, List.append_nil, enc_tl, List.length_cons, etl.1]
          omega
        exact rest_ _ pr _ v8 e5.symm s4 hn4 (by rw [etl.2]; exact upd_same)
end
end Ck

namespace Ck
open PySem PySem.Spec PyProof.Rows L2
/-! ### what the top has written, by defs (printed by genend.py) -/
structure MFx (K : PySem.W.Frag) (C : Addr) (m qual : Str) (st : Stmt) : Prop where
  ex : ∃ (f : Addr) (oc : Value) (od : Option Addr) (kV dc pm : Value) (an : Option Addr) (cd ct : Value) (sl : Array (Option Value)), PySem.W.findIn K (.ref C) m = some (some (.ref f)) ∧ PySem.W.isFn K (.ref f) = true ∧
    K.lookup f = some ⟨oc, od, .func (PySem.W.fnOf m qual (defArgs st) (defBody st) (defScope st) .none kV dc pm an cd ct), sl⟩ ∧ PySem.W.codeIn K cd qual = true ∧ PySem.W.keepIn K (.ref f) = true
theorem mfx {K : PySem.W.Frag} {C : Addr} {m qual : Str} {st : Stmt} {f : Addr} {oc : Value} {od : Option Addr} {kV dc pm : Value} {an : Option Addr} {cd ct : Value} {sl : Array (Option Value)} (a : PySem.W.findIn K (.ref C) m = some (some (.ref f))) (i : PySem.W.isFn K (.ref f) = true)
    (l : K.lookup f = some ⟨oc, od, .func (PySem.W.fnOf m qual (defArgs st) (defBody st) (defScope st) .none kV dc pm an cd ct), sl⟩) (c : PySem.W.codeIn K cd qual = true) (k : PySem.W.keepIn K (.ref f) = true) : MFx K C m qual st := ⟨f, oc, od, kV, dc, pm, an, cd, ct, sl, a, i, l, c, k⟩
structure FFx (K : PySem.W.Frag) (x : Str) (st : Stmt) : Prop where
  ex : ∃ (f : Addr) (oc : Value) (od : Option Addr) (kV dc pm : Value) (an : Option Addr) (cd ct : Value) (sl : Array (Option Value)), PySem.W.nsIn K mainGlobals x = some (some (.ref f)) ∧
    K.lookup f = some ⟨oc, od, .func (PySem.W.fnOf x x (defArgs st) (defBody st) (defScope st) .none kV dc pm an cd ct), sl⟩ ∧ PySem.W.codeIn K cd x = true ∧ PySem.W.keepIn K (.ref f) = true
theorem ffx {K : PySem.W.Frag} {x : Str} {st : Stmt} {f : Addr} {oc : Value} {od : Option Addr} {kV dc pm : Value} {an : Option Addr} {cd ct : Value} {sl : Array (Option Value)} (a : PySem.W.nsIn K mainGlobals x = some (some (.ref f)))
    (l : K.lookup f = some ⟨oc, od, .func (PySem.W.fnOf x x (defArgs st) (defBody st) (defScope st) .none kV dc pm an cd ct), sl⟩) (c : PySem.W.codeIn K cd x = true) (k : PySem.W.keepIn K (.ref f) = true) : FFx K x st := ⟨f, oc, od, kV, dc, pm, an, cd, ct, sl, a, l, c, k⟩
structure CFx (K : PySem.W.Frag) (C : Addr) : Prop where
  cl : Cls K C
  mks : PySem.W.makesIn K C = true
  kc : PySem.W.keepIn K (.ref C) = true
theorem cfx {K : PySem.W.Frag} {C : Addr} (pg : PySem.W.plainGet K C Str.empty = true) (hd : PySem.W.hasDictIn K C = true) (po : PySem.W.plainOver K C = true) (sa : PySem.W.findIn K (.ref C) "__setattr__" = some (some (.builtin "object.__setattr__"))) (mk : PySem.W.makesIn K C = true) (kc : PySem.W.keepIn K (.ref C) = true) : CFx K C := ⟨⟨pg, hd, po, sa⟩, mk, kc⟩
structure GFx (K : PySem.W.Frag) (x : Str) (i : Int) : Prop where
  ex : ∃ t, PySem.W.nsIn K mainGlobals x = some (some (.int i t))
theorem gfx {K : PySem.W.Frag} {x : Str} {i : Int} {t : Tok} (h : PySem.W.nsIn K mainGlobals x = some (some (.int i t))) : GFx K x i := ⟨t, h⟩
section
variable {K : PySem.W.Frag} {mg : Str → Option Value} {h : Heap} {C : Addr} {m x qual : Str} {st : Stmt} {ps : List Str}
abbrev Bnd (x qual : Str) (st : Stmt) (ps : List Str) : Prop := ∀ (kV doc pm : Value) (an : Option Addr) (cdv ct : Value) (us : List Value), us.length = ps.length → bindArgs (PySem.W.fnOf x qual (defArgs st) (defBody st) (defScope st) .none kV doc pm an cdv ct) ⟨us, []⟩ = pure (ps.zip us)
theorem MFx.tx (X : MFx K C m qual st) (b : Bnd m qual st ps) : MTx K C m qual st ps := by
  obtain ⟨f, oc, od, kV, dc, pm, an, cd, ct, sl, a, i, l, c, k⟩ := X.ex
  exact ⟨f, _, fun_mk l c k, ⟨a, i, k⟩, (fun_mk l c k).binds b⟩
theorem FFx.tx (X : FFx K x st) (KX : K.In h) (G : h.Ns mainGlobals mg) (b : Bnd x x st ps) : FTx K mg x st ps := by
  obtain ⟨f, oc, od, kV, dc, pm, an, cd, ct, sl, a, l, c, k⟩ := X.ex
  exact ⟨f, _, fun_mk l c k, PySem.W.mg_of KX G a, (fun_mk l c k).binds b⟩
theorem MFx.ctx (X : MFx K C "__init__" qual st) (KX : K.In h) (G : h.Ns mainGlobals mg) (c : CFx K C) (g : PySem.W.nsIn K mainGlobals x = some (some (.ref C))) (b : Bnd "__init__" qual st ps) : CTx K mg x C qual st ps := by
  obtain ⟨f, oc, od, kV, dc, pm, an, cd, ct, sl, a, i, l, c', k⟩ := X.ex
  exact ⟨f, _, fun_mk l c' k, ⟨c.mks, a, i, c.kc⟩, PySem.W.mg_of KX G g, (fun_mk l c' k).binds b⟩
theorem GFx.gi {i : Int} (X : GFx K x i) (KX : K.In h) (G : h.Ns mainGlobals mg) : GI mg x i := by
  obtain ⟨t, e⟩ := X.ex
  exact ⟨t, PySem.W.mg_of KX G e⟩
end
/-- an error of the class at S is what «except S» names -/
theorem exm_self {K : PySem.W.Frag} {S : Addr} (h1 : PySem.W.subIn K (.ref S) (.type "BaseException") = some true) (h2 : PySem.W.isClsIn K S = true) (h3 : PySem.W.typeIn K (.ref S) = some (.type "type")) (h4 : PySem.W.subIn K (.ref S) (.ref S) = some true) :
    PySem.W.exmOne K (.ref S) (.ref S) = some true := by
  have e1 : (PySem.W.subIn K (.ref S) (.type "BaseException") == some true) = true := by rw [h1] <;> rfl
  have e2 : ((PySem.W.clsIn K S).isSome && PySem.W.typeIn K (.ref S) == some (.type "type")) = true := by
    have h2' : (PySem.W.clsIn K S).isSome = true := h2
    rw [h2', h3] <;> rfl
  show (if (PySem.W.subIn K (.ref S) (.type "BaseException") == some true) = true then (if ((PySem.W.clsIn K S).isSome && PySem.W.typeIn K (.ref S) == some (.type "type")) = true then PySem.W.subIn K (.ref S) (.ref S) else none) else none) = some true
  rw [if_pos e1, if_pos e2]
  exact h4
/-- of the refusal's class and its __init__ -/
structure RFx (K : PySem.W.Frag) (R : Addr) : Prop where
  o : OexC K R
  x : XfC K R
  n : PySem.W.findIn K (.ref R) "code" = some none
  e : PySem.W.exmOne K (.ref R) (.ref R) = some true
  i : ∃ (f : Addr) (oc : Value) (od : Option Addr) (kV dc pm : Value) (an : Option Addr) (cd ct : Value) (sl : Array (Option Value)), PySem.W.findIn K (.ref R) "__init__" = some (some (.ref f)) ∧ PySem.W.typeIn K (.ref f) = some (.type "function") ∧
    K.lookup f = some ⟨oc, od, .func (PySem.W.fnOf "__init__" "Refused.__init__" (defArgs s_Refused_init) (defBody s_Refused_init) (defScope s_Refused_init) .none kV dc pm an cd ct), sl⟩ ∧ PySem.W.codeIn K cd "Refused.__init__" = true ∧ PySem.W.keepIn K (.ref f) = true
theorem rfx {K : PySem.W.Frag} {R : Addr} {nm q : Str} {N : Addr} {bs : List Value} {sn : List Str} {sub : List Value} {ab : Bool} {col : Option Bool} {dd : Option Addr} {m0 m1 m2 m3 m5 : Option Value} {f : Addr} {oc : Value} {od : Option Addr} {kV dc pm : Value} {an : Option Addr} {cd ct : Value} {sl : Array (Option Value)}
    (xL : K.lookup R = some (excClassObj nm q R N bs [.type "ValueError", .type "Exception", .type "BaseException", .type "object"] true sn sub ab col dd m0 m1 m2 m3 m5 "ValueError.__new__"))
    (sa : PySem.W.findIn K (.ref R) "__setattr__" = some (some (.builtin "object.__setattr__"))) (ga : PySem.W.findIn K (.ref R) "__getattribute__" = some (some (.builtin "BaseException.__getattribute__"))) (gg : PySem.W.findIn K (.ref R) "__getattr__" = some none) (nc : PySem.W.findIn K (.ref R) "code" = some none)
    (a : PySem.W.findIn K (.ref R) "__init__" = some (some (.ref f))) (t : PySem.W.typeIn K (.ref f) = some (.type "function"))
    (l : K.lookup f = some ⟨oc, od, .func (PySem.W.fnOf "__init__" "Refused.__init__" (defArgs s_Refused_init) (defBody s_Refused_init) (defScope s_Refused_init) .none kV dc pm an cd ct), sl⟩) (c : PySem.W.codeIn K cd "Refused.__init__" = true) (k : PySem.W.keepIn K (.ref f) = true)
    (kR : PySem.W.keepIn K (.ref R) = true) (eR : PySem.W.subIn K (.ref R) (.type "BaseException") = some true) (tR : PySem.W.typeIn K (.ref R) = some (.type "type")) (hR : PySem.W.hasDictIn K R = true) (iR : PySem.W.isClsIn K R = true) (sR : PySem.W.subIn K (.ref R) (.ref R) = some true) : RFx K R :=
  { o := { cls := ⟨nm, q, N, bs, _, sn, sub, ab, col, dd, m0, m1, m2, m3, m5, xL, by decide +kernel⟩, sa := sa, exC := eR, tyC := tR, kC := kR }, x := ⟨ga, gg, eR, hR⟩, n := nc, e := exm_self eR iR tR sR, i := ⟨f, oc, od, kV, dc, pm, an, cd, ct, sl, a, t, l, c, k⟩ }
theorem RFx.tx {K : PySem.W.Frag} {cs : Cs} (X : RFx K cs.R) : RTx K cs := by
  obtain ⟨f, oc, od, kV, dc, pm, an, cd, ct, sl, a, t, l, c, k⟩ := X.i
  exact ⟨f, _, fun_mk l c k, a, t, (fun_mk l c k).binds fun _ _ _ _ _ _ us hl => match us, hl with | [_, _], _ => rfl⟩
/-- the tuple of how many numbers a call has -/
theorem nums_sq {K : PySem.W.Frag} {a : Addr} {d : Option Addr} {n : Nat} {sl : Array (Option Value)} {t0 t1 t2 t3 t4 t5 t6 t7 t8 t9 t10 t11 : Tok}
    (l : K.lookup a = some ⟨.type "tuple", d, .seq #[.int 0 t0, .int 3 t1, .int 4 t2, .int 1 t3, .int 2 t4, .int 1 t5, .int 1 t6, .int 1 t7, .int 1 t8, .int 0 t9, .int 0 t10, .int 0 t11] n, sl⟩) (H : Hp) : SqT K H a ([0, 3, 4, 1, 2, 1, 1, 1, 1, 0, 0, 0].map V.int) :=
  .inr ⟨_, _, n, l, rfl, rfl, (by show 12 ≤ sizeLine; decide), .cons ⟨t0, rfl⟩ (.cons ⟨t1, rfl⟩ (.cons ⟨t2, rfl⟩ (.cons ⟨t3, rfl⟩ (.cons ⟨t4, rfl⟩ (.cons ⟨t5, rfl⟩ (.cons ⟨t6, rfl⟩ (.cons ⟨t7, rfl⟩ (.cons ⟨t8, rfl⟩ (.cons ⟨t9, rfl⟩ (.cons ⟨t10, rfl⟩ (.cons ⟨t11, rfl⟩ .nil)))))))))))⟩
theorem all_mk {P : Program} {w : World} {K : PySem.W.Frag} {h : Heap} {mg : Str → Option Value} {fa CM CT CP CD CR CN f3 : Addr} (X : K.In h) (G : h.Ns mainGlobals mg) (hfa : mg "answers" = some (.ref fa))
    {oc3 : Value} {od3 : Option Addr} {kV3 dc3 pm3 : Value} {an3 : Option Addr} {cd3 ct3 : Value} {sl3 : Array (Option Value)}
    (aM : PySem.W.nsIn K mainGlobals "Match" = some (some (.ref CM)))
    (aT : PySem.W.nsIn K mainGlobals "Times" = some (some (.ref CT)))
    (aP : PySem.W.nsIn K mainGlobals "Positions" = some (some (.ref CP)))
    (aD : PySem.W.nsIn K mainGlobals "Desk" = some (some (.ref CD)))
    (aR : PySem.W.nsIn K mainGlobals "Refused" = some (some (.ref CR)))
    (aN : PySem.W.nsIn K mainGlobals "NUMBERS" = some (some (.ref CN)))
    (clM : CFx K CM)
    (clT : CFx K CT)
    (clP : CFx K CP)
    (clD : CFx K CD)
    (nM_times : NoAttr K CM "times")
    (nM_positions : NoAttr K CM "positions")
    (nM_side : NoAttr K CM "side")
    (nM_clocks : NoAttr K CM "clocks")
    (nM_made : NoAttr K CM "made")
    (nM_wrong : NoAttr K CM "wrong")
    (nM_could : NoAttr K CM "could")
    (nM_offers : NoAttr K CM "offers")
    (nM_winner : NoAttr K CM "winner")
    (nM_why : NoAttr K CM "why")
    (nT_mode : NoAttr K CT "mode")
    (nT_extra : NoAttr K CT "extra")
    (nT_stretches : NoAttr K CT "stretches")
    (nP_stood : NoAttr K CP "stood")
    (nP_without : NoAttr K CP "without")
    (nD_match : NoAttr K CD "match")
    (g_FIFTH : GFx K "FIFTH" (5))
    (g_MOST_WITHOUT : GFx K "MOST_WITHOUT" (150))
    (g_THIRD : GFx K "THIRD" (3))
    (g_CLAIMED_WITHOUT : GFx K "CLAIMED_WITHOUT" (100))
    (g_NOBODY : GFx K "NOBODY" (-1))
    (g_GOES_ON : GFx K "GOES_ON" (-1))
    (g_DRAWN : GFx K "DRAWN" (2))
    (g_MATE : GFx K "MATE" (0))
    (g_GAVE_UP : GFx K "GAVE_UP" (1))
    (g_FLAG : GFx K "FLAG" (2))
    (g_ILLEGAL : GFx K "ILLEGAL" (3))
    (g_AGREED : GFx K "AGREED" (4))
    (g_STALEMATE : GFx K "STALEMATE" (5))
    (g_NOBODY_MATES : GFx K "NOBODY_MATES" (6))
    (g_THIRD_TIME : GFx K "THIRD_TIME" (7))
    (g_CLAIMED_LONG : GFx K "CLAIMED_LONG" (8))
    (g_FIFTH_TIME : GFx K "FIFTH_TIME" (9))
    (g_TOO_LONG : GFx K "TOO_LONG" (10))
    (g_MORE_TIME : GFx K "MORE_TIME" (1200))
    (g_IS_MATE : GFx K "IS_MATE" (1))
    (g_IS_STALEMATE : GFx K "IS_STALEMATE" (2))
    (g_IS_DEAD : GFx K "IS_DEAD" (3))
    (g_ADDED : GFx K "ADDED" (1))
    (g_HELD_BACK : GFx K "HELD_BACK" (2))
    (g_MOST_STRETCHES : GFx K "MOST_STRETCHES" (4))
    (g_MOST_MOVES : GFx K "MOST_MOVES" (200))
    (g_MOST_TENTHS : GFx K "MOST_TENTHS" (1000000))
    (g_MOST_MODE : GFx K "MOST_MODE" (2))
    (g_MOST_EXTRA : GFx K "MOST_EXTRA" (6000))
    (g_BAD : GFx K "BAD" (-1))
    (g_NO_GAME : GFx K "NO_GAME" (-2))
    (g_NOT_OFFERED : GFx K "NOT_OFFERED" (-4))
    (g_MOST_USED : GFx K "MOST_USED" (10000000))
    (g_MOST_NUMBER : GFx K "MOST_NUMBER" (1000000))
    (g_MOST_ENDS : GFx K "MOST_ENDS" (3))
    (g_BEGIN : GFx K "BEGIN" (1))
    (b_len : PySem.W.nsIn K mainGlobals "len" = some none)
    (b_int : PySem.W.nsIn K mainGlobals "int" = some none)
    (b_max : PySem.W.nsIn K mainGlobals "max" = some none)
    (b_all : PySem.W.nsIn K mainGlobals "all" = some none)
    (b_range : PySem.W.nsIn K mainGlobals "range" = some none)
    (b_zip : PySem.W.nsIn K mainGlobals "zip" = some none)
    (x_Positions_init : MFx K CP "__init__" "Positions.__init__" s_Positions_init)
    (x_Positions_stand : MFx K CP "stand" "Positions.stand" s_Positions_stand)
    (x_Positions_many_times : MFx K CP "many_times" "Positions.many_times" s_Positions_many_times)
    (x_Positions_is_fifth : MFx K CP "is_fifth" "Positions.is_fifth" s_Positions_is_fifth)
    (x_Positions_is_long : MFx K CP "is_long" "Positions.is_long" s_Positions_is_long)
    (x_Positions_is_claimed : MFx K CP "is_claimed" "Positions.is_claimed" s_Positions_is_claimed)
    (x_Positions_told : MFx K CP "told" "Positions.told" s_Positions_told)
    (x_Times_init : MFx K CT "__init__" "Times.__init__" s_Times_init)
    (x_Times_at_first : MFx K CT "at_first" "Times.at_first" s_Times_at_first)
    (x_Times_taken_off : MFx K CT "taken_off" "Times.taken_off" s_Times_taken_off)
    (x_Times_of_stretches : MFx K CT "of_stretches" "Times.of_stretches" s_Times_of_stretches)
    (x_Times_coming : MFx K CT "coming" "Times.coming" s_Times_coming)
    (x_pairs_of : FFx K "pairs_of" s_pairs_of)
    (x_are_stretches : FFx K "are_stretches" s_are_stretches)
    (x_Match_is_over : MFx K CM "is_over" "Match.is_over" s_Match_is_over)
    (x_Match_end : MFx K CM "end" "Match.end" s_Match_end)
    (x_Match_lose : MFx K CM "lose" "Match.lose" s_Match_lose)
    (x_Match_does_take_off : MFx K CM "does_take_off" "Match.does_take_off" s_Match_does_take_off)
    (x_Match_end_by_move : MFx K CM "end_by_move" "Match.end_by_move" s_Match_end_by_move)
    (x_Match_give_time : MFx K CM "give_time" "Match.give_time" s_Match_give_time)
    (x_Match_move : MFx K CM "move" "Match.move" s_Match_move)
    (x_Match_illegal : MFx K CM "illegal" "Match.illegal" s_Match_illegal)
    (x_Match_claim : MFx K CM "claim" "Match.claim" s_Match_claim)
    (x_Match_stands : MFx K CM "stands" "Match.stands" s_Match_stands)
    (x_Match_told : MFx K CM "told" "Match.told" s_Match_told)
    (x_Match_stretches_told : MFx K CM "stretches_told" "Match.stretches_told" s_Match_stretches_told)
    (x_Match_init : MFx K CM "__init__" "Match.__init__" s_Match_init)
    (x_want : FFx K "want" s_want)
    (x_want_within : FFx K "want_within" s_want_within)
    (x_Desk_init : MFx K CD "__init__" "Desk.__init__" s_Desk_init)
    (x_Desk_game : MFx K CD "game" "Desk.game" s_Desk_game)
    (x_Desk_going : MFx K CD "going" "Desk.going" s_Desk_going)
    (x_Desk_move : MFx K CD "move" "Desk.move" s_Desk_move)
    (x_Desk_illegal : MFx K CD "illegal" "Desk.illegal" s_Desk_illegal)
    (x_Desk_can : MFx K CD "can" "Desk.can" s_Desk_can)
    (x_Desk_offer : MFx K CD "offer" "Desk.offer" s_Desk_offer)
    (x_Desk_accept : MFx K CD "accept" "Desk.accept" s_Desk_accept)
    (x_Desk_claim : MFx K CD "claim" "Desk.claim" s_Desk_claim)
    (x_Desk_give : MFx K CD "give" "Desk.give" s_Desk_give)
    (x_Desk_begin : MFx K CD "begin" "Desk.begin" s_Desk_begin)
    (x_Desk_told : MFx K CD "told" "Desk.told" s_Desk_told)
    (x_Desk_answer : MFx K CD "answer" "Desk.answer" s_Desk_answer)
    (nums : ∀ H : Hp, SqT K H CN ([0, 3, 4, 1, 2, 1, 1, 1, 1, 0, 0, 0].map V.int))
    (xR : RFx K CR)
    (a3 : PySem.W.nsIn K mainGlobals "answers" = some (some (.ref f3))) (l3 : K.lookup f3 = some ⟨oc3, od3, .func (PySem.W.fnOf "answers" "answers" (defArgs s_answers) (defBody s_answers) (defScope s_answers) .none kV3 dc3 pm3 an3 cd3 ct3), sl3⟩) (c3 : PySem.W.codeIn K cd3 "answers" = true) (k3 : PySem.W.keepIn K (.ref f3) = true) :
    ∃ fd : FuncData, (∀ (s : Shared) (us : List Value), us.length = (["calls"] : List Str).length → BindsTo s fd ⟨us, []⟩ ((["calls"] : List Str).zip us)) ∧ ∀ base : Heap, K.In base → base.Ns mainGlobals mg → FnOk P w K mg base CX0 10 fa fd ["calls"] (spAns K) := by
  have e := hfa.symm.trans (PySem.W.mg_of X G a3)
  cases e
  let cs : Cs := ⟨CM, CT, CP, CD, CR, CN⟩
  have T : Txt K mg cs := {
    cM := clM.cl,
    cT := clT.cl,
    cP := clP.cl,
    cD := clD.cl,
    nM_times := nM_times,
    nM_positions := nM_positions,
    nM_side := nM_side,
    nM_clocks := nM_clocks,
    nM_made := nM_made,
    nM_wrong := nM_wrong,
    nM_could := nM_could,
    nM_offers := nM_offers,
    nM_winner := nM_winner,
    nM_why := nM_why,
    nT_mode := nT_mode,
    nT_extra := nT_extra,
    nT_stretches := nT_stretches,
    nP_stood := nP_stood,
    nP_without := nP_without,
    nD_match := nD_match,
    FIFTH := g_FIFTH.gi X G,
    MOST_WITHOUT := g_MOST_WITHOUT.gi X G,
    THIRD := g_THIRD.gi X G,
    CLAIMED_WITHOUT := g_CLAIMED_WITHOUT.gi X G,
    NOBODY := g_NOBODY.gi X G,
    GOES_ON := g_GOES_ON.gi X G,
    DRAWN := g_DRAWN.gi X G,
    MATE := g_MATE.gi X G,
    GAVE_UP := g_GAVE_UP.gi X G,
    FLAG := g_FLAG.gi X G,
    ILLEGAL := g_ILLEGAL.gi X G,
    AGREED := g_AGREED.gi X G,
    STALEMATE := g_STALEMATE.gi X G,
    NOBODY_MATES := g_NOBODY_MATES.gi X G,
    THIRD_TIME := g_THIRD_TIME.gi X G,
    CLAIMED_LONG := g_CLAIMED_LONG.gi X G,
    FIFTH_TIME := g_FIFTH_TIME.gi X G,
    TOO_LONG := g_TOO_LONG.gi X G,
    MORE_TIME := g_MORE_TIME.gi X G,
    IS_MATE := g_IS_MATE.gi X G,
    IS_STALEMATE := g_IS_STALEMATE.gi X G,
    IS_DEAD := g_IS_DEAD.gi X G,
    ADDED := g_ADDED.gi X G,
    HELD_BACK := g_HELD_BACK.gi X G,
    MOST_STRETCHES := g_MOST_STRETCHES.gi X G,
    MOST_MOVES := g_MOST_MOVES.gi X G,
    MOST_TENTHS := g_MOST_TENTHS.gi X G,
    MOST_MODE := g_MOST_MODE.gi X G,
    MOST_EXTRA := g_MOST_EXTRA.gi X G,
    BAD := g_BAD.gi X G,
    NO_GAME := g_NO_GAME.gi X G,
    NOT_OFFERED := g_NOT_OFFERED.gi X G,
    MOST_USED := g_MOST_USED.gi X G,
    MOST_NUMBER := g_MOST_NUMBER.gi X G,
    MOST_ENDS := g_MOST_ENDS.gi X G,
    BEGIN := g_BEGIN.gi X G,
    b_len := PySem.W.mg_none_of X G b_len,
    b_int := PySem.W.mg_none_of X G b_int,
    b_max := PySem.W.mg_none_of X G b_max,
    b_all := PySem.W.mg_none_of X G b_all,
    b_range := PySem.W.mg_none_of X G b_range,
    b_zip := PySem.W.mg_none_of X G b_zip,
    NUMBERS := PySem.W.mg_of X G aN,
    NUMS := nums,
    gR := PySem.W.mg_of X G aR,
    oR := xR.o,
    xR := xR.x,
    nR_code := xR.n,
    eR := xR.e }
  have t_Positions_init : CTx K mg "Positions" cs.P "Positions.__init__" s_Positions_init ["self", "number"] := x_Positions_init.ctx X G clP aP (fun _ _ _ _ _ _ us hl => match us, hl with | [_, _], _ => rfl)
  have t_Positions_stand : MTx K cs.P "stand" "Positions.stand" s_Positions_stand ["self", "number", "side", "is_fresh"] := x_Positions_stand.tx (fun _ _ _ _ _ _ us hl => match us, hl with | [_, _, _, _], _ => rfl)
  have t_Positions_many_times : MTx K cs.P "many_times" "Positions.many_times" s_Positions_many_times ["self"] := x_Positions_many_times.tx (fun _ _ _ _ _ _ us hl => match us, hl with | [_], _ => rfl)
  have t_Positions_is_fifth : MTx K cs.P "is_fifth" "Positions.is_fifth" s_Positions_is_fifth ["self"] := x_Positions_is_fifth.tx (fun _ _ _ _ _ _ us hl => match us, hl with | [_], _ => rfl)
  have t_Positions_is_long : MTx K cs.P "is_long" "Positions.is_long" s_Positions_is_long ["self"] := x_Positions_is_long.tx (fun _ _ _ _ _ _ us hl => match us, hl with | [_], _ => rfl)
  have t_Positions_is_claimed : MTx K cs.P "is_claimed" "Positions.is_claimed" s_Positions_is_claimed ["self", "claim"] := x_Positions_is_claimed.tx (fun _ _ _ _ _ _ us hl => match us, hl with | [_, _], _ => rfl)
  have t_Positions_told : MTx K cs.P "told" "Positions.told" s_Positions_told ["self"] := x_Positions_told.tx (fun _ _ _ _ _ _ us hl => match us, hl with | [_], _ => rfl)
  have t_Times_init : CTx K mg "Times" cs.T "Times.__init__" s_Times_init ["self", "mode", "extra", "stretches"] := x_Times_init.ctx X G clT aT (fun _ _ _ _ _ _ us hl => match us, hl with | [_, _, _, _], _ => rfl)
  have t_Times_at_first : MTx K cs.T "at_first" "Times.at_first" s_Times_at_first ["self"] := x_Times_at_first.tx (fun _ _ _ _ _ _ us hl => match us, hl with | [_], _ => rfl)
  have t_Times_taken_off : MTx K cs.T "taken_off" "Times.taken_off" s_Times_taken_off ["self", "used"] := x_Times_taken_off.tx (fun _ _ _ _ _ _ us hl => match us, hl with | [_, _], _ => rfl)
  have t_Times_of_stretches : MTx K cs.T "of_stretches" "Times.of_stretches" s_Times_of_stretches ["self", "made"] := x_Times_of_stretches.tx (fun _ _ _ _ _ _ us hl => match us, hl with | [_, _], _ => rfl)
  have t_Times_coming : MTx K cs.T "coming" "Times.coming" s_Times_coming ["self", "made"] := x_Times_coming.tx (fun _ _ _ _ _ _ us hl => match us, hl with | [_, _], _ => rfl)
  have t_pairs_of : FTx K mg "pairs_of" s_pairs_of ["row"] := x_pairs_of.tx X G (fun _ _ _ _ _ _ us hl => match us, hl with | [_], _ => rfl)
  have t_are_stretches : FTx K mg "are_stretches" s_are_stretches ["row"] := x_are_stretches.tx X G (fun _ _ _ _ _ _ us hl => match us, hl with | [_], _ => rfl)
  have t_Match_is_over : MTx K cs.M "is_over" "Match.is_over" s_Match_is_over ["self"] := x_Match_is_over.tx (fun _ _ _ _ _ _ us hl => match us, hl with | [_], _ => rfl)
  have t_Match_end : MTx K cs.M "end" "Match.end" s_Match_end ["self", "winner", "why"] := x_Match_end.tx (fun _ _ _ _ _ _ us hl => match us, hl with | [_, _, _], _ => rfl)
  have t_Match_lose : MTx K cs.M "lose" "Match.lose" s_Match_lose ["self", "side", "why"] := x_Match_lose.tx (fun _ _ _ _ _ _ us hl => match us, hl with | [_, _, _], _ => rfl)
  have t_Match_does_take_off : MTx K cs.M "does_take_off" "Match.does_take_off" s_Match_does_take_off ["self", "used"] := x_Match_does_take_off.tx (fun _ _ _ _ _ _ us hl => match us, hl with | [_, _], _ => rfl)
  have t_Match_end_by_move : MTx K cs.M "end_by_move" "Match.end_by_move" s_Match_end_by_move ["self", "mover", "ends"] := x_Match_end_by_move.tx (fun _ _ _ _ _ _ us hl => match us, hl with | [_, _, _], _ => rfl)
  have t_Match_give_time : MTx K cs.M "give_time" "Match.give_time" s_Match_give_time ["self", "side"] := x_Match_give_time.tx (fun _ _ _ _ _ _ us hl => match us, hl with | [_, _], _ => rfl)
  have t_Match_move : MTx K cs.M "move" "Match.move" s_Match_move ["self", "used", "number", "is_fresh", "ends"] := x_Match_move.tx (fun _ _ _ _ _ _ us hl => match us, hl with | [_, _, _, _, _], _ => rfl)
  have t_Match_illegal : MTx K cs.M "illegal" "Match.illegal" s_Match_illegal ["self", "used"] := x_Match_illegal.tx (fun _ _ _ _ _ _ us hl => match us, hl with | [_, _], _ => rfl)
  have t_Match_claim : MTx K cs.M "claim" "Match.claim" s_Match_claim ["self", "claim"] := x_Match_claim.tx (fun _ _ _ _ _ _ us hl => match us, hl with | [_, _], _ => rfl)
  have t_Match_stands : MTx K cs.M "stands" "Match.stands" s_Match_stands ["self"] := x_Match_stands.tx (fun _ _ _ _ _ _ us hl => match us, hl with | [_], _ => rfl)
  have t_Match_told : MTx K cs.M "told" "Match.told" s_Match_told ["self"] := x_Match_told.tx (fun _ _ _ _ _ _ us hl => match us, hl with | [_], _ => rfl)
  have t_Match_stretches_told : MTx K cs.M "stretches_told" "Match.stretches_told" s_Match_stretches_told ["self"] := x_Match_stretches_told.tx (fun _ _ _ _ _ _ us hl => match us, hl with | [_], _ => rfl)
  have t_Match_init : CTx K mg "Match" cs.M "Match.__init__" s_Match_init ["self", "times", "number"] := x_Match_init.ctx X G clM aM (fun _ _ _ _ _ _ us hl => match us, hl with | [_, _, _], _ => rfl)
  have t_want : FTx K mg "want" s_want ["truth", "code"] := x_want.tx X G (fun _ _ _ _ _ _ us hl => match us, hl with | [_, _], _ => rfl)
  have t_want_within : FTx K mg "want_within" s_want_within ["number", "most"] := x_want_within.tx X G (fun _ _ _ _ _ _ us hl => match us, hl with | [_, _], _ => rfl)
  have t_Desk_init : CTx K mg "Desk" cs.D "Desk.__init__" s_Desk_init ["self"] := x_Desk_init.ctx X G clD aD (fun _ _ _ _ _ _ us hl => match us, hl with | [_], _ => rfl)
  have t_Desk_game : MTx K cs.D "game" "Desk.game" s_Desk_game ["self"] := x_Desk_game.tx (fun _ _ _ _ _ _ us hl => match us, hl with | [_], _ => rfl)
  have t_Desk_going : MTx K cs.D "going" "Desk.going" s_Desk_going ["self"] := x_Desk_going.tx (fun _ _ _ _ _ _ us hl => match us, hl with | [_], _ => rfl)
  have t_Desk_move : MTx K cs.D "move" "Desk.move" s_Desk_move ["self", "used", "number", "fresh", "ends"] := x_Desk_move.tx (fun _ _ _ _ _ _ us hl => match us, hl with | [_, _, _, _, _], _ => rfl)
  have t_Desk_illegal : MTx K cs.D "illegal" "Desk.illegal" s_Desk_illegal ["self", "used"] := x_Desk_illegal.tx (fun _ _ _ _ _ _ us hl => match us, hl with | [_, _], _ => rfl)
  have t_Desk_can : MTx K cs.D "can" "Desk.can" s_Desk_can ["self", "side", "could"] := x_Desk_can.tx (fun _ _ _ _ _ _ us hl => match us, hl with | [_, _, _], _ => rfl)
  have t_Desk_offer : MTx K cs.D "offer" "Desk.offer" s_Desk_offer ["self", "side"] := x_Desk_offer.tx (fun _ _ _ _ _ _ us hl => match us, hl with | [_, _], _ => rfl)
  have t_Desk_accept : MTx K cs.D "accept" "Desk.accept" s_Desk_accept ["self", "side"] := x_Desk_accept.tx (fun _ _ _ _ _ _ us hl => match us, hl with | [_, _], _ => rfl)
  have t_Desk_claim : MTx K cs.D "claim" "Desk.claim" s_Desk_claim ["self", "claim"] := x_Desk_claim.tx (fun _ _ _ _ _ _ us hl => match us, hl with | [_, _], _ => rfl)
  have t_Desk_give : MTx K cs.D "give" "Desk.give" s_Desk_give ["self", "side"] := x_Desk_give.tx (fun _ _ _ _ _ _ us hl => match us, hl with | [_, _], _ => rfl)
  have t_Desk_begin : MTx K cs.D "begin" "Desk.begin" s_Desk_begin ["self", "mode", "extra", "number", "row"] := x_Desk_begin.tx (fun _ _ _ _ _ _ us hl => match us, hl with | [_, _, _, _, _], _ => rfl)
  have t_Desk_told : MTx K cs.D "told" "Desk.told" s_Desk_told ["self", "call", "n"] := x_Desk_told.tx (fun _ _ _ _ _ _ us hl => match us, hl with | [_, _, _], _ => rfl)
  have t_Desk_answer : MTx K cs.D "answer" "Desk.answer" s_Desk_answer ["self", "call", "n", "row"] := x_Desk_answer.tx (fun _ _ _ _ _ _ us hl => match us, hl with | [_, _, _, _], _ => rfl)
  refine ⟨PySem.W.fnOf "answers" "answers" (defArgs s_answers) (defBody s_answers) (defScope s_answers) .none kV3 dc3 pm3 an3 cd3 ct3, fun s us hu => match us, hu with | [_], _ => .of_eq rfl, fun base _ _ => ?_⟩
  have r_ : ROk P w K mg base cs := ok_Refused_init (RFx.tx (cs := cs) xR) T
  have k_Positions : COk P w K mg base 1 "Positions" cs.P ["self", "number"] (sp_Positions_init cs K) := ok_Positions_init t_Positions_init T 
  have m_Positions_stand : MOk P w K mg base CX0 1 cs.P "stand" ["self", "number", "side", "is_fresh"] (sp_Positions_stand cs K) := ok_Positions_stand t_Positions_stand T 
  have m_Positions_many_times : MOk P w K mg base CX0 1 cs.P "many_times" ["self"] (sp_Positions_many_times cs K) := ok_Positions_many_times t_Positions_many_times T 
  have m_Positions_is_fifth : MOk P w K mg base CX0 2 cs.P "is_fifth" ["self"] (sp_Positions_is_fifth cs K) := ok_Positions_is_fifth t_Positions_is_fifth T m_Positions_many_times
  have m_Positions_is_long : MOk P w K mg base CX0 1 cs.P "is_long" ["self"] (sp_Positions_is_long cs K) := ok_Positions_is_long t_Positions_is_long T 
  have m_Positions_is_claimed : MOk P w K mg base CX0 2 cs.P "is_claimed" ["self", "claim"] (sp_Positions_is_claimed cs K) := ok_Positions_is_claimed t_Positions_is_claimed T m_Positions_many_times
  have m_Positions_told : MOk P w K mg base CX0 2 cs.P "told" ["self"] (sp_Positions_told cs K) := ok_Positions_told t_Positions_told T m_Positions_many_times
  have k_Times : COk P w K mg base 1 "Times" cs.T ["self", "mode", "extra", "stretches"] (sp_Times_init cs K) := ok_Times_init t_Times_init T 
  have m_Times_at_first : MOk P w K mg base CX0 1 cs.T "at_first" ["self"] (sp_Times_at_first cs K) := ok_Times_at_first t_Times_at_first T 
  have m_Times_taken_off : MOk P w K mg base CX0 1 cs.T "taken_off" ["self", "used"] (sp_Times_taken_off cs K) := ok_Times_taken_off t_Times_taken_off T 
  have m_Times_of_stretches : MOk P w K mg base CX0 1 cs.T "of_stretches" ["self", "made"] (sp_Times_of_stretches cs K) := ok_Times_of_stretches t_Times_of_stretches T 
  have m_Times_coming : MOk P w K mg base CX0 2 cs.T "coming" ["self", "made"] (sp_Times_coming cs K) := ok_Times_coming t_Times_coming T m_Times_of_stretches
  have f_pairs_of : FOk P w K mg base CX0 1 "pairs_of" ["row"] (sp_pairs_of cs K) := ok_pairs_of t_pairs_of T 
  have f_are_stretches : FOk P w K mg base CX0 2 "are_stretches" ["row"] (sp_are_stretches cs K) := ok_are_stretches t_are_stretches T f_pairs_of
  have m_Match_is_over : MOk P w K mg base CX0 1 cs.M "is_over" ["self"] (sp_Match_is_over cs K) := ok_Match_is_over t_Match_is_over T 
  have m_Match_end : MOk P w K mg base CX0 1 cs.M "end" ["self", "winner", "why"] (sp_Match_end cs K) := ok_Match_end t_Match_end T 
  have m_Match_lose : MOk P w K mg base CX0 2 cs.M "lose" ["self", "side", "why"] (sp_Match_lose cs K) := ok_Match_lose t_Match_lose T m_Match_end
  have m_Match_does_take_off : MOk P w K mg base CX0 3 cs.M "does_take_off" ["self", "used"] (sp_Match_does_take_off cs K) := ok_Match_does_take_off t_Match_does_take_off T m_Times_taken_off m_Match_lose
  have m_Match_end_by_move : MOk P w K mg base CX0 3 cs.M "end_by_move" ["self", "mover", "ends"] (sp_Match_end_by_move cs K) := ok_Match_end_by_move t_Match_end_by_move T m_Match_end m_Positions_is_fifth m_Positions_is_long
  have m_Match_give_time : MOk P w K mg base CX0 1 cs.M "give_time" ["self", "side"] (sp_Match_give_time cs K) := ok_Match_give_time t_Match_give_time T 
  have m_Match_move : MOk P w K mg base CX0 4 cs.M "move" ["self", "used", "number", "is_fresh", "ends"] (sp_Match_move cs K) := ok_Match_move t_Match_move T m_Match_does_take_off m_Times_coming m_Positions_stand m_Match_end_by_move
  have m_Match_illegal : MOk P w K mg base CX0 4 cs.M "illegal" ["self", "used"] (sp_Match_illegal cs K) := ok_Match_illegal t_Match_illegal T m_Match_does_take_off m_Match_give_time m_Match_lose
  have m_Match_claim : MOk P w K mg base CX0 3 cs.M "claim" ["self", "claim"] (sp_Match_claim cs K) := ok_Match_claim t_Match_claim T m_Positions_is_claimed m_Match_end m_Match_give_time
  have m_Match_stands : MOk P w K mg base CX0 2 cs.M "stands" ["self"] (sp_Match_stands cs K) := ok_Match_stands t_Match_stands T m_Match_is_over
  have m_Match_told : MOk P w K mg base CX0 3 cs.M "told" ["self"] (sp_Match_told cs K) := ok_Match_told t_Match_told T m_Match_stands
  have m_Match_stretches_told : MOk P w K mg base CX0 2 cs.M "stretches_told" ["self"] (sp_Match_stretches_told cs K) := ok_Match_stretches_told t_Match_stretches_told T m_Times_of_stretches
  have k_Match : COk P w K mg base 4 "Match" cs.M ["self", "times", "number"] (sp_Match_init cs K) := ok_Match_init t_Match_init T k_Positions m_Times_at_first
  have f_want : FOk P w K mg base (L2.CX P w) 4 "want" ["truth", "code"] (sp_want cs K) := ok_want t_want T r_
  have f_want_within : FOk P w K mg base (L2.CX P w) 5 "want_within" ["number", "most"] (sp_want_within cs K) := ok_want_within t_want_within T f_want
  have k_Desk : COk P w K mg base 1 "Desk" cs.D ["self"] (sp_Desk_init cs K) := ok_Desk_init t_Desk_init T 
  have m_Desk_game : MOk P w K mg base (L2.CX P w) 5 cs.D "game" ["self"] (sp_Desk_game cs K) := ok_Desk_game t_Desk_game T f_want
  have m_Desk_going : MOk P w K mg base (L2.CX P w) 6 cs.D "going" ["self"] (sp_Desk_going cs K) := ok_Desk_going t_Desk_going T f_want m_Match_is_over m_Desk_game
  have m_Desk_move : MOk P w K mg base (L2.CX P w) 7 cs.D "move" ["self", "used", "number", "fresh", "ends"] (sp_Desk_move cs K) := ok_Desk_move t_Desk_move T f_want_within m_Desk_going m_Match_move m_Match_stands
  have m_Desk_illegal : MOk P w K mg base (L2.CX P w) 7 cs.D "illegal" ["self", "used"] (sp_Desk_illegal cs K) := ok_Desk_illegal t_Desk_illegal T f_want_within m_Desk_going m_Match_illegal m_Match_stands
  have m_Desk_can : MOk P w K mg base (L2.CX P w) 7 cs.D "can" ["self", "side", "could"] (sp_Desk_can cs K) := ok_Desk_can t_Desk_can T f_want_within m_Desk_going
  have m_Desk_offer : MOk P w K mg base (L2.CX P w) 7 cs.D "offer" ["self", "side"] (sp_Desk_offer cs K) := ok_Desk_offer t_Desk_offer T f_want_within m_Desk_going f_want
  have m_Desk_accept : MOk P w K mg base (L2.CX P w) 7 cs.D "accept" ["self", "side"] (sp_Desk_accept cs K) := ok_Desk_accept t_Desk_accept T f_want_within m_Desk_going f_want m_Match_end m_Match_stands
  have m_Desk_claim : MOk P w K mg base (L2.CX P w) 7 cs.D "claim" ["self", "claim"] (sp_Desk_claim cs K) := ok_Desk_claim t_Desk_claim T f_want_within m_Desk_going m_Match_claim m_Match_stands
  have m_Desk_give : MOk P w K mg base (L2.CX P w) 7 cs.D "give" ["self", "side"] (sp_Desk_give cs K) := ok_Desk_give t_Desk_give T f_want_within m_Desk_going m_Match_lose m_Match_stands
  have m_Desk_begin : MOk P w K mg base (L2.CX P w) 7 cs.D "begin" ["self", "mode", "extra", "number", "row"] (sp_Desk_begin cs K) := ok_Desk_begin t_Desk_begin T f_want_within f_want f_are_stretches k_Match k_Times f_pairs_of
  have m_Desk_told : MOk P w K mg base (L2.CX P w) 8 cs.D "told" ["self", "call", "n"] (sp_Desk_told cs K) := ok_Desk_told t_Desk_told T m_Desk_move m_Desk_illegal m_Desk_can m_Desk_offer m_Desk_accept m_Desk_claim m_Desk_give m_Match_told m_Desk_game m_Match_stretches_told m_Positions_told
  have m_Desk_answer : MOk P w K mg base CX0 9 cs.D "answer" ["self", "call", "n", "row"] (sp_Desk_answer cs K) := ok_Desk_answer t_Desk_answer T m_Desk_begin m_Desk_told
  exact ok_answers (fun_mk (st := s_answers) l3 c3 k3) T k_Desk m_Desk_answer
end Ck

open PySem PySem.W PyProof.Rows
set_option maxRecDepth 100000 in
set_option maxHeartbeats 8000000 in
theorem PySem.Challenge.cw_clockarbiter_s01_answers_holds : PySem.Challenge.rw_clockarbiter_s01_answers.Holds := by
  w_on; k_headR; (case hw => exact ⟨[.list [.int 9]], by decide +kernel, by decide +kernel⟩)
  k_fillS
  refine L2.walk_specK (r := PySem.Challenge.rw_clockarbiter_s01_answers) (k := 10) (CX := L2.CX0) (ps := ["calls"]) (sp := Ck.spAns) (by decide +kernel) rfl rfl ⟨rfl, by decide, by decide⟩ (fun w h Y => PySem.W.kIn_of Y) ?F ?S (fun _ _ _ _ z => z)
  case F =>
    intro w mg fa h Y KX G hmg
    refine' Ck.all_mk KX G hmg ?aM ?aT ?aP ?aD ?aR ?aN ?clM ?clT ?clP ?clD ?nM_times ?nM_positions ?nM_side ?nM_clocks ?nM_made ?nM_wrong ?nM_could ?nM_offers ?nM_winner ?nM_why ?nT_mode ?nT_extra ?nT_stretches ?nP_stood ?nP_without ?nD_match ?g_FIFTH ?g_MOST_WITHOUT ?g_THIRD ?g_CLAIMED_WITHOUT ?g_NOBODY ?g_GOES_ON ?g_DRAWN ?g_MATE ?g_GAVE_UP ?g_FLAG ?g_ILLEGAL ?g_AGREED ?g_STALEMATE ?g_NOBODY_MATES ?g_THIRD_TIME ?g_CLAIMED_LONG ?g_FIFTH_TIME ?g_TOO_LONG ?g_MORE_TIME ?g_IS_MATE ?g_IS_STALEMATE ?g_IS_DEAD ?g_ADDED ?g_HELD_BACK ?g_MOST_STRETCHES ?g_MOST_MOVES ?g_MOST_TENTHS ?g_MOST_MODE ?g_MOST_EXTRA ?g_BAD ?g_NO_GAME ?g_NOT_OFFERED ?g_MOST_USED ?g_MOST_NUMBER ?g_MOST_ENDS ?g_BEGIN ?b_len ?b_int ?b_max ?b_all ?b_range ?b_zip ?x_Positions_init ?x_Positions_stand ?x_Positions_many_times ?x_Positions_is_fifth ?x_Positions_is_long ?x_Positions_is_claimed ?x_Positions_told ?x_Times_init ?x_Times_at_first ?x_Times_taken_off ?x_Times_of_stretches ?x_Times_coming ?x_pairs_of ?x_are_stretches ?x_Match_is_over ?x_Match_end ?x_Match_lose ?x_Match_does_take_off ?x_Match_end_by_move ?x_Match_give_time ?x_Match_move ?x_Match_illegal ?x_Match_claim ?x_Match_stands ?x_Match_told ?x_Match_stretches_told ?x_Match_init ?x_want ?x_want_within ?x_Desk_init ?x_Desk_game ?x_Desk_going ?x_Desk_move ?x_Desk_illegal ?x_Desk_can ?x_Desk_offer ?x_Desk_accept ?x_Desk_claim ?x_Desk_give ?x_Desk_begin ?x_Desk_told ?x_Desk_answer ?nums ?xR ?a3 ?l3 ?c3 ?k3
    (case aM => k_is)
    (case aT => k_is)
    (case aP => k_is)
    (case aD => k_is)
    (case aR => k_is)
    (case aN => k_is)
    (case clM => refine' Ck.cfx ?z1 ?z2 ?z3 ?z4 ?z5 ?z6; (case z1 => k_is); (case z2 => k_is); (case z3 => k_is); (case z4 => k_is); (case z5 => k_is); (case z6 => k_is))
    (case clT => refine' Ck.cfx ?z1 ?z2 ?z3 ?z4 ?z5 ?z6; (case z1 => k_is); (case z2 => k_is); (case z3 => k_is); (case z4 => k_is); (case z5 => k_is); (case z6 => k_is))
    (case clP => refine' Ck.cfx ?z1 ?z2 ?z3 ?z4 ?z5 ?z6; (case z1 => k_is); (case z2 => k_is); (case z3 => k_is); (case z4 => k_is); (case z5 => k_is); (case z6 => k_is))
    (case clD => refine' Ck.cfx ?z1 ?z2 ?z3 ?z4 ?z5 ?z6; (case z1 => k_is); (case z2 => k_is); (case z3 => k_is); (case z4 => k_is); (case z5 => k_is); (case z6 => k_is))
    (case nM_times => unfold L2.NoAttr; k_is)
    (case nM_positions => unfold L2.NoAttr; k_is)
    (case nM_side => unfold L2.NoAttr; k_is)
    (case nM_clocks => unfold L2.NoAttr; k_is)
    (case nM_made => unfold L2.NoAttr; k_is)
    (case nM_wrong => unfold L2.NoAttr; k_is)
    (case nM_could => unfold L2.NoAttr; k_is)
    (case nM_offers => unfold L2.NoAttr; k_is)
    (case nM_winner => unfold L2.NoAttr; k_is)
    (case nM_why => unfold L2.NoAttr; k_is)
    (case nT_mode => unfold L2.NoAttr; k_is)
    (case nT_extra => unfold L2.NoAttr; k_is)
    (case nT_stretches => unfold L2.NoAttr; k_is)
    (case nP_stood => unfold L2.NoAttr; k_is)
    (case nP_without => unfold L2.NoAttr; k_is)
    (case nD_match => unfold L2.NoAttr; k_is)
    (case g_FIFTH => refine' Ck.gfx ?z1; (case z1 => k_is))
    (case g_MOST_WITHOUT => refine' Ck.gfx ?z1; (case z1 => k_is))
    (case g_THIRD => refine' Ck.gfx ?z1; (case z1 => k_is))
    (case g_CLAIMED_WITHOUT => refine' Ck.gfx ?z1; (case z1 => k_is))
    (case g_NOBODY => refine' Ck.gfx ?z1; (case z1 => k_is))
    (case g_GOES_ON => refine' Ck.gfx ?z1; (case z1 => k_is))
    (case g_DRAWN => refine' Ck.gfx ?z1; (case z1 => k_is))
    (case g_MATE => refine' Ck.gfx ?z1; (case z1 => k_is))
    (case g_GAVE_UP => refine' Ck.gfx ?z1; (case z1 => k_is))
    (case g_FLAG => refine' Ck.gfx ?z1; (case z1 => k_is))
    (case g_ILLEGAL => refine' Ck.gfx ?z1; (case z1 => k_is))
    (case g_AGREED => refine' Ck.gfx ?z1; (case z1 => k_is))
    (case g_STALEMATE => refine' Ck.gfx ?z1; (case z1 => k_is))
    (case g_NOBODY_MATES => refine' Ck.gfx ?z1; (case z1 => k_is))
    (case g_THIRD_TIME => refine' Ck.gfx ?z1; (case z1 => k_is))
    (case g_CLAIMED_LONG => refine' Ck.gfx ?z1; (case z1 => k_is))
    (case g_FIFTH_TIME => refine' Ck.gfx ?z1; (case z1 => k_is))
    (case g_TOO_LONG => refine' Ck.gfx ?z1; (case z1 => k_is))
    (case g_MORE_TIME => refine' Ck.gfx ?z1; (case z1 => k_is))
    (case g_IS_MATE => refine' Ck.gfx ?z1; (case z1 => k_is))
    (case g_IS_STALEMATE => refine' Ck.gfx ?z1; (case z1 => k_is))
    (case g_IS_DEAD => refine' Ck.gfx ?z1; (case z1 => k_is))
    (case g_ADDED => refine' Ck.gfx ?z1; (case z1 => k_is))
    (case g_HELD_BACK => refine' Ck.gfx ?z1; (case z1 => k_is))
    (case g_MOST_STRETCHES => refine' Ck.gfx ?z1; (case z1 => k_is))
    (case g_MOST_MOVES => refine' Ck.gfx ?z1; (case z1 => k_is))
    (case g_MOST_TENTHS => refine' Ck.gfx ?z1; (case z1 => k_is))
    (case g_MOST_MODE => refine' Ck.gfx ?z1; (case z1 => k_is))
    (case g_MOST_EXTRA => refine' Ck.gfx ?z1; (case z1 => k_is))
    (case g_BAD => refine' Ck.gfx ?z1; (case z1 => k_is))
    (case g_NO_GAME => refine' Ck.gfx ?z1; (case z1 => k_is))
    (case g_NOT_OFFERED => refine' Ck.gfx ?z1; (case z1 => k_is))
    (case g_MOST_USED => refine' Ck.gfx ?z1; (case z1 => k_is))
    (case g_MOST_NUMBER => refine' Ck.gfx ?z1; (case z1 => k_is))
    (case g_MOST_ENDS => refine' Ck.gfx ?z1; (case z1 => k_is))
    (case g_BEGIN => refine' Ck.gfx ?z1; (case z1 => k_is))
    (case b_len => k_is)
    (case b_int => k_is)
    (case b_max => k_is)
    (case b_all => k_is)
    (case b_range => k_is)
    (case b_zip => k_is)
    (case x_Positions_init => refine' Ck.mfx ?z1 ?z2 ?z3 ?z4 ?z5; (case z1 => k_is); (case z2 => k_is); (case z3 => k_is); (case z4 => k_is); (case z5 => k_is))
    (case x_Positions_stand => refine' Ck.mfx ?z1 ?z2 ?z3 ?z4 ?z5; (case z1 => k_is); (case z2 => k_is); (case z3 => k_is); (case z4 => k_is); (case z5 => k_is))
    (case x_Positions_many_times => refine' Ck.mfx ?z1 ?z2 ?z3 ?z4 ?z5; (case z1 => k_is); (case z2 => k_is); (case z3 => k_is); (case z4 => k_is); (case z5 => k_is))
    (case x_Positions_is_fifth => refine' Ck.mfx ?z1 ?z2 ?z3 ?z4 ?z5; (case z1 => k_is); (case z2 => k_is); (case z3 => k_is); (case z4 => k_is); (case z5 => k_is))
    (case x_Positions_is_long => refine' Ck.mfx ?z1 ?z2 ?z3 ?z4 ?z5; (case z1 => k_is); (case z2 => k_is); (case z3 => k_is); (case z4 => k_is); (case z5 => k_is))
    (case x_Positions_is_claimed => refine' Ck.mfx ?z1 ?z2 ?z3 ?z4 ?z5; (case z1 => k_is); (case z2 => k_is); (case z3 => k_is); (case z4 => k_is); (case z5 => k_is))
    (case x_Positions_told => refine' Ck.mfx ?z1 ?z2 ?z3 ?z4 ?z5; (case z1 => k_is); (case z2 => k_is); (case z3 => k_is); (case z4 => k_is); (case z5 => k_is))
    (case x_Times_init => refine' Ck.mfx ?z1 ?z2 ?z3 ?z4 ?z5; (case z1 => k_is); (case z2 => k_is); (case z3 => k_is); (case z4 => k_is); (case z5 => k_is))
    (case x_Times_at_first => refine' Ck.mfx ?z1 ?z2 ?z3 ?z4 ?z5; (case z1 => k_is); (case z2 => k_is); (case z3 => k_is); (case z4 => k_is); (case z5 => k_is))
    (case x_Times_taken_off => refine' Ck.mfx ?z1 ?z2 ?z3 ?z4 ?z5; (case z1 => k_is); (case z2 => k_is); (case z3 => k_is); (case z4 => k_is); (case z5 => k_is))
    (case x_Times_of_stretches => refine' Ck.mfx ?z1 ?z2 ?z3 ?z4 ?z5; (case z1 => k_is); (case z2 => k_is); (case z3 => k_is); (case z4 => k_is); (case z5 => k_is))
    (case x_Times_coming => refine' Ck.mfx ?z1 ?z2 ?z3 ?z4 ?z5; (case z1 => k_is); (case z2 => k_is); (case z3 => k_is); (case z4 => k_is); (case z5 => k_is))
    (case x_pairs_of => refine' Ck.ffx ?z1 ?z2 ?z3 ?z4; (case z1 => k_is); (case z2 => k_is); (case z3 => k_is); (case z4 => k_is))
    (case x_are_stretches => refine' Ck.ffx ?z1 ?z2 ?z3 ?z4; (case z1 => k_is); (case z2 => k_is); (case z3 => k_is); (case z4 => k_is))
    (case x_Match_is_over => refine' Ck.mfx ?z1 ?z2 ?z3 ?z4 ?z5; (case z1 => k_is); (case z2 => k_is); (case z3 => k_is); (case z4 => k_is); (case z5 => k_is))
    (case x_Match_end => refine' Ck.mfx ?z1 ?z2 ?z3 ?z4 ?z5; (case z1 => k_is); (case z2 => k_is); (case z3 => k_is); (case z4 => k_is); (case z5 => k_is))
    (case x_Match_lose => refine' Ck.mfx ?z1 ?z2 ?z3 ?z4 ?z5; (case z1 => k_is); (case z2 => k_is); (case z3 => k_is); (case z4 => k_is); (case z5 => k_is))
    (case x_Match_does_take_off => refine' Ck.mfx ?z1 ?z2 ?z3 ?z4 ?z5; (case z1 => k_is); (case z2 => k_is); (case z3 => k_is); (case z4 => k_is); (case z5 => k_is))
    (case x_Match_end_by_move => refine' Ck.mfx ?z1 ?z2 ?z3 ?z4 ?z5; (case z1 => k_is); (case z2 => k_is); (case z3 => k_is); (case z4 => k_is); (case z5 => k_is))
    (case x_Match_give_time => refine' Ck.mfx ?z1 ?z2 ?z3 ?z4 ?z5; (case z1 => k_is); (case z2 => k_is); (case z3 => k_is); (case z4 => k_is); (case z5 => k_is))
    (case x_Match_move => refine' Ck.mfx ?z1 ?z2 ?z3 ?z4 ?z5; (case z1 => k_is); (case z2 => k_is); (case z3 => k_is); (case z4 => k_is); (case z5 => k_is))
    (case x_Match_illegal => refine' Ck.mfx ?z1 ?z2 ?z3 ?z4 ?z5; (case z1 => k_is); (case z2 => k_is); (case z3 => k_is); (case z4 => k_is); (case z5 => k_is))
    (case x_Match_claim => refine' Ck.mfx ?z1 ?z2 ?z3 ?z4 ?z5; (case z1 => k_is); (case z2 => k_is); (case z3 => k_is); (case z4 => k_is); (case z5 => k_is))
    (case x_Match_stands => refine' Ck.mfx ?z1 ?z2 ?z3 ?z4 ?z5; (case z1 => k_is); (case z2 => k_is); (case z3 => k_is); (case z4 => k_is); (case z5 => k_is))
    (case x_Match_told => refine' Ck.mfx ?z1 ?z2 ?z3 ?z4 ?z5; (case z1 => k_is); (case z2 => k_is); (case z3 => k_is); (case z4 => k_is); (case z5 => k_is))
    (case x_Match_stretches_told => refine' Ck.mfx ?z1 ?z2 ?z3 ?z4 ?z5; (case z1 => k_is); (case z2 => k_is); (case z3 => k_is); (case z4 => k_is); (case z5 => k_is))
    (case x_Match_init => refine' Ck.mfx ?z1 ?z2 ?z3 ?z4 ?z5; (case z1 => k_is); (case z2 => k_is); (case z3 => k_is); (case z4 => k_is); (case z5 => k_is))
    (case x_want => refine' Ck.ffx ?z1 ?z2 ?z3 ?z4; (case z1 => k_is); (case z2 => k_is); (case z3 => k_is); (case z4 => k_is))
    (case x_want_within => refine' Ck.ffx ?z1 ?z2 ?z3 ?z4; (case z1 => k_is); (case z2 => k_is); (case z3 => k_is); (case z4 => k_is))
    (case x_Desk_init => refine' Ck.mfx ?z1 ?z2 ?z3 ?z4 ?z5; (case z1 => k_is); (case z2 => k_is); (case z3 => k_is); (case z4 => k_is); (case z5 => k_is))
    (case x_Desk_game => refine' Ck.mfx ?z1 ?z2 ?z3 ?z4 ?z5; (case z1 => k_is); (case z2 => k_is); (case z3 => k_is); (case z4 => k_is); (case z5 => k_is))
    (case x_Desk_going => refine' Ck.mfx ?z1 ?z2 ?z3 ?z4 ?z5; (case z1 => k_is); (case z2 => k_is); (case z3 => k_is); (case z4 => k_is); (case z5 => k_is))
    (case x_Desk_move => refine' Ck.mfx ?z1 ?z2 ?z3 ?z4 ?z5; (case z1 => k_is); (case z2 => k_is); (case z3 => k_is); (case z4 => k_is); (case z5 => k_is))
    (case x_Desk_illegal => refine' Ck.mfx ?z1 ?z2 ?z3 ?z4 ?z5; (case z1 => k_is); (case z2 => k_is); (case z3 => k_is); (case z4 => k_is); (case z5 => k_is))
    (case x_Desk_can => refine' Ck.mfx ?z1 ?z2 ?z3 ?z4 ?z5; (case z1 => k_is); (case z2 => k_is); (case z3 => k_is); (case z4 => k_is); (case z5 => k_is))
    (case x_Desk_offer => refine' Ck.mfx ?z1 ?z2 ?z3 ?z4 ?z5; (case z1 => k_is); (case z2 => k_is); (case z3 => k_is); (case z4 => k_is); (case z5 => k_is))
    (case x_Desk_accept => refine' Ck.mfx ?z1 ?z2 ?z3 ?z4 ?z5; (case z1 => k_is); (case z2 => k_is); (case z3 => k_is); (case z4 => k_is); (case z5 => k_is))
    (case x_Desk_claim => refine' Ck.mfx ?z1 ?z2 ?z3 ?z4 ?z5; (case z1 => k_is); (case z2 => k_is); (case z3 => k_is); (case z4 => k_is); (case z5 => k_is))
    (case x_Desk_give => refine' Ck.mfx ?z1 ?z2 ?z3 ?z4 ?z5; (case z1 => k_is); (case z2 => k_is); (case z3 => k_is); (case z4 => k_is); (case z5 => k_is))
    (case x_Desk_begin => refine' Ck.mfx ?z1 ?z2 ?z3 ?z4 ?z5; (case z1 => k_is); (case z2 => k_is); (case z3 => k_is); (case z4 => k_is); (case z5 => k_is))
    (case x_Desk_told => refine' Ck.mfx ?z1 ?z2 ?z3 ?z4 ?z5; (case z1 => k_is); (case z2 => k_is); (case z3 => k_is); (case z4 => k_is); (case z5 => k_is))
    (case x_Desk_answer => refine' Ck.mfx ?z1 ?z2 ?z3 ?z4 ?z5; (case z1 => k_is); (case z2 => k_is); (case z3 => k_is); (case z4 => k_is); (case z5 => k_is))
    (case nums => refine' Ck.nums_sq ?z1; (case z1 => k_is))
    (case xR => refine' Ck.rfx ?z1 ?z2 ?z3 ?z4 ?z5 ?z6 ?z7 ?z8 ?z9 ?z10 ?z11 ?z12 ?z13 ?z14 ?z15 ?z16; (case z1 => first | k_is | rfl); (case z2 => first | k_is | rfl); (case z3 => first | k_is | rfl); (case z4 => first | k_is | rfl); (case z5 => first | k_is | rfl); (case z6 => first | k_is | rfl); (case z7 => first | k_is | rfl); (case z8 => first | k_is | rfl); (case z9 => first | k_is | rfl); (case z10 => first | k_is | rfl); (case z11 => first | k_is | rfl); (case z12 => first | k_is | rfl); (case z13 => first | k_is | rfl); (case z14 => first | k_is | rfl); (case z15 => first | k_is | rfl); (case z16 => first | k_is | rfl))
    (case a3 => k_is); (case l3 => k_is); (case c3 => k_is); (case k3 => k_is)
  case S =>
    intro K H xs a hO hwi hask hx
    cases hx with
    | cons h1 h2 =>
      cases h2
      cases h1 with
      | lst hs ha =>
        have e := L2.ints_dw a.1 _ ha
        subst e
        have q : ((Codec.inLen 0 6000 a.1 && a.1.all (Codec.inInt (-2147483648) 2147483647)) && true) = true := hwi
        rw [Bool.and_eq_true, Bool.and_eq_true] at q
        exact ⟨_, a.1, rfl, hs, (Codec.inNat_iff.mp q.1.1).2, hask, fun H' p hp => .lst (L2.SqL.of hp) (L2.dw_ints _)⟩
#print axioms PySem.Challenge.cw_clockarbiter_s01_answers_holds
