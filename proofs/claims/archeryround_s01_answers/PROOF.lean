import PyProof.Rows.All
import PyKg64
import Wide.All
import OpenK.AllK
import Wide.FinOn
import Open.SpecLaws
import KE.OsHead
import KE.OsGo
import HandS.Base
import HandS.Call
import HandS.List
import HandS.Comp
import HandS.Ends
import HandS.Dict
import HandS.Iter
import HandS.Words
import HandS.WordsList
import HandS.WordsDict
import HandS.Defaults
import HandS.NoneIn
import HandS.SortInts
import HandS.SortKw
import HandS.Lambda
import HandS.Spec
import HandS.HeadHook4
import PySem.Challenge.RW_archeryround_s01_answers
import HandS.Nested
import KE.SortKeyHeap
import HandS.EndTab
section
set_option autoImplicit false
/-! The mirror: each def of the program as a total function over plain lists. -/
namespace Ar

/-! ### archers.py -/
def pts (a : Int) : Int := if 10 < a then 10 else a
def sumOf (l : List Int) : Int := (l.map pts).sum
def isArrow (a : Int) : Bool := decide (0 ≤ a) && decide (a ≤ 11)
def areArrows (l : List Int) (n : Int) : Bool := decide ((l.length : Int) = n) && l.all isArrow
structure A where
  number : Int
  club : Int
  ends : Int
  arrows : List Int
def A.new (n c : Int) : A := ⟨n, c, 0, []⟩
def A.points (m : A) : Int := sumOf m.arrows
def A.tens (m : A) : Int := ((m.arrows.filter fun a => decide (10 ≤ a)).length : Nat)
def A.inner (m : A) : Int := ((m.arrows.filter fun a => decide (a = 11)).length : Nat)
def A.key (m : A) : List Int := [-m.points, -m.tens, -m.inner, m.number]
def A.take (m : A) (xs : List Int) : A := { m with ends := m.ends + 1, arrows := m.arrows ++ xs }
/-- at most, in the order of the tuples -/
def kle (x y : List Int) : Bool := !Kg64.less y x
def ranked (ms : List A) : List A := ms.mergeSort fun x y => kle x.key y.key
/-- clubs[c] = clubs.get(c, []) + [p] -/
def dput (d : List (Int × List Int)) (c p : Int) : List (Int × List Int) :=
  if (d.any fun e => decide (e.1 = c)) = true then d.map fun e => if e.1 = c then (e.1, e.2 ++ [p]) else e else d ++ [(c, [p])]
def clubDict (ms : List A) : List (Int × List Int) := ms.foldl (fun d m => dput d m.club m.points) []
def best3 (l : List Int) : Int := ((l.mergeSort fun x y => decide (y ≤ x)).take 3).sum
def clubRows (ms : List A) : List (Int × Int) := ((clubDict ms).filter fun e => decide (3 ≤ e.2.length)).map fun e => (e.1, best3 e.2)

/-! ### matches.py -/
structure M where
  first : Int
  second : Int
  sets : Bool
  s0 : Int
  s1 : Int
  ends : Int
  winner : Int
def M.new (a b : Int) (sets : Bool) : M := ⟨a, b, sets, 0, 0, 0, if a = -1 then b else if b = -1 then a else -1⟩
def M.won (m : M) : Bool := decide (m.winner ≠ -1)
def M.loser (m : M) : Int := if m.winner = m.first then m.second else m.first
def M.alike (m : M) : Bool := !m.won && decide (m.ends = 5)
def M.has (m : M) (i : Int) : Bool := decide (i = m.first) || decide (i = m.second)
def M.scoreOf (m : M) (i : Int) : Int := if i = m.first then m.s0 else m.s1
def setPts (l r : Int) : Int × Int := if r < l then (2, 0) else if l < r then (0, 2) else (1, 1)
def M.decide_ (m : M) (d : Int) : M := if 0 < d then { m with winner := m.first } else if d < 0 then { m with winner := m.second } else m
def M.add (m : M) (p : Int × Int) : M := { m with s0 := m.s0 + p.1, s1 := m.s1 + p.2, ends := m.ends + 1 }
def M.over (m : M) : Bool := (m.sets && decide (6 ≤ max m.s0 m.s1)) || decide (m.ends = 5)
def M.worth (m : M) (a b : List Int) : Int × Int := if m.sets = true then setPts (sumOf a) (sumOf b) else (sumOf a, sumOf b)
def M.close (m : M) : M := if m.over = true then m.decide_ (m.s0 - m.s1) else m
def M.shoot (m : M) (a b : List Int) : M := (m.add (m.worth a b)).close
def offDiff (l r nearer : Int) : Int := if pts l - pts r = 0 ∧ nearer = 0 then 1 else if pts l - pts r = 0 ∧ nearer = 1 then -1 else pts l - pts r
def M.shootOff (m : M) (l r nearer : Int) : M := m.decide_ (offDiff l r nearer)
def M.state (m : M) : List Int := [m.s0, m.s1, m.ends, m.winner]
structure B where
  sets : Bool
  seated : List Int
  rounds : List (List M)
def pairs (sets : Bool) : List Int → List M
  | a :: b :: l => M.new a b sets :: pairs sets l
  | _ => []
def atRank (l : List Int) (r : Nat) : Int := if r ≤ l.length then l.getD (r - 1) 0 else -1
def B.new (seated : List Int) (sets : Bool) : B := ⟨sets, seated, [pairs sets ((Kg64.seats (Kg64.size seated.length)).map (atRank seated))]⟩
def B.last (b : B) : List M := b.rounds.getLastD []
def B.prev (b : B) : List M := b.rounds.getD (b.rounds.length - 2) []
def B.lastOfAll (b : B) : Bool := decide (b.last.length = 1) || (decide (b.last.length = 2) && (decide (1 < b.rounds.length) && decide (b.prev.length = 2)))
def B.done (b : B) : Bool := b.lastOfAll && b.last.all M.won
def B.more (b : B) : Bool := b.last.all M.won && !b.lastOfAll
def B.nextSeats (b : B) : List Int := b.last.map (·.winner) ++ if b.last.length = 2 then b.last.map M.loser else []
def B.next (b : B) : B := { b with rounds := b.rounds ++ [pairs b.sets b.nextSeats] }
def B.goOn (b : B) : B := if b.more = true then b.next else b
def B.find (b : B) (i : Int) : Option (Nat × M) := (List.range b.rounds.length).reverse.findSome? fun t => ((b.rounds.getD t []).find? fun m => m.has i).map fun m => (t, m)
def B.standKey (b : B) (i : Int) : List Int := match b.find i with
  | some (t, m) => [-(t : Int), -m.scoreOf i, (b.seated.idxOf i : Nat)]
  | none => []
def B.top (b : B) : List Int := b.last.flatMap fun m => [m.winner, m.loser].filter fun a => decide (a ≠ -1)
def B.others (b : B) : List Int := b.seated.filter fun a => !decide (a ∈ b.top)
def B.places (b : B) : List Int := b.top ++ b.others.mergeSort fun x y => kle (b.standKey x) (b.standKey y)
def B.setLast (b : B) (k : Nat) (m : M) : B := { b with rounds := b.rounds.dropLast ++ [b.last.set k m] }

/-! ### day.py -/
structure D where
  ends : Int
  ac : Int
  archers : List A
  br : Option B
def D.start : D := ⟨0, 0, [], none⟩
def within (i : Int) (n : Nat) : Option Nat := if i < 0 ∨ (n : Int) ≤ i then none else some i.toNat
def D.begin_ (d : D) (e a : Int) (cl : List Int) : D × List Int :=
  if e < 1 ∨ 12 < e ∨ a < 1 ∨ 6 < a then (d, [-1])
  else if cl.length < 2 ∨ 40 < cl.length then (d, [-1])
  else if (cl.any fun c => decide (c < 0) || decide (50 < c)) = true then (d, [-1])
  else (⟨e, a, cl.zipIdx.map fun p => A.new (p.2 : Nat) p.1, none⟩, [(cl.length : Int)])
def D.archer (d : D) (i : Int) : Option (Nat × A) := if i < 0 ∨ (d.archers.length : Int) ≤ i then none else (d.archers[i.toNat]?).map fun m => (i.toNat, m)
def D.end_ (d : D) (i : Int) (l : List Int) : D × List Int := match d.archer i with
  | none => (d, [-1])
  | some (k, m) =>
    if areArrows l d.ac = false then (d, [-1])
    else if d.br.isSome = true then (d, [-3])
    else if d.ends ≤ m.ends then (d, [-5])
    else ({ d with archers := d.archers.set k (m.take l) }, [(m.take l).ends, sumOf l, (m.take l).points])
def D.card (d : D) (i : Int) : List Int := match d.archer i with
  | none => [-1]
  | some (_, m) => [m.ends, m.points, m.tens, m.inner] ++ m.arrows
def D.ranking (d : D) : List Int := (d.archers.length : Int) :: (ranked d.archers).flatMap fun m => [m.number, m.points]
def D.clubs (d : D) : List Int := ((clubRows d.archers).length : Int) :: (clubRows d.archers).flatMap fun r => [r.1, r.2]
def D.order (d : D) : List Int := (ranked d.archers).map (·.number)
def D.cut (d : D) (n s : Int) : D × List Int :=
  if n < 2 ∨ 32 < n ∨ s < 0 ∨ 1 < s then (d, [-1])
  else if d.archers.length = 0 then (d, [-2])
  else if d.br.isSome = true then (d, [-3])
  else if (d.archers.any fun m => decide (m.ends < d.ends)) = true then (d, [-4])
  else if (d.archers.length : Int) < n then (d, [-5])
  else
    let b := B.new (d.order.take n.toNat) (decide (s = 1))
    ({ d with br := some b.goOn }, (b.last.length : Int) :: d.order)
def D.round (b : B) : List Int := (b.rounds.length : Int) :: b.last.flatMap fun m => [m.first, m.second] ++ m.state
def B.matchAt (b : B) (k : Int) : Option (Nat × M) := if k < 0 ∨ (b.last.length : Int) ≤ k then none else (b.last[k.toNat]?).map fun m => (k.toNat, m)
def after (m : M) : List Int := (if m.won = true then 2 else if m.alike = true then 1 else 0) :: m.state
def B.shoot (b : B) (k : Int) (x y : List Int) : B × List Int := match b.matchAt k with
  | none => (b, [-1])
  | some (j, m) =>
    if areArrows x 3 = false ∨ areArrows y 3 = false then (b, [-1])
    else if m.won = true then (b, [-4])
    else if m.alike = true then (b, [-5])
    else ((b.setLast j (m.shoot x y)).goOn, after (m.shoot x y))
def B.off (b : B) (k l r nearer : Int) : B × List Int := match b.matchAt k with
  | none => (b, [-1])
  | some (j, m) =>
    if areArrows [l, r] 2 = false ∨ nearer < 0 ∨ 2 < nearer then (b, [-1])
    else if m.alike = false then (b, [-4])
    else ((b.setLast j (m.shootOff l r nearer)).goOn, after (m.shootOff l r nearer))
def D.places (d : D) (b : B) : List Int :=
  if b.done = false then [-4]
  else (d.archers.length : Int) :: b.places ++ (d.order.filter fun i => !decide (i ∈ b.places))
/-- one call -/
def D.step (d : D) (call : Int) (ns : List Int) (rows : List (List Int)) : D × List Int :=
  if call = 1 then d.begin_ (ns.getD 0 0) (ns.getD 1 0) (rows.getD 0 [])
  else if call = 2 then d.end_ (ns.getD 0 0) (rows.getD 0 [])
  else if call = 3 then (d, d.card (ns.getD 0 0))
  else if call = 4 then (d, d.ranking)
  else if call = 5 then (d, d.clubs)
  else if call = 6 then d.cut (ns.getD 0 0) (ns.getD 1 0)
  else match d.br with
    | none => (d, [-2])
    | some b =>
      if call = 7 then (d, D.round b)
      else if call = 8 then let r := b.shoot (ns.getD 0 0) (rows.getD 0 []) (rows.getD 1 []); ({ d with br := some r.1 }, r.2)
      else if call = 9 then let r := b.off (ns.getD 0 0) (ns.getD 1 0) (ns.getD 2 0) (ns.getD 3 0); ({ d with br := some r.1 }, r.2)
      else (d, d.places b)
end Ar
end
section
set_option autoImplicit false
/-! The order of tuples, sorting by keys. -/
namespace Ar
open Kg64 (less put)

theorem less_irrefl : ∀ a : List Int, less a a = false
  | [] => rfl
  | x :: a => by
    show (decide (x < x) || (x == x && less a a)) = false
    rw [less_irrefl a]
    simp
theorem less_trans : ∀ {a b c : List Int}, less a b = true → less b c = true → less a c = true
  | [], _, _, h, _ => by simp [less] at h
  | _ :: _, [], _, h, _ => by simp [less] at h
  | _ :: _, _ :: _, [], _, h => by simp [less] at h
  | x :: a, y :: b, z :: c, h, k => by
    simp only [less, Bool.or_eq_true, Bool.and_eq_true, decide_eq_true_eq, beq_iff_eq] at h k ⊢
    rcases h with h | ⟨h, h'⟩ <;> rcases k with k | ⟨k, k'⟩
    · exact .inl (by omega)
    · exact .inl (by omega)
    · exact .inl (by omega)
    · exact .inr ⟨by omega, less_trans h' k'⟩
theorem less_tri : ∀ {a b : List Int}, a.length = b.length → less a b = false → less b a = false → a = b
  | [], [], _, _, _ => rfl
  | x :: a, y :: b, hl, h, k => by
    simp only [less, Bool.or_eq_false_iff, Bool.and_eq_false_iff, decide_eq_false_iff_not, beq_eq_false_iff_ne, ne_eq] at h k
    have e : x = y := by omega
    subst e
    have h2 := h.2.resolve_left (by simp)
    have k2 := k.2.resolve_left (by simp)
    rw [less_tri (by simpa using hl) h2 k2]
theorem less_asymm {a b : List Int} (h : less a b = true) : less b a = false := by
  cases k : less b a with
  | false => rfl
  | true =>
    have := less_trans h k
    rw [less_irrefl] at this
    cases this
theorem kle_trans {a b c : List Int} (hl : a.length = b.length) (hm : b.length = c.length) (h : kle a b = true) (k : kle b c = true) : kle a c = true := by
  unfold kle at *
  simp only [Bool.not_eq_true'] at *
  cases e : less c a with
  | false => rfl
  | true =>
    cases e2 : less a b with
    | true =>
      rw [less_trans e e2] at k
      cases k
    | false =>
      have := less_tri hl e2 h
      subst this
      rw [e] at k
      cases k
theorem kle_total (a b : List Int) : (kle a b || kle b a) = true := by
  unfold kle
  cases e : less b a with
  | false => simp
  | true => simp [less_asymm e]

/-! ### sorted, strictly by a key -/
section
variable {α : Type} {key : α → List Int}
def Ord (key : α → List Int) (l : List α) : Prop := l.Pairwise fun x y => less (key x) (key y) = true
theorem Ord.unique : ∀ {l m : List α}, Ord key l → Ord key m → l.Perm m → l = m
  | [], m, _, _, p => by
    have := p.length_eq
    cases m with
    | nil => rfl
    | cons y m => simp at this
  | x :: l, [], _, _, p => by
    have := p.length_eq
    simp at this
  | x :: l, y :: m, hl, hm, p => by
    have e : x = y := by
      have h1 : x ∈ y :: m := p.mem_iff.mp (List.mem_cons_self ..)
      have h2 : y ∈ x :: l := p.mem_iff.mpr (List.mem_cons_self ..)
      rcases List.mem_cons.mp h1 with e | h1
      · exact e
      rcases List.mem_cons.mp h2 with e | h2
      · exact e.symm
      have a := (List.pairwise_cons.mp hl).1 y h2
      have b := (List.pairwise_cons.mp hm).1 x h1
      have c := less_trans a b
      rw [less_irrefl] at c
      cases c
    subst e
    rw [Ord.unique (List.pairwise_cons.mp hl).2 (List.pairwise_cons.mp hm).2 (List.Perm.cons_inv p)]
/-- keys of one length, no two alike -/
structure Keys (key : α → List Int) (n : Nat) (l : List α) : Prop where
  len : ∀ x ∈ l, (key x).length = n
  nd : l.Pairwise fun x y => key x ≠ key y
theorem Keys.of_perm {n : Nat} {l m : List α} (h : Keys key n l) (p : l.Perm m) : Keys key n m :=
  ⟨fun x hx => h.len x (p.mem_iff.mpr hx), p.pairwise h.nd fun {a b} (e : key a ≠ key b) => e.symm⟩
def sortK (key : α → List Int) (l : List α) : List α := l.mergeSort fun x y => kle (key x) (key y)
theorem sortK_perm (l : List α) : (sortK key l).Perm l := List.mergeSort_perm l _
/-- the sort by a total order on a subset -/
theorem sortK_ord {n : Nat} {l : List α} (h : Keys key n l) : Ord key (sortK key l) := by
  have hp : (sortK key l).Perm l := sortK_perm l
  -- lift to the subtype of keys of length n
  have e : (l.attach.map Subtype.val) = l := List.attach_map_subtype_val l
  have s : (sortK key l) = (l.attach.mergeSort fun x y => kle (key x.1) (key y.1)).map Subtype.val := by
    rw [List.map_mergeSort (s := fun x y => kle (key x) (key y)) (fun _ _ _ _ => rfl), e]
    rfl
  have pw : (l.attach.mergeSort fun x y => kle (key x.1) (key y.1)).Pairwise fun x y => kle (key x.1) (key y.1) = true :=
    List.pairwise_mergeSort (le := fun (x y : { x // x ∈ l }) => kle (key x.1) (key y.1)) (fun (a b c : { x // x ∈ l }) => kle_trans (by rw [h.len _ a.2, h.len _ b.2]) (by rw [h.len _ b.2, h.len _ c.2])) (fun (a b : { x // x ∈ l }) => kle_total _ _) _
  have pw2 : (sortK key l).Pairwise fun x y => kle (key x) (key y) = true := by
    rw [s, List.pairwise_map]
    exact pw
  have k2 := h.of_perm hp.symm
  refine (List.Pairwise.and pw2 k2.nd).imp_of_mem ?_
  intro a b ha hb ⟨h1, h2⟩
  cases e : less (key a) (key b) with
  | true => rfl
  | false =>
    unfold kle at h1
    simp only [Bool.not_eq_true'] at h1
    exact absurd (less_tri (by rw [k2.len _ ha, k2.len _ hb]) e h1) h2
end
/-! ### the specification's insertion -/
theorem put_perm (key : Nat → List Int) (x : Nat) : ∀ l : List Nat, (put key x l).Perm (x :: l)
  | [] => .refl _
  | y :: l => by
    unfold put
    split
    · exact .refl _
    · exact ((put_perm key x l).cons y).trans (.swap x y l)
theorem put_ord {key : Nat → List Int} {n : Nat} {x : Nat} : ∀ {l : List Nat}, Ord key l → Keys key n (x :: l) → Ord key (put key x l)
  | [], _, _ => by simp [put, Ord]
  | y :: l, h, k => by
    unfold put
    split
    · rename_i c
      refine List.pairwise_cons.mpr ⟨fun z hz => ?_, h⟩
      rcases List.mem_cons.mp hz with e | hz
      · rw [e]; exact c
      · exact less_trans c ((List.pairwise_cons.mp h).1 z hz)
    · rename_i c
      have k' : Keys key n (x :: l) := ⟨fun z hz => k.len z (by
        rcases List.mem_cons.mp hz with e | hz
        · rw [e]; simp
        · simp [hz]), by
        have := List.pairwise_cons.mp k.nd
        exact List.pairwise_cons.mpr ⟨fun z hz => this.1 z (List.mem_cons_of_mem _ hz), (List.pairwise_cons.mp this.2).2⟩⟩
      refine List.pairwise_cons.mpr ⟨fun z hz => ?_, put_ord (List.pairwise_cons.mp h).2 k'⟩
      rcases List.mem_cons.mp ((put_perm key x l).mem_iff.mp hz) with e | hz
      · subst e
        have ne := (List.pairwise_cons.mp k.nd).1 y (List.mem_cons_self ..)
        cases e2 : less (key y) (key z) with
        | true => rfl
        | false => exact absurd (less_tri (by rw [k.len z (by simp), k.len y (by simp)]) (by simpa using c) e2) ne
      · exact (List.pairwise_cons.mp h).1 z hz
theorem puts_spec {key : Nat → List Int} {n : Nat} : ∀ (l r : List Nat), Ord key r → Keys key n (l ++ r) → (l.foldl (fun q i => put key i q) r).Perm (l ++ r) ∧ Ord key (l.foldl (fun q i => put key i q) r)
  | [], r, h, _ => ⟨.refl _, h⟩
  | x :: l, r, h, k => by
    have k1 : Keys key n (x :: r) := ⟨fun z hz => k.len z (by
      rcases List.mem_cons.mp hz with e | hz
      · rw [e]; simp
      · simp [hz]), by
      have := List.pairwise_cons.mp k.nd
      exact List.pairwise_cons.mpr ⟨fun z hz => this.1 z (by simp [hz]), (List.pairwise_append.mp this.2).2.1⟩⟩
    have p1 : (l ++ put key x r).Perm (x :: l ++ r) := ((put_perm key x r).append_left l).trans List.perm_middle
    obtain ⟨a, b⟩ := puts_spec l (put key x r) (put_ord h k1) (k.of_perm p1.symm)
    exact ⟨a.trans p1, b⟩
theorem puts_perm {key : Nat → List Int} : ∀ (l r : List Nat), (l.foldl (fun q i => put key i q) r).Perm (l ++ r)
  | [], r => .refl _
  | x :: l, r => (puts_perm l (put key x r)).trans (((put_perm key x r).append_left l).trans List.perm_middle)
theorem puts_sort {key : Nat → List Int} {n : Nat} {l : List Nat} (k : Keys key n l) : l.foldl (fun q i => put key i q) [] = sortK key l := by
  obtain ⟨a, b⟩ := puts_spec l [] List.Pairwise.nil (by rw [List.append_nil]; exact k)
  rw [List.append_nil] at a
  exact Ord.unique b (sortK_ord k) (a.trans (sortK_perm l).symm)
end Ar
end
section
set_option autoImplicit false
/-! The specification's state as the mirror's. -/
namespace Ar
open Kg64

def absA (s : State) (i : Nat) : A := ⟨(i : Int), (s.clubs.getD i 0 : Nat), ((s.scores.getD i []).length : Nat), whole (s.arrowsOf i)⟩
def absM (sets : Bool) (m : Match) : M := ⟨opt m.a, opt m.b, sets, ((m.score sets).1 : Nat), ((m.score sets).2 : Nat), (m.ends.length : Nat), opt m.won⟩
def absB (s : State) : B := ⟨s.sets, whole s.inBracket, s.rounds.map fun r => r.map (absM s.sets)⟩
def absAs (s : State) : List A := (List.range s.clubs.length).map (absA s)
def absD (s : State) : D := ⟨(s.ends : Nat), (s.arrows : Nat), absAs s, if s.rounds = [] then none else some (absB s)⟩

/-! ### numbers -/
theorem opt_some (n : Nat) : opt (some n) = (n : Int) := rfl
theorem opt_none : opt none = -1 := rfl
theorem opt_inj {a b : Option Nat} (h : opt a = opt b) : a = b := by
  cases a <;> cases b <;> simp only [opt_some, opt_none] at h
  · rfl
  · omega
  · omega
  · rw [Int.ofNat.inj h]
theorem opt_iff {a b : Option Nat} : opt a = opt b ↔ a = b := ⟨opt_inj, fun h => by rw [h]⟩
theorem opt_neg {a : Option Nat} : opt a = -1 ↔ a = none := by rw [← opt_none]; exact opt_iff
theorem opt_at {a : Option Nat} {n : Nat} : (n : Int) = opt a ↔ a = some n := by
  rw [← opt_some]
  exact ⟨fun h => (opt_inj h).symm, fun h => by rw [h]⟩
theorem pts_cast (a : Nat) : pts (a : Int) = (points a : Nat) := by
  unfold pts points
  split <;> omega
theorem sum_cast : ∀ l : List Nat, ((l.sum : Nat) : Int) = (l.map fun (n : Nat) => (n : Int)).sum
  | [] => rfl
  | n :: l => by simp [sum_cast l]
theorem sumOf_whole (l : List Nat) : sumOf (whole l) = (total l : Nat) := by
  unfold sumOf total whole
  rw [sum_cast, List.map_map, List.map_map]
  congr 1
  exact List.map_congr_left fun a _ => pts_cast a
theorem whole_nats : ∀ {l : List Int}, (∀ z ∈ l, 0 ≤ z) → whole (nats l) = l
  | [], _ => rfl
  | z :: l, h => by
    show ((z.toNat : Nat) : Int) :: whole (nats l) = z :: l
    rw [whole_nats fun y hy => h y (List.mem_cons_of_mem _ hy), Int.toNat_of_nonneg (h z (List.mem_cons_self ..))]
theorem whole_length (l : List Nat) : (whole l).length = l.length := List.length_map ..
theorem nats_length (l : List Int) : (nats l).length = l.length := List.length_map ..
theorem whole_append (a b : List Nat) : whole (a ++ b) = whole a ++ whole b := List.map_append
theorem sumOf_nats {l : List Int} (h : ∀ z ∈ l, 0 ≤ z) : sumOf l = (total (nats l) : Nat) := by rw [← sumOf_whole, whole_nats h]
theorem arrows_ok (l : List Int) (n : Nat) : areArrows l (n : Int) = arrowsOk l n := by
  unfold areArrows arrowsOk
  congr 1
  · rw [Bool.eq_iff_iff]
    simp only [decide_eq_true_eq, beq_iff_eq]
    omega
theorem arrows_nonneg {l : List Int} {n : Nat} (h : arrowsOk l n = true) : ∀ z ∈ l, 0 ≤ z := by
  unfold arrowsOk at h
  simp only [Bool.and_eq_true, List.all_eq_true] at h
  intro z hz
  have := h.2 z hz
  unfold Kg64.within at this
  simp only [Bool.and_eq_true, decide_eq_true_eq] at this
  exact this.1
theorem arrows_len {l : List Int} {n : Nat} (h : arrowsOk l n = true) : l.length = n := by
  unfold arrowsOk at h
  simp only [Bool.and_eq_true, beq_iff_eq] at h
  exact h.1

/-! ### archers -/
theorem absA_points (s : State) (i : Nat) : (absA s i).points = (total (s.arrowsOf i) : Nat) := sumOf_whole _
theorem filter_whole {p : Int → Bool} {q : Nat → Bool} (h : ∀ n : Nat, p (n : Int) = q n) (l : List Nat) : (whole l).filter p = whole (l.filter q) := by
  unfold whole
  rw [List.filter_map]
  congr 1
  exact List.filter_congr fun n _ => h n
theorem absA_tens (s : State) (i : Nat) : (absA s i).tens = (tens (s.arrowsOf i) : Nat) := by
  show (((whole (s.arrowsOf i)).filter fun a => decide (10 ≤ a)).length : Int) = _
  rw [filter_whole (q := fun a => decide (10 ≤ a)) fun n => by rw [Bool.eq_iff_iff]; simp only [decide_eq_true_eq]; omega, whole_length]
  rfl
theorem absA_inner (s : State) (i : Nat) : (absA s i).inner = (inner (s.arrowsOf i) : Nat) := by
  show (((whole (s.arrowsOf i)).filter fun a => decide (a = 11)).length : Int) = _
  rw [filter_whole (q := fun a => a == 11) fun n => by rw [Bool.eq_iff_iff]; simp only [decide_eq_true_eq, beq_iff_eq]; omega, whole_length]
  rfl
theorem absA_key (s : State) (i : Nat) : (absA s i).key = s.key i := by
  unfold A.key State.key
  rw [absA_points, absA_tens, absA_inner]
  rfl
theorem keys_range (s : State) (n : Nat) : Keys s.key 4 (List.range n) := by
  refine ⟨fun _ _ => rfl, ?_⟩
  refine List.nodup_range.imp ?_
  intro a b hab e
  unfold State.key at e
  injection e with _ e
  injection e with _ e
  injection e with _ e
  injection e with e _
  exact hab (by omega)
theorem ranked_sort (s : State) : s.ranked = sortK s.key (List.range s.clubs.length) := puts_sort (keys_range s _)
theorem ranked_perm (s : State) : s.ranked.Perm (List.range s.clubs.length) := by
  rw [ranked_sort]
  exact sortK_perm _
theorem ranked_len (s : State) : s.ranked.length = s.clubs.length := by rw [(ranked_perm s).length_eq, List.length_range]
theorem ranked_nodup (s : State) : s.ranked.Nodup := (ranked_perm s).nodup_iff.mpr List.nodup_range
theorem ranked_mem (s : State) (i : Nat) : i ∈ s.ranked ↔ i < s.clubs.length := by rw [(ranked_perm s).mem_iff, List.mem_range]
theorem ranked_abs (s : State) : ranked (absAs s) = s.ranked.map (absA s) := by
  rw [ranked_sort]
  unfold ranked absAs sortK
  rw [List.map_mergeSort]
  intro a _ b _
  rw [absA_key, absA_key]
theorem order_abs (s : State) : (ranked (absAs s)).map (·.number) = whole s.ranked := by
  rw [ranked_abs, List.map_map]
  rfl
end Ar
end
section
set_option autoImplicit false
/-! One match: the specification's and the mirror's. -/
namespace Ar
open Kg64

def worth (sets : Bool) (e : List Nat × List Nat) : Nat × Nat := if sets = true then setPoints e else (total e.1, total e.2)
theorem score_eq (m : Match) (sets : Bool) : m.score sets = m.ends.foldl (fun n e => (n.1 + (worth sets e).1, n.2 + (worth sets e).2)) (0, 0) := by
  unfold Match.score worth
  cases sets <;> rfl
def push (m : Match) (e : List Nat × List Nat) : Match := { m with ends := m.ends ++ [e] }
theorem push_len (m : Match) (e : List Nat × List Nat) : (push m e).ends.length = m.ends.length + 1 := by simp [push]
theorem score_snoc (m : Match) (sets : Bool) (e : List Nat × List Nat) : (push m e).score sets = ((m.score sets).1 + (worth sets e).1, (m.score sets).2 + (worth sets e).2) := by
  rw [score_eq, score_eq]
  show (m.ends ++ [e]).foldl _ _ = _
  rw [List.foldl_append]
  rfl
theorem setPts_cast (e : List Nat × List Nat) : setPts ((total e.1 : Nat) : Int) ((total e.2 : Nat) : Int) = ((((setPoints e).1 : Nat) : Int), (((setPoints e).2 : Nat) : Int)) := by
  unfold setPts setPoints
  split
  · rw [if_pos (by omega)]; rfl
  · split
    · rw [if_neg (by omega), if_pos (by omega)]; rfl
    · rw [if_neg (by omega), if_neg (by omega)]; rfl
theorem worth_abs (sets : Bool) (m : Match) {a b : List Int} (ha : ∀ z ∈ a, 0 ≤ z) (hb : ∀ z ∈ b, 0 ≤ z) :
    (absM sets m).worth a b = ((((worth sets (nats a, nats b)).1 : Nat) : Int), (((worth sets (nats a, nats b)).2 : Nat) : Int)) := by
  unfold M.worth worth absM
  rw [sumOf_nats ha, sumOf_nats hb]
  cases sets with
  | true => exact setPts_cast (nats a, nats b)
  | false => rfl
theorem add_abs (sets : Bool) (m : Match) {a b : List Int} (ha : ∀ z ∈ a, 0 ≤ z) (hb : ∀ z ∈ b, 0 ≤ z) :
    (absM sets m).add ((absM sets m).worth a b) = absM sets (push m (nats a, nats b)) := by
  rw [worth_abs sets m ha hb]
  unfold absM M.add
  rw [score_snoc, push_len]
  show (⟨_, _, _, _, _, _, _⟩ : M) = ⟨_, _, _, _, _, _, _⟩
  congr 1 <;> simp only <;> omega
theorem setPoints_two (e : List Nat × List Nat) : (setPoints e).1 + (setPoints e).2 = 2 := by
  unfold setPoints
  split
  · rfl
  · split <;> rfl
theorem score_two : ∀ (l : List (List Nat × List Nat)) (n : Nat × Nat), (l.foldl (fun n e => (n.1 + (worth true e).1, n.2 + (worth true e).2)) n).1 + (l.foldl (fun n e => (n.1 + (worth true e).1, n.2 + (worth true e).2)) n).2 = n.1 + n.2 + 2 * l.length
  | [], n => by simp
  | e :: l, n => by
    rw [List.foldl_cons, score_two l]
    have : (worth true e).1 + (worth true e).2 = 2 := setPoints_two e
    simp only [List.length_cons]
    omega
theorem score_sum (m : Match) : (m.score true).1 + (m.score true).2 = 2 * m.ends.length := by
  rw [score_eq, score_two]
  simp

/-! ### what holds of a match -/
structure MOk (sets : Bool) (m : Match) : Prop where
  five : m.ends.length ≤ 5
  two : m.won = none → m.a.isSome = true ∧ m.b.isSome = true
  less : m.won = none → m.ends.length < 5 → m.over sets = false
  five' : m.won = none → m.ends.length = 5 → (m.score sets).1 = (m.score sets).2
  who : ∀ w, m.won = some w → m.a = some w ∨ m.b = some w
theorem over_abs {sets : Bool} {m : Match} (h : m.ends.length ≤ 5) : (absM sets m).over = m.over sets := by
  unfold M.over Match.over absM
  rw [Bool.eq_iff_iff]
  cases sets <;> simp only [Bool.false_and, Bool.true_and, Bool.or_eq_true, decide_eq_true_eq, Bool.false_or, Bool.or_false] <;> omega
theorem won_abs (sets : Bool) (m : Match) : (absM sets m).won = m.won.isSome := by
  unfold M.won absM
  cases h : m.won with
  | none => simp [opt_none]
  | some w => exact decide_eq_true (show ((w : Int) ≠ -1) by omega)
theorem alike_abs {sets : Bool} {m : Match} (k : MOk sets m) : (absM sets m).alike = (m.won.isNone && m.alike sets) := by
  unfold M.alike
  rw [won_abs]
  cases h : m.won with
  | some w => simp
  | none =>
    simp only [Option.isSome_none, Bool.not_false, Bool.true_and, Option.isNone_none]
    rw [Bool.eq_iff_iff, decide_eq_true_eq]
    show ((m.ends.length : Nat) : Int) = 5 ↔ _
    unfold Match.alike
    have h5 := k.five
    by_cases e : m.ends.length = 5
    · have e1 := k.five' h e
      have e2 : m.over sets = true := by
        unfold Match.over
        simp [e]
      simp only [Bool.and_eq_true, beq_iff_eq]
      refine ⟨fun _ => ⟨e2, e1⟩, fun _ => by omega⟩
    · have e2 := k.less h (by omega)
      rw [e2]
      constructor
      · intro z; omega
      · intro z; simp at z
theorem state_abs (s : State) (m : Match) : (absM s.sets m).state = showMatch s m := rfl
theorem loser_abs (sets : Bool) (m : Match) : (absM sets m).loser = opt m.loser := by
  unfold M.loser Match.loser absM
  by_cases h : m.won = m.a
  · rw [if_pos (opt_iff.mpr h), if_pos h]
  · rw [if_neg (fun e => h (opt_inj e)), if_neg h]

/-! ### an end is shot -/
def shot (sets : Bool) (m : Match) (a b : List Int) : Match :=
  let x : Match := push m (nats a, nats b)
  if x.over sets = true ∧ (x.score sets).1 ≠ (x.score sets).2 then { x with won := if (x.score sets).2 < (x.score sets).1 then x.a else x.b } else x
theorem shot_lt {sets : Bool} {m : Match} (k : MOk sets m) (hw : m.won = none) (ha : m.alike sets = false) : m.ends.length < 5 := by
  have h5 := k.five
  by_cases e : m.ends.length = 5
  · have e1 := k.five' hw e
    have e2 : m.over sets = true := by
      unfold Match.over
      simp [e]
    unfold Match.alike at ha
    rw [e2, e1] at ha
    simp at ha
  · omega
theorem shot_abs {sets : Bool} {m : Match} {a b : List Int} (k : MOk sets m) (hw : m.won = none) (hal : m.alike sets = false) (ha : ∀ z ∈ a, 0 ≤ z) (hb : ∀ z ∈ b, 0 ≤ z) :
    (absM sets m).shoot a b = absM sets (shot sets m a b) := by
  have hl := shot_lt k hw hal
  unfold M.shoot
  rw [add_abs sets m ha hb]
  unfold M.close shot
  simp only
  rw [over_abs (by rw [push_len]; omega)]
  by_cases ho : (push m (nats a, nats b)).over sets = true
  · rw [if_pos ho]
    generalize hx : push m (nats a, nats b) = x at *
    have hxw : x.won = none := by rw [← hx]; exact hw
    unfold M.decide_
    show (if 0 < (((x.score sets).1 : Nat) : Int) - ((x.score sets).2 : Nat) then ({ absM sets x with winner := opt x.a } : M) else if (((x.score sets).1 : Nat) : Int) - ((x.score sets).2 : Nat) < 0 then ({ absM sets x with winner := opt x.b } : M) else absM sets x) = _
    by_cases e : (x.score sets).1 = (x.score sets).2
    · rw [if_neg (by omega), if_neg (by omega), if_neg (by intro z; exact z.2 e)]
    · rw [if_pos (show x.over sets = true ∧ (x.score sets).1 ≠ (x.score sets).2 from ⟨ho, e⟩)]
      by_cases l : (x.score sets).2 < (x.score sets).1
      · rw [if_pos (by omega), if_pos l]
        rfl
      · rw [if_neg (by omega), if_pos (by omega), if_neg l]
        rfl
  · rw [if_neg ho, if_neg (by intro z; exact ho z.1)]
theorem shot_ok {sets : Bool} {m : Match} {a b : List Int} (k : MOk sets m) (hw : m.won = none) (hal : m.alike sets = false) : MOk sets (shot sets m a b) := by
  have hl := shot_lt k hw hal
  unfold shot
  simp only
  generalize hx : push m (nats a, nats b) = x at *
  have hxw : x.won = none := by rw [← hx]; exact hw
  have hxa : x.a = m.a := by rw [← hx]; rfl
  have hxb : x.b = m.b := by rw [← hx]; rfl
  have hxl : x.ends.length = m.ends.length + 1 := by rw [← hx, push_len]
  obtain ⟨ka, kb⟩ := k.two hw
  by_cases c : x.over sets = true ∧ (x.score sets).1 ≠ (x.score sets).2
  · rw [if_pos c]
    obtain ⟨p, hp⟩ := Option.isSome_iff_exists.mp ka
    obtain ⟨q, hq⟩ := Option.isSome_iff_exists.mp kb
    have hne : (if (x.score sets).2 < (x.score sets).1 then x.a else x.b) ≠ none := by
      split
      · rw [hxa, hp]; simp
      · rw [hxb, hq]; simp
    refine ⟨by simp only; omega, fun z => absurd z hne, fun z => absurd z hne, fun z => absurd z hne, fun w z => ?_⟩
    simp only at z
    split at z
    · exact .inl z
    · exact .inr z
  · rw [if_neg c]
    refine ⟨by omega, fun _ => by rw [hxa, hxb]; exact ⟨ka, kb⟩, fun _ h5 => ?_, fun _ h5 => ?_, fun w z => by rw [hxw] at z; cases z⟩
    · cases ho : x.over sets with
      | false => rfl
      | true =>
        exfalso
        apply c
        refine ⟨ho, fun e => ?_⟩
        unfold Match.over at ho
        simp only [Bool.or_eq_true, decide_eq_true_eq, Bool.and_eq_true] at ho
        rcases ho with z | ⟨z1, z2⟩
        · omega
        · subst z1
          have := score_sum x
          omega
    · have ho : x.over sets = true := by
        unfold Match.over
        simp [h5]
      exact Classical.byContradiction fun e => c ⟨ho, e⟩
theorem shot_ab (sets : Bool) (m : Match) (a b : List Int) : (shot sets m a b).a = m.a ∧ (shot sets m a b).b = m.b := by
  unfold shot
  simp only
  split <;> exact ⟨rfl, rfl⟩
/-- the answer's first number -/
theorem after_abs {s : State} {m : Match} (k : MOk s.sets m) : after (absM s.sets m) = (if m.won.isSome = true then 2 else if m.alike s.sets = true then 1 else 0) :: showMatch s m := by
  unfold after
  rw [won_abs, alike_abs k, state_abs]
  cases h : m.won with
  | some w => simp
  | none => simp

/-! ### an arrow each -/
def offed (m : Match) (a b nearer : Int) : Match :=
  let w := if points b.toNat < points a.toNat then m.a else if points a.toNat < points b.toNat then m.b else if nearer = 0 then m.a else if nearer = 1 then m.b else none
  { m with off := m.off ++ [(a.toNat, b.toNat)], won := w }
theorem off_abs {sets : Bool} {m : Match} {a b nearer : Int} (hw : m.won = none) (ha : 0 ≤ a) (hb : 0 ≤ b) : (absM sets m).shootOff a b nearer = absM sets (offed m a b nearer) := by
  have e1 : pts a = (points a.toNat : Nat) := by rw [← pts_cast, Int.toNat_of_nonneg ha]
  have e2 : pts b = (points b.toNat : Nat) := by rw [← pts_cast, Int.toNat_of_nonneg hb]
  have hs : ∀ w : Option Nat, absM sets { m with off := m.off ++ [(a.toNat, b.toNat)], won := w } = ({ absM sets m with winner := opt w } : M) := fun w => rfl
  unfold M.shootOff offed
  rw [hs]
  generalize hd : offDiff a b nearer = d
  unfold offDiff at hd
  rw [e1, e2] at hd
  unfold M.decide_
  by_cases h1 : points b.toNat < points a.toNat
  · have : 0 < d := by
      rw [← hd]
      split
      · omega
      · split <;> omega
    rw [if_pos h1, if_pos this]
    rfl
  · rw [if_neg h1]
    by_cases h2 : points a.toNat < points b.toNat
    · have : d < 0 := by
        rw [← hd]
        split
        · omega
        · split <;> omega
      rw [if_pos h2, if_neg (by omega), if_pos this]
      rfl
    · rw [if_neg h2]
      by_cases h3 : nearer = 0
      · have : 0 < d := by
          rw [← hd, if_pos ⟨by omega, h3⟩]
          decide
        rw [if_pos h3, if_pos this]
        rfl
      · rw [if_neg h3]
        by_cases h4 : nearer = 1
        · have : d = -1 := by rw [← hd, if_neg (fun z => h3 z.2), if_pos ⟨by omega, h4⟩]
          rw [if_pos h4, if_neg (by omega), if_pos (by omega)]
          rfl
        · have : d = 0 := by
            rw [← hd, if_neg (fun z => h3 z.2), if_neg (fun z => h4 z.2)]
            omega
          rw [if_neg h4, if_neg (by omega), if_neg (by omega)]
          unfold absM
          rw [hw]
theorem offed_ok {sets : Bool} {m : Match} {a b nearer : Int} (k : MOk sets m) (hw : m.won = none) (hal : m.alike sets = true) : MOk sets (offed m a b nearer) := by
  unfold offed
  have h5 : m.ends.length = 5 := by
    have := k.five
    by_cases e : m.ends.length = 5
    · exact e
    · have e2 := k.less hw (by omega)
      unfold Match.alike at hal
      rw [e2] at hal
      simp at hal
  refine ⟨k.five, fun z => k.two hw, fun z h => absurd h (by simp only; omega), fun z _ => k.five' hw h5, fun w z => ?_⟩
  simp only at z
  split at z
  · exact .inl z
  split at z
  · exact .inr z
  split at z
  · exact .inl z
  split at z
  · exact .inr z
  · cases z
theorem offed_after {s : State} {m : Match} {a b nearer : Int} (k : MOk s.sets m) (hw : m.won = none) (hal : m.alike s.sets = true) :
    after (absM s.sets (offed m a b nearer)) = (if (offed m a b nearer).won.isSome = true then 2 else 1) :: showMatch s (offed m a b nearer) := by
  rw [after_abs (offed_ok k hw hal)]
  have : (offed m a b nearer).alike s.sets = m.alike s.sets := rfl
  rw [this, hal]
  simp
end Ar
end
section
set_option autoImplicit false
/-! Rounds: the specification's and the mirror's. -/
namespace Ar
open Kg64

def newM (a b : Option Nat) : Match := ⟨a, b, [], [], match a, b with
  | some x, none => some x
  | none, some y => some y
  | _, _ => none⟩
theorem paired_cons (a b : Option Nat) (l : List (Option Nat)) : paired (a :: b :: l) = newM a b :: paired l := rfl
theorem newM_abs (sets : Bool) (a b : Option Nat) : absM sets (newM a b) = M.new (opt a) (opt b) sets := by
  unfold M.new newM absM Match.score
  cases a <;> cases b <;> simp [opt_none, opt_some]
  all_goals omega
theorem newM_ok {sets : Bool} {a b : Option Nat} (h : a.isSome = true ∨ b.isSome = true) : MOk sets (newM a b) := by
  refine ⟨Nat.zero_le _, fun hw => ?_, fun _ _ => ?_, fun _ z => ?_, fun w hw => ?_⟩
  · cases a <;> cases b <;> simp_all [newM]
  · unfold Match.over Match.score newM
    simp
  · simp [newM] at z
  · cases a <;> cases b <;> simp_all [newM]
theorem paired_abs (sets : Bool) : ∀ l : List (Option Nat), (paired l).map (absM sets) = pairs sets (l.map opt)
  | [] => rfl
  | [_] => rfl
  | a :: b :: l => by
    rw [paired_cons, List.map_cons, newM_abs, paired_abs sets l]
    rfl
theorem paired_length : ∀ l : List (Option Nat), (paired l).length = l.length / 2
  | [] => rfl
  | [_] => by simp [paired]
  | a :: b :: l => by
    rw [paired_cons, List.length_cons, paired_length l, List.length_cons, List.length_cons]
    omega
theorem pairs_length (sets : Bool) : ∀ l : List Int, (pairs sets l).length = l.length / 2
  | [] => rfl
  | [_] => by simp [pairs]
  | a :: b :: l => by
    show (pairs sets l).length + 1 = _
    rw [pairs_length sets l, List.length_cons, List.length_cons]
    omega
theorem pairs_append (sets : Bool) (r : List Int) : ∀ l : List Int, l.length % 2 = 0 → pairs sets (l ++ r) = pairs sets l ++ pairs sets r
  | [], _ => rfl
  | [_], h => by simp at h
  | a :: b :: l, h => by
    show M.new a b sets :: pairs sets (l ++ r) = M.new a b sets :: (pairs sets l ++ pairs sets r)
    rw [pairs_append sets r l (by simp only [List.length_cons] at h; omega)]
/-- who stands in a round -/
def inR (r : List Match) (i : Nat) : Bool := r.any fun m => m.a == some i || m.b == some i
theorem inR_iff {r : List Match} {i : Nat} : inR r i = true ↔ ∃ m ∈ r, m.a = some i ∨ m.b = some i := by
  unfold inR
  rw [List.any_eq_true]
  constructor
  · rintro ⟨m, hm, h⟩
    refine ⟨m, hm, ?_⟩
    simpa using h
  · rintro ⟨m, hm, h⟩
    refine ⟨m, hm, ?_⟩
    simpa using h
theorem paired_mem : ∀ {l : List (Option Nat)}, l.length % 2 = 0 → ∀ {i : Nat}, inR (paired l) i = true ↔ some i ∈ l
  | [], _, i => by simp [paired, inR]
  | [_], h, i => by simp at h
  | a :: b :: l, h, i => by
    have ih := paired_mem (l := l) (by simp only [List.length_cons] at h; omega) (i := i)
    rw [inR_iff] at ih ⊢
    rw [paired_cons]
    simp only [List.mem_cons]
    constructor
    · rintro ⟨m, rfl | hm, h⟩
      · rcases h with h | h
        · exact .inl h.symm
        · exact .inr (.inl h.symm)
      · exact .inr (.inr (ih.mp ⟨m, hm, h⟩))
    · rintro (h | h | h)
      · exact ⟨_, .inl rfl, .inl h.symm⟩
      · exact ⟨_, .inl rfl, .inr h.symm⟩
      · obtain ⟨m, hm, h⟩ := ih.mpr h
        exact ⟨m, .inr hm, h⟩
theorem paired_ok {sets : Bool} : ∀ {l : List (Option Nat)}, (∀ x ∈ l, x.isSome = true) → ∀ m ∈ paired l, MOk sets m
  | [], _, m, hm => by simp [paired] at hm
  | [_], _, m, hm => by simp [paired] at hm
  | a :: b :: l, h, m, hm => by
    rw [paired_cons] at hm
    rcases List.mem_cons.mp hm with e | hm
    · rw [e]
      exact newM_ok (.inl (h a (by simp)))
    · exact paired_ok (fun x hx => h x (by simp [hx])) m hm

/-! ### the state's rounds -/
theorem now_eq (s : State) : s.now = s.rounds.getLastD [] := rfl
theorem getLastD_append {α : Type} (l : List (List α)) (r : List α) : (l ++ [r]).getLastD [] = r := by
  rw [List.getLastD_eq_getLast?, List.getLast?_concat]
  rfl
theorem getLastD_map {α β : Type} (f : List α → List β) (h : f [] = []) : ∀ l : List (List α), (l.map f).getLastD [] = f (l.getLastD [])
  | [] => h.symm
  | [a] => rfl
  | a :: b :: l => by
    have := getLastD_map f h (b :: l)
    simpa [List.getLastD_eq_getLast?, List.getLast?_cons] using this
theorem last_abs (s : State) : (absB s).last = s.now.map (absM s.sets) := by
  unfold B.last absB State.now
  exact getLastD_map (fun r => r.map (absM s.sets)) rfl _
theorem prev_abs (s : State) : (absB s).prev = (s.rounds.getD (s.rounds.length - 2) []).map (absM s.sets) := by
  unfold B.prev absB
  simp only [List.length_map, List.getD_eq_getElem?_getD, List.getElem?_map]
  cases s.rounds[s.rounds.length - 2]? <;> rfl
theorem wons_abs (s : State) : (absB s).last.all M.won = s.now.all fun m => m.won.isSome := by
  rw [last_abs, List.all_map]
  congr 1
  funext m
  exact won_abs s.sets m
theorem lastOfAll_abs (s : State) : (absB s).lastOfAll = (decide (s.now.length = 1) || (decide (s.now.length = 2) && (decide (1 < s.rounds.length) && decide ((s.rounds.getD (s.rounds.length - 2) []).length = 2)))) := by
  have e : (absB s).rounds.length = s.rounds.length := List.length_map ..
  unfold B.lastOfAll
  rw [last_abs, prev_abs, e]
  simp only [List.length_map]
/-- the shape of the rounds; who stands in them -/
structure ROk (s : State) : Prop where
  ne : s.rounds ≠ []
  ms : ∀ r ∈ s.rounds, ∀ m ∈ r, MOk s.sets m
  shape : ∃ k, s.now.length = 2 ^ k ∧ ((s.rounds.length + k ≤ 5) ∨ (k = 1 ∧ s.rounds.length ≤ 5 ∧ s.rounds.length ≠ 1 ∧ (s.rounds.getD (s.rounds.length - 2) []).length = 2))
  short : ∀ r ∈ s.rounds, r.length ≤ 16
  both : ∃ m ∈ s.now, m.a.isSome = true ∧ m.b.isSome = true
  who : ∀ r ∈ s.rounds, ∀ i, inR r i = true → inR (s.rounds.headD []) i = true ∧ i ∈ s.order
theorem ROk.now_mem {s : State} (k : ROk s) : s.now ∈ s.rounds := by
  unfold State.now
  rw [List.getLastD_eq_getLast?, List.getLast?_eq_some_getLast k.ne]
  exact List.getLast_mem k.ne
theorem ROk.now_ok {s : State} (k : ROk s) : ∀ m ∈ s.now, MOk s.sets m := k.ms _ k.now_mem
theorem ROk.pos {s : State} (k : ROk s) : 1 ≤ s.now.length := by
  obtain ⟨k, e, _⟩ := k.shape
  rw [e]
  exact Nat.one_le_two_pow
/-- when the next round comes -/
def goes (s : State) : Prop := ¬ (s.now.length < 2 ∨ s.now.all (fun m => m.won.isSome) = false) ∧ ¬ (s.rounds.length ≠ 1 ∧ s.now.length = 2 ∧ (s.rounds.getD (s.rounds.length - 2) []).length = 2)
instance (s : State) : Decidable (goes s) := by unfold goes; infer_instance
def nextR (s : State) : List Match := if s.now.length = 2 then paired (s.now.map Match.won) ++ paired (s.now.map Match.loser) else paired (s.now.map Match.won)
theorem settle_eq (s : State) : s.settle = if goes s then { s with rounds := s.rounds ++ [nextR s] } else s := by
  unfold State.settle
  by_cases h1 : s.now.length < 2 ∨ s.now.all (fun m => m.won.isSome) = false
  · rw [if_neg (show ¬ goes s from fun z => z.1 h1)]
    exact if_pos h1
  · by_cases h2 : s.rounds.length ≠ 1 ∧ s.now.length = 2 ∧ (s.rounds.getD (s.rounds.length - 2) []).length = 2
    · rw [if_neg (show ¬ goes s from fun z => z.2 h2)]
      refine (if_neg h1).trans ?_
      exact if_pos h2
    · rw [if_pos (show goes s from ⟨h1, h2⟩)]
      refine (if_neg h1).trans ((if_neg h2).trans ?_)
      unfold nextR
      by_cases h3 : s.now.length = 2
      · refine (if_pos h3).trans ?_
        rw [if_pos h3]
        rfl
      · refine (if_neg h3).trans ?_
        rw [if_neg h3]
theorem more_abs {s : State} (k : ROk s) : (absB s).more = decide (goes s) := by
  unfold B.more goes
  rw [wons_abs, lastOfAll_abs, Bool.eq_iff_iff]
  have hp := k.pos
  have hl : 1 ≤ s.rounds.length := by
    have := k.ne
    cases h : s.rounds with
    | nil => exact absurd h this
    | cons a l => simp
  simp only [Bool.and_eq_true, Bool.not_eq_true', Bool.or_eq_false_iff, Bool.and_eq_false_iff, decide_eq_true_eq, decide_eq_false_iff_not, not_or, not_and, Bool.not_eq_false]
  constructor
  · rintro ⟨h1, h2, h3⟩
    refine ⟨⟨by omega, h1⟩, fun a b => ?_⟩
    rcases h3 with h3 | h3 | h3
    · exact absurd b h3
    · omega
    · exact h3
  · rintro ⟨⟨h1, h2⟩, h3⟩
    refine ⟨h2, by omega, ?_⟩
    by_cases a : s.now.length = 2
    · by_cases b : 1 < s.rounds.length
      · exact .inr (.inr (h3 (by omega) a))
      · exact .inr (.inl b)
    · exact .inl a
theorem inBracket_append {s : State} (ne : s.rounds ≠ []) (r : List Match) : ({ s with rounds := s.rounds ++ [r] } : State).inBracket = s.inBracket := by
  unfold State.inBracket
  cases h : s.rounds with
  | nil => exact absurd h ne
  | cons a l => rfl
theorem nextSeats_abs (s : State) : (absB s).nextSeats = (s.now.map fun m => opt m.won) ++ if s.now.length = 2 then s.now.map fun m => opt m.loser else [] := by
  unfold B.nextSeats
  rw [last_abs]
  simp only [List.length_map, List.map_map]
  congr 1
  split
  · exact List.map_congr_left fun m _ => loser_abs s.sets m
  · rfl
theorem next_abs (s : State) (ne : s.rounds ≠ []) : absB { s with rounds := s.rounds ++ [nextR s] } = (absB s).next := by
  unfold B.next
  rw [nextSeats_abs]
  unfold absB
  rw [inBracket_append ne]
  simp only [List.map_append, List.map_cons, List.map_nil]
  congr 2
  congr 1
  unfold nextR
  by_cases h : s.now.length = 2
  · rw [if_pos h, if_pos h, List.map_append, paired_abs, paired_abs, pairs_append _ _ _ (by simp [h]), List.map_map, List.map_map]
    rfl
  · rw [if_neg h, if_neg h, paired_abs, List.map_map, List.append_nil]
    rfl
theorem goOn_abs {s : State} (k : ROk s) : absB s.settle = (absB s).goOn := by
  unfold B.goOn
  rw [more_abs k, settle_eq]
  by_cases h : goes s
  · rw [if_pos h, if_pos (decide_eq_true h), next_abs s k.ne]
  · rw [if_neg h, if_neg (by simpa using h)]
theorem goes_won {s : State} (h : goes s) : ∀ m ∈ s.now, m.won.isSome = true := by
  have h1 := h.1
  simp only [not_or, Bool.not_eq_false, List.all_eq_true] at h1
  exact h1.2
theorem loser_who {m : Match} {i : Nat} (h : m.loser = some i) : m.a = some i ∨ m.b = some i := by
  unfold Match.loser at h
  split at h
  · exact .inr h
  · exact .inl h
theorem nextR_who {s : State} (k : ROk s) {i : Nat} (h : inR (nextR s) i = true) : inR s.now i = true := by
  obtain ⟨kk, hs, _⟩ := k.shape
  have hev : ∀ f : Match → Option Nat, some i ∈ s.now.map f → ∃ m ∈ s.now, f m = some i := fun f hf => by
    obtain ⟨m, hm, e⟩ := List.mem_map.mp hf
    exact ⟨m, hm, e⟩
  have hw : some i ∈ s.now.map Match.won → inR s.now i = true := fun hf => by
    obtain ⟨m, hm, e⟩ := hev _ hf
    exact inR_iff.mpr ⟨m, hm, (k.now_ok m hm).who i e⟩
  unfold nextR at h
  by_cases h2 : s.now.length = 2
  · rw [if_pos h2] at h
    unfold inR at h
    rw [List.any_append, Bool.or_eq_true] at h
    rcases h with h | h
    · exact hw ((paired_mem (by simp [h2])).mp h)
    · obtain ⟨m, hm, e⟩ := hev _ ((paired_mem (by simp [h2])).mp h)
      exact inR_iff.mpr ⟨m, hm, loser_who e⟩
  · rw [if_neg h2] at h
    by_cases h1 : s.now.length = 1
    · obtain ⟨m, e⟩ := List.length_eq_one_iff.mp h1
      rw [e] at h
      simp [paired, inR] at h
    · have ev : s.now.length % 2 = 0 := by
        rw [hs] at h1 ⊢
        cases kk with
        | zero => simp at h1
        | succ n => rw [Nat.pow_succ]; omega
      exact hw ((paired_mem (by rw [List.length_map]; exact ev)).mp h)
theorem getD_append_prev {α : Type} (l : List (List α)) (r : List α) (h : l ≠ []) : (l ++ [r]).getD ((l ++ [r]).length - 2) [] = l.getLastD [] := by
  have hl : 1 ≤ l.length := by
    cases l with
    | nil => exact absurd rfl h
    | cons a l => simp
  rw [List.getD_eq_getElem?_getD, List.length_append, List.length_singleton, List.getElem?_append_left (by omega), List.getLastD_eq_getLast?, List.getLast?_eq_getElem?]
  congr 2
theorem settle_ok {s : State} (k : ROk s) : ROk s.settle := by
  rw [settle_eq]
  by_cases h : goes s
  · rw [if_pos h]
    obtain ⟨kk, hs, hk⟩ := k.shape
    have hw := goes_won h
    have wsome : ∀ x ∈ s.now.map Match.won, x.isSome = true := fun x hx => by
      obtain ⟨m, hm, rfl⟩ := List.mem_map.mp hx
      exact hw m hm
    have hnow : ({ s with rounds := s.rounds ++ [nextR s] } : State).now = nextR s := getLastD_append _ _
    have hne : kk ≠ 0 := fun z => by
      have := h.1
      rw [hs, z] at this
      simp at this
    have hl1 : s.rounds.length ≠ 0 := fun z => k.ne (List.length_eq_zero_iff.mp z)
    refine ⟨by simp, fun r hr m hm => ?_, ?_, fun r hr => ?_, ?_, fun r hr i hi => ?_⟩
    · rcases List.mem_append.mp hr with hr | hr
      · exact k.ms r hr m hm
      · rw [List.mem_singleton.mp hr] at hm
        unfold nextR at hm
        by_cases h2 : s.now.length = 2
        · rw [if_pos h2] at hm
          rcases List.mem_append.mp hm with hm | hm
          · exact paired_ok wsome m hm
          · obtain ⟨m1, m2, e⟩ : ∃ m1 m2, s.now = [m1, m2] := by
              match e : s.now, h2 with
              | [m1, m2], _ => exact ⟨m1, m2, rfl⟩
            rw [e] at hm
            have hm : m = newM m1.loser m2.loser := by simpa [paired_cons, paired] using hm
            rw [hm]
            refine newM_ok ?_
            obtain ⟨mb, hmb, ha, hb⟩ := k.both
            have hls : mb.loser.isSome = true := by
              unfold Match.loser
              split
              · exact hb
              · exact ha
            rw [e] at hmb
            rcases List.mem_cons.mp hmb with z | hmb
            · rw [← z]; exact .inl hls
            · rw [← List.mem_singleton.mp hmb]; exact .inr hls
        · rw [if_neg h2] at hm
          exact paired_ok wsome m hm
    · rw [hnow]
      unfold nextR
      by_cases h2 : s.now.length = 2
      · rw [if_pos h2]
        have k1 : kk = 1 := by
          have : 2 ^ kk = 2 ^ 1 := by rw [← hs, h2]
          exact (Nat.pow_right_inj (by decide)).mp this
        refine ⟨1, by rw [List.length_append, paired_length, paired_length, List.length_map, List.length_map, h2], .inr ⟨rfl, ?_, ?_, ?_⟩⟩
        · show (s.rounds ++ [_]).length ≤ 5
          rw [List.length_append, List.length_singleton]
          rcases hk with hk | ⟨_, hk, h3, h4⟩
          · omega
          · exact absurd ⟨h3, h2, h4⟩ h.2
        · show (s.rounds ++ [_]).length ≠ 1
          rw [List.length_append, List.length_singleton]
          omega
        · show ((s.rounds ++ [_]).getD ((s.rounds ++ [_]).length - 2) []).length = 2
          rw [getD_append_prev _ _ k.ne]
          exact h2
      · rw [if_neg h2]
        have hk2 : 2 ≤ kk := by
          rcases Nat.lt_or_ge kk 2 with z | z
          · have : kk = 1 := by omega
            rw [this] at hs
            exact absurd hs h2
          · exact z
        refine ⟨kk - 1, ?_, .inl ?_⟩
        · rw [paired_length, List.length_map, hs]
          obtain ⟨n, rfl⟩ : ∃ n, kk = n + 1 := ⟨kk - 1, by omega⟩
          rw [Nat.pow_succ]
          simp
        · show (s.rounds ++ [_]).length + (kk - 1) ≤ 5
          rw [List.length_append, List.length_singleton]
          rcases hk with hk | ⟨hk, _⟩ <;> omega
    · rcases List.mem_append.mp hr with hr | hr
      · exact k.short r hr
      · rw [List.mem_singleton.mp hr]
        have := k.short _ k.now_mem
        unfold nextR
        split
        · rw [List.length_append, paired_length, paired_length, List.length_map, List.length_map]
          omega
        · rw [paired_length, List.length_map]
          omega
    · rw [hnow]
      have h1 := h.1
      simp only [not_or] at h1
      obtain ⟨m1, m2, l, e⟩ : ∃ m1 m2 l, s.now = m1 :: m2 :: l := by
        match e : s.now with
        | [] => exact absurd (by rw [e]; simp) h1.1
        | [_] => exact absurd (by rw [e]; simp) h1.1
        | m1 :: m2 :: l => exact ⟨m1, m2, l, rfl⟩
      have a1 := hw m1 (by rw [e]; simp)
      have a2 := hw m2 (by rw [e]; simp)
      refine ⟨newM m1.won m2.won, ?_, a1, a2⟩
      unfold nextR
      rw [e]
      split
      · simp [paired_cons]
      · simp [paired_cons]
    · have hd : ({ s with rounds := s.rounds ++ [nextR s] } : State).rounds.headD [] = s.rounds.headD [] := by
        cases e : s.rounds with
        | nil => exact absurd e k.ne
        | cons a l => rfl
      rw [hd]
      rcases List.mem_append.mp hr with hr | hr
      · exact k.who r hr i hi
      · rw [List.mem_singleton.mp hr] at hi
        exact k.who _ k.now_mem i (nextR_who k hi)
  · rw [if_neg h]
    exact k
end Ar
end
section
set_option autoImplicit false
/-! Who stands in a round, each once; the first round; a match of the last round put anew. -/
namespace Ar
open Kg64

/-! ### who stands in a round -/
def ppl (r : List Match) : List Nat := r.flatMap fun m => m.a.toList ++ m.b.toList
def tops (r : List Match) : List Nat := r.flatMap fun m => m.won.toList ++ m.loser.toList
theorem ppl_mem {r : List Match} {i : Nat} : i ∈ ppl r ↔ inR r i = true := by
  rw [inR_iff]
  unfold ppl
  rw [List.mem_flatMap]
  simp only [List.mem_append, Option.mem_toList]
theorem ppl_paired : ∀ l : List (Option Nat), l.length % 2 = 0 → ppl (paired l) = l.filterMap id
  | [], _ => rfl
  | [_], h => by simp at h
  | a :: b :: l, h => by
    have ih := ppl_paired l (by simp only [List.length_cons] at h; omega)
    rw [paired_cons]
    show (a.toList ++ b.toList) ++ ppl (paired l) = _
    rw [ih]
    cases a <;> cases b <;> simp
theorem ppl_append (a b : List Match) : ppl (a ++ b) = ppl a ++ ppl b := List.flatMap_append
theorem one_perm {m : Match} (h : ∀ w, m.won = some w → m.a = some w ∨ m.b = some w) (hw : m.won.isSome = true) : (m.won.toList ++ m.loser.toList).Perm (m.a.toList ++ m.b.toList) := by
  unfold Match.loser
  by_cases e : m.won = m.a
  · rw [if_pos e, e]
  · rw [if_neg e]
    obtain ⟨w, hw⟩ := Option.isSome_iff_exists.mp hw
    rcases h w hw with z | z
    · exact absurd (hw.trans z.symm) e
    · rw [hw.trans z.symm]
      exact List.perm_append_comm
theorem tops_perm : ∀ {r : List Match}, (∀ m ∈ r, ∀ w, m.won = some w → m.a = some w ∨ m.b = some w) → (∀ m ∈ r, m.won.isSome = true) → (tops r).Perm (ppl r)
  | [], _, _ => .refl _
  | m :: r, h, hw => by
    show ((m.won.toList ++ m.loser.toList) ++ tops r).Perm ((m.a.toList ++ m.b.toList) ++ ppl r)
    exact (one_perm (h m (by simp)) (hw m (by simp))).append (tops_perm (fun m' hm => h m' (by simp [hm])) fun m' hm => hw m' (by simp [hm]))
theorem wons_sub : ∀ r : List Match, ((r.map Match.won).filterMap id).Sublist (tops r)
  | [] => .slnil
  | m :: r => by
    have ih := wons_sub r
    show (((m.won :: r.map Match.won)).filterMap id).Sublist ((m.won.toList ++ m.loser.toList) ++ tops r)
    cases h : m.won with
    | none =>
      rw [List.filterMap_cons_none (by rfl)]
      exact ih.trans ((List.sublist_append_right _ _))
    | some w =>
      rw [List.filterMap_cons_some (b := w) (by rfl)]
      simp only [Option.toList_some, List.singleton_append, List.cons_append]
      exact (ih.trans (List.sublist_append_right _ _)).cons_cons w
/-- everybody stands once in the last round -/
def Once (s : State) : Prop := (ppl s.now).Nodup
theorem nextR_once {s : State} (k : ROk s) (h : goes s) (o : Once s) : (ppl (nextR s)).Nodup := by
  have hw := goes_won h
  have tp : (tops s.now).Perm (ppl s.now) := tops_perm (fun m hm => (k.now_ok m hm).who) hw
  have tn : (tops s.now).Nodup := tp.nodup_iff.mpr o
  obtain ⟨kk, hs, _⟩ := k.shape
  unfold nextR
  by_cases h2 : s.now.length = 2
  · rw [if_pos h2, ppl_append, ppl_paired _ (by simp [h2]), ppl_paired _ (by simp [h2])]
    obtain ⟨m1, m2, e⟩ : ∃ m1 m2, s.now = [m1, m2] := by
      match e : s.now, h2 with
      | [m1, m2], _ => exact ⟨m1, m2, rfl⟩
    rw [e] at tn ⊢
    refine List.Perm.nodup_iff ?_ |>.mp tn
    show ((m1.won.toList ++ m1.loser.toList) ++ ((m2.won.toList ++ m2.loser.toList) ++ [])).Perm _
    obtain ⟨w1, e1⟩ := Option.isSome_iff_exists.mp (hw m1 (by rw [e]; simp))
    obtain ⟨w2, e2⟩ := Option.isSome_iff_exists.mp (hw m2 (by rw [e]; simp))
    simp only [List.map_cons, List.map_nil, e1, e2]
    have f2 : ([some w1, some w2] : List (Option Nat)).filterMap id = [w1, w2] := rfl
    rw [f2]
    have f3 : ([m1.loser, m2.loser] : List (Option Nat)).filterMap id = m1.loser.toList ++ m2.loser.toList := by
      cases m1.loser <;> cases m2.loser <;> rfl
    rw [f3]
    simp only [Option.toList_some, List.append_nil, List.cons_append, List.nil_append]
    refine List.Perm.cons _ ?_
    refine (List.perm_append_comm (l₁ := m1.loser.toList) (l₂ := w2 :: m2.loser.toList)).trans ?_
    exact List.Perm.cons _ List.perm_append_comm
  · rw [if_neg h2]
    have ev : s.now.length % 2 = 0 := by
      have h1 := h.1
      simp only [not_or] at h1
      rw [hs] at h1 ⊢
      cases kk with
      | zero => exact absurd (by simp) h1.1
      | succ n => rw [Nat.pow_succ]; omega
    rw [ppl_paired _ (by rw [List.length_map]; exact ev)]
    exact (wons_sub s.now).nodup tn
theorem settle_once {s : State} (k : ROk s) (o : Once s) : Once s.settle := by
  rw [settle_eq]
  by_cases h : goes s
  · rw [if_pos h]
    show (ppl ((s.rounds ++ [nextR s]).getLastD [])).Nodup
    rw [getLastD_append]
    exact nextR_once k h o
  · rw [if_neg h]
    exact o

/-! ### a match of the last round put anew -/
def putM (s : State) (k : Nat) (m : Match) : State := { s with rounds := s.rounds.dropLast ++ [s.now.set k m] }
theorem set_same {α β : Type} (f : α → β) {l : List α} {k : Nat} {m m' : α} (hm : l[k]? = some m) (e : f m' = f m) : (l.set k m').map f = l.map f := by
  apply List.ext_getElem?
  intro i
  rw [List.getElem?_map, List.getElem?_map, List.getElem?_set]
  by_cases h : k = i
  · subst h
    rw [if_pos rfl]
    obtain ⟨hl, _⟩ := List.getElem?_eq_some_iff.mp hm
    rw [if_pos hl, hm]
    simp [e]
  · rw [if_neg h]
theorem inR_set {l : List Match} {k : Nat} {m m' : Match} (hm : l[k]? = some m) (ha : m'.a = m.a) (hb : m'.b = m.b) (i : Nat) : inR (l.set k m') i = inR l i := by
  have h1 : ∀ r : List Match, inR r i = (r.map fun m => m.a == some i || m.b == some i).any id := fun r => by
    unfold inR
    rw [List.any_map]
    rfl
  rw [h1, h1, set_same _ hm (by rw [ha, hb])]
theorem ppl_set {l : List Match} {k : Nat} {m m' : Match} (hm : l[k]? = some m) (ha : m'.a = m.a) (hb : m'.b = m.b) : ppl (l.set k m') = ppl l := by
  unfold ppl
  rw [List.flatMap_def, List.flatMap_def, set_same _ hm (by rw [ha, hb])]
theorem putM_now (s : State) (k : Nat) (m : Match) : (putM s k m).now = s.now.set k m := getLastD_append _ _
theorem drop_last_split {s : State} (ne : s.rounds ≠ []) : s.rounds = s.rounds.dropLast ++ [s.now] := by
  unfold State.now
  rw [List.getLastD_eq_getLast?, List.getLast?_eq_some_getLast ne]
  exact (List.dropLast_concat_getLast ne).symm
theorem putM_head {s : State} (ne : s.rounds ≠ []) {k : Nat} {m m' : Match} (hm : s.now[k]? = some m) (ha : m'.a = m.a) (hb : m'.b = m.b) (i : Nat) :
    inR ((putM s k m').rounds.headD []) i = inR (s.rounds.headD []) i := by
  have e := drop_last_split ne
  unfold putM
  cases h : s.rounds.dropLast with
  | nil =>
    rw [h] at e
    rw [e]
    exact inR_set hm ha hb i
  | cons r l =>
    rw [h] at e
    rw [e]
    rfl
theorem putM_inBracket {s : State} (ne : s.rounds ≠ []) {k : Nat} {m m' : Match} (hm : s.now[k]? = some m) (ha : m'.a = m.a) (hb : m'.b = m.b) : (putM s k m').inBracket = s.inBracket := by
  unfold State.inBracket
  exact List.filter_congr fun i _ => putM_head ne hm ha hb i
theorem putM_len {s : State} (ne : s.rounds ≠ []) (k : Nat) (m : Match) : (putM s k m).rounds.length = s.rounds.length := by
  have e := congrArg List.length (drop_last_split ne)
  rw [List.length_append, List.length_singleton] at e
  show (s.rounds.dropLast ++ [_]).length = _
  rw [List.length_append, List.length_singleton, e]
theorem putM_prev {s : State} (ne : s.rounds ≠ []) (k : Nat) (m : Match) (h1 : s.rounds.length ≠ 1) : (putM s k m).rounds.getD ((putM s k m).rounds.length - 2) [] = s.rounds.getD (s.rounds.length - 2) [] := by
  rw [putM_len ne]
  have e := drop_last_split ne
  have el := congrArg List.length e
  rw [List.length_append, List.length_singleton] at el
  have hl : s.rounds.length - 2 < s.rounds.dropLast.length := by
    have : s.rounds.length ≠ 0 := fun z => ne (List.length_eq_zero_iff.mp z)
    omega
  rw [List.getD_eq_getElem?_getD, List.getD_eq_getElem?_getD]
  show ((s.rounds.dropLast ++ [_])[s.rounds.length - 2]?).getD [] = _
  rw [List.getElem?_append_left hl]
  have : s.rounds[s.rounds.length - 2]? = (s.rounds.dropLast ++ [s.now])[s.rounds.length - 2]? := by rw [← e]
  rw [this, List.getElem?_append_left hl]
theorem putM_ok {s : State} (k : ROk s) {j : Nat} {m m' : Match} (hm : s.now[j]? = some m) (ha : m'.a = m.a) (hb : m'.b = m.b) (ok : MOk s.sets m') : ROk (putM s j m') := by
  have e := drop_last_split k.ne
  have hd : ∀ r ∈ s.rounds.dropLast, r ∈ s.rounds := fun r hr => List.dropLast_subset _ hr
  have mem : ∀ r ∈ (putM s j m').rounds, r ∈ s.rounds.dropLast ∨ r = s.now.set j m' := fun r hr => by
    rcases List.mem_append.mp (show r ∈ s.rounds.dropLast ++ [s.now.set j m'] from hr) with h | h
    · exact .inl h
    · exact .inr (List.mem_singleton.mp h)
  obtain ⟨kk, hs, hk⟩ := k.shape
  refine ⟨by unfold putM; simp, fun r hr x hx => ?_, ⟨kk, by rw [putM_now, List.length_set, hs], ?_⟩, fun r hr => ?_, ?_, fun r hr i hi => ?_⟩
  · rcases mem r hr with h | h
    · exact k.ms r (hd r h) x hx
    · rw [h] at hx
      rcases List.mem_or_eq_of_mem_set hx with h | h
      · exact k.now_ok x h
      · rw [h]; exact ok
  · rcases hk with hk | ⟨h1, h2, h3, h4⟩
    · rw [putM_len k.ne]
      exact .inl hk
    · rw [putM_prev k.ne _ _ h3, putM_len k.ne]
      exact .inr ⟨h1, h2, h3, h4⟩
  · rcases mem r hr with h | h
    · exact k.short r (hd r h)
    · rw [h, List.length_set]
      exact k.short _ k.now_mem
  · obtain ⟨x, hx, h1, h2⟩ := k.both
    rw [putM_now]
    obtain ⟨i, hi, ei⟩ := List.mem_iff_getElem.mp hx
    by_cases hij : j = i
    · subst hij
      have em : m = x := by
        rw [List.getElem?_eq_getElem hi, ei] at hm
        exact (Option.some.inj hm).symm
      exact ⟨m', List.mem_of_getElem? (List.getElem?_set_self hi), by rw [ha, em]; exact h1, by rw [hb, em]; exact h2⟩
    · exact ⟨x, List.mem_of_getElem? (i := i) (by rw [List.getElem?_set_ne hij, List.getElem?_eq_getElem hi, ei]), h1, h2⟩
  · rw [putM_head k.ne hm ha hb]
    rcases mem r hr with h | h
    · exact k.who r (hd r h) i hi
    · rw [h, inR_set hm ha hb] at hi
      exact k.who _ k.now_mem i hi
theorem putM_once {s : State} (o : Once s) {j : Nat} {m m' : Match} (hm : s.now[j]? = some m) (ha : m'.a = m.a) (hb : m'.b = m.b) : Once (putM s j m') := by
  unfold Once
  rw [putM_now, ppl_set hm ha hb]
  exact o
theorem putM_abs {s : State} (ne : s.rounds ≠ []) {j : Nat} {m m' : Match} (hm : s.now[j]? = some m) (ha : m'.a = m.a) (hb : m'.b = m.b) : absB (putM s j m') = (absB s).setLast j (absM s.sets m') := by
  unfold B.setLast
  rw [last_abs]
  unfold absB
  rw [putM_inBracket ne hm ha hb]
  congr 1
  show (s.rounds.dropLast ++ [s.now.set j m']).map _ = _
  rw [List.map_append, List.map_dropLast, List.map_singleton, List.map_set]
  rfl

/-! ### the first round -/
def ors : List Bool → Bool
  | a :: b :: l => (a || b) && ors l
  | _ => true
def ands : List Bool → Bool
  | a :: b :: l => (a && b) || ands l
  | _ => false
theorem paired_ors {sets : Bool} : ∀ {l : List (Option Nat)}, ors (l.map Option.isSome) = true → ∀ m ∈ paired l, MOk sets m
  | [], _, m, hm => by simp [paired] at hm
  | [_], _, m, hm => by simp [paired] at hm
  | a :: b :: l, h, m, hm => by
    have h : (a.isSome || b.isSome) = true ∧ ors (l.map Option.isSome) = true := Bool.and_eq_true_iff.mp h
    rw [paired_cons] at hm
    rcases List.mem_cons.mp hm with e | hm
    · rw [e]
      exact newM_ok (Bool.or_eq_true_iff.mp h.1)
    · exact paired_ors h.2 m hm
theorem paired_ands : ∀ {l : List (Option Nat)}, ands (l.map Option.isSome) = true → ∃ m ∈ paired l, m.a.isSome = true ∧ m.b.isSome = true
  | [], h => by simp [ands] at h
  | [_], h => by simp [ands] at h
  | a :: b :: l, h => by
    have h : (a.isSome && b.isSome) = true ∨ ands (l.map Option.isSome) = true := Bool.or_eq_true_iff.mp h
    rw [paired_cons]
    rcases h with h | h
    · obtain ⟨h1, h2⟩ := Bool.and_eq_true_iff.mp h
      exact ⟨_, List.mem_cons_self .., h1, h2⟩
    · obtain ⟨m, hm, q⟩ := paired_ands h
      exact ⟨m, List.mem_cons_of_mem _ hm, q⟩
/-- what is reckoned of the seats, for each size -/
def seatsGood (n : Nat) : Bool :=
  let q := seats (size n)
  let t := q.map fun x => decide (x - 1 < n)
  ors t && (ands t && (decide (q.length = 2 ^ size n) && (decide (1 ≤ size n) && (decide (size n ≤ 5) && (decide (n ≤ 2 ^ size n) && q.isPerm (List.range' 1 (2 ^ size n)))))))
theorem seats_good : ∀ n : Nat, 2 ≤ n → n ≤ 32 → seatsGood n = true := by
  intro n h1 h2
  have : ∀ n : Fin 33, 2 ≤ n.1 → seatsGood n.1 = true := by decide +kernel
  exact this ⟨n, by omega⟩ h1
structure SeatsOk (n : Nat) : Prop where
  ors : ors ((seats (size n)).map fun x => decide (x - 1 < n)) = true
  ands : ands ((seats (size n)).map fun x => decide (x - 1 < n)) = true
  len : (seats (size n)).length = 2 ^ size n
  one : 1 ≤ size n
  five : size n ≤ 5
  le : n ≤ 2 ^ size n
  perm : (seats (size n)).Perm (List.range' 1 (2 ^ size n))
theorem seatsOk {n : Nat} (h1 : 2 ≤ n) (h2 : n ≤ 32) : SeatsOk n := by
  have h := seats_good n h1 h2
  unfold seatsGood at h
  simp only [Bool.and_eq_true, decide_eq_true_eq, List.isPerm_iff] at h
  exact ⟨h.1, h.2.1, h.2.2.1, h.2.2.2.1, h.2.2.2.2.1, h.2.2.2.2.2.1, h.2.2.2.2.2.2⟩
theorem SeatsOk.pos {n : Nat} (k : SeatsOk n) : ∀ x ∈ seats (size n), 1 ≤ x := fun x hx => by
  have := k.perm.mem_iff.mp hx
  rw [List.mem_range'_1] at this
  exact this.1
/-- the seated, by their ranks -/
def opts (L : List Nat) : List (Option Nat) := (seats (size L.length)).map fun x => L[x - 1]?
theorem opts_some (L : List Nat) : (opts L).map Option.isSome = (seats (size L.length)).map fun x => decide (x - 1 < L.length) := by
  unfold opts
  rw [List.map_map]
  refine List.map_congr_left fun x _ => ?_
  show (L[x - 1]?).isSome = _
  by_cases h : x - 1 < L.length
  · rw [List.getElem?_eq_getElem h, decide_eq_true h]
    rfl
  · rw [List.getElem?_eq_none (by omega), decide_eq_false h]
    rfl
theorem range_all (L : List Nat) : ∀ (N : Nat), L.length ≤ N → (List.range' 1 N).filterMap (fun x => L[x - 1]?) = L := by
  intro N h
  have e : List.range' 1 N = (List.range N).map (1 + ·) := by
    rw [List.range_eq_range', List.map_add_range']
  rw [e, List.filterMap_map]
  have e2 : (fun x => L[x - 1]?) ∘ (1 + ·) = fun i => L[i]? := by
    funext i
    show L[1 + i - 1]? = _
    rw [Nat.add_sub_cancel_left]
  rw [e2]
  clear e e2
  induction L generalizing N with
  | nil => simp
  | cons a L ih =>
    obtain ⟨M, rfl⟩ : ∃ M, N = M + 1 := ⟨N - 1, by simp only [List.length_cons] at h; omega⟩
    rw [List.range_succ_eq_map, List.filterMap_cons_some (b := a) (by rfl), List.filterMap_map]
    congr 1
    refine Eq.trans ?_ (ih M (by simp only [List.length_cons] at h; omega))
    congr 1
theorem opts_perm {L : List Nat} (k : SeatsOk L.length) : ((opts L).filterMap id).Perm L := by
  unfold opts
  rw [List.filterMap_map]
  have := k.perm.filterMap (fun x => L[x - 1]?)
  rw [range_all L _ k.le] at this
  exact this
theorem opts_len {L : List Nat} (k : SeatsOk L.length) : (opts L).length = 2 ^ size L.length := by
  unfold opts
  rw [List.length_map, k.len]
theorem opts_even {L : List Nat} (k : SeatsOk L.length) : (opts L).length % 2 = 0 := by
  rw [opts_len k]
  have := k.one
  obtain ⟨j, e⟩ : ∃ j, size L.length = j + 1 := ⟨size L.length - 1, by omega⟩
  rw [e, Nat.pow_succ]
  omega
theorem first_ppl {L : List Nat} (k : SeatsOk L.length) : (ppl (paired (opts L))).Perm L := by
  rw [ppl_paired _ (opts_even k)]
  exact opts_perm k
theorem filter_take {l : List Nat} (nd : l.Nodup) (n : Nat) {p : Nat → Bool} (hp : ∀ i, p i = true ↔ i ∈ l.take n) : l.filter p = l.take n := by
  conv => lhs; rw [← List.take_append_drop n l]
  rw [List.filter_append]
  have h1 : (l.take n).filter p = l.take n := List.filter_eq_self.mpr fun i hi => (hp i).mpr hi
  have h2 : (l.drop n).filter p = [] := by
    rw [List.filter_eq_nil_iff]
    intro i hi hq
    have nd' : (l.take n ++ l.drop n).Nodup := by rw [List.take_append_drop]; exact nd
    exact (List.nodup_append.mp nd').2.2 i ((hp i).mp hq) i hi rfl
  rw [h1, h2, List.append_nil]
/-- the state when it's cut, ahead of the byes -/
def cutS (s : State) (n : Nat) (sets : Bool) : State := { s with order := s.ranked, sets := sets, rounds := [paired (opts (s.ranked.take n))] }
section
variable {s : State} {n : Nat} {sets : Bool}
theorem cut_take (hn : n ≤ s.ranked.length) : (s.ranked.take n).length = n := by rw [List.length_take]; omega
theorem cut_inBracket (h2 : 2 ≤ n) (h32 : n ≤ 32) (hn : n ≤ s.ranked.length) : (cutS s n sets).inBracket = s.ranked.take n := by
  unfold State.inBracket cutS
  refine filter_take (ranked_nodup s) n fun i => ?_
  have k : SeatsOk (s.ranked.take n).length := by rw [cut_take hn]; exact seatsOk h2 h32
  show inR (paired (opts (s.ranked.take n))) i = true ↔ _
  rw [← ppl_mem, (first_ppl k).mem_iff]
theorem cut_ok (h2 : 2 ≤ n) (h32 : n ≤ 32) (hn : n ≤ s.ranked.length) : ROk (cutS s n sets) := by
  have k : SeatsOk (s.ranked.take n).length := by rw [cut_take hn]; exact seatsOk h2 h32
  have hr : ∀ r ∈ (cutS s n sets).rounds, r = paired (opts (s.ranked.take n)) := fun r hr => List.mem_singleton.mp hr
  have hlen : (paired (opts (s.ranked.take n))).length = 2 ^ (size (s.ranked.take n).length - 1) := by
    rw [paired_length, opts_len k]
    have := k.one
    obtain ⟨j, e⟩ : ∃ j, size (s.ranked.take n).length = j + 1 := ⟨size (s.ranked.take n).length - 1, by omega⟩
    rw [e, Nat.pow_succ]
    simp
  refine ⟨by unfold cutS; simp, fun r h m hm => ?_, ⟨size (s.ranked.take n).length - 1, hlen, .inl ?_⟩, fun r h => ?_, ?_, fun r h i hi => ?_⟩
  · rw [hr r h] at hm
    exact paired_ors (by rw [opts_some]; exact k.ors) m hm
  · show 1 + _ ≤ 5
    have := k.five
    have := k.one
    omega
  · rw [hr r h, hlen]
    have := k.five
    calc 2 ^ (size (s.ranked.take n).length - 1) ≤ 2 ^ 4 := Nat.pow_le_pow_right (by decide) (by omega)
      _ = 16 := by decide
  · exact paired_ands (by rw [opts_some]; exact k.ands)
  · rw [hr r h] at hi
    refine ⟨hi, ?_⟩
    rw [← ppl_mem, (first_ppl k).mem_iff] at hi
    exact List.mem_of_mem_take hi
theorem cut_once (h2 : 2 ≤ n) (h32 : n ≤ 32) (hn : n ≤ s.ranked.length) : Once (cutS s n sets) := by
  have k : SeatsOk (s.ranked.take n).length := by rw [cut_take hn]; exact seatsOk h2 h32
  show (ppl (paired (opts (s.ranked.take n)))).Nodup
  rw [(first_ppl k).nodup_iff]
  exact (List.take_sublist _ _).nodup (ranked_nodup s)
theorem atRank_opt (L : List Nat) {x : Nat} (h : 1 ≤ x) : atRank (whole L) x = opt L[x - 1]? := by
  unfold atRank
  rw [whole_length]
  by_cases c : x ≤ L.length
  · rw [if_pos c, List.getD_eq_getElem?_getD]
    unfold whole
    rw [List.getElem?_map, List.getElem?_eq_getElem (by omega)]
    rfl
  · rw [if_neg c, List.getElem?_eq_none (by omega)]
    rfl
theorem cut_abs (h2 : 2 ≤ n) (h32 : n ≤ 32) (hn : n ≤ s.ranked.length) : absB (cutS s n sets) = B.new (whole (s.ranked.take n)) sets := by
  have k : SeatsOk (s.ranked.take n).length := by rw [cut_take hn]; exact seatsOk h2 h32
  unfold absB B.new
  rw [cut_inBracket h2 h32 hn, whole_length]
  congr 1
  show [(paired (opts (s.ranked.take n))).map (absM sets)] = _
  rw [paired_abs]
  unfold opts
  rw [List.map_map]
  congr 2
  exact List.map_congr_left fun x hx => (atRank_opt _ (k.pos x hx)).symm
end
end Ar
end
section
set_option autoImplicit false
/-! Places: by rounds, by insertion, and by one sort. -/
namespace Ar
open Kg64

theorem opt_toList (a : Option Nat) : whole a.toList = [opt a].filter fun z => decide (z ≠ -1) := by
  cases a with
  | none => rfl
  | some n =>
    show [(n : Int)] = [(n : Int)].filter _
    rw [List.filter_cons, if_pos (by simp only [decide_eq_true_eq]; omega)]
    rfl
theorem top_abs (s : State) : (absB s).top = whole (tops s.now) := by
  unfold B.top tops
  rw [last_abs, List.flatMap_map]
  unfold whole
  rw [List.map_flatMap]
  congr 1
  funext m
  rw [loser_abs]
  have h1 := opt_toList m.won
  have h2 := opt_toList m.loser
  unfold whole at h1 h2
  rw [List.map_append, h1, h2]
  show ([opt m.won] ++ [opt m.loser]).filter _ = _
  rw [List.filter_append]
theorem mem_whole {l : List Nat} {i : Nat} : (i : Int) ∈ whole l ↔ i ∈ l := by
  unfold whole
  rw [List.mem_map]
  constructor
  · rintro ⟨j, hj, e⟩
    have : j = i := Int.ofNat.inj e
    rw [← this]
    exact hj
  · exact fun h => ⟨i, h, rfl⟩
def restS (s : State) : List Nat := s.inBracket.filter fun i => !(tops s.now).contains i
theorem others_abs (s : State) : (absB s).others = whole (restS s) := by
  unfold B.others restS
  rw [top_abs]
  show (whole s.inBracket).filter _ = _
  exact filter_whole (fun n => by
    congr 1
    rw [Bool.eq_iff_iff, decide_eq_true_eq, List.contains_iff_mem]
    exact mem_whole) _

/-! ### in which round one was last -/
theorem findSome_filter {α β : Type} {f : α → Option β} {p : α → Bool} {g : α → β} (h1 : ∀ a, p a = true → f a = some (g a)) (h2 : ∀ a, p a = false → f a = none) : ∀ l : List α, l.findSome? f = (l.filter p).head?.map g
  | [] => rfl
  | a :: l => by
    rw [List.findSome?_cons, List.filter_cons]
    cases h : p a with
    | true => rw [h1 a h]; rfl
    | false =>
      rw [h2 a h]
      exact findSome_filter h1 h2 l
def matchOf (r : List Match) (i : Nat) : Option Match := r.find? fun m => m.a == some i || m.b == some i
theorem matchOf_isSome (r : List Match) (i : Nat) : (matchOf r i).isSome = inR r i := by
  unfold matchOf inR
  rw [List.isSome_find?]
theorem has_abs (sets : Bool) (m : Match) (i : Nat) : (absM sets m).has (i : Int) = (m.a == some i || m.b == some i) := by
  unfold M.has
  show (decide ((i : Int) = opt m.a) || decide ((i : Int) = opt m.b)) = _
  rw [Bool.eq_iff_iff]
  simp only [Bool.or_eq_true, decide_eq_true_eq, opt_at, beq_iff_eq]
theorem find_abs {s : State} {i : Nat} (h0 : inR (s.rounds.headD []) i = true) (ne : s.rounds ≠ []) :
    ∃ m, matchOf (s.rounds.getD (s.lastRound i) []) i = some m ∧ (absB s).find (i : Int) = some (s.lastRound i, absM s.sets m) ∧ s.lastRound i < s.rounds.length := by
  let p : Nat → Bool := fun k => inR (s.rounds.getD k []) i
  let q := (List.range s.rounds.length).filter p
  have hq0 : 0 ∈ q := by
    refine List.mem_filter.mpr ⟨List.mem_range.mpr ?_, ?_⟩
    · cases e : s.rounds with
      | nil => exact absurd e ne
      | cons a l => simp
    · show inR (s.rounds.getD 0 []) i = true
      cases e : s.rounds with
      | nil => exact absurd e ne
      | cons a l =>
        rw [e] at h0
        exact h0
  have hq : q ≠ [] := fun z => by rw [z] at hq0; simp at hq0
  have hl : s.lastRound i = q.getLast hq := by
    unfold State.lastRound
    show (q.getLast?).getD 0 = _
    rw [List.getLast?_eq_some_getLast hq]
    rfl
  have hm := List.mem_filter.mp (List.getLast_mem hq)
  rw [← hl] at hm
  obtain ⟨hm1, hm2⟩ := hm
  have hm2 : inR (s.rounds.getD (s.lastRound i) []) i = true := hm2
  rw [← matchOf_isSome] at hm2
  obtain ⟨m, em⟩ := Option.isSome_iff_exists.mp hm2
  refine ⟨m, em, ?_, List.mem_range.mp hm1⟩
  unfold B.find
  have hlen : (absB s).rounds.length = s.rounds.length := List.length_map ..
  rw [hlen]
  have hf : ∀ t, ((absB s).rounds.getD t []).find? (fun m => m.has (i : Int)) = (matchOf (s.rounds.getD t []) i).map (absM s.sets) := fun t => by
    have e1 : (absB s).rounds.getD t [] = (s.rounds.getD t []).map (absM s.sets) := by
      show (s.rounds.map fun r => r.map (absM s.sets)).getD t [] = _
      rw [List.getD_eq_getElem?_getD, List.getD_eq_getElem?_getD, List.getElem?_map]
      cases s.rounds[t]? <;> rfl
    rw [e1, List.find?_map]
    unfold matchOf
    congr 2
    funext x
    exact has_abs s.sets x i
  rw [findSome_filter (p := p) (g := fun t => (t, absM s.sets ((matchOf (s.rounds.getD t []) i).getD m)))]
  · rw [List.filter_reverse, List.head?_reverse]
    show (q.getLast?).map _ = _
    rw [List.getLast?_eq_some_getLast hq, ← hl, Option.map_some, em]
    rfl
  · intro t ht
    have ht : (matchOf (s.rounds.getD t []) i).isSome = true := by rw [matchOf_isSome]; exact ht
    obtain ⟨x, ex⟩ := Option.isSome_iff_exists.mp ht
    rw [hf, ex]
    rfl
  · intro t ht
    have ht : (matchOf (s.rounds.getD t []) i).isSome = false := by rw [matchOf_isSome]; exact ht
    rw [hf, Option.isSome_eq_false_iff.mp ht |> Option.isNone_iff_eq_none.mp]
    rfl
def place (l : List Nat) (i : Nat) : Nat := (l.findIdx? fun x => x == i).getD 0
theorem idxOf_whole (l : List Nat) (i : Nat) : (whole l).idxOf (i : Int) = l.idxOf i := by
  unfold whole
  induction l with
  | nil => rfl
  | cons a l ih =>
    rw [List.map_cons, List.idxOf_cons, List.idxOf_cons, ih]
    have e : ((a : Int) == (i : Int)) = (a == i) := by
      rw [Bool.eq_iff_iff, beq_iff_eq, beq_iff_eq]
      omega
    rw [e]
theorem place_eq {l : List Nat} {i : Nat} (h : i ∈ l) : place l i = l.idxOf i := by
  unfold place
  induction l with
  | nil => simp at h
  | cons a l ih =>
    rw [List.findIdx?_cons, List.idxOf_cons]
    cases e : (a == i) with
    | true => rfl
    | false =>
      have h' : i ∈ l := by
        rcases List.mem_cons.mp h with z | z
        · rw [z] at e; simp at e
        · exact z
      have ih := ih h'
      have hs : (l.findIdx? fun x => x == i).isSome = true := by
        rw [List.findIdx?_isSome, List.any_eq_true]
        exact ⟨i, h', by simp⟩
      obtain ⟨j, ej⟩ := Option.isSome_iff_exists.mp hs
      rw [ej] at ih ⊢
      simp only [Option.map_some, Option.getD_some, cond_false] at ih ⊢
      simp [ih]
theorem place_take {l : List Nat} {n i : Nat} (h : i ∈ l.take n) : place (l.take n) i = place l i := by
  rw [place_eq h, place_eq (List.mem_of_mem_take h)]
  have : l.idxOf i = (l.take n ++ l.drop n).idxOf i := by rw [List.take_append_drop]
  rw [this, List.idxOf_append, if_pos h]
theorem place_inj {l : List Nat} {i j : Nat} (hi : i ∈ l) (hj : j ∈ l) (e : place l i = place l j) : i = j := by
  rw [place_eq hi, place_eq hj] at e
  have h1 := List.getElem_idxOf (List.idxOf_lt_length_of_mem hi)
  have h2 := List.getElem_idxOf (List.idxOf_lt_length_of_mem hj)
  rw [← h1, ← h2]
  simp only [e]
/-- the key by which those who aren't in the last round stand -/
def keyP (s : State) (i : Nat) : List Int := [-(s.lastRound i : Int), -(s.lostWith i : Int), ((place s.order i : Nat) : Int)]
/-- the bracket is of the first so many -/
def Front (s : State) : Prop := ∃ n, s.inBracket = s.order.take n
theorem standKey_abs {s : State} (k : ROk s) (f : Front s) {i : Nat} (h : i ∈ s.inBracket) : (absB s).standKey (i : Int) = keyP s i := by
  have h0 : inR (s.rounds.headD []) i = true := (List.mem_filter.mp h).2
  obtain ⟨m, e1, e2, _⟩ := find_abs h0 k.ne
  unfold B.standKey keyP
  rw [e2]
  have e3 : (absM s.sets m).scoreOf (i : Int) = (s.lostWith i : Nat) := by
    unfold M.scoreOf State.lostWith
    have e1' : ((s.rounds.getD (s.lastRound i) []).find? fun m => m.a == some i || m.b == some i) = some m := e1
    rw [e1', Option.map_some, Option.getD_some]
    show (if (i : Int) = opt m.a then (((m.score s.sets).1 : Nat) : Int) else ((m.score s.sets).2 : Nat)) = _
    by_cases c : m.a = some i
    · rw [if_pos (opt_at.mpr c), if_pos c]
    · rw [if_neg (fun z => c (opt_at.mp z)), if_neg c]
  have e4 : (absB s).seated.idxOf (i : Int) = place s.order i := by
    show (whole s.inBracket).idxOf (i : Int) = _
    obtain ⟨n, en⟩ := f
    rw [idxOf_whole, ← place_eq h]
    rw [en] at h ⊢
    exact place_take h
  show [-((s.lastRound i : Nat) : Int), -(absM s.sets m).scoreOf (i : Int), (((absB s).seated.idxOf (i : Int) : Nat) : Int)] = _
  rw [e3, e4]

/-! ### by rounds -/
def key2 (s : State) (j : Nat) : List Int := [-(s.lostWith j : Int), (((s.order.findIdx? fun x => x == j).getD 0 : Nat) : Int)]
def byRound (s : State) : List Nat := (List.range s.rounds.length).reverse.flatMap fun k => ((restS s).filter fun i => s.lastRound i == k).foldl (fun r i => put (key2 s) i r) []
theorem places_eq (s : State) : s.places = tops s.now ++ (byRound s ++ s.order.filter fun i => !s.inBracket.contains i) := rfl
structure POk (s : State) : Prop where
  r : ROk s
  f : Front s
  nd : s.order.Nodup
  o : Once s
theorem inBracket_order {s : State} {i : Nat} (h : i ∈ s.inBracket) : i ∈ s.order := (List.mem_filter.mp h).1
theorem inBracket_nd {s : State} (k : POk s) : s.inBracket.Nodup := List.filter_sublist.nodup k.nd
theorem rest_nd {s : State} (k : POk s) : (restS s).Nodup := List.filter_sublist.nodup (inBracket_nd k)
theorem rest_mem {s : State} {i : Nat} : i ∈ restS s ↔ i ∈ s.inBracket ∧ i ∉ tops s.now := by
  unfold restS
  rw [List.mem_filter]
  simp
theorem keys2 {s : State} (k : POk s) (kk : Nat) : Keys (key2 s) 2 ((restS s).filter fun i => s.lastRound i == kk) := by
  refine ⟨fun _ _ => rfl, ?_⟩
  have nd : ((restS s).filter fun i => s.lastRound i == kk).Nodup := List.filter_sublist.nodup (rest_nd k)
  refine List.Pairwise.imp_of_mem ?_ nd
  intro a b ha hb hab e
  unfold key2 at e
  injection e with _ e
  injection e with e _
  refine hab (place_inj (l := s.order) ?_ ?_ (Int.ofNat.inj e))
  · exact inBracket_order (rest_mem.mp (List.mem_filter.mp ha).1).1
  · exact inBracket_order (rest_mem.mp (List.mem_filter.mp hb).1).1
theorem group_perm {s : State} (k : Nat) : (((restS s).filter fun i => s.lastRound i == k).foldl (fun r i => put (key2 s) i r) []).Perm ((restS s).filter fun i => s.lastRound i == k) := by
  have := puts_perm (key := key2 s) ((restS s).filter fun i => s.lastRound i == k) []
  rw [List.append_nil] at this
  exact this
theorem group_mem {s : State} {k i : Nat} : i ∈ (((restS s).filter fun i => s.lastRound i == k).foldl (fun r i => put (key2 s) i r) []) ↔ i ∈ restS s ∧ s.lastRound i = k := by
  rw [(group_perm k).mem_iff, List.mem_filter]
  simp
theorem byRound_ord {s : State} (k : POk s) : Ord (keyP s) (byRound s) := by
  unfold Ord byRound
  rw [List.pairwise_flatMap]
  constructor
  · intro kk _
    have h : Ord (key2 s) (((restS s).filter fun i => s.lastRound i == kk).foldl (fun r i => put (key2 s) i r) []) := by
      rw [puts_sort (keys2 k kk)]
      exact sortK_ord (keys2 k kk)
    refine List.Pairwise.imp_of_mem ?_ h
    intro a b ha hb hab
    have ea := (group_mem.mp ha).2
    have eb := (group_mem.mp hb).2
    unfold keyP
    rw [ea, eb]
    show (decide (-(kk : Int) < -(kk : Int)) || (-(kk : Int) == -(kk : Int) && less (key2 s a) (key2 s b))) = true
    rw [hab]
    simp
  · rw [List.pairwise_reverse]
    refine List.pairwise_lt_range.imp ?_
    intro a b hab x hx y hy
    have ex := (group_mem.mp hx).2
    have ey := (group_mem.mp hy).2
    unfold keyP
    rw [ex, ey]
    show (decide (-(b : Int) < -(a : Int)) || _) = true
    rw [decide_eq_true (by omega)]
    rfl
theorem ord_nodup {key : Nat → List Int} {l : List Nat} (h : Ord key l) : l.Nodup := h.imp fun {a b} hab e => by
  rw [e, less_irrefl] at hab
  cases hab
theorem lastRound_lt {s : State} (k : POk s) {i : Nat} (h : i ∈ s.inBracket) : s.lastRound i < s.rounds.length := by
  obtain ⟨_, _, _, h⟩ := find_abs (List.mem_filter.mp h).2 k.r.ne
  exact h
theorem byRound_mem {s : State} (k : POk s) {i : Nat} : i ∈ byRound s ↔ i ∈ restS s := by
  unfold byRound
  rw [List.mem_flatMap]
  constructor
  · rintro ⟨kk, _, h⟩
    exact (group_mem.mp h).1
  · intro h
    refine ⟨s.lastRound i, ?_, group_mem.mpr ⟨h, rfl⟩⟩
    rw [List.mem_reverse, List.mem_range]
    exact lastRound_lt k (rest_mem.mp h).1
theorem byRound_perm {s : State} (k : POk s) : (byRound s).Perm (restS s) :=
  (List.perm_ext_iff_of_nodup (ord_nodup (byRound_ord k)) (rest_nd k)).mpr fun _ => byRound_mem k
theorem keysP {s : State} (k : POk s) : Keys (keyP s) 3 (restS s) := by
  refine ⟨fun _ _ => rfl, ?_⟩
  refine List.Pairwise.imp_of_mem ?_ (rest_nd k)
  intro a b ha hb hab e
  unfold keyP at e
  injection e with _ e
  injection e with _ e
  injection e with e _
  exact hab (place_inj (l := s.order) (inBracket_order (rest_mem.mp ha).1) (inBracket_order (rest_mem.mp hb).1) (Int.ofNat.inj e))
theorem byRound_sort {s : State} (k : POk s) : byRound s = sortK (keyP s) (restS s) :=
  Ord.unique (byRound_ord k) (sortK_ord (keysP k)) ((byRound_perm k).trans (sortK_perm _).symm)
theorem bplaces_abs {s : State} (k : POk s) : (absB s).places = whole (tops s.now ++ byRound s) := by
  unfold B.places
  rw [top_abs, others_abs, whole_append, byRound_sort k]
  congr 1
  unfold sortK whole
  rw [List.map_mergeSort]
  intro a ha b hb
  rw [standKey_abs k.r k.f (rest_mem.mp ha).1, standKey_abs k.r k.f (rest_mem.mp hb).1]
theorem done_won {s : State} (h : s.now.all (fun m => m.won.isSome) = true) : ∀ m ∈ s.now, m.won.isSome = true := List.all_eq_true.mp h
theorem top_mem {s : State} (k : POk s) (hw : ∀ m ∈ s.now, m.won.isSome = true) {i : Nat} (h : i ∈ tops s.now) : i ∈ s.inBracket := by
  have tp := tops_perm (fun m hm => (k.r.now_ok m hm).who) hw
  have h1 := ppl_mem.mp (tp.mem_iff.mp h)
  obtain ⟨h2, h3⟩ := k.r.who _ k.r.now_mem i h1
  exact List.mem_filter.mpr ⟨h3, h2⟩
theorem bplaces_mem {s : State} (k : POk s) (hw : ∀ m ∈ s.now, m.won.isSome = true) {i : Nat} : (i : Int) ∈ (absB s).places ↔ i ∈ s.inBracket := by
  rw [bplaces_abs k, mem_whole, List.mem_append, byRound_mem k, rest_mem]
  constructor
  · rintro (h | h)
    · exact top_mem k hw h
    · exact h.1
  · intro h
    by_cases c : i ∈ tops s.now
    · exact .inl c
    · exact .inr ⟨h, c⟩
theorem places_abs {s : State} (k : POk s) (hw : ∀ m ∈ s.now, m.won.isSome = true) : (absB s).places ++ ((whole s.order).filter fun i => !decide (i ∈ (absB s).places)) = whole s.places := by
  rw [places_eq, ← List.append_assoc, whole_append, ← bplaces_abs k]
  congr 1
  refine filter_whole (fun n => ?_) _
  congr 1
  rw [Bool.eq_iff_iff, decide_eq_true_eq, List.contains_iff_mem]
  exact bplaces_mem k hw
theorem split_len (p : Nat → Bool) : ∀ l : List Nat, (l.filter p).length + (l.filter fun i => !p i).length = l.length
  | [] => rfl
  | a :: l => by
    have ih := split_len p l
    rw [List.filter_cons, List.filter_cons, List.length_cons]
    cases p a
    · rw [if_neg (by decide), if_pos (by rfl), List.length_cons]
      omega
    · rw [if_pos rfl, if_neg (by decide), List.length_cons]
      omega
theorem places_len {s : State} (k : POk s) (hw : ∀ m ∈ s.now, m.won.isSome = true) : s.places.length = s.order.length := by
  have tp := tops_perm (fun m hm => (k.r.now_ok m hm).who) hw
  have tn : (tops s.now).Nodup := tp.nodup_iff.mpr k.o
  have hn : (tops s.now ++ byRound s).Nodup := by
    rw [List.nodup_append]
    refine ⟨tn, ord_nodup (byRound_ord k), fun a ha b hb e => ?_⟩
    rw [e] at ha
    exact (rest_mem.mp ((byRound_mem k).mp hb)).2 ha
  have hp : (tops s.now ++ byRound s).Perm s.inBracket := (List.perm_ext_iff_of_nodup hn (inBracket_nd k)).mpr fun i => by
    rw [List.mem_append, byRound_mem k, rest_mem]
    constructor
    · rintro (h | h)
      · exact top_mem k hw h
      · exact h.1
    · intro h
      by_cases c : i ∈ tops s.now
      · exact .inl c
      · exact .inr ⟨h, c⟩
  have e1 := hp.length_eq
  rw [places_eq, ← List.append_assoc, List.length_append, e1]
  have e2 : s.inBracket = s.order.filter fun i => s.inBracket.contains i := by
    unfold State.inBracket
    refine List.filter_congr fun i hi => ?_
    rw [Bool.eq_iff_iff, List.contains_iff_mem, List.mem_filter]
    exact ⟨fun h => ⟨hi, h⟩, fun h => h.2⟩
  conv => lhs; lhs; rw [e2]
  exact split_len _ _
end Ar
end
section
set_option autoImplicit false
/-! Clubs. -/
namespace Ar
open Kg64

def dictOf (ms : List A) : List (Int × List Int) := (ms.map (·.club)).eraseDups.map fun c => (c, (ms.filter fun m => decide (m.club = c)).map A.points)
theorem dict_step (pre : List A) (m : A) : dput (dictOf pre) m.club m.points = dictOf (pre ++ [m]) := by
  have hk : (((pre ++ [m]).map (·.club)) : List Int).eraseDups = if m.club ∈ pre.map (·.club) then (pre.map (·.club)).eraseDups else (pre.map (·.club)).eraseDups ++ [m.club] := by
    rw [List.map_append, List.eraseDups_append]
    by_cases h : m.club ∈ pre.map (·.club)
    · rw [if_pos h]
      have : ([m].map (·.club)).removeAll (pre.map (·.club)) = [] := by
        unfold List.removeAll
        rw [List.map_singleton, List.filter_cons, if_neg (by simpa using h), List.filter_nil]
      rw [this, List.eraseDups_nil, List.append_nil]
    · rw [if_neg h]
      have : ([m].map (·.club)).removeAll (pre.map (·.club)) = [m.club] := by
        unfold List.removeAll
        rw [List.map_singleton, List.filter_cons, if_pos (by simpa using h), List.filter_nil]
      rw [this, List.eraseDups_cons]
      simp
  have ha : (dictOf pre).any (fun e => decide (e.1 = m.club)) = decide (m.club ∈ pre.map (·.club)) := by
    rw [Bool.eq_iff_iff, List.any_eq_true, decide_eq_true_eq]
    unfold dictOf
    constructor
    · rintro ⟨e, he, h⟩
      obtain ⟨c, hc, rfl⟩ := List.mem_map.mp he
      have h : c = m.club := of_decide_eq_true h
      rw [← h]
      exact List.mem_eraseDups.mp hc
    · intro h
      exact ⟨_, List.mem_map.mpr ⟨m.club, List.mem_eraseDups.mpr h, rfl⟩, decide_eq_true rfl⟩
  have hf : ∀ c, ((pre ++ [m]).filter fun m => decide (m.club = c)).map A.points = (pre.filter fun m => decide (m.club = c)).map A.points ++ if m.club = c then [m.points] else [] := fun c => by
    rw [List.filter_append, List.map_append]
    congr 1
    rw [List.filter_cons]
    by_cases h : m.club = c
    · rw [if_pos (decide_eq_true h), if_pos h]
      rfl
    · rw [if_neg (by simpa using h), if_neg h]
      rfl
  unfold dput
  rw [ha]
  by_cases h : m.club ∈ pre.map (·.club)
  · rw [if_pos (decide_eq_true h)]
    unfold dictOf
    rw [hk, if_pos h, List.map_map]
    refine List.map_congr_left fun c _ => ?_
    rw [hf]
    show (if c = m.club then (c, _ ++ [m.points]) else (c, _)) = _
    by_cases hc : c = m.club
    · rw [if_pos hc, if_pos hc.symm]
    · rw [if_neg hc, if_neg (fun z => hc z.symm), List.append_nil]
  · rw [if_neg (by simpa using h)]
    unfold dictOf
    rw [hk, if_neg h, List.map_append]
    congr 1
    · refine List.map_congr_left fun c hc => ?_
      have : m.club ≠ c := fun z => h (by rw [z]; exact List.mem_eraseDups.mp hc)
      rw [hf, if_neg this, List.append_nil]
    · rw [List.map_singleton, hf, if_pos rfl]
      have : (pre.filter fun x => decide (x.club = m.club)) = [] := by
        rw [List.filter_eq_nil_iff]
        intro x hx q
        exact h (by rw [← of_decide_eq_true q]; exact List.mem_map_of_mem hx)
      rw [this]
      rfl
theorem clubDict_from : ∀ (l pre : List A), l.foldl (fun d m => dput d m.club m.points) (dictOf pre) = dictOf (pre ++ l)
  | [], pre => by rw [List.append_nil]; rfl
  | m :: l, pre => by
    rw [List.foldl_cons, dict_step, clubDict_from l, List.append_assoc]
    rfl
theorem clubDict_eq (ms : List A) : clubDict ms = dictOf ms := clubDict_from ms []

theorem eraseDups_cast : ∀ (n : Nat) (l : List Nat), l.length ≤ n → (l.map fun (x : Nat) => (x : Int)).eraseDups = l.eraseDups.map fun (x : Nat) => (x : Int)
  | _, [], _ => rfl
  | 0, _ :: _, h => by simp at h
  | n + 1, a :: l, h => by
    rw [List.map_cons, List.eraseDups_cons, List.eraseDups_cons, List.map_cons]
    congr 1
    have e : (l.map fun (x : Nat) => (x : Int)).filter (fun b => !b == (a : Int)) = (l.filter fun b => !b == a).map fun (x : Nat) => (x : Int) := by
      rw [List.filter_map]
      congr 1
      refine List.filter_congr fun x _ => ?_
      show (!((x : Int) == (a : Int))) = _
      congr 1
      rw [Bool.eq_iff_iff, beq_iff_eq, beq_iff_eq]
      omega
    rw [e]
    exact eraseDups_cast n _ (by
      have := List.length_filter_le (fun b => !b == a) l
      simp only [List.length_cons] at h
      omega)
theorem clubs_list (s : State) : (absAs s).map (·.club) = s.clubs.map fun (x : Nat) => (x : Int) := by
  unfold absAs
  rw [List.map_map]
  apply List.ext_getElem?
  intro i
  rw [List.getElem?_map, List.getElem?_map]
  by_cases h : i < s.clubs.length
  · rw [List.getElem?_range h, List.getElem?_eq_getElem h]
    show some (((s.clubs.getD i 0 : Nat)) : Int) = _
    rw [List.getD_eq_getElem?_getD, List.getElem?_eq_getElem h]
    rfl
  · rw [List.getElem?_eq_none (by rw [List.length_range]; omega), List.getElem?_eq_none (by omega)]
    rfl
/-- those of a club -/
def clubIs (s : State) (c : Nat) : List Nat := (List.range s.clubs.length).filter fun i => s.clubs.getD i 0 == c
theorem clubIs_abs (s : State) (c : Nat) : ((absAs s).filter fun m => decide (m.club = (c : Int))).map A.points = whole ((clubIs s c).map fun i => total (s.arrowsOf i)) := by
  unfold absAs clubIs whole
  rw [List.filter_map, List.map_map, List.map_map]
  have e : ((fun m : A => decide (m.club = (c : Int))) ∘ absA s) = fun i => s.clubs.getD i 0 == c := by
    funext i
    show decide (((s.clubs.getD i 0 : Nat) : Int) = c) = _
    rw [Bool.eq_iff_iff, decide_eq_true_eq, beq_iff_eq]
    omega
  rw [e]
  exact List.map_congr_left fun i _ => absA_points s i
theorem clubIs_len (s : State) (c : Nat) : (clubIs s c).length = (s.clubs.filter fun d => d == c).length := by
  have e : s.clubs = (List.range s.clubs.length).map fun i => s.clubs.getD i 0 := by
    apply List.ext_getElem?
    intro i
    rw [List.getElem?_map]
    by_cases h : i < s.clubs.length
    · rw [List.getElem?_range h, List.getElem?_eq_getElem h, Option.map_some, List.getD_eq_getElem?_getD, List.getElem?_eq_getElem h]
      rfl
    · rw [List.getElem?_eq_none (by omega), List.getElem?_eq_none (by rw [List.length_range]; omega)]
      rfl
  unfold clubIs
  conv => rhs; rw [e, List.filter_map, List.length_map]
  rfl
theorem ge_unique : ∀ {l m : List Int}, l.Pairwise (fun x y => y ≤ x) → m.Pairwise (fun x y => y ≤ x) → l.Perm m → l = m
  | [], m, _, _, p => by
    have := p.length_eq
    cases m with
    | nil => rfl
    | cons y m => simp at this
  | x :: l, [], _, _, p => by
    have := p.length_eq
    simp at this
  | x :: l, y :: m, hl, hm, p => by
    have e : x = y := by
      have h1 : x ∈ y :: m := p.mem_iff.mp (List.mem_cons_self ..)
      have h2 : y ∈ x :: l := p.mem_iff.mpr (List.mem_cons_self ..)
      rcases List.mem_cons.mp h1 with e | h1
      · exact e
      rcases List.mem_cons.mp h2 with e | h2
      · exact e.symm
      have a := (List.pairwise_cons.mp hl).1 y h2
      have b := (List.pairwise_cons.mp hm).1 x h1
      omega
    subst e
    rw [ge_unique (List.pairwise_cons.mp hl).2 (List.pairwise_cons.mp hm).2 (List.Perm.cons_inv p)]
def down (l : List Int) : List Int := l.mergeSort fun x y => decide (y ≤ x)
theorem down_pw (l : List Int) : (down l).Pairwise fun x y => y ≤ x := by
  have : (down l).Pairwise fun x y => decide (y ≤ x) = true := List.pairwise_mergeSort (le := fun x y : Int => decide (y ≤ x)) (fun a b c h1 h2 => by
    simp only [decide_eq_true_eq] at *
    omega) (fun a b => by
    simp only [Bool.or_eq_true, decide_eq_true_eq]
    omega) l
  exact this.imp fun {a b} h => of_decide_eq_true h
theorem down_perm (l : List Int) : (down l).Perm l := List.mergeSort_perm l _
/-- any such list is it -/
theorem down_is {l m : List Int} (h : m.Perm l) (p : m.Pairwise fun x y => y ≤ x) : m = down l := ge_unique p (down_pw l) (h.trans (down_perm l).symm)
theorem best3_abs (s : State) (c : Nat) : best3 (whole ((clubIs s c).map fun i => total (s.arrowsOf i))) = (s.club c : Nat) := by
  have e : down (whole ((clubIs s c).map fun i => total (s.arrowsOf i))) = whole ((s.ranked.filter fun i => s.clubs.getD i 0 == c).map fun i => total (s.arrowsOf i)) := by
    refine (down_is ?_ ?_).symm
    · unfold whole clubIs
      exact (((ranked_perm s).filter _).map _).map _
    · unfold whole
      rw [List.pairwise_map, List.pairwise_map]
      have h : Ord s.key s.ranked := by
        rw [ranked_sort]
        exact sortK_ord (keys_range s _)
      refine List.Pairwise.imp ?_ (List.Pairwise.sublist List.filter_sublist h)
      intro a b hab
      have hab : (decide (-(total (s.arrowsOf a) : Int) < -(total (s.arrowsOf b) : Int)) || (-(total (s.arrowsOf a) : Int) == -(total (s.arrowsOf b) : Int) && _)) = true := hab
      rw [Bool.or_eq_true, Bool.and_eq_true, decide_eq_true_eq, beq_iff_eq] at hab
      omega
  unfold best3
  show ((down _).take 3).sum = _
  rw [e]
  unfold State.club whole
  rw [sum_cast, List.map_take, List.map_take]
theorem rows_abs (s : State) : clubRows (absAs s) = s.clubs_.map fun (c : Nat) => ((c : Int), ((s.club c : Nat) : Int)) := by
  unfold clubRows
  rw [clubDict_eq]
  unfold dictOf
  rw [clubs_list, eraseDups_cast _ _ (Nat.le_refl _), List.map_map, List.filter_map, List.map_map]
  unfold State.clubs_
  have e : ((fun e : Int × List Int => decide (3 ≤ e.2.length)) ∘ (fun c : Int => (c, ((absAs s).filter fun m => decide (m.club = c)).map A.points)) ∘ fun (x : Nat) => (x : Int)) = fun c : Nat => decide (3 ≤ (s.clubs.filter fun d => d == c).length) := by
    funext c
    show decide (3 ≤ (((absAs s).filter fun m => decide (m.club = (c : Int))).map A.points).length) = _
    rw [clubIs_abs, whole_length, List.length_map, clubIs_len]
  rw [e]
  refine List.map_congr_left fun c _ => ?_
  show ((c : Int), best3 (((absAs s).filter fun m => decide (m.club = (c : Int))).map A.points)) = _
  rw [clubIs_abs, best3_abs]
end Ar
end
section
set_option autoImplicit false
/-! Call by call: the mirror answers what the specification says. -/
namespace Ar
open Kg64

structure Inv (s : State) : Prop where
  size : s.clubs.length ≤ 40
  sc : s.scores.length = s.clubs.length
  ends : s.ends ≤ 12
  arr : s.arrows ≤ 6
  shots : ∀ x ∈ s.scores, x.length ≤ s.ends
  each : ∀ x ∈ s.scores, ∀ e ∈ x, e.length = s.arrows
  ord : s.order = [] ↔ s.rounds = []
  cut : s.rounds ≠ [] → s.order = s.ranked ∧ POk s
theorem inv_init : Inv init := ⟨by decide, rfl, by decide, by decide, fun x h => by simp [init] at h, fun x h => by simp [init] at h, ⟨fun _ => rfl, fun _ => rfl⟩, fun h => absurd rfl h⟩
theorem absD_init : absD init = D.start := rfl
theorem absD_br (s : State) : (absD s).br = if s.rounds = [] then none else some (absB s) := rfl
theorem absD_none {s : State} (h : s.rounds = []) : (absD s).br = none := if_pos h
theorem absD_some {s : State} (h : s.rounds ≠ []) : (absD s).br = some (absB s) := if_neg h
theorem absAs_len (s : State) : (absAs s).length = s.clubs.length := by unfold absAs; rw [List.length_map, List.length_range]
theorem absAs_at (s : State) {i : Nat} (h : i < s.clubs.length) : (absAs s)[i]? = some (absA s i) := by
  unfold absAs
  rw [List.getElem?_map, List.getElem?_range h]
  rfl
theorem within_iff {z lo hi : Int} : Kg64.within z lo hi = true ↔ lo ≤ z ∧ z ≤ hi := by
  unfold Kg64.within
  rw [Bool.and_eq_true, decide_eq_true_eq, decide_eq_true_eq]
theorem archer_some {s : State} {i : Int} (h : Kg64.within i 0 (s.clubs.length - 1) = true) : (absD s).archer i = some (i.toNat, absA s i.toNat) ∧ i.toNat < s.clubs.length := by
  rw [within_iff] at h
  have hl : i.toNat < s.clubs.length := by omega
  refine ⟨?_, hl⟩
  unfold D.archer
  have e : ((absD s).archers.length : Int) = (s.clubs.length : Int) := by
    show (((absAs s).length : Nat) : Int) = _
    rw [absAs_len]
  rw [e, if_neg (by omega)]
  show ((absAs s)[i.toNat]?).map _ = _
  rw [absAs_at s hl]
  rfl
theorem archer_none {s : State} {i : Int} (h : Kg64.within i 0 (s.clubs.length - 1) = false) : (absD s).archer i = none := by
  have h : ¬ (0 ≤ i ∧ i ≤ (s.clubs.length : Int) - 1) := fun z => by
    rw [← within_iff] at z
    rw [h] at z
    cases z
  unfold D.archer
  have e : ((absD s).archers.length : Int) = (s.clubs.length : Int) := by
    show (((absAs s).length : Nat) : Int) = _
    rw [absAs_len]
  rw [e, if_pos (by omega)]

/-! ### begin -/
theorem begin_abs (s : State) (I : Inv s) (e a : Int) (l : List Int) :
    (absD s).begin_ e a l = (absD (spec s (.begin_ e a l)).1, (spec s (.begin_ e a l)).2.value :: (spec s (.begin_ e a l)).2.out) ∧ Inv (spec s (.begin_ e a l)).1 := by
  unfold D.begin_
  by_cases c : (Kg64.within e 1 12 && (Kg64.within a 1 6 && (l.all (fun z => Kg64.within z 0 50) && (decide (2 ≤ l.length) && decide (l.length ≤ 40))))) = false
  · have hs : spec s (.begin_ e a l) = (s, num (-1)) := if_pos c
    rw [hs]
    refine ⟨?_, I⟩
    show _ = (absD s, [-1])
    by_cases c1 : e < 1 ∨ 12 < e ∨ a < 1 ∨ 6 < a
    · rw [if_pos c1]
    · rw [if_neg c1]
      by_cases c2 : l.length < 2 ∨ 40 < l.length
      · rw [if_pos c2]
      · rw [if_neg c2]
        rw [if_pos]
        rw [List.any_eq_true]
        have w1 : Kg64.within e 1 12 = true := within_iff.mpr (by omega)
        have w2 : Kg64.within a 1 6 = true := within_iff.mpr (by omega)
        rw [w1, w2, decide_eq_true (by omega), decide_eq_true (by omega)] at c
        simp only [Bool.true_and, Bool.and_true, List.all_eq_false] at c
        obtain ⟨z, hz, h⟩ := c
        refine ⟨z, hz, ?_⟩
        rw [within_iff] at h
        simp only [Bool.or_eq_true, decide_eq_true_eq]
        omega
  · have hs : spec s (.begin_ e a l) = (⟨e.toNat, a.toNat, nats l, l.map fun _ => [], [], false, []⟩, num l.length) := if_neg c
    simp only [Bool.not_eq_false, Bool.and_eq_true, within_iff, List.all_eq_true, decide_eq_true_eq] at c
    obtain ⟨c1, c2, c3, c4, c5⟩ := c
    rw [hs, if_neg (by omega), if_neg (by omega), if_neg]
    · refine ⟨?_, ?_⟩
      · show (_, [((l.length : Nat) : Int)]) = (_, [((l.length : Nat) : Int)])
        congr 1
        unfold absD
        have e1 : ((e.toNat : Nat) : Int) = e := Int.toNat_of_nonneg (by omega)
        have e2 : ((a.toNat : Nat) : Int) = a := Int.toNat_of_nonneg (by omega)
        show (⟨e, a, _, none⟩ : D) = ⟨((e.toNat : Nat) : Int), ((a.toNat : Nat) : Int), _, none⟩
        rw [e1, e2]
        congr 1
        unfold absAs
        apply List.ext_getElem?
        intro i
        rw [List.getElem?_map, List.getElem?_map, List.getElem?_zipIdx]
        show _ = ((List.range (nats l).length)[i]?).map _
        rw [nats_length]
        by_cases hi : i < l.length
        · rw [List.getElem?_range hi, List.getElem?_eq_getElem hi, Option.map_some, Option.map_some, Option.map_some]
          congr 1
          unfold A.new absA State.arrowsOf
          show (⟨((0 + i : Nat) : Int), l[i], 0, []⟩ : A) = ⟨(i : Int), (((nats l).getD i 0 : Nat) : Int), ((((l.map fun _ => ([] : List (List Nat))).getD i []).length : Nat) : Int), whole (((l.map fun _ => ([] : List (List Nat))).getD i []).flatten)⟩
          have g1 : (l.map fun _ => ([] : List (List Nat))).getD i [] = [] := by
            rw [List.getD_eq_getElem?_getD, List.getElem?_map, List.getElem?_eq_getElem hi]
            rfl
          have g2 : (((nats l).getD i 0 : Nat) : Int) = l[i] := by
            unfold nats
            rw [List.getD_eq_getElem?_getD, List.getElem?_map, List.getElem?_eq_getElem hi]
            exact Int.toNat_of_nonneg (c3 _ (List.getElem_mem hi)).1
          rw [g1, g2, Nat.zero_add]
          rfl
        · rw [List.getElem?_eq_none (l := l) (by omega), List.getElem?_eq_none (l := List.range l.length) (by rw [List.length_range]; omega)]
          rfl
      · refine ⟨by show (nats l).length ≤ 40; rw [nats_length]; exact c5, by show (l.map _).length = (nats l).length; rw [List.length_map, nats_length], by show e.toNat ≤ 12; omega, by show a.toNat ≤ 6; omega, fun x h => ?_, fun x h => ?_, ⟨fun _ => rfl, fun _ => rfl⟩, fun h => absurd rfl h⟩
        · obtain ⟨_, _, rfl⟩ := List.mem_map.mp h
          exact Nat.zero_le _
        · obtain ⟨_, _, rfl⟩ := List.mem_map.mp h
          intro e he
          simp at he
    · rw [Bool.not_eq_true, List.any_eq_false]
      intro z hz
      have := c3 z hz
      simp only [Bool.or_eq_true, decide_eq_true_eq, not_or]
      omega

/-! ### end, card -/
theorem scores_at {s : State} (I : Inv s) {i : Nat} (h : i < s.clubs.length) : s.scores[i]? = some (s.scores.getD i []) := by
  have h : i < s.scores.length := by rw [I.sc]; exact h
  rw [List.getD_eq_getElem?_getD, List.getElem?_eq_getElem h]
  rfl
def ended (s : State) (i : Nat) (l : List Int) : State := { s with scores := s.scores.set i (s.scores.getD i [] ++ [nats l]) }
theorem ended_at {s : State} (I : Inv s) {i : Nat} (h : i < s.clubs.length) (l : List Int) (j : Nat) : (ended s i l).scores.getD j [] = if j = i then s.scores.getD i [] ++ [nats l] else s.scores.getD j [] := by
  have h : i < s.scores.length := by rw [I.sc]; exact h
  show (s.scores.set i _).getD j [] = _
  rw [List.getD_eq_getElem?_getD, List.getElem?_set]
  by_cases c : i = j
  · subst c
    rw [if_pos rfl, if_pos h, if_pos rfl]
    rfl
  · rw [if_neg c, if_neg (fun z => c z.symm), List.getD_eq_getElem?_getD]
theorem ended_abs {s : State} (I : Inv s) {i : Nat} (h : i < s.clubs.length) {l : List Int} (hl : ∀ z ∈ l, 0 ≤ z) : absAs (ended s i l) = (absAs s).set i ((absA s i).take l) := by
  apply List.ext_getElem?
  intro j
  by_cases hj : j < s.clubs.length
  · rw [absAs_at (ended s i l) (i := j) hj, List.getElem?_set]
    by_cases c : i = j
    · subst c
      rw [if_pos rfl, if_pos (by rw [absAs_len]; exact h)]
      congr 1
      unfold absA A.take State.arrowsOf
      rw [ended_at I h, if_pos rfl, List.flatten_append, List.length_append, whole_append]
      show (⟨_, _, _, _ ++ whole ([nats l].flatten)⟩ : A) = ⟨_, _, _, _⟩
      rw [List.flatten_singleton, whole_nats hl]
      congr 1
    · rw [if_neg c, absAs_at s hj]
      congr 1
      unfold absA State.arrowsOf
      rw [ended_at I h, if_neg (fun z => c z.symm)]
      rfl
  · rw [List.getElem?_eq_none (by rw [absAs_len]; show s.clubs.length ≤ j; omega), List.getElem?_eq_none (by rw [List.length_set, absAs_len]; omega)]
theorem ended_inv {s : State} (I : Inv s) {i : Nat} (h : i < s.clubs.length) {l : List Int} (hl : l.length = s.arrows) (hr : s.rounds = []) (hx : (s.scores.getD i []).length < s.ends) : Inv (ended s i l) := by
  have mem : ∀ x ∈ (ended s i l).scores, x ∈ s.scores ∨ x = s.scores.getD i [] ++ [nats l] := fun x hx => List.mem_or_eq_of_mem_set hx
  have hi := scores_at I h
  have hm := List.mem_of_getElem? hi
  refine ⟨I.size, by show (s.scores.set i _).length = _; rw [List.length_set]; exact I.sc, I.ends, I.arr, fun x hx' => ?_, fun x hx' e he => ?_, I.ord, fun z => absurd hr z⟩
  · rcases mem x hx' with q | q
    · exact I.shots x q
    · rw [q, List.length_append, List.length_singleton]
      exact hx
  · rcases mem x hx' with q | q
    · exact I.each x q e he
    · rw [q] at he
      rcases List.mem_append.mp he with he | he
      · exact I.each _ hm e he
      · rw [List.mem_singleton.mp he, nats_length]
        exact hl
theorem end_abs (s : State) (I : Inv s) (i : Int) (l : List Int) :
    (absD s).end_ i l = (absD (spec s (.end_ i l)).1, (spec s (.end_ i l)).2.value :: (spec s (.end_ i l)).2.out) ∧ Inv (spec s (.end_ i l)).1 := by
  unfold D.end_
  cases c1 : Kg64.within i 0 (s.clubs.length - 1) with
  | false =>
    have hs : spec s (.end_ i l) = (s, num (-1)) := if_pos (by rw [c1]; rfl)
    rw [hs, archer_none c1]
    exact ⟨rfl, I⟩
  | true =>
    obtain ⟨e1, hi⟩ := archer_some c1
    rw [e1]
    show (if areArrows l ((s.arrows : Nat) : Int) = false then _ else _) = _ ∧ _
    rw [arrows_ok]
    cases c2 : arrowsOk l s.arrows with
    | false =>
      have hs : spec s (.end_ i l) = (s, num (-1)) := if_pos (by rw [c1, c2]; rfl)
      rw [hs, if_pos rfl]
      exact ⟨rfl, I⟩
    | true =>
      have h0 : ¬ (Kg64.within i 0 (s.clubs.length - 1) && arrowsOk l s.arrows) = false := by rw [c1, c2]; decide
      rw [if_neg (by decide)]
      by_cases c3 : s.rounds = []
      · have c4 : s.order = [] := I.ord.mpr c3
        rw [absD_none c3, if_neg (by decide)]
        show (if ((s.ends : Nat) : Int) ≤ (((s.scores.getD i.toNat []).length : Nat) : Int) then _ else _) = _ ∧ _
        by_cases c5 : s.ends ≤ (s.scores.getD i.toNat []).length
        · have hs : spec s (.end_ i l) = (s, num (-5)) := (if_neg h0).trans ((if_neg (fun z => z c4)).trans (if_pos c5))
          rw [hs, if_pos (by omega)]
          exact ⟨rfl, I⟩
        · have hs : spec s (.end_ i l) = (ended s i.toNat l, ⟨((s.scores.getD i.toNat []).length + 1 : Nat), whole [total (nats l), total (s.scores.getD i.toNat [] ++ [nats l]).flatten]⟩) := (if_neg h0).trans ((if_neg (fun z => z c4)).trans (if_neg c5))
          rw [hs, if_neg (by omega)]
          have hn := arrows_nonneg c2
          refine ⟨?_, ended_inv I hi (arrows_len c2) c3 (by omega)⟩
          have e5 : ((absA s i.toNat).take l).points = (total (s.scores.getD i.toNat [] ++ [nats l]).flatten : Nat) := by
            rw [List.flatten_append, List.flatten_singleton, ← sumOf_whole, whole_append, whole_nats hn]
            rfl
          rw [e5, sumOf_nats hn]
          refine Prod.ext ?_ ?_
          · show (⟨_, _, (absAs s).set i.toNat ((absA s i.toNat).take l), _⟩ : D) = ⟨_, _, absAs (ended s i.toNat l), _⟩
            rw [ended_abs I hi hn]
            congr 1
            exact (absD_none (s := ended s i.toNat l) c3).symm
          · rfl
      · have c4 : s.order ≠ [] := fun z => c3 (I.ord.mp z)
        have hs : spec s (.end_ i l) = (s, num (-3)) := (if_neg h0).trans (if_pos c4)
        rw [hs, absD_some c3, if_pos (show (some (absB s)).isSome = true from rfl)]
        exact ⟨rfl, I⟩
theorem card_abs (s : State) (i : Int) : (absD s).card i = (spec s (.card i)).2.value :: (spec s (.card i)).2.out ∧ (spec s (.card i)).1 = s := by
  unfold D.card
  cases c1 : Kg64.within i 0 (s.clubs.length - 1) with
  | false =>
    have hs : spec s (.card i) = (s, num (-1)) := if_pos c1
    rw [hs, archer_none c1]
    exact ⟨rfl, rfl⟩
  | true =>
    obtain ⟨e1, hi⟩ := archer_some c1
    have hs : spec s (.card i) = (s, ⟨(s.scores.getD i.toNat []).length, whole ([total (s.arrowsOf i.toNat), tens (s.arrowsOf i.toNat), inner (s.arrowsOf i.toNat)] ++ s.arrowsOf i.toNat)⟩) := if_neg (by rw [c1]; decide)
    rw [hs, e1]
    refine ⟨?_, rfl⟩
    show [_, (absA s i.toNat).points, (absA s i.toNat).tens, (absA s i.toNat).inner] ++ whole _ = _
    rw [absA_points, absA_tens, absA_inner, whole_append]
    rfl

/-! ### ranking, clubs -/
theorem ranking_abs (s : State) (I : Inv s) : (absD s).ranking = (spec s .ranking).2.value :: (spec s .ranking).2.out ∧ (spec s .ranking).1 = s := by
  refine ⟨?_, rfl⟩
  have e : (if s.order = [] then s.ranked else s.order) = s.ranked := by
    by_cases c : s.order = []
    · exact if_pos c
    · rw [if_neg c]
      exact (I.cut fun z => c (I.ord.mpr z)).1
  show (((absAs s).length : Nat) : Int) :: (ranked (absAs s)).flatMap _ = (((if s.order = [] then s.ranked else s.order).length : Nat) : Int) :: whole ((if s.order = [] then s.ranked else s.order).flatMap _)
  rw [e, absAs_len, ranked_len, ranked_abs, List.flatMap_map]
  congr 1
  unfold whole
  rw [List.map_flatMap]
  congr 1
  funext i
  rw [absA_points]
  rfl
theorem clubs_abs (s : State) : (absD s).clubs = (spec s .clubs).2.value :: (spec s .clubs).2.out ∧ (spec s .clubs).1 = s := by
  refine ⟨?_, rfl⟩
  show (((clubRows (absAs s)).length : Nat) : Int) :: (clubRows (absAs s)).flatMap _ = ((s.clubs_.length : Nat) : Int) :: whole (s.clubs_.flatMap fun c => [c, s.club c])
  rw [rows_abs, List.length_map, List.flatMap_map]
  congr 1
  unfold whole
  rw [List.map_flatMap]
  rfl

/-! ### cut -/
theorem settle_order (s : State) : s.settle.order = s.order ∧ s.settle.sets = s.sets ∧ s.settle.clubs = s.clubs ∧ s.settle.scores = s.scores ∧ s.settle.ends = s.ends ∧ s.settle.arrows = s.arrows := by
  rw [settle_eq]
  split <;> exact ⟨rfl, rfl, rfl, rfl, rfl, rfl⟩
theorem ranked_congr {s t : State} (h1 : t.clubs = s.clubs) (h2 : t.scores = s.scores) : t.ranked = s.ranked := by
  have hk : t.key = s.key := by
    funext i
    unfold State.key State.arrowsOf
    rw [h2]
  unfold State.ranked
  rw [h1, hk]
theorem absAs_congr {s t : State} (h1 : t.clubs = s.clubs) (h2 : t.scores = s.scores) : absAs t = absAs s := by
  unfold absAs
  rw [h1]
  refine List.map_congr_left fun i _ => ?_
  unfold absA State.arrowsOf
  rw [h1, h2]
theorem settle_front {s : State} (ne : s.rounds ≠ []) (f : Front s) : Front s.settle := by
  rw [settle_eq]
  by_cases h : goes s
  · rw [if_pos h]
    obtain ⟨n, e⟩ := f
    exact ⟨n, by rw [inBracket_append ne]; exact e⟩
  · rw [if_neg h]
    exact f
theorem settle_pok {s : State} (k : POk s) : POk s.settle := ⟨settle_ok k.r, settle_front k.r.ne k.f, by rw [(settle_order s).1]; exact k.nd, settle_once k.r k.o⟩
/-- of a state with rounds that has the archers of s -/
theorem settled_inv {s t : State} (I : Inv s) (h1 : t.clubs = s.clubs) (h2 : t.scores = s.scores) (h3 : t.ends = s.ends) (h4 : t.arrows = s.arrows) (h5 : t.order = s.ranked) (k : POk t) (hc : s.clubs ≠ []) : Inv t.settle := by
  obtain ⟨o1, o2, o3, o4, o5, o6⟩ := settle_order t
  have ks := settle_pok k
  have hne : s.ranked ≠ [] := fun z => by
    have := ranked_len s
    rw [z] at this
    exact hc (List.length_eq_zero_iff.mp this.symm)
  refine ⟨by rw [o3, h1]; exact I.size, by rw [o4, o3, h1, h2]; exact I.sc, by rw [o5, h3]; exact I.ends, by rw [o6, h4]; exact I.arr, by rw [o4, o5, h2, h3]; exact I.shots, by rw [o4, o6, h2, h4]; exact I.each,
    ⟨fun z => ?_, fun z => absurd z ks.r.ne⟩, fun _ => ⟨?_, ks⟩⟩
  · rw [o1, h5] at z
    exact absurd z hne
  · rw [o1, h5, ranked_congr (o3.trans h1) (o4.trans h2)]
theorem settled_abs {s t : State} (h1 : t.clubs = s.clubs) (h2 : t.scores = s.scores) (h3 : t.ends = s.ends) (h4 : t.arrows = s.arrows) (k : ROk t) : absD t.settle = { absD s with br := some (absB t).goOn } := by
  obtain ⟨o1, o2, o3, o4, o5, o6⟩ := settle_order t
  have ks := settle_ok k
  show (⟨((t.settle.ends : Nat) : Int), ((t.settle.arrows : Nat) : Int), absAs t.settle, (absD t.settle).br⟩ : D) = _
  rw [absD_some ks.ne, goOn_abs k, o5, o6, h3, h4, absAs_congr (o3.trans h1) (o4.trans h2)]
  rfl
theorem cut_pok {s : State} {n : Nat} {sets : Bool} (h2 : 2 ≤ n) (h32 : n ≤ 32) (hn : n ≤ s.ranked.length) : POk (cutS s n sets) :=
  ⟨cut_ok h2 h32 hn, ⟨n, cut_inBracket h2 h32 hn⟩, ranked_nodup s, cut_once h2 h32 hn⟩
theorem full_abs (s : State) (I : Inv s) : ((absAs s).any fun m => decide (m.ends < ((s.ends : Nat) : Int))) = !s.full := by
  unfold State.full absAs
  rw [List.any_map, Bool.eq_iff_iff]
  simp only [List.any_eq_true, Function.comp, decide_eq_true_eq, Bool.not_eq_true', List.all_eq_false, List.mem_range, beq_iff_eq]
  constructor
  · rintro ⟨i, hi, h⟩
    have h : (((s.scores.getD i []).length : Nat) : Int) < ((s.ends : Nat) : Int) := h
    exact ⟨_, List.mem_of_getElem? (scores_at I hi), by omega⟩
  · rintro ⟨x, hx, h⟩
    obtain ⟨i, hi, e⟩ := List.mem_iff_getElem.mp hx
    have hi' : i < s.clubs.length := by rw [← I.sc]; exact hi
    refine ⟨i, hi', ?_⟩
    show (((s.scores.getD i []).length : Nat) : Int) < ((s.ends : Nat) : Int)
    have := I.shots x hx
    rw [List.getD_eq_getElem?_getD, List.getElem?_eq_getElem hi, e]
    show ((x.length : Nat) : Int) < _
    omega
theorem cut_step (s : State) (I : Inv s) (n sets : Int) :
    (absD s).cut n sets = (absD (spec s (.cut n sets)).1, (spec s (.cut n sets)).2.value :: (spec s (.cut n sets)).2.out) ∧ Inv (spec s (.cut n sets)).1 := by
  unfold D.cut
  cases c1 : (Kg64.within n 2 32 && Kg64.within sets 0 1) with
  | false =>
    have hs : spec s (.cut n sets) = (s, num (-1)) := if_pos c1
    rw [hs, if_pos]
    · exact ⟨rfl, I⟩
    · rw [Bool.and_eq_false_iff] at c1
      rcases c1 with c1 | c1
      · have : ¬ (2 ≤ n ∧ n ≤ 32) := fun z => by rw [← within_iff] at z; rw [c1] at z; cases z
        omega
      · have : ¬ (0 ≤ sets ∧ sets ≤ 1) := fun z => by rw [← within_iff] at z; rw [c1] at z; cases z
        omega
  | true =>
    have h0 : ¬ (Kg64.within n 2 32 && Kg64.within sets 0 1) = false := by rw [c1]; decide
    rw [Bool.and_eq_true, within_iff, within_iff] at c1
    rw [if_neg (by omega)]
    show (if (absAs s).length = 0 then _ else _) = _ ∧ _
    rw [absAs_len]
    by_cases c2 : s.clubs = []
    · have hs : spec s (.cut n sets) = (s, num (-2)) := (if_neg h0).trans (if_pos c2)
      rw [hs, if_pos (by rw [c2]; rfl)]
      exact ⟨rfl, I⟩
    · rw [if_neg (fun z => c2 (List.length_eq_zero_iff.mp z))]
      by_cases c3 : s.rounds = []
      · have c3' : s.order = [] := I.ord.mpr c3
        rw [absD_none c3, if_neg (by decide)]
        show (if ((absAs s).any fun m => decide (m.ends < ((s.ends : Nat) : Int))) = true then _ else _) = _ ∧ _
        rw [full_abs s I]
        cases c4 : s.full with
        | false =>
          have hs : spec s (.cut n sets) = (s, num (-4)) := (if_neg h0).trans ((if_neg c2).trans ((if_neg (fun z => z c3')).trans (if_pos c4)))
          rw [hs, if_pos (show (!false) = true from rfl)]
          exact ⟨rfl, I⟩
        | true =>
          rw [if_neg (by decide)]
          show (if (((absAs s).length : Nat) : Int) < n then _ else _) = _ ∧ _
          rw [absAs_len]
          by_cases c5 : ((s.ranked.length : Nat) : Int) < n
          · have hs : spec s (.cut n sets) = (s, num (-5)) := (if_neg h0).trans ((if_neg c2).trans ((if_neg (fun z => z c3')).trans ((if_neg (by rw [c4]; decide)).trans (if_pos c5))))
            rw [hs, if_pos (by rw [← ranked_len]; exact c5)]
            exact ⟨rfl, I⟩
          · have g2 : 2 ≤ n.toNat := by omega
            have g32 : n.toNat ≤ 32 := by omega
            have gn : n.toNat ≤ s.ranked.length := by omega
            have ht : (s.ranked.take n.toNat).length = n.toNat := cut_take gn
            have hs : spec s (.cut n sets) = ((cutS s n.toNat (sets == 1)).settle, ⟨(paired (opts (s.ranked.take n.toNat))).length, whole s.ranked⟩) := by
              have e : (seats (size n.toNat)).map (fun x => (s.ranked.take n.toNat)[x - 1]?) = opts (s.ranked.take n.toNat) := by
                unfold opts
                rw [ht]
              refine (if_neg h0).trans ((if_neg c2).trans ((if_neg (fun z => z c3')).trans ((if_neg (by rw [c4]; decide)).trans ((if_neg c5).trans ?_))))
              have ec : cutS s n.toNat (sets == 1) = { s with order := s.ranked, sets := sets == 1, rounds := [paired ((seats (size n.toNat)).map fun x => (s.ranked.take n.toNat)[x - 1]?)] } := by
                unfold cutS
                rw [e]
              rw [ec, ← e]
            have es : decide (sets = 1) = (sets == 1) := by
              rw [Bool.eq_iff_iff, decide_eq_true_eq, beq_iff_eq]
            have ed : (absD s).order = whole s.ranked := order_abs s
            have et : (whole s.ranked).take n.toNat = whole (s.ranked.take n.toNat) := by
              unfold whole
              rw [List.map_take]
            rw [hs, if_neg (by rw [← ranked_len]; exact c5), ed, et, es, ← cut_abs (sets := sets == 1) g2 g32 gn]
            have k := cut_pok (s := s) (sets := sets == 1) g2 g32 gn
            refine ⟨?_, settled_inv I rfl rfl rfl rfl rfl k c2⟩
            refine Prod.ext (settled_abs rfl rfl rfl rfl k.r).symm ?_
            show (((absB (cutS s n.toNat (sets == 1))).last.length : Nat) : Int) :: _ = _
            rw [last_abs, List.length_map]
            rfl
      · have c3' : s.order ≠ [] := fun z => c3 (I.ord.mp z)
        have hs : spec s (.cut n sets) = (s, num (-3)) := (if_neg h0).trans ((if_neg c2).trans (if_pos c3'))
        rw [hs, absD_some c3, if_pos (show (some (absB s)).isSome = true from rfl)]
        exact ⟨rfl, I⟩

/-! ### round, shoot, off, places -/
theorem isEmpty_ne {s : State} (h : s.rounds ≠ []) : ¬ s.rounds.isEmpty = true := fun z => h (List.isEmpty_iff.mp z)
theorem round_abs (s : State) (h : s.rounds ≠ []) : D.round (absB s) = (spec s .round).2.value :: (spec s .round).2.out ∧ (spec s .round).1 = s := by
  refine ⟨?_, rfl⟩
  have hs : (spec s .round).2 = ⟨s.rounds.length, s.now.flatMap fun m => [opt m.a, opt m.b] ++ showMatch s m⟩ := if_neg (isEmpty_ne h)
  rw [hs]
  unfold D.round
  rw [last_abs, List.flatMap_map]
  have e : (absB s).rounds.length = s.rounds.length := List.length_map ..
  rw [e]
  rfl
theorem matchAt_none {s : State} {k : Int} (h : (if k < 0 then none else s.now[k.toNat]?) = none) : (absB s).matchAt k = none := by
  unfold B.matchAt
  rw [last_abs, List.length_map]
  by_cases c : k < 0
  · rw [if_pos (.inl c)]
  · rw [if_neg c] at h
    have := List.getElem?_eq_none_iff.mp h
    rw [if_pos (.inr (by omega))]
theorem matchAt_some {s : State} {k : Int} {m : Match} (h : (if k < 0 then none else s.now[k.toNat]?) = some m) : (absB s).matchAt k = some (k.toNat, absM s.sets m) ∧ s.now[k.toNat]? = some m := by
  by_cases c : k < 0
  · rw [if_pos c] at h
    cases h
  · rw [if_neg c] at h
    refine ⟨?_, h⟩
    obtain ⟨hl, _⟩ := List.getElem?_eq_some_iff.mp h
    unfold B.matchAt
    rw [last_abs, List.length_map, if_neg (by omega), List.getElem?_map, h]
    rfl
theorem put_step {s : State} (I : Inv s) (h : s.rounds ≠ []) {j : Nat} {m m' : Match} (hm : s.now[j]? = some m) (ha : m'.a = m.a) (hb : m'.b = m.b) (ok : MOk s.sets m') :
    absD (setMatch s j m') = { absD s with br := some ((absB s).setLast j (absM s.sets m')).goOn } ∧ Inv (setMatch s j m') := by
  obtain ⟨ho, k⟩ := I.cut h
  have kr := putM_ok k.r hm ha hb ok
  have kp : POk (putM s j m') := ⟨kr, by obtain ⟨n, e⟩ := k.f; exact ⟨n, by rw [putM_inBracket k.r.ne hm ha hb]; exact e⟩, k.nd, putM_once k.o hm ha hb⟩
  have hc : s.clubs ≠ [] := fun z => by
    have e1 := ranked_len s
    rw [z, ← ho] at e1
    exact h (I.ord.mp (List.length_eq_zero_iff.mp e1))
  refine ⟨?_, settled_inv I (t := putM s j m') rfl rfl rfl rfl ho kp hc⟩
  have := settled_abs (s := s) (t := putM s j m') rfl rfl rfl rfl kr
  rw [putM_abs k.r.ne hm ha hb] at this
  exact this
theorem eta_br {d : D} {b : B} (h : d.br = some b) : ({ d with br := some b } : D) = d := by
  cases d
  cases h
  rfl
theorem arrows3 (l : List Int) : areArrows l 3 = arrowsOk l 3 := arrows_ok l 3
theorem shoot_abs (s : State) (I : Inv s) (h : s.rounds ≠ []) (k : Int) (a b : List Int) :
    ({ absD s with br := some ((absB s).shoot k a b).1 }, ((absB s).shoot k a b).2) = (absD (spec s (.shoot k a b)).1, (spec s (.shoot k a b)).2.value :: (spec s (.shoot k a b)).2.out) ∧ Inv (spec s (.shoot k a b)).1 := by
  have same : ({ absD s with br := some (absB s) } : D) = absD s := eta_br (absD_some h)
  obtain ⟨_, kp⟩ := I.cut h
  cases c1 : (if k < 0 then none else s.now[k.toNat]?) with
  | none =>
    have hs : spec s (.shoot k a b) = (s, num (-1)) := by
      refine (if_neg (isEmpty_ne h)).trans ?_
      rw [c1]
    have hb : (absB s).shoot k a b = (absB s, [-1]) := by
      unfold B.shoot
      rw [matchAt_none c1]
    rw [hs, hb]
    exact ⟨Prod.ext same rfl, I⟩
  | some m =>
    obtain ⟨e1, hm⟩ := matchAt_some c1
    have km : MOk s.sets m := kp.r.now_ok m (List.mem_of_getElem? hm)
    have hs0 : spec s (.shoot k a b) = (if (arrowsOk a 3 && arrowsOk b 3) = false then (s, num (-1))
        else if m.won.isSome = true then (s, num (-4))
        else if m.alike s.sets = true then (s, num (-5))
        else (setMatch s k.toNat (shot s.sets m a b), ⟨if (shot s.sets m a b).won.isSome = true then 2 else if (shot s.sets m a b).alike s.sets = true then 1 else 0, showMatch s (shot s.sets m a b)⟩)) := by
      refine (if_neg (isEmpty_ne h)).trans ?_
      rw [c1]
      rfl
    have hb : (absB s).shoot k a b = (if arrowsOk a 3 = false ∨ arrowsOk b 3 = false then (absB s, [-1]) else if m.won.isSome = true then (absB s, [-4]) else if (m.won.isNone && m.alike s.sets) = true then (absB s, [-5])
        else (((absB s).setLast k.toNat ((absM s.sets m).shoot a b)).goOn, after ((absM s.sets m).shoot a b))) := by
      unfold B.shoot
      rw [e1]
      simp only [arrows3, won_abs, alike_abs km]
    rw [hs0, hb]
    by_cases c2 : arrowsOk a 3 = false ∨ arrowsOk b 3 = false
    · rw [if_pos c2, if_pos (Bool.and_eq_false_iff.mpr c2)]
      exact ⟨Prod.ext same rfl, I⟩
    · rw [if_neg c2, if_neg (fun z => c2 (Bool.and_eq_false_iff.mp z))]
      simp only [not_or, Bool.not_eq_false] at c2
      by_cases c3 : m.won.isSome = true
      · rw [if_pos c3, if_pos c3]
        exact ⟨Prod.ext same rfl, I⟩
      · have hw : m.won = none := by
          cases e : m.won with
          | none => rfl
          | some w => rw [e] at c3; exact absurd rfl c3
        have ei : (m.won.isNone && m.alike s.sets) = m.alike s.sets := by rw [hw]; exact Bool.true_and _
        rw [if_neg c3, if_neg c3, ei]
        by_cases c4 : m.alike s.sets = true
        · rw [if_pos c4, if_pos c4]
          exact ⟨Prod.ext same rfl, I⟩
        · rw [if_neg c4, if_neg c4]
          have hal : m.alike s.sets = false := by simpa using c4
          have na := arrows_nonneg c2.1
          have nb := arrows_nonneg c2.2
          rw [shot_abs km hw hal na nb]
          obtain ⟨sa, sb⟩ := shot_ab s.sets m a b
          have ok := shot_ok (a := a) (b := b) km hw hal
          obtain ⟨p1, p2⟩ := put_step I h hm sa sb ok
          refine ⟨Prod.ext p1.symm ?_, p2⟩
          exact after_abs ok
theorem off_abs' (s : State) (I : Inv s) (h : s.rounds ≠ []) (k a b nearer : Int) :
    ({ absD s with br := some ((absB s).off k a b nearer).1 }, ((absB s).off k a b nearer).2) = (absD (spec s (.off k a b nearer)).1, (spec s (.off k a b nearer)).2.value :: (spec s (.off k a b nearer)).2.out) ∧ Inv (spec s (.off k a b nearer)).1 := by
  have same : ({ absD s with br := some (absB s) } : D) = absD s := eta_br (absD_some h)
  obtain ⟨_, kp⟩ := I.cut h
  cases c1 : (if k < 0 then none else s.now[k.toNat]?) with
  | none =>
    have hs : spec s (.off k a b nearer) = (s, num (-1)) := by
      refine (if_neg (isEmpty_ne h)).trans ?_
      rw [c1]
    have hb : (absB s).off k a b nearer = (absB s, [-1]) := by
      unfold B.off
      rw [matchAt_none c1]
    rw [hs, hb]
    exact ⟨Prod.ext same rfl, I⟩
  | some m =>
    obtain ⟨e1, hm⟩ := matchAt_some c1
    have km : MOk s.sets m := kp.r.now_ok m (List.mem_of_getElem? hm)
    have hs0 : spec s (.off k a b nearer) = (if (Kg64.within a 0 11 && (Kg64.within b 0 11 && Kg64.within nearer 0 2)) = false then (s, num (-1))
        else if (m.won.isNone && m.alike s.sets) = false then (s, num (-4))
        else (setMatch s k.toNat (offed m a b nearer), ⟨if (offed m a b nearer).won.isSome = true then 2 else 1, showMatch s (offed m a b nearer)⟩)) := by
      refine (if_neg (isEmpty_ne h)).trans ?_
      rw [c1]
      rfl
    have hb : (absB s).off k a b nearer = (if areArrows [a, b] 2 = false ∨ nearer < 0 ∨ 2 < nearer then (absB s, [-1]) else if (m.won.isNone && m.alike s.sets) = false then (absB s, [-4])
        else (((absB s).setLast k.toNat ((absM s.sets m).shootOff a b nearer)).goOn, after ((absM s.sets m).shootOff a b nearer))) := by
      unfold B.off
      rw [e1]
      simp only [alike_abs km]
    rw [hs0, hb]
    have ec : (areArrows [a, b] 2 = false ∨ nearer < 0 ∨ 2 < nearer) ↔ (Kg64.within a 0 11 && (Kg64.within b 0 11 && Kg64.within nearer 0 2)) = false := by
      have e2 : areArrows [a, b] 2 = (Kg64.within a 0 11 && Kg64.within b 0 11) := by
        have := arrows_ok [a, b] 2
        rw [show ((2 : Nat) : Int) = 2 from rfl] at this
        rw [this]
        unfold arrowsOk
        simp
      have e3 : (nearer < 0 ∨ 2 < nearer) ↔ Kg64.within nearer 0 2 = false := by
        rw [← Bool.not_eq_true, within_iff]
        omega
      rw [e2, e3]
      simp only [Bool.and_eq_false_iff]
      constructor
      · rintro ((z | z) | z)
        · exact .inl z
        · exact .inr (.inl z)
        · exact .inr (.inr z)
      · rintro (z | z | z)
        · exact .inl (.inl z)
        · exact .inl (.inr z)
        · exact .inr z
    by_cases c2 : areArrows [a, b] 2 = false ∨ nearer < 0 ∨ 2 < nearer
    · rw [if_pos c2, if_pos (ec.mp c2)]
      exact ⟨Prod.ext same rfl, I⟩
    · rw [if_neg c2, if_neg (fun z => c2 (ec.mpr z))]
      have hall : 0 ≤ a ∧ 0 ≤ b := by
        have hz : ¬ (Kg64.within a 0 11 && (Kg64.within b 0 11 && Kg64.within nearer 0 2)) = false := fun z => c2 (ec.mpr z)
        simp only [Bool.not_eq_false, Bool.and_eq_true, within_iff] at hz
        exact ⟨hz.1.1, hz.2.1.1⟩
      by_cases c3 : (m.won.isNone && m.alike s.sets) = false
      · rw [if_pos c3, if_pos c3]
        exact ⟨Prod.ext same rfl, I⟩
      · rw [if_neg c3, if_neg c3]
        simp only [Bool.not_eq_false, Bool.and_eq_true, Option.isNone_iff_eq_none] at c3
        obtain ⟨hw, hal⟩ := c3
        rw [off_abs hw hall.1 hall.2]
        have ok := offed_ok (a := a) (b := b) (nearer := nearer) km hw hal
        obtain ⟨p1, p2⟩ := put_step I h hm (m' := offed m a b nearer) rfl rfl ok
        refine ⟨Prod.ext p1.symm ?_, p2⟩
        exact offed_after km hw hal
theorem done_abs {s : State} (k : ROk s) : (absB s).done = s.done := by
  unfold B.done State.done
  rw [wons_abs]
  have e1 : s.rounds.isEmpty = false := by
    cases e : s.rounds with
    | nil => exact absurd e k.ne
    | cons a l => rfl
  rw [e1, Bool.not_false, Bool.true_and]
  have hg := more_abs k
  unfold B.more at hg
  rw [wons_abs] at hg
  cases hw : s.now.all fun m => m.won.isSome with
  | false => simp
  | true =>
    rw [hw, Bool.true_and] at hg
    rw [Bool.and_true, Bool.and_true, settle_eq]
    by_cases g : goes s
    · rw [if_pos g]
      rw [decide_eq_true g] at hg
      have : (absB s).lastOfAll = false := by simpa using hg
      rw [this]
      simp
    · rw [if_neg g]
      rw [decide_eq_false g] at hg
      have : (absB s).lastOfAll = true := by simpa using hg
      rw [this]
      simp
theorem places_step (s : State) (I : Inv s) (h : s.rounds ≠ []) : (absD s).places (absB s) = (spec s .places).2.value :: (spec s .places).2.out ∧ (spec s .places).1 = s := by
  refine ⟨?_, rfl⟩
  obtain ⟨ho, k⟩ := I.cut h
  unfold D.places
  rw [done_abs k.r]
  cases c : s.done with
  | false =>
    have hs : (spec s .places).2 = num (-4) := (if_neg (isEmpty_ne h)).trans (if_pos c)
    rw [hs, if_pos rfl]
    rfl
  | true =>
    have hs : (spec s .places).2 = ⟨s.places.length, whole s.places⟩ := (if_neg (isEmpty_ne h)).trans (if_neg (by rw [c]; decide))
    have hw : ∀ m ∈ s.now, m.won.isSome = true := by
      unfold State.done at c
      simp only [Bool.and_eq_true] at c
      exact done_won c.2.2
    rw [hs, if_neg (by decide)]
    have e1 : (absD s).order = whole s.order := (order_abs s).trans (by rw [ho])
    rw [e1, places_len k hw, ho, ranked_len, ← absAs_len, List.cons_append, ← ho, places_abs k hw]
    rfl
end Ar
end
section
set_option Elab.async false
set_option maxRecDepth 100000
set_option maxHeartbeats 4000000
/-! The walk's words: defs by bundles, comprehensions that change nothing that stood. -/
namespace ArW
open PySem PySem.Spec PyProof.Rows L2

def top (i : Nat) : Stmt := PySem.Challenge.pw_archeryround_s01_answers.main.body.getD i (.Pass ⟨0, 0, 0, 0⟩)
abbrev FnP (K : PySem.W.Frag) (x q : Str) (st : Stmt) (f : Addr) (fd : FuncData) : Prop := FunD K x q (defArgs st) (defBody st) (defScope st) [] [] f fd
abbrev ivs (l : List Int) : List V := l.map V.int
theorem ivs_append (a b : List Int) : ivs (a ++ b) = ivs a ++ ivs b := List.map_append
theorem ivs_length (l : List Int) : (ivs l).length = l.length := List.length_map ..
theorem ivs_snoc (a : List Int) (x : Int) : ivs (a ++ [x]) = ivs a ++ [V.int x] := List.map_append

/-! ### a def of the module, a method, a class: by its promise -/
structure GF (P : Program) (w : World) (K : PySem.W.Frag) (mg : Str → Option Value) (base : Heap) (x : Str) (k : Nat) (ps : List Str) (sp : Sp) : Prop where
  ex : ∃ f fd, FnOk P w K mg base CX0 k f fd ps sp ∧ mg x = some (.ref f) ∧ PySem.W.keepIn K (.ref f) = true ∧ Binds K fd ps []
structure MF (P : Program) (w : World) (K : PySem.W.Frag) (mg : Str → Option Value) (base : Heap) (C : Addr) (m : Str) (k : Nat) (ps : List Str) (sp : Sp) : Prop where
  ex : ∃ f fd, FnOk P w K mg base CX0 k f fd ps sp ∧ Meth K C m f ∧ Binds K fd ps []
structure CF (P : Program) (w : World) (K : PySem.W.Frag) (mg : Str → Option Value) (base : Heap) (x : Str) (C : Addr) (k : Nat) (ps : List Str) (sp : Sp) : Prop where
  ex : ∃ f fd, FnOk P w K mg base CX0 k f fd ps sp ∧ Mk K C f ∧ mg x = some (.ref C) ∧ Binds K fd ps []
section
variable {X : Cx} {k j : Nat} {C : Addr} {ps : List Str} {sp : Sp} {x m : Str} {p pos apos : Pos} {e o : Expr} {es : List Expr} {ta : TE} {t : TA} {pl : Sem Bool}
theorem pe_g (G : GF X.prog X.w X.K X.mg X.base x k ps sp) (hr : Room j X.A) (hk : k ≤ j) (hg : Gl X x) (ha : PA X (e :: es) t)
    (hdb : (x == ("__debug__" : Str)) = false := by decide) (he : starEach (e :: es) X.env = (false, eval e X.env) :: starEach es X.env := by rfl) (hpl : (backTo pos (starEach es X.env)).any (·.1) = false := by rfl) :
    PE X (.Call (.Name x p) (e :: es) [] pos) (tCall sp [] E0 t) := by
  obtain ⟨f, fd, F, hm, kp, hb⟩ := G.ex
  exact pe_call F (hr.mono hk) hg hm kp hb .nil pass0 ha hdb he hpl
theorem pe_m (G : MF X.prog X.w X.K X.mg X.base C m k ps sp) (c : Cls X.K C) (hr : Room j X.A) (hk : k ≤ j) (he : PE X o ta) (ha : PA X (e :: es) t)
    (hst : starEach (e :: es) X.env = (false, eval e X.env) :: starEach es X.env := by rfl) (hpl : (backTo pos (starEach es X.env)).any (·.1) = false := by rfl)
    (ht : eval (.Call (.Attribute o m apos) (e :: es) [] pos) X.env = (do
      let ov ← eval o X.env
      standAt apos.atName
      let (f, first) ← holding [ov] (getMethod ov m pl)
      callWith pos f first (backTo pos (starEach (e :: es) X.env)) (backToKw pos (keywordEach [] X.env))) := by rfl) :
    PE X (.Call (.Attribute o m apos) (e :: es) [] pos) (tMeth C m sp [] E0 ta t) := by
  obtain ⟨f, fd, F, hm, hb⟩ := G.ex
  exact pe_meth he c hm F (hr.mono hk) hb .nil pass0 ha hst hpl ht
theorem pe_m0 (G : MF X.prog X.w X.K X.mg X.base C m k ps sp) (c : Cls X.K C) (hr : Room j X.A) (hk : k ≤ j) (he : PE X o ta)
    (ht : eval (.Call (.Attribute o m apos) [] [] pos) X.env = (do
      let ov ← eval o X.env
      standAt apos.atName
      let (f, first) ← holding [ov] (getMethod ov m pl)
      callWith pos f first (backTo pos (starEach [] X.env)) (backToKw pos (keywordEach [] X.env))) := by rfl) :
    PE X (.Call (.Attribute o m apos) [] [] pos) (tMeth C m sp [] E0 ta tNil) := by
  obtain ⟨f, fd, F, hm, hb⟩ := G.ex
  exact pe_meth0 he c hm F (hr.mono hk) hb .nil pass0 ht
theorem pe_mk (G : CF X.prog X.w X.K X.mg X.base x C k ps sp) (hr : Room j X.A) (hk : k + 1 ≤ j) (hg : Gl X x) (ha : PA X (e :: es) t)
    (hdb : (x == ("__debug__" : Str)) = false := by decide) (he : starEach (e :: es) X.env = (false, eval e X.env) :: starEach es X.env := by rfl) (hpl : (backTo pos (starEach es X.env)).any (·.1) = false := by rfl) :
    PE X (.Call (.Name x p) (e :: es) [] pos) (tMake C sp [] E0 t) := by
  obtain ⟨f, fd, F, M, hm, hb⟩ := G.ex
  exact pe_make M F (hr.mono hk) hg hm hb .nil pass0 ha hdb he hpl
theorem pe_mk0 (G : CF X.prog X.w X.K X.mg X.base x C k ps sp) (hr : Room j X.A) (hk : k + 1 ≤ j) (hg : Gl X x)
    (hdb : (x == ("__debug__" : Str)) = false := by decide) :
    PE X (.Call (.Name x p) [] [] pos) (tMake C sp [] E0 tNil) := by
  obtain ⟨f, fd, F, M, hm, hb⟩ := G.ex
  exact pe_make0 M F (hr.mono hk) hg hm hb .nil pass0 hdb
/-- a number of the module -/
theorem pe_kI {i : Int} (hm : ∃ t, X.mg x = some (.int i t)) (hg : Gl X x) (hdb : (x == ("__debug__" : Str)) = false := by decide) : PE X (.Name x pos) (tC (.int i)) := by
  obtain ⟨t, e⟩ := hm
  exact pe_glob hg e ⟨t, rfl⟩ hdb
end
/-- def's promise kept, for what nobody raises -/
theorem fn_ok {P : Program} {w : World} {K : PySem.W.Frag} {mg : Str → Option Value} {base : Heap} {x qual : Str} {st : Stmt} {f : Addr} {fd : FuncData} {N ps : List Str} {k : Nat} {sp : Sp} (F : FnP K x qual st f fd) (S : FnScope N ps (defScope st)) (len : ∀ vs H Q E, sp vs H Q E → vs.length = ps.length)
    (hbody : ∀ (cdv : Value) (A : Around) (outer : List Env) (s : Shared) (H : Hp) (vs : List V) (Q : VK) (E : XK), Room k (A.deeper (envOfC qual (defScope st) s.heap.objs.size f cdv)) → sp vs H Q E →
      ∃ t, PSs (cxOf CX0 P w K mg base N qual (defScope st) f cdv A outer s H E).nox (defBody st) t ∧ t { nx := fun _ H' => Q .non H', rt := Q } (start N vs) H) : FnOk P w K mg base CX0 (k + 1) f fd ps sp :=
  FunD.ok F S len fun cdv A outer s H vs Q E hr hsp => by
    obtain ⟨t, h, q⟩ := hbody cdv A outer s H vs Q E hr hsp
    exact ⟨t, h.nox, q⟩

/-! ### what stays -/
theorem Same.upd {H : Hp} {p : Addr} {o : HO} (h : H p = none) : Same H (upd H p o) := fun b u e => by
  rw [upd_ne (ne_of_none e h)]
  exact e
theorem Same.to {H H' : Hp} {b : Addr} {o : HO} (s : Same H H') (e : H b = some o) : H' b = some o := s b o e
theorem Same.ne {H H' : Hp} {p b : Addr} {o : HO} (s : Same H H') (h : H' p = none) (e : H b = some o) : b ≠ p := ne_of_none (s b o e) h

/-! ### comprehensions: what is new is all that changes -/
theorem lc_same {K : PySem.W.Frag} {a : Addr} {xs : List V} {g : TG} {tt : TT} {te : TE} {vs : List Nat} {σ : L2.St} {H1 : Hp} {D : Addr} {Qd : Hp → Prop} (out : Nat → List V) (nD : H1 D = none) (hS : SqL K H1 a xs) (o0 : out 0 = []) (osz : ∀ i, i < xs.length → (out i).length < sizeLine)
    (hs : ∀ i x H (Q1 : V → Hp → Prop) (Q0 : Hp → Prop), xs[i]? = some x → Same H1 H → (∀ y H4, Same H H4 → out (i + 1) = out i ++ [y] → Q1 y H4) → (∀ H3, Same H H3 → out (i + 1) = out i → Q0 H3) →
      g x (wipe σ vs) H fun σ2 H2 => wipe σ2 vs = wipe σ vs ∧ tt σ2 H2 fun b H3 => if b = true then te σ2 H3 Q1 else Q0 H3)
    (hd : ∀ H, Same H1 H → H D = some (.lst (out xs.length)) → Qd H) :
    ∃ W : Nat → Nat → Hp → Prop, (∃ m, W 0 m (upd H1 D (.lst []))) ∧ ∀ i m H, W i m H →
      ((Itl K a).stop i H ∧ Qd H) ∨ ((Itl K a).go i H ∧ ∃ Nx : Hp → Prop, (∀ H', Nx H' → ∃ m', m' < m ∧ W (i + 1) m' H') ∧ ∀ x H', (Itl K a).yld i H x H' → g x (wipe σ vs) H' fun σ2 H2 => wipe σ2 vs = wipe σ vs ∧ tt σ2 H2 fun b H3 =>
        if b = true then te σ2 H3 fun y H4 => ∃ acc, H4 D = some (.lst acc) ∧ acc.length < sizeLine ∧ Nx (upd H4 D (.lst (acc ++ [y]))) else Nx H3) := by
  refine lc_list (K := K) (a := a) (xs := xs) (fun i H => Same H1 H ∧ H D = some (.lst (out i))) ⟨Same.upd nD, by rw [o0]; exact upd_same⟩ (fun i H _ p => p.1.seq hS) (fun i x H hx p => ?_) fun H p => hd H p.1 p.2
  refine hs i x H _ _ hx p.1 (fun y H4 s4 e => ?_) fun H3 s3 e => ⟨p.1.trans s3, by rw [e]; exact s3 _ _ p.2⟩
  refine ⟨out i, s4 _ _ p.2, osz i (List.getElem?_eq_some_iff.mp hx).1, fun b o eb => ?_, by rw [upd_same, e]⟩
  rw [upd_ne (ne_of_none eb nD)]
  exact s4 _ _ (p.1 _ _ eb)
theorem small {n m : Nat} (h : n ≤ m) (hm : m < 16777216 := by decide) : n < sizeLine := Nat.lt_of_le_of_lt h hm
theorem map_at {α : Type} {f : α → V} {l : List α} {i : Nat} {x : V} (h : (l.map f)[i]? = some x) : ∃ a, l[i]? = some a ∧ x = f a := by
  rw [List.getElem?_map] at h
  cases e : l[i]? with
  | none => rw [e] at h; cases h
  | some a =>
    rw [e] at h
    exact ⟨a, rfl, (Option.some.inj h).symm⟩
theorem take_snoc {α : Type} {l : List α} {i : Nat} {x : α} (h : l[i]? = some x) : l.take (i + 1) = l.take i ++ [x] := by
  rw [List.take_add_one, h]
  rfl
theorem take_map {α β : Type} {l : List α} {i : Nat} {x : α} (f : α → β) (h : l[i]? = some x) : (l.take (i + 1)).map f = (l.take i).map f ++ [f x] := by
  rw [take_snoc h, List.map_append]
  rfl
theorem take_map_len {α β : Type} {l : List α} {i m : Nat} (f : α → β) (h : i ≤ m) (hm : m < 16777216 := by decide) : ((l.take i).map f).length < sizeLine := small (m := m) (by rw [List.length_map, List.length_take]; omega) hm
theorem filter_take_t {α : Type} {p : α → Bool} {l : List α} {i : Nat} {x : α} (h : l[i]? = some x) (hp : p x = true) : (l.take (i + 1)).filter p = (l.take i).filter p ++ [x] := by
  rw [take_snoc h, List.filter_append, List.filter_cons, if_pos hp]
  rfl
theorem filter_take_f {α : Type} {p : α → Bool} {l : List α} {i : Nat} {x : α} (h : l[i]? = some x) (hp : p x = false) : (l.take (i + 1)).filter p = (l.take i).filter p := by
  rw [take_snoc h, List.filter_append, List.filter_cons, if_neg (by rw [hp]; decide), List.filter_nil, List.append_nil]
end ArW
end
section
set_option Elab.async false
set_option maxRecDepth 100000
set_option maxHeartbeats 4000000
/-! points_of, sum_of, are_arrows. -/
namespace ArW
open PySem PySem.Spec PyProof.Rows L2
open Ar (pts sumOf isArrow areArrows)

abbrev sPts : Stmt := top 4
abbrev sSum : Stmt := top 5
abbrev sAre : Stmt := top 6
theorem scPts : FnScope ["arrow"] ["arrow"] (defScope sPts) := ⟨rfl, rfl, rfl, by decide +kernel, rfl, by decide +kernel, by decide +kernel⟩
theorem scSum : FnScope ["arrows", "arrow"] ["arrows"] (defScope sSum) := ⟨rfl, rfl, rfl, by decide +kernel, rfl, by decide +kernel, by decide +kernel⟩
theorem scAre : FnScope ["arrows", "count", "arrow"] ["arrows", "count"] (defScope sAre) := ⟨rfl, rfl, rfl, by decide +kernel, rfl, by decide +kernel, by decide +kernel⟩
def spPts : Sp := fun vs H Q _ => ∃ n : Int, vs = [.int n] ∧ Q (.int (pts n)) H
def spSum (K : PySem.W.Frag) : Sp := fun vs H Q _ => ∃ (a : Addr) (l : List Int), vs = [.ref a] ∧ SqL K H a (ivs l) ∧ l.length ≤ 1000 ∧ ∀ H', Same H H' → Q (.int (sumOf l)) H'
def spAre (K : PySem.W.Frag) : Sp := fun vs H Q _ => ∃ (a : Addr) (l : List Int) (n : Int), vs = [.ref a, .int n] ∧ SqL K H a (ivs l) ∧ l.length ≤ sizeLine ∧ ∀ H', Same H H' → Q (.bl (areArrows l n)) H'
/-- what the module's names stand for -/
structure TB (mg : Str → Option Value) : Prop where
  INNER : ∃ t, mg "INNER" = some (.int 11 t)
  TEN : ∃ t, mg "TEN" = some (.int 10 t)
  BEST : ∃ t, mg "BEST_OF_CLUB" = some (.int 3 t)
  NOBODY : ∃ t, mg "NOBODY" = some (.int (-1) t)
  ME5 : ∃ t, mg "MOST_ENDS_matches" = some (.int 5 t)
  ENOUGH : ∃ t, mg "ENOUGH" = some (.int 6 t)
  ME12 : ∃ t, mg "MOST_ENDS_day" = some (.int 12 t)
  MA6 : ∃ t, mg "MOST_ARROWS" = some (.int 6 t)
  MA40 : ∃ t, mg "MOST_ARCHERS" = some (.int 40 t)
  HC : ∃ t, mg "HIGHEST_CLUB" = some (.int 50 t)
  MS : ∃ t, mg "MOST_SEATED" = some (.int 32 t)
  MR : ∃ t, mg "MATCH_ARROWS" = some (.int 3 t)
  WRONG : ∃ t, mg "WRONG" = some (.int (-1) t)
  min : mg "min" = none
  max : mg "max" = none
  sum : mg "sum" = none
  len : mg "len" = none
  any : mg "any" = none
  all : mg "all" = none
  sorted : mg "sorted" = none
  range : mg "range" = none
  enumerate : mg "enumerate" = none
section
variable {P : Program} {w : World} {K : PySem.W.Frag} {mg : Str → Option Value} {base : Heap} {f : Addr} {fd : FuncData}
theorem ok_pts (F : FnP K "points_of" "points_of" sPts f fd) (T : TB mg) : FnOk P w K mg base CX0 1 f fd ["arrow"] spPts := by
  refine fn_ok F scPts (fun vs H Q E h => ?_) (fun cdv A outer s H vs Q E hr h => ?_)
  · obtain ⟨n, rfl, _⟩ := h
    rfl
  · obtain ⟨n, rfl, k⟩ := h
    refine ⟨_, pss_one (ps_ret (pe_callB (call_min2 rfl) (by rfl) T.min (by decide +kernel) (pa_cons (pv 0) (pa_cons (pe_kI T.TEN rfl) pa_nil)))), ?_⟩
    refine ⟨_, rfl, _, _, rfl, k⟩
theorem ok_sum (F : FnP K "sum_of" "sum_of" sSum f fd) (T : TB mg) (G : GF P w K mg base "points_of" 1 ["arrow"] spPts) : FnOk P w K mg base CX0 2 f fd ["arrows"] (spSum K) := by
  refine fn_ok F scSum (fun vs H Q E h => ?_) (fun cdv A outer s H vs Q E hr h => ?_)
  · obtain ⟨a, l, rfl, _⟩ := h
    rfl
  · obtain ⟨a, l, rfl, hS, hl, k⟩ := h
    refine ⟨_, pss_one (ps_ret (pe_callB (cr_sum rfl) (by rfl) T.sum (by decide +kernel) (pa_cons (pe_lc (own := [("arrow", 1)]) (g := gName 1) (tt := tYes) rfl scSum.nd (pi_list (pv 0)) (blkOk_by (N := ["arrows", "arrow"]) (sc := defScope sSum) (by decide +kernel))
      (fun _ _ _ _ _ => pg_name (i := 1) scSum.nd rfl (Or.inl rfl)) (fun _ _ _ _ _ => pts_nil) (fun _ _ _ _ _ => pe_g (X := _) G hr (by decide) rfl (pa_cons (pv 1) pa_nil))) pa_nil))), ?_⟩
    refine ⟨_, rfl, a, rfl, ⟨_, hS⟩, fun D nD => lc_same (K := K) (a := a) (xs := ivs l) (fun i => (l.take i).map fun n => V.int (pts n)) nD hS rfl (fun i hi => take_map_len (m := 1000) _ (by rw [List.length_map] at hi; omega)) (fun i x H2 Q1 Q0 hx s2 q1 q0 => ?_) fun H2 s2 hD => ?_⟩
    · obtain ⟨z, hz, rfl⟩ := map_at hx
      refine ⟨rfl, _, rfl, z, rfl, ?_⟩
      exact q1 _ _ (Same.refl _) (take_map _ hz)
    · refine ⟨D, l.map pts, rfl, SqL.of ?_, k _ s2⟩
      rw [hD, List.length_map, List.take_length, List.map_map]
      rfl
theorem ok_are (F : FnP K "are_arrows" "are_arrows" sAre f fd) (T : TB mg) : FnOk P w K mg base CX0 1 f fd ["arrows", "count"] (spAre K) := by
  refine fn_ok F scAre (fun vs H Q E h => ?_) (fun cdv A outer s H vs Q E hr h => ?_)
  · obtain ⟨a, l, n, rfl, _⟩ := h
    rfl
  · obtain ⟨a, l, n, rfl, hS, hl, k⟩ := h
    refine ⟨_, pss_one (ps_ret (pe_and (pe_cmpR op_eq (pe_callB call_len_seq (by rfl) T.len PySem.boot_len (pa_cons (pv 0) pa_nil)) (pv 1) (nomark _))
      (pe_one (pe_callB (cr_all rfl) (by rfl) T.all (by decide +kernel) (pa_cons (pe_lc (own := [("arrow", 2)]) (g := gName 2) (tt := tYes) rfl scAre.nd (pi_list (pv 0)) (blkOk_by (N := ["arrows", "count", "arrow"]) (sc := defScope sAre) (by decide +kernel))
      (fun _ _ _ _ _ => pg_name (i := 2) scAre.nd rfl (Or.inl rfl)) (fun _ _ _ _ _ => pts_nil) (fun _ _ _ _ _ => pe_and (pe_cmpR op_le pe_int (pv 2) (nomark _)) (pe_one (pe_cmpR op_le (pv 2) (pe_kI T.INNER rfl) (nomark _))))) pa_nil))))), ?_⟩
    refine ⟨_, rfl, a, _, rfl, .inl hS, _, rfl, rfl, _, rfl, ?_⟩
    have e1 : decide (V.int ((ivs l).length : Nat) = V.int n) = decide ((l.length : Int) = n) := by
      rw [List.length_map]
      exact decide_eq_decide.mpr ⟨fun h => V.int.inj h, fun h => by rw [h]⟩
    rw [e1]
    unfold areArrows at k
    by_cases c : (l.length : Int) = n
    · rw [decide_eq_true c] at k ⊢
      refine iteT ⟨_, rfl, a, rfl, ⟨_, hS⟩, fun D nD => lc_same (K := K) (a := a) (xs := ivs l) (fun i => (l.take i).map fun z => V.bl (isArrow z)) nD hS rfl (fun i hi => by rw [List.length_map] at hi; rw [List.length_map, List.length_take]; omega) (fun i x H2 Q1 Q0 hx s2 q1 q0 => ?_) fun H2 s2 hD => ?_⟩
      · obtain ⟨z, hz, rfl⟩ := map_at hx
        have eo := take_map (fun z => V.bl (isArrow z)) hz
        refine ⟨rfl, _, rfl, _, _, rfl, rfl, _, rfl, ?_⟩
        by_cases c0 : 0 ≤ z
        · rw [decide_eq_true c0]
          refine iteT ⟨_, rfl, _, _, rfl, rfl, q1 _ _ (Same.refl _) ?_⟩
          rw [eo]
          unfold isArrow
          rw [decide_eq_true c0, Bool.true_and]
        · rw [decide_eq_false c0]
          refine iteF (q1 _ _ (Same.refl _) ?_)
          rw [eo]
          unfold isArrow
          rw [decide_eq_false c0, Bool.false_and]
      · refine ⟨D, l.map isArrow, rfl, SqL.of ?_, ?_⟩
        · rw [hD, List.length_map, List.take_length, List.map_map]
          rfl
        · have := k _ s2
          rw [List.all_map]
          exact this
    · rw [decide_eq_false c] at k ⊢
      exact iteF (k _ (Same.refl _))
end
end ArW
end
section
set_option Elab.async false
set_option maxRecDepth 100000
set_option maxHeartbeats 4000000
/-! Archer. -/
namespace ArW
open PySem PySem.Spec PyProof.Rows L2
open Ar (pts sumOf isArrow areArrows)

abbrev sAInit : Stmt := inClass (top 7) 0
abbrev sATake : Stmt := inClass (top 7) 1
abbrev sAPoints : Stmt := inClass (top 7) 2
abbrev sATens : Stmt := inClass (top 7) 3
abbrev sAInner : Stmt := inClass (top 7) 4
abbrev sAStand : Stmt := inClass (top 7) 5
theorem scAInit : FnScope ["self", "number", "club"] ["self", "number", "club"] (defScope sAInit) := ⟨rfl, rfl, rfl, by decide +kernel, rfl, by decide +kernel, by decide +kernel⟩
theorem scATake : FnScope ["self", "arrows"] ["self", "arrows"] (defScope sATake) := ⟨rfl, rfl, rfl, by decide +kernel, rfl, by decide +kernel, by decide +kernel⟩
theorem scAPoints : FnScope ["self"] ["self"] (defScope sAPoints) := ⟨rfl, rfl, rfl, by decide +kernel, rfl, by decide +kernel, by decide +kernel⟩
theorem scATens : FnScope ["self", "arrow"] ["self"] (defScope sATens) := ⟨rfl, rfl, rfl, by decide +kernel, rfl, by decide +kernel, by decide +kernel⟩
theorem scAInner : FnScope ["self", "arrow"] ["self"] (defScope sAInner) := ⟨rfl, rfl, rfl, by decide +kernel, rfl, by decide +kernel, by decide +kernel⟩
theorem scAStand : FnScope ["self"] ["self"] (defScope sAStand) := ⟨rfl, rfl, rfl, by decide +kernel, rfl, by decide +kernel, by decide +kernel⟩
/-- the class's own facts -/
structure CA (K : PySem.W.Frag) (C : Addr) : Prop where
  cl : Cls K C
  number : NoAttr K C "number"
  club : NoAttr K C "club"
  ends : NoAttr K C "ends_shot"
  arrows : NoAttr K C "arrows"
def aF (m : Ar.A) (l : Addr) : List (Str × V) := [("number", .int m.number), ("club", .int m.club), ("ends_shot", .int m.ends), ("arrows", .ref l)]
/-- an archer m stands at a, the list of the arrows at l -/
structure ArchAt (C : Addr) (H : Hp) (a l : Addr) (m : Ar.A) : Prop where
  obj : ∃ dx, H a = some (.ins C dx (aF m l))
  lst : H l = some (.lst (ivs m.arrows))
  few : m.arrows.length ≤ 900
theorem ArchAt.same {C : Addr} {H H' : Hp} {a l : Addr} {m : Ar.A} (h : ArchAt C H a l m) (s : Same H H') : ArchAt C H' a l m := by
  obtain ⟨⟨dx, h1⟩, h2, h3⟩ := h
  exact ⟨⟨dx, s _ _ h1⟩, s _ _ h2, h3⟩
def spAInit (C : Addr) : Sp := fun vs H Q _ => ∃ (p dx : Addr) (n c : Int), vs = [.ref p, .int n, .int c] ∧ H p = some (.ins C dx []) ∧
  ∀ (H' : Hp) (l : Addr), ArchAt C H' p l (Ar.A.new n c) → H l = none → (∀ b o, H b = some o → b ≠ p → H' b = some o) → Q .non H'
def spATake (C : Addr) : Sp := fun vs H Q _ => ∃ (a l x : Addr) (m : Ar.A) (xs : List Int), vs = [.ref a, .ref x] ∧ ArchAt C H a l m ∧ H x = some (.lst (ivs xs)) ∧ m.arrows.length + xs.length ≤ 900 ∧
  ∀ (H' : Hp), ArchAt C H' a l (m.take xs) → (∀ b o, H b = some o → b ≠ a → b ≠ l → H' b = some o) → Q .non H'
/-- a method that reads an archer -/
def spARead (C : Addr) (f : Ar.A → Int) : Sp := fun vs H Q _ => ∃ (a l : Addr) (m : Ar.A), vs = [.ref a] ∧ ArchAt C H a l m ∧ ∀ H', Same H H' → Q (.int (f m)) H'
def spAStand (C : Addr) : Sp := fun vs H Q _ => ∃ (a l : Addr) (m : Ar.A), vs = [.ref a] ∧ ArchAt C H a l m ∧ ∀ H' p, Same H H' → H p = none → H' p = some (.tup (ivs m.key)) → Q (.ref p) H'
section
variable {P : Program} {w : World} {K : PySem.W.Frag} {mg : Str → Option Value} {base : Heap} {f C : Addr} {fd : FuncData}
theorem ok_ainit (F : FnP K "__init__" "Archer.__init__" sAInit f fd) (c : CA K C) : FnOk P w K mg base CX0 1 f fd ["self", "number", "club"] (spAInit C) := by
  refine fn_ok F scAInit (fun vs H Q E h => ?_) (fun cdv A outer s H vs Q E hr h => ?_)
  · obtain ⟨p, dx, n, c, rfl, _⟩ := h
    rfl
  · obtain ⟨p, dx, n, cc, rfl, hp, k⟩ := h
    refine ⟨_, pss_cons (ps_fld (pv 0) (pv 1) rfl) (pss_cons (ps_fld (pv 0) (pv 2) rfl) (pss_cons (ps_fld (pv 0) pe_int rfl) (pss_one (ps_fld (pv 0) (pe_lst pa_nil) rfl)))), ?_⟩
    refine ⟨_, rfl, _, rfl, p, C, dx, _, rfl, hp, c.cl, c.number, (by show 0 < 1000; decide), ?_⟩
    refine ⟨_, rfl, _, rfl, p, C, dx, _, rfl, upd_same, c.cl, c.club, (by show 1 < 1000; decide), ?_⟩
    refine ⟨_, rfl, p, C, dx, _, rfl, upd_same, c.cl, c.ends, (by show 2 < 1000; decide), ?_⟩
    refine ⟨Nat.zero_le _, fun l hl => ?_⟩
    rw [upd_upd, upd_upd] at hl
    have npl : p ≠ l := fun e => by rw [e, upd_same] at hl; cases hl
    have hl0 : H l = none := by rw [upd_ne (Ne.symm npl)] at hl; exact hl
    refine ⟨_, rfl, p, C, dx, _, rfl, by rw [upd_ne npl]; exact upd_same, c.cl, c.arrows, (by show 3 < 1000; decide), ?_⟩
    refine k _ l ⟨⟨dx, upd_same⟩, ?_, Nat.zero_le _⟩ hl0 fun b o e hb => ?_
    · rw [upd_ne (Ne.symm npl), upd_same]
      rfl
    · rw [upd_ne hb, upd_ne (ne_of_none e hl0), upd_ne hb, upd_ne hb, upd_ne hb]
      exact e
theorem ok_atake (F : FnP K "take_end" "Archer.take_end" sATake f fd) (c : CA K C) : FnOk P w K mg base CX0 1 f fd ["self", "arrows"] (spATake C) := by
  refine fn_ok F scATake (fun vs H Q E h => ?_) (fun cdv A outer s H vs Q E hr h => ?_)
  · obtain ⟨a, l, x, m, xs, rfl, _⟩ := h
    rfl
  · obtain ⟨a, l, x, m, xs, rfl, ⟨⟨dx, ha⟩, hl, _⟩, hx, hlen, k⟩ := h
    have nal : l ≠ a := ne_of hl ha (by intro z; cases z)
    have nax : x ≠ a := ne_of hx ha (by intro z; cases z)
    refine ⟨_, pss_cons (ps_fld (pv 0) (pe_op op_add (pe_fld (pv 0) rfl) pe_int) rfl) (pss_one (ps_expr (pe_bm PySem.F.plainAttrs_list PySem.F.slot_list_extend PySem.F.type_list_extend mt_extend (pe_fld (pv 0) rfl) (pa_cons (pv 1) pa_nil)))), ?_⟩
    refine ⟨_, rfl, a, C, dx, _, _, rfl, ha, c.cl, c.ends, rfl, _, _, rfl, rfl, _, rfl, a, C, dx, _, rfl, ha, c.cl, c.ends, (by show 4 < 1000; decide), ?_⟩
    refine ⟨_, rfl, a, C, dx, _, _, rfl, upd_same, c.cl, c.arrows, rfl, .inl ⟨rfl, _, SqL.of (by rw [upd_ne nal]; exact hl)⟩, _, rfl, l, x, _, _, rfl, rfl, by rw [upd_ne nal]; exact hl, by rw [upd_ne nax]; exact hx, ?_, ?_⟩
    · rw [List.length_map, List.length_map]
      exact Nat.le_of_lt (small hlen)
    · refine k _ ⟨⟨dx, ?_⟩, ?_, ?_⟩ fun b o e h1 h2 => ?_
      · rw [upd_ne (Ne.symm nal), upd_same]
        rfl
      · rw [upd_same]
        show some (HO.lst (ivs m.arrows ++ ivs xs)) = some (HO.lst (ivs (m.arrows ++ xs)))
        rw [ivs_append]
      · show (m.arrows ++ xs).length ≤ 900
        rw [List.length_append]
        exact hlen
      · rw [upd_ne h2, upd_ne h1]
        exact e
theorem ok_apoints (F : FnP K "points" "Archer.points" sAPoints f fd) (c : CA K C) (G : GF P w K mg base "sum_of" 2 ["arrows"] (spSum K)) : FnOk P w K mg base CX0 3 f fd ["self"] (spARead C Ar.A.points) := by
  refine fn_ok F scAPoints (fun vs H Q E h => ?_) (fun cdv A outer s H vs Q E hr h => ?_)
  · obtain ⟨a, l, m, rfl, _⟩ := h
    rfl
  · obtain ⟨a, l, m, rfl, ⟨⟨dx, ha⟩, hl, hf⟩, k⟩ := h
    refine ⟨_, pss_one (ps_ret (pe_g (X := _) G hr (by decide) rfl (pa_cons (pe_fld (pv 0) rfl) pa_nil))), ?_⟩
    exact ⟨_, rfl, a, C, dx, _, _, rfl, ha, c.cl, c.arrows, rfl, l, m.arrows, rfl, SqL.of hl, Nat.le_trans hf (by decide), fun H' s' => k H' s'⟩
/-- what len of a filter is -/
theorem ok_atens (F : FnP K "tens" "Archer.tens" sATens f fd) (c : CA K C) (T : TB mg) : FnOk P w K mg base CX0 1 f fd ["self"] (spARead C Ar.A.tens) := by
  refine fn_ok F scATens (fun vs H Q E h => ?_) (fun cdv A outer s H vs Q E hr h => ?_)
  · obtain ⟨a, l, m, rfl, _⟩ := h
    rfl
  · obtain ⟨a, l, m, rfl, ⟨⟨dx, ha⟩, hl, hf⟩, k⟩ := h
    refine ⟨_, pss_one (ps_ret (pe_callB call_len_seq (by rfl) T.len PySem.boot_len (pa_cons (pe_lc (own := [("arrow", 1)]) (g := gName 1) rfl scATens.nd (pi_list (pe_fld (pv 0) rfl)) (blkOk_by (N := ["self", "arrow"]) (sc := defScope sATens) (by decide +kernel))
      (fun _ _ _ _ _ => pg_name (i := 1) scATens.nd rfl (Or.inl rfl)) (fun _ _ _ _ _ => pts_one (pt_cmpR op_ge (pv 1) (pe_kI T.TEN rfl) (nomark _))) (fun _ _ _ _ _ => pv 1)) pa_nil))), ?_⟩
    refine ⟨_, rfl, a, C, dx, _, _, rfl, ha, c.cl, c.arrows, rfl, l, rfl, ⟨_, SqL.of hl⟩, fun D nD => lc_same (K := K) (a := l) (xs := ivs m.arrows) (fun i => ivs ((m.arrows.take i).filter fun a => decide (10 ≤ a))) nD (SqL.of hl) rfl (fun i hi => ?_) (fun i x H2 Q1 Q0 hx s2 q1 q0 => ?_) fun H2 s2 hD => ?_⟩
    · rw [List.length_map] at hi
      refine small (m := 1000) ?_
      have h1 := List.length_filter_le (fun a : Int => decide (10 ≤ a)) (m.arrows.take i)
      rw [List.length_take] at h1
      rw [List.length_map]
      omega
    · obtain ⟨z, hz, rfl⟩ := map_at hx
      refine ⟨rfl, _, rfl, _, _, rfl, rfl, _, rfl, ?_⟩
      by_cases c0 : (10 : Int) ≤ z
      · rw [decide_eq_true c0]
        refine iteT ⟨_, rfl, q1 _ _ (Same.refl _) ?_⟩
        rw [filter_take_t hz (decide_eq_true c0), ivs_snoc]
      · rw [decide_eq_false c0]
        refine iteF (q0 _ (Same.refl _) ?_)
        rw [filter_take_f hz (decide_eq_false c0)]
    · refine ⟨D, _, rfl, .inl (SqL.of hD), ?_⟩
      rw [List.length_map, List.length_map, List.take_length]
      exact k _ s2
theorem ok_ainner (F : FnP K "inner_tens" "Archer.inner_tens" sAInner f fd) (c : CA K C) (T : TB mg) : FnOk P w K mg base CX0 1 f fd ["self"] (spARead C Ar.A.inner) := by
  refine fn_ok F scAInner (fun vs H Q E h => ?_) (fun cdv A outer s H vs Q E hr h => ?_)
  · obtain ⟨a, l, m, rfl, _⟩ := h
    rfl
  · obtain ⟨a, l, m, rfl, ⟨⟨dx, ha⟩, hl, hf⟩, k⟩ := h
    refine ⟨_, pss_one (ps_ret (pe_callB call_len_seq (by rfl) T.len PySem.boot_len (pa_cons (pe_lc (own := [("arrow", 1)]) (g := gName 1) rfl scAInner.nd (pi_list (pe_fld (pv 0) rfl)) (blkOk_by (N := ["self", "arrow"]) (sc := defScope sAInner) (by decide +kernel))
      (fun _ _ _ _ _ => pg_name (i := 1) scAInner.nd rfl (Or.inl rfl)) (fun _ _ _ _ _ => pts_one (pt_cmpR op_eq (pv 1) (pe_kI T.INNER rfl) (nomark _))) (fun _ _ _ _ _ => pv 1)) pa_nil))), ?_⟩
    refine ⟨_, rfl, a, C, dx, _, _, rfl, ha, c.cl, c.arrows, rfl, l, rfl, ⟨_, SqL.of hl⟩, fun D nD => lc_same (K := K) (a := l) (xs := ivs m.arrows) (fun i => ivs ((m.arrows.take i).filter fun a => decide (a = 11))) nD (SqL.of hl) rfl (fun i hi => ?_) (fun i x H2 Q1 Q0 hx s2 q1 q0 => ?_) fun H2 s2 hD => ?_⟩
    · rw [List.length_map] at hi
      refine small (m := 1000) ?_
      have h1 := List.length_filter_le (fun a : Int => decide (a = 11)) (m.arrows.take i)
      rw [List.length_take] at h1
      rw [List.length_map]
      omega
    · obtain ⟨z, hz, rfl⟩ := map_at hx
      refine ⟨rfl, _, rfl, rfl, _, rfl, ?_⟩
      by_cases c0 : z = 11
      · rw [decide_eq_true (by rw [c0])]
        refine iteT ⟨_, rfl, q1 _ _ (Same.refl _) ?_⟩
        rw [filter_take_t hz (decide_eq_true c0), ivs_snoc]
      · rw [decide_eq_false (fun e => c0 (V.int.inj e))]
        refine iteF (q0 _ (Same.refl _) ?_)
        rw [filter_take_f hz (decide_eq_false c0)]
    · refine ⟨D, _, rfl, .inl (SqL.of hD), ?_⟩
      rw [List.length_map, List.length_map, List.take_length]
      exact k _ s2
theorem ok_astand (F : FnP K "standing" "Archer.standing" sAStand f fd) (c : CA K C) (GP : MF P w K mg base C "points" 3 ["self"] (spARead C Ar.A.points)) (GT : MF P w K mg base C "tens" 1 ["self"] (spARead C Ar.A.tens))
    (GI : MF P w K mg base C "inner_tens" 1 ["self"] (spARead C Ar.A.inner)) : FnOk P w K mg base CX0 4 f fd ["self"] (spAStand C) := by
  refine fn_ok F scAStand (fun vs H Q E h => ?_) (fun cdv A outer s H vs Q E hr h => ?_)
  · obtain ⟨a, l, m, rfl, _⟩ := h
    rfl
  · obtain ⟨a, l, m, rfl, hA, k⟩ := h
    refine ⟨_, pss_one (ps_ret (pe_tup (pa_cons (pe_un un_neg (pe_m0 (X := _) GP c.cl hr (by decide) (pv 0))) (pa_cons (pe_un un_neg (pe_m0 (X := _) GT c.cl hr (by decide) (pv 0))) (pa_cons (pe_un un_neg (pe_m0 (X := _) GI c.cl hr (by decide) (pv 0))) (pa_cons (pe_fld (pv 0) rfl) pa_nil)))))), ?_⟩
    obtain ⟨dx, ha⟩ := hA.obj
    refine ⟨_, rfl, a, dx, _, rfl, ha, rfl, a, l, m, rfl, hA, fun H1 s1 => ⟨_, rfl, ?_⟩⟩
    refine ⟨_, rfl, a, dx, _, rfl, s1 _ _ ha, rfl, a, l, m, rfl, hA.same s1, fun H2 s2 => ⟨_, rfl, ?_⟩⟩
    refine ⟨_, rfl, a, dx, _, rfl, s2 _ _ (s1 _ _ ha), rfl, a, l, m, rfl, (hA.same s1).same s2, fun H3 s3 => ⟨_, rfl, ?_⟩⟩
    refine ⟨_, rfl, a, C, dx, _, _, rfl, s3 _ _ (s2 _ _ (s1 _ _ ha)), c.cl, c.number, rfl, (by show 4 ≤ sizeLine; decide), fun p hp => ?_⟩
    have s13 := (s1.trans s2).trans s3
    exact k _ p (s13.trans (Same.upd hp)) (s13.free hp) upd_same
end
end ArW
end
section
set_option Elab.async false
set_option maxRecDepth 100000
set_option maxHeartbeats 4000000
/-! sorted(l, key=lambda x: ..): the lambda is made, called for each item; its tuples of numbers order the items. -/
namespace ArW
open PySem PySem.Spec PyProof.Rows L2 LamX NdefX

/-- a lambda called: its one expression's reading, over its parameters and what it captured -/
theorem lam_run {P : Program} {w : World} {K : PySem.W.Frag} {mg : Str → Option Value} {base : Heap} {N ps fr : List Str} {F : NF} {f : Addr} {k : Nat} {A : Around} {outer : List Env} {s : Shared} {H : Hp} {us : List Value} {vs : List V} {ws : List (Option V)} {Q : VK} {params : Arguments} {body : Expr} {pm ctv : Value} {t : TE}
    (S : NScope N ps fr F.scope) (hr : Room (k + 1) A) (e0 : Env0 P w K mg base A outer s H) (hb : bindArgs (PySem.W.kla_fn F.name F.qual params body F.scope F.cl pm (.ref F.c) ctv) ⟨us, []⟩ = pure (ps.zip us))
    (hf : s.heap.get? f = some (PySem.W.kla_obj F.name F.qual params body F.scope F.cl pm F.c ctv)) (hc : H F.c = some (CodeO F.c F.qual)) (C : CellsAt F.cl fr ws s.heap H) (r : Vals vs us) (hl : vs.length = ps.length)
    (hp : PE (ncx CX0 P w K mg base N F f A outer s H E0) body t) (hq : t (startF N vs ws) H Q) :
    codeAny (model P w) A (.call (.ref f) ⟨us, []⟩) (CR CX0 outer P w H s Q E0) s := by
  have nl : s.heap.NoLimit := e0.mod.nolimit.keeps fun d u q => (e0.bs d u q).1
  refine PySem.W.kla_callFunE hr.depth hf rfl S.co S.gen rfl (codeO_at e0.hok hc) ?_
  rw [hb]
  refine wpAny_pure (wpAny_newFunctionEnv S.nocell ?_ (fun g ns sb => ⟨nl.fresh _ sb, ?_⟩) S.kind)
  · rintro ⟨n, z⟩ hy
    exact S.par n (List.of_mem_zip hy).1
  · have keep : ∀ d u, s.heap.get? d = some u → g.get? d = some u := fun d u q => sb.extBut d u (Nat.ne_of_lt (Heap.lt_size q)) (Heap.get?_push_of_some _ q)
    have J := inv_startN (CX := CX0) (E := E0) (f := f) (tk := s.toks + (ps.zip us).length) S hr.hd e0 hl r C ns keep
    refine PySem.W.kla_codeExpr (e := body) (env := envF F f s.heap.objs.size) (wpAny_mono (hp.run [] _ _ H Q J hq) ?_ fun _ _ z => z)
    rintro u s' ⟨v, H', J', rv, q⟩
    exact ⟨v, H', J'.os, J'.bare, J'.base, J'.hok, rv, q⟩

/-! ### the order of tuples of numbers -/
abbrev tupOf (k : List Int) : PyData := .tuple (k.map PyData.int)
theorem less_lt : ∀ {a b : List Int}, a.length = b.length → Kg64.less a b = decide (a < b)
  | [], [], _ => by simp [Kg64.less]
  | x :: a, y :: b, h => by
    have ih := less_lt (a := a) (b := b) (by simpa using h)
    show (decide (x < y) || (x == y && Kg64.less a b)) = _
    rw [ih, Bool.eq_iff_iff]
    simp only [Bool.or_eq_true, Bool.and_eq_true, decide_eq_true_eq, beq_iff_eq, List.cons_lt_cons_iff]
theorem tup_le {β : Type} (key : β → List Int) (n : Nat) (x y : β) (hx : (key x).length = n) (hy : (key y).length = n) : PySem.W.dataLe false (fun b => tupOf (key b)) x y = Ar.kle (key x) (key y) := by
  show (!PySem.W.dataLt (tupOf (key y)) (tupOf (key x))) = !Kg64.less (key y) (key x)
  congr 1
  rw [PySem.W.dataLt_tuple, less_lt (by rw [hx, hy])]
  exact PySem.W.dataLt_ints (key y) (key x)

/-! ### sorted by keys that a function of one's own reckons -/
section
variable {X : Cx}
theorem dp_nums {K : PySem.W.Frag} {H : Hp} : ∀ l : List Int, DpAll K H (ivs l) (l.map PyData.int)
  | [] => .nil
  | n :: l => .cons (.int n) (dp_nums l)
theorem depth_nums : ∀ l : List Int, PyData.depthAll (l.map PyData.int) ≤ 1
  | [] => Nat.zero_le _
  | n :: l => by
    show max (PyData.int n).depth (PyData.depthAll (l.map PyData.int)) ≤ 1
    exact Nat.max_le.mpr ⟨Nat.zero_le _, depth_nums l⟩
theorem depth_tup (l : List Int) : (tupOf l).depth ≤ 2 := by
  show PyData.depthAll (l.map PyData.int) + 1 ≤ 2
  have := depth_nums l
  omega
theorem alike_nums : ∀ a b : List Int, PySem.W.alikeAll (a.map PyData.int) (b.map PyData.int) = true
  | [], _ => by simp [PySem.W.alikeAll]
  | _ :: _, [] => by simp [PySem.W.alikeAll]
  | x :: a, y :: b => by
    rw [List.map_cons, List.map_cons, PySem.W.alikeAll, alike_nums a b]
    simp [PySem.W.alike]
theorem vals_each : ∀ {us : List Value} {bs : List (V × List Int)}, PySem.W.EachIs (fun v b => RelV b.1 v) us bs → Vals (bs.map (·.1)) us
  | _, _, .nil => .nil
  | _, _, .cons h r => .cons h (vals_each r)
theorem each_zip : ∀ {xs : List V} {us : List Value} {ks : List (List Int)}, Vals xs us → xs.length = ks.length → PySem.W.EachIs (fun v (b : V × List Int) => RelV b.1 v) us (xs.zip ks)
  | _, _, [], .nil, _ => .nil
  | _, _, [], .cons _ _, h => by simp at h
  | _, _, _ :: _, .nil, h => by simp at h
  | _, _, k :: ks, .cons r t, h => .cons r (each_zip t (by simpa using h))
/-- what the keys' list holds -/
abbrev KeysAt (H : Hp) (us : List Value) (ks : List (List Int)) : Prop := PySem.W.EachIs (fun u k => ∃ p, u = Value.ref p ∧ H p = some (.tup (ivs k))) us ks
theorem KeysAt.later {H H' : Hp} (t : ∀ b xs, H b = some (.tup xs) → H' b = some (.tup xs)) {us : List Value} {ks : List (List Int)} (h : KeysAt H us ks) : KeysAt H' us ks :=
  h.mono fun _ _ ⟨p, e, q⟩ => ⟨p, e, t _ _ q⟩
theorem each_tups {pins : List (Addr × Obj)} {σ : L2.St} {s : Shared} {H : Hp} (I : Inv X pins σ H s) : ∀ {us : List Value} {ks : List (List Int)}, KeysAt H us ks → PySem.W.EachIs (fun v d => ∃ as, Reads s.heap v d as) us (ks.map tupOf)
  | _, _, .nil => .nil
  | _, _, .cons ⟨p, e, h⟩ r => by
    subst e
    exact .cons (Dp.reads I _ (.ref p) _ (.tup (.inl (.inl h)) (dp_nums _)) rfl) (each_tups I r)
/-- a call of the function gives the key of its item, changes nothing that stood -/
def KeyCall (X : Cx) (σ : L2.St) (f : Addr) (fo : Obj) (H : Hp) (xs : List V) (ks : List (List Int)) : Prop :=
  ∀ (i : Nat) (x : V) (k : List Int), xs[i]? = some x → ks[i]? = some k → ∀ (pins : List (Addr × Obj)) (s : Shared) (H' : Hp) (u : Value), Inv X pins σ H' s → Same H H' → s.heap.get? f = some fo → RelV x u →
    codeAny (model X.prog X.w) X.A.in1.in1 (.call (.ref f) ⟨[u], []⟩) (CR CX0 X.stack X.prog X.w H' s (fun v H'' => ∃ p, v = .ref p ∧ H'' p = some (.tup (ivs k)) ∧ Same H' H'') E0) s
theorem sorted_by {pins : List (Addr × Obj)} {σ : L2.St} {s : Shared} {H : Hp} {l f : Addr} {fo : Obj} {xs : List V} {ks : List (List Int)} {Q : VK} {j : Nat} (I : Inv X pins σ H s) (hS : SqL X.K H l xs) (hr : Room (j + 2) X.A) (hlen : ks.length = xs.length) (hne : ∀ k ∈ ks, k ≠ [])
    (ff : s.heap.get? f = some fo) (fn : H f = none) (fr : f ∉ frs X.stack) (fk : ∀ v, fo.data ≠ .cell v) (fL : f ≠ X.env.locals) (call_ : KeyCall X σ f fo H xs ks)
    (q : ∀ (H' : Hp) (p : Addr), Same H H' → H p = none → H' p = some (.lst (((xs.zip ks).mergeSort fun x y => PySem.W.dataLe false (fun b : V × List Int => tupOf b.2) x y).map (·.1))) → Q (.ref p) H') :
    wpAny (model X.prog X.w) X.A (call (.builtin "sorted") [.ref l] [(Str.ofString "key", .ref f)]) (EP X pins σ Q) X.xe s := by
  obtain ⟨its, rv, pl, hz⟩ := I.list hS
  have hil : its.length = xs.length := rv.length.symm
  have hfs : f ∉ X.fs := fun z => fr (by
    rcases I.ok.stk with e | ⟨e, _⟩
    · rw [e]; exact z
    · rw [e]
      have z' : f ∈ frs X.outer := z
      unfold frs at z' ⊢
      rw [List.filterMap_cons]
      split
      · exact z'
      · exact List.mem_cons_of_mem _ z')
  have lt0 : X.env.locals < s.heap.objs.size := I.lt
  refine PySem.W.sorted_of_sort (vs := its) pl.isList (by rw [hil]; simpa using hz) (PyProof.Rows.ksk_s1 _ _) (fun _ => PyProof.Rows.ksk_l1 _ _) fun E' => ?_
  rw [PyProof.Rows.ksk_t1]
  generalize hA : s.heap.objs.size + 1 = a
  have ho : (PySem.W.copyHeap s.heap its).get? a = some (seqObj "list" its.toArray 0) := by rw [← hA]; exact PySem.W.copyHeap_at _ _
  have hZ : its.length ≤ sizeLine := by rw [hil]; exact hz
  have al : ∀ b o, s.heap.get? b = some o → b ≠ a := fun b o e => by
    have h1 : b < s.heap.objs.size := Heap.lt_size e
    have h2 : b < a := by rw [← hA]; exact Nat.lt_succ_of_lt h1
    exact Nat.ne_of_lt h2
  obtain ⟨e1, ho1⟩ : ∃ e1, ((PySem.W.copyHeap s.heap its).update a (Obj.mapSeq fun _ => (#[] : Array Value))).get? a = some (seqObj "list" #[] e1) := ⟨_, PyProof.Rows.get?_update_seq ho fun _ => #[]⟩
  have s0 := Heap.SameBut.update (PySem.W.copyHeap s.heap its) a (Obj.mapSeq fun _ => (#[] : Array Value))
  have la : a < ((PySem.W.copyHeap s.heap its).update a (Obj.mapSeq fun _ => (#[] : Array Value))).objs.size := Heap.lt_size ho1
  generalize hB : (PySem.W.copyHeap s.heap its).update a (Obj.mapSeq fun _ => (#[] : Array Value)) = B at ho1 s0 la
  unfold PyProof.Rows.ksk_tree
  refine wpAny_bind (PyProof.Rows.listItems_at ho rfl ?_)
  refine wpAny_bind (PyProof.Rows.listUpdate_at ho rfl ?_ (by rw [List.size_toArray]; exact hZ) (Nat.zero_le _))
  show wpAny _ _ _ _ _ { s with heap := (PySem.W.copyHeap s.heap its).update a (Obj.mapSeq fun _ => (#[] : Array Value)) }
  rw [hB]
  refine wpAny_bind (PyProof.Rows.seqEpoch_at ho1 rfl ?_)
  refine wpAny_bind (wpAny_newTuple ?_ hZ)
  refine wpAny_bind (wpAny_newList ?_ (Nat.zero_le _))
  refine wpAny_holding ?_
  have lk : (B.push (seqObj "tuple" its.toArray 0)).objs.size = B.objs.size + 1 := PyProof.Rows.size_push' ..
  have hkS : ((B.push (seqObj "tuple" its.toArray 0)).push (seqObj "list" #[] 0)).get? (B.push (seqObj "tuple" its.toArray 0)).objs.size = some (seqObj "list" #[] 0) := Heap.get?_push_size _ rfl
  show wpAny _ _ (PyProof.Rows.ksk_rest a (.ref f) false its.toArray e1 (.ref (B.push (seqObj "tuple" its.toArray 0)).objs.size)) _ _ { s with heap := (B.push (seqObj "tuple" its.toArray 0)).push (seqObj "list" #[] 0) }
  have keep0 : ∀ b o, s.heap.get? b = some o → ((B.push (seqObj "tuple" its.toArray 0)).push (seqObj "list" #[] 0)).get? b = some o := fun b o e =>
    Heap.get?_push_of_some _ (Heap.get?_push_of_some _ ((s0.2 b (al b o e)).trans (PySem.W.copyHeap_old e)))
  have ha0 : ((B.push (seqObj "tuple" its.toArray 0)).push (seqObj "list" #[] 0)).get? a = some (seqObj "list" #[] e1) := Heap.get?_push_of_some _ (Heap.get?_push_of_some _ ho1)
  generalize (B.push (seqObj "tuple" its.toArray 0)).push (seqObj "list" #[] 0) = G at hkS keep0 ha0
  generalize (B.push (seqObj "tuple" its.toArray 0)).objs.size = kS at hkS lk
  have nka : kS ≠ a := by omega
  have gea : s.heap.objs.size ≤ a := by omega
  have gek : s.heap.objs.size ≤ kS := by omega
  have I0 : Inv X pins σ H { s with heap := G } := I.kept (t' := s.toks) keep0
  unfold PyProof.Rows.ksk_rest
  refine wpAny_bind (wpAny_rule ?_)
  first
    | rw [List.forIn_toArray]
    | (rw [← Array.forIn_toList]; simp only [List.toList_toArray])
    | rw [← Array.forIn_toList]
  refine wpAny_bind (PyProof.Rows.ksk_fold (fun i s' => ∃ (H' : Hp) (kA : Array Value) (e : Nat), Inv X pins σ H' s' ∧ Same H H' ∧ s'.heap.get? f = some fo ∧ H' f = none ∧ H' a = none ∧ H' kS = none ∧ s'.heap.get? kS = some (seqObj "list" kA e) ∧
      s'.heap.get? a = some (seqObj "list" #[] e1) ∧ KeysAt H' kA.toList (ks.take i)) its 0 _
    ⟨H, #[], 0, I0, Same.refl H, keep0 _ _ ff, fn, I.hok.fresh gea, I.hok.fresh gek, hkS, ha0, PySem.W.EachIs.nil⟩ ?step ?done)
  case step =>
    rintro j u s' hu ⟨H', kA, e, I', sm, ff', fn', na, nk, ok, oa, hk⟩
    simp only [Nat.zero_add] at hk ⊢
    have hj : j < its.length := (List.getElem?_eq_some_iff.mp hu).1
    obtain ⟨x, hx⟩ : ∃ x, xs[j]? = some x := ⟨_, List.getElem?_eq_getElem (by omega)⟩
    obtain ⟨k, hkj⟩ : ∃ k, ks[j]? = some k := ⟨_, List.getElem?_eq_getElem (by omega)⟩
    have hz2 : kA.size ≤ its.length := by
      have h1 := hk.length
      rw [Array.length_toList, List.length_take] at h1
      omega
    have rx : RelV x u := by
      obtain ⟨u', h1, h2⟩ := rv.get hx
      rw [hu] at h1
      cases h1
      exact h2
    have neL : ∀ b, s.heap.objs.size ≤ b → b ≠ X.env.locals := fun b hb => Ne.symm (Nat.ne_of_lt (Nat.lt_of_lt_of_le lt0 hb))
    have IP : Inv X (pins ++ [(a, seqObj "list" #[] e1), (kS, seqObj "list" kA e), (f, fo)]) σ H' s' := I'.pins_of fun p hp => by
      rcases List.mem_append.mp hp with hp | hp
      · exact I'.pin p (List.mem_append_right _ hp)
      · simp only [List.mem_cons, List.not_mem_nil, or_false] at hp
        rcases hp with rfl | rfl | rfl
        · exact ⟨oa, na, neL _ gea, I.nofs gea, fun v z => by cases z⟩
        · exact ⟨ok, nk, neL _ gek, I.nofs gek, fun v z => by cases z⟩
        · exact ⟨ff', fn', fL, hfs, fk⟩
    refine wpAny_bind (wpAny_attempt (wpAny_call (codeAny_mono (call_ j x k hx hkj _ s' H' u IP sm ff' rx) fun r s2 hq => ?_)))
    rcases r with e0 | fl
    · exact (show False from hq).elim
    rcases fl with _ | _ | _ | v
    all_goals first | exact (show False from hq).elim | skip
    obtain ⟨v1, H2, I2, r2, p, rfl, hp, sm2⟩ := IP.after hq
    obtain rfl : v = .ref p := r2
    have pin2 := fun q hq => I2.pin q (List.mem_append_right _ (List.mem_append_right _ hq))
    obtain ⟨oa2, na2, _⟩ := pin2 (a, seqObj "list" #[] e1) (by simp)
    obtain ⟨ok2, nk2, _⟩ := pin2 (kS, seqObj "list" kA e) (by simp)
    obtain ⟨ff2, fn2, _⟩ := pin2 (f, fo) (by simp)
    dsimp only at oa2 na2 ok2 nk2 ff2 fn2 ⊢
    have I3 : Inv X pins σ H2 s2 := I2.pins_of fun q hq => I2.pin q (List.mem_append_right _ (List.mem_append_left _ hq))
    have s1 := Heap.SameBut.update s2.heap kS (Obj.mapSeq (·.push (Value.ref p)))
    obtain ⟨c2, hc2⟩ : ∃ c2, (s2.heap.update kS (Obj.mapSeq (·.push (Value.ref p)))).get? kS = some (seqObj "list" (kA.push (Value.ref p)) c2) := ⟨_, PyProof.Rows.get?_update_seq ok2 (·.push (Value.ref p))⟩
    obtain ⟨f1, f2, f3, f4, f5, f6⟩ := I.fpOk gek nk2
    refine wpAny_bind (PyProof.Rows.listUpdate_at ok2 rfl ?_ (Nat.le_trans hz2 hZ) (Nat.le_trans (Nat.le_of_eq (Array.size_push ..)) (Nat.succ_le_succ (Nat.le_trans hz2 hZ))))
    have hkf : f ≠ kS := Nat.ne_of_lt (Nat.lt_of_lt_of_le (Heap.lt_size ff) gek)
    refine wpAny_pure ⟨rfl, H2, kA.push (Value.ref p), c2, I3.turned (t' := s2.toks) (fun b o hb q => (s1.2 b hb).trans q) f1 f2 f4 f5 f6, sm.trans sm2, (s1.2 f hkf).trans ff2, fn2, na2, nk2, hc2, (s1.2 a nka.symm).trans oa2, ?_⟩
    have ek : ks.take (j + 1) = ks.take j ++ [k] := by rw [List.take_add_one, hkj]; simp
    rw [ek, Array.toList_push]
    exact PySem.W.each_snoc ⟨p, rfl, hp⟩ (hk.later fun b _ q => sm2 b _ q)
  case done =>
    rintro s' ⟨H', kA, e, I', sm, ff', fn', na, nk, ok, oa, hk⟩
    have hl : ks.length = its.length := by rw [hlen, hil]
    rw [show 0 + its.length = ks.length by omega, List.take_length] at hk
    have hrd : PySem.W.EachIs (fun v d => ∃ as, Reads s'.heap v d as) kA.toList (ks.map tupOf) := each_tups I' hk
    have eks : ks.map tupOf = (xs.zip ks).map fun b => tupOf b.2 := by
      rw [show (fun b : V × List Int => tupOf b.2) = tupOf ∘ Prod.snd from rfl, ← List.map_map, List.map_snd_zip (by omega)]
    have hal : PySem.W.AllAlike (ks.map tupOf) := fun d hd d' hd' => by
      obtain ⟨k1, _, rfl⟩ := List.mem_map.mp hd
      obtain ⟨k2, _, rfl⟩ := List.mem_map.mp hd'
      show PySem.W.alike (.tuple _) (.tuple _) = true
      rw [PySem.W.alike]
      exact alike_nums k1 k2
    have hsk : PySem.W.Sortable (ks.map tupOf) := .inl fun d hd => by
      obtain ⟨k1, hk1, rfl⟩ := List.mem_map.mp hd
      obtain ⟨n, r, rfl⟩ : ∃ n r, k1 = n :: r := by
        cases k1 with
        | nil => exact absurd rfl (hne _ hk1)
        | cons n r => exact ⟨n, r, rfl⟩
      exact ⟨.int n, r.map PyData.int, rfl⟩
    have hu : ∀ d, d ∈ ks.map tupOf → X.A.in1.in1.units + d.depth < cLine := fun d hd => by
      obtain ⟨k1, _, rfl⟩ := List.mem_map.mp hd
      have h1 := depth_tup k1
      have h2 := hr.un
      show X.A.units + 1 + 1 + _ < _
      omega
    have hsz : kA.size = its.length := by
      have h1 := hk.length
      rw [Array.length_toList] at h1
      omega
    refine wpAny_bind (PyProof.Rows.listItems_at ok rfl ?_)
    refine PySem.W.keyH_end (κ := PySem.W.dataKind s'.heap (ks.map tupOf)) (b := false) (h₁ := PySem.W.hideAll s'.heap [a, kS]) (fun b o _ e => PySem.W.of_hideAll _ e) (PySem.W.hideAll_none _ (by simp)) ok oa nka (PySem.W.SortsAt.data hrd hal hsk hu) hsz hZ fun h3 tk3 c k3 n3 => ⟨rfl, ?_⟩
    have ko : PySem.W.KeyedOut false ((xs.zip ks).map fun b => tupOf b.2) its (PySem.W.sortVals (PySem.W.dataKind s'.heap (ks.map tupOf)) false kA.toList its) := by
      rw [← eks]
      exact ⟨s'.heap, kA.toList, hal, rfl, hrd⟩
    generalize hout : PySem.W.sortVals (PySem.W.dataKind s'.heap (ks.map tupOf)) false kA.toList its = out at ko n3
    have ro := PySem.W.keyedOut_each (R := fun v b => RelV b.1 v) (fun b : V × List Int => tupOf b.2) ko (each_zip rv (by omega))
    have hlo : ((xs.zip ks).mergeSort (PySem.W.dataLe false fun b : V × List Int => tupOf b.2)).length = xs.length := by
      rw [List.length_mergeSort, List.length_zip]
      omega
    generalize hys : (xs.zip ks).mergeSort (PySem.W.dataLe false fun b : V × List Int => tupOf b.2) = ys at ro hlo q
    have na0 : H a = none := I.hok.fresh gea
    have k4 : ∀ b o, b ∉ [a, kS] → s'.heap.get? b = some o → h3.get? b = some o := fun b o hb e => k3 b o (fun z => hb (by simp [z])) (PySem.W.hideAll_get _ e hb)
    have up : ∀ b u, H' b = some u → upd H' a (.lst (ys.map (·.1))) b = some u := fun b u e => by rw [upd_ne (fun z => by rw [z, na] at e; cases e)]; exact e
    have smf : Same H (upd H' a (.lst (ys.map (·.1)))) := fun b o e => up b o (sm b o e)
    refine ⟨.ref a, upd H' a (.lst (ys.map (·.1))), ?_, rfl, q _ a smf na0 upd_same⟩
    have nin : ∀ b u, H' b = some u → b ∉ [a, kS] := fun b u e z => by
      simp only [List.mem_cons, List.not_mem_nil, or_false] at z
      rcases z with rfl | rfl
      · rw [na] at e; cases e
      · rw [nk] at e; cases e
    refine I'.step (g' := s'.gens) (d' := s'.drawn) (ch := [a, kS]) (fun b hb => ?_) (fun b o _ _ hc e _ => k4 b o hc e) (fun b o _ _ hc e _ => ⟨o.slots, k4 b o hc e⟩) (fun b o hc _ n => ?_) (fun b o hc e => ⟨o, k4 b o hc e⟩)
      (fun b _ e => up b _ e) (fun b _ _ e => up b _ e) (fun b ps e => ⟨#[], by rw [up b _ e]; simp⟩) (fun m hm => ?_) (fun b u e => ?_) I'.bare
    · simp only [List.mem_cons, List.not_mem_nil, or_false] at hb
      rcases hb with rfl | rfl
      · obtain ⟨_, f2, f3, f4, f5, f6⟩ := I.fpOk gea na
        exact ⟨f4, f2, f5, f6⟩
      · obtain ⟨_, f2, f3, f4, f5, f6⟩ := I.fpOk gek nk
        exact ⟨f4, f2, f5, f6⟩
    · rw [upd_ne (fun z => hc (by simp [z]))]
      exact n
    · obtain ⟨o, es, ep, ho', r⟩ := hm
      refine ⟨o, es, ep, k4 _ o (fun z => ?_) ho', r⟩
      simp only [List.mem_cons, List.not_mem_nil, or_false] at z
      rcases z with z | z
      · exact absurd (Nat.lt_of_lt_of_le lt0 gea) (by rw [z]; exact Nat.lt_irrefl _)
      · exact absurd (Nat.lt_of_lt_of_le lt0 gek) (by rw [z]; exact Nat.lt_irrefl _)
    · by_cases hb : b = a
      · subst hb
        rw [upd_same] at e
        cases e
        refine ⟨by rw [List.length_map, hlo]; exact hz, out, c, vals_each ro, n3⟩
      · rw [upd_ne hb] at e
        refine (I'.hok b u e).stay (fun d v hd q => k4 d v ?_ q) (fun d q => up d _ q) fun d _ q => up d _ q
        rcases hd with z | z
        · rw [z]; exact nin b u e
        · exact nin d _ z
/-- the reading of sorted(l, key=lambda x: ..): its list, the keys, each key's reckoning, what is wanted behind it -/
def tSortLam (K : PySem.W.Frag) (T : List (Addr × Str)) (N : List Str) (js : List Nat) (ta : TA) (t : TE) : TE := fun σ H Q => ta σ H fun vs H1 => Tabs T H1 ∧ ∃ (l : Addr) (xs : List V) (ks : List (List Int)), vs = [.ref l] ∧ ks.length = xs.length ∧ (∀ k ∈ ks, k ≠ []) ∧
  ∀ H2, ExtN H1 H2 → Tabs T H2 → SqL K H2 l xs ∧ (∀ (i : Nat) (x : V) (k : List Int) (H3 : Hp), xs[i]? = some x → ks[i]? = some k → Same H2 H3 → t (startF N [x] (js.map (slotAt σ))) H3 fun v H4 => ∃ p, v = .ref p ∧ H4 p = some (.tup (ivs k)) ∧ Same H3 H4) ∧
    ∀ (H3 : Hp) (p : Addr), Same H2 H3 → H2 p = none → H3 p = some (.lst (((xs.zip ks).mergeSort fun x y => PySem.W.dataLe false (fun b : V × List Int => tupOf b.2) x y).map (·.1))) → Q (.ref p) H3
/-- the lambda's words -/
abbrev NF.lam (qual : Str) (params : Arguments) (scope : Scope) (cl : List (Str × Addr)) (c : Addr) : NF := ⟨"<lambda>", qual ++ "<lambda>", params, [], scope, cl, c⟩
theorem pe_sortLam {T : List (Addr × Str)} {c P : Addr} {params : Arguments} {body e : Expr} {scope : Scope} {p1 p2 p3 p4 : Pos} {a : Str} {N fr : List Str} {js : List Nat} {j : Nat} {ta : TA} {t : TE} (TB : TabB X.base X.mg c P) (hcode : X.env.code = .ref c)
    (hm : (P, X.env.qual ++ "<lambda>") ∈ T) (hu : ∀ p ∈ T, p.1 = P → p.2 = X.env.qual ++ "<lambda>") (S : NScope N [a] fr scope) (hr : Room (j + 3) X.A) (hg : Gl X "sorted") (hmg : X.mg "sorted" = none)
    (hfree : ∀ y ∈ scope.names, y.2 = .free → X.env.scope.names.lookup y.1 = some .cell ∨ X.env.scope.names.lookup y.1 = some .free) (hfr : ∀ y ∈ fr, (y, NameKind.free) ∈ scope.names) (hjs : js.map (fun j => X.N[j]?) = fr.map some) (hdef : defaultsOf params X.env = ([], []))
    (hbind : ∀ (u pm ctv : Value) (cl : List (Str × Addr)) (c' : Addr), bindArgs (PySem.W.kla_fn "<lambda>" (X.env.qual ++ "<lambda>") params body scope cl pm (.ref c') ctv) ⟨[u], []⟩ = pure ([a].zip [u]))
    (ha : PA X [e] ta) (hb : ∀ (cl : List (Str × Addr)) (f c' : Addr) (s : Shared) (H : Hp), Room j (X.A.in1.in1.deeper (envF (NF.lam X.env.qual params scope cl c') f s.heap.objs.size)) → PE (ncx CX0 X.prog X.w X.K X.mg X.base N (NF.lam X.env.qual params scope cl c') f X.A.in1.in1 X.stack s H E0) body t)
    (hst : backTo p4 (starEach [e] X.env) = (false, eval e X.env) :: backTo p4 (starEach [] X.env) := by rfl) (hpl : (backTo p4 (starEach [e] X.env)).any (·.1) = false := by rfl) :
    PE X (.Call (.Name "sorted" p1) [e] [⟨some "key", .Lambda params body scope p2, p3⟩] p4) (tSortLam X.K T N js ta t) := by
  refine ⟨fun pins s σ H Q I h => ?_⟩
  refine wpAny_Call_Name_kw (ld_blt I hg hmg (by decide +kernel : bootBuiltins "sorted" = some (.builtin "sorted")) ?_)
  refine PyProof.Rows.callWith_kw (thn (ha.run p4 pins s σ H _ I h) fun us s1 ⟨vs, H1, I1, r1, hT, l, xs, ks, ex, hl, hne, q⟩ => ?_) hst hpl
  subst ex
  obtain rfl := Vals.ref1 r1
  show wpAny _ _ (evalAll ((do let v ← eval (.Lambda params body scope p2) X.env; standAt p4; pure v) :: (backToKw p4 (keywordEach [] X.env)).map (·.2))) _ _ s1
  have hfree' : ∀ y ∈ scope.names, y.2 = .free → ∃ c, X.env.cells.lookup y.1 = some c := fun y hy e => (hfree y hy e).elim (fun z => I.ok.has _ (.inl z)) fun z => I.ok.has _ (.inr z)
  refine wpAny_evalAll_cons (wpAny_bind (lam_make2 I1 TB hcode hm hu hT hdef hfree' fun f c' pm ctv H2 s2 I2 eN T2 hf hfn hfr2 hco => wpAny_bind (wpAny_standAt (wpAny_pure (wpAny_evalAll_nil ?_)))))
  obtain ⟨hS, hk, qq⟩ := q H2 eN T2
  show wpAny (model X.prog X.w) X.A (call (.builtin "sorted") [.ref l] [(Str.ofString "key", .ref f)]) (EP X pins σ Q) X.xe s2
  refine sorted_by (j := j + 1) I2 hS hr hl hne hf hfn hfr2 (fun v z => by cases z) (fun z => ?_) (fun i x k hx hkx pins' s3 H3 u I3 sm ff rx => ?_) qq
  · obtain ⟨m, ⟨o, es, ep, ho, hd, _⟩, _⟩ := I2.loc
    rw [z, ho] at hf
    cases hf
    cases hd
  · have C := cells_of (js := js) I3 (Caps.made I.ok hfree hfr hjs)
    exact lam_run (F := NF.lam X.env.qual params scope (cloFrom X.env.cells scope.names []) c') (k := j) S hr.in1.in1 I3.env0.in1.in1 (hbind u pm ctv _ c') ff (sm _ _ hco) C (.cons rx .nil) rfl (hb _ f c' s3 H3 (hr.in1.in1.deeper _)) (hk i x k H3 hx hkx sm)
end
end ArW
end
section
set_option Elab.async false
set_option maxRecDepth 100000
set_option maxHeartbeats 4000000
/-! ranked. -/
namespace ArW
open PySem PySem.Spec PyProof.Rows L2 LamX NdefX
open Ar (kle)

/-- what stays where a lambda may be made: all but the tables, and the tables stay tables -/
structure Ext (T : List (Addr × Str)) (H H' : Hp) : Prop where
  n : ExtN H H'
  t : Tabs T H → Tabs T H'
theorem Same.ext {T : List (Addr × Str)} {H H' : Hp} (s : Same H H') : Ext T H H' := ⟨ExtN.of s, fun t => t.ext s⟩
theorem Ext.trans {T : List (Addr × Str)} {H H1 H2 : Hp} (a : Ext T H H1) (b : Ext T H1 H2) : Ext T H H2 := ⟨a.n.trans b.n, fun t => b.t (a.t t)⟩
theorem Ext.refl (T : List (Addr × Str)) (H : Hp) : Ext T H H := ⟨ExtN.refl H, id⟩
/-- where a def's lambda is made -/
structure LamAt (base : Heap) (mg : Str → Option Value) (fd : FuncData) (T : List (Addr × Str)) (q : Str) : Prop where
  ex : ∃ c P, fd.code = .ref c ∧ TabB base mg c P ∧ (P, q) ∈ T ∧ ∀ p ∈ T, p.1 = P → p.2 = q
/-- def's promise kept, its code object known -/
theorem fn_okC {P : Program} {w : World} {K : PySem.W.Frag} {mg : Str → Option Value} {base : Heap} {x qual : Str} {st : Stmt} {f : Addr} {fd : FuncData} {N ps : List Str} {k : Nat} {sp : Sp} (F : FnP K x qual st f fd) (S : FnScope N ps (defScope st)) (len : ∀ vs H Q E, sp vs H Q E → vs.length = ps.length)
    (hbody : ∀ (cdv : Value) (A : Around) (outer : List Env) (s : Shared) (H : Hp) (vs : List V) (Q : VK) (E : XK), cdv = fd.code → Room k (A.deeper (envOfC qual (defScope st) s.heap.objs.size f cdv)) → sp vs H Q E →
      ∃ t, PSs (cxOf CX0 P w K mg base N qual (defScope st) f cdv A outer s H E).nox (defBody st) t ∧ t { nx := fun _ H' => Q .non H', rt := Q } (start N vs) H) : FnOk P w K mg base CX0 (k + 1) f fd ps sp := by
  obtain ⟨oc, od, dV, kV, doc, pm, an, cdv, ct, osl, rfl, lk, hcd, _, _⟩ := F.ex
  exact fn_of lk hcd S len fun A outer s H vs Q E hr hsp => by
    obtain ⟨t, h, q⟩ := hbody cdv A outer s H vs Q E rfl hr hsp
    exact ⟨t, h.nox, q⟩

/-! ### archers that stand at addresses -/
abbrev AL := List (Addr × Addr × Ar.A)
def AllAt (C : Addr) (H : Hp) (l : AL) : Prop := ∀ x ∈ l, ArchAt C H x.1 x.2.1 x.2.2
abbrev arefs (l : AL) : List V := l.map fun x => V.ref x.1
abbrev amods (l : AL) : List Ar.A := l.map fun x => x.2.2
def srt (l : AL) : AL := l.mergeSort fun x y => kle x.2.2.key y.2.2.key
theorem srt_mods (l : AL) : amods (srt l) = Ar.ranked (amods l) := by
  unfold Ar.ranked srt amods
  exact List.map_mergeSort fun a _ b _ => rfl
theorem ins_tbl {C d : Addr} {fs : List (Str × V)} (ps : Array Value) : (HO.ins C d fs) ≠ .tbl ps := fun z => by cases z
theorem lst_tbl {l : List V} (ps : Array Value) : (HO.lst l) ≠ .tbl ps := fun z => by cases z
theorem tup_tbl {l : List V} (ps : Array Value) : (HO.tup l) ≠ .tbl ps := fun z => by cases z
theorem ArchAt.ext {C : Addr} {H H' : Hp} {a l : Addr} {m : Ar.A} (h : ArchAt C H a l m) (s : ExtN H H') : ArchAt C H' a l m := by
  obtain ⟨⟨dx, h1⟩, h2, h3⟩ := h
  exact ⟨⟨dx, s _ _ h1 ins_tbl⟩, s _ _ h2 lst_tbl, h3⟩
theorem AllAt.same {C : Addr} {H H' : Hp} {l : AL} (h : AllAt C H l) (s : Same H H') : AllAt C H' l := fun x hx => (h x hx).same s
theorem AllAt.ext {C : Addr} {H H' : Hp} {l : AL} (h : AllAt C H l) (s : ExtN H H') : AllAt C H' l := fun x hx => (h x hx).ext s
theorem AllAt.perm {C : Addr} {H : Hp} {l l' : AL} (h : AllAt C H l) (p : l'.Perm l) : AllAt C H l' := fun x hx => h x (p.mem_iff.mp hx)
theorem srt_perm (l : AL) : (srt l).Perm l := List.mergeSort_perm ..
theorem zip_two {α β γ : Type} (f : α → β) (g : α → γ) : ∀ l : List α, (l.map f).zip (l.map g) = l.map fun x => (f x, g x)
  | [] => rfl
  | x :: l => by rw [List.map_cons, List.map_cons, List.zip_cons_cons, zip_two f g l, List.map_cons]
/-- items in the order of their keys -/
theorem sort_out {α : Type} (l : List α) (f : α → V) (g : α → List Int) (n : Nat) (hn : ∀ x ∈ l, (g x).length = n) :
    ((((l.map f).zip (l.map g)).mergeSort fun x y => PySem.W.dataLe false (fun b : V × List Int => tupOf b.2) x y).map (·.1)) = (l.mergeSort fun x y => kle (g x) (g y)).map f := by
  rw [zip_two, ← List.map_mergeSort (f := fun x => (f x, g x)) (r := fun x y => kle (g x) (g y)) fun a ha b hb => (tup_le g n a b (hn a ha) (hn b hb)).symm, List.map_map]
  rfl
def freeB (a b : Scope) : Bool := a.names.all fun y => !decide (y.2 = .free) || (decide (b.names.lookup y.1 = some .cell) || decide (b.names.lookup y.1 = some .free))
theorem free_by {a b : Scope} (h : freeB a b = true) : ∀ y ∈ a.names, y.2 = .free → b.names.lookup y.1 = some .cell ∨ b.names.lookup y.1 = some .free := fun y hy e => by
  have q := List.all_eq_true.mp h y hy
  simp only [Bool.or_eq_true, Bool.not_eq_true', decide_eq_true_eq, decide_eq_false_iff_not] at q
  rcases q with z | z
  · exact absurd e z
  · exact z

abbrev sRanked : Stmt := top 8
theorem scRanked : FnScope ["archers"] ["archers"] (defScope sRanked) := ⟨rfl, rfl, rfl, by decide +kernel, rfl, by decide +kernel, by decide +kernel⟩
def spRanked (C : Addr) (T : List (Addr × Str)) : Sp := fun vs H Q _ => ∃ (a : Addr) (l : AL), vs = [.ref a] ∧ Tabs T H ∧ H a = some (.lst (arefs l)) ∧ AllAt C H l ∧ ∀ H1 H' p, Ext T H H1 → Same H1 H' → H1 p = none → H' p = some (.lst (arefs (srt l))) → Q (.ref p) H'
section
variable {P : Program} {w : World} {K : PySem.W.Frag} {mg : Str → Option Value} {base : Heap} {f C : Addr} {fd : FuncData} {T : List (Addr × Str)}
theorem ok_ranked (F : FnP K "ranked" "ranked" sRanked f fd) (c : CA K C) (L : LamAt base mg fd T "ranked.<locals>.<lambda>") (B : TB mg) (GS : MF P w K mg base C "standing" 4 ["self"] (spAStand C)) : FnOk P w K mg base CX0 8 f fd ["archers"] (spRanked C T) := by
  refine fn_okC F scRanked (fun vs H Q E h => ?_) (fun cdv A outer s H vs Q E hcd hr h => ?_)
  · obtain ⟨a, l, rfl, _⟩ := h
    rfl
  · obtain ⟨a, l, rfl, hT, ha, hl, k⟩ := h
    obtain ⟨cc, PT, ec, tb, hm, hu⟩ := L.ex
    have e0 : cdv = .ref cc := hcd.trans ec
    refine ⟨_, pss_one (ps_ret (pe_sortLam (T := T) (a := "one") (N := ["one"]) (fr := []) (js := []) (j := 4) tb e0 hm hu (nscope_by (by decide +kernel)) hr rfl B.sorted (free_by (b := defScope sRanked) (by decide +kernel)) (fun y hy => by cases hy) rfl rfl (fun _ _ _ _ _ => rfl) (pa_cons (pv 0) pa_nil)
      (fun cl f c' s H hr2 => pe_m0 (X := _) GS c.cl hr2 (by decide) (pv 0)))), ?_⟩
    refine ⟨_, rfl, hT, a, arefs l, l.map fun x => x.2.2.key, rfl, by rw [List.length_map, List.length_map], fun q hq => ?_, fun H2 e2 t2 => ⟨SqL.of (e2 _ _ ha lst_tbl), fun i x q H3 hx hq s3 => ?_, fun H3 p s3 n2 hp => ?_⟩⟩
    · obtain ⟨x, _, rfl⟩ := List.mem_map.mp hq
      exact List.cons_ne_nil _ _
    · obtain ⟨y, hy, rfl⟩ := map_at hx
      rw [List.getElem?_map, hy] at hq
      obtain rfl := Option.some.inj hq
      have hA := ((hl y (List.mem_of_getElem? hy)).ext e2).same s3
      obtain ⟨dx, hd⟩ := hA.obj
      exact ⟨_, rfl, y.1, dx, _, rfl, hd, rfl, y.1, y.2.1, y.2.2, rfl, hA, fun H4 p s4 n4 h4 => ⟨p, rfl, h4, s4⟩⟩
    · refine k H2 H3 p ⟨e2, fun _ => t2⟩ s3 n2 ?_
      rw [hp, sort_out l (fun x => V.ref x.1) (fun x => x.2.2.key) 4 (fun _ _ => rfl)]
      rfl
end
end ArW
end
section
set_option Elab.async false
set_option maxRecDepth 100000
set_option maxHeartbeats 4000000
/-! club_rows. -/
namespace ArW
open PySem PySem.Spec PyProof.Rows L2
open Ar (dput down best3 clubRows clubDict)

theorem for_keys {d : Addr} {o : Obj} {kvs : List (Key × V)} {g : TG} {tb : TS} {D : Ends} {σ : L2.St} {H : Hp} (Pv : Nat → L2.St → Hp → Prop) (h0 : Pv 0 σ H) (hl : ∀ i σ H, Pv i σ H → H d = some (.frz o (.dK kvs)))
    (hs : ∀ i k v σ H, kvs[i]? = some (k, v) → Pv i σ H → g (kV k) σ H fun σ2 H2 => tb { D with nx := Pv (i + 1), ct := Pv (i + 1), bk := D.nx } σ2 H2) (hd : ∀ σ H, Pv kvs.length σ H → D.nx σ H) :
    ∃ W : Nat → Nat → L2.St → Hp → Prop, (∃ m, W 0 m σ H) ∧ ∀ i m σ H, W i m σ H →
      ((Itk d o kvs).stop i H ∧ D.nx σ H) ∨ ((Itk d o kvs).go i H ∧ ∃ N : L2.St → Hp → Prop, (∀ σ' H', N σ' H' → ∃ m', m' < m ∧ W (i + 1) m' σ' H') ∧ ∀ x H', (Itk d o kvs).yld i H x H' → g x σ H' fun σ2 H2 => tb { D with nx := N, ct := N, bk := D.nx } σ2 H2) := by
  refine ⟨fun i m σ H => m = kvs.length - i ∧ i ≤ kvs.length ∧ Pv i σ H, ⟨_, rfl, Nat.zero_le _, h0⟩, ?_⟩
  rintro i m σ H ⟨rfl, hi, p⟩
  have hlen := hl i σ H p
  rcases Nat.lt_or_eq_of_le hi with hlt | he
  · refine .inr ⟨⟨hlen, hlt⟩, Pv (i + 1), fun σ' H' p' => ⟨kvs.length - (i + 1), by omega, rfl, hlt, p'⟩, ?_⟩
    rintro x H' ⟨e, k, v, hk, ex⟩
    rw [e, ex]
    exact hs i k v σ H hk p
  · rw [he] at p ⊢
    exact .inl ⟨⟨hlen, Nat.le_refl _⟩, hd σ H p⟩

/-! ### the dict of the clubs: club, the place of its list, the list -/
abbrev DE := List (Int × Addr × List Int)
abbrev deK (de : DE) : List (Key × V) := de.map fun e => ((Sum.inl e.1 : Key), V.ref e.2.1)
abbrev deM (de : DE) : List (Int × List Int) := de.map fun e => (e.1, e.2.2)
def dputA (de : DE) (c : Int) (a : Addr) (p : Int) : DE :=
  if (de.any fun e => decide (e.1 = c)) = true then de.map fun e => if e.1 = c then (e.1, a, e.2.2 ++ [p]) else e else de ++ [(c, a, [p])]
def Uq (de : DE) : Prop := ∀ e ∈ de, ∀ e' ∈ de, e.1 = e'.1 → e = e'
theorem any_key (de : DE) (c : Int) : ((deK de).any fun kv => decide (kv.1 = (Sum.inl c : Key))) = de.any fun e => decide (e.1 = c) := by
  rw [List.any_map]
  congr 1
  funext e
  exact decide_eq_decide.mpr ⟨fun h => Sum.inl.inj h, fun h => congrArg Sum.inl h⟩
theorem put_key (de : DE) (c : Int) (a : Addr) (p : Int) : putK (deK de) (Sum.inl c) (V.ref a) = deK (dputA de c a p) := by
  unfold putK dputA
  rw [any_key]
  split
  · unfold deK
    rw [List.map_map, List.map_map]
    refine List.map_congr_left fun e _ => ?_
    show (if (Sum.inl e.1 : Key) = Sum.inl c then _ else _) = _
    by_cases h : e.1 = c
    · rw [if_pos (congrArg Sum.inl h)]
      show _ = ((Sum.inl (if e.1 = c then (e.1, a, e.2.2 ++ [p]) else e).1 : Key), V.ref (if e.1 = c then (e.1, a, e.2.2 ++ [p]) else e).2.1)
      rw [if_pos h]
    · rw [if_neg (fun z => h (Sum.inl.inj z))]
      show _ = ((Sum.inl (if e.1 = c then (e.1, a, e.2.2 ++ [p]) else e).1 : Key), V.ref (if e.1 = c then (e.1, a, e.2.2 ++ [p]) else e).2.1)
      rw [if_neg h]
  · unfold deK
    rw [List.map_append]
    rfl
theorem put_mod (de : DE) (c : Int) (a : Addr) (p : Int) : deM (dputA de c a p) = dput (deM de) c p := by
  unfold dput dputA
  rw [show ((deM de).any fun e => decide (e.1 = c)) = de.any fun e => decide (e.1 = c) by rw [List.any_map]; rfl]
  split
  · unfold deM
    rw [List.map_map, List.map_map]
    refine List.map_congr_left fun e _ => ?_
    show ((if e.1 = c then (e.1, a, e.2.2 ++ [p]) else e).1, (if e.1 = c then (e.1, a, e.2.2 ++ [p]) else e).2.2) = if e.1 = c then (e.1, e.2.2 ++ [p]) else (e.1, e.2.2)
    by_cases h : e.1 = c
    · rw [if_pos h, if_pos h]
    · rw [if_neg h, if_neg h]
  · unfold deM
    rw [List.map_append]
    rfl
theorem val_key : ∀ (de : DE) (c : Int), valV (deK de) (Sum.inl c : Key) = (de.find? fun e => decide (e.1 = c)).map fun e => V.ref e.2.1
  | [], _ => rfl
  | e :: de, c => by
    by_cases h : e.1 = c
    · rw [List.find?_cons_of_pos (by simpa using h)]
      exact valV_pos (p := ((Sum.inl e.1 : Key), V.ref e.2.1)) (congrArg Sum.inl h)
    · rw [List.find?_cons_of_neg (by simpa using h), ← val_key de c]
      exact valV_neg (p := ((Sum.inl e.1 : Key), V.ref e.2.1)) fun z => h (Sum.inl.inj z)
theorem any_find (de : DE) (c : Int) : (de.any fun e => decide (e.1 = c)) = (de.find? fun e => decide (e.1 = c)).isSome := by
  rw [Bool.eq_iff_iff, List.find?_isSome, List.any_eq_true]
theorem put_mem {de : DE} {c : Int} {a : Addr} {p : Int} {e : Int × Addr × List Int} (h : e ∈ dputA de c a p) : (e ∈ de ∧ e.1 ≠ c) ∨ (e = (c, a, [p]) ∧ (de.find? fun e => decide (e.1 = c)) = none) ∨ ∃ e0 ∈ de, e0.1 = c ∧ e = (c, a, e0.2.2 ++ [p]) := by
  unfold dputA at h
  split at h
  · obtain ⟨e0, h0, h1⟩ := List.mem_map.mp h
    by_cases hc : e0.1 = c
    · rw [if_pos hc] at h1
      exact .inr (.inr ⟨e0, h0, hc, by rw [← h1, hc]⟩)
    · rw [if_neg hc] at h1
      exact .inl ⟨h1 ▸ h0, h1 ▸ hc⟩
  · rename_i hn
    rw [any_find] at hn
    have hf : (de.find? fun e => decide (e.1 = c)) = none := by
      cases q : de.find? fun e => decide (e.1 = c) with
      | none => rfl
      | some x => rw [q] at hn; exact absurd rfl hn
    rcases List.mem_append.mp h with h | h
    · exact .inl ⟨h, fun z => by
        have := List.find?_eq_none.mp hf e h
        simp [z] at this⟩
    · exact .inr (.inl ⟨List.mem_singleton.mp h, hf⟩)
theorem uq_nil : Uq [] := fun _ h => absurd h List.not_mem_nil
theorem Uq.put {de : DE} (u : Uq de) (c : Int) (a : Addr) (p : Int) : Uq (dputA de c a p) := by
  intro e he e' he' hee
  rcases put_mem he with ⟨h1, h2⟩ | ⟨h1, h2⟩ | ⟨e0, h1, h2, h3⟩ <;> rcases put_mem he' with ⟨h1', h2'⟩ | ⟨h1', h2'⟩ | ⟨e0', h1', h2', h3'⟩
  · exact u e h1 e' h1' hee
  · exact absurd (by rw [hee, h1']) h2
  · exact absurd (by rw [hee, h3']) h2
  · exact absurd (by rw [← hee, h1]) h2'
  · rw [h1, h1']
  · have := List.find?_eq_none.mp h2 e0' h1'
    simp [h2'] at this
  · exact absurd (by rw [← hee, h3]) h2'
  · have := List.find?_eq_none.mp h2' e0 h1
    simp [h2] at this
  · rw [h3, h3', u e0 h1 e0' h1' (by rw [h2, h2'])]
theorem put_len (de : DE) (c : Int) (a : Addr) (p : Int) : (dputA de c a p).length ≤ de.length + 1 := by
  unfold dputA
  split
  · rw [List.length_map]
    exact Nat.le_succ _
  · rw [List.length_append]
    exact Nat.le_refl _

abbrev sClubs : Stmt := top 9
abbrev nClubs : List Str := ["archers", "clubs", "archer", "rows", "club", "best"]
theorem scClubs : FnScope nClubs ["archers"] (defScope sClubs) := ⟨rfl, rfl, rfl, by decide +kernel, rfl, by decide +kernel, by decide +kernel⟩
theorem Uq.find {de : DE} (u : Uq de) {e : Int × Addr × List Int} (he : e ∈ de) : (de.find? fun x => decide (x.1 = e.1)) = some e := by
  cases q : de.find? fun x => decide (x.1 = e.1) with
  | none =>
    have := List.find?_eq_none.mp q e he
    simp at this
  | some x => rw [u x (List.mem_of_find?_eq_some q) e he (of_decide_eq_true (List.find?_some (p := fun x : Int × Addr × List Int => decide (x.1 = e.1)) q))]
def rowsD (de : DE) : List (Int × Int) := ((deM de).filter fun e => decide (3 ≤ e.2.length)).map fun e => (e.1, best3 e.2)
theorem rowsD_t {de : DE} {i : Nat} {e : Int × Addr × List Int} (h : de[i]? = some e) (hp : 3 ≤ e.2.2.length) : rowsD (de.take (i + 1)) = rowsD (de.take i) ++ [(e.1, best3 e.2.2)] := by
  unfold rowsD deM
  rw [take_map _ h, List.filter_append, List.map_append, List.filter_cons, if_pos (by simpa using hp)]
  rfl
theorem rowsD_f {de : DE} {i : Nat} {e : Int × Addr × List Int} (h : de[i]? = some e) (hp : ¬ 3 ≤ e.2.2.length) : rowsD (de.take (i + 1)) = rowsD (de.take i) := by
  unfold rowsD deM
  rw [take_map _ h, List.filter_append, List.map_append, List.filter_cons, if_neg (by simpa using hp), List.filter_nil, List.map_nil, List.append_nil]
theorem cut_three (l : List Int) : cutV (ivs l) none (some 3) = ivs (l.take 3) := by
  unfold cutV ivs
  rw [HT.sIx_none, show (some (3 : Int)) = some ((3 : Nat) : Int) from rfl, HT.sIx_nat, List.drop_zero, List.length_map, Nat.sub_zero, List.map_take]
  rw [← List.map_take, ← List.map_take]
  congr 1
  rcases Nat.le_total 3 l.length with h | h
  · rw [Nat.min_eq_left h]
  · rw [Nat.min_eq_right h, List.take_length, List.take_of_length_le h]
/-- the rows' lists stand at the addresses rs -/
def RowsAt (H : Hp) (rs : List Addr) (rows : List (Int × Int)) : Prop := rs.length = rows.length ∧ ∀ (i : Nat) (a : Addr) (r : Int × Int), rs[i]? = some a → rows[i]? = some r → H a = some (.lst [.int r.1, .int r.2])
theorem RowsAt.same {H H' : Hp} {rs : List Addr} {rows : List (Int × Int)} (h : RowsAt H rs rows) (s : Same H H') : RowsAt H' rs rows := ⟨h.1, fun i a r h1 h2 => s _ _ (h.2 i a r h1 h2)⟩
theorem RowsAt.snoc {H : Hp} {rs : List Addr} {rows : List (Int × Int)} {a : Addr} {r : Int × Int} (h : RowsAt H rs rows) (ha : H a = some (.lst [.int r.1, .int r.2])) : RowsAt H (rs ++ [a]) (rows ++ [r]) := by
  obtain ⟨h1, h2⟩ := h
  refine ⟨by rw [List.length_append, List.length_append, h1]; rfl, fun i b q e1 e2 => ?_⟩
  by_cases hi : i < rs.length
  · rw [List.getElem?_append_left hi] at e1
    rw [List.getElem?_append_left (by omega)] at e2
    exact h2 i b q e1 e2
  · rw [List.getElem?_append_right (by omega)] at e1
    rw [List.getElem?_append_right (by omega), ← h1] at e2
    cases hk : i - rs.length with
    | zero =>
      rw [hk] at e1 e2
      cases e1
      cases e2
      exact ha
    | succ k =>
      rw [hk] at e1
      simp at e1
def spClubs (C : Addr) : Sp := fun vs H Q _ => ∃ (a : Addr) (l : AL), vs = [.ref a] ∧ H a = some (.lst (arefs l)) ∧ AllAt C H l ∧ l.length ≤ 40 ∧ ∀ H' p rs, Same H H' → H p = none → H' p = some (.lst (rs.map V.ref)) → RowsAt H' rs (clubRows (amods l)) → Q (.ref p) H'
section
variable {P : Program} {w : World} {K : PySem.W.Frag} {mg : Str → Option Value} {base : Heap} {f C : Addr} {fd : FuncData} {T : List (Addr × Str)}
theorem ok_clubs (F : FnP K "club_rows" "club_rows" sClubs f fd) (c : CA K C) (B : TB mg) (GP : MF P w K mg base C "points" 3 ["self"] (spARead C Ar.A.points)) : FnOk P w K mg base CX0 4 f fd ["archers"] (spClubs C) := by
  refine fn_ok F scClubs (fun vs H Q E h => ?_) (fun cdv A outer s H vs Q E hr h => ?_)
  · obtain ⟨a, l, rfl, _⟩ := h
    rfl
  · obtain ⟨a, l, rfl, ha, hl, hlen, k⟩ := h
    have hu := hu_of hr
    refine ⟨_, pss_cons (ps_set (i := 1) scClubs.nd rfl (.inl rfl) pe_dnewK) (pss_cons (ps_for PassesOwn.never rfl (pi_list (pv 0)) (pg_name (i := 2) scClubs.nd rfl (Or.inl rfl))
      (pss_one (ps_dput hu (pv 1) (pe_fld (pv 2) rfl) (pe_op op_cat (pe_dget2 hu (pv 1) (pe_fld (pv 2) rfl) (pe_lst pa_nil) ⟨by rfl, by rfl, by rfl, by rfl⟩) (pe_lst (pa_cons (pe_m0 (X := _) GP c.cl hr (by decide) (pv 2)) pa_nil))) (by rfl))))
      (pss_cons (ps_set (i := 3) scClubs.nd rfl (.inl rfl) (pe_lst pa_nil)) (pss_cons (ps_lock (ps_for PassesOwn.never rfl (pi_keys (pv 1)) (pg_name (i := 4) scClubs.nd rfl (Or.inl rfl))
      (pss_one (ps_if (pt_cmpR op_ge (pe_callB call_len_seq (by rfl) B.len PySem.boot_len (pa_cons (pe_dget hu (pv 1) (pv 4) (fun _ _ => rfl)) pa_nil)) (pe_kI B.BEST rfl) (nomark _))
        (pss_cons (ps_set (i := 5) scClubs.nd rfl (.inl rfl) (pe_slice sl_list (pe_callBK (cr_sortedRev (b := true)) (by rfl) B.sorted (by decide +kernel) (pa_cons (pe_dget hu (pv 1) (pv 4) (fun _ _ => rfl)) pa_nil) (pk_cons pe_bl pk_nil)) po_none (po_some (pe_kI B.BEST rfl))))
        (pss_one (ps_expr (pe_bm PySem.F.plainAttrs_list PySem.F.slot_list_append PySem.F.type_list_append mt_append (pv 3) (pa_cons (pe_lst (pa_cons (pv 4) (pa_cons (pe_callB (cr_sum rfl) (by rfl) B.sum (by decide +kernel) (pa_cons (pv 5) pa_nil)) pa_nil))) pa_nil))))) pss_nil))))
      (pss_one (ps_ret (pv 3)))))), ?_⟩
    intro D hD
    refine ⟨_, rfl, a, rfl, ⟨arefs l, SqL.of (by rw [upd_ne (ne_of_none ha hD)]; exact ha)⟩, for_list (xs := arefs l) (fun i σ H' => ∃ x de, σ = [some (.ref a), some (.ref D), x, none, none, none] ∧ Same H H' ∧ H' D = some (.dK (deK de)) ∧ deM de = clubDict (amods (l.take i)) ∧ Uq de ∧
      (∀ e ∈ de, H' e.2.1 = some (.lst (ivs e.2.2))) ∧ de.length ≤ i ∧ ∀ e ∈ de, e.2.2.length ≤ i) ⟨none, [], rfl, Same.upd hD, upd_same, rfl, uq_nil, fun _ h => absurd h List.not_mem_nil, Nat.le_refl _, fun _ h => absurd h List.not_mem_nil⟩
      (fun i σ H' _ ⟨x, de, _, s', _⟩ => SqL.of (s' _ _ ha)) (fun i x σ H1 hx ⟨x0, de, es, s1, hd1, hm1, u1, al1, le1, ll1⟩ => ?_) fun σ H1 ⟨x0, de, es, s1, hd1, hm1, u1, al1, le1, ll1⟩ => ?_⟩
    · obtain ⟨y, hy, rfl⟩ := map_at hx
      have hi : i < l.length := (List.getElem?_eq_some_iff.mp hy).1
      have hA := hl y (List.mem_of_getElem? hy)
      obtain ⟨dx, ho⟩ := hA.obj
      subst es
      refine ⟨_, rfl, D, rfl, .inl ⟨deK de, .inl hd1⟩, _, rfl, y.1, C, dx, _, _, rfl, s1 _ _ ho, c.cl, c.club, rfl, Nat.zero_le _, fun p hp => ?_⟩
      have sp : Same H1 (upd H1 p (.lst [])) := Same.upd hp
      refine ⟨_, DGet.k (k := Sum.inl y.2.2.club) (sp _ _ hd1), ?_⟩
      rw [val_key]
      refine ⟨_, rfl, y.1, dx, _, rfl, sp _ _ (s1 _ _ ho), rfl, y.1, y.2.1, y.2.2, rfl, (hA.same s1).same sp, fun H2 s2 => ⟨by show 1 ≤ sizeLine; decide, fun p2 hp2 => ?_⟩⟩
      have s12 : Same H1 (upd H2 p2 (.lst [.int y.2.2.points])) := (sp.trans s2).trans (Same.upd hp2)
      -- the list that was found, or the new one
      have found : ∃ q xs, (((de.find? fun e => decide (e.1 = y.2.2.club)).map fun e => V.ref e.2.1).getD (.ref p)) = .ref q ∧ upd H2 p2 (.lst [.int y.2.2.points]) q = some (.lst (ivs xs)) ∧ xs.length ≤ i ∧
          (∀ e0 ∈ de, e0.1 = y.2.2.club → e0.2.2 = xs) ∧ ((de.find? fun e => decide (e.1 = y.2.2.club)) = none → xs = []) := by
        cases q : de.find? fun e => decide (e.1 = y.2.2.club) with
        | none =>
          refine ⟨p, [], rfl, (s2.trans (Same.upd hp2)) _ _ upd_same, Nat.zero_le _, fun e0 h0 hc => ?_, fun _ => rfl⟩
          have := List.find?_eq_none.mp q e0 h0
          simp [hc] at this
        | some e =>
          have he := List.mem_of_find?_eq_some q
          have hk : e.1 = y.2.2.club := of_decide_eq_true (List.find?_some (p := fun e : Int × Addr × List Int => decide (e.1 = y.2.2.club)) q)
          exact ⟨e.2.1, e.2.2, rfl, s12 _ _ (al1 e he), ll1 e he, fun e0 h0 hc => by rw [u1 e0 h0 e he (by rw [hc, hk])], fun z => by cases z⟩
      obtain ⟨q, xs, eq, hq, xl, hxs, hnew⟩ := found
      rw [eq]
      refine ⟨q, p2, ivs xs, [.int y.2.2.points], rfl, rfl, hq, upd_same, ?_, fun p3 hp3 => ?_⟩
      · rw [ivs_length]
        exact Nat.le_of_lt (small (n := xs.length + 1) (m := 1000) (by omega))
      · have s3 := s12.trans (Same.upd (o := .lst (ivs xs ++ [V.int y.2.2.points])) hp3)
        refine ⟨_, rfl, _, rfl, y.1, C, dx, _, _, rfl, s3 _ _ (s1 _ _ ho), c.cl, c.club, rfl, D, _, rfl, DPut.k (k := Sum.inl y.2.2.club) (s3 _ _ hd1) ?_, ?_⟩
        · rw [List.length_map]
          exact small (m := 1000) (by omega)
        · rw [put_key de _ p3 y.2.2.points]
          refine ⟨_, dputA de y.2.2.club p3 y.2.2.points, rfl, fun b o e => ?_, upd_same, ?_, u1.put _ _ _, fun e he => ?_, Nat.le_trans (put_len ..) (Nat.succ_le_succ le1), fun e he => ?_⟩
          · rw [upd_ne (ne_of_none e hD)]
            exact s3 _ _ (s1 _ _ e)
          · rw [put_mod, hm1]
            unfold amods clubDict
            rw [take_map _ hy, List.foldl_append]
            rfl
          · have e1 : ivs xs ++ [V.int y.2.2.points] = ivs (xs ++ [y.2.2.points]) := (ivs_snoc xs _).symm
            have hp3' : upd (upd H2 p2 (.lst [.int y.2.2.points])) p3 (.lst (ivs xs ++ [V.int y.2.2.points])) p3 = some (.lst (ivs (xs ++ [y.2.2.points]))) := by rw [upd_same, e1]
            have st : ∀ b ys, (upd (upd H2 p2 (.lst [.int y.2.2.points])) p3 (.lst (ivs xs ++ [V.int y.2.2.points]))) b = some (.lst ys) → upd (upd (upd H2 p2 (.lst [.int y.2.2.points])) p3 (.lst (ivs xs ++ [V.int y.2.2.points]))) D (.dK (deK (dputA de y.2.2.club p3 y.2.2.points))) b = some (.lst ys) := fun b ys h => by
              rw [upd_ne (ne_of h (s3 _ _ hd1) (by intro z; cases z))]
              exact h
            refine st _ _ ?_
            rcases put_mem he with ⟨h1, h2⟩ | ⟨h1, h2⟩ | ⟨e0, h1, h2, h3⟩
            · exact s3 _ _ (al1 e h1)
            · rw [h1]
              rw [hp3', hnew h2]
              rfl
            · rw [h3]
              rw [hp3', hxs e0 h1 h2]
          · rcases put_mem he with ⟨h1, h2⟩ | ⟨h1, h2⟩ | ⟨e0, h1, h2, h3⟩
            · exact Nat.le_succ_of_le (ll1 e h1)
            · rw [h1]
              exact Nat.le_add_left _ _
            · rw [h3]
              show (e0.2.2 ++ [_]).length ≤ i + 1
              rw [List.length_append]
              exact Nat.succ_le_succ (ll1 e0 h1)
    · rw [List.length_map, List.take_length] at hm1
      rw [List.length_map] at le1 ll1
      subst es
      refine ⟨Nat.zero_le _, fun R hR => ?_⟩
      have nDR : D ≠ R := ne_of_none hd1 hR
      have hH1 : ∀ b o, H1 b = some o → upd H1 R (.lst []) b = some o := Same.upd hR
      refine ⟨D, .dK (deK de), hH1 _ _ hd1, trivial, fun od => ⟨_, rfl, D, od, rfl, .inl ⟨deK de, upd_same, for_keys (fun i σ H' => ∃ x4 x5 rs, σ = [some (.ref a), some (.ref D), x0, some (.ref R), x4, x5] ∧ (∀ b o, H1 b = some o → b ≠ D → H' b = some o) ∧ H' D = some (.frz od (.dK (deK de))) ∧
        H' R = some (.lst (rs.map V.ref)) ∧ RowsAt H' rs (rowsD (de.take i)) ∧ rs.length ≤ i) ⟨none, none, [], rfl, fun b o e hb => ?_, upd_same, ?_, ⟨rfl, fun i a r h => by simp at h⟩, Nat.le_refl _⟩ (fun i σ H' ⟨_, _, _, _, _, h, _⟩ => h) (fun i kk v σ H2 hx ⟨x4, x5, rs, es, s2, hd2, hr2, rw2, rl2⟩ => ?_)
        fun σ H2 ⟨x4, x5, rs, es, s2, hd2, hr2, rw2, rl2⟩ => ?_⟩⟩⟩
      · rw [upd_ne hb]
        exact hH1 _ _ e
      · rw [upd_ne (Ne.symm nDR)]
        exact upd_same
      · obtain ⟨e, he, hk⟩ : ∃ e, de[i]? = some e ∧ (kk, v) = ((Sum.inl e.1 : Key), V.ref e.2.1) := by
          rw [List.getElem?_map] at hx
          cases q : de[i]? with
          | none => rw [q] at hx; cases hx
          | some e => rw [q] at hx; exact ⟨e, rfl, (Option.some.inj hx).symm⟩
        cases hk
        subst es
        have hm := List.mem_of_getElem? he
        have hil : i < de.length := (List.getElem?_eq_some_iff.mp he).1
        have dg : ∀ {H'}, H' D = some (.frz od (.dK (deK de))) → DGet H' D (.int e.1) (some (.ref e.2.1)) := fun h => .inl ⟨deK de, Sum.inl e.1, .inr ⟨od, h⟩, rfl, by rw [val_key, u1.find hm]; rfl⟩
        have neD : e.2.1 ≠ D := ne_of (al1 e hm) hd1 (by intro z; cases z)
        have hE := s2 _ _ (al1 e hm) neD
        refine ⟨_, rfl, _, rfl, D, _, rfl, dg hd2, _, _, rfl, .inl (SqL.of hE), _, _, rfl, rfl, _, rfl, ?_⟩
        rw [ivs_length]
        by_cases c3 : (3 : Int) ≤ (e.2.2.length : Nat)
        · rw [decide_eq_true c3]
          refine iteT ?_
          refine ⟨_, rfl, _, rfl, D, _, rfl, dg hd2, e.2.1, e.2.2, rfl, rfl, SqL.of hE, fun ns p hp ho hpn => ?_⟩
          refine ⟨_, rfl, p, _, rfl, SqL.of upd_same, fun p2 hp2 => ?_⟩
          have s3 : Same H2 (upd (upd H2 p (.lst (ns.map V.int))) p2 (.lst (cutV (ivs ns) none (some 3)))) := (Same.upd hpn).trans (Same.upd hp2)
          refine ⟨_, rfl, .inl ⟨rfl, _, SqL.of (s3 _ _ hr2)⟩, _, rfl, _, rfl, p2, ns.take 3, rfl, SqL.of (by rw [upd_same, cut_three]), by show 2 ≤ sizeLine; decide, fun p3 hp3 => ?_⟩
          have s4 := s3.trans (Same.upd (o := .lst [V.int e.1, V.int (ns.take 3).sum]) hp3)
          refine ⟨R, _, _, rfl, rfl, s4 _ _ hr2, ?_, _, _, rs ++ [p3], rfl, fun b o eb hb => ?_, ?_, ?_, ?_, ?_⟩
          · rw [List.length_map]
            exact small (m := 1000) (by omega)
          · have hb2 : b ≠ R := ne_of_none eb hR
            rw [upd_ne hb2]
            exact s4 _ _ (s2 _ _ eb hb)
          · rw [upd_ne nDR]
            exact s4 _ _ hd2
          · rw [upd_same, List.map_append]
            rfl
          · have hrow : (e.1, (ns.take 3).sum) = (e.1, best3 e.2.2) := by
              have e1 : ns = down e.2.2 := Ar.down_is hp ho
              rw [e1]
              rfl
            have n3 : p3 ≠ R := fun z => by
              have := s3 _ _ hr2
              rw [← z, hp3] at this
              cases this
            rw [rowsD_t he (by omega)]
            refine RowsAt.snoc ⟨rw2.1, fun j q r h1 h2 => ?_⟩ ?_
            · have h := rw2.2 j q r h1 h2
              have nq : q ≠ R := fun z => by
                rw [z, hr2] at h
                cases rs with
                | nil => cases h
                | cons => cases h
              rw [upd_ne nq]
              exact s4 _ _ h
            · rw [upd_ne n3, upd_same, ← hrow]
              rfl
          · rw [List.length_append]
            exact Nat.succ_le_succ rl2
        · rw [decide_eq_false c3]
          exact iteF ⟨_, x5, rs, rfl, s2, hd2, hr2, by rw [rowsD_f he (by omega)]; exact rw2, Nat.le_succ_of_le rl2⟩
      · rw [List.length_map, List.take_length] at rw2
        subst es
        refine ⟨hd2, _, rfl, k _ R rs (fun b o e => ?_) ?_ ?_ ⟨?_, fun j q r h1 h2 => ?_⟩⟩
        · rw [upd_ne (ne_of_none e hD)]
          exact s2 _ _ (s1 _ _ e) (ne_of_none e hD)
        · exact s1.free hR
        · rw [upd_ne (Ne.symm nDR)]
          exact hr2
        · rw [rw2.1]
          unfold rowsD
          rw [hm1]
          rfl
        · have e2 : rowsD de = clubRows (amods l) := by
            unfold rowsD
            rw [hm1]
            rfl
          have h := rw2.2 j q r h1 (by rw [e2]; exact h2)
          rw [upd_ne (ne_of h hd2 (by intro z; cases z))]
          exact h
end
end ArW
end
section
set_option Elab.async false
set_option maxRecDepth 100000
set_option maxHeartbeats 4000000
/-! Match, set_points. -/
namespace ArW
open PySem PySem.Spec PyProof.Rows L2

abbrev sM (i : Nat) : Stmt := inClass (top 14) i
theorem scMInit : FnScope ["self", "first", "second", "by_sets"] ["self", "first", "second", "by_sets"] (defScope (sM 0)) := ⟨rfl, rfl, rfl, by decide +kernel, rfl, by decide +kernel, by decide +kernel⟩
theorem scM1 : FnScope ["self"] ["self"] (defScope (sM 1)) := ⟨rfl, rfl, rfl, by decide +kernel, rfl, by decide +kernel, by decide +kernel⟩
theorem scM2 : FnScope ["self"] ["self"] (defScope (sM 2)) := ⟨rfl, rfl, rfl, by decide +kernel, rfl, by decide +kernel, by decide +kernel⟩
theorem scM3 : FnScope ["self"] ["self"] (defScope (sM 3)) := ⟨rfl, rfl, rfl, by decide +kernel, rfl, by decide +kernel, by decide +kernel⟩
theorem scM4 : FnScope ["self", "archer"] ["self", "archer"] (defScope (sM 4)) := ⟨rfl, rfl, rfl, by decide +kernel, rfl, by decide +kernel, by decide +kernel⟩
theorem scM5 : FnScope ["self", "archer"] ["self", "archer"] (defScope (sM 5)) := ⟨rfl, rfl, rfl, by decide +kernel, rfl, by decide +kernel, by decide +kernel⟩
theorem scM6 : FnScope ["self", "first_arrows", "second_arrows", "left", "right"] ["self", "first_arrows", "second_arrows"] (defScope (sM 6)) := ⟨rfl, rfl, rfl, by decide +kernel, rfl, by decide +kernel, by decide +kernel⟩
theorem scM7 : FnScope ["self", "left", "right", "nearer", "difference"] ["self", "left", "right", "nearer"] (defScope (sM 7)) := ⟨rfl, rfl, rfl, by decide +kernel, rfl, by decide +kernel, by decide +kernel⟩
theorem scM8 : FnScope ["self", "difference"] ["self", "difference"] (defScope (sM 8)) := ⟨rfl, rfl, rfl, by decide +kernel, rfl, by decide +kernel, by decide +kernel⟩
theorem scM9 : FnScope ["self"] ["self"] (defScope (sM 9)) := ⟨rfl, rfl, rfl, by decide +kernel, rfl, by decide +kernel, by decide +kernel⟩
theorem scSetP : FnScope ["left", "right"] ["left", "right"] (defScope (top 15)) := ⟨rfl, rfl, rfl, by decide +kernel, rfl, by decide +kernel, by decide +kernel⟩
/-- the class's own facts -/
structure CM (K : PySem.W.Frag) (C : Addr) : Prop where
  cl : Cls K C
  first : NoAttr K C "first"
  second : NoAttr K C "second"
  sets : NoAttr K C "by_sets"
  scores : NoAttr K C "scores"
  ends : NoAttr K C "ends_shot"
  winner : NoAttr K C "winner"
def mF (m : Ar.M) (sc : Addr) : List (Str × V) := [("first", .int m.first), ("second", .int m.second), ("by_sets", .bl m.sets), ("scores", .ref sc), ("ends_shot", .int m.ends), ("winner", .int m.winner)]
/-- the match m stands at a, its scores at sc -/
structure MatchAt (C : Addr) (H : Hp) (a sc : Addr) (m : Ar.M) : Prop where
  obj : ∃ dx, H a = some (.ins C dx (mF m sc))
  lst : H sc = some (.lst (ivs [m.s0, m.s1]))
theorem MatchAt.ext {C : Addr} {H H' : Hp} {a sc : Addr} {m : Ar.M} (h : MatchAt C H a sc m) (s : LamX.ExtN H H') : MatchAt C H' a sc m := by
  obtain ⟨⟨dx, h1⟩, h2⟩ := h
  exact ⟨⟨dx, s _ _ h1 ins_tbl⟩, s _ _ h2 lst_tbl⟩
theorem MatchAt.same {C : Addr} {H H' : Hp} {a sc : Addr} {m : Ar.M} (h : MatchAt C H a sc m) (s : Same H H') : MatchAt C H' a sc m := h.ext (LamX.ExtN.of s)
theorem dI {i j : Int} : decide (V.int i = V.int j) = decide (i = j) := decide_eq_decide.mpr ⟨fun h => V.int.inj h, fun h => by rw [h]⟩
/-- all stays but what stands at a -/
def But (a : Addr) (H H' : Hp) : Prop := ∀ b o, H b = some o → b ≠ a → H' b = some o
theorem But.same {a : Addr} {H H1 H2 : Hp} (h : But a H H1) (s : Same H1 H2) : But a H H2 := fun b o e n => s _ _ (h b o e n)
theorem Same.but {a : Addr} {H H1 H2 : Hp} (s : Same H H1) (h : But a H1 H2) : But a H H2 := fun b o e n => h b o (s _ _ e) n
theorem But.trans {a : Addr} {H H1 H2 : Hp} (h : But a H H1) (h' : But a H1 H2) : But a H H2 := fun b o e n => h' b o (h b o e n) n
theorem But.upd (a : Addr) (o' : HO) (H : Hp) : But a H (L2.upd H a o') := fun b o e n => by rw [upd_ne n]; exact e
def spMInit (C : Addr) : Sp := fun vs H Q _ => ∃ (p dx : Addr) (x y : Int) (z : Bool), vs = [.ref p, .int x, .int y, .bl z] ∧ H p = some (.ins C dx []) ∧
  ∀ (H' : Hp) (sc : Addr), MatchAt C H' p sc (Ar.M.new x y z) → But p H H' → H sc = none → Q .non H'
def spMRead (C : Addr) (g : Ar.M → V) : Sp := fun vs H Q _ => ∃ (a sc : Addr) (m : Ar.M), vs = [.ref a] ∧ MatchAt C H a sc m ∧ Q (g m) H
def spMRead1 (C : Addr) (g : Ar.M → Int → V) : Sp := fun vs H Q _ => ∃ (a sc : Addr) (m : Ar.M) (i : Int), vs = [.ref a, .int i] ∧ MatchAt C H a sc m ∧ Q (g m i) H
def spMState (C : Addr) : Sp := fun vs H Q _ => ∃ (a sc : Addr) (m : Ar.M), vs = [.ref a] ∧ MatchAt C H a sc m ∧ ∀ H' p, Same H H' → H p = none → H' p = some (.lst (ivs m.state)) → Q (.ref p) H'
def spMDecide (C : Addr) : Sp := fun vs H Q _ => ∃ (a sc : Addr) (m : Ar.M) (d : Int), vs = [.ref a, .int d] ∧ MatchAt C H a sc m ∧ ∀ H', MatchAt C H' a sc (m.decide_ d) → But a H H' → Q .non H'
def spMShoot (K : PySem.W.Frag) (C : Addr) : Sp := fun vs H Q _ => ∃ (a sc x y : Addr) (m : Ar.M) (l r : List Int), vs = [.ref a, .ref x, .ref y] ∧ MatchAt C H a sc m ∧ SqL K H x (ivs l) ∧ SqL K H y (ivs r) ∧ l.length ≤ 1000 ∧ r.length ≤ 1000 ∧
  ∀ H' sc', MatchAt C H' a sc' (m.shoot l r) → But a H H' → H sc' = none → Q .non H'
def spMOff (C : Addr) : Sp := fun vs H Q _ => ∃ (a sc : Addr) (m : Ar.M) (l r n : Int), vs = [.ref a, .int l, .int r, .int n] ∧ MatchAt C H a sc m ∧ ∀ H', MatchAt C H' a sc (m.shootOff l r n) → But a H H' → Q .non H'
def spSetP : Sp := fun vs H Q _ => ∃ l r : Int, vs = [.int l, .int r] ∧ ∀ H' p, Same H H' → H p = none → H' p = some (.tup [.int (Ar.setPts l r).1, .int (Ar.setPts l r).2]) → Q (.ref p) H'
section
variable {P : Program} {w : World} {K : PySem.W.Frag} {mg : Str → Option Value} {base : Heap} {f C : Addr} {fd : FuncData}
theorem ok_minit (F : FnP K "__init__" "Match.__init__" (sM 0) f fd) (c : CM K C) (B : TB mg) : FnOk P w K mg base CX0 1 f fd ["self", "first", "second", "by_sets"] (spMInit C) := by
  refine fn_ok F scMInit (fun vs H Q E h => ?_) (fun cdv A outer s H vs Q E hr h => ?_)
  · obtain ⟨p, dx, x, y, z, rfl, _⟩ := h
    rfl
  · obtain ⟨p, dx, x, y, z, rfl, hp, k⟩ := h
    refine ⟨_, pss_cons (ps_fld (pv 0) (pv 1) rfl) (pss_cons (ps_fld (pv 0) (pv 2) rfl) (pss_cons (ps_fld (pv 0) (pv 3) rfl) (pss_cons (ps_fld (pv 0) (pe_lst (pa_cons pe_int (pa_cons pe_int pa_nil))) rfl) (pss_cons (ps_fld (pv 0) pe_int rfl)
      (pss_cons (ps_fld (pv 0) (pe_kI B.NOBODY rfl) rfl) (pss_one (ps_if (pt_cmpR op_eq (pv 1) (pe_kI B.NOBODY rfl) (nomark _)) (pss_one (ps_fld (pv 0) (pv 2) rfl)) (pss_one (ps_if (pt_cmpR op_eq (pv 2) (pe_kI B.NOBODY rfl) (nomark _)) (pss_one (ps_fld (pv 0) (pv 1) rfl)) pss_nil))))))))), ?_⟩
    refine ⟨_, rfl, _, rfl, p, C, dx, _, rfl, hp, c.cl, c.first, (by show 0 < 1000; decide), ?_⟩
    refine ⟨_, rfl, _, rfl, p, C, dx, _, rfl, upd_same, c.cl, c.second, (by show 1 < 1000; decide), ?_⟩
    refine ⟨_, rfl, _, rfl, p, C, dx, _, rfl, upd_same, c.cl, c.sets, (by show 2 < 1000; decide), ?_⟩
    refine ⟨by show 2 ≤ sizeLine; decide, fun l hl => ?_⟩
    rw [upd_upd, upd_upd] at hl
    have npl : p ≠ l := fun e => by rw [e, upd_same] at hl; cases hl
    have hl0 : H l = none := by rw [upd_ne (Ne.symm npl)] at hl; exact hl
    refine ⟨_, rfl, p, C, dx, _, rfl, by rw [upd_ne npl]; exact upd_same, c.cl, c.scores, (by show 3 < 1000; decide), ?_⟩
    refine ⟨_, rfl, p, C, dx, _, rfl, upd_same, c.cl, c.ends, (by show 4 < 1000; decide), ?_⟩
    refine ⟨_, rfl, p, C, dx, _, rfl, upd_same, c.cl, c.winner, (by show 5 < 1000; decide), ?_⟩
    refine ⟨_, rfl, rfl, _, rfl, ?_⟩
    rw [dI]
    generalize hG : L2.upd _ p _ = G
    have g1 : G p = some (.ins C dx (mF ⟨x, y, z, 0, 0, 0, -1⟩ l)) := by
      rw [← hG, upd_same]
      rfl
    have g2 : G l = some (.lst (ivs [0, 0])) := by
      rw [← hG, upd_ne (Ne.symm npl), upd_ne (Ne.symm npl), upd_ne (Ne.symm npl), upd_same]
      rfl
    have g3 : But p H G := fun b o e n => by
      rw [← hG, upd_ne n, upd_ne n, upd_ne n, upd_ne (ne_of_none e hl0), upd_ne n, upd_ne n, upd_ne n]
      exact e
    have g4 : ∀ o, L2.upd G p o l = some (.lst (ivs [0, 0])) := fun o => by
      rw [upd_ne (Ne.symm npl)]
      exact g2
    by_cases c1 : x = -1
    · rw [decide_eq_true c1]
      refine iteT ⟨_, rfl, _, rfl, p, C, dx, _, rfl, g1, c.cl, c.winner, (by show 6 < 1000; decide), k _ l ⟨⟨dx, ?_⟩, ?_⟩ (g3.trans (But.upd _ _ _)) hl0⟩
      · rw [upd_same]
        unfold Ar.M.new
        rw [if_pos c1]
        rfl
      · unfold Ar.M.new
        exact g4 _
    · rw [decide_eq_false c1]
      refine iteF ⟨_, rfl, rfl, _, rfl, ?_⟩
      rw [dI]
      by_cases c2 : y = -1
      · rw [decide_eq_true c2]
        refine iteT ⟨_, rfl, _, rfl, p, C, dx, _, rfl, g1, c.cl, c.winner, (by show 6 < 1000; decide), k _ l ⟨⟨dx, ?_⟩, ?_⟩ (g3.trans (But.upd _ _ _)) hl0⟩
        · rw [upd_same]
          unfold Ar.M.new
          rw [if_neg c1, if_pos c2]
          rfl
        · unfold Ar.M.new
          exact g4 _
      · rw [decide_eq_false c2]
        refine iteF (k _ l ⟨⟨dx, ?_⟩, ?_⟩ g3 hl0)
        · rw [g1]
          unfold Ar.M.new
          rw [if_neg c1, if_neg c2]
        · unfold Ar.M.new
          exact g2
theorem ok_mwon (F : FnP K "is_won" "Match.is_won" (sM 1) f fd) (c : CM K C) (B : TB mg) : FnOk P w K mg base CX0 1 f fd ["self"] (spMRead C fun m => .bl m.won) := by
  refine fn_ok F scM1 (fun vs H Q E h => ?_) (fun cdv A outer s H vs Q E hr h => ?_)
  · obtain ⟨a, sc, m, rfl, _⟩ := h
    rfl
  · obtain ⟨a, sc, m, rfl, ⟨⟨dx, ho⟩, hl⟩, k⟩ := h
    refine ⟨_, pss_one (ps_ret (pe_cmpR op_ne (pe_fld (pv 0) rfl) (pe_kI B.NOBODY rfl) (nomark _))), ?_⟩
    refine ⟨_, rfl, a, C, dx, _, _, rfl, ho, c.cl, c.winner, rfl, rfl, ?_⟩
    rw [dI]
    have e : m.won = !decide (m.winner = -1) := by
      unfold Ar.M.won
      by_cases h : m.winner = -1 <;> simp [h]
    rw [← e]
    exact k
theorem ok_mloser (F : FnP K "loser" "Match.loser" (sM 2) f fd) (c : CM K C) : FnOk P w K mg base CX0 1 f fd ["self"] (spMRead C fun m => .int m.loser) := by
  refine fn_ok F scM2 (fun vs H Q E h => ?_) (fun cdv A outer s H vs Q E hr h => ?_)
  · obtain ⟨a, sc, m, rfl, _⟩ := h
    rfl
  · obtain ⟨a, sc, m, rfl, ⟨⟨dx, ho⟩, hl⟩, k⟩ := h
    refine ⟨_, pss_cons (ps_if (pt_cmpR op_eq (pe_fld (pv 0) rfl) (pe_fld (pv 0) rfl) (nomark _)) (pss_one (ps_ret (pe_fld (pv 0) rfl))) pss_nil) (pss_one (ps_ret (pe_fld (pv 0) rfl))), ?_⟩
    refine ⟨_, rfl, a, C, dx, _, _, rfl, ho, c.cl, c.winner, rfl, _, rfl, a, C, dx, _, _, rfl, ho, c.cl, c.first, rfl, rfl, _, rfl, ?_⟩
    rw [dI]
    dsimp only at k
    unfold Ar.M.loser at k
    by_cases h : m.winner = m.first
    · rw [decide_eq_true h]
      rw [if_pos h] at k
      exact iteT ⟨_, rfl, a, C, dx, _, _, rfl, ho, c.cl, c.second, rfl, k⟩
    · rw [decide_eq_false h]
      rw [if_neg h] at k
      exact iteF ⟨_, rfl, a, C, dx, _, _, rfl, ho, c.cl, c.first, rfl, k⟩
theorem ok_malike (F : FnP K "is_alike" "Match.is_alike" (sM 3) f fd) (c : CM K C) (B : TB mg) (GW : MF P w K mg base C "is_won" 1 ["self"] (spMRead C fun m => .bl m.won)) : FnOk P w K mg base CX0 2 f fd ["self"] (spMRead C fun m => .bl m.alike) := by
  refine fn_ok F scM3 (fun vs H Q E h => ?_) (fun cdv A outer s H vs Q E hr h => ?_)
  · obtain ⟨a, sc, m, rfl, _⟩ := h
    rfl
  · obtain ⟨a, sc, m, rfl, hm, k⟩ := h
    obtain ⟨dx, ho⟩ := hm.obj
    refine ⟨_, pss_one (ps_ret (pe_and (pe_not (pe_m0 (X := _) GW c.cl hr (by decide) (pv 0))) (pe_one (pe_cmpR op_eq (pe_fld (pv 0) rfl) (pe_kI B.ME5 rfl) (nomark _))))), ?_⟩
    refine ⟨_, rfl, a, dx, _, rfl, ho, rfl, a, sc, m, rfl, hm, _, rfl, _, rfl, ?_⟩
    dsimp only at k
    unfold Ar.M.alike at k
    cases hw : m.won
    · rw [hw] at k
      refine iteT ⟨_, rfl, a, C, dx, _, _, rfl, ho, c.cl, c.ends, rfl, rfl, ?_⟩
      rw [dI]
      exact k
    · rw [hw] at k
      exact iteF k
theorem ok_mhas (F : FnP K "has" "Match.has" (sM 4) f fd) (c : CM K C) : FnOk P w K mg base CX0 1 f fd ["self", "archer"] (spMRead1 C fun m i => .bl (m.has i)) := by
  refine fn_ok F scM4 (fun vs H Q E h => ?_) (fun cdv A outer s H vs Q E hr h => ?_)
  · obtain ⟨a, sc, m, i, rfl, _⟩ := h
    rfl
  · obtain ⟨a, sc, m, i, rfl, ⟨⟨dx, ho⟩, hl⟩, k⟩ := h
    refine ⟨_, pss_one (ps_ret (pe_or (pe_cmpR op_eq (pv 1) (pe_fld (pv 0) rfl) (nomark _)) (pe_one (pe_cmpR op_eq (pv 1) (pe_fld (pv 0) rfl) (nomark _))))), ?_⟩
    refine ⟨_, rfl, _, rfl, a, C, dx, _, _, rfl, ho, c.cl, c.first, rfl, rfl, _, rfl, ?_⟩
    rw [dI]
    dsimp only at k
    unfold Ar.M.has at k
    by_cases h : i = m.first
    · rw [decide_eq_true h] at k ⊢
      exact iteT k
    · rw [decide_eq_false h] at k ⊢
      refine iteF ⟨_, rfl, _, rfl, a, C, dx, _, _, rfl, ho, c.cl, c.second, rfl, rfl, ?_⟩
      rw [dI]
      exact k
theorem ok_mscore (F : FnP K "score_of" "Match.score_of" (sM 5) f fd) (c : CM K C) : FnOk P w K mg base CX0 1 f fd ["self", "archer"] (spMRead1 C fun m i => .int (m.scoreOf i)) := by
  refine fn_ok F scM5 (fun vs H Q E h => ?_) (fun cdv A outer s H vs Q E hr h => ?_)
  · obtain ⟨a, sc, m, i, rfl, _⟩ := h
    rfl
  · obtain ⟨a, sc, m, i, rfl, ⟨⟨dx, ho⟩, hl⟩, k⟩ := h
    refine ⟨_, pss_cons (ps_if (pt_cmpR op_eq (pv 1) (pe_fld (pv 0) rfl) (nomark _)) (pss_one (ps_ret (pe_ix ix_list (pe_fld (pv 0) rfl) pe_int (fun _ _ => rfl)))) pss_nil) (pss_one (ps_ret (pe_ix ix_list (pe_fld (pv 0) rfl) pe_int (fun _ _ => rfl)))), ?_⟩
    refine ⟨_, rfl, _, rfl, a, C, dx, _, _, rfl, ho, c.cl, c.first, rfl, rfl, _, rfl, ?_⟩
    rw [dI]
    dsimp only at k
    unfold Ar.M.scoreOf at k
    by_cases h : i = m.first
    · rw [decide_eq_true h]
      rw [if_pos h] at k
      exact iteT ⟨_, rfl, a, C, dx, _, _, rfl, ho, c.cl, c.scores, rfl, sc, _, 0, _, rfl, rfl, SqL.of hl, rfl, k⟩
    · rw [decide_eq_false h]
      rw [if_neg h] at k
      exact iteF ⟨_, rfl, a, C, dx, _, _, rfl, ho, c.cl, c.scores, rfl, sc, _, 1, _, rfl, rfl, SqL.of hl, rfl, k⟩
theorem ok_mstate (F : FnP K "state" "Match.state" (sM 9) f fd) (c : CM K C) : FnOk P w K mg base CX0 1 f fd ["self"] (spMState C) := by
  refine fn_ok F scM9 (fun vs H Q E h => ?_) (fun cdv A outer s H vs Q E hr h => ?_)
  · obtain ⟨a, sc, m, rfl, _⟩ := h
    rfl
  · obtain ⟨a, sc, m, rfl, ⟨⟨dx, ho⟩, hl⟩, k⟩ := h
    refine ⟨_, pss_one (ps_ret (pe_op op_cat (pe_fld (pv 0) rfl) (pe_lst (pa_cons (pe_fld (pv 0) rfl) (pa_cons (pe_fld (pv 0) rfl) pa_nil))))), ?_⟩
    refine ⟨_, rfl, a, C, dx, _, _, rfl, ho, c.cl, c.scores, rfl, _, rfl, a, C, dx, _, _, rfl, ho, c.cl, c.ends, rfl, _, rfl, a, C, dx, _, _, rfl, ho, c.cl, c.winner, rfl, by show 2 ≤ sizeLine; decide, fun p hp => ?_⟩
    refine ⟨sc, p, _, _, rfl, rfl, Same.upd hp _ _ hl, upd_same, by show 4 ≤ sizeLine; decide, fun p2 hp2 => ?_⟩
    have s2 := (Same.upd (o := .lst [V.int m.ends, V.int m.winner]) hp).trans (Same.upd (o := .lst (ivs [m.s0, m.s1] ++ [V.int m.ends, V.int m.winner])) hp2)
    refine k _ p2 s2 (Same.free (Same.upd hp) hp2) ?_
    rw [upd_same]
    rfl
theorem ok_mdecide (F : FnP K "decide" "Match.decide" (sM 8) f fd) (c : CM K C) : FnOk P w K mg base CX0 1 f fd ["self", "difference"] (spMDecide C) := by
  refine fn_ok F scM8 (fun vs H Q E h => ?_) (fun cdv A outer s H vs Q E hr h => ?_)
  · obtain ⟨a, sc, m, d, rfl, _⟩ := h
    rfl
  · obtain ⟨a, sc, m, d, rfl, ⟨⟨dx, ho⟩, hl⟩, k⟩ := h
    refine ⟨_, pss_one (ps_if (pt_cmpR op_gt (pv 1) pe_int (nomark _)) (pss_one (ps_fld (pv 0) (pe_fld (pv 0) rfl) rfl)) (pss_one (ps_if (pt_cmpR op_lt (pv 1) pe_int (nomark _)) (pss_one (ps_fld (pv 0) (pe_fld (pv 0) rfl) rfl)) pss_nil))), ?_⟩
    refine ⟨_, rfl, _, _, rfl, rfl, _, rfl, ?_⟩
    have nsa : sc ≠ a := ne_of hl ho (by intro z; cases z)
    unfold Ar.M.decide_ at k
    by_cases h1 : 0 < d
    · rw [decide_eq_true h1]
      rw [if_pos h1] at k
      refine iteT ⟨_, rfl, a, C, dx, _, _, rfl, ho, c.cl, c.first, rfl, _, rfl, a, C, dx, _, rfl, ho, c.cl, c.winner, (by show 6 < 1000; decide), k _ ⟨⟨dx, ?_⟩, ?_⟩ (But.upd _ _ _)⟩
      · rw [upd_same]
        rfl
      · rw [upd_ne nsa]
        exact hl
    · rw [decide_eq_false h1]
      rw [if_neg h1] at k
      refine iteF ⟨_, rfl, _, _, rfl, rfl, _, rfl, ?_⟩
      by_cases h2 : d < 0
      · rw [decide_eq_true h2]
        rw [if_pos h2] at k
        refine iteT ⟨_, rfl, a, C, dx, _, _, rfl, ho, c.cl, c.second, rfl, _, rfl, a, C, dx, _, rfl, ho, c.cl, c.winner, (by show 6 < 1000; decide), k _ ⟨⟨dx, ?_⟩, ?_⟩ (But.upd _ _ _)⟩
        · rw [upd_same]
          rfl
        · rw [upd_ne nsa]
          exact hl
      · rw [decide_eq_false h2]
        rw [if_neg h2] at k
        exact iteF (k _ ⟨⟨dx, ho⟩, hl⟩ fun b o e _ => e)
theorem ok_setp (F : FnP K "set_points" "set_points" (top 15) f fd) : FnOk P w K mg base CX0 1 f fd ["left", "right"] spSetP := by
  refine fn_ok F scSetP (fun vs H Q E h => ?_) (fun cdv A outer s H vs Q E hr h => ?_)
  · obtain ⟨l, r, rfl, _⟩ := h
    rfl
  · obtain ⟨l, r, rfl, k⟩ := h
    refine ⟨_, pss_cons (ps_if (pt_cmpR op_gt (pv 0) (pv 1) (nomark _)) (pss_one (ps_ret (pe_tup (pa_cons pe_int (pa_cons pe_int pa_nil))))) pss_nil) (pss_cons (ps_if (pt_cmpR op_lt (pv 0) (pv 1) (nomark _)) (pss_one (ps_ret (pe_tup (pa_cons pe_int (pa_cons pe_int pa_nil))))) pss_nil)
      (pss_one (ps_ret (pe_tup (pa_cons pe_int (pa_cons pe_int pa_nil)))))), ?_⟩
    refine ⟨_, rfl, _, rfl, _, _, rfl, rfl, _, rfl, ?_⟩
    unfold Ar.setPts at k
    by_cases h1 : r < l
    · rw [decide_eq_true h1]
      rw [if_pos h1] at k
      exact iteT ⟨by show 2 ≤ sizeLine; decide, fun p hp => k _ p (Same.upd hp) hp upd_same⟩
    · rw [decide_eq_false h1]
      rw [if_neg h1] at k
      refine iteF ⟨_, rfl, _, rfl, _, _, rfl, rfl, _, rfl, ?_⟩
      by_cases h2 : l < r
      · rw [decide_eq_true h2]
        rw [if_pos h2] at k
        exact iteT ⟨by show 2 ≤ sizeLine; decide, fun p hp => k _ p (Same.upd hp) hp upd_same⟩
      · rw [decide_eq_false h2]
        rw [if_neg h2] at k
        exact iteF ⟨by show 2 ≤ sizeLine; decide, fun p hp => k _ p (Same.upd hp) hp upd_same⟩
end
end ArW
end
section
set_option Elab.async false
set_option maxRecDepth 100000
set_option maxHeartbeats 4000000
/-! Match.shoot, Match.shoot_off. -/
namespace ArW
open PySem PySem.Spec PyProof.Rows L2
open Ar (sumOf setPts pts)

/-- if self.by_sets: left, right = set_points(left, right) -/
theorem if_sets {K : PySem.W.Frag} {C a dx sc : Addr} {m : Ar.M} {v1 v2 : V} {p q : Int} {H : Hp} {D : Ends} (c : CM K C) (ho : H a = some (.ins C dx (mF m sc)))
    (h : ∀ H2, Same H H2 → D.nx [some (.ref a), some v1, some v2, some (.int (if m.sets = true then setPts p q else (p, q)).1), some (.int (if m.sets = true then setPts p q else (p, q)).2)] H2) :
    tIfS (tB (tFld K (tVar 0) "by_sets")) (tAsg (tCall spSetP [] E0 (tCons (tVar 3) (tCons (tVar 4) tNil))) (gTup K 2 (gCons (gName 3) (gCons (gName 4) gNil)))) tNext D [some (.ref a), some v1, some v2, some (.int p), some (.int q)] H := by
  refine ⟨_, rfl, a, C, dx, _, _, rfl, ho, c.cl, c.sets, rfl, _, rfl, ?_⟩
  cases hs : m.sets
  · rw [hs] at h
    exact iteF (h H (Same.refl H))
  · rw [hs] at h
    refine iteT ⟨_, rfl, _, rfl, p, q, rfl, fun H2 t s2 _ ht => ⟨t, _, rfl, .inl (.inl ht), rfl, _, _, rfl, _, _, rfl, rfl, h H2 s2⟩⟩
section
variable {P : Program} {w : World} {K : PySem.W.Frag} {mg : Str → Option Value} {base : Heap} {f C : Addr} {fd : FuncData}
theorem ok_mshoot (F : FnP K "shoot" "Match.shoot" (sM 6) f fd) (c : CM K C) (B : TB mg) (GS : GF P w K mg base "sum_of" 2 ["arrows"] (spSum K)) (GP : GF P w K mg base "set_points" 1 ["left", "right"] spSetP) (GD : MF P w K mg base C "decide" 1 ["self", "difference"] (spMDecide C)) :
    FnOk P w K mg base CX0 3 f fd ["self", "first_arrows", "second_arrows"] (spMShoot K C) := by
  refine fn_ok F scM6 (fun vs H Q E h => ?_) (fun cdv A outer s H vs Q E hr h => ?_)
  · obtain ⟨a, sc, x, y, m, l, r, rfl, _⟩ := h
    rfl
  · obtain ⟨a, sc, x, y, m, l, r, rfl, hm, hx, hy, hl, hr', k⟩ := h
    refine ⟨_, pss_cons (ps_set (i := 3) scM6.nd rfl (.inl rfl) (pe_g (X := _) GS hr (by decide) rfl (pa_cons (pv 1) pa_nil))) (pss_cons (ps_set (i := 4) scM6.nd rfl (.inl rfl) (pe_g (X := _) GS hr (by decide) rfl (pa_cons (pv 2) pa_nil)))
      (pss_cons (ps_if (pt_val (pe_fld (pv 0) rfl)) (pss_one (ps_asg (pe_g (X := _) GP hr (by decide) rfl (pa_cons (pv 3) (pa_cons (pv 4) pa_nil))) (pg_tup rfl (pgs_cons (pg_name (i := 3) scM6.nd rfl (.inl rfl)) (pgs_cons (pg_name (i := 4) scM6.nd rfl (.inl rfl)) pgs_nil))))) pss_nil)
      (pss_cons (ps_fld (pv 0) (pe_lst (pa_cons (pe_op op_add (pe_ix ix_list (pe_fld (pv 0) rfl) pe_int (fun _ _ => rfl)) (pv 3)) (pa_cons (pe_op op_add (pe_ix ix_list (pe_fld (pv 0) rfl) pe_int (fun _ _ => rfl)) (pv 4)) pa_nil))) rfl)
      (pss_cons (ps_fld (pv 0) (pe_op op_add (pe_fld (pv 0) rfl) pe_int) rfl)
      (pss_one (ps_if (PW.pt (pw_or (PW.pt (pw_and (pt_val (pe_fld (pv 0) rfl)) (pw_and1 (pt_cmpR op_ge (pe_callB (cr_max rfl) (by rfl) B.max (by decide +kernel) (pa_cons (pe_fld (pv 0) rfl) pa_nil)) (pe_kI B.ENOUGH rfl) (nomark _))))) (pw_or1 (pt_cmpR op_eq (pe_fld (pv 0) rfl) (pe_kI B.ME5 rfl) (nomark _)))))
        (pss_one (ps_expr (pe_m (X := _) GD c.cl hr (by decide) (pv 0) (pa_cons (pe_op op_sub (pe_ix ix_list (pe_fld (pv 0) rfl) pe_int (fun _ _ => rfl)) (pe_ix ix_list (pe_fld (pv 0) rfl) pe_int (fun _ _ => rfl))) pa_nil)))) pss_nil)))))), ?_⟩
    obtain ⟨⟨dx, ho⟩, hsc⟩ := hm
    refine ⟨_, rfl, x, l, rfl, hx, hl, fun H1 s1 => ⟨_, rfl, y, r, rfl, s1.seq hy, hr', fun H2 s2 => ?_⟩⟩
    have s12 := s1.trans s2
    refine if_sets (p := sumOf l) (q := sumOf r) c (s12 _ _ ho) fun H3 s3 => ?_
    have hw : (if m.sets = true then setPts (sumOf l) (sumOf r) else (sumOf l, sumOf r)) = m.worth l r := rfl
    rw [hw]
    have s13 : Same H H3 := s12.trans s3
    have ho3 := s13 _ _ ho
    have hs3 := s13 _ _ hsc
    have hk : m.shoot l r = (m.add (m.worth l r)).close := rfl
    rw [hk] at k
    generalize m.worth l r = pq at k
    obtain ⟨p, q⟩ := pq
    refine ⟨_, rfl, a, C, dx, _, _, rfl, ho3, c.cl, c.scores, rfl, sc, _, 0, _, rfl, rfl, SqL.of hs3, rfl, _, rfl, _, _, rfl, rfl, ?_⟩
    refine ⟨_, rfl, a, C, dx, _, _, rfl, ho3, c.cl, c.scores, rfl, sc, _, 1, _, rfl, rfl, SqL.of hs3, rfl, _, rfl, _, _, rfl, rfl, by show 2 ≤ sizeLine; decide, fun sc' hsc' => ?_⟩
    have s4 : Same H (L2.upd H3 sc' (.lst [.int (m.s0 + p), .int (m.s1 + q)])) := s13.trans (Same.upd hsc')
    have na : sc' ≠ a := Ne.symm (ne_of_none ho3 hsc')
    have nsc : H sc' = none := s13.free hsc'
    refine ⟨_, rfl, a, C, dx, _, rfl, s4 _ _ ho, c.cl, c.scores, (by show 6 < 1000; decide), ?_⟩
    refine ⟨_, rfl, a, C, dx, _, _, rfl, upd_same, c.cl, c.ends, rfl, _, _, rfl, rfl, _, rfl, a, C, dx, _, rfl, upd_same, c.cl, c.ends, (by show 6 < 1000; decide), ?_⟩
    generalize hG : L2.upd _ a _ = G
    have gm : MatchAt C G a sc' (m.add (p, q)) := by
      refine ⟨⟨dx, ?_⟩, ?_⟩
      · rw [← hG, upd_same]
        rfl
      · rw [← hG, upd_ne na, upd_ne na, upd_same]
        rfl
    have gb : But a H G := fun b o e n => by
      rw [← hG, upd_ne n, upd_ne n]
      exact s4 _ _ e
    clear hG
    generalize m.add (p, q) = m2 at gm k
    obtain ⟨⟨dy, g1⟩, g2⟩ := gm
    have dec : m2.over = true → (tDrop (tMeth C "decide" (spMDecide C) [] E0 (tVar 0) (tCons (tOp (rI0 fun i j => V.int (i - j)) (tOp (rIxL K) (tFld K (tVar 0) "scores") (tC (.int 0))) (tOp (rIxL K) (tFld K (tVar 0) "scores") (tC (.int 1)))) tNil))) { nx := fun _ H' => Q .non H', rt := Q } [some (.ref a), some (.ref x), some (.ref y), some (.int p), some (.int q)] G := fun ov => by
      refine ⟨_, rfl, a, dy, _, rfl, g1, rfl, ?_⟩
      refine ⟨_, rfl, a, C, dy, _, _, rfl, g1, c.cl, c.scores, rfl, sc', _, 0, _, rfl, rfl, SqL.of g2, rfl, ?_⟩
      refine ⟨_, rfl, a, C, dy, _, _, rfl, g1, c.cl, c.scores, rfl, sc', _, 1, _, rfl, rfl, SqL.of g2, rfl, _, _, rfl, rfl, ?_⟩
      unfold Ar.M.close at k
      rw [if_pos ov] at k
      exact ⟨a, sc', m2, _, rfl, ⟨⟨dy, g1⟩, g2⟩, fun H' h1 h2 => k H' sc' h1 (gb.trans h2) nsc⟩
    have tail : m2.over = decide (m2.ends = 5) → (tIfS (tTest (tOp rEq (tFld K (tVar 0) "ends_shot") (tC (.int 5)))) (tDrop (tMeth C "decide" (spMDecide C) [] E0 (tVar 0) (tCons (tOp (rI0 fun i j => V.int (i - j)) (tOp (rIxL K) (tFld K (tVar 0) "scores") (tC (.int 0))) (tOp (rIxL K) (tFld K (tVar 0) "scores") (tC (.int 1)))) tNil))) tNext) { nx := fun _ H' => Q .non H', rt := Q } [some (.ref a), some (.ref x), some (.ref y), some (.int p), some (.int q)] G := fun ov => by
      refine ⟨_, rfl, a, C, dy, _, _, rfl, g1, c.cl, c.ends, rfl, rfl, _, rfl, ?_⟩
      rw [dI, ← ov]
      cases e : m2.over
      · refine iteF ?_
        unfold Ar.M.close at k
        rw [e] at k
        exact k G sc' ⟨⟨dy, g1⟩, g2⟩ gb nsc
      · exact iteT (dec e)
    refine ⟨_, rfl, a, C, dy, _, _, rfl, g1, c.cl, c.sets, rfl, _, rfl, ?_⟩
    cases hs : m2.sets
    · refine iteF (iteF (tail ?_))
      unfold Ar.M.over
      rw [hs, Bool.false_and, Bool.false_or]
    · refine iteT ⟨_, rfl, a, C, dy, _, _, rfl, g1, c.cl, c.scores, rfl, sc', [m2.s0, m2.s1], rfl, SqL.of g2, by show 0 < 2; decide, fun mx hmx hub => ?_⟩
      have emx : mx = max m2.s0 m2.s1 := by
        have h0 := hub m2.s0 (by simp)
        have h1 := hub m2.s1 (by simp)
        simp only [List.mem_cons, List.not_mem_nil, or_false] at hmx
        omega
      subst emx
      refine ⟨_, _, rfl, rfl, _, rfl, ?_⟩
      by_cases h6 : 6 ≤ max m2.s0 m2.s1
      · rw [decide_eq_true h6]
        refine iteT (dec ?_)
        unfold Ar.M.over
        rw [hs, decide_eq_true h6]
        rfl
      · rw [decide_eq_false h6]
        refine iteF (tail ?_)
        unfold Ar.M.over
        rw [hs, decide_eq_false h6]
        rfl
theorem ok_moff (F : FnP K "shoot_off" "Match.shoot_off" (sM 7) f fd) (c : CM K C) (B : TB mg) (GP : GF P w K mg base "points_of" 1 ["arrow"] spPts) (GD : MF P w K mg base C "decide" 1 ["self", "difference"] (spMDecide C)) :
    FnOk P w K mg base CX0 2 f fd ["self", "left", "right", "nearer"] (spMOff C) := by
  refine fn_ok F scM7 (fun vs H Q E h => ?_) (fun cdv A outer s H vs Q E hr h => ?_)
  · obtain ⟨a, sc, m, l, r, n, rfl, _⟩ := h
    rfl
  · obtain ⟨a, sc, m, l, r, n, rfl, hm, k⟩ := h
    refine ⟨_, pss_cons (ps_set (i := 4) scM7.nd rfl (.inl rfl) (pe_op op_sub (pe_g (X := _) GP hr (by decide) rfl (pa_cons (pv 1) pa_nil)) (pe_g (X := _) GP hr (by decide) rfl (pa_cons (pv 2) pa_nil))))
      (pss_cons (ps_if (PW.pt (pw_and (pt_cmpR op_eq (pv 4) pe_int (nomark _)) (pw_and1 (pt_cmpR op_eq (pv 3) pe_int (nomark _))))) (pss_one (ps_set (i := 4) scM7.nd rfl (.inl rfl) pe_int))
        (pss_one (ps_if (PW.pt (pw_and (pt_cmpR op_eq (pv 4) pe_int (nomark _)) (pw_and1 (pt_cmpR op_eq (pv 3) pe_int (nomark _))))) (pss_one (ps_set (i := 4) scM7.nd rfl (.inl rfl) (pe_un un_neg pe_int))) pss_nil)))
      (pss_one (ps_expr (pe_m (X := _) GD c.cl hr (by decide) (pv 0) (pa_cons (pv 4) pa_nil))))), ?_⟩
    obtain ⟨dx, ho⟩ := hm.obj
    have fin : ∀ d, d = Ar.offDiff l r n → (tDrop (tMeth C "decide" (spMDecide C) [] E0 (tVar 0) (tCons (tVar 4) tNil))) { nx := fun _ H' => Q .non H', rt := Q } [some (.ref a), some (.int l), some (.int r), some (.int n), some (.int d)] H := fun d e => by
      refine ⟨_, rfl, a, dx, _, rfl, ho, rfl, _, rfl, a, sc, m, d, rfl, hm, fun H' h1 h2 => k H' ?_ h2⟩
      unfold Ar.M.shootOff
      rw [← e]
      exact h1
    refine ⟨_, rfl, l, rfl, _, rfl, r, rfl, _, _, rfl, rfl, ?_⟩
    refine ⟨_, rfl, rfl, _, rfl, ?_⟩
    rw [dI]
    unfold Ar.offDiff at fin
    by_cases h0 : pts l - pts r = 0
    · rw [decide_eq_true h0]
      refine iteT ⟨_, rfl, rfl, _, rfl, ?_⟩
      rw [dI]
      by_cases h1 : n = 0
      · rw [decide_eq_true h1]
        refine iteT (fin 1 ?_)
        rw [if_pos ⟨h0, h1⟩]
      · rw [decide_eq_false h1]
        refine iteF ⟨_, rfl, rfl, _, rfl, ?_⟩
        rw [dI, decide_eq_true h0]
        refine iteT ⟨_, rfl, rfl, _, rfl, ?_⟩
        rw [dI]
        by_cases h2 : n = 1
        · rw [decide_eq_true h2]
          refine iteT ⟨_, rfl, fin (-1) ?_⟩
          rw [if_neg (fun z => h1 z.2), if_pos ⟨h0, h2⟩]
        · rw [decide_eq_false h2]
          refine iteF (fin _ ?_)
          rw [if_neg (fun z => h1 z.2), if_neg (fun z => h2 z.2)]
    · rw [decide_eq_false h0]
      refine iteF (iteF ⟨_, rfl, rfl, _, rfl, ?_⟩)
      rw [dI, decide_eq_false h0]
      refine iteF (iteF (fin _ ?_))
      rw [if_neg (fun z => h0 z.1), if_neg (fun z => h0 z.1)]
end
end ArW
end
section
set_option Elab.async false
set_option maxRecDepth 100000
set_option maxHeartbeats 4000000
/-! seats. -/
namespace ArW
open PySem PySem.Spec PyProof.Rows L2
open Kg64 (seats size)

abbrev natV (l : List Nat) : List V := l.map fun x => V.int (x : Nat)
structure SizeOk (n : Nat) : Prop where
  five : size n ≤ 5
  lt : ∀ k, k < size n → 2 ^ k < n
  le : n ≤ 2 ^ size n
def sizeB (n : Nat) : Bool := decide (size n ≤ 5) && ((List.range (size n)).all (fun k => decide (2 ^ k < n)) && decide (n ≤ 2 ^ size n))
theorem size_ok {n : Nat} (h1 : 2 ≤ n) (h2 : n ≤ 32) : SizeOk n := by
  have h : ∀ n : Fin 33, 2 ≤ n.1 → sizeB n.1 = true := by decide +kernel
  have q := h ⟨n, by omega⟩ h1
  unfold sizeB at q
  simp only [Bool.and_eq_true, decide_eq_true_eq, List.all_eq_true, List.mem_range] at q
  exact ⟨q.1, q.2.1, q.2.2⟩
theorem seats_len {k : Nat} (h : k ≤ 5) : (seats k).length = 2 ^ k := by
  have q : ∀ k : Fin 6, (seats k.1).length = 2 ^ k.1 := by decide +kernel
  exact q ⟨k, by omega⟩
theorem seats_le {k : Nat} (h : k ≤ 5) : ∀ x ∈ seats k, x ≤ 2 ^ (k + 1) := by
  have q : ∀ k : Fin 6, ∀ x ∈ seats k.1, x ≤ 2 ^ (k.1 + 1) := by decide +kernel
  exact q ⟨k, by omega⟩
def longer (k i : Nat) : List Nat := ((seats k).take i).flatMap fun x => [x, 2 ^ (k + 1) + 1 - x]
theorem longer_all {k : Nat} : longer k (seats k).length = seats (k + 1) := by
  unfold longer
  rw [List.take_length]
  rfl
theorem longer_snoc {k i x : Nat} (h : (seats k)[i]? = some x) : longer k (i + 1) = longer k i ++ [x, 2 ^ (k + 1) + 1 - x] := by
  unfold longer
  rw [take_snoc h, List.flatMap_append]
  rfl
theorem longer_len {k i : Nat} (h : k ≤ 5) (hi : i ≤ (seats k).length) : (longer k i).length ≤ 128 := by
  have e : (longer k i).length = 2 * i := by
    unfold longer
    rw [List.length_flatMap]
    show (((seats k).take i).map fun _ => 2).sum = 2 * i
    rw [List.map_const', List.sum_replicate_nat, List.length_take, Nat.min_eq_left hi]
    omega
  rw [seats_len h] at hi
  have h2 : 2 ^ k ≤ 2 ^ 5 := Nat.pow_le_pow_right (by decide) h
  omega
abbrev nSeats : List Str := ["count", "found", "whole", "longer", "rank"]
theorem scSeats : FnScope nSeats ["count"] (defScope (top 16)) := ⟨rfl, rfl, rfl, by decide +kernel, rfl, by decide +kernel, by decide +kernel⟩
def spSeats : Sp := fun vs H Q _ => ∃ n : Nat, vs = [.int n] ∧ 2 ≤ n ∧ n ≤ 32 ∧ ∀ H' p, Same H H' → H p = none → H' p = some (.lst (natV (seats (size n)))) → Q (.ref p) H'
section
variable {P : Program} {w : World} {K : PySem.W.Frag} {mg : Str → Option Value} {base : Heap} {f C : Addr} {fd : FuncData}
theorem ok_seats (F : FnP K "seats" "seats" (top 16) f fd) (B : TB mg) : FnOk P w K mg base CX0 1 f fd ["count"] spSeats := by
  refine fn_ok F scSeats (fun vs H Q E h => ?_) (fun cdv A outer s H vs Q E hr h => ?_)
  · obtain ⟨n, rfl, _⟩ := h
    rfl
  · obtain ⟨n, rfl, h1, h2, k⟩ := h
    have so := size_ok h1 h2
    refine ⟨_, pss_cons (ps_set (i := 1) scSeats.nd rfl (.inl rfl) (pe_lst (pa_cons pe_int pa_nil))) (pss_cons (ps_while PassesOwn.never (pt_cmpR op_lt (pe_callB call_len_seq (by rfl) B.len PySem.boot_len (pa_cons (pv 1) pa_nil)) (pv 0) (nomark _))
      (pss_cons (ps_set (i := 2) scSeats.nd rfl (.inl rfl) (pe_op op_add (pe_op op_mul pe_int (pe_callB call_len_seq (by rfl) B.len PySem.boot_len (pa_cons (pv 1) pa_nil))) pe_int)) (pss_cons (ps_set (i := 3) scSeats.nd rfl (.inl rfl) (pe_lst pa_nil))
      (pss_cons (ps_for PassesOwn.never rfl (pi_list (pv 1)) (pg_name (i := 4) scSeats.nd rfl (Or.inl rfl)) (pss_one (ps_expr (pe_bm PySem.F.plainAttrs_list PySem.F.slot_list_extend PySem.F.type_list_extend mt_extend (pv 3) (pa_cons (pe_lst (pa_cons (pv 4) (pa_cons (pe_op op_sub (pv 2) (pv 4)) pa_nil))) pa_nil)))))
      (pss_one (ps_set (i := 1) scSeats.nd rfl (.inl rfl) (pv 3))))))) (pss_one (ps_ret (pv 1)))), ?_⟩
    refine ⟨by show 1 ≤ sizeLine; decide, fun p hp => ?_⟩
    refine ⟨fun m σ H' => ∃ j x y z p, m = size n - j ∧ j ≤ size n ∧ σ = [some (.int n), some (.ref p), x, y, z] ∧ Same H H' ∧ H p = none ∧ H' p = some (.lst (natV (seats j))), ⟨_, 0, none, none, none, p, rfl, Nat.zero_le _, rfl, Same.upd hp, hp, upd_same⟩, ?_⟩
    rintro m σ H1 ⟨j, x, y, z, p1, rfl, hj, rfl, s1, hp0, hp1⟩
    have j5 : j ≤ 5 := Nat.le_trans hj so.five
    have hlen := seats_len j5
    refine ⟨_, rfl, p1, _, rfl, .inl (SqL.of hp1), _, rfl, _, _, rfl, rfl, _, rfl, ?_⟩
    rw [List.length_map, hlen]
    by_cases c : ((2 ^ j : Nat) : Int) < (n : Int)
    · rw [decide_eq_true c]
      have hj2 : j < size n := Nat.lt_of_le_of_ne hj fun e => by
        have := so.le
        rw [← e] at this
        omega
      refine iteT ⟨fun σ' H' => ∃ m', m' < size n - j ∧ ∃ j x y z p, m' = size n - j ∧ j ≤ size n ∧ σ' = [some (.int n), some (.ref p), x, y, z] ∧ Same H H' ∧ H p = none ∧ H' p = some (.lst (natV (seats j))), fun σ' H' h => h, ?_⟩
      refine ⟨_, rfl, p1, _, rfl, .inl (SqL.of hp1), _, _, rfl, rfl, ?_, _, _, rfl, rfl, ?_⟩
      · exact .inl ⟨by decide, by decide⟩
      rw [List.length_map, hlen]
      refine ⟨Nat.zero_le _, fun p2 hp2 => ?_⟩
      have s2 : Same H1 (upd H1 p2 (.lst [])) := Same.upd hp2
      refine ⟨_, rfl, p1, rfl, ⟨natV (seats j), SqL.of (s2 _ _ hp1)⟩, for_list (xs := natV (seats j)) (fun i σ H' => ∃ z, σ = [some (.int n), some (.ref p1), some (.int (2 * ((2 ^ j : Nat) : Int) + 1)), some (.ref p2), z] ∧ Same H1 H' ∧ H' p2 = some (.lst (natV (longer j i)))) ⟨_, rfl, s2, upd_same⟩
        (fun i σ H' _ ⟨_, _, s', _⟩ => SqL.of (s' _ _ hp1)) (fun i x σ H' hx ⟨z, es, s', h'⟩ => ?_) fun σ H' ⟨z, es, s', h'⟩ => ?_⟩
      · obtain ⟨q, hq, rfl⟩ := map_at hx
        have hi : i < (seats j).length := (List.getElem?_eq_some_iff.mp hq).1
        have hle := seats_le j5 q (List.mem_of_getElem? hq)
        subst es
        refine ⟨_, rfl, .inl ⟨rfl, _, SqL.of h'⟩, _, rfl, _, rfl, _, rfl, _, _, rfl, rfl, by show 2 ≤ sizeLine; decide, fun p3 hp3 => ?_⟩
        have n32 : p2 ≠ p3 := ne_of_none h' hp3
        refine ⟨p2, p3, _, _, rfl, rfl, by rw [upd_ne n32]; exact h', upd_same, ?_, _, rfl, fun b o e => ?_, ?_⟩
        · rw [List.length_map]
          have := longer_len j5 (Nat.le_of_lt hi)
          exact Nat.le_of_lt (small (m := 1000) (by show _ + 2 ≤ _; omega))
        · have n2 : b ≠ p2 := ne_of_none e hp2
          rw [upd_ne n2]
          exact Same.upd hp3 _ _ (s' _ _ e)
        · rw [upd_same, longer_snoc hq]
          unfold natV
          rw [List.map_append]
          have e1 : (2 * ((2 ^ j : Nat) : Int) + 1 - (q : Int)) = ((2 ^ (j + 1) + 1 - q : Nat) : Int) := by
            have : 2 ^ (j + 1) = 2 * 2 ^ j := by rw [Nat.pow_succ]; omega
            omega
          show some (HO.lst (_ ++ [V.int q, V.int (2 * ((2 ^ j : Nat) : Int) + 1 - (q : Int))])) = _
          rw [e1]
          rfl
      · subst es
        rw [List.length_map, longer_all] at h'
        exact ⟨_, rfl, size n - (j + 1), by omega, j + 1, _, _, _, p2, rfl, hj2, rfl, s1.trans s', s1.free hp2, h'⟩
    · rw [decide_eq_false c]
      have e : j = size n := by
        rcases Nat.lt_or_eq_of_le hj with h | h
        · have := so.lt j h
          omega
        · exact h
      subst e
      exact iteF ⟨_, rfl, k H1 p1 s1 hp0 hp1⟩
end
end ArW
end
section
set_option Elab.async false
set_option maxRecDepth 100000
set_option maxHeartbeats 4000000
/-! Bracket: at_rank, paired, last, is_last_of_all, is_done. -/
namespace ArW
open PySem PySem.Spec PyProof.Rows L2

abbrev sB (i : Nat) : Stmt := inClass (top 17) i
theorem scB1 : FnScope ["self", "rank"] ["self", "rank"] (defScope (sB 1)) := ⟨rfl, rfl, rfl, by decide +kernel, rfl, by decide +kernel, by decide +kernel⟩
theorem scB2 : FnScope ["self", "archers", "matches", "place"] ["self", "archers"] (defScope (sB 2)) := ⟨rfl, rfl, rfl, by decide +kernel, rfl, by decide +kernel, by decide +kernel⟩
theorem scB3 : FnScope ["self"] ["self"] (defScope (sB 3)) := ⟨rfl, rfl, rfl, by decide +kernel, rfl, by decide +kernel, by decide +kernel⟩
theorem scB4 : FnScope ["self"] ["self"] (defScope (sB 4)) := ⟨rfl, rfl, rfl, by decide +kernel, rfl, by decide +kernel, by decide +kernel⟩
theorem scB5 : FnScope ["self", "match"] ["self"] (defScope (sB 5)) := ⟨rfl, rfl, rfl, by decide +kernel, rfl, by decide +kernel, by decide +kernel⟩
/-- the class's own facts -/
structure CB (K : PySem.W.Frag) (C : Addr) : Prop where
  cl : Cls K C
  sets : NoAttr K C "by_sets"
  seated : NoAttr K C "seated"
  rounds : NoAttr K C "rounds"
abbrev ML := List (Addr × Addr × Ar.M)
abbrev mrefs (l : ML) : List V := l.map fun x => V.ref x.1
abbrev mmods (l : ML) : List Ar.M := l.map fun x => x.2.2
def MAll (C : Addr) (H : Hp) (l : ML) : Prop := ∀ x ∈ l, MatchAt C H x.1 x.2.1 x.2.2
theorem MAll.same {C : Addr} {H H' : Hp} {l : ML} (h : MAll C H l) (s : Same H H') : MAll C H' l := fun x hx => (h x hx).same s
theorem MAll.ext {C : Addr} {H H' : Hp} {l : ML} (h : MAll C H l) (s : LamX.ExtN H H') : MAll C H' l := fun x hx => (h x hx).ext s
abbrev RL := List (Addr × ML)
abbrev rrefs (l : RL) : List V := l.map fun x => V.ref x.1
abbrev rmods (l : RL) : List (List Ar.M) := l.map fun x => mmods x.2
/-- the matches' places -/
def maddrs (rl : RL) : List Addr := rl.flatMap fun r => r.2.map (·.1)
/-- all places of the rounds -/
def baddrs (rl : RL) : List Addr := rl.flatMap fun r => r.1 :: r.2.flatMap fun x => [x.1, x.2.1]
structure RoundAt (C : Addr) (H : Hp) (r : Addr × ML) : Prop where
  lst : H r.1 = some (.lst (mrefs r.2))
  all : MAll C H r.2
theorem RoundAt.same {C : Addr} {H H' : Hp} {r : Addr × ML} (h : RoundAt C H r) (s : Same H H') : RoundAt C H' r := ⟨s _ _ h.lst, h.all.same s⟩
theorem RoundAt.ext {C : Addr} {H H' : Hp} {r : Addr × ML} (h : RoundAt C H r) (s : LamX.ExtN H H') : RoundAt C H' r := ⟨s _ _ h.lst lst_tbl, h.all.ext s⟩
def bF (m : Ar.B) (ls lr : Addr) : List (Str × V) := [("by_sets", .bl m.sets), ("seated", .ref ls), ("rounds", .ref lr)]
/-- the bracket m stands at b -/
structure BrAt (CB CM : Addr) (H : Hp) (b ls lr : Addr) (rl : RL) (m : Ar.B) : Prop where
  obj : ∃ dx, H b = some (.ins CB dx (bF m ls lr))
  seat : H ls = some (.lst (ivs m.seated))
  rnd : H lr = some (.lst (rrefs rl))
  all : ∀ r ∈ rl, RoundAt CM H r
  mods : m.rounds = rmods rl
  few : rl.length ≤ 20
  wide : ∀ r ∈ rl, r.2.length ≤ 16
  some_ : rl ≠ []
  sfew : m.seated.length ≤ 32
  nd : (maddrs rl).Nodup
theorem BrAt.ext {CB CM : Addr} {H H' : Hp} {b ls lr : Addr} {rl : RL} {m : Ar.B} (h : BrAt CB CM H b ls lr rl m) (s : LamX.ExtN H H') : BrAt CB CM H' b ls lr rl m := by
  obtain ⟨⟨dx, h1⟩, h2, h3, h4, h5, h6, h7, h8, h9, h10⟩ := h
  exact ⟨⟨dx, s _ _ h1 ins_tbl⟩, s _ _ h2 lst_tbl, s _ _ h3 lst_tbl, fun r hr => (h4 r hr).ext s, h5, h6, h7, h8, h9, h10⟩
theorem BrAt.same {CB CM : Addr} {H H' : Hp} {b ls lr : Addr} {rl : RL} {m : Ar.B} (h : BrAt CB CM H b ls lr rl m) (s : Same H H') : BrAt CB CM H' b ls lr rl m := h.ext (LamX.ExtN.of s)
def spBRank (C : Addr) : Sp := fun vs H Q _ => ∃ (b dx ls : Addr) (fs : List (Str × V)) (l : List Int) (r : Nat), vs = [.ref b, .int r] ∧ H b = some (.ins C dx fs) ∧ fs.lookup ("seated" : Str) = some (.ref ls) ∧ H ls = some (.lst (ivs l)) ∧ 1 ≤ r ∧ Q (.int (Ar.atRank l r)) H
def spBPaired (K : PySem.W.Frag) (C CM : Addr) : Sp := fun vs H Q _ => ∃ (b dx x : Addr) (fs : List (Str × V)) (l : List Int) (z : Bool) (n : Nat), vs = [.ref b, .ref x] ∧ H b = some (.ins C dx fs) ∧ fs.lookup ("by_sets" : Str) = some (.bl z) ∧ SqL K H x (ivs l) ∧ l.length = 2 * n ∧ n ≤ 100 ∧
  ∀ (H' : Hp) (p : Addr) (ml : ML), Same H H' → H p = none → H' p = some (.lst (mrefs ml)) → MAll CM H' ml → mmods ml = Ar.pairs z l → (ml.map (·.1)).Nodup → (∀ x ∈ ml, H x.1 = none ∧ H x.2.1 = none) → Q (.ref p) H'
def spBLast (C : Addr) : Sp := fun vs H Q _ => ∃ (b dx lr : Addr) (fs : List (Str × V)) (xs : List V) (v : V), vs = [.ref b] ∧ H b = some (.ins C dx fs) ∧ fs.lookup ("rounds" : Str) = some (.ref lr) ∧ H lr = some (.lst xs) ∧ xs.getLast? = some v ∧ Q v H
def spBRead (C CM : Addr) (g : Ar.B → V) : Sp := fun vs H Q _ => ∃ (b ls lr : Addr) (rl : RL) (m : Ar.B), vs = [.ref b] ∧ BrAt C CM H b ls lr rl m ∧ ∀ H', Same H H' → Q (g m) H'
theorem atI_back {α : Type} {xs : List α} {k : Nat} {v : α} (h1 : 1 ≤ k) (h2 : k ≤ xs.length) (h : xs[xs.length - k]? = some v) : atI xs (-(k : Int)) = some v := by
  unfold atI ixN
  rw [if_neg (by omega), if_pos (by omega)]
  show xs[(-(k : Int) + (xs.length : Int)).toNat]? = some v
  rw [show (-(k : Int) + (xs.length : Int)).toNat = xs.length - k by omega]
  exact h
theorem atI_last {α : Type} {xs : List α} {v : α} (h : xs.getLast? = some v) : atI xs (-1) = some v := by
  have hn : xs.length ≠ 0 := fun z => by
    rw [List.length_eq_zero_iff.mp z] at h
    cases h
  rw [List.getLast?_eq_getElem?] at h
  exact atI_back (k := 1) (by omega) (by omega) h
theorem last_ref {rl : RL} {m : Ar.B} (h : rl ≠ []) (hm : m.rounds = rmods rl) : ∃ r, rl.getLast? = some r ∧ (rrefs rl).getLast? = some (.ref r.1) ∧ m.last = mmods r.2 ∧ r ∈ rl := by
  cases e : rl.getLast? with
  | none => exact absurd (List.getLast?_eq_none_iff.mp e) h
  | some r =>
    refine ⟨r, rfl, ?_, ?_, List.mem_of_getLast? e⟩
    · rw [List.getLast?_map, e]
      rfl
    · unfold Ar.B.last
      rw [hm, List.getLastD_eq_getLast?, List.getLast?_map, e]
      rfl
section
variable {P : Program} {w : World} {K : PySem.W.Frag} {mg : Str → Option Value} {base : Heap} {f C CMa : Addr} {fd : FuncData}
theorem ok_brank (F : FnP K "at_rank" "Bracket.at_rank" (sB 1) f fd) (c : CB K C) (B : TB mg) : FnOk P w K mg base CX0 1 f fd ["self", "rank"] (spBRank C) := by
  refine fn_ok F scB1 (fun vs H Q E h => ?_) (fun cdv A outer s H vs Q E hr h => ?_)
  · obtain ⟨b, dx, ls, fs, l, r, rfl, _⟩ := h
    rfl
  · obtain ⟨b, dx, ls, fs, l, r, rfl, hb, hf, hl, h1, k⟩ := h
    refine ⟨_, pss_cons (ps_if (pt_cmpR op_le (pv 1) (pe_callB call_len_seq (by rfl) B.len PySem.boot_len (pa_cons (pe_fld (pv 0) rfl) pa_nil)) (nomark _)) (pss_one (ps_ret (pe_ix ix_list (pe_fld (pv 0) rfl) (pe_op op_sub (pv 1) pe_int) (fun _ _ => rfl)))) pss_nil) (pss_one (ps_ret (pe_kI B.NOBODY rfl))), ?_⟩
    refine ⟨_, rfl, _, rfl, b, C, dx, _, _, rfl, hb, c.cl, c.seated, hf, ls, _, rfl, .inl (SqL.of hl), _, _, rfl, rfl, _, rfl, ?_⟩
    rw [ivs_length]
    unfold Ar.atRank at k
    by_cases h : r ≤ l.length
    · rw [decide_eq_true (by exact_mod_cast h)]
      rw [if_pos h] at k
      have hlt : r - 1 < l.length := by omega
      refine iteT ⟨_, rfl, b, C, dx, _, _, rfl, hb, c.cl, c.seated, hf, _, rfl, _, _, rfl, rfl, ls, _, _, _, rfl, rfl, SqL.of hl, ?_, k⟩
      have e : ((r : Int) - 1) = ((r - 1 : Nat) : Int) := by omega
      rw [e]
      refine atI_nat ?_
      rw [List.getElem?_map, List.getElem?_eq_getElem hlt, List.getD_eq_getElem?_getD, List.getElem?_eq_getElem hlt]
      rfl
    · rw [decide_eq_false (by exact_mod_cast h)]
      rw [if_neg h] at k
      exact iteF k
theorem ok_blast (F : FnP K "last" "Bracket.last" (sB 3) f fd) (c : CB K C) : FnOk P w K mg base CX0 1 f fd ["self"] (spBLast C) := by
  refine fn_ok F scB3 (fun vs H Q E h => ?_) (fun cdv A outer s H vs Q E hr h => ?_)
  · obtain ⟨b, dx, lr, fs, xs, v, rfl, _⟩ := h
    rfl
  · obtain ⟨b, dx, lr, fs, xs, v, rfl, hb, hf, hl, hx, k⟩ := h
    refine ⟨_, pss_one (ps_ret (pe_ix ix_list (pe_fld (pv 0) rfl) (pe_un un_neg pe_int) (fun _ _ => rfl))), ?_⟩
    exact ⟨_, rfl, b, C, dx, _, _, rfl, hb, c.cl, c.rounds, hf, _, rfl, lr, _, _, _, rfl, rfl, SqL.of hl, atI_last hx, k⟩
theorem ok_ballof (F : FnP K "is_last_of_all" "Bracket.is_last_of_all" (sB 4) f fd) (c : CB K C) (B : TB mg) (GL : MF P w K mg base C "last" 1 ["self"] (spBLast C)) : FnOk P w K mg base CX0 2 f fd ["self"] (spBRead C CMa fun m => .bl m.lastOfAll) := by
  refine fn_ok F scB4 (fun vs H Q E h => ?_) (fun cdv A outer s H vs Q E hr h => ?_)
  · obtain ⟨b, ls, lr, rl, m, rfl, _⟩ := h
    rfl
  · obtain ⟨b, ls, lr, rl, m, rfl, hB, k⟩ := h
    have k := k H (Same.refl H)
    obtain ⟨dx, hb⟩ := hB.obj
    obtain ⟨r, e1, e2, e3, e4⟩ := last_ref hB.some_ hB.mods
    have hr1 := (hB.all r e4).lst
    refine ⟨_, pss_cons (ps_if (pt_cmpR op_eq (pe_callB call_len_seq (by rfl) B.len PySem.boot_len (pa_cons (pe_m0 (X := _) GL c.cl hr (by decide) (pv 0)) pa_nil)) pe_int (nomark _)) (pss_one (ps_ret pe_bl)) pss_nil)
      (pss_one (ps_ret (pe_and (pe_cmpR op_eq (pe_callB call_len_seq (by rfl) B.len PySem.boot_len (pa_cons (pe_m0 (X := _) GL c.cl hr (by decide) (pv 0)) pa_nil)) pe_int (nomark _))
        (pe_and (pe_cmpR op_gt (pe_callB call_len_seq (by rfl) B.len PySem.boot_len (pa_cons (pe_fld (pv 0) rfl) pa_nil)) pe_int (nomark _))
          (pe_one (pe_cmpR op_eq (pe_callB call_len_seq (by rfl) B.len PySem.boot_len (pa_cons (pe_ix ix_list (pe_fld (pv 0) rfl) (pe_un un_neg pe_int) (fun _ _ => rfl)) pa_nil)) pe_int (nomark _))))))), ?_⟩
    refine ⟨_, rfl, b, dx, _, rfl, hb, rfl, b, dx, lr, _, _, _, rfl, hb, rfl, hB.rnd, e2, r.1, _, rfl, .inl (SqL.of hr1), rfl, _, rfl, ?_⟩
    dsimp only at k
    unfold Ar.B.lastOfAll at k
    have el : m.last.length = r.2.length := by rw [e3, List.length_map]
    rw [dI, List.length_map]
    rw [el] at k
    by_cases c1 : r.2.length = 1
    · rw [decide_eq_true (by exact_mod_cast c1)]
      rw [decide_eq_true c1] at k
      exact iteT k
    · rw [decide_eq_false (by exact_mod_cast c1)]
      rw [decide_eq_false c1, Bool.false_or] at k
      refine iteF ⟨_, rfl, b, dx, _, rfl, hb, rfl, b, dx, lr, _, _, _, rfl, hb, rfl, hB.rnd, e2, r.1, _, rfl, .inl (SqL.of hr1), rfl, _, rfl, ?_⟩
      rw [dI, List.length_map]
      by_cases c2 : r.2.length = 2
      · rw [decide_eq_true (by exact_mod_cast c2)]
        rw [decide_eq_true c2, Bool.true_and] at k
        refine iteT ⟨_, rfl, b, C, dx, _, _, rfl, hb, c.cl, c.rounds, rfl, lr, _, rfl, .inl (SqL.of hB.rnd), _, _, rfl, rfl, _, rfl, ?_⟩
        rw [List.length_map]
        have em : m.rounds.length = rl.length := by rw [hB.mods, List.length_map]
        rw [em] at k
        by_cases c3 : 1 < rl.length
        · rw [decide_eq_true (by exact_mod_cast c3)]
          rw [decide_eq_true c3, Bool.true_and] at k
          have hlt : rl.length - 2 < rl.length := by omega
          have e5 : (rrefs rl)[(rrefs rl).length - 2]? = some (.ref (rl[rl.length - 2]).1) := by
            rw [List.length_map, List.getElem?_map, List.getElem?_eq_getElem hlt]
            rfl
          have hr2 := (hB.all _ (List.getElem_mem hlt)).lst
          refine iteT ⟨_, rfl, b, C, dx, _, _, rfl, hb, c.cl, c.rounds, rfl, _, rfl, lr, _, _, _, rfl, rfl, SqL.of hB.rnd, atI_back (k := 2) (by decide) (by rw [List.length_map]; omega) e5, _, _, rfl, .inl (SqL.of hr2), rfl, ?_⟩
          rw [dI, List.length_map]
          have ep : m.prev.length = (rl[rl.length - 2]).2.length := by
            unfold Ar.B.prev
            rw [em, hB.mods, List.getD_eq_getElem?_getD, List.getElem?_map, List.getElem?_eq_getElem hlt]
            show (mmods _).length = _
            rw [List.length_map]
          rw [ep] at k
          have e6 : decide (((rl[rl.length - 2]).2.length : Int) = 2) = decide ((rl[rl.length - 2]).2.length = 2) := decide_eq_decide.mpr (by omega)
          have e7 : (((rl[rl.length - 2]).2.length : Nat) : Int) = ((rl[rl.length - 2]).2.length : Int) := rfl
          rw [show decide ((((rl[rl.length - 2]).2.length : Nat) : Int) = 2) = decide ((rl[rl.length - 2]).2.length = 2) from e6]
          exact k
        · rw [decide_eq_false (by exact_mod_cast c3)]
          rw [decide_eq_false c3, Bool.false_and] at k
          exact iteF k
      · rw [decide_eq_false (by exact_mod_cast c2)]
        rw [decide_eq_false c2, Bool.false_and] at k
        exact iteF k
end
end ArW
end
section
set_option Elab.async false
set_option maxRecDepth 100000
set_option maxHeartbeats 4000000
/-! Bracket: is_done, paired, __init__. -/
namespace ArW
open PySem PySem.Spec PyProof.Rows L2
open Kg64 (seats size)

theorem pairs_snoc (z : Bool) (x y : Int) : ∀ (n : Nat) (a : List Int), a.length = 2 * n → Ar.pairs z (a ++ [x, y]) = Ar.pairs z a ++ [Ar.M.new x y z]
  | 0, a, h => by
    obtain rfl : a = [] := List.length_eq_zero_iff.mp h
    rfl
  | n + 1, [], h => by simp at h
  | n + 1, [_], h => by simp at h; omega
  | n + 1, p :: q :: a, h => by
    show Ar.M.new p q z :: Ar.pairs z (a ++ [x, y]) = Ar.M.new p q z :: Ar.pairs z a ++ [_]
    rw [pairs_snoc z x y n a (by simp at h; omega)]
    rfl
theorem pairs_take (z : Bool) {l : List Int} {i : Nat} {x y : Int} (hx : l[2 * i]? = some x) (hy : l[2 * i + 1]? = some y) : Ar.pairs z (l.take (2 * (i + 1))) = Ar.pairs z (l.take (2 * i)) ++ [Ar.M.new x y z] := by
  have hl : 2 * i + 1 < l.length := (List.getElem?_eq_some_iff.mp hy).1
  rw [show 2 * (i + 1) = 2 * i + 1 + 1 by omega, take_snoc hy, take_snoc hx, List.append_assoc]
  exact pairs_snoc z x y i _ (by rw [List.length_take]; omega)
theorem MAll.snoc {C : Addr} {H : Hp} {l : ML} {x : Addr × Addr × Ar.M} (h : MAll C H l) (hx : MatchAt C H x.1 x.2.1 x.2.2) : MAll C H (l ++ [x]) := fun y hy => by
  rcases List.mem_append.mp hy with hy | hy
  · exact h y hy
  · rw [List.mem_singleton.mp hy]
    exact hx
theorem nd_snoc' {l : List Addr} {x : Addr} (h : l.Nodup) (hx : x ∉ l) : (l ++ [x]).Nodup := by
  rw [List.nodup_append]
  refine ⟨h, List.nodup_cons.mpr ⟨List.not_mem_nil, List.nodup_nil⟩, fun a ha b hb e => hx ?_⟩
  rw [List.mem_singleton.mp hb] at e
  exact e ▸ ha
section
variable {P : Program} {w : World} {K : PySem.W.Frag} {mg : Str → Option Value} {base : Heap} {f C CMa : Addr} {fd : FuncData}
theorem ok_bdone (F : FnP K "is_done" "Bracket.is_done" (sB 5) f fd) (c : CB K C) (cm : CM K CMa) (B : TB mg) (GL : MF P w K mg base C "last" 1 ["self"] (spBLast C)) (GA : MF P w K mg base C "is_last_of_all" 2 ["self"] (spBRead C CMa fun m => .bl m.lastOfAll))
    (GW : MF P w K mg base CMa "is_won" 1 ["self"] (spMRead CMa fun m => .bl m.won)) : FnOk P w K mg base CX0 3 f fd ["self"] (spBRead C CMa fun m => .bl m.done) := by
  refine fn_ok F scB5 (fun vs H Q E h => ?_) (fun cdv A outer s H vs Q E hr h => ?_)
  · obtain ⟨b, ls, lr, rl, m, rfl, _⟩ := h
    rfl
  · obtain ⟨b, ls, lr, rl, m, rfl, hB, k⟩ := h
    dsimp only at k
    unfold Ar.B.done at k
    obtain ⟨dx, hb⟩ := hB.obj
    obtain ⟨r, e1, e2, e3, e4⟩ := last_ref hB.some_ hB.mods
    have hr1 := (hB.all r e4).lst
    have hw1 := hB.wide r e4
    refine ⟨_, pss_one (ps_ret (pe_and (pe_m0 (X := _) GA c.cl hr (by decide) (pv 0)) (pe_one (pe_callB (cr_all rfl) (by rfl) B.all (by decide +kernel) (pa_cons (pe_lc (own := [("match", 1)]) (g := gName 1) (tt := tYes) rfl scB5.nd (pi_list (pe_m0 (X := _) GL c.cl hr (by decide) (pv 0))) (blkOk_by (N := ["self", "match"]) (sc := defScope (sB 5)) (by decide +kernel))
      (fun _ _ _ _ _ => pg_name (i := 1) scB5.nd rfl (Or.inl rfl)) (fun _ _ _ _ _ => pts_nil) (fun _ _ _ _ _ => pe_m0 (X := _) GW cm.cl hr (by decide) (pv 1))) pa_nil))))), ?_⟩
    refine ⟨_, rfl, b, dx, _, rfl, hb, rfl, b, ls, lr, rl, m, rfl, hB, fun H1 s1 => ⟨_, rfl, ?_⟩⟩
    cases hl : m.lastOfAll
    · rw [hl] at k
      exact iteF (k H1 s1)
    · rw [hl] at k
      have hB1 := hB.same s1
      refine iteT ⟨_, rfl, b, dx, _, rfl, s1 _ _ hb, rfl, b, dx, lr, _, _, _, rfl, s1 _ _ hb, rfl, hB1.rnd, e2, r.1, rfl, ⟨mrefs r.2, SqL.of (s1 _ _ hr1)⟩, fun D nD => lc_same (K := K) (a := r.1) (xs := mrefs r.2) (fun i => (r.2.take i).map fun x => V.bl x.2.2.won) nD (SqL.of (s1 _ _ hr1)) rfl
        (fun i hi => take_map_len (m := 1000) _ (by rw [List.length_map] at hi; omega)) (fun i x H2 Q1 Q0 hx s2 q1 q0 => ?_) fun H2 s2 hD => ?_⟩
      · obtain ⟨y, hy, rfl⟩ := map_at hx
        have hm := ((hB1.all r e4).all y (List.mem_of_getElem? hy)).same s2
        obtain ⟨dy, hoy⟩ := hm.obj
        exact ⟨rfl, _, rfl, y.1, dy, _, rfl, hoy, rfl, y.1, y.2.1, y.2.2, rfl, hm, q1 _ _ (Same.refl _) (take_map _ hy)⟩
      · refine ⟨D, r.2.map fun x => x.2.2.won, rfl, SqL.of ?_, ?_⟩
        · rw [hD, List.length_map, List.take_length, List.map_map]
          rfl
        · have := k _ (s1.trans s2)
          rw [e3] at this
          rw [Bool.true_and, List.all_map] at this
          rw [List.all_map]
          exact this
theorem ok_bpaired (F : FnP K "paired" "Bracket.paired" (sB 2) f fd) (c : CB K C) (B : TB mg) (GM : CF P w K mg base "Match" CMa 1 ["self", "first", "second", "by_sets"] (spMInit CMa)) : FnOk P w K mg base CX0 3 f fd ["self", "archers"] (spBPaired K C CMa) := by
  refine fn_ok F scB2 (fun vs H Q E h => ?_) (fun cdv A outer s H vs Q E hr h => ?_)
  · obtain ⟨b, dx, x, fs, l, z, n, rfl, _⟩ := h
    rfl
  · obtain ⟨b, dx, x, fs, l, z, n, rfl, hb, hf, hx, hl, hn, k⟩ := h
    refine ⟨_, pss_cons (ps_set (i := 2) scB2.nd rfl (.inl rfl) (pe_lst pa_nil)) (pss_cons (ps_for PassesOwn.never rfl (pi_range3 rfl B.range (pa_cons pe_int (pa_cons (pe_callB call_len_seq (by rfl) B.len PySem.boot_len (pa_cons (pv 1) pa_nil)) (pa_cons pe_int pa_nil)))) (pg_name (i := 3) scB2.nd rfl (Or.inl rfl))
      (pss_one (ps_expr (pe_bm PySem.F.plainAttrs_list PySem.F.slot_list_append PySem.F.type_list_append mt_append (pv 2) (pa_cons (pe_mk (X := _) GM hr (by decide) rfl (pa_cons (pe_ix ix_list (pv 1) (pv 3) (fun _ _ => rfl)) (pa_cons (pe_ix ix_list (pv 1) (pe_op op_add (pv 3) pe_int) (fun _ _ => rfl)) (pa_cons (pe_fld (pv 0) rfl) pa_nil)))) pa_nil)))))
      (pss_one (ps_ret (pv 2)))), ?_⟩
    refine ⟨Nat.zero_le _, fun R hR => ?_⟩
    have sR : Same H (upd H R (.lst [])) := Same.upd hR
    refine ⟨_, rfl, x, _, rfl, .inl (sR.seq hx), 0, _, 2, n, rfl, ?_, for_rangeC (n := n) (fun i σ H' => ∃ y ml, σ = [some (.ref b), some (.ref x), some (.ref R), y] ∧ Same H H' ∧ H' R = some (.lst (mrefs ml)) ∧ MAll CMa H' ml ∧ mmods ml = Ar.pairs z (l.take (2 * i)) ∧ (ml.map (·.1)).Nodup ∧
      (∀ q ∈ ml, H q.1 = none ∧ H q.2.1 = none) ∧ ml.length = i) ⟨_, [], rfl, sR, upd_same, fun _ h => absurd h List.not_mem_nil, rfl, List.nodup_nil, fun _ h => absurd h List.not_mem_nil, rfl⟩ (fun i σ H1 hi ⟨y, ml, es, s1, h1, h2, h3, h4, h5, h6⟩ => ?_) fun σ H1 ⟨y, ml, es, s1, h1, h2, h3, h4, h5, h6⟩ => ?_⟩
    · have q : ∀ n : Fin 101, Builtin.Range.small 0 ((2 * n.1 : Nat) : Int) 2 = true ∧ Builtin.Range.rangeSize 0 ((2 * n.1 : Nat) : Int) 2 = n.1 := by decide +kernel
      have q1 := q ⟨n, by omega⟩
      rw [ivs_length, hl]
      exact ⟨by decide, by decide, q1.1, q1.2⟩
    · subst es
      obtain ⟨u, hu⟩ : ∃ u, l[2 * i]? = some u := ⟨_, List.getElem?_eq_getElem (by omega)⟩
      obtain ⟨v, hv⟩ : ∃ v, l[2 * i + 1]? = some v := ⟨_, List.getElem?_eq_getElem (by omega)⟩
      have e0 : (0 : Int) + (i : Nat) * 2 = ((2 * i : Nat) : Int) := by omega
      have e1 : ((2 * i : Nat) : Int) + 1 = ((2 * i + 1 : Nat) : Int) := by omega
      rw [e0]
      refine ⟨_, rfl, .inl ⟨rfl, _, SqL.of h1⟩, _, rfl, _, rfl, x, _, _, _, rfl, rfl, s1.seq hx, atI_nat (v := V.int u) (by rw [List.getElem?_map, hu]; rfl), _, rfl, _, rfl, _, _, rfl, rfl, x, _, _, V.int v, rfl, rfl, s1.seq hx, ?_, ?_⟩
      · rw [e1]
        exact atI_nat (by rw [List.getElem?_map, hv]; rfl)
      · refine ⟨_, rfl, b, C, dx, _, _, rfl, s1 _ _ hb, c.cl, c.sets, hf, fun p dp hp hd hne => ?_⟩
        have keep : ∀ q o, H1 q = some o → upd (upd H1 dp (.own p)) p (.ins CMa dp []) q = some o := fun q o e => by
          rw [upd_ne (ne_of_none e hp), upd_ne (ne_of_none e hd)]
          exact e
        refine ⟨p, dp, u, v, z, rfl, upd_same, fun H2 sc hm2 b2 hsc => ⟨rfl, ?_⟩⟩
        have s2 : Same H1 H2 := fun q o e => b2 q o (keep q o e) (ne_of_none e hp)
        have npR : p ≠ R := Ne.symm (ne_of_none h1 hp)
        refine ⟨R, _, _, rfl, rfl, s2 _ _ h1, ?_, _, ml ++ [(p, sc, Ar.M.new u v z)], rfl, fun q o e => ?_, ?_, ?_, ?_, ?_, ?_, ?_⟩
        · rw [List.length_map]
          exact small (m := 1000) (by omega)
        · rw [upd_ne (ne_of_none e hR)]
          exact s2 _ _ (s1 _ _ e)
        · rw [upd_same]
          unfold mrefs
          rw [List.map_append]
          rfl
        · have up : ∀ q o, (∀ l, o ≠ HO.lst l) → H2 q = some o → upd H2 R (.lst (mrefs ml ++ [V.ref p])) q = some o := fun q o hn e => by
            rw [upd_ne (fun e' => by rw [e', s2 _ _ h1] at e; exact hn _ (Option.some.inj e).symm)]
            exact e
          have up2 : ∀ q a a', H2 q = some (.lst [.int a, .int a']) → upd H2 R (.lst (mrefs ml ++ [V.ref p])) q = some (.lst [.int a, .int a']) := fun q a a' e => by
            rw [upd_ne (fun e' => by
              rw [e', s2 _ _ h1] at e
              have e := HO.lst.inj (Option.some.inj e)
              cases ml with
              | nil => cases e
              | cons => cases e)]
            exact e
          refine MAll.snoc (fun q hq => ?_) ?_
          · obtain ⟨⟨dq, g1⟩, g2⟩ := (h2 q hq).same s2
            exact ⟨⟨dq, up _ _ (fun l z => by cases z) g1⟩, up2 _ _ _ g2⟩
          · obtain ⟨⟨dq, g1⟩, g2⟩ := hm2
            exact ⟨⟨dq, up _ _ (fun l z => by cases z) g1⟩, up2 _ _ _ g2⟩
        · rw [pairs_take z hu hv, ← h3]
          unfold mmods
          rw [List.map_append]
          rfl
        · rw [List.map_append]
          refine nd_snoc' h4 fun hmem => ?_
          obtain ⟨q, hq, e⟩ := List.mem_map.mp hmem
          obtain ⟨dq, g1⟩ := (h2 q hq).obj
          have e : q.1 = p := e
          rw [e, hp] at g1
          cases g1
        · intro q hq
          rcases List.mem_append.mp hq with hq | hq
          · exact h5 q hq
          · rw [List.mem_singleton.mp hq]
            refine ⟨s1.free hp, ?_⟩
            show H sc = none
            cases e : H sc with
            | none => rfl
            | some o =>
              rw [keep sc o (s1 _ _ e)] at hsc
              cases hsc
        · rw [List.length_append, h6]
          rfl
    · subst es
      rw [List.take_of_length_le (by omega)] at h3
      exact ⟨_, rfl, k H1 R ml s1 hR h1 h2 h3 h4 h5⟩
theorem pairs_len (z : Bool) : ∀ (n : Nat) (a : List Int), a.length = 2 * n → (Ar.pairs z a).length = n
  | 0, a, h => by
    obtain rfl : a = [] := List.length_eq_zero_iff.mp h
    rfl
  | n + 1, [], h => by simp at h
  | n + 1, [_], h => by simp at h; omega
  | n + 1, p :: q :: a, h => by
    show (Ar.pairs z a).length + 1 = n + 1
    rw [pairs_len z n a (by simp at h; omega)]
theorem scB0 : FnScope ["self", "seated", "by_sets", "order", "rank"] ["self", "seated", "by_sets"] (defScope (sB 0)) := ⟨rfl, rfl, rfl, by decide +kernel, rfl, by decide +kernel, by decide +kernel⟩
def spBInit (C CM : Addr) : Sp := fun vs H Q _ => ∃ (p dx ls : Addr) (l : List Int) (z : Bool), vs = [.ref p, .ref ls, .bl z] ∧ H p = some (.ins C dx []) ∧ H ls = some (.lst (ivs l)) ∧ 2 ≤ l.length ∧ l.length ≤ 32 ∧
  ∀ (H' : Hp) (lr : Addr) (rl : RL), BrAt C CM H' p ls lr rl (Ar.B.new l z) → But p H H' → H lr = none → (∀ x ∈ baddrs rl, H x = none) → Q .non H'
theorem ok_binit (F : FnP K "__init__" "Bracket.__init__" (sB 0) f fd) (c : CB K C) (B : TB mg) (GS : GF P w K mg base "seats" 1 ["count"] spSeats) (GR : MF P w K mg base C "at_rank" 1 ["self", "rank"] (spBRank C)) (GP : MF P w K mg base C "paired" 3 ["self", "archers"] (spBPaired K C CMa)) :
    FnOk P w K mg base CX0 4 f fd ["self", "seated", "by_sets"] (spBInit C CMa) := by
  refine fn_ok F scB0 (fun vs H Q E h => ?_) (fun cdv A outer s H vs Q E hr h => ?_)
  · obtain ⟨p, dx, ls, l, z, rfl, _⟩ := h
    rfl
  · obtain ⟨p, dx, ls, l, z, rfl, hp, hs, hl1, hl2, k⟩ := h
    have so := Ar.seatsOk hl1 hl2
    refine ⟨_, pss_cons (ps_fld (pv 0) (pv 2) rfl) (pss_cons (ps_fld (pv 0) (pv 1) rfl) (pss_cons (ps_set (i := 3) scB0.nd rfl (.inl rfl) (pe_g (X := _) GS hr (by decide) rfl (pa_cons (pe_callB call_len_seq (by rfl) B.len PySem.boot_len (pa_cons (pv 1) pa_nil)) pa_nil)))
      (pss_one (ps_fld (pv 0) (pe_lst (pa_cons (pe_m (X := _) GP c.cl hr (by decide) (pv 0) (pa_cons (pe_lc (own := [("rank", 4)]) (g := gName 4) (tt := tYes) rfl scB0.nd (pi_list (pv 3)) (blkOk_by (N := ["self", "seated", "by_sets", "order", "rank"]) (sc := defScope (sB 0)) (by decide +kernel))
        (fun _ _ _ _ _ => pg_name (i := 4) scB0.nd rfl (Or.inl rfl)) (fun _ _ _ _ _ => pts_nil) (fun _ _ _ _ _ => pe_m (X := _) GR c.cl hr (by decide) (pv 0) (pa_cons (pv 4) pa_nil))) pa_nil)) pa_nil)) rfl)))), ?_⟩
    have nlp : ls ≠ p := ne_of hs hp (by intro z; cases z)
    refine ⟨_, rfl, _, rfl, p, C, dx, _, rfl, hp, c.cl, c.sets, (by show 0 < 1000; decide), ?_⟩
    refine ⟨_, rfl, _, rfl, p, C, dx, _, rfl, upd_same, c.cl, c.seated, (by show 1 < 1000; decide), ?_⟩
    rw [upd_upd]
    have b0 : ∀ o, But p H (upd H p o) := fun o => But.upd p o H
    have hp0 : ∀ o, upd H p o p = some o := fun o => upd_same
    generalize hG : upd H p _ = G
    have g0 : But p H G := by rw [← hG]; exact b0 _
    have g1 : G p = some (.ins C dx [("by_sets", .bl z), ("seated", .ref ls)]) := by rw [← hG, upd_same]; rfl
    clear hG b0 hp0
    have g2 := g0 _ _ hs nlp
    refine ⟨_, rfl, ls, _, rfl, .inl (SqL.of g2), l.length, by rw [ivs_length]; rfl, hl1, hl2, fun H1 po s1 npo hpo => ?_⟩
    refine ⟨_, rfl, p, dx, _, rfl, s1 _ _ g1, rfl, _, rfl, po, rfl, ⟨natV (seats (size l.length)), SqL.of hpo⟩, fun D nD => lc_same (K := K) (a := po) (xs := natV (seats (size l.length))) (fun i => ivs (((seats (size l.length)).take i).map (Ar.atRank l))) nD (SqL.of hpo) rfl (fun i hi => ?_) (fun i x H2 Q1 Q0 hx s2 q1 q0 => ?_) fun H2 s2 hD => ?_⟩
    · rw [List.length_map, so.len] at hi
      have h5 : 2 ^ size l.length ≤ 2 ^ 5 := Nat.pow_le_pow_right (by decide) so.five
      rw [ivs_length, List.length_map, List.length_take]
      exact small (m := 1000) (by omega)
    · obtain ⟨r, hr1, rfl⟩ := map_at hx
      refine ⟨rfl, _, rfl, p, dx, _, rfl, s2 _ _ (s1 _ _ g1), rfl, _, rfl, p, dx, ls, _, l, r, rfl, s2 _ _ (s1 _ _ g1), rfl, s2 _ _ (s1 _ _ g2), so.pos r (List.mem_of_getElem? hr1), q1 _ _ (Same.refl _) ?_⟩
      rw [take_map _ hr1, ivs_snoc]
    · have e1 : (natV (seats (size l.length))).length = (seats (size l.length)).length := List.length_map ..
      rw [e1, List.take_length] at hD
      have hlen : ((seats (size l.length)).map (Ar.atRank l)).length = 2 * 2 ^ (size l.length - 1) := by
        rw [List.length_map, so.len]
        have := so.one
        rw [← Nat.pow_succ']
        congr 1
        omega
      have h4 : 2 ^ (size l.length - 1) ≤ 2 ^ 4 := Nat.pow_le_pow_right (by decide) (by have := so.five; omega)
      refine ⟨p, dx, D, _, _, z, _, rfl, s2 _ _ (s1 _ _ g1), rfl, SqL.of hD, hlen, by omega, fun H3 p2 ml s3 np2 h1 h2 h3 h4' h5 => ⟨by show 1 ≤ sizeLine; decide, fun lr hlr => ?_⟩⟩
      have s4 : Same G (upd H3 lr (.lst [.ref p2])) := ((s1.trans s2).trans s3).trans (Same.upd hlr)
      refine ⟨_, rfl, p, C, dx, _, rfl, s4 _ _ g1, c.cl, c.rounds, (by show 2 < 1000; decide), ?_⟩
      have s04 : But p H (upd H3 lr (.lst [.ref p2])) := g0.same s4
      have fr : ∀ q, H3 q = none ∨ H2 q = none → H q = none := fun q hq => by
        cases e : H q with
        | none => rfl
        | some o =>
          by_cases hqp : q = p
          · subst hqp
            have a1 := s2 _ _ (s1 _ _ g1)
            rcases hq with hq | hq
            · rw [s3 _ _ a1] at hq; cases hq
            · rw [a1] at hq; cases hq
          · have a1 := s2 _ _ (s1 _ _ (g0 q o e hqp))
            rcases hq with hq | hq
            · rw [s3 _ _ a1] at hq; cases hq
            · rw [a1] at hq; cases hq
      have nlr : p ≠ lr := ne_of_none ((s1.trans (s2.trans s3)) _ _ g1) hlr
      have np : ∀ q o, H3 q = some o → q ≠ p → upd (upd H3 lr (.lst [.ref p2])) p (.ins C dx (putF "rounds" (.ref lr) [("by_sets", .bl z), ("seated", .ref ls)])) q = some o := fun q o e n => by
        rw [upd_ne n, upd_ne (ne_of_none e hlr)]
        exact e
      have s13 := (s1.trans s2).trans s3
      have pG := s13 _ _ g1
      have lenml : ml.length = 2 ^ (size l.length - 1) := by
        have := congrArg List.length h3
        rw [List.length_map, pairs_len z _ _ hlen] at this
        exact this
      refine k _ lr [(p2, ml)] ⟨⟨dx, ?_⟩, ?_, ?_, fun r hr2 => ?_, ?_, by show 1 ≤ 20; decide, fun r hr2 => ?_, List.cons_ne_nil _ _, hl2, ?_⟩ (s04.trans (But.upd _ _ _)) (fr lr (.inl hlr)) fun x hx => ?_
      · rw [upd_same]
        rfl
      · exact np _ _ (s13 _ _ g2) nlp
      · rw [upd_ne (Ne.symm nlr), upd_same]
        rfl
      · obtain rfl := List.mem_singleton.mp hr2
        refine ⟨np _ _ h1 (ne_of h1 pG (by intro z; cases z)), fun q hq => ?_⟩
        obtain ⟨⟨dq, m1⟩, m2⟩ := h2 q hq
        refine ⟨⟨dq, np _ _ m1 fun e => ?_⟩, np _ _ m2 (ne_of m2 pG (by intro z; cases z))⟩
        have := (h5 q hq).1
        rw [e] at this
        rw [s2 _ _ (s1 _ _ g1)] at this
        cases this
      · unfold Ar.B.new
        show [Ar.pairs z _] = [mmods ml]
        rw [h3]
      · obtain rfl := List.mem_singleton.mp hr2
        show ml.length ≤ 16
        omega
      · unfold maddrs
        rw [List.flatMap_cons, List.flatMap_nil, List.append_nil]
        exact h4'
      · unfold baddrs at hx
        rw [List.flatMap_cons, List.flatMap_nil, List.append_nil] at hx
        rcases List.mem_cons.mp hx with hx | hx
        · rw [hx]
          exact fr p2 (.inr np2)
        · obtain ⟨q, hq, hx⟩ := List.mem_flatMap.mp hx
          simp only [List.mem_cons, List.not_mem_nil, or_false] at hx
          rcases hx with hx | hx
          · rw [hx]
            exact fr _ (.inr (h5 q hq).1)
          · rw [hx]
            exact fr _ (.inr (h5 q hq).2)
end
end ArW
end
section
set_option Elab.async false
set_option maxRecDepth 100000
set_option maxHeartbeats 4000000
/-! Bracket.go_on. -/
namespace ArW
open PySem PySem.Spec PyProof.Rows L2

theorem next_last (m : Ar.B) : m.next.last = Ar.pairs m.sets m.nextSeats := by
  unfold Ar.B.next Ar.B.last
  rw [List.getLastD_eq_getLast?]
  show ((m.rounds ++ [Ar.pairs m.sets m.nextSeats]).getLast?).getD [] = _
  rw [List.getLast?_concat]
  rfl
theorem next_more {m : Ar.B} (h : m.more = true) (hl : 2 ≤ m.last.length) : m.next.more = false := by
  unfold Ar.B.more at h
  rw [Bool.and_eq_true] at h
  have hw := h.1
  obtain ⟨x, y, r, e⟩ : ∃ x y r, m.last = x :: y :: r := by
    cases e1 : m.last with
    | nil => rw [e1] at hl; simp at hl
    | cons x l =>
      cases l with
      | nil => rw [e1] at hl; simp at hl
      | cons y r => exact ⟨x, y, r, rfl⟩
  rw [e] at hw
  simp only [List.all_cons, Bool.and_eq_true] at hw
  have hx : x.winner ≠ -1 := of_decide_eq_true hw.1
  have hy : y.winner ≠ -1 := of_decide_eq_true hw.2.1
  unfold Ar.B.more
  rw [next_last]
  have en : ∃ t, m.nextSeats = x.winner :: y.winner :: t := by
    unfold Ar.B.nextSeats
    rw [e]
    exact ⟨_, rfl⟩
  obtain ⟨t, en⟩ := en
  rw [en]
  have : (Ar.M.new x.winner y.winner m.sets).won = false := by
    unfold Ar.M.won Ar.M.new
    show decide ((if x.winner = -1 then y.winner else if y.winner = -1 then x.winner else -1) ≠ -1) = false
    rw [if_neg hx, if_neg hy]
    rfl
  show ((Ar.M.new x.winner y.winner m.sets).won && _ && _) = false
  rw [this]
  rfl
/-- the last round is one match, or of an even count -/
structure GoOk (m : Ar.B) : Prop where
  few : m.rounds.length ≤ 19
  even : m.last.length = 1 ∨ ∃ n, 1 ≤ n ∧ m.last.length = 2 * n
theorem nextSeats_len {m : Ar.B} {n : Nat} (h1 : 1 ≤ n) (h2 : n ≤ 8) (h : m.last.length = 2 * n) : ∃ k, m.nextSeats.length = 2 * k ∧ k ≤ 16 := by
  unfold Ar.B.nextSeats
  by_cases c : m.last.length = 2
  · rw [if_pos c]
    exact ⟨2, by simp [c], by decide⟩
  · rw [if_neg c]
    exact ⟨n, by simp [h], by omega⟩
theorem maddrs_snoc (rl : RL) (r : Addr × ML) : maddrs (rl ++ [r]) = maddrs rl ++ r.2.map (·.1) := by
  unfold maddrs
  rw [List.flatMap_append, List.flatMap_cons, List.flatMap_nil, List.append_nil]
/-- a field read within a comprehension -/
theorem pe_fldK {X : Cx} {K : PySem.W.Frag} {e : Expr} {f : Str} {pos : Pos} {ta : TE} (he : PE X e ta) (hb : attributeBase e f X.env (eval e X.env) = eval e X.env) (hK : X.K = K) : PE X (.Attribute e f pos) (tFld K ta f) := by
  subst hK
  exact pe_fld he hb
theorem baddrs_snoc (rl : RL) (r : Addr × ML) : baddrs (rl ++ [r]) = baddrs rl ++ (r.1 :: r.2.flatMap fun x => [x.1, x.2.1]) := by
  unfold baddrs
  rw [List.flatMap_append, List.flatMap_cons, List.flatMap_nil, List.append_nil]
abbrev nGo : List Str := ["self", "archers", "match"]
theorem scB6 : FnScope nGo ["self"] (defScope (sB 6)) := ⟨rfl, rfl, rfl, by decide +kernel, rfl, by decide +kernel, by decide +kernel⟩
def spBGo (C CM : Addr) : Sp := fun vs H Q _ => ∃ (b ls lr : Addr) (rl : RL) (m : Ar.B), vs = [.ref b] ∧ BrAt C CM H b ls lr rl m ∧ GoOk m ∧
  ∀ (H' : Hp) (rl' : RL), BrAt C CM H' b ls lr rl' m.goOn → But lr H H' → (∀ x ∈ baddrs rl', x ∈ baddrs rl ∨ H x = none) → Q .non H'
/-- behind an append to the list of the rounds -/
theorem BrAt.grow {C CM b ls lr : Addr} {H : Hp} {rl : RL} {m : Ar.B} (h : BrAt C CM H b ls lr rl m) {p : Addr} {ml : ML} (hp : H p = some (.lst (mrefs ml))) (hm : MAll CM H ml) (hn : (ml.map (·.1)).Nodup) (hd : ∀ x ∈ ml, x.1 ∉ maddrs rl) (hf : rl.length ≤ 19) (hw : ml.length ≤ 16) (ho : ∀ x ∈ ml, x.1 ≠ p)
    {L : List Ar.M} (hL : mmods ml = L) :
    BrAt C CM (upd H lr (.lst (rrefs rl ++ [.ref p]))) b ls lr (rl ++ [(p, ml)]) { m with rounds := m.rounds ++ [L] } := by
  obtain ⟨⟨dx, h1⟩, h2, h3, h4, h5, h6, h7, h8, h9, h10⟩ := h
  obtain ⟨r0, rt, er⟩ : ∃ r t, rl = r :: t := by
    cases rl with
    | nil => exact absurd rfl h8
    | cons r t => exact ⟨r, t, rfl⟩
  -- what the list of the rounds is not
  have hr0 : ∃ xs, H r0.1 = some (.lst xs) := ⟨_, (h4 r0 (by rw [er]; exact List.mem_cons_self)).lst⟩
  have eI : ∀ q o, (∀ l, o ≠ HO.lst l) → H q = some o → upd H lr (.lst (rrefs rl ++ [.ref p])) q = some o := fun q o hn e => by
    rw [upd_ne (fun z => by rw [z, h3] at e; exact hn _ (Option.some.inj e).symm)]
    exact e
  have eN : ∀ q (l : List Int), l ≠ [] ∨ True → H q = some (.lst (ivs l)) → upd H lr (.lst (rrefs rl ++ [.ref p])) q = some (.lst (ivs l)) := fun q l _ e => by
    rw [upd_ne (fun z => by
      rw [z, h3, er] at e
      have e := HO.lst.inj (Option.some.inj e)
      cases l with
      | nil => cases e
      | cons => cases e)]
    exact e
  have eM : ∀ q (l : ML), (∀ x ∈ l, ∃ C' dx fs, H x.1 = some (.ins C' dx fs)) → H q = some (.lst (mrefs l)) → upd H lr (.lst (rrefs rl ++ [.ref p])) q = some (.lst (mrefs l)) := fun q l hi e => by
    rw [upd_ne (fun z => by
      rw [z, h3, er] at e
      have e := HO.lst.inj (Option.some.inj e)
      cases l with
      | nil => cases e
      | cons x l =>
        obtain ⟨C', dx', fs, hx⟩ := hi x List.mem_cons_self
        obtain ⟨xs, hxs⟩ := hr0
        have e1 : r0.1 = x.1 := V.ref.inj (List.cons.inj e).1
        rw [e1, hx] at hxs
        cases hxs)]
    exact e
  have mm : ∀ (l : ML), MAll CM H l → MAll CM (upd H lr (.lst (rrefs rl ++ [.ref p]))) l := fun l hl x hx => by
    obtain ⟨⟨dq, g1⟩, g2⟩ := hl x hx
    exact ⟨⟨dq, eI _ _ (fun l z => by cases z) g1⟩, eN _ _ (.inr trivial) g2⟩
  have ins : ∀ l : ML, MAll CM H l → ∀ x ∈ l, ∃ C' dx fs, H x.1 = some (.ins C' dx fs) := fun l hl x hx => by
    obtain ⟨⟨dq, g1⟩, g2⟩ := hl x hx
    exact ⟨_, _, _, g1⟩
  refine ⟨⟨dx, eI _ _ (fun l z => by cases z) h1⟩, eN _ _ (.inr trivial) h2, ?_, fun r hr => ?_, ?_, ?_, fun r hr => ?_, ?_, h9, ?_⟩
  · rw [upd_same]
    unfold rrefs
    rw [List.map_append]
    rfl
  · rcases List.mem_append.mp hr with hr | hr
    · exact ⟨eM _ _ (ins _ (h4 r hr).all) (h4 r hr).lst, mm _ (h4 r hr).all⟩
    · obtain rfl := List.mem_singleton.mp hr
      exact ⟨eM _ _ (ins _ hm) hp, mm _ hm⟩
  · show m.rounds ++ [L] = rmods (rl ++ [(p, ml)])
    unfold rmods
    rw [List.map_append, h5, ← hL]
    rfl
  · rw [List.length_append]
    show rl.length + 1 ≤ 20
    omega
  · rcases List.mem_append.mp hr with hr | hr
    · exact h7 r hr
    · obtain rfl := List.mem_singleton.mp hr
      exact hw
  · rw [er]
    exact List.cons_ne_nil _ _
  · rw [maddrs_snoc, List.nodup_append]
    refine ⟨h10, hn, fun a ha b' hb e => ?_⟩
    obtain ⟨x, hx, ex⟩ := List.mem_map.mp hb
    refine hd x hx ?_
    have ex : x.1 = b' := ex
    rw [ex, ← e]
    exact ha
section
variable {P : Program} {w : World} {K : PySem.W.Frag} {mg : Str → Option Value} {base : Heap} {f C CMa : Addr} {fd : FuncData}
/-- which way the loop stands -/
def GoSt (C CM b ls lr : Addr) (rl : RL) (m : Ar.B) (H H' : Hp) (n : Nat) : Prop := ∃ rl' m', BrAt C CM H' b ls lr rl' m' ∧ But lr H H' ∧ (∀ x ∈ baddrs rl', x ∈ baddrs rl ∨ H x = none) ∧ ((m' = m ∧ rl' = rl ∧ n = 1) ∨ (m' = m.next ∧ m.more = true ∧ n = 0))
theorem ok_bgo (F : FnP K "go_on" "Bracket.go_on" (sB 6) f fd) (c : CB K C) (cm : CM K CMa) (B : TB mg) (GL : MF P w K mg base C "last" 1 ["self"] (spBLast C)) (GA : MF P w K mg base C "is_last_of_all" 2 ["self"] (spBRead C CMa fun m => .bl m.lastOfAll))
    (GW : MF P w K mg base CMa "is_won" 1 ["self"] (spMRead CMa fun m => .bl m.won)) (GO : MF P w K mg base CMa "loser" 1 ["self"] (spMRead CMa fun m => .int m.loser)) (GP : MF P w K mg base C "paired" 3 ["self", "archers"] (spBPaired K C CMa)) :
    FnOk P w K mg base CX0 4 f fd ["self"] (spBGo C CMa) := by
  refine fn_ok F scB6 (fun vs H Q E h => ?_) (fun cdv A outer s H vs Q E hr h => ?_)
  · obtain ⟨b, ls, lr, rl, m, rfl, _⟩ := h
    rfl
  · obtain ⟨b, ls, lr, rl, m, rfl, hB, hg, k⟩ := h
    refine ⟨_, pss_one (ps_while PassesOwn.never (PW.pt (pw_and (pt_val (pe_callB (cr_all rfl) (by rfl) B.all (by decide +kernel) (pa_cons (pe_lc (own := [("match", 2)]) (g := gName 2) (tt := tYes) rfl scB6.nd (pi_list (pe_m0 (X := _) GL c.cl hr (by decide) (pv 0))) (blkOk_by (N := nGo) (sc := defScope (sB 6)) (by decide +kernel))
        (fun _ _ _ _ _ => pg_name (i := 2) scB6.nd rfl (Or.inl rfl)) (fun _ _ _ _ _ => pts_nil) (fun _ _ _ _ _ => pe_m0 (X := _) GW cm.cl hr (by decide) (pv 2))) pa_nil))) (pw_and1 (pt_not (pt_val (pe_m0 (X := _) GA c.cl hr (by decide) (pv 0)))))))
      (pss_cons (ps_setLc (i := 1) (own := [("match", 2)]) (g := gName 2) (tt := tYes) rfl scB6.nd rfl rfl (sw_true rfl rfl rfl (by decide +kernel)) (pi_list (pe_m0 (X := _) GL c.cl hr (by decide) (pv 0))) (blkOk_by (N := nGo) (sc := defScope (sB 6)) (by decide +kernel))
        (fun _ _ _ _ _ => pg_name (i := 2) scB6.nd rfl (Or.inl rfl)) (fun _ _ _ _ _ => pts_nil) (fun _ _ _ _ _ => pe_fldK (K := K) (pv 2) rfl rfl))
      (pss_cons (ps_if (pt_cmpR op_eq (pe_callB call_len_seq (by rfl) B.len PySem.boot_len (pa_cons (pe_m0 (X := _) GL c.cl hr (by decide) (pv 0)) pa_nil)) pe_int (nomark _))
        (pss_one (ps_expr (pe_bm PySem.F.plainAttrs_list PySem.F.slot_list_extend PySem.F.type_list_extend mt_extend (pv 1) (pa_cons (pe_lc (own := [("match", 2)]) (g := gName 2) (tt := tYes) rfl scB6.nd (pi_list (pe_m0 (X := _) GL c.cl hr (by decide) (pv 0))) (blkOk_by (N := nGo) (sc := defScope (sB 6)) (by decide +kernel))
          (fun _ _ _ _ _ => pg_name (i := 2) scB6.nd rfl (Or.inl rfl)) (fun _ _ _ _ _ => pts_nil) (fun _ _ _ _ _ => pe_m0 (X := _) GO cm.cl hr (by decide) (pv 2))) pa_nil)))) pss_nil)
      (pss_one (ps_expr (pe_bm PySem.F.plainAttrs_list PySem.F.slot_list_append PySem.F.type_list_append mt_append (pe_fld (pv 0) rfl) (pa_cons (pe_m (X := _) GP c.cl hr (by decide) (pv 0) (pa_cons (pv 1) pa_nil)) pa_nil))))))), ?_⟩
    refine ⟨fun n σ H' => ∃ x y, σ = [some (.ref b), x, y] ∧ GoSt C CMa b ls lr rl m H H' n, ⟨1, none, none, rfl, rl, m, hB, fun b o e _ => e, fun x hx => .inl hx, .inl ⟨rfl, rfl, rfl⟩⟩, ?_⟩
    rintro n σ H1 ⟨x, y, rfl, rl1, m1, hB1, bt1, fr1, way⟩
    obtain ⟨dx, hb⟩ := hB1.obj
    obtain ⟨r, e1, e2, e3, e4⟩ := last_ref hB1.some_ hB1.mods
    have hr1 := (hB1.all r e4).lst
    have hw1 := hB1.wide r e4
    have gm : m1 = m → 2 ≤ m.last.length ∨ m.last.length = 1 := fun _ => by
      rcases hg.even with e | ⟨n, h1, h2⟩
      · exact .inr e
      · exact .inl (by omega)
    have fin : m1.more = false → ∀ H', Same H1 H' → Q .non H' := fun hm H' s' => by
      refine k H' rl1 ?_ (bt1.same s') fr1
      rcases way with ⟨w1, _, _⟩ | ⟨w1, w2, _⟩
      · unfold Ar.B.goOn
        rw [← w1, hm]
        exact hB1.same s'
      · unfold Ar.B.goOn
        rw [w2, if_pos rfl, ← w1]
        exact hB1.same s'
    have wAll : (r.2.map fun x => x.2.2.won).all id = m1.last.all Ar.M.won := by
      rw [e3, List.all_map, List.all_map]
      rfl
    refine ⟨_, rfl, b, dx, _, rfl, hb, rfl, b, dx, lr, _, _, _, rfl, hb, rfl, hB1.rnd, e2, r.1, rfl, ⟨mrefs r.2, SqL.of hr1⟩, fun D nD => lc_same (K := K) (a := r.1) (xs := mrefs r.2) (fun i => (r.2.take i).map fun x => V.bl x.2.2.won) nD (SqL.of hr1) rfl
      (fun i hi => take_map_len (m := 1000) _ (by rw [List.length_map] at hi; omega)) (fun i x H2 Q1 Q0 hx s2 q1 q0 => ?_) fun H2 s2 hD => ?_⟩
    · obtain ⟨y, hy, rfl⟩ := map_at hx
      have hm := ((hB1.all r e4).all y (List.mem_of_getElem? hy)).same s2
      obtain ⟨dy, hoy⟩ := hm.obj
      exact ⟨rfl, _, rfl, y.1, dy, _, rfl, hoy, rfl, y.1, y.2.1, y.2.2, rfl, hm, q1 _ _ (Same.refl _) (take_map _ hy)⟩
    refine ⟨D, r.2.map fun x => x.2.2.won, rfl, SqL.of ?_, ?_⟩
    · rw [hD, List.length_map, List.take_length, List.map_map]
      rfl
    rw [wAll]
    refine ⟨_, rfl, ?_⟩
    cases hwl : m1.last.all Ar.M.won
    · exact iteF (iteF (fin (by unfold Ar.B.more; rw [hwl]; rfl) _ s2))
    refine iteT ⟨_, rfl, b, dx, _, rfl, s2 _ _ hb, rfl, b, ls, lr, rl1, m1, rfl, hB1.same s2, fun H3 s3 => ⟨_, rfl, ?_⟩⟩
    have s13 := s2.trans s3
    cases hla : m1.lastOfAll
    rotate_left
    · exact iteF (fin (by unfold Ar.B.more; rw [hwl, hla]; rfl) _ s13)
    have hmore : m1.more = true := by
      unfold Ar.B.more
      rw [hwl, hla]
      rfl
    -- the body is run once
    obtain ⟨rfl, rfl, rfl⟩ : m1 = m ∧ rl1 = rl ∧ n = 1 := by
      rcases way with w | ⟨w1, w2, _⟩
      · exact w
      · have h2 : 2 ≤ m.last.length := by
          rcases hg.even with e | ⟨n, h1, h2⟩
          · unfold Ar.B.more Ar.B.lastOfAll at w2
            rw [e] at w2
            simp at w2
          · omega
        have := next_more w2 h2
        rw [← w1, hmore] at this
        cases this
    have l2 : m1.last.length ≠ 1 := fun z => by
      unfold Ar.B.lastOfAll at hla
      rw [z] at hla
      cases hla
    obtain ⟨nn, hn1, hn2⟩ : ∃ n, 1 ≤ n ∧ m1.last.length = 2 * n := hg.even.resolve_left l2
    have lr2 : r.2.length = m1.last.length := by rw [e3, List.length_map]
    obtain ⟨kk, hk1, hk2⟩ := nextSeats_len hn1 (by omega) hn2
    have few1 : rl1.length ≤ 19 := by
      have := hg.few
      rw [hB.mods, List.length_map] at this
      exact this
    refine iteT ⟨fun σ' H' => ∃ n', n' < 1 ∧ ∃ x y, σ' = [some (.ref b), x, y] ∧ GoSt C CMa b ls lr rl1 m1 H H' n', fun σ' H' h => h, ?_⟩
    have hB3 := hB1.same s13
    have tail : ∀ (D : Ends) (a : Addr) (y : Option V) (H4 : Hp), Same H1 H4 → H4 a = some (.lst (ivs m1.nextSeats)) → (∀ H', GoSt C CMa b ls lr rl1 m1 H H' 0 → D.nx [some (.ref b), some (.ref a), y] H') →
        (tDrop (tBM K "list" rAppend (tFld K (tVar 0) "rounds") (tCons (tMeth C "paired" (spBPaired K C CMa) [] E0 (tVar 0) (tCons (tVar 1) tNil)) tNil))) D [some (.ref b), some (.ref a), y] H4 := fun D a y H4 s4 ha hD => by
      have hB4 := hB1.same s4
      refine ⟨_, rfl, b, C, dx, _, _, rfl, s4 _ _ hb, c.cl, c.rounds, rfl, .inl ⟨rfl, _, SqL.of hB4.rnd⟩, _, rfl, b, dx, _, rfl, s4 _ _ hb, rfl, _, rfl, b, dx, a, _, m1.nextSeats, m1.sets, kk, rfl, s4 _ _ hb, rfl, SqL.of ha, hk1, by omega, fun H5 p ml s5 np h1 h2 h3 h4 h5 => ?_⟩
      have s15 := s4.trans s5
      have hB5 := hB1.same s15
      refine ⟨lr, _, _, rfl, rfl, hB5.rnd, by rw [List.length_map]; exact small (m := 1000) (by omega), hD _ ⟨rl1 ++ [(p, ml)], m1.next, ?_, (bt1.same s15).trans (But.upd _ _ _), fun x hx => ?_, .inr ⟨rfl, hmore, rfl⟩⟩⟩
      · have lenml : ml.length = kk := by
          have := congrArg List.length h3
          rw [List.length_map, pairs_len _ _ _ hk1] at this
          exact this
        refine hB5.grow h1 h2 h4 (fun x hx hmem => ?_) few1 (by omega) (fun x hx e => ?_) h3
        · have := (h5 x hx).1
          obtain ⟨q, hq, hq2⟩ := List.mem_flatMap.mp hmem
          obtain ⟨z, hz, ez⟩ := List.mem_map.mp hq2
          obtain ⟨dz, hz1⟩ := ((hB1.all q hq).all z hz).obj
          have ez : z.1 = x.1 := ez
          rw [← ez, s4 _ _ hz1] at this
          cases this
        · obtain ⟨dz, hz1⟩ := (h2 x hx).obj
          rw [e, h1] at hz1
          cases hz1
      · have fr : ∀ q, H4 q = none → H q = none := fun q hnone => by
          cases eH : H q with
          | none => rfl
          | some o =>
            by_cases exl : q = lr
            · rw [exl, s4 _ _ hB1.rnd] at hnone
              cases hnone
            · rw [s4 _ _ (bt1 q o eH exl)] at hnone
              cases hnone
        rw [baddrs_snoc] at hx
        rcases List.mem_append.mp hx with hx | hx
        · exact .inl hx
        · refine .inr ?_
          rcases List.mem_cons.mp hx with hx | hx
          · rw [hx]
            exact fr p np
          · obtain ⟨q, hq, hx⟩ := List.mem_flatMap.mp hx
            simp only [List.mem_cons, List.not_mem_nil, or_false] at hx
            rcases hx with hx | hx
            · rw [hx]
              exact fr _ (h5 q hq).1
            · rw [hx]
              exact fr _ (h5 q hq).2
    refine ⟨_, rfl, b, dx, _, rfl, s13 _ _ hb, rfl, b, dx, lr, _, _, _, rfl, s13 _ _ hb, rfl, hB3.rnd, e2, r.1, rfl, ⟨mrefs r.2, SqL.of (s13 _ _ hr1)⟩, fun A1 nA => lc_same (K := K) (a := r.1) (xs := mrefs r.2) (fun i => (r.2.take i).map fun x => V.int x.2.2.winner) nA (SqL.of (s13 _ _ hr1)) rfl
      (fun i hi => take_map_len (m := 1000) _ (by rw [List.length_map] at hi; omega)) (fun i x H4 Q1 Q0 hx s4 q1 q0 => ?_) fun H4 s4 hA => ?_⟩
    · obtain ⟨y, hy, rfl⟩ := map_at hx
      obtain ⟨dy, hoy⟩ := (((hB3.all r e4).all y (List.mem_of_getElem? hy)).same s4).obj
      exact ⟨rfl, _, rfl, y.1, CMa, dy, _, _, rfl, hoy, cm.cl, cm.winner, rfl, q1 _ _ (Same.refl _) (take_map _ hy)⟩
    have s14 := s13.trans s4
    have hB4 := hB1.same s14
    have hA' : H4 A1 = some (.lst (ivs (m1.last.map (·.winner)))) := by
      rw [hA, List.length_map, List.take_length, e3]
      unfold ivs mmods
      rw [List.map_map, List.map_map]
      rfl
    have nA1 : H1 A1 = none := s13.free nA
    refine ⟨_, rfl, b, dx, _, rfl, s14 _ _ hb, rfl, b, dx, lr, _, _, _, rfl, s14 _ _ hb, rfl, hB4.rnd, e2, r.1, _, rfl, .inl (SqL.of (s14 _ _ hr1)), rfl, _, rfl, ?_⟩
    rw [dI, List.length_map]
    have done : ∀ (y : Option V) H', GoSt C CMa b ls lr rl1 m1 H H' 0 → ∃ n', n' < 1 ∧ ∃ x y', [some (.ref b), some (.ref A1), y] = [some (.ref b), x, y'] ∧ GoSt C CMa b ls lr rl1 m1 H H' n' := fun y H' h => ⟨0, by decide, _, _, rfl, h⟩
    by_cases c2 : r.2.length = 2
    · rw [decide_eq_true (by exact_mod_cast c2)]
      refine iteT ⟨_, rfl, .inl ⟨rfl, _, SqL.of hA'⟩, _, rfl, b, dx, _, rfl, s14 _ _ hb, rfl, b, dx, lr, _, _, _, rfl, s14 _ _ hb, rfl, hB4.rnd, e2, r.1, rfl, ⟨mrefs r.2, SqL.of (s14 _ _ hr1)⟩, fun A2 nA2 => lc_same (K := K) (a := r.1) (xs := mrefs r.2) (fun i => (r.2.take i).map fun x => V.int x.2.2.loser) nA2 (SqL.of (s14 _ _ hr1)) rfl
        (fun i hi => take_map_len (m := 1000) _ (by rw [List.length_map] at hi; omega)) (fun i x H5 Q1 Q0 hx s5 q1 q0 => ?_) fun H5 s5 hL => ?_⟩
      · obtain ⟨y, hy, rfl⟩ := map_at hx
        have hm := ((hB4.all r e4).all y (List.mem_of_getElem? hy)).same s5
        obtain ⟨dy, hoy⟩ := hm.obj
        exact ⟨rfl, _, rfl, y.1, dy, _, rfl, hoy, rfl, y.1, y.2.1, y.2.2, rfl, hm, q1 _ _ (Same.refl _) (take_map _ hy)⟩
      · have hL' : H5 A2 = some (.lst (ivs (m1.last.map Ar.M.loser))) := by
          rw [hL, List.length_map, List.take_length, e3]
          unfold ivs mmods
          rw [List.map_map, List.map_map]
          rfl
        refine ⟨A1, A2, _, _, rfl, rfl, s5 _ _ hA', hL', ?_, ?_⟩
        · rw [ivs_length, ivs_length, List.length_map, List.length_map]
          exact Nat.le_of_lt (small (m := 1000) (by omega))
        · refine tail _ A1 y _ (fun q o e => ?_) ?_ (done y)
          · rw [upd_ne (ne_of_none e nA1)]
            exact s5 _ _ (s14 _ _ e)
          · rw [upd_same]
            unfold Ar.B.nextSeats
            rw [if_pos (by omega), ivs_append]
    · rw [decide_eq_false (by exact_mod_cast c2)]
      refine iteF (tail _ A1 y _ s14 ?_ (done y))
      rw [hA']
      unfold Ar.B.nextSeats
      rw [if_neg (by omega), List.append_nil]
end
end ArW
end
section
set_option Elab.async false
set_option maxRecDepth 100000
set_option maxHeartbeats 4000000
/-! Bracket: last_match_of, standing. -/
namespace ArW
open PySem PySem.Spec PyProof.Rows L2

theorem before_idx : ∀ {l : List Int} {i u : Int} {q : Nat}, q < l.idxOf i → l[q]? = some u → u ≠ i
  | [], _, _, _, _, h => by simp at h
  | x :: l, i, u, q, hq, h => by
    rw [List.idxOf_cons] at hq
    cases e : (x == i) with
    | true => rw [e] at hq; simp at hq
    | false =>
      rw [e] at hq
      cases q with
      | zero =>
        have h : x = u := by simpa using h
        rw [← h]
        exact beq_eq_false_iff_ne.mp e
      | succ q =>
        refine before_idx (l := l) (q := q) ?_ (by simpa using h)
        simp at hq
        omega
/-- where archer i was last -/
def findAt (m : Ar.B) (i : Int) (t : Nat) : Option (Nat × Ar.M) := ((m.rounds.getD t []).find? fun x => x.has i).map fun x => (t, x)
theorem find_eq (m : Ar.B) (i : Int) : m.find i = (List.range m.rounds.length).reverse.findSome? (findAt m i) := rfl
theorem range_rev (k : Nat) : (List.range (k + 1)).reverse = k :: (List.range k).reverse := by
  rw [List.range_succ, List.reverse_append]
  rfl
theorem scB7 : FnScope ["self", "archer", "turn", "match"] ["self", "archer"] (defScope (sB 7)) := ⟨rfl, rfl, rfl, by decide +kernel, rfl, by decide +kernel, by decide +kernel⟩
theorem scB9 : FnScope ["self", "archer", "turn", "match"] ["self", "archer"] (defScope (sB 9)) := ⟨rfl, rfl, rfl, by decide +kernel, rfl, by decide +kernel, by decide +kernel⟩
def spBFind (C CM : Addr) : Sp := fun vs H Q _ => ∃ (b ls lr : Addr) (rl : RL) (m : Ar.B) (i : Int) (t : Nat) (mm : Ar.M), vs = [.ref b, .int i] ∧ BrAt C CM H b ls lr rl m ∧ m.find i = some (t, mm) ∧
  ∀ (H' : Hp) (p a sc : Addr), Same H H' → H p = none → H' p = some (.tup [.int (t : Nat), .ref a]) → MatchAt CM H' a sc mm → Q (.ref p) H'
def spBStand (C CM : Addr) : Sp := fun vs H Q _ => ∃ (b ls lr : Addr) (rl : RL) (m : Ar.B) (i : Int), vs = [.ref b, .int i] ∧ BrAt C CM H b ls lr rl m ∧ (m.find i).isSome = true ∧ i ∈ m.seated ∧
  ∀ (H' : Hp) (p : Addr), Same H H' → H p = none → H' p = some (.tup (ivs (m.standKey i))) → Q (.ref p) H'
section
variable {P : Program} {w : World} {K : PySem.W.Frag} {mg : Str → Option Value} {base : Heap} {f C CMa : Addr} {fd : FuncData}
theorem ok_bfind (F : FnP K "last_match_of" "Bracket.last_match_of" (sB 7) f fd) (c : CB K C) (cm : CM K CMa) (B : TB mg) (GH : MF P w K mg base CMa "has" 1 ["self", "archer"] (spMRead1 CMa fun m i => .bl (m.has i))) : FnOk P w K mg base CX0 2 f fd ["self", "archer"] (spBFind C CMa) := by
  refine fn_ok F scB7 (fun vs H Q E h => ?_) (fun cdv A outer s H vs Q E hr h => ?_)
  · obtain ⟨b, ls, lr, rl, m, i, t, mm, rfl, _⟩ := h
    rfl
  · obtain ⟨b, ls, lr, rl, m, i, t, mm, rfl, hB, hf, k⟩ := h
    obtain ⟨dx, hb⟩ := hB.obj
    have elen : m.rounds.length = rl.length := by rw [hB.mods, List.length_map]
    rw [find_eq, elen] at hf
    refine ⟨_, pss_cons (ps_for PassesOwn.never rfl (pi_range3 rfl B.range (pa_cons (pe_op op_sub (pe_callB call_len_seq (by rfl) B.len PySem.boot_len (pa_cons (pe_fld (pv 0) rfl) pa_nil)) pe_int) (pa_cons (pe_un un_neg pe_int) (pa_cons (pe_un un_neg pe_int) pa_nil)))) (pg_name (i := 2) scB7.nd rfl (Or.inl rfl))
      (pss_one (ps_for PassesOwn.never rfl (pi_list (pe_ix ix_list (pe_fld (pv 0) rfl) (pv 2) (fun _ _ => rfl))) (pg_name (i := 3) scB7.nd rfl (Or.inl rfl)) (pss_one (ps_if (pt_val (pe_m (X := _) GH cm.cl hr (by decide) (pv 3) (pa_cons (pv 1) pa_nil))) (pss_one (ps_ret (pe_tup (pa_cons (pv 2) (pa_cons (pv 3) pa_nil))))) pss_nil)))))
      (pss_one (ps_ret (pe_tup (pa_cons (pe_un un_neg pe_int) (pa_cons pe_non pa_nil))))), ?_⟩
    refine ⟨_, rfl, b, C, dx, _, _, rfl, hb, c.cl, c.rounds, rfl, lr, _, rfl, .inl (SqL.of hB.rnd), _, _, rfl, rfl, _, rfl, _, rfl, _, _, _, rl.length, rfl, ?_, for_rangeC (n := rl.length) (fun j σ H' => ∃ y z, σ = [some (.ref b), some (.int i), y, z] ∧ H = H' ∧ (List.range (rl.length - j)).reverse.findSome? (findAt m i) = some (t, mm))
      ⟨_, _, rfl, rfl, hf⟩ (fun j σ H1 hj ⟨y, z, es, eh, hf1⟩ => ?_) fun σ H1 ⟨y, z, es, eh, hf1⟩ => ?_⟩
    · have hq := RgC.neg (i := (rl.length : Int) - 1) (j := -1) (by omega) (by have := hB.few; omega) (by decide) (by decide)
      rw [show ((rl.length : Int) - 1 - -1).toNat = rl.length by omega] at hq
      rw [List.length_map]
      exact hq
    · subst es eh
      have hlt : rl.length - 1 - j < rl.length := by omega
      rw [show rl.length - j = (rl.length - 1 - j) + 1 by omega, range_rev, List.findSome?_cons] at hf1
      have eturn : ((rrefs rl).length : Int) - 1 + (j : Nat) * (-1) = ((rl.length - 1 - j : Nat) : Int) := by
        rw [List.length_map]
        omega
      rw [eturn]
      generalize htt : rl.length - 1 - j = tt at hlt hf1
      have hr1 := hB.all _ (List.getElem_mem hlt)
      have er : (rrefs rl)[tt]? = some (.ref (rl[tt]).1) := by
        rw [List.getElem?_map, List.getElem?_eq_getElem hlt]
        rfl
      have efa : findAt m i tt = ((mmods (rl[tt]).2).find? fun x => x.has i).map fun x => (tt, x) := by
        unfold findAt
        rw [hB.mods, List.getD_eq_getElem?_getD, List.getElem?_map, List.getElem?_eq_getElem hlt]
        rfl
      rw [efa] at hf1
      generalize rl[tt] = r at hr1 er hf1
      refine ⟨_, rfl, b, C, dx, _, _, rfl, hb, c.cl, c.rounds, rfl, _, rfl, lr, _, _, _, rfl, rfl, SqL.of hB.rnd, atI_nat er, r.1, rfl, ⟨mrefs r.2, SqL.of hr1.lst⟩, for_list (xs := mrefs r.2) (fun q σ H' => ∃ z, σ = [some (.ref b), some (.int i), some (.int (tt : Nat)), z] ∧ H = H' ∧ ∀ x ∈ (r.2.take q), x.2.2.has i = false)
        ⟨_, rfl, rfl, fun _ h => absurd h List.not_mem_nil⟩ (fun q σ H' _ ⟨_, _, e, _⟩ => by rw [← e]; exact SqL.of hr1.lst) (fun q x σ H' hx ⟨z, es, eh, hno⟩ => ?_) fun σ H' ⟨z, es, eh, hno⟩ => ?_⟩
      · obtain ⟨x, hxx, rfl⟩ := map_at hx
        subst es eh
        have hm := hr1.all x (List.mem_of_getElem? hxx)
        obtain ⟨dy, hoy⟩ := hm.obj
        refine ⟨_, rfl, x.1, dy, _, rfl, hoy, rfl, _, rfl, x.1, x.2.1, x.2.2, i, rfl, hm, _, rfl, ?_⟩
        cases hh : x.2.2.has i
        · refine iteF ⟨_, rfl, rfl, fun y hy => ?_⟩
          rw [take_snoc hxx] at hy
          rcases List.mem_append.mp hy with hy | hy
          · exact hno y hy
          · rw [List.mem_singleton.mp hy]
            exact hh
        · refine iteT ⟨_, rfl, _, rfl, by show 2 ≤ sizeLine; decide, fun p hp => ?_⟩
          have hq : q < r.2.length := (List.getElem?_eq_some_iff.mp hxx).1
          have efind : ((mmods r.2).find? fun x => x.has i) = some x.2.2 := by
            have e1 : r.2 = r.2.take q ++ x :: r.2.drop (q + 1) := by
              have := List.getElem?_eq_some_iff.mp hxx
              obtain ⟨h1, h2⟩ := this
              rw [← h2, ← List.drop_eq_getElem_cons h1, List.take_append_drop]
            rw [e1]
            unfold mmods
            rw [List.map_append, List.find?_append, List.map_cons, List.find?_cons_of_pos (p := fun x : Ar.M => x.has i) hh]
            have : ((r.2.take q).map fun x => x.2.2).find? (fun x => x.has i) = none := List.find?_eq_none.mpr fun y hy => by
              obtain ⟨y0, hy0, rfl⟩ := List.mem_map.mp hy
              rw [hno y0 hy0]
              decide
            rw [this]
            rfl
          rw [efind] at hf1
          have hf2 : (tt, x.2.2) = (t, mm) := Option.some.inj hf1
          cases hf2
          exact k _ p x.1 x.2.1 (Same.upd hp) hp upd_same (hm.same (Same.upd hp))
      · rw [List.length_map, List.take_length] at hno
        have efind : ((mmods r.2).find? fun x => x.has i) = none := List.find?_eq_none.mpr fun y hy => by
          obtain ⟨y0, hy0, rfl⟩ := List.mem_map.mp hy
          rw [hno y0 hy0]
          decide
        rw [efind] at hf1
        refine ⟨_, _, es, eh, ?_⟩
        rw [show rl.length - (j + 1) = tt by omega]
        exact hf1
    · rw [Nat.sub_self] at hf1
      cases hf1
theorem ok_bstand (F : FnP K "standing" "Bracket.standing" (sB 9) f fd) (c : CB K C) (cm : CM K CMa) (GF : MF P w K mg base C "last_match_of" 2 ["self", "archer"] (spBFind C CMa)) (GS : MF P w K mg base CMa "score_of" 1 ["self", "archer"] (spMRead1 CMa fun m i => .int (m.scoreOf i))) :
    FnOk P w K mg base CX0 3 f fd ["self", "archer"] (spBStand C CMa) := by
  refine fn_ok F scB9 (fun vs H Q E h => ?_) (fun cdv A outer s H vs Q E hr h => ?_)
  · obtain ⟨b, ls, lr, rl, m, i, rfl, _⟩ := h
    rfl
  · obtain ⟨b, ls, lr, rl, m, i, rfl, hB, hf, hi, k⟩ := h
    obtain ⟨dx, hb⟩ := hB.obj
    obtain ⟨⟨t, mm⟩, hf⟩ := Option.isSome_iff_exists.mp hf
    refine ⟨_, pss_cons (ps_asg (pe_m (X := _) GF c.cl hr (by decide) (pv 0) (pa_cons (pv 1) pa_nil)) (pg_tup rfl (pgs_cons (pg_name (i := 2) scB9.nd rfl (.inl rfl)) (pgs_cons (pg_name (i := 3) scB9.nd rfl (.inl rfl)) pgs_nil))))
      (pss_one (ps_ret (pe_tup (pa_cons (pe_un un_neg (pv 2)) (pa_cons (pe_un un_neg (pe_m (X := _) GS cm.cl hr (by decide) (pv 3) (pa_cons (pv 1) pa_nil))) (pa_cons (pe_bm PySem.F.plainAttrs_list PySem.F.slot_list_index PySem.F.type_list_index mt_index (pe_fld (pv 0) rfl) (pa_cons (pv 1) pa_nil)) pa_nil)))))), ?_⟩
    refine ⟨_, rfl, b, dx, _, rfl, hb, rfl, _, rfl, b, ls, lr, rl, m, i, t, mm, rfl, hB, hf, fun H1 p a sc s1 np hp hm => ?_⟩
    refine ⟨p, _, rfl, .inl (.inl hp), rfl, _, _, rfl, _, _, rfl, rfl, ?_⟩
    obtain ⟨dy, hoy⟩ := hm.obj
    have hB1 := hB.same s1
    refine ⟨_, rfl, _, rfl, _, rfl, a, dy, _, rfl, hoy, rfl, _, rfl, a, sc, mm, i, rfl, hm, _, rfl, ?_⟩
    have hix : m.seated.idxOf i < m.seated.length := List.idxOf_lt_length_iff.mpr hi
    refine ⟨_, rfl, b, C, dx, _, _, rfl, s1 _ _ hb, c.cl, c.seated, rfl, .inl ⟨rfl, _, SqL.of hB1.seat⟩, _, rfl, ls, _, .int i, m.seated.idxOf i, .int i, rfl, rfl, SqL.of hB1.seat, rfl, ?_, ?_, by show (i == i) = true; simp, fun q z hq hz => ?_, by show 3 ≤ sizeLine; decide, fun p2 hp2 => ?_⟩
    · rw [List.all_map]
      exact List.all_eq_true.mpr fun _ _ => rfl
    · rw [List.getElem?_map, List.getElem?_eq_getElem hix, List.getElem_idxOf hix]
      rfl
    · obtain ⟨u, hu, rfl⟩ := map_at hz
      show (u == i) = false
      exact beq_eq_false_iff_ne.mpr (before_idx hq hu)
    · refine k _ p2 (s1.trans (Same.upd hp2)) (s1.free hp2) ?_
      rw [upd_same]
      unfold Ar.B.standKey
      rw [hf]
      rfl
end
end ArW
end
section
set_option Elab.async false
set_option maxRecDepth 100000
set_option maxHeartbeats 4000000
/-! Bracket.places. -/
namespace ArW
open PySem PySem.Spec PyProof.Rows L2 LamX NdefX
open Ar (kle)

theorem inV_ints (i : Int) (l : List Int) : inV (V.int i) (ivs l) = decide (i ∈ l) := by
  unfold inV
  rw [List.any_map, Bool.eq_iff_iff, List.any_eq_true, decide_eq_true_eq]
  constructor
  · rintro ⟨x, hx, e⟩
    have e : (x == i) = true := e
    rw [beq_iff_eq] at e
    exact e ▸ hx
  · intro h
    exact ⟨i, h, by show (i == i) = true; simp⟩
theorem op_notInK {X : Cx} {K : PySem.W.Frag} (hK : X.K = K) : OpR X (compareOp .NotIn) (rIn K true) := by
  subst hK
  exact op_notIn_seq
abbrev nPl : List Str := ["self", "found", "match", "others", "archer"]
theorem scB8 : FnScope nPl ["self"] (defScope (sB 8)) := ⟨rfl, rfl, rfl, by decide +kernel, rfl, by decide +kernel, by decide +kernel⟩
/-- who comes from one match -/
def topOf (m : Ar.M) : List Int := [m.winner, m.loser].filter fun a => decide (a ≠ -1)
theorem topOf_len (m : Ar.M) : (topOf m).length ≤ 2 := List.length_filter_le ..
theorem top_eq (m : Ar.B) : m.top = m.last.flatMap topOf := rfl
theorem tops_len : ∀ l : List Ar.M, (l.flatMap topOf).length ≤ 2 * l.length
  | [] => Nat.le_refl _
  | m :: l => by
    rw [List.flatMap_cons, List.length_append, List.length_cons]
    have h1 := topOf_len m
    have h2 := tops_len l
    omega
def spBPlaces (C CM : Addr) (T : List (Addr × Str)) : Sp := fun vs H Q _ => ∃ (b ls lr : Addr) (rl : RL) (m : Ar.B), vs = [.ref b] ∧ Tabs T H ∧ BrAt C CM H b ls lr rl m ∧ (∀ i ∈ m.others, (m.find i).isSome = true) ∧
  ∀ H1 H' p, Ext T H H1 → Same H1 H' → H1 p = none → H' p = some (.lst (ivs m.places)) → Q (.ref p) H'
section
variable {P : Program} {w : World} {K : PySem.W.Frag} {mg : Str → Option Value} {base : Heap} {f C CMa : Addr} {fd : FuncData} {T : List (Addr × Str)}
theorem ok_bplaces (F : FnP K "places" "Bracket.places" (sB 8) f fd) (c : CB K C) (cm : CM K CMa) (L : LamAt base mg fd T "Bracket.places.<locals>.<lambda>") (B : TB mg) (GL : MF P w K mg base C "last" 1 ["self"] (spBLast C)) (GO : MF P w K mg base CMa "loser" 1 ["self"] (spMRead CMa fun m => .int m.loser))
    (GS : MF P w K mg base C "standing" 3 ["self", "archer"] (spBStand C CMa)) : FnOk P w K mg base CX0 7 f fd ["self"] (spBPlaces C CMa T) := by
  refine fn_okC F scB8 (fun vs H Q E h => ?_) (fun cdv A outer s H vs Q E hcd hr h => ?_)
  · obtain ⟨b, ls, lr, rl, m, rfl, _⟩ := h
    rfl
  · obtain ⟨b, ls, lr, rl, m, rfl, hT, hB, hfind, k⟩ := h
    obtain ⟨cc, PT, ec, tb, hmT, hu⟩ := L.ex
    have e0 : cdv = .ref cc := hcd.trans ec
    refine ⟨_, pss_cons (ps_set (i := 1) scB8.nd rfl (.inr rfl) (pe_lst pa_nil)) (pss_cons (ps_for PassesOwn.never rfl (pi_list (pe_m0 (X := _) GL c.cl hr (by decide) (pv 0))) (pg_name (i := 2) scB8.nd rfl (Or.inl rfl))
      (pss_one (ps_expr (pe_bm PySem.F.plainAttrs_list PySem.F.slot_list_extend PySem.F.type_list_extend mt_extend (pv 1) (pa_cons (pe_lc (own := [("archer", 4)]) (g := gName 4) rfl scB8.nd (pi_list (pe_lst (pa_cons (pe_fld (pv 2) rfl) (pa_cons (pe_m0 (X := _) GO cm.cl hr (by decide) (pv 2)) pa_nil)))) (blkOk_by (N := nPl) (sc := defScope (sB 8)) (by decide +kernel))
        (fun _ _ _ _ _ => pg_name (i := 4) scB8.nd rfl (Or.inl rfl)) (fun _ _ _ _ _ => pts_one (pt_cmpR op_ne (pv 4) (pe_kI B.NOBODY rfl) (nomark _))) (fun _ _ _ _ _ => pv 4)) pa_nil)))))
      (pss_cons (ps_setLc (i := 3) (own := [("archer", 4)]) (g := gName 4) rfl scB8.nd rfl rfl (sw_true rfl rfl rfl (by decide +kernel)) (pi_list (pe_fld (pv 0) rfl)) (blkOk_by (N := nPl) (sc := defScope (sB 8)) (by decide +kernel))
        (fun _ _ _ _ _ => pg_name (i := 4) scB8.nd rfl (Or.inl rfl)) (fun _ _ _ _ _ => pts_one (pt_cmpR (op_notInK (K := K) rfl) (pv 4) (pv 1) (by rfl))) (fun _ _ _ _ _ => pv 4))
      (pss_one (ps_ret (pe_op op_cat (pv 1) (pe_sortLam (T := T) (a := "archer") (N := ["archer", "self"]) (fr := ["self"]) (js := [0]) (j := 3) tb e0 hmT hu (nscope_by (by decide +kernel)) hr rfl B.sorted (free_by (b := defScope (sB 8)) (by decide +kernel)) (by decide +kernel) rfl rfl (fun _ _ _ _ _ => rfl) (pa_cons (pv 3) pa_nil)
        (fun cl f c' s H hr2 => pe_m (X := _) GS c.cl hr2 (by decide) (pv 1) (pa_cons (pv 0) pa_nil)))))))), ?_⟩
    obtain ⟨dx, hb⟩ := hB.obj
    obtain ⟨r, e1, e2, e3, e4⟩ := last_ref hB.some_ hB.mods
    have hr1 := (hB.all r e4).lst
    have hw1 := hB.wide r e4
    have tl : ∀ q, ((r.2.take q).flatMap fun x => topOf x.2.2).length ≤ 32 := fun q => by
      have h1 := tops_len ((r.2.take q).map fun x => x.2.2)
      rw [List.flatMap_map, List.length_map, List.length_take] at h1
      omega
    refine ⟨Nat.zero_le _, fun R hR => ?_⟩
    have sR : Same H (upd H R (.lst [])) := Same.upd hR
    refine ⟨_, rfl, b, dx, _, rfl, sR _ _ hb, rfl, b, dx, lr, _, _, _, rfl, sR _ _ hb, rfl, sR _ _ hB.rnd, e2, r.1, rfl, ⟨mrefs r.2, SqL.of (sR _ _ hr1)⟩, for_list (xs := mrefs r.2) (fun q σ H' => ∃ y, σ = [some (.ref b), some (.ref R), y, none, none] ∧ Same H H' ∧ H' R = some (.lst (ivs ((r.2.take q).flatMap fun x => topOf x.2.2))))
      ⟨_, rfl, sR, upd_same⟩ (fun q σ H' _ ⟨_, _, s', _⟩ => SqL.of (s' _ _ hr1)) (fun q x σ H1 hx ⟨y, es, s1, h1⟩ => ?_) fun σ H1 ⟨y, es, s1, h1⟩ => ?_⟩
    · obtain ⟨x, hxx, rfl⟩ := map_at hx
      subst es
      have hm := ((hB.all r e4).all x (List.mem_of_getElem? hxx)).same s1
      obtain ⟨dy, hoy⟩ := hm.obj
      refine ⟨_, rfl, .inl ⟨rfl, _, SqL.of h1⟩, _, rfl, x.1, CMa, dy, _, _, rfl, hoy, cm.cl, cm.winner, rfl, _, rfl, x.1, dy, _, rfl, hoy, rfl, x.1, x.2.1, x.2.2, rfl, hm, by show 2 ≤ sizeLine; decide, fun p2 hp2 => ?_⟩
      have s2 : Same H1 (upd H1 p2 (.lst (ivs [x.2.2.winner, x.2.2.loser]))) := Same.upd hp2
      refine ⟨p2, rfl, ⟨ivs [x.2.2.winner, x.2.2.loser], SqL.of upd_same⟩, fun D nD => lc_same (K := K) (a := p2) (xs := ivs [x.2.2.winner, x.2.2.loser]) (fun i => ivs (([x.2.2.winner, x.2.2.loser].take i).filter fun a => decide (a ≠ -1))) nD (SqL.of upd_same) rfl (fun i hi => ?_) (fun i z H2 Q1 Q0 hz s3 q1 q0 => ?_) fun H2 s3 hD => ?_⟩
      · rw [ivs_length]
        have h2 := List.length_filter_le (fun a : Int => decide (a ≠ -1)) ([x.2.2.winner, x.2.2.loser].take i)
        rw [List.length_take] at h2
        exact small (m := 1000) (by show _ ≤ _; have : [x.2.2.winner, x.2.2.loser].length = 2 := rfl; omega)
      · obtain ⟨u, hu, rfl⟩ := map_at hz
        refine ⟨rfl, _, rfl, rfl, _, rfl, ?_⟩
        rw [dI]
        have e : (!decide (u = -1)) = decide (u ≠ -1) := by
          by_cases h : u = -1 <;> simp [h]
        rw [e]
        by_cases h : u ≠ -1
        · rw [decide_eq_true h]
          refine iteT ⟨_, rfl, q1 _ _ (Same.refl _) ?_⟩
          rw [filter_take_t hu (decide_eq_true h), ivs_snoc]
        · rw [decide_eq_false h]
          refine iteF (q0 _ (Same.refl _) ?_)
          rw [filter_take_f hu (decide_eq_false h)]
      · have hD' : H2 D = some (.lst (ivs (topOf x.2.2))) := hD
        have s13 := s2.trans s3
        refine ⟨R, D, _, _, rfl, rfl, s13 _ _ h1, hD', ?_, _, rfl, fun b o e => ?_, ?_⟩
        · rw [ivs_length, ivs_length]
          have := tl q
          have h2 := topOf_len x.2.2
          exact Nat.le_of_lt (small (m := 1000) (by omega))
        · rw [upd_ne (ne_of_none e hR)]
          exact s13 _ _ (s1 _ _ e)
        · rw [upd_same, take_snoc hxx, List.flatMap_append, ivs_append]
          show _ = some (HO.lst (_ ++ ivs (topOf x.2.2 ++ [])))
          rw [List.append_nil]
    subst es
    have h1' : H1 R = some (.lst (ivs m.top)) := by
      rw [h1, List.length_map, List.take_length, top_eq, e3]
      unfold mmods
      rw [List.flatMap_map]
    have hB1 := hB.same s1
    refine ⟨_, rfl, b, C, dx, _, _, rfl, s1 _ _ hb, c.cl, c.seated, rfl, ls, rfl, ⟨ivs m.seated, SqL.of hB1.seat⟩, fun D nD => lc_same (K := K) (a := ls) (xs := ivs m.seated) (fun i => ivs ((m.seated.take i).filter fun a => !decide (a ∈ m.top))) nD (SqL.of hB1.seat) rfl (fun i hi => ?_) (fun i z H2 Q1 Q0 hz s2 q1 q0 => ?_) fun H2 s2 hD => ?_⟩
    · rw [ivs_length]
      have h2 := List.length_filter_le (fun a : Int => !decide (a ∈ m.top)) (m.seated.take i)
      rw [List.length_take] at h2
      have h3 := hB.sfew
      exact small (m := 1000) (by omega)
    · obtain ⟨u, hu, rfl⟩ := map_at hz
      refine ⟨rfl, _, rfl, _, rfl, R, _, rfl, .inl (SqL.of (s2 _ _ h1')), rfl, ?_, _, rfl, ?_⟩
      · rw [List.all_map]
        exact List.all_eq_true.mpr fun _ _ => rfl
      · rw [inV_ints]
        show if (!decide (u ∈ m.top)) = true then _ else _
        cases h : !decide (u ∈ m.top)
        · refine iteF (q0 _ (Same.refl _) ?_)
          rw [filter_take_f hu h]
        · refine iteT ⟨_, rfl, q1 _ _ (Same.refl _) ?_⟩
          rw [filter_take_t hu h, ivs_snoc]
    have hD' : H2 D = some (.lst (ivs m.others)) := by
      rw [hD, ivs_length, List.take_length]
      rfl
    have s02 : Same H H2 := s1.trans s2
    refine ⟨_, rfl, _, rfl, (Same.ext (T := T) s02).t hT, D, ivs m.others, m.others.map m.standKey, rfl, by rw [ivs_length, List.length_map], fun q hq => ?_, fun H3 x3 t3 => ⟨SqL.of (x3 _ _ hD' lst_tbl), fun i x q H4 hx hq s4 => ?_, fun H4 p s4 n3 hp => ?_⟩⟩
    · obtain ⟨i, hi, rfl⟩ := List.mem_map.mp hq
      obtain ⟨⟨t, mm⟩, hf⟩ := Option.isSome_iff_exists.mp (hfind i hi)
      unfold Ar.B.standKey
      rw [hf]
      exact List.cons_ne_nil _ _
    · obtain ⟨u, hu, rfl⟩ := map_at hx
      rw [List.getElem?_map, hu] at hq
      obtain rfl := Option.some.inj hq
      have hB4 := ((hB.same s02).ext x3).same s4
      have hmem := List.mem_of_getElem? hu
      obtain ⟨dz, hbz⟩ := hB4.obj
      refine ⟨_, rfl, b, dz, _, rfl, hbz, rfl, _, rfl, b, ls, lr, rl, m, u, rfl, hB4, hfind u hmem, (List.mem_filter.mp hmem).1, fun H5 p s5 n5 h5 => ⟨p, rfl, h5, s5⟩⟩
    · rw [sort_out m.others V.int m.standKey 3 (fun i hi => ?_)] at hp
      · have hR4 := s4 _ _ (x3 _ _ (s2 _ _ h1') lst_tbl)
        refine ⟨R, p, _, _, rfl, rfl, hR4, hp, ?_, fun p2 hp2 => ?_⟩
        · rw [ivs_length, List.length_map, List.length_mergeSort]
          have h5 := List.length_filter_le (fun a : Int => !decide (a ∈ m.top)) m.seated
          have h6 := hB.sfew
          have h7 : m.top.length ≤ 32 := by
            have := tops_len m.last
            rw [← top_eq, e3, List.length_map] at this
            omega
          have h8 : m.others.length ≤ m.seated.length := h5
          exact Nat.le_of_lt (small (m := 1000) (by omega))
        · refine k H3 _ p2 ((Same.ext s02).trans ⟨x3, fun _ => t3⟩) (s4.trans (Same.upd hp2)) (s4.free hp2) ?_
          rw [upd_same]
          unfold Ar.B.places
          rw [ivs_append]
      · obtain ⟨⟨t, mm⟩, hf⟩ := Option.isSome_iff_exists.mp (hfind i hi)
        unfold Ar.B.standKey
        rw [hf]
        rfl
end
end ArW
end
section
set_option Elab.async false
set_option maxRecDepth 100000
set_option maxHeartbeats 4000000
/-! Day: how it stands; __init__, archer_at, begin. -/
namespace ArW
open PySem PySem.Spec PyProof.Rows L2 LamX

abbrev sD (i : Nat) : Stmt := inClass (top 28) i
theorem scD0 : FnScope ["self"] ["self"] (defScope (sD 0)) := ⟨rfl, rfl, rfl, by decide +kernel, rfl, by decide +kernel, by decide +kernel⟩
theorem scD1 : FnScope ["self", "number"] ["self", "number"] (defScope (sD 1)) := ⟨rfl, rfl, rfl, by decide +kernel, rfl, by decide +kernel, by decide +kernel⟩
abbrev nBeg : List Str := ["self", "ends", "arrow_count", "clubs", "club", "number"]
theorem scD2 : FnScope nBeg ["self", "ends", "arrow_count", "clubs"] (defScope (sD 2)) := ⟨rfl, rfl, rfl, by decide +kernel, rfl, by decide +kernel, by decide +kernel⟩
/-- the class's own facts -/
structure CDy (K : PySem.W.Frag) (C : Addr) : Prop where
  cl : Cls K C
  ends : NoAttr K C "ends"
  ac : NoAttr K C "arrow_count"
  archers : NoAttr K C "archers"
  bracket : NoAttr K C "bracket"
/-- the classes -/
structure C4 where
  A : Addr
  B : Addr
  M : Addr
  D : Addr
structure BS where
  b : Addr
  ls : Addr
  lr : Addr
  rl : RL
def brV : Option BS → V
  | none => .non
  | some s => .ref s.b
def dF (m : Ar.D) (la : Addr) (bs : Option BS) : List (Str × V) := [("ends", .int m.ends), ("arrow_count", .int m.ac), ("archers", .ref la), ("bracket", brV bs)]
def baddr : Option BS → List Addr
  | none => []
  | some s => s.b :: s.ls :: s.lr :: baddrs s.rl
/-- all places of the day -/
def daddr (d la : Addr) (al : AL) (bs : Option BS) : List Addr := d :: la :: ((al.flatMap fun x => [x.1, x.2.1]) ++ baddr bs)
/-- the day m stands at d -/
structure DayAt (c : C4) (H : Hp) (d la : Addr) (al : AL) (bs : Option BS) (m : Ar.D) : Prop where
  obj : ∃ dx, H d = some (.ins c.D dx (dF m la bs))
  lst : H la = some (.lst (arefs al))
  all : AllAt c.A H al
  mods : m.archers = amods al
  nd1 : (al.map (·.1)).Nodup
  nd2 : (al.map (·.2.1)).Nodup
  few : al.length ≤ 40
  br : (bs = none ∧ m.br = none) ∨ ∃ s bm, bs = some s ∧ m.br = some bm ∧ BrAt c.B c.M H s.b s.ls s.lr s.rl bm ∧ al ≠ []
/-- nothing but a table stood there -/
def NewA (H : Hp) (x : Addr) : Prop := ∀ o, H x = some o → ∃ ps, o = .tbl ps
theorem NewA.of {H : Hp} {x : Addr} (h : H x = none) : NewA H x := fun o e => by rw [h] at e; cases e
theorem NewA.ext {T : List (Addr × Str)} {H H' : Hp} {x : Addr} (e : Ext T H H') (h : NewA H' x) : NewA H x := fun o ho => by
  cases o with
  | tbl ps => exact ⟨ps, rfl⟩
  | _ => exact h _ (e.n _ _ ho (fun ps z => by cases z))
/-- all stays but what stands at F, and the tables -/
structure Kept (T : List (Addr × Str)) (F : List Addr) (H H' : Hp) : Prop where
  n : ∀ b o, H b = some o → (∀ ps, o ≠ .tbl ps) → b ∉ F → H' b = some o
  t : Tabs T H → Tabs T H'
theorem Ext.kept {T : List (Addr × Str)} {F : List Addr} {H H' : Hp} (e : Ext T H H') : Kept T F H H' := ⟨fun b o h n _ => e.n b o h n, e.t⟩
theorem Kept.ext {T : List (Addr × Str)} {F : List Addr} {H H1 H' : Hp} (k : Kept T F H H1) (e : Ext T H1 H') : Kept T F H H' := ⟨fun b o h n f => e.n b o (k.n b o h n f) n, fun t => e.t (k.t t)⟩
theorem Ext.thenKept {T : List (Addr × Str)} {F : List Addr} {H H1 H' : Hp} (e : Ext T H H1) (k : Kept T F H1 H') : Kept T F H H' := ⟨fun b o h n f => k.n b o (e.n b o h n) n f, fun t => k.t (e.t t)⟩
theorem Kept.trans {T : List (Addr × Str)} {F : List Addr} {H H1 H' : Hp} (k : Kept T F H H1) (k' : Kept T F H1 H') : Kept T F H H' := ⟨fun b o h n f => k'.n b o (k.n b o h n f) n f, fun t => k'.t (k.t t)⟩
/-- tables and their code objects stay where things of ours are written -/
theorem tabs_but {T : List (Addr × Str)} {H H' : Hp} (hT : Tabs T H) {F : Addr → Prop} (hF : ∀ b, F b → (∃ C dx fs, H b = some (.ins C dx fs)) ∨ (∃ l, H b = some (.lst l)) ∨ H b = none) (k : ∀ b o, H b = some o → ¬ F b → H' b = some o) : Tabs T H' := by
  have out : ∀ b o, (∀ C dx fs, o ≠ HO.ins C dx fs) → (∀ l, o ≠ HO.lst l) → H b = some o → H' b = some o := fun b o h1 h2 e => k b o e fun f => by
    rcases hF b f with ⟨C, dx, fs, q⟩ | ⟨l, q⟩ | q
    · rw [q] at e; exact h1 _ _ _ (Option.some.inj e).symm
    · rw [q] at e; exact h2 _ (Option.some.inj e).symm
    · rw [q] at e; cases e
  intro p hp
  obtain ⟨ps, h1, h2, h3⟩ := hT p hp
  refine ⟨ps, out _ _ (fun _ _ _ z => by cases z) (fun _ z => by cases z) h1, h2, fun pos cv hc => ?_⟩
  obtain ⟨c, e1, e2⟩ := h3 pos cv hc
  refine ⟨c, e1, out _ _ (fun _ _ _ z => ?_) (fun _ z => ?_) e2⟩
  · unfold CodeO at z
    cases z
  · unfold CodeO at z
    cases z
/-- an instance is changed, nothing else -/
theorem But.kept {T : List (Addr × Str)} {F : List Addr} {H H' : Hp} {a : Addr} (h : But a H H') (ha : a ∈ F) (hi : (∃ C dx fs, H a = some (.ins C dx fs)) ∨ (∃ l, H a = some (.lst l)) ∨ H a = none) : Kept T F H H' :=
  ⟨fun b o e _ f => h b o e fun z => f (z ▸ ha), fun t => tabs_but (F := fun b => b = a) t (fun b e => by rw [e]; exact hi) fun b o e n => h b o e n⟩
theorem DayAt.ext {c : C4} {H H' : Hp} {d la : Addr} {al : AL} {bs : Option BS} {m : Ar.D} (h : DayAt c H d la al bs m) (s : ExtN H H') : DayAt c H' d la al bs m := by
  obtain ⟨⟨dx, h1⟩, h2, h3, h4, h5, h6, h7, h8⟩ := h
  refine ⟨⟨dx, s _ _ h1 ins_tbl⟩, s _ _ h2 lst_tbl, h3.ext s, h4, h5, h6, h7, ?_⟩
  rcases h8 with h8 | ⟨t, bm, e1, e2, e3, e4⟩
  · exact .inl h8
  · exact .inr ⟨t, bm, e1, e2, e3.ext s, e4⟩
theorem DayAt.same {c : C4} {H H' : Hp} {d la : Addr} {al : AL} {bs : Option BS} {m : Ar.D} (h : DayAt c H d la al bs m) (s : Same H H') : DayAt c H' d la al bs m := h.ext (ExtN.of s)
/-- what a call promises: the day behind it, the answer -/
def DOut (c : C4) (T : List (Addr × Str)) (H : Hp) (d la : Addr) (al : AL) (bs : Option BS) (r : Ar.D × List Int) (Q : VK) : Prop :=
  ∀ (H' : Hp) (p la' : Addr) (al' : AL) (bs' : Option BS), DayAt c H' d la' al' bs' r.1 → Kept T (daddr d la al bs) H H' → (∀ x ∈ daddr d la' al' bs', x ∈ daddr d la al bs ∨ NewA H x) → H' p = some (.lst (ivs r.2)) → NewA H p → Q (.ref p) H'
/-- .. where the day is but read -/
theorem DOut.read {c : C4} {T : List (Addr × Str)} {H H' : Hp} {d la : Addr} {al : AL} {bs : Option BS} {m : Ar.D} {r : Ar.D × List Int} {Q : VK} {p : Addr} (o : DOut c T H d la al bs r Q) (h : DayAt c H d la al bs m) (e : r.1 = m) (s : Ext T H H') (hp : H' p = some (.lst (ivs r.2))) (hn : NewA H p) : Q (.ref p) H' :=
  o H' p la al bs (by rw [e]; exact h.ext s.n) s.kept (fun _ hx => .inl hx) hp hn
def spDInit (c : C4) : Sp := fun vs H Q _ => ∃ (p dx : Addr), vs = [.ref p] ∧ H p = some (.ins c.D dx []) ∧ ∀ (H' : Hp) (la : Addr), DayAt c H' p la [] none Ar.D.start → But p H H' → H la = none → Q .non H'
def spDArcher (c : C4) : Sp := fun vs H Q _ => ∃ (d la : Addr) (al : AL) (bs : Option BS) (m : Ar.D) (i : Int), vs = [.ref d, .int i] ∧ DayAt c H d la al bs m ∧ (m.archer i = none → Q .non H) ∧ ∀ k x, m.archer i = some (k, x.2.2) → al[k]? = some x → Q (.ref x.1) H
def spDBegin (c : C4) (K : PySem.W.Frag) (T : List (Addr × Str)) : Sp := fun vs H Q _ => ∃ (d la x : Addr) (al : AL) (bs : Option BS) (m : Ar.D) (e a : Int) (cl : List Int), vs = [.ref d, .int e, .int a, .ref x] ∧ DayAt c H d la al bs m ∧ SqL K H x (ivs cl) ∧ DOut c T H d la al bs (m.begin_ e a cl) Q
section
variable {P : Program} {w : World} {K : PySem.W.Frag} {mg : Str → Option Value} {base : Heap} {f : Addr} {c : C4} {fd : FuncData} {T : List (Addr × Str)}
theorem ok_dinit (F : FnP K "__init__" "Day.__init__" (sD 0) f fd) (cd : CDy K c.D) : FnOk P w K mg base CX0 1 f fd ["self"] (spDInit c) := by
  refine fn_ok F scD0 (fun vs H Q E h => ?_) (fun cdv A outer s H vs Q E hr h => ?_)
  · obtain ⟨p, dx, rfl, _⟩ := h
    rfl
  · obtain ⟨p, dx, rfl, hp, k⟩ := h
    refine ⟨_, pss_cons (ps_fld (pv 0) pe_int rfl) (pss_cons (ps_fld (pv 0) pe_int rfl) (pss_cons (ps_fld (pv 0) (pe_lst pa_nil) rfl) (pss_one (ps_fld (pv 0) pe_non rfl)))), ?_⟩
    refine ⟨_, rfl, p, c.D, dx, _, rfl, hp, cd.cl, cd.ends, (by show 0 < 1000; decide), ?_⟩
    refine ⟨_, rfl, p, c.D, dx, _, rfl, upd_same, cd.cl, cd.ac, (by show 1 < 1000; decide), ?_⟩
    refine ⟨Nat.zero_le _, fun l hl => ?_⟩
    rw [upd_upd] at hl
    have npl : p ≠ l := fun e => by rw [e, upd_same] at hl; cases hl
    have hl0 : H l = none := by rw [upd_ne (Ne.symm npl)] at hl; exact hl
    refine ⟨_, rfl, p, c.D, dx, _, rfl, by rw [upd_ne npl]; exact upd_same, cd.cl, cd.archers, (by show 2 < 1000; decide), ?_⟩
    refine ⟨_, rfl, p, c.D, dx, _, rfl, upd_same, cd.cl, cd.bracket, (by show 3 < 1000; decide), ?_⟩
    refine k _ l ⟨⟨dx, ?_⟩, ?_, fun _ h => absurd h List.not_mem_nil, rfl, List.nodup_nil, List.nodup_nil, by decide, .inl ⟨rfl, rfl⟩⟩ (fun b o e n => ?_) hl0
    · rw [upd_same]
      rfl
    · rw [upd_ne (Ne.symm npl), upd_ne (Ne.symm npl), upd_same]
      rfl
    · rw [upd_ne n, upd_ne n, upd_ne (ne_of_none e hl0), upd_ne n, upd_ne n]
      exact e
theorem ok_darcher (F : FnP K "archer_at" "Day.archer_at" (sD 1) f fd) (cd : CDy K c.D) (B : TB mg) : FnOk P w K mg base CX0 1 f fd ["self", "number"] (spDArcher c) := by
  refine fn_ok F scD1 (fun vs H Q E h => ?_) (fun cdv A outer s H vs Q E hr h => ?_)
  · obtain ⟨d, la, al, bs, m, i, rfl, _⟩ := h
    rfl
  · obtain ⟨d, la, al, bs, m, i, rfl, hD, k1, k2⟩ := h
    obtain ⟨dx, hd⟩ := hD.obj
    refine ⟨_, pss_cons (ps_if (PW.pt (pw_or (pt_cmpR op_lt (pv 1) pe_int (nomark _)) (pw_or1 (pt_cmpR op_ge (pv 1) (pe_callB call_len_seq (by rfl) B.len PySem.boot_len (pa_cons (pe_fld (pv 0) rfl) pa_nil)) (nomark _))))) (pss_one (ps_ret pe_non)) pss_nil)
      (pss_one (ps_ret (pe_ix ix_list (pe_fld (pv 0) rfl) (pv 1) (fun _ _ => rfl)))), ?_⟩
    have el : m.archers.length = al.length := by rw [hD.mods, List.length_map]
    unfold Ar.D.archer at k1 k2
    rw [el] at k1 k2
    refine ⟨_, rfl, _, _, rfl, rfl, _, rfl, ?_⟩
    by_cases h1 : i < 0
    · rw [decide_eq_true h1]
      exact iteT (iteT (k1 (if_pos (.inl h1))))
    · rw [decide_eq_false h1]
      refine iteF ⟨_, rfl, _, rfl, d, c.D, dx, _, _, rfl, hd, cd.cl, cd.archers, rfl, la, _, rfl, .inl (SqL.of hD.lst), _, _, rfl, rfl, _, rfl, ?_⟩
      rw [List.length_map]
      by_cases h2 : (al.length : Int) ≤ i
      · rw [decide_eq_true h2]
        exact iteT (k1 (if_pos (.inr h2)))
      · rw [decide_eq_false h2]
        have hlt : i.toNat < al.length := by omega
        refine iteF ⟨_, rfl, d, c.D, dx, _, _, rfl, hd, cd.cl, cd.archers, rfl, _, rfl, la, _, _, .ref (al[i.toNat]).1, rfl, rfl, SqL.of hD.lst, ?_, k2 i.toNat al[i.toNat] ?_ (List.getElem?_eq_getElem hlt)⟩
        · have := atI_nat (xs := arefs al) (j := i.toNat) (v := .ref (al[i.toNat]).1) (by rw [List.getElem?_map, List.getElem?_eq_getElem hlt]; rfl)
          rw [show ((i.toNat : Nat) : Int) = i by omega] at this
          exact this
        · rw [if_neg (fun z => z.elim h1 h2), hD.mods, List.getElem?_map, List.getElem?_eq_getElem hlt]
          rfl
end
end ArW
end
section
set_option Elab.async false
set_option maxRecDepth 100000
set_option maxHeartbeats 4000000
/-! Day.begin. -/
namespace ArW
open PySem PySem.Spec PyProof.Rows L2 LamX

theorem pg_tupK {X : Cx} {K : PySem.W.Frag} {pos : Pos} {es : List Expr} {k : Nat} {t : TGs} {n : Nat} (hK : X.K = K) (hc : X.calm = true) (h : PGs X es t) (hn : (assignEach es X.env).length = n) (hst : (assignEach es X.env).findIdx? (·.1) = none) : PG X (.Tuple es k pos) (gTup K n t) := by
  subst hK
  exact pg_tup hc h hn hst
/-- over enumerate -/
theorem lc_enum {K : PySem.W.Frag} {a : Addr} {xs : List V} {g : TG} {tt : TT} {te : TE} {vs : List Nat} {σ : L2.St} {H1 : Hp} {D : Addr} {Qd : Hp → Prop} (Pv : Nat → Hp → Prop) (h0 : Pv 0 (upd H1 D (.lst []))) (hl : ∀ i H, Pv i H → SqL K H a xs)
    (hs : ∀ i x H T, xs[i]? = some x → Pv i H → H T = none → g (.ref T) (wipe σ vs) (upd H T (.tup [.int (i : Nat), x])) fun σ2 H2 => wipe σ2 vs = wipe σ vs ∧ tt σ2 H2 fun b H3 =>
      if b = true then te σ2 H3 fun y H4 => ∃ acc, H4 D = some (.lst acc) ∧ acc.length < sizeLine ∧ Pv (i + 1) (upd H4 D (.lst (acc ++ [y]))) else Pv (i + 1) H3) (hd : ∀ H, Pv xs.length H → Qd H) :
    ∃ W : Nat → Nat → Hp → Prop, (∃ m, W 0 m (upd H1 D (.lst []))) ∧ ∀ i m H, W i m H →
      ((Ite K a).stop i H ∧ Qd H) ∨ ((Ite K a).go i H ∧ ∃ Nx : Hp → Prop, (∀ H', Nx H' → ∃ m', m' < m ∧ W (i + 1) m' H') ∧ ∀ x H', (Ite K a).yld i H x H' → g x (wipe σ vs) H' fun σ2 H2 => wipe σ2 vs = wipe σ vs ∧ tt σ2 H2 fun b H3 =>
        if b = true then te σ2 H3 fun y H4 => ∃ acc, H4 D = some (.lst acc) ∧ acc.length < sizeLine ∧ Nx (upd H4 D (.lst (acc ++ [y]))) else Nx H3) := by
  refine ⟨fun i m H => m + i = xs.length ∧ Pv i H, ⟨_, rfl, h0⟩, ?_⟩
  rintro i m H ⟨e, p⟩
  have q := hl i H p
  cases m with
  | zero =>
    obtain rfl : i = xs.length := by omega
    exact .inl ⟨⟨xs, q, Nat.le_refl _⟩, hd H p⟩
  | succ m =>
    have hlt : i < xs.length := by omega
    refine .inr ⟨⟨xs, xs[i], q, List.getElem?_eq_getElem hlt⟩, Pv (i + 1), fun H' p' => ⟨m, Nat.lt_succ_self m, by omega, p'⟩, ?_⟩
    rintro x H' ⟨T, y, ex, hT, eH, hy⟩
    rw [ex, eH]
    exact hs i y H T (hy xs q) p hT
theorem sql_but {K : PySem.W.Frag} {H G : Hp} {d x : Addr} {l : List V} (h : But d H G) (hd : ∃ C dx fs, H d = some (.ins C dx fs)) (hx : SqL K H x l) : SqL K G x l := by
  obtain ⟨C, dx, fs, hd⟩ := hd
  rcases hx with (hx | ⟨o, hx⟩) | hx
  · exact .inl (.inl (h _ _ hx (ne_of hx hd (by intro z; cases z))))
  · exact .inl (.inr ⟨o, h _ _ hx (ne_of hx hd (by intro z; cases z))⟩)
  · exact .inr hx
theorem AllAt.snoc {C : Addr} {H : Hp} {l : AL} {x : Addr × Addr × Ar.A} (h : AllAt C H l) (hx : ArchAt C H x.1 x.2.1 x.2.2) : AllAt C H (l ++ [x]) := fun y hy => by
  rcases List.mem_append.mp hy with hy | hy
  · exact h y hy
  · rw [List.mem_singleton.mp hy]
    exact hx
section
variable {c : C4} {T : List (Addr × Str)} {H H1 : Hp} {d la : Addr} {al : AL} {bs : Option BS} {m : Ar.D} {r : Ar.D × List Int} {Q : VK} {σ : L2.St} {n : Int}
theorem DOut.num (o : DOut c T H d la al bs r Q) (h : DayAt c H d la al bs m) (e : r = (m, [n])) (s : Ext T H H1) : tLst (tCons (tC (.int n)) tNil) σ H1 Q := by
  refine ⟨by show 1 ≤ sizeLine; decide, fun p hp => o.read h (by rw [e]) (s.trans (Same.ext (Same.upd hp))) ?_ ((NewA.of hp).ext s)⟩
  rw [upd_same, e]
  rfl
theorem DOut.neg (o : DOut c T H d la al bs r Q) (h : DayAt c H d la al bs m) (e : r = (m, [-n])) (s : Ext T H H1) : tLst (tCons (tUn (rU fun i => V.int (-i)) (tC (.int n))) tNil) σ H1 Q := by
  refine ⟨_, rfl, by show 1 ≤ sizeLine; decide, fun p hp => o.read h (by rw [e]) (s.trans (Same.ext (Same.upd hp))) ?_ ((NewA.of hp).ext s)⟩
  rw [upd_same, e]
  rfl
end
section
variable {P : Program} {w : World} {K : PySem.W.Frag} {mg : Str → Option Value} {base : Heap} {f : Addr} {c : C4} {fd : FuncData} {T : List (Addr × Str)}
theorem ok_dbegin (F : FnP K "begin" "Day.begin" (sD 2) f fd) (cd : CDy K c.D) (B : TB mg) (GA : CF P w K mg base "Archer" c.A 1 ["self", "number", "club"] (spAInit c.A)) : FnOk P w K mg base CX0 3 f fd ["self", "ends", "arrow_count", "clubs"] (spDBegin c K T) := by
  refine fn_ok F scD2 (fun vs H Q E h => ?_) (fun cdv A outer s H vs Q E hr h => ?_)
  · obtain ⟨d, la, x, al, bs, m, e, a, cl, rfl, _⟩ := h
    rfl
  · obtain ⟨d, la, x, al, bs, m, e, a, cl, rfl, hD, hx, k⟩ := h
    obtain ⟨dx, hd⟩ := hD.obj
    refine ⟨_, pss_cons (ps_if (PW.pt (pw_or (pt_cmpR op_lt (pv 1) pe_int (nomark _)) (pw_or (pt_cmpR op_gt (pv 1) (pe_kI B.ME12 rfl) (nomark _)) (pw_or (pt_cmpR op_lt (pv 2) pe_int (nomark _)) (pw_or1 (pt_cmpR op_gt (pv 2) (pe_kI B.MA6 rfl) (nomark _))))))) (pss_one (ps_ret (pe_lst (pa_cons (pe_kI B.WRONG rfl) pa_nil)))) pss_nil)
      (pss_cons (ps_if (PW.pt (pw_or (pt_cmpR op_lt (pe_callB call_len_seq (by rfl) B.len PySem.boot_len (pa_cons (pv 3) pa_nil)) pe_int (nomark _)) (pw_or1 (pt_cmpR op_gt (pe_callB call_len_seq (by rfl) B.len PySem.boot_len (pa_cons (pv 3) pa_nil)) (pe_kI B.MA40 rfl) (nomark _))))) (pss_one (ps_ret (pe_lst (pa_cons (pe_kI B.WRONG rfl) pa_nil)))) pss_nil)
      (pss_cons (ps_if (pt_val (pe_callB (cr_any rfl) (by rfl) B.any (by decide +kernel) (pa_cons (pe_lc (own := [("club", 4)]) (g := gName 4) (tt := tYes) rfl scD2.nd (pi_list (pv 3)) (blkOk_by (N := nBeg) (sc := defScope (sD 2)) (by decide +kernel))
        (fun _ _ _ _ _ => pg_name (i := 4) scD2.nd rfl (Or.inl rfl)) (fun _ _ _ _ _ => pts_nil) (fun _ _ _ _ _ => pe_or (pe_cmpR op_lt (pv 4) pe_int (nomark _)) (pe_one (pe_cmpR op_gt (pv 4) (pe_kI B.HC rfl) (nomark _))))) pa_nil))) (pss_one (ps_ret (pe_lst (pa_cons (pe_kI B.WRONG rfl) pa_nil)))) pss_nil)
      (pss_cons (ps_fld (pv 0) (pv 1) rfl) (pss_cons (ps_fld (pv 0) (pv 2) rfl)
      (pss_cons (ps_fld (pv 0) (pe_lc (own := [("number", 5), ("club", 4)]) (tt := tYes) rfl scD2.nd (pi_enum rfl B.enumerate (pa_cons (pv 3) pa_nil)) (blkOk_by (N := nBeg) (sc := defScope (sD 2)) (by decide +kernel))
        (fun _ _ _ _ _ => pg_tupK (K := K) (n := 2) rfl rfl (pgs_cons (pg_name (i := 5) scD2.nd rfl (Or.inl rfl)) (pgs_cons (pg_name (i := 4) scD2.nd rfl (Or.inl rfl)) pgs_nil)) rfl rfl) (fun _ _ _ _ _ => pts_nil) (fun _ _ _ _ _ => pe_mk (X := _) GA hr (by decide) rfl (pa_cons (pv 5) (pa_cons (pv 4) pa_nil)))) rfl)
      (pss_cons (ps_fld (pv 0) pe_non rfl) (pss_one (ps_ret (pe_lst (pa_cons (pe_callB call_len_seq (by rfl) B.len PySem.boot_len (pa_cons (pv 3) pa_nil)) pa_nil)))))))))), ?_⟩
    have h0 : (e < 1 ∨ 12 < e ∨ a < 1 ∨ 6 < a) → ∀ σ, tLst (tCons (tC (.int (-1))) tNil) σ H Q := fun hc σ => k.num hD (by unfold Ar.D.begin_; rw [if_pos hc]) (Ext.refl T H)
    refine ⟨_, rfl, _, _, rfl, rfl, _, rfl, ?_⟩
    by_cases c1 : e < 1
    · rw [decide_eq_true c1]
      exact iteT (iteT (h0 (.inl c1) _))
    rw [decide_eq_false c1]
    refine iteF ⟨_, rfl, _, _, rfl, rfl, _, rfl, ?_⟩
    by_cases c2 : 12 < e
    · rw [decide_eq_true c2]
      exact iteT (iteT (h0 (.inr (.inl c2)) _))
    rw [decide_eq_false c2]
    refine iteF ⟨_, rfl, _, _, rfl, rfl, _, rfl, ?_⟩
    by_cases c3 : a < 1
    · rw [decide_eq_true c3]
      exact iteT (iteT (h0 (.inr (.inr (.inl c3))) _))
    rw [decide_eq_false c3]
    refine iteF ⟨_, rfl, _, _, rfl, rfl, _, rfl, ?_⟩
    by_cases c4 : 6 < a
    · rw [decide_eq_true c4]
      exact iteT (h0 (.inr (.inr (.inr c4))) _)
    rw [decide_eq_false c4]
    have n1 : ¬ (e < 1 ∨ 12 < e ∨ a < 1 ∨ 6 < a) := fun z => by
      rcases z with z | z | z | z
      · exact c1 z
      · exact c2 z
      · exact c3 z
      · exact c4 z
    have h1 : (cl.length < 2 ∨ 40 < cl.length) → ∀ σ, tLst (tCons (tC (.int (-1))) tNil) σ H Q := fun hc σ => k.num hD (by unfold Ar.D.begin_; rw [if_neg n1, if_pos hc]) (Ext.refl T H)
    refine iteF ⟨_, rfl, x, _, rfl, .inl hx, _, _, rfl, rfl, _, rfl, ?_⟩
    rw [ivs_length]
    by_cases c5 : (cl.length : Int) < 2
    · rw [decide_eq_true c5]
      exact iteT (iteT (h1 (.inl (by omega)) _))
    rw [decide_eq_false c5]
    refine iteF ⟨_, rfl, x, _, rfl, .inl hx, _, _, rfl, rfl, _, rfl, ?_⟩
    rw [ivs_length]
    by_cases c6 : (40 : Int) < (cl.length : Int)
    · rw [decide_eq_true c6]
      exact iteT (h1 (.inr (by omega)) _)
    rw [decide_eq_false c6]
    have n2 : ¬ (cl.length < 2 ∨ 40 < cl.length) := by omega
    refine iteF ⟨_, rfl, x, rfl, ⟨_, hx⟩, fun D1 nD1 => lc_same (K := K) (a := x) (xs := ivs cl) (fun i => (cl.take i).map fun z => V.bl (decide (z < 0) || decide (50 < z))) nD1 hx rfl (fun i hi => take_map_len (m := 1000) _ (by rw [List.length_map] at hi; omega)) (fun i z H2 Q1 Q0 hz s2 q1 q0 => ?_) fun H2 s2 hD2 => ?_⟩
    · obtain ⟨u, hu, rfl⟩ := map_at hz
      have eo := take_map (fun z => V.bl (decide (z < 0) || decide (50 < z))) hu
      refine ⟨rfl, _, rfl, _, _, rfl, rfl, _, rfl, ?_⟩
      by_cases c7 : u < 0
      · rw [decide_eq_true c7]
        refine iteT (q1 _ _ (Same.refl _) ?_)
        rw [eo, decide_eq_true c7, Bool.true_or]
      · rw [decide_eq_false c7]
        refine iteF ⟨_, rfl, _, _, rfl, rfl, q1 _ _ (Same.refl _) ?_⟩
        rw [eo, decide_eq_false c7, Bool.false_or]
    refine ⟨D1, cl.map fun z => decide (z < 0) || decide (50 < z), rfl, SqL.of ?_, _, rfl, ?_⟩
    · rw [hD2, ivs_length, List.take_length, List.map_map]
      rfl
    rw [List.any_map]
    cases c8 : cl.any (id ∘ fun z => decide (z < 0) || decide (50 < z))
    rotate_left
    · exact iteT (k.num hD (by unfold Ar.D.begin_; rw [if_neg n1, if_neg n2, if_pos (show (cl.any fun c => decide (c < 0) || decide (50 < c)) = true from c8)]) (Same.ext s2))
    have hr' : m.begin_ e a cl = (⟨e, a, cl.zipIdx.map fun p => Ar.A.new (p.2 : Nat) p.1, none⟩, [(cl.length : Int)]) := by
      unfold Ar.D.begin_
      rw [if_neg n1, if_neg n2, if_neg (fun z => by rw [show (cl.any fun c => decide (c < 0) || decide (50 < c)) = false from c8] at z; cases z)]
    unfold DOut at k
    rw [hr'] at k
    refine iteF ⟨_, rfl, _, rfl, d, c.D, dx, _, rfl, s2 _ _ hd, cd.cl, cd.ends, (by show 4 < 1000; decide), ?_⟩
    refine ⟨_, rfl, _, rfl, d, c.D, dx, _, rfl, upd_same, cd.cl, cd.ac, (by show 4 < 1000; decide), ?_⟩
    rw [upd_upd]
    have hi : ∃ C dx fs, H d = some (.ins C dx fs) := ⟨_, _, _, hd⟩
    generalize hG : L2.upd _ d _ = G
    have g1 : G d = some (.ins c.D dx [("ends", .int e), ("arrow_count", .int a), ("archers", .ref la), ("bracket", brV bs)]) := by
      rw [← hG, upd_same]
      rfl
    have g2 : But d H G := by
      rw [← hG]
      exact Same.but s2 (But.upd _ _ _)
    clear hG
    have hxG := sql_but g2 hi hx
    refine ⟨_, rfl, x, _, rfl, hxG, fun L1 nL => lc_enum (K := K) (a := x) (xs := ivs cl) (fun i H' => ∃ al' : AL, Same G H' ∧ H' L1 = some (.lst (arefs al')) ∧ AllAt c.A H' al' ∧ amods al' = (cl.zipIdx.take i).map (fun p => Ar.A.new (p.2 : Nat) p.1) ∧ (al'.map (·.1)).Nodup ∧ (al'.map (·.2.1)).Nodup ∧ (∀ y ∈ al', G y.1 = none ∧ G y.2.1 = none) ∧ al'.length = i)
      ⟨[], Same.upd nL, upd_same, fun _ h => absurd h List.not_mem_nil, rfl, List.nodup_nil, List.nodup_nil, fun _ h => absurd h List.not_mem_nil, rfl⟩ (fun i H' ⟨_, s', _⟩ => s'.seq hxG) (fun i z H3 T1 hz ⟨al', s3, h1, h2, h3, h4, h5, h6, h7⟩ hT1 => ?_) fun H3 ⟨al', s3, h1, h2, h3, h4, h5, h6, h7⟩ => ?_⟩
    · obtain ⟨u, hu, rfl⟩ := map_at hz
      have hil : i < cl.length := (List.getElem?_eq_some_iff.mp hu).1
      refine ⟨T1, _, rfl, .inl (.inl upd_same), rfl, _, _, rfl, _, _, rfl, rfl, rfl, ?_⟩
      have sT : Same H3 (L2.upd H3 T1 (.tup [.int (i : Nat), .int u])) := Same.upd hT1
      refine ⟨_, rfl, _, rfl, fun p dp hp hdp hne => ⟨p, dp, (i : Nat), u, rfl, upd_same, fun H4 l hA hl hbut => ⟨rfl, ?_⟩⟩⟩
      have keep : ∀ q o, H3 q = some o → L2.upd (L2.upd (L2.upd H3 T1 (.tup [.int (i : Nat), .int u])) dp (.own p)) p (.ins c.A dp []) q = some o := fun q o eq => by
        rw [upd_ne (ne_of_none (sT _ _ eq) hp), upd_ne (ne_of_none (sT _ _ eq) hdp)]
        exact sT _ _ eq
      have s4 : Same H3 H4 := fun q o eq => hbut q o (keep q o eq) (ne_of_none (sT _ _ eq) hp)
      have np3 : H3 p = none := sT.free hp
      have nl3 : H3 l = none := by
        cases eq : H3 l with
        | none => rfl
        | some o =>
          rw [keep l o eq] at hl
          cases hl
      refine ⟨_, s4 _ _ h1, by rw [List.length_map]; exact small (m := 1000) (by omega), al' ++ [(p, l, Ar.A.new (i : Nat) u)], fun q o eq => ?_, ?_, ?_, ?_, ?_, ?_, fun y hy => ?_, by rw [List.length_append, h7]; rfl⟩
      · rw [upd_ne (ne_of_none eq nL)]
        exact s4 _ _ (s3 _ _ eq)
      · rw [upd_same]
        unfold arefs
        rw [List.map_append]
        rfl
      · have up : ∀ q o, H4 q = some o → (∀ l, o ≠ HO.lst l) → L2.upd H4 L1 (.lst (arefs al' ++ [V.ref p])) q = some o := fun q o eq hn => by
          rw [upd_ne (fun z => by rw [z, s4 _ _ h1] at eq; exact hn _ (Option.some.inj eq).symm)]
          exact eq
        have nlL : ∀ q (l : List Int), q ≠ L1 → H4 q = some (.lst (ivs l)) → L2.upd H4 L1 (.lst (arefs al' ++ [V.ref p])) q = some (.lst (ivs l)) := fun q l hq eq => by
          rw [upd_ne hq]
          exact eq
        refine AllAt.snoc (fun y hy => ?_) ?_
        · obtain ⟨⟨dy, y1⟩, y2, y3⟩ := (h2 y hy).same s4
          refine ⟨⟨dy, up _ _ y1 fun l z => by cases z⟩, nlL _ _ (fun z => ?_) y2, y3⟩
          have hy2 := (h2 y hy).lst
          rw [z, h1] at hy2
          have hy2 := HO.lst.inj (Option.some.inj hy2)
          cases al' with
          | nil => cases hy
          | cons y0 al' =>
            cases hm : y.2.2.arrows with
            | nil => rw [hm] at hy2; cases hy2
            | cons => rw [hm] at hy2; cases hy2
        · obtain ⟨⟨dy, y1⟩, y2, y3⟩ := hA
          exact ⟨⟨dy, up _ _ y1 fun l z => by cases z⟩, nlL _ _ (Ne.symm (ne_of_none h1 nl3)) y2, y3⟩
      · have ez : cl.zipIdx[i]? = some (u, i) := by
          rw [List.getElem?_zipIdx, hu]
          simp
        rw [take_map _ ez, ← h3]
        unfold amods
        rw [List.map_append]
        rfl
      · rw [List.map_append]
        refine nd_snoc' h4 fun hmem => ?_
        obtain ⟨y, hy, ey⟩ := List.mem_map.mp hmem
        obtain ⟨dy, y1⟩ := (h2 y hy).obj
        have ey : y.1 = p := ey
        rw [ey, np3] at y1
        cases y1
      · rw [List.map_append]
        refine nd_snoc' h5 fun hmem => ?_
        obtain ⟨y, hy, ey⟩ := List.mem_map.mp hmem
        have y1 := (h2 y hy).lst
        have ey : y.2.1 = l := ey
        rw [ey, nl3] at y1
        cases y1
      · rcases List.mem_append.mp hy with hy | hy
        · exact h6 y hy
        · rw [List.mem_singleton.mp hy]
          exact ⟨s3.free np3, s3.free nl3⟩
    · have eall : cl.zipIdx.take (ivs cl).length = cl.zipIdx := by
        rw [ivs_length, List.take_of_length_le]
        rw [List.length_zipIdx]
        exact Nat.le_refl _
      rw [eall] at h3
      rw [ivs_length] at h7
      have d3 := s3 _ _ g1
      have nLd : L1 ≠ d := Ne.symm (ne_of_none g1 nL)
      refine ⟨_, rfl, d, c.D, dx, _, rfl, d3, cd.cl, cd.archers, (by show 4 < 1000; decide), ?_⟩
      refine ⟨_, rfl, d, c.D, dx, _, rfl, upd_same, cd.cl, cd.bracket, (by show 4 < 1000; decide), ?_⟩
      rw [upd_upd]
      have b3 : But d H3 (L2.upd H3 d (.ins c.D dx (putF "bracket" .non (putF "archers" (.ref L1) [("ends", .int e), ("arrow_count", .int a), ("archers", .ref la), ("bracket", brV bs)])))) := But.upd _ _ _
      have bH : But d H (L2.upd H3 d (.ins c.D dx (putF "bracket" .non (putF "archers" (.ref L1) [("ends", .int e), ("arrow_count", .int a), ("archers", .ref la), ("bracket", brV bs)])))) := (g2.same s3).trans b3
      refine ⟨_, rfl, x, _, rfl, .inl (sql_but bH hi hx), by show 1 ≤ sizeLine; decide, fun p hp => ?_⟩
      generalize hK4 : L2.upd H3 d _ = H4 at b3 bH hp
      have d4 : H4 d = some (.ins c.D dx [("ends", .int e), ("arrow_count", .int a), ("archers", .ref L1), ("bracket", .non)]) := by
        rw [← hK4, upd_same]
        rfl
      have sp : Same H4 (L2.upd H4 p (.lst [.int (ivs cl).length])) := Same.upd hp
      refine k _ p L1 al' none ⟨⟨dx, sp _ _ d4⟩, sp _ _ (b3 _ _ h1 nLd), fun y hy => ?_, h3.symm, h4, h5, by omega, .inl ⟨rfl, rfl⟩⟩ ?_ (fun q hq => ?_) ?_ (NewA.of ?_)
      · obtain ⟨⟨dy, y1⟩, y2, y3⟩ := h2 y hy
        have n1 : y.1 ≠ d := Ne.symm (ne_of_none g1 (h6 y hy).1)
        have n2 : y.2.1 ≠ d := Ne.symm (ne_of_none g1 (h6 y hy).2)
        exact ⟨⟨dy, sp _ _ (b3 _ _ y1 n1)⟩, sp _ _ (b3 _ _ y2 n2), y3⟩
      · exact (But.kept bH (by unfold daddr; exact List.mem_cons_self) (.inl hi)).ext (Same.ext sp)
      · have fr : ∀ q, G q = none → q ∈ daddr d la al bs ∨ NewA H q := fun q hq => by
          by_cases hqd : q = d
          · exact .inl (by rw [hqd]; unfold daddr; exact List.mem_cons_self)
          · refine .inr (NewA.of ?_)
            cases eq : H q with
            | none => rfl
            | some o =>
              rw [g2 q o eq hqd] at hq
              cases hq
        unfold daddr at hq
        rcases List.mem_cons.mp hq with hq | hq
        · exact .inl (by rw [hq]; unfold daddr; exact List.mem_cons_self)
        · rcases List.mem_cons.mp hq with hq | hq
          · rw [hq]
            exact fr L1 nL
          · rcases List.mem_append.mp hq with hq | hq
            · obtain ⟨y, hy, hq⟩ := List.mem_flatMap.mp hq
              simp only [List.mem_cons, List.not_mem_nil, or_false] at hq
              rcases hq with hq | hq
              · rw [hq]
                exact fr _ (h6 y hy).1
              · rw [hq]
                exact fr _ (h6 y hy).2
            · cases hq
      · rw [upd_same, ivs_length]
        rfl
      · cases eq : H p with
        | none => rfl
        | some o =>
          by_cases hpd : p = d
          · rw [hpd, d4] at hp
            cases hp
          · rw [bH p o eq hpd] at hp
            cases hp
end
end ArW
end
section
set_option Elab.async false
set_option maxRecDepth 100000
set_option maxHeartbeats 4000000
/-! Day: take_end, card. -/
namespace ArW
open PySem PySem.Spec PyProof.Rows L2 LamX

theorem scD3 : FnScope ["self", "number", "arrows", "archer"] ["self", "number", "arrows"] (defScope (sD 3)) := ⟨rfl, rfl, rfl, by decide +kernel, rfl, by decide +kernel, by decide +kernel⟩
theorem scD4 : FnScope ["self", "number", "archer"] ["self", "number"] (defScope (sD 4)) := ⟨rfl, rfl, rfl, by decide +kernel, rfl, by decide +kernel, by decide +kernel⟩
theorem mem_addr {al : AL} {x : Addr × Addr × Ar.A} (h : x ∈ al) (d la : Addr) (bs : Option BS) : x.1 ∈ daddr d la al bs ∧ x.2.1 ∈ daddr d la al bs := by
  unfold daddr
  constructor <;> refine List.mem_cons_of_mem _ (List.mem_cons_of_mem _ (List.mem_append_left _ (List.mem_flatMap.mpr ⟨x, h, ?_⟩)))
  · exact List.mem_cons_self
  · exact List.mem_cons_of_mem _ List.mem_cons_self
theorem nd_eq {α β : Type} {f : α → β} : ∀ {l : List α}, (l.map f).Nodup → ∀ {i j : Nat} {x y : α}, l[i]? = some x → l[j]? = some y → f x = f y → i = j := fun {l} h {i j x y} hx hy e => by
  have h1 : (l.map f)[i]? = some (f x) := by rw [List.getElem?_map, hx]; rfl
  have h2 : (l.map f)[j]? = some (f x) := by rw [List.getElem?_map, hy, e]; rfl
  obtain ⟨a1, b1⟩ := List.getElem?_eq_some_iff.mp h1
  obtain ⟨a2, b2⟩ := List.getElem?_eq_some_iff.mp h2
  exact (List.getElem_inj h).mp (b1.trans b2.symm)
theorem map_set_same {α β : Type} (f : α → β) : ∀ (l : List α) (k : Nat) (x y : α), l[k]? = some x → f y = f x → (l.set k y).map f = l.map f
  | [], _, _, _, h, _ => by simp at h
  | a :: l, 0, x, y, h, e => by
    have h : a = x := by simpa using h
    rw [List.set_cons_zero, List.map_cons, List.map_cons, e, h]
  | a :: l, k + 1, x, y, h, e => by
    rw [List.set_cons_succ, List.map_cons, List.map_cons, map_set_same f l k x y (by simpa using h) e]
theorem map_set {α β : Type} (f : α → β) : ∀ (l : List α) (k : Nat) (y : α), (l.set k y).map f = (l.map f).set k (f y)
  | [], _, _ => rfl
  | _ :: _, 0, _ => rfl
  | a :: l, k + 1, y => by rw [List.set_cons_succ, List.map_cons, List.map_cons, List.set_cons_succ, map_set f l k y]
/-- an archer has shot: nobody else changes -/
theorem DayAt.shot {c : C4} {H H' : Hp} {d la : Addr} {al : AL} {m : Ar.D} (h : DayAt c H d la al none m) {k : Nat} {x : Addr × Addr × Ar.A} {m' : Ar.A} (hx : al[k]? = some x) (hA : ArchAt c.A H' x.1 x.2.1 m') (b : ∀ q o, H q = some o → q ≠ x.1 → q ≠ x.2.1 → H' q = some o) :
    DayAt c H' d la (al.set k (x.1, x.2.1, m')) none { m with archers := m.archers.set k m' } := by
  obtain ⟨⟨dx, h1⟩, h2, h3, h4, h5, h6, h7, h8⟩ := h
  have hm := List.mem_of_getElem? hx
  obtain ⟨⟨dy, y1⟩, y2, y3⟩ := h3 x hm
  have e1 : (al.set k (x.1, x.2.1, m')).map (·.1) = al.map (·.1) := map_set_same _ _ _ x _ hx rfl
  have e2 : (al.set k (x.1, x.2.1, m')).map (·.2.1) = al.map (·.2.1) := map_set_same _ _ _ x _ hx rfl
  refine ⟨⟨dx, ?_⟩, ?_, fun y hy => ?_, ?_, by rw [e1]; exact h5, by rw [e2]; exact h6, by rw [List.length_set]; exact h7, ?_⟩
  · refine (b _ _ h1 (fun z => ?_) (ne_of h1 y2 (by intro z; cases z))).trans ?_
    · rw [z, y1] at h1
      have h1 := Option.some.inj h1
      injection h1 with _ _ h1
      cases h1
    · rfl
  · rw [show arefs (al.set k (x.1, x.2.1, m')) = arefs al from map_set_same _ _ _ x _ hx rfl]
    refine b _ _ h2 (ne_of h2 y1 (by intro z; cases z)) fun z => ?_
    rw [z, y2] at h2
    have h2 := HO.lst.inj (Option.some.inj h2)
    cases al with
    | nil => cases hm
    | cons y0 al' =>
      cases hr : x.2.2.arrows with
      | nil => rw [hr] at h2; cases h2
      | cons => rw [hr] at h2; cases h2
  · obtain ⟨j, hj⟩ := List.mem_iff_getElem?.mp hy
    by_cases hjk : j = k
    · subst hjk
      rw [List.getElem?_set_self (List.getElem?_eq_some_iff.mp hx).1] at hj
      obtain rfl := Option.some.inj hj
      exact hA
    · rw [List.getElem?_set_ne (Ne.symm hjk)] at hj
      obtain ⟨⟨dz, z1⟩, z2, z3⟩ := h3 y (List.mem_of_getElem? hj)
      have n1 : y.1 ≠ x.1 := fun e => hjk (nd_eq h5 hj hx e)
      have n2 : y.2.1 ≠ x.2.1 := fun e => hjk (nd_eq h6 hj hx e)
      exact ⟨⟨dz, b _ _ z1 n1 (ne_of z1 y2 (by intro z; cases z))⟩, b _ _ z2 (ne_of z2 y1 (by intro z; cases z)) n2, z3⟩
  · show m.archers.set k m' = amods (al.set k (x.1, x.2.1, m'))
    unfold amods
    rw [map_set, h4]
  · rcases h8 with h8 | ⟨t, _, e, _⟩
    · exact .inl h8
    · cases e
def spDEnd (c : C4) (T : List (Addr × Str)) : Sp := fun vs H Q _ => ∃ (d la x : Addr) (al : AL) (bs : Option BS) (m : Ar.D) (i : Int) (l : List Int), vs = [.ref d, .int i, .ref x] ∧ DayAt c H d la al bs m ∧ H x = some (.lst (ivs l)) ∧ x ∉ daddr d la al bs ∧ l.length ≤ sizeLine ∧ m.ac ≤ 100 ∧ (∀ y ∈ m.archers, y.arrows.length ≤ 100) ∧
  DOut c T H d la al bs (m.end_ i l) Q
def spDCard (c : C4) (T : List (Addr × Str)) : Sp := fun vs H Q _ => ∃ (d la : Addr) (al : AL) (bs : Option BS) (m : Ar.D) (i : Int), vs = [.ref d, .int i] ∧ DayAt c H d la al bs m ∧ DOut c T H d la al bs (m, m.card i) Q
section
variable {P : Program} {w : World} {K : PySem.W.Frag} {mg : Str → Option Value} {base : Heap} {f : Addr} {c : C4} {fd : FuncData} {T : List (Addr × Str)}
theorem ok_dend (F : FnP K "take_end" "Day.take_end" (sD 3) f fd) (cd : CDy K c.D) (ca : CA K c.A) (B : TB mg) (GAt : MF P w K mg base c.D "archer_at" 1 ["self", "number"] (spDArcher c)) (GAr : GF P w K mg base "are_arrows" 1 ["arrows", "count"] (spAre K)) (GSm : GF P w K mg base "sum_of" 2 ["arrows"] (spSum K))
    (GT : MF P w K mg base c.A "take_end" 1 ["self", "arrows"] (spATake c.A)) (GP : MF P w K mg base c.A "points" 3 ["self"] (spARead c.A Ar.A.points)) : FnOk P w K mg base CX0 4 f fd ["self", "number", "arrows"] (spDEnd c T) := by
  refine fn_ok F scD3 (fun vs H Q E h => ?_) (fun cdv A outer s H vs Q E hr h => ?_)
  · obtain ⟨d, la, x, al, bs, m, i, l, rfl, _⟩ := h
    rfl
  · obtain ⟨d, la, x, al, bs, m, i, l, rfl, hD, hx, hxn, hll, hac, harr, k⟩ := h
    obtain ⟨dx, hd⟩ := hD.obj
    refine ⟨_, pss_cons (ps_set (i := 3) scD3.nd rfl (.inl rfl) (pe_m (X := _) GAt cd.cl hr (by decide) (pv 0) (pa_cons (pv 1) pa_nil)))
      (pss_cons (ps_if (PW.pt (pw_or (pt_cmp (pc_isN (pv 3))) (pw_or1 (pt_not (pt_val (pe_g (X := _) GAr hr (by decide) rfl (pa_cons (pv 2) (pa_cons (pe_fld (pv 0) rfl) pa_nil)))))))) (pss_one (ps_ret (pe_lst (pa_cons (pe_kI B.WRONG rfl) pa_nil)))) pss_nil)
      (pss_cons (ps_if (pt_cmp (pc_notN (pe_fld (pv 0) rfl))) (pss_one (ps_ret (pe_lst (pa_cons (pe_un un_neg pe_int) pa_nil)))) pss_nil)
      (pss_cons (ps_if (pt_cmpR op_ge (pe_fld (pv 3) rfl) (pe_fld (pv 0) rfl) (nomark _)) (pss_one (ps_ret (pe_lst (pa_cons (pe_un un_neg pe_int) pa_nil)))) pss_nil)
      (pss_cons (ps_expr (pe_m (X := _) GT ca.cl hr (by decide) (pv 3) (pa_cons (pv 2) pa_nil)))
      (pss_one (ps_ret (pe_lst (pa_cons (pe_fld (pv 3) rfl) (pa_cons (pe_g (X := _) GSm hr (by decide) rfl (pa_cons (pv 2) pa_nil)) (pa_cons (pe_m0 (X := _) GP ca.cl hr (by decide) (pv 3)) pa_nil)))))))))), ?_⟩
    refine ⟨_, rfl, d, dx, _, rfl, hd, rfl, _, rfl, d, la, al, bs, m, i, rfl, hD, fun hno => ?_, fun kk y hs hy => ?_⟩
    · have er : m.end_ i l = (m, [-1]) := by
        unfold Ar.D.end_
        rw [hno]
      refine ⟨_, rfl, _, rfl, ?_⟩
      rw [decide_eq_true rfl]
      exact iteT (iteT (k.num hD er (Ext.refl T H)))
    · have hm := List.mem_of_getElem? hy
      have hA := hD.all y hm
      obtain ⟨dy, hoy⟩ := hA.obj
      refine ⟨_, rfl, _, rfl, ?_⟩
      rw [decide_eq_false (by intro z; cases z)]
      refine iteF ⟨_, rfl, _, rfl, d, c.D, dx, _, _, rfl, hd, cd.cl, cd.ac, rfl, x, l, m.ac, rfl, SqL.of hx, hll, fun H1 s1 => ⟨_, rfl, ?_⟩⟩
      cases ha : Ar.areArrows l m.ac
      · have er : m.end_ i l = (m, [-1]) := by
          unfold Ar.D.end_
          rw [hs]
          show (if Ar.areArrows l m.ac = false then _ else _) = _
          rw [if_pos ha]
        exact iteT (k.num hD er (Same.ext s1))
      refine iteF ⟨_, rfl, d, c.D, dx, _, _, rfl, s1 _ _ hd, cd.cl, cd.bracket, rfl, _, rfl, ?_⟩
      rcases hD.br with ⟨hb1, hb2⟩ | ⟨t, bm, hb1, hb2, _⟩
      rotate_left
      · have er : m.end_ i l = (m, [-3]) := by
          unfold Ar.D.end_
          rw [hs]
          show (if Ar.areArrows l m.ac = false then _ else if m.br.isSome = true then _ else _) = _
          rw [if_neg (by rw [ha]; decide), if_pos (by rw [hb2]; rfl)]
        rw [hb1, show (!decide (brV (some t) = V.non)) = true by rw [decide_eq_false (by intro z; cases z)]; rfl]
        exact iteT (k.neg hD er (Same.ext s1))
      rw [hb1, show (!decide (brV none = V.non)) = false by rw [decide_eq_true (show brV none = V.non from rfl)]; rfl]
      refine iteF ⟨_, rfl, y.1, c.A, dy, _, _, rfl, s1 _ _ hoy, ca.cl, ca.ends, rfl, _, rfl, d, c.D, dx, _, _, rfl, s1 _ _ hd, cd.cl, cd.ends, rfl, _, _, rfl, rfl, _, rfl, ?_⟩
      by_cases c1 : m.ends ≤ y.2.2.ends
      · have er : m.end_ i l = (m, [-5]) := by
          unfold Ar.D.end_
          rw [hs]
          show (if Ar.areArrows l m.ac = false then _ else if m.br.isSome = true then _ else if m.ends ≤ y.2.2.ends then _ else _) = _
          rw [if_neg (by rw [ha]; decide), if_neg (by rw [hb2]; decide), if_pos c1]
        rw [decide_eq_true c1]
        exact iteT (k.neg hD er (Same.ext s1))
      rw [decide_eq_false c1]
      subst hb1
      have er : m.end_ i l = ({ m with archers := m.archers.set kk (y.2.2.take l) }, [(y.2.2.take l).ends, Ar.sumOf l, (y.2.2.take l).points]) := by
        unfold Ar.D.end_
        rw [hs]
        show (if Ar.areArrows l m.ac = false then _ else if m.br.isSome = true then _ else if m.ends ≤ y.2.2.ends then _ else _) = _
        rw [if_neg (by rw [ha]; decide), if_neg (by rw [hb2]; decide), if_neg c1]
      have hlen : l.length ≤ 100 := by
        unfold Ar.areArrows at ha
        rw [Bool.and_eq_true] at ha
        have := of_decide_eq_true ha.1
        omega
      have hy100 : y.2.2.arrows.length ≤ 100 := harr _ (by rw [hD.mods]; exact List.mem_map.mpr ⟨y, hm, rfl⟩)
      refine iteF ⟨_, rfl, y.1, dy, _, rfl, s1 _ _ hoy, rfl, _, rfl, y.1, y.2.1, x, y.2.2, l, rfl, hA.same s1, s1 _ _ hx, by omega, fun H2 hA2 b2 => ?_⟩
      have nx1 : x ≠ y.1 := fun z => hxn (by rw [z]; exact (mem_addr hm d la none).1)
      have nx2 : x ≠ y.2.1 := fun z => hxn (by rw [z]; exact (mem_addr hm d la none).2)
      have hx2 := b2 _ _ (s1 _ _ hx) nx1 nx2
      obtain ⟨dz, hz⟩ := hA2.obj
      refine ⟨_, rfl, y.1, c.A, dz, _, _, rfl, hz, ca.cl, ca.ends, rfl, _, rfl, x, l, rfl, SqL.of hx2, by omega, fun H3 s3 => ?_⟩
      refine ⟨_, rfl, y.1, dz, _, rfl, s3 _ _ hz, rfl, y.1, y.2.1, y.2.2.take l, rfl, hA2.same s3, fun H4 s4 => ⟨by show 3 ≤ sizeLine; decide, fun p hp => ?_⟩⟩
      have s24 := (s3.trans s4).trans (Same.upd (o := .lst [.int (y.2.2.take l).ends, .int (Ar.sumOf l), .int (y.2.2.take l).points]) hp)
      have hD2 := (hD.shot hy hA2 fun q o e n1 n2 => b2 q o (s1 q o e) n1 n2).same s24
      unfold DOut at k
      rw [er] at k
      refine k _ p la _ none hD2 ?_ (fun q hq => ?_) ?_ (NewA.of ?_)
      · refine Kept.ext ⟨fun q o e _ nq => b2 q o (s1 q o e) (fun z => nq (by rw [z]; exact (mem_addr hm d la none).1)) (fun z => nq (by rw [z]; exact (mem_addr hm d la none).2)), fun t => ?_⟩ (Same.ext s24)
        refine tabs_but (F := fun q => q = y.1 ∨ q = y.2.1) t (fun q hq => ?_) fun q o e hq => b2 q o (s1 q o e) (fun z => hq (.inl z)) fun z => hq (.inr z)
        rcases hq with hq | hq
        · rw [hq]
          exact .inl ⟨_, _, _, hoy⟩
        · rw [hq]
          exact .inr (.inl ⟨_, hA.lst⟩)
      · have e1 : ((al.set kk (y.1, y.2.1, y.2.2.take l)).flatMap fun x => [x.1, x.2.1]) = al.flatMap fun x => [x.1, x.2.1] := by
          rw [List.flatMap_def, List.flatMap_def, map_set_same (fun x : Addr × Addr × Ar.A => [x.1, x.2.1]) al kk y (y.1, y.2.1, y.2.2.take l) hy rfl]
        refine .inl ?_
        unfold daddr at hq ⊢
        rw [e1] at hq
        exact hq
      · rw [upd_same]
        rfl
      · cases eq : H p with
        | none => rfl
        | some o =>
          by_cases h1 : p = y.1
          · rw [h1, s4 _ _ (s3 _ _ hz)] at hp
            cases hp
          · by_cases h2 : p = y.2.1
            · rw [h2, s4 _ _ (s3 _ _ hA2.lst)] at hp
              cases hp
            · rw [s4 _ _ (s3 _ _ (b2 _ _ (s1 _ _ eq) h1 h2))] at hp
              cases hp
theorem ok_dcard (F : FnP K "card" "Day.card" (sD 4) f fd) (cd : CDy K c.D) (ca : CA K c.A) (B : TB mg) (GAt : MF P w K mg base c.D "archer_at" 1 ["self", "number"] (spDArcher c)) (GP : MF P w K mg base c.A "points" 3 ["self"] (spARead c.A Ar.A.points)) (GT : MF P w K mg base c.A "tens" 1 ["self"] (spARead c.A Ar.A.tens))
    (GI : MF P w K mg base c.A "inner_tens" 1 ["self"] (spARead c.A Ar.A.inner)) : FnOk P w K mg base CX0 4 f fd ["self", "number"] (spDCard c T) := by
  refine fn_ok F scD4 (fun vs H Q E h => ?_) (fun cdv A outer s H vs Q E hr h => ?_)
  · obtain ⟨d, la, al, bs, m, i, rfl, _⟩ := h
    rfl
  · obtain ⟨d, la, al, bs, m, i, rfl, hD, k⟩ := h
    obtain ⟨dx, hd⟩ := hD.obj
    refine ⟨_, pss_cons (ps_set (i := 2) scD4.nd rfl (.inl rfl) (pe_m (X := _) GAt cd.cl hr (by decide) (pv 0) (pa_cons (pv 1) pa_nil)))
      (pss_cons (ps_if (pt_cmp (pc_isN (pv 2))) (pss_one (ps_ret (pe_lst (pa_cons (pe_kI B.WRONG rfl) pa_nil)))) pss_nil)
      (pss_one (ps_ret (pe_op op_cat (pe_lst (pa_cons (pe_fld (pv 2) rfl) (pa_cons (pe_m0 (X := _) GP ca.cl hr (by decide) (pv 2)) (pa_cons (pe_m0 (X := _) GT ca.cl hr (by decide) (pv 2)) (pa_cons (pe_m0 (X := _) GI ca.cl hr (by decide) (pv 2)) pa_nil))))) (pe_fld (pv 2) rfl))))), ?_⟩
    refine ⟨_, rfl, d, dx, _, rfl, hd, rfl, _, rfl, d, la, al, bs, m, i, rfl, hD, fun hno => ?_, fun kk y hs hy => ?_⟩
    · have er : (m, m.card i) = (m, [-1]) := by
        unfold Ar.D.card
        rw [hno]
      refine ⟨_, rfl, _, rfl, ?_⟩
      rw [decide_eq_true rfl]
      exact iteT (k.num hD er (Ext.refl T H))
    · have hm := List.mem_of_getElem? hy
      have hA := hD.all y hm
      obtain ⟨dy, hoy⟩ := hA.obj
      have er : m.card i = [y.2.2.ends, y.2.2.points, y.2.2.tens, y.2.2.inner] ++ y.2.2.arrows := by
        unfold Ar.D.card
        rw [hs]
      rw [er] at k
      refine ⟨_, rfl, _, rfl, ?_⟩
      rw [decide_eq_false (by intro z; cases z)]
      refine iteF ⟨_, rfl, y.1, c.A, dy, _, _, rfl, hoy, ca.cl, ca.ends, rfl, ?_⟩
      refine ⟨_, rfl, y.1, dy, _, rfl, hoy, rfl, y.1, y.2.1, y.2.2, rfl, hA, fun H1 s1 => ?_⟩
      refine ⟨_, rfl, y.1, dy, _, rfl, s1 _ _ hoy, rfl, y.1, y.2.1, y.2.2, rfl, hA.same s1, fun H2 s2 => ?_⟩
      have s12 : Same H H2 := s1.trans s2
      refine ⟨_, rfl, y.1, dy, _, rfl, s12 _ _ hoy, rfl, y.1, y.2.1, y.2.2, rfl, hA.same s12, fun H3 s3 => ⟨by show 4 ≤ sizeLine; decide, fun p hp => ?_⟩⟩
      have s13 : Same H (L2.upd H3 p (.lst [.int y.2.2.ends, .int y.2.2.points, .int y.2.2.tens, .int y.2.2.inner])) := (s12.trans s3).trans (Same.upd hp)
      refine ⟨_, rfl, y.1, c.A, dy, _, _, rfl, s13 _ _ hoy, ca.cl, ca.arrows, rfl, p, y.2.1, _, _, rfl, rfl, upd_same, s13 _ _ hA.lst, ?_, fun p2 hp2 => ?_⟩
      · rw [ivs_length]
        have := hA.few
        exact Nat.le_of_lt (small (m := 1000) (by show 4 + _ ≤ _; omega))
      · refine k.read hD rfl (Same.ext (s13.trans (Same.upd hp2))) ?_ (NewA.of (s13.free hp2))
        rw [upd_same, ivs_append]
        rfl
end
end ArW
end
section
set_option Elab.async false
set_option maxRecDepth 100000
set_option maxHeartbeats 4000000
/-! Day: ranking, clubs. -/
namespace ArW
open PySem PySem.Spec PyProof.Rows L2 LamX

theorem scD5 : FnScope ["self", "answer", "archer"] ["self"] (defScope (sD 5)) := ⟨rfl, rfl, rfl, by decide +kernel, rfl, by decide +kernel, by decide +kernel⟩
theorem scD6 : FnScope ["self", "rows", "answer", "row"] ["self"] (defScope (sD 6)) := ⟨rfl, rfl, rfl, by decide +kernel, rfl, by decide +kernel, by decide +kernel⟩
def spDRead (c : C4) (T : List (Addr × Str)) (g : Ar.D → List Int) : Sp := fun vs H Q _ => ∃ (d la : Addr) (al : AL) (bs : Option BS) (m : Ar.D), vs = [.ref d] ∧ Tabs T H ∧ DayAt c H d la al bs m ∧ DOut c T H d la al bs (m, g m) Q
theorem flat_snoc {α : Type} {l : List α} {i : Nat} {x : α} (g : α → List Int) (h : l[i]? = some x) : (l.take (i + 1)).flatMap g = (l.take i).flatMap g ++ g x := by
  rw [take_snoc h, List.flatMap_append, List.flatMap_cons, List.flatMap_nil, List.append_nil]
theorem flat_len {α : Type} (g : α → List Int) (k : Nat) (hg : ∀ x, (g x).length ≤ k) : ∀ l : List α, (l.flatMap g).length ≤ k * l.length
  | [] => Nat.zero_le _
  | x :: l => by
    rw [List.flatMap_cons, List.length_append, List.length_cons, Nat.mul_succ]
    have h1 := hg x
    have h2 := flat_len g k hg l
    omega
theorem dput_len (d : List (Int × List Int)) (x p : Int) : (Ar.dput d x p).length ≤ d.length + 1 := by
  unfold Ar.dput
  split
  · rw [List.length_map]
    omega
  · rw [List.length_append]
    exact Nat.le_refl _
theorem dict_len : ∀ (ms : List Ar.A) (d : List (Int × List Int)), (ms.foldl (fun d m => Ar.dput d m.club m.points) d).length ≤ d.length + ms.length
  | [], _ => Nat.le_refl _
  | m :: ms, d => by
    have h1 := dict_len ms (Ar.dput d m.club m.points)
    have h2 := dput_len d m.club m.points
    rw [List.foldl_cons, List.length_cons]
    omega
theorem rows_len (ms : List Ar.A) : (Ar.clubRows ms).length ≤ ms.length := by
  unfold Ar.clubRows
  rw [List.length_map]
  have h1 := List.length_filter_le (fun e : Int × List Int => decide (3 ≤ e.2.length)) (Ar.clubDict ms)
  have h2 := dict_len ms []
  unfold Ar.clubDict at *
  rw [List.length_nil] at h2
  omega
/-- a new list, grown behind a step that may make tables grow -/
theorem ext_new {T : List (Addr × Str)} {H H2 H' : Hp} {R : Addr} {o : HO} {l : List V} (hR : H R = none) (e : Ext T (upd H R o) H2) (b : But R H2 H') (h2 : H2 R = some (.lst l)) : Ext T H H' := by
  refine ⟨fun q u eq n => b q u (e.n q u (Same.upd hR _ _ eq) n) (ne_of_none eq hR), fun t => tabs_but (F := fun q => q = R) (e.t ((Same.ext (T := T) (Same.upd hR)).t t)) (fun q hq => ?_) fun q u eq hq => b q u eq hq⟩
  rw [hq]
  exact .inr (.inl ⟨_, h2⟩)
section
variable {P : Program} {w : World} {K : PySem.W.Frag} {mg : Str → Option Value} {base : Heap} {f : Addr} {c : C4} {fd : FuncData} {T : List (Addr × Str)}
theorem ok_dranking (F : FnP K "ranking" "Day.ranking" (sD 5) f fd) (cd : CDy K c.D) (ca : CA K c.A) (B : TB mg) (GR : GF P w K mg base "ranked" 8 ["archers"] (spRanked c.A T)) (GP : MF P w K mg base c.A "points" 3 ["self"] (spARead c.A Ar.A.points)) : FnOk P w K mg base CX0 9 f fd ["self"] (spDRead c T Ar.D.ranking) := by
  refine fn_ok F scD5 (fun vs H Q E h => ?_) (fun cdv A outer s H vs Q E hr h => ?_)
  · obtain ⟨d, la, al, bs, m, rfl, _⟩ := h
    rfl
  · obtain ⟨d, la, al, bs, m, rfl, hT, hD, k⟩ := h
    obtain ⟨dx, hd⟩ := hD.obj
    have hf := hD.few
    refine ⟨_, pss_cons (ps_set (i := 1) scD5.nd rfl (.inl rfl) (pe_lst (pa_cons (pe_callB call_len_seq (by rfl) B.len PySem.boot_len (pa_cons (pe_fld (pv 0) rfl) pa_nil)) pa_nil)))
      (pss_cons (ps_for PassesOwn.never rfl (pi_list (pe_g (X := _) GR hr (by decide) rfl (pa_cons (pe_fld (pv 0) rfl) pa_nil))) (pg_name (i := 2) scD5.nd rfl (Or.inl rfl))
        (pss_one (ps_expr (pe_bm PySem.F.plainAttrs_list PySem.F.slot_list_extend PySem.F.type_list_extend mt_extend (pv 1) (pa_cons (pe_lst (pa_cons (pe_fld (pv 2) rfl) (pa_cons (pe_m0 (X := _) GP ca.cl hr (by decide) (pv 2)) pa_nil))) pa_nil)))))
      (pss_one (ps_ret (pv 1)))), ?_⟩
    refine ⟨_, rfl, d, c.D, dx, _, _, rfl, hd, cd.cl, cd.archers, rfl, la, _, rfl, .inl (SqL.of hD.lst), by show 1 ≤ sizeLine; decide, fun R hR => ?_⟩
    have sR : Same H (L2.upd H R (.lst [.int (arefs al).length])) := Same.upd hR
    refine ⟨_, rfl, d, c.D, dx, _, _, rfl, sR _ _ hd, cd.cl, cd.archers, rfl, la, al, rfl, (Same.ext sR).t hT, sR _ _ hD.lst, hD.all.same sR, fun H1 H2 pl e1 s2 npl hpl => ?_⟩
    have e2 := e1.trans (Same.ext s2)
    have h2R : H2 R = some (.lst [.int (arefs al).length]) := e2.n _ _ upd_same lst_tbl
    have nRpl : R ≠ pl := fun z => by
      have := e1.n R _ upd_same lst_tbl
      rw [z, npl] at this
      cases this
    have hD2 : DayAt c H2 d la al bs m := hD.ext ((Same.ext (T := T) sR).trans e2).n
    have hrk : m.ranking = (al.length : Int) :: (srt al).flatMap fun x => [x.2.2.number, x.2.2.points] := by
      unfold Ar.D.ranking
      rw [hD.mods, ← srt_mods, List.length_map]
      unfold amods
      rw [List.flatMap_map]
    have hsl : (srt al).length = al.length := (srt_perm al).length_eq
    refine ⟨pl, rfl, ⟨arefs (srt al), SqL.of hpl⟩, for_list (xs := arefs (srt al)) (fun q σ H' => ∃ y, σ = [some (.ref d), some (.ref R), y] ∧ But R H2 H' ∧ H' R = some (.lst (ivs ((al.length : Int) :: ((srt al).take q).flatMap fun x => [x.2.2.number, x.2.2.points]))))
      ⟨_, rfl, fun q o e _ => e, by rw [h2R, List.length_map]; rfl⟩ (fun q σ H' _ ⟨_, _, b', _⟩ => SqL.of (b' _ _ hpl (Ne.symm nRpl))) (fun q x σ H3 hx ⟨y, es, b3, h3⟩ => ?_) fun σ H3 ⟨y, es, b3, h3⟩ => ?_⟩
    · obtain ⟨x, hxx, rfl⟩ := map_at hx
      subst es
      have hm := List.mem_of_getElem? hxx
      obtain ⟨⟨dy, y1⟩, y2, y3⟩ := hD2.all x ((srt_perm al).mem_iff.mp hm)
      have nx : x.1 ≠ R := ne_of y1 h2R (by intro z; cases z)
      have nl : x.2.1 ≠ R := fun z => by
        have hl0 := (hD.all x ((srt_perm al).mem_iff.mp hm)).lst
        rw [z, hR] at hl0
        cases hl0
      have hA3 : ArchAt c.A H3 x.1 x.2.1 x.2.2 := ⟨⟨dy, b3 _ _ y1 nx⟩, b3 _ _ y2 nl, y3⟩
      refine ⟨_, rfl, .inl ⟨rfl, _, SqL.of h3⟩, _, rfl, x.1, c.A, dy, _, _, rfl, b3 _ _ y1 nx, ca.cl, ca.number, rfl, _, rfl, x.1, dy, _, rfl, b3 _ _ y1 nx, rfl, x.1, x.2.1, x.2.2, rfl, hA3, fun H4 s4 => ⟨by show 2 ≤ sizeLine; decide, fun p2 hp2 => ?_⟩⟩
      have s5 : Same H3 (L2.upd H4 p2 (.lst [.int x.2.2.number, .int x.2.2.points])) := s4.trans (Same.upd hp2)
      have hq : q < (srt al).length := (List.getElem?_eq_some_iff.mp hxx).1
      refine ⟨R, p2, _, _, rfl, rfl, s5 _ _ h3, upd_same, ?_, _, rfl, (b3.same s5).trans (But.upd _ _ _), ?_⟩
      · rw [ivs_length]
        have := flat_len (fun x : Addr × Addr × Ar.A => [x.2.2.number, x.2.2.points]) 2 (fun _ => Nat.le_refl _) ((srt al).take q)
        rw [List.length_take] at this
        exact Nat.le_of_lt (small (m := 1000) (by show _ + 1 + 2 ≤ _; omega))
      · rw [upd_same, flat_snoc _ hxx, ← List.cons_append, ivs_append]
        rfl
    · subst es
      rw [List.length_map, List.take_length, ← hrk] at h3
      exact ⟨_, rfl, k.read hD rfl (ext_new hR e2 b3 h2R) h3 (NewA.of hR)⟩
theorem ok_dclubs (F : FnP K "clubs" "Day.clubs" (sD 6) f fd) (cd : CDy K c.D) (B : TB mg) (GC : GF P w K mg base "club_rows" 4 ["archers"] (spClubs c.A)) : FnOk P w K mg base CX0 5 f fd ["self"] (spDRead c T Ar.D.clubs) := by
  refine fn_ok F scD6 (fun vs H Q E h => ?_) (fun cdv A outer s H vs Q E hr h => ?_)
  · obtain ⟨d, la, al, bs, m, rfl, _⟩ := h
    rfl
  · obtain ⟨d, la, al, bs, m, rfl, hT, hD, k⟩ := h
    obtain ⟨dx, hd⟩ := hD.obj
    have hf := hD.few
    refine ⟨_, pss_cons (ps_set (i := 1) scD6.nd rfl (.inl rfl) (pe_g (X := _) GC hr (by decide) rfl (pa_cons (pe_fld (pv 0) rfl) pa_nil)))
      (pss_cons (ps_set (i := 2) scD6.nd rfl (.inl rfl) (pe_lst (pa_cons (pe_callB call_len_seq (by rfl) B.len PySem.boot_len (pa_cons (pv 1) pa_nil)) pa_nil)))
      (pss_cons (ps_for PassesOwn.never rfl (pi_list (pv 1)) (pg_name (i := 3) scD6.nd rfl (Or.inl rfl))
        (pss_one (ps_expr (pe_bm PySem.F.plainAttrs_list PySem.F.slot_list_extend PySem.F.type_list_extend mt_extend (pv 2) (pa_cons (pv 3) pa_nil)))))
      (pss_one (ps_ret (pv 2))))), ?_⟩
    refine ⟨_, rfl, d, c.D, dx, _, _, rfl, hd, cd.cl, cd.archers, rfl, la, al, rfl, hD.lst, hD.all, hD.few, fun H1 pr rs s1 npr hpr hrs => ?_⟩
    have hlen : (rs.map V.ref).length = (Ar.clubRows m.archers).length := by rw [List.length_map, hrs.1, hD.mods]
    refine ⟨_, rfl, pr, _, rfl, .inl (SqL.of hpr), by show 1 ≤ sizeLine; decide, fun R hR => ?_⟩
    rw [hlen]
    have sR : Same H1 (L2.upd H1 R (.lst [.int (Ar.clubRows m.archers).length])) := Same.upd hR
    have hrl : (Ar.clubRows m.archers).length ≤ 40 := by
      have h1 := rows_len m.archers
      rw [hD.mods, List.length_map] at h1
      rw [hD.mods]
      omega
    refine ⟨_, rfl, pr, rfl, ⟨rs.map V.ref, SqL.of (sR _ _ hpr)⟩, for_list (xs := rs.map V.ref) (fun q σ H' => ∃ y, σ = [some (.ref d), some (.ref pr), some (.ref R), y] ∧ Same H1 H' ∧ H' R = some (.lst (ivs (((Ar.clubRows m.archers).length : Int) :: ((Ar.clubRows m.archers).take q).flatMap fun r => [r.1, r.2]))))
      ⟨_, rfl, sR, by rw [upd_same]; rfl⟩ (fun q σ H' _ ⟨_, _, s', _⟩ => SqL.of (s' _ _ hpr)) (fun q x σ H3 hx ⟨y, es, s3, h3⟩ => ?_) fun σ H3 ⟨y, es, s3, h3⟩ => ?_⟩
    · obtain ⟨ra, hra, rfl⟩ := map_at hx
      subst es
      have hq : q < rs.length := (List.getElem?_eq_some_iff.mp hra).1
      obtain ⟨rr, hrr⟩ : ∃ rr, (Ar.clubRows m.archers)[q]? = some rr := ⟨_, List.getElem?_eq_getElem (by rw [List.length_map] at hlen; omega)⟩
      have h4 := s3 _ _ (hrs.2 q ra rr hra (by rw [← hD.mods]; exact hrr))
      refine ⟨_, rfl, .inl ⟨rfl, _, SqL.of h3⟩, _, rfl, R, ra, _, _, rfl, rfl, h3, h4, ?_, _, rfl, fun b o e => ?_, ?_⟩
      · rw [ivs_length]
        have := flat_len (fun r : Int × Int => [r.1, r.2]) 2 (fun _ => Nat.le_refl _) ((Ar.clubRows m.archers).take q)
        rw [List.length_take] at this
        exact Nat.le_of_lt (small (m := 1000) (by show _ + 1 + 2 ≤ _; omega))
      · rw [upd_ne (ne_of_none e hR)]
        exact s3 _ _ e
      · rw [upd_same, flat_snoc _ hrr, ← List.cons_append, ivs_append]
        rfl
    · subst es
      rw [hlen, List.take_length] at h3
      exact ⟨_, rfl, k.read hD rfl (Same.ext (s1.trans s3)) h3 (NewA.of (s1.free hR))⟩
end
end ArW
end
section
set_option Elab.async false
set_option maxRecDepth 100000
set_option maxHeartbeats 4000000
/-! Day: its bracket changes; round, match_at, after_shots. -/
namespace ArW
open PySem PySem.Spec PyProof.Rows L2 LamX

theorem ins_ne {C C' dx dx' : Addr} {fs fs' : List (Str × V)} {H : Hp} {a b : Addr} (h : H a = some (.ins C dx fs)) (h' : H b = some (.ins C' dx' fs')) (n : fs ≠ fs') : a ≠ b := fun e => by
  rw [e, h'] at h
  have h := Option.some.inj h
  injection h with _ _ h
  exact n h.symm
theorem dF_mF {m : Ar.D} {la : Addr} {bs : Option BS} {mm : Ar.M} {sc : Addr} : dF m la bs ≠ mF mm sc := fun z => by cases z
theorem aF_mF {m : Ar.A} {l : Addr} {mm : Ar.M} {sc : Addr} : aF m l ≠ mF mm sc := fun z => by cases z
theorem bF_mF {m : Ar.B} {ls lr : Addr} {mm : Ar.M} {sc : Addr} : bF m ls lr ≠ mF mm sc := fun z => by cases z
theorem dropLast_last {α : Type} {l : List α} {r : α} (h : l.getLast? = some r) : l = l.dropLast ++ [r] := by
  obtain ⟨ys, e⟩ := List.getLast?_eq_some_iff.mp h
  rw [e, List.dropLast_concat]
/-- a match of the last round has changed, nothing else -/
theorem BrAt.setLast {C CM b ls lr : Addr} {H H' : Hp} {rl : RL} {m : Ar.B} (h : BrAt C CM H b ls lr rl m) {r : Addr × ML} (hr : rl.getLast? = some r) {k : Nat} {x : Addr × Addr × Ar.M} (hx : r.2[k]? = some x) {sc : Addr} {m' : Ar.M} (hm' : MatchAt CM H' x.1 sc m') (bt : But x.1 H H') :
    BrAt C CM H' b ls lr (rl.dropLast ++ [(r.1, r.2.set k (x.1, sc, m'))]) (m.setLast k m') := by
  obtain ⟨⟨dx, h1⟩, h2, h3, h4, h5, h6, h7, h8, h9, h10⟩ := h
  have hrm := List.mem_of_getLast? hr
  have erl := dropLast_last hr
  have hxm := List.mem_of_getElem? hx
  obtain ⟨⟨dy, y1⟩, y2⟩ := (h4 r hrm).all x hxm
  have nI : ∀ q l, H q = some (.lst l) → H' q = some (.lst l) := fun q l e => bt _ _ e (ne_of e y1 (by intro z; cases z))
  have el : m.last = mmods r.2 := by
    obtain ⟨r', e1, _, e3, _⟩ := last_ref h8 h5
    rw [hr] at e1
    cases e1
    exact e3
  have nd0 : (maddrs rl.dropLast ++ r.2.map (·.1)).Nodup := by
    rw [erl, maddrs_snoc] at h10
    exact h10
  rw [List.nodup_append] at nd0
  obtain ⟨nd1, nd2, nd3⟩ := nd0
  have oth : ∀ y : Addr × Addr × Ar.M, MatchAt CM H y.1 y.2.1 y.2.2 → y.1 ≠ x.1 → MatchAt CM H' y.1 y.2.1 y.2.2 := fun y hy n => by
    obtain ⟨⟨dz, z1⟩, z2⟩ := hy
    exact ⟨⟨dz, bt _ _ z1 n⟩, nI _ _ z2⟩
  refine ⟨⟨dx, bt _ _ h1 (ins_ne h1 y1 bF_mF)⟩, nI _ _ h2, ?_, fun r' hr' => ?_, ?_, ?_, fun r' hr' => ?_, by simp, h9, ?_⟩
  · have e : rrefs (rl.dropLast ++ [(r.1, r.2.set k (x.1, sc, m'))]) = rrefs rl := by
      conv => rhs; rw [erl]
      unfold rrefs
      rw [List.map_append, List.map_append]
      rfl
    rw [e]
    exact nI _ _ h3
  · rcases List.mem_append.mp hr' with hr' | hr'
    · have hmem := List.dropLast_subset _ hr'
      refine ⟨nI _ _ (h4 r' hmem).lst, fun y hy => oth y ((h4 r' hmem).all y hy) fun e => ?_⟩
      exact nd3 y.1 (List.mem_flatMap.mpr ⟨r', hr', List.mem_map.mpr ⟨y, hy, rfl⟩⟩) x.1 (List.mem_map.mpr ⟨x, hxm, rfl⟩) e
    · obtain rfl := List.mem_singleton.mp hr'
      refine ⟨?_, fun y hy => ?_⟩
      · show H' r.1 = some (.lst (mrefs (r.2.set k (x.1, sc, m'))))
        rw [show mrefs (r.2.set k (x.1, sc, m')) = mrefs r.2 from map_set_same _ _ _ x _ hx rfl]
        exact nI _ _ (h4 r hrm).lst
      · obtain ⟨j, hj⟩ := List.mem_iff_getElem?.mp hy
        by_cases hjk : j = k
        · subst hjk
          rw [List.getElem?_set_self (List.getElem?_eq_some_iff.mp hx).1] at hj
          obtain rfl := Option.some.inj hj
          exact hm'
        · rw [List.getElem?_set_ne (Ne.symm hjk)] at hj
          exact oth y ((h4 r hrm).all y (List.mem_of_getElem? hj)) fun e => hjk (nd_eq nd2 hj hx e)
  · show m.rounds.dropLast ++ [m.last.set k m'] = _
    rw [h5, el]
    unfold rmods mmods
    rw [List.map_append, ← List.map_dropLast]
    show _ ++ [_] = _ ++ [(r.2.set k (x.1, sc, m')).map fun x => x.2.2]
    rw [map_set]
  · rw [List.length_append, List.length_dropLast]
    have : 1 ≤ rl.length := List.length_pos_iff.mpr h8
    show rl.length - 1 + 1 ≤ 20
    omega
  · rcases List.mem_append.mp hr' with hr' | hr'
    · exact h7 r' (List.dropLast_subset _ hr')
    · obtain rfl := List.mem_singleton.mp hr'
      show (r.2.set k (x.1, sc, m')).length ≤ 16
      rw [List.length_set]
      exact h7 r hrm
  · have e : maddrs (rl.dropLast ++ [(r.1, r.2.set k (x.1, sc, m'))]) = maddrs rl := by
      rw [maddrs_snoc]
      conv => rhs; rw [erl, maddrs_snoc]
      show _ ++ (r.2.set k (x.1, sc, m')).map (·.1) = _
      rw [map_set_same (fun x : Addr × Addr × Ar.M => x.1) r.2 k x (x.1, sc, m') hx rfl]
    rw [e]
    exact h10
/-- the bracket has changed, nothing else -/
theorem DayAt.brack {c : C4} {H H' : Hp} {d la : Addr} {al : AL} {s s' : BS} {m : Ar.D} (h : DayAt c H d la al (some s) m) {bm' : Ar.B} (hb : s'.b = s.b) (hB : BrAt c.B c.M H' s'.b s'.ls s'.lr s'.rl bm') (F : Addr → Prop)
    (hF : ∀ q, F q → q = s.lr ∨ ∃ C dx mm sc, H q = some (.ins C dx (mF mm sc))) (fr : ∀ q o, H q = some o → ¬ F q → H' q = some o) : DayAt c H' d la al (some s') { m with br := some bm' } := by
  obtain ⟨⟨dx, h1⟩, h2, h3, h4, h5, h6, h7, h8⟩ := h
  obtain ⟨bm, e2, hB0, hal⟩ : ∃ bm, m.br = some bm ∧ BrAt c.B c.M H s.b s.ls s.lr s.rl bm ∧ al ≠ [] := by
    rcases h8 with ⟨z, _⟩ | ⟨t, bm, e1, e2, e3, e4⟩
    · cases z
    · cases e1
      exact ⟨bm, e2, e3, e4⟩
  obtain ⟨r0, rt, er⟩ : ∃ r t, s.rl = r :: t := by
    cases e : s.rl with
    | nil => exact absurd e hB0.some_
    | cons r t => exact ⟨r, t, rfl⟩
  have hr0 := (hB0.all r0 (by rw [er]; exact List.mem_cons_self)).lst
  obtain ⟨a0, at_, ea⟩ : ∃ a t, al = a :: t := by
    cases al with
    | nil => exact absurd rfl hal
    | cons a t => exact ⟨a, t, rfl⟩
  have hlr := hB0.rnd
  rw [er] at hlr
  have nInt : ∀ q l, H q = some (.lst (ivs l)) → ¬ F q := fun q l e f => by
    rcases hF q f with z | ⟨C, dx, mm, sc, z⟩
    · rw [z, hlr] at e
      have e := HO.lst.inj (Option.some.inj e)
      cases l with
      | nil => cases e
      | cons => cases e
    · rw [z] at e
      cases e
  have nIns : ∀ q C dx fs, H q = some (.ins C dx fs) → (∀ mm sc, fs ≠ mF mm sc) → ¬ F q := fun q C dx fs e n f => by
    rcases hF q f with z | ⟨C', dx', mm, sc, z⟩
    · rw [z, hlr] at e
      cases e
    · rw [z] at e
      have e := Option.some.inj e
      injection e with _ _ e
      exact n mm sc e.symm
  refine ⟨⟨dx, ?_⟩, fr _ _ h2 fun f => ?_, fun y hy => ?_, h4, h5, h6, h7, .inr ⟨s', bm', rfl, rfl, hB, hal⟩⟩
  · rw [fr _ _ h1 (nIns _ _ _ _ h1 fun mm sc => dF_mF)]
    show some (HO.ins c.D dx [_, _, _, (("bracket" : Str), V.ref s.b)]) = some (HO.ins c.D dx [_, _, _, (("bracket" : Str), V.ref s'.b)])
    rw [hb]
  · rcases hF la f with z | ⟨C, dx', mm, sc, z⟩
    · rw [z, hlr, ea] at h2
      have h2 := HO.lst.inj (Option.some.inj h2)
      have e1 : r0.1 = a0.1 := V.ref.inj (List.cons.inj h2).1
      obtain ⟨dz, z1⟩ := (h3 a0 (by rw [ea]; exact List.mem_cons_self)).obj
      rw [← e1, hr0] at z1
      cases z1
    · rw [z] at h2
      cases h2
  · obtain ⟨⟨dz, z1⟩, z2, z3⟩ := h3 y hy
    exact ⟨⟨dz, fr _ _ z1 (nIns _ _ _ _ z1 fun mm sc => aF_mF)⟩, fr _ _ z2 (nInt _ _ z2), z3⟩
theorem DayAt.bra {c : C4} {H : Hp} {d la : Addr} {al : AL} {s : BS} {m : Ar.D} (h : DayAt c H d la al (some s) m) {bm : Ar.B} (e : m.br = some bm) : BrAt c.B c.M H s.b s.ls s.lr s.rl bm := by
  rcases h.br with ⟨z, _⟩ | ⟨t, bm', e1, e2, e3, _⟩
  · cases z
  · cases e1
    rw [e] at e2
    cases e2
    exact e3
theorem day_eta {m : Ar.D} {bm : Ar.B} (e : m.br = some bm) : { m with br := some bm } = m := by
  obtain ⟨a, b, c, d⟩ := m
  cases e
  rfl
theorem GoOk.set {m : Ar.B} (h : GoOk m) (hne : m.rounds ≠ []) (k : Nat) (mm : Ar.M) : GoOk (m.setLast k mm) := by
  have e1 : (m.setLast k mm).rounds.length = m.rounds.length := by
    show (m.rounds.dropLast ++ [m.last.set k mm]).length = _
    rw [List.length_append, List.length_dropLast]
    have : 1 ≤ m.rounds.length := List.length_pos_iff.mpr hne
    show m.rounds.length - 1 + 1 = _
    omega
  have e2 : (m.setLast k mm).last.length = m.last.length := by
    show ((m.rounds.dropLast ++ [m.last.set k mm]).getLastD []).length = _
    rw [List.getLastD_eq_getLast?, List.getLast?_concat]
    show (m.last.set k mm).length = _
    rw [List.length_set]
  exact ⟨by rw [e1]; exact h.few, by rw [e2]; exact h.even⟩
theorem mem_baddr {rl : RL} {r : Addr × ML} (h : r ∈ rl) {x : Addr × Addr × Ar.M} (hx : x ∈ r.2) : x.1 ∈ baddrs rl := by
  unfold baddrs
  exact List.mem_flatMap.mpr ⟨r, h, List.mem_cons_of_mem _ (List.mem_flatMap.mpr ⟨x, hx, List.mem_cons_self⟩)⟩
theorem in_day {d la : Addr} {al : AL} {s : BS} {q : Addr} (h : q ∈ baddr (some s)) : q ∈ daddr d la al (some s) := by
  unfold daddr
  exact List.mem_cons_of_mem _ (List.mem_cons_of_mem _ (List.mem_append_right _ h))
theorem day_in {d la : Addr} {al : AL} {s s' : BS} {q : Addr} (h : q ∈ daddr d la al (some s')) : q ∈ daddr d la al (some s) ∨ q ∈ baddr (some s') := by
  unfold daddr at h
  rcases List.mem_cons.mp h with h | h
  · exact .inl (by unfold daddr; rw [h]; exact List.mem_cons_self)
  · rcases List.mem_cons.mp h with h | h
    · exact .inl (by unfold daddr; rw [h]; exact List.mem_cons_of_mem _ List.mem_cons_self)
    · rcases List.mem_append.mp h with h | h
      · exact .inl (by unfold daddr; exact List.mem_cons_of_mem _ (List.mem_cons_of_mem _ (List.mem_append_left _ h)))
      · exact .inr h
end ArW
end
section
set_option Elab.async false
set_option maxRecDepth 100000
set_option maxHeartbeats 4000000
/-! Day: told_round, match_at, after_shots. -/
namespace ArW
open PySem PySem.Spec PyProof.Rows L2 LamX

theorem scD8 : FnScope ["self", "answer", "match"] ["self"] (defScope (sD 8)) := ⟨rfl, rfl, rfl, by decide +kernel, rfl, by decide +kernel, by decide +kernel⟩
theorem scD9 : FnScope ["self", "number", "matches"] ["self", "number"] (defScope (sD 9)) := ⟨rfl, rfl, rfl, by decide +kernel, rfl, by decide +kernel, by decide +kernel⟩
theorem scD12 : FnScope ["self", "match", "answer"] ["self", "match"] (defScope (sD 12)) := ⟨rfl, rfl, rfl, by decide +kernel, rfl, by decide +kernel, by decide +kernel⟩
def spDRound (c : C4) (T : List (Addr × Str)) : Sp := fun vs H Q _ => ∃ (d la : Addr) (al : AL) (s : BS) (m : Ar.D) (bm : Ar.B), vs = [.ref d] ∧ DayAt c H d la al (some s) m ∧ m.br = some bm ∧ DOut c T H d la al (some s) (m, Ar.D.round bm) Q
def spDMatch (c : C4) : Sp := fun vs H Q _ => ∃ (d la : Addr) (al : AL) (s : BS) (m : Ar.D) (bm : Ar.B) (i : Int), vs = [.ref d, .int i] ∧ DayAt c H d la al (some s) m ∧ m.br = some bm ∧ (bm.matchAt i = none → Q .non H) ∧
  ∀ k x r, s.rl.getLast? = some r → bm.matchAt i = some (k, x.2.2) → r.2[k]? = some x → Q (.ref x.1) H
def spDAfter (c : C4) (T : List (Addr × Str)) : Sp := fun vs H Q _ => ∃ (d la a sc : Addr) (al : AL) (s : BS) (m : Ar.D) (bm : Ar.B) (mm : Ar.M), vs = [.ref d, .ref a] ∧ DayAt c H d la al (some s) m ∧ m.br = some bm ∧ MatchAt c.M H a sc mm ∧ GoOk bm ∧
  DOut c T H d la al (some s) ({ m with br := some bm.goOn }, Ar.after mm) Q
section
variable {P : Program} {w : World} {K : PySem.W.Frag} {mg : Str → Option Value} {base : Heap} {f : Addr} {c : C4} {fd : FuncData} {T : List (Addr × Str)}
theorem ok_dround (F : FnP K "told_round" "Day.told_round" (sD 8) f fd) (cd : CDy K c.D) (cb : CB K c.B) (cm : CM K c.M) (B : TB mg) (GL : MF P w K mg base c.B "last" 1 ["self"] (spBLast c.B)) (GS : MF P w K mg base c.M "state" 1 ["self"] (spMState c.M)) :
    FnOk P w K mg base CX0 2 f fd ["self"] (spDRound c T) := by
  refine fn_ok F scD8 (fun vs H Q E h => ?_) (fun cdv A outer s H vs Q E hr h => ?_)
  · obtain ⟨d, la, al, s, m, bm, rfl, _⟩ := h
    rfl
  · obtain ⟨d, la, al, t, m, bm, rfl, hD, hbm, k⟩ := h
    obtain ⟨dx, hd⟩ := hD.obj
    have hB := hD.bra hbm
    obtain ⟨db, hb⟩ := hB.obj
    obtain ⟨r, e1, e2, e3, e4⟩ := last_ref hB.some_ hB.mods
    have hr1 := (hB.all r e4).lst
    have hw1 := hB.wide r e4
    refine ⟨_, pss_cons (ps_set (i := 1) scD8.nd rfl (.inl rfl) (pe_lst (pa_cons (pe_callB call_len_seq (by rfl) B.len PySem.boot_len (pa_cons (pe_fld (pe_fld (pv 0) rfl) rfl) pa_nil)) pa_nil)))
      (pss_cons (ps_for PassesOwn.never rfl (pi_list (pe_m0 (X := _) GL cb.cl hr (by decide) (pe_fld (pv 0) rfl))) (pg_name (i := 2) scD8.nd rfl (Or.inl rfl))
        (pss_cons (ps_expr (pe_bm PySem.F.plainAttrs_list PySem.F.slot_list_extend PySem.F.type_list_extend mt_extend (pv 1) (pa_cons (pe_lst (pa_cons (pe_fld (pv 2) rfl) (pa_cons (pe_fld (pv 2) rfl) pa_nil))) pa_nil)))
        (pss_one (ps_expr (pe_bm PySem.F.plainAttrs_list PySem.F.slot_list_extend PySem.F.type_list_extend mt_extend (pv 1) (pa_cons (pe_m0 (X := _) GS cm.cl hr (by decide) (pv 2)) pa_nil))))))
      (pss_one (ps_ret (pv 1)))), ?_⟩
    refine ⟨_, rfl, d, c.D, dx, _, _, rfl, hd, cd.cl, cd.bracket, rfl, t.b, c.B, db, _, _, rfl, hb, cb.cl, cb.rounds, rfl, t.lr, _, rfl, .inl (SqL.of hB.rnd), by show 1 ≤ sizeLine; decide, fun R hR => ?_⟩
    have sR : Same H (L2.upd H R (.lst [.int (rrefs t.rl).length])) := Same.upd hR
    have el : bm.rounds.length = t.rl.length := by rw [hB.mods, List.length_map]
    have hrd : Ar.D.round bm = (t.rl.length : Int) :: r.2.flatMap fun x => [x.2.2.first, x.2.2.second] ++ x.2.2.state := by
      unfold Ar.D.round
      rw [el, e3]
      unfold mmods
      rw [List.flatMap_map]
    have fl : ∀ q, ((r.2.take q).flatMap fun x => [x.2.2.first, x.2.2.second] ++ x.2.2.state).length ≤ 96 := fun q => by
      have h := flat_len (fun x : Addr × Addr × Ar.M => [x.2.2.first, x.2.2.second] ++ x.2.2.state) 6 (fun _ => Nat.le_refl _) (r.2.take q)
      rw [List.length_take] at h
      omega
    refine ⟨_, rfl, d, c.D, dx, _, _, rfl, sR _ _ hd, cd.cl, cd.bracket, rfl, t.b, db, _, rfl, sR _ _ hb, rfl, t.b, db, t.lr, _, _, _, rfl, sR _ _ hb, rfl, sR _ _ hB.rnd, e2, r.1, rfl, ⟨mrefs r.2, SqL.of (sR _ _ hr1)⟩, for_list (xs := mrefs r.2) (fun q σ H' => ∃ y, σ = [some (.ref d), some (.ref R), y] ∧ Same H H' ∧ H' R = some (.lst (ivs ((t.rl.length : Int) :: (r.2.take q).flatMap fun x => [x.2.2.first, x.2.2.second] ++ x.2.2.state))))
      ⟨_, rfl, sR, by rw [upd_same, List.length_map]; rfl⟩ (fun q σ H' _ ⟨_, _, s', _⟩ => SqL.of (s' _ _ hr1)) (fun q x σ H3 hx ⟨y, es, s3, h3⟩ => ?_) fun σ H3 ⟨y, es, s3, h3⟩ => ?_⟩
    · obtain ⟨x, hxx, rfl⟩ := map_at hx
      subst es
      have hm := ((hB.all r e4).all x (List.mem_of_getElem? hxx)).same s3
      obtain ⟨dy, hoy⟩ := hm.obj
      have hf := fl q
      refine ⟨_, rfl, .inl ⟨rfl, _, SqL.of h3⟩, _, rfl, x.1, c.M, dy, _, _, rfl, hoy, cm.cl, cm.first, rfl, _, rfl, x.1, c.M, dy, _, _, rfl, hoy, cm.cl, cm.second, rfl, by show 2 ≤ sizeLine; decide, fun p2 hp2 => ?_⟩
      have s5 : Same H3 (L2.upd H3 p2 (.lst [.int x.2.2.first, .int x.2.2.second])) := Same.upd hp2
      refine ⟨R, p2, _, _, rfl, rfl, s5 _ _ h3, upd_same, ?_, ?_⟩
      · rw [ivs_length]
        exact Nat.le_of_lt (small (m := 1000) (by show _ + 1 + 2 ≤ _; omega))
      · generalize hG : L2.upd _ R _ = G
        have g1 : G R = some (.lst (ivs (((t.rl.length : Int) :: (r.2.take q).flatMap fun x => [x.2.2.first, x.2.2.second] ++ x.2.2.state) ++ [x.2.2.first, x.2.2.second]))) := by
          rw [← hG, upd_same, ivs_append]
          rfl
        have g2 : But R H3 G := by
          rw [← hG]
          exact Same.but s5 (But.upd _ _ _)
        have nx : x.1 ≠ R := ne_of hoy h3 (by intro z; cases z)
        have nsc : x.2.1 ≠ R := fun z => by
          have h0 := ((hB.all r e4).all x (List.mem_of_getElem? hxx)).lst
          rw [z, hR] at h0
          cases h0
        have hmG : MatchAt c.M G x.1 x.2.1 x.2.2 := ⟨⟨dy, g2 _ _ hoy nx⟩, g2 _ _ hm.lst nsc⟩
        refine ⟨_, rfl, .inl ⟨rfl, _, SqL.of g1⟩, _, rfl, x.1, dy, _, rfl, g2 _ _ hoy nx, rfl, x.1, x.2.1, x.2.2, rfl, hmG, fun H5 p5 s6 n5 h5 => ?_⟩
        refine ⟨R, p5, _, _, rfl, rfl, s6 _ _ g1, h5, ?_, _, rfl, fun b o e => ?_, ?_⟩
        · rw [ivs_length, ivs_length, List.length_append]
          exact Nat.le_of_lt (small (m := 1000) (by show _ + 1 + 2 + 4 ≤ _; omega))
        · rw [upd_ne (ne_of_none e hR)]
          exact s6 _ _ (g2 _ _ (s3 _ _ e) (ne_of_none e hR))
        · rw [upd_same, flat_snoc _ hxx, ← ivs_append, List.append_assoc]
          rfl
    · subst es
      rw [List.length_map, List.take_length, ← hrd] at h3
      exact ⟨_, rfl, k.read hD rfl (Same.ext s3) h3 (NewA.of hR)⟩
theorem ok_dmatch (F : FnP K "match_at" "Day.match_at" (sD 9) f fd) (cd : CDy K c.D) (cb : CB K c.B) (B : TB mg) (GL : MF P w K mg base c.B "last" 1 ["self"] (spBLast c.B)) : FnOk P w K mg base CX0 2 f fd ["self", "number"] (spDMatch c) := by
  refine fn_ok F scD9 (fun vs H Q E h => ?_) (fun cdv A outer s H vs Q E hr h => ?_)
  · obtain ⟨d, la, al, s, m, bm, i, rfl, _⟩ := h
    rfl
  · obtain ⟨d, la, al, t, m, bm, i, rfl, hD, hbm, k1, k2⟩ := h
    obtain ⟨dx, hd⟩ := hD.obj
    have hB := hD.bra hbm
    obtain ⟨db, hb⟩ := hB.obj
    obtain ⟨r, e1, e2, e3, e4⟩ := last_ref hB.some_ hB.mods
    have hr1 := (hB.all r e4).lst
    refine ⟨_, pss_cons (ps_set (i := 2) scD9.nd rfl (.inl rfl) (pe_m0 (X := _) GL cb.cl hr (by decide) (pe_fld (pv 0) rfl)))
      (pss_cons (ps_if (PW.pt (pw_or (pt_cmpR op_lt (pv 1) pe_int (nomark _)) (pw_or1 (pt_cmpR op_ge (pv 1) (pe_callB call_len_seq (by rfl) B.len PySem.boot_len (pa_cons (pv 2) pa_nil)) (nomark _))))) (pss_one (ps_ret pe_non)) pss_nil)
      (pss_one (ps_ret (pe_ix ix_list (pv 2) (pv 1) (fun _ _ => rfl))))), ?_⟩
    have el : bm.last.length = r.2.length := by rw [e3, List.length_map]
    unfold Ar.B.matchAt at k1 k2
    rw [el] at k1 k2
    refine ⟨_, rfl, d, c.D, dx, _, _, rfl, hd, cd.cl, cd.bracket, rfl, t.b, db, _, rfl, hb, rfl, t.b, db, t.lr, _, _, _, rfl, hb, rfl, hB.rnd, e2, ?_⟩
    refine ⟨_, rfl, _, _, rfl, rfl, _, rfl, ?_⟩
    by_cases h1 : i < 0
    · rw [decide_eq_true h1]
      exact iteT (iteT (k1 (if_pos (.inl h1))))
    · rw [decide_eq_false h1]
      refine iteF ⟨_, rfl, _, rfl, r.1, _, rfl, .inl (SqL.of hr1), _, _, rfl, rfl, _, rfl, ?_⟩
      rw [List.length_map]
      by_cases h2 : (r.2.length : Int) ≤ i
      · rw [decide_eq_true h2]
        exact iteT (k1 (if_pos (.inr h2)))
      · rw [decide_eq_false h2]
        have hlt : i.toNat < r.2.length := by omega
        refine iteF ⟨_, rfl, _, rfl, r.1, _, _, .ref (r.2[i.toNat]).1, rfl, rfl, SqL.of hr1, ?_, k2 i.toNat r.2[i.toNat] r e1 ?_ (List.getElem?_eq_getElem hlt)⟩
        · have := atI_nat (xs := mrefs r.2) (j := i.toNat) (v := .ref (r.2[i.toNat]).1) (by rw [List.getElem?_map, List.getElem?_eq_getElem hlt]; rfl)
          rw [show ((i.toNat : Nat) : Int) = i by omega] at this
          exact this
        · rw [if_neg (fun z => z.elim h1 h2), e3, List.getElem?_map, List.getElem?_eq_getElem hlt]
          rfl
/-- self.bracket.go_on(); return answer -/
theorem go_ret {d la p : Addr} {al : AL} {t : BS} {m : Ar.D} {bm : Ar.B} {H H' : Hp} {l : List Int} {Q : VK} {v : V} {D : Ends} (cd : CDy K c.D) (hD : DayAt c H d la al (some t) m) (hbm : m.br = some bm) (hg : GoOk bm) (s : Same H H') (hp : H' p = some (.lst (ivs l))) (hpn : H p = none)
    (k : DOut c T H d la al (some t) ({ m with br := some bm.goOn }, l) Q) (hDr : D.rt = Q) : tSeq (tDrop (tMeth c.B "go_on" (spBGo c.B c.M) [] E0 (tFld K (tVar 0) "bracket") tNil)) (tRet (tVar 2)) D [some (.ref d), some v, some (.ref p)] H' := by
  obtain ⟨dx, hd⟩ := hD.obj
  have hB := hD.bra hbm
  obtain ⟨db, hb⟩ := hB.obj
  have hD' := hD.same s
  have hB' := hB.same s
  refine ⟨_, rfl, d, c.D, dx, _, _, rfl, s _ _ hd, cd.cl, cd.bracket, rfl, t.b, db, _, rfl, s _ _ hb, rfl, t.b, t.ls, t.lr, t.rl, bm, rfl, hB', hg, fun H2 rl' hB2 bt fr => ⟨_, rfl, ?_⟩⟩
  rw [hDr]
  have hlr := hB'.rnd
  have hD2 : DayAt c H2 d la al (some ⟨t.b, t.ls, t.lr, rl'⟩) { m with br := some bm.goOn } := hD'.brack (s' := ⟨t.b, t.ls, t.lr, rl'⟩) rfl hB2 (fun q => q = t.lr) (fun q e => .inl e) fun q o e n => bt q o e n
  have hplr : p ≠ t.lr := fun z => by
    rw [z, hB.rnd] at hpn
    cases hpn
  refine k H2 p la al (some ⟨t.b, t.ls, t.lr, rl'⟩) hD2 ?_ (fun q hq => ?_) (bt _ _ hp hplr) (NewA.of hpn)
  · exact (Same.ext s).thenKept (But.kept bt (in_day (by unfold baddr; simp)) (.inr (.inl ⟨_, hlr⟩)))
  · rcases day_in (s := t) hq with hq | hq
    · exact .inl hq
    · unfold baddr at hq
      simp only [List.mem_cons] at hq
      rcases hq with hq | hq | hq | hq
      · exact .inl (in_day (by rw [hq]; unfold baddr; simp))
      · exact .inl (in_day (by rw [hq]; unfold baddr; simp))
      · exact .inl (in_day (by rw [hq]; unfold baddr; simp))
      · rcases fr q hq with h | h
        · exact .inl (in_day (by unfold baddr; simp [h]))
        · exact .inr (NewA.of (s.free h))
theorem ok_dafter (F : FnP K "after_shots" "Day.after_shots" (sD 12) f fd) (cd : CDy K c.D) (cb : CB K c.B) (cm : CM K c.M) (B : TB mg) (GS : MF P w K mg base c.M "state" 1 ["self"] (spMState c.M)) (GW : MF P w K mg base c.M "is_won" 1 ["self"] (spMRead c.M fun m => .bl m.won)) (GA : MF P w K mg base c.M "is_alike" 2 ["self"] (spMRead c.M fun m => .bl m.alike))
    (GG : MF P w K mg base c.B "go_on" 4 ["self"] (spBGo c.B c.M)) : FnOk P w K mg base CX0 5 f fd ["self", "match"] (spDAfter c T) := by
  refine fn_ok F scD12 (fun vs H Q E h => ?_) (fun cdv A outer s H vs Q E hr h => ?_)
  · obtain ⟨d, la, a, sc, al, s, m, bm, mm, rfl, _⟩ := h
    rfl
  · obtain ⟨d, la, a, sc, al, t, m, bm, mm, rfl, hD, hbm, hM, hg, k⟩ := h
    obtain ⟨da, ha⟩ := hM.obj
    refine ⟨_, pss_cons (ps_set (i := 2) scD12.nd rfl (.inl rfl) (pe_op op_cat (pe_lst (pa_cons pe_int pa_nil)) (pe_m0 (X := _) GS cm.cl hr (by decide) (pv 1))))
      (pss_cons (ps_if (pt_val (pe_m0 (X := _) GW cm.cl hr (by decide) (pv 1))) (pss_one (ps_set (i := 2) scD12.nd rfl (.inl rfl) (pe_op op_cat (pe_lst (pa_cons pe_int pa_nil)) (pe_m0 (X := _) GS cm.cl hr (by decide) (pv 1)))))
        (pss_one (ps_if (pt_val (pe_m0 (X := _) GA cm.cl hr (by decide) (pv 1))) (pss_one (ps_set (i := 2) scD12.nd rfl (.inl rfl) (pe_op op_cat (pe_lst (pa_cons pe_int pa_nil)) (pe_m0 (X := _) GS cm.cl hr (by decide) (pv 1))))) pss_nil)))
      (pss_cons (ps_expr (pe_m0 (X := _) GG cb.cl hr (by decide) (pe_fld (pv 0) rfl))) (pss_one (ps_ret (pv 2))))), ?_⟩
    -- [n] + match.state()
    have mk : ∀ (n : Int) (σ : L2.St) (H1 : Hp) (Q' : VK), Same H H1 → σ[1]? = some (some (.ref a)) → (∀ H2 p, Same H H2 → H p = none → H2 p = some (.lst (ivs (n :: mm.state))) → Q' (.ref p) H2) →
        tOp rCat (tLst (tCons (tC (.int n)) tNil)) (tMeth c.M "state" (spMState c.M) [] E0 (tVar 1) tNil) σ H1 Q' := fun n σ H1 Q' s1 hσ hk => by
      refine ⟨by show 1 ≤ sizeLine; decide, fun p1 hp1 => ?_⟩
      have s2 : Same H (L2.upd H1 p1 (.lst [.int n])) := s1.trans (Same.upd hp1)
      refine ⟨_, hσ, a, da, _, rfl, s2 _ _ ha, rfl, a, sc, mm, rfl, hM.same s2, fun H3 p3 s3 n3 h3 => ?_⟩
      refine ⟨p1, p3, _, _, rfl, rfl, s3 _ _ upd_same, h3, by show 1 + 4 ≤ sizeLine; decide, fun p4 hp4 => ?_⟩
      refine hk _ p4 ((s2.trans s3).trans (Same.upd hp4)) (Same.free (s2.trans s3) hp4) ?_
      rw [upd_same]
      rfl
    refine mk 0 _ H _ (Same.refl H) rfl fun H1 p1 s1 n1 h1 => ?_
    refine ⟨_, rfl, a, da, _, rfl, s1 _ _ ha, rfl, a, sc, mm, rfl, hM.same s1, _, rfl, ?_⟩
    unfold Ar.after at k
    cases hw : mm.won
    · rw [hw] at k
      refine iteF ⟨_, rfl, a, da, _, rfl, s1 _ _ ha, rfl, a, sc, mm, rfl, hM.same s1, _, rfl, ?_⟩
      cases hk : mm.alike
      · rw [hk] at k
        exact iteF (go_ret cd hD hbm hg s1 h1 n1 k rfl)
      · rw [hk] at k
        refine iteT (mk 1 _ H1 _ s1 rfl fun H2 p2 s2 n2 h2 => ?_)
        exact go_ret cd hD hbm hg s2 h2 n2 k rfl
    · rw [hw] at k
      refine iteT (mk 2 _ H1 _ s1 rfl fun H2 p2 s2 n2 h2 => ?_)
      exact go_ret cd hD hbm hg s2 h2 n2 k rfl
end
end ArW
end
section
set_option Elab.async false
set_option maxRecDepth 100000
set_option maxHeartbeats 4000000
/-! Day: shoot, shoot_off. -/
namespace ArW
open PySem PySem.Spec PyProof.Rows L2 LamX

theorem scD10 : FnScope ["self", "number", "first", "second", "match"] ["self", "number", "first", "second"] (defScope (sD 10)) := ⟨rfl, rfl, rfl, by decide +kernel, rfl, by decide +kernel, by decide +kernel⟩
theorem scD11 : FnScope ["self", "numbers", "number", "left", "right", "nearer", "match"] ["self", "numbers"] (defScope (sD 11)) := ⟨rfl, rfl, rfl, by decide +kernel, rfl, by decide +kernel, by decide +kernel⟩
theorem DOut.step {c : C4} {T : List (Addr × Str)} {H H2 : Hp} {d la la2 : Addr} {al al2 : AL} {bs bs2 : Option BS} {r : Ar.D × List Int} {Q : VK} (k : DOut c T H d la al bs r Q) (kp : Kept T (daddr d la al bs) H H2) (fr : ∀ x ∈ daddr d la2 al2 bs2, x ∈ daddr d la al bs ∨ NewA H x) (nk : ∀ q, NewA H2 q → NewA H q) :
    DOut c T H2 d la2 al2 bs2 r Q := fun H' p la' al' bs' h1 h2 h3 h4 h5 => by
  refine k H' p la' al' bs' h1 ⟨fun b o e n f => h2.n b o (kp.n b o e n f) n fun f2 => ?_, fun t => h2.t (kp.t t)⟩ (fun x hx => ?_) h4 (nk p h5)
  · rcases fr b f2 with z | z
    · exact f z
    · obtain ⟨ps, e2⟩ := z o e
      exact n ps e2
  · rcases h3 x hx with z | z
    · exact fr x z
    · exact .inr (nk x z)
/-- a match of the last round was shot: the day behind it -/
theorem DayAt.match_ {c : C4} {T : List (Addr × Str)} {H H1 H2 : Hp} {d la : Addr} {al : AL} {t : BS} {m : Ar.D} {bm : Ar.B} {r : Addr × ML} {k : Nat} {x : Addr × Addr × Ar.M} {sc : Addr} {mm : Ar.M} (hD : DayAt c H d la al (some t) m) (hbm : m.br = some bm) (s : Same H H1) (hr : t.rl.getLast? = some r) (hx : r.2[k]? = some x)
    (hm : MatchAt c.M H2 x.1 sc mm) (bt : But x.1 H1 H2) (hsc : sc = x.2.1 ∨ H sc = none) :
    DayAt c H2 d la al (some ⟨t.b, t.ls, t.lr, t.rl.dropLast ++ [(r.1, r.2.set k (x.1, sc, mm))]⟩) { m with br := some (bm.setLast k mm) } ∧ Kept T (daddr d la al (some t)) H H2 ∧ (∀ q, NewA H2 q → NewA H q) ∧
      ∀ q ∈ daddr d la al (some ⟨t.b, t.ls, t.lr, t.rl.dropLast ++ [(r.1, r.2.set k (x.1, sc, mm))]⟩), (q ∈ daddr d la al (some t) ∨ NewA H q) := by
  have hB := hD.bra hbm
  have hrm := List.mem_of_getLast? hr
  have hxm := List.mem_of_getElem? hx
  obtain ⟨dx, hox⟩ := ((hB.all r hrm).all x hxm).obj
  have bH : But x.1 H H2 := Same.but s bt
  have hB2 := hB.setLast hr hx hm bH
  have inx : x.1 ∈ daddr d la al (some t) := in_day (by unfold baddr; have := mem_baddr hrm hxm; simp [this])
  refine ⟨hD.brack (s' := ⟨t.b, t.ls, t.lr, t.rl.dropLast ++ [(r.1, r.2.set k (x.1, sc, mm))]⟩) rfl hB2 (fun q => q = x.1) (fun q e => .inr ⟨c.M, dx, x.2.2, x.2.1, by rw [e]; exact hox⟩) (fun q o e n => bH q o e n), But.kept bH inx (.inl ⟨_, _, _, hox⟩), fun q hn o e => ?_, fun q hq => ?_⟩
  · by_cases hq : q = x.1
    · obtain ⟨dm, hdm⟩ := hm.obj
      obtain ⟨ps, z⟩ := hn _ (by rw [hq]; exact hdm)
      cases z
    · exact hn o (bH q o e hq)
  rcases day_in (s := t) hq with hq | hq
  · exact .inl hq
  · unfold baddr at hq
    simp only [List.mem_cons] at hq
    rcases hq with hq | hq | hq | hq
    · exact .inl (in_day (by rw [hq]; unfold baddr; simp))
    · exact .inl (in_day (by rw [hq]; unfold baddr; simp))
    · exact .inl (in_day (by rw [hq]; unfold baddr; simp))
    · have old : ∀ q, q ∈ baddrs t.rl → q ∈ daddr d la al (some t) := fun q h => in_day (by unfold baddr; simp [h])
      rw [baddrs_snoc] at hq
      rcases List.mem_append.mp hq with hq | hq
      · refine .inl (old q ?_)
        rw [dropLast_last hr, baddrs_snoc]
        exact List.mem_append_left _ hq
      · rcases List.mem_cons.mp hq with hq | hq
        · refine .inl (old q ?_)
          rw [hq]
          exact List.mem_flatMap.mpr ⟨r, hrm, List.mem_cons_self⟩
        · obtain ⟨y, hy, hq⟩ := List.mem_flatMap.mp hq
          obtain ⟨j, hj⟩ := List.mem_iff_getElem?.mp hy
          have hj : (r.2.set k (x.1, sc, mm))[j]? = some y := hj
          by_cases hjk : j = k
          · subst hjk
            rw [List.getElem?_set_self (List.getElem?_eq_some_iff.mp hx).1] at hj
            obtain rfl := Option.some.inj hj
            simp only [List.mem_cons, List.not_mem_nil, or_false] at hq
            rcases hq with hq | hq
            · exact .inl (hq ▸ inx)
            · rcases hsc with h | h
              · refine .inl (old q ?_)
                rw [hq, h]
                exact List.mem_flatMap.mpr ⟨r, hrm, List.mem_cons_of_mem _ (List.mem_flatMap.mpr ⟨x, hxm, by simp⟩)⟩
              · rw [hq]
                exact .inr (NewA.of h)
          · rw [List.getElem?_set_ne (Ne.symm hjk)] at hj
            exact .inl (old q (List.mem_flatMap.mpr ⟨r, hrm, List.mem_cons_of_mem _ (List.mem_flatMap.mpr ⟨y, List.mem_of_getElem? hj, hq⟩)⟩))
def spDShoot (c : C4) (K : PySem.W.Frag) (T : List (Addr × Str)) : Sp := fun vs H Q _ => ∃ (d la x y : Addr) (al : AL) (s : BS) (m : Ar.D) (bm : Ar.B) (i : Int) (l r : List Int), vs = [.ref d, .int i, .ref x, .ref y] ∧ DayAt c H d la al (some s) m ∧ m.br = some bm ∧ SqL K H x (ivs l) ∧ SqL K H y (ivs r) ∧ l.length ≤ sizeLine ∧ r.length ≤ sizeLine ∧ GoOk bm ∧
  DOut c T H d la al (some s) ({ m with br := some (bm.shoot i l r).1 }, (bm.shoot i l r).2) Q
def spDOff (c : C4) (K : PySem.W.Frag) (T : List (Addr × Str)) : Sp := fun vs H Q _ => ∃ (d la x : Addr) (al : AL) (s : BS) (m : Ar.D) (bm : Ar.B) (i l r n : Int), vs = [.ref d, .ref x] ∧ DayAt c H d la al (some s) m ∧ m.br = some bm ∧ SqL K H x (ivs [i, l, r, n]) ∧ GoOk bm ∧
  DOut c T H d la al (some s) ({ m with br := some (bm.off i l r n).1 }, (bm.off i l r n).2) Q
section
variable {P : Program} {w : World} {K : PySem.W.Frag} {mg : Str → Option Value} {base : Heap} {f : Addr} {c : C4} {fd : FuncData} {T : List (Addr × Str)}
theorem ok_dshoot (F : FnP K "shoot" "Day.shoot" (sD 10) f fd) (cd : CDy K c.D) (cm : CM K c.M) (B : TB mg) (GMa : MF P w K mg base c.D "match_at" 2 ["self", "number"] (spDMatch c)) (GAr : GF P w K mg base "are_arrows" 1 ["arrows", "count"] (spAre K)) (GW : MF P w K mg base c.M "is_won" 1 ["self"] (spMRead c.M fun m => .bl m.won)) (GA : MF P w K mg base c.M "is_alike" 2 ["self"] (spMRead c.M fun m => .bl m.alike))
    (GS : MF P w K mg base c.M "shoot" 3 ["self", "first_arrows", "second_arrows"] (spMShoot K c.M)) (GF : MF P w K mg base c.D "after_shots" 5 ["self", "match"] (spDAfter c T)) : FnOk P w K mg base CX0 6 f fd ["self", "number", "first", "second"] (spDShoot c K T) := by
  refine fn_ok F scD10 (fun vs H Q E h => ?_) (fun cdv A outer s H vs Q E hr h => ?_)
  · obtain ⟨d, la, x, y, al, s, m, bm, i, l, r, rfl, _⟩ := h
    rfl
  · obtain ⟨d, la, x, y, al, t, m, bm, i, l, rr, rfl, hD, hbm, hx, hy, hlx, hly, hg, k⟩ := h
    obtain ⟨dx, hd⟩ := hD.obj
    refine ⟨_, pss_cons (ps_set (i := 4) scD10.nd rfl (.inl rfl) (pe_m (X := _) GMa cd.cl hr (by decide) (pv 0) (pa_cons (pv 1) pa_nil)))
      (pss_cons (ps_if (PW.pt (pw_or (pt_cmp (pc_isN (pv 4))) (pw_or (pt_not (pt_val (pe_g (X := _) GAr hr (by decide) rfl (pa_cons (pv 2) (pa_cons (pe_kI B.MR rfl) pa_nil))))) (pw_or1 (pt_not (pt_val (pe_g (X := _) GAr hr (by decide) rfl (pa_cons (pv 3) (pa_cons (pe_kI B.MR rfl) pa_nil))))))))) (pss_one (ps_ret (pe_lst (pa_cons (pe_kI B.WRONG rfl) pa_nil)))) pss_nil)
      (pss_cons (ps_if (pt_val (pe_m0 (X := _) GW cm.cl hr (by decide) (pv 4))) (pss_one (ps_ret (pe_lst (pa_cons (pe_un un_neg pe_int) pa_nil)))) pss_nil)
      (pss_cons (ps_if (pt_val (pe_m0 (X := _) GA cm.cl hr (by decide) (pv 4))) (pss_one (ps_ret (pe_lst (pa_cons (pe_un un_neg pe_int) pa_nil)))) pss_nil)
      (pss_cons (ps_expr (pe_m (X := _) GS cm.cl hr (by decide) (pv 4) (pa_cons (pv 2) (pa_cons (pv 3) pa_nil))))
      (pss_one (ps_ret (pe_m (X := _) GF cd.cl hr (by decide) (pv 0) (pa_cons (pv 4) pa_nil)))))))), ?_⟩
    have eta := day_eta hbm
    refine ⟨_, rfl, d, dx, _, rfl, hd, rfl, _, rfl, d, la, al, t, m, bm, i, rfl, hD, hbm, fun hno => ?_, fun kk z r hrl hs hz => ?_⟩
    · have er : ({ m with br := some (bm.shoot i l rr).1 }, (bm.shoot i l rr).2) = (m, [-1]) := by
        unfold Ar.B.shoot
        rw [hno]
        show ({ m with br := some bm }, _) = _
        rw [eta]
      refine ⟨_, rfl, _, rfl, ?_⟩
      rw [decide_eq_true rfl]
      exact iteT (iteT (k.num hD er (Ext.refl T H)))
    · have hB := hD.bra hbm
      have hrm := List.mem_of_getLast? hrl
      have hzm := List.mem_of_getElem? hz
      have hM := (hB.all r hrm).all z hzm
      obtain ⟨dz, hoz⟩ := hM.obj
      have wrong : (Ar.areArrows l 3 = false ∨ Ar.areArrows rr 3 = false) → ({ m with br := some (bm.shoot i l rr).1 }, (bm.shoot i l rr).2) = (m, [-1]) := fun hc => by
        unfold Ar.B.shoot
        rw [hs]
        show ({ m with br := some (if Ar.areArrows l 3 = false ∨ Ar.areArrows rr 3 = false then (bm, [-1]) else _ : Ar.B × List Int).1 }, (if Ar.areArrows l 3 = false ∨ Ar.areArrows rr 3 = false then (bm, [-1]) else _ : Ar.B × List Int).2) = _
        rw [if_pos hc]
        show ({ m with br := some bm }, _) = _
        rw [eta]
      refine ⟨_, rfl, _, rfl, ?_⟩
      rw [decide_eq_false (by intro z; cases z)]
      refine iteF ⟨_, rfl, x, l, 3, rfl, hx, hlx, fun H1 s1 => ⟨_, rfl, ?_⟩⟩
      cases ha1 : Ar.areArrows l 3
      · exact iteT (iteT (k.num hD (wrong (.inl ha1)) (Same.ext s1)))
      refine iteF ⟨_, rfl, y, rr, 3, rfl, s1.seq hy, hly, fun H2 s2 => ⟨_, rfl, ?_⟩⟩
      have s12 : Same H H2 := s1.trans s2
      cases ha2 : Ar.areArrows rr 3
      · exact iteT (k.num hD (wrong (.inr ha2)) (Same.ext s12))
      have na : ¬ (Ar.areArrows l 3 = false ∨ Ar.areArrows rr 3 = false) := by
        rw [ha1, ha2]
        decide
      have es : bm.shoot i l rr = if z.2.2.won = true then (bm, [-4]) else if z.2.2.alike = true then (bm, [-5]) else ((bm.setLast kk (z.2.2.shoot l rr)).goOn, Ar.after (z.2.2.shoot l rr)) := by
        unfold Ar.B.shoot
        rw [hs]
        show (if Ar.areArrows l 3 = false ∨ Ar.areArrows rr 3 = false then (bm, [-1]) else _ : Ar.B × List Int) = _
        rw [if_neg na]
      rw [es] at k
      refine iteF ⟨_, rfl, z.1, dz, _, rfl, s12 _ _ hoz, rfl, z.1, z.2.1, z.2.2, rfl, hM.same s12, _, rfl, ?_⟩
      cases hw : z.2.2.won
      rotate_left
      · rw [if_pos hw] at k
        exact iteT (k.neg hD (by show ({ m with br := some bm }, _) = _; rw [eta]) (Same.ext s12))
      rw [if_neg (by rw [hw]; decide)] at k
      refine iteF ⟨_, rfl, z.1, dz, _, rfl, s12 _ _ hoz, rfl, z.1, z.2.1, z.2.2, rfl, hM.same s12, _, rfl, ?_⟩
      cases hk : z.2.2.alike
      rotate_left
      · rw [if_pos hk] at k
        exact iteT (k.neg hD (by show ({ m with br := some bm }, _) = _; rw [eta]) (Same.ext s12))
      rw [if_neg (by rw [hk]; decide)] at k
      have len3 : ∀ q, Ar.areArrows q 3 = true → q.length ≤ 1000 := fun q hq => by
        unfold Ar.areArrows at hq
        rw [Bool.and_eq_true] at hq
        have := of_decide_eq_true hq.1
        omega
      refine iteF ⟨_, rfl, z.1, dz, _, rfl, s12 _ _ hoz, rfl, _, rfl, _, rfl, z.1, z.2.1, x, y, z.2.2, l, rr, rfl, hM.same s12, s12.seq hx, s12.seq hy, len3 l ha1, len3 rr ha2, fun H3 sc hm3 b3 hsc => ?_⟩
      obtain ⟨hD3, kp3, nk3, fr3⟩ := DayAt.match_ (T := T) hD hbm s12 hrl hz hm3 b3 (.inr (s12.free hsc))
      obtain ⟨dx3, hd3⟩ := hD3.obj
      exact ⟨_, rfl, d, dx3, _, rfl, hd3, rfl, _, rfl, d, la, z.1, sc, al, _, _, bm.setLast kk (z.2.2.shoot l rr), z.2.2.shoot l rr, rfl, hD3, rfl, hm3, hg.set (by rw [hB.mods]; exact fun e => hB.some_ (List.map_eq_nil_iff.mp e)) _ _, k.step kp3 fr3 nk3⟩
theorem ok_doff (F : FnP K "shoot_off" "Day.shoot_off" (sD 11) f fd) (cd : CDy K c.D) (cm : CM K c.M) (B : TB mg) (GMa : MF P w K mg base c.D "match_at" 2 ["self", "number"] (spDMatch c)) (GAr : GF P w K mg base "are_arrows" 1 ["arrows", "count"] (spAre K)) (GA : MF P w K mg base c.M "is_alike" 2 ["self"] (spMRead c.M fun m => .bl m.alike))
    (GS : MF P w K mg base c.M "shoot_off" 2 ["self", "left", "right", "nearer"] (spMOff c.M)) (GF : MF P w K mg base c.D "after_shots" 5 ["self", "match"] (spDAfter c T)) : FnOk P w K mg base CX0 6 f fd ["self", "numbers"] (spDOff c K T) := by
  refine fn_ok F scD11 (fun vs H Q E h => ?_) (fun cdv A outer s H vs Q E hr h => ?_)
  · obtain ⟨d, la, x, al, s, m, bm, i, l, r, n, rfl, _⟩ := h
    rfl
  · obtain ⟨d, la, x, al, t, m, bm, i, l, rr, n, rfl, hD, hbm, hx, hg, k⟩ := h
    obtain ⟨dx, hd⟩ := hD.obj
    refine ⟨_, pss_cons (ps_asg (pv 1) (pg_unl rfl (pgs_cons (pg_name (i := 2) scD11.nd rfl (.inl rfl)) (pgs_cons (pg_name (i := 3) scD11.nd rfl (.inl rfl)) (pgs_cons (pg_name (i := 4) scD11.nd rfl (.inl rfl)) (pgs_cons (pg_name (i := 5) scD11.nd rfl (.inl rfl)) pgs_nil))))))
      (pss_cons (ps_set (i := 6) scD11.nd rfl (.inl rfl) (pe_m (X := _) GMa cd.cl hr (by decide) (pv 0) (pa_cons (pv 2) pa_nil)))
      (pss_cons (ps_if (PW.pt (pw_or (pt_cmp (pc_isN (pv 6))) (pw_or (pt_not (pt_val (pe_g (X := _) GAr hr (by decide) rfl (pa_cons (pe_lst (pa_cons (pv 3) (pa_cons (pv 4) pa_nil))) (pa_cons pe_int pa_nil))))) (pw_or (pt_cmpR op_lt (pv 5) pe_int (nomark _)) (pw_or1 (pt_cmpR op_gt (pv 5) pe_int (nomark _))))))) (pss_one (ps_ret (pe_lst (pa_cons (pe_kI B.WRONG rfl) pa_nil)))) pss_nil)
      (pss_cons (ps_if (pt_not (pt_val (pe_m0 (X := _) GA cm.cl hr (by decide) (pv 6)))) (pss_one (ps_ret (pe_lst (pa_cons (pe_un un_neg pe_int) pa_nil)))) pss_nil)
      (pss_cons (ps_expr (pe_m (X := _) GS cm.cl hr (by decide) (pv 6) (pa_cons (pv 3) (pa_cons (pv 4) (pa_cons (pv 5) pa_nil)))))
      (pss_one (ps_ret (pe_m (X := _) GF cd.cl hr (by decide) (pv 0) (pa_cons (pv 6) pa_nil)))))))), ?_⟩
    have eta := day_eta hbm
    refine ⟨_, rfl, x, _, rfl, hx, rfl, _, _, rfl, _, _, rfl, _, _, rfl, _, _, rfl, rfl, ?_⟩
    refine ⟨_, rfl, d, dx, _, rfl, hd, rfl, _, rfl, d, la, al, t, m, bm, i, rfl, hD, hbm, fun hno => ?_, fun kk z r hrl hs hz => ?_⟩
    · have er : ({ m with br := some (bm.off i l rr n).1 }, (bm.off i l rr n).2) = (m, [-1]) := by
        unfold Ar.B.off
        rw [hno]
        show ({ m with br := some bm }, _) = _
        rw [eta]
      refine ⟨_, rfl, _, rfl, ?_⟩
      rw [decide_eq_true rfl]
      exact iteT (iteT (k.num hD er (Ext.refl T H)))
    · have hB := hD.bra hbm
      have hrm := List.mem_of_getLast? hrl
      have hzm := List.mem_of_getElem? hz
      have hM := (hB.all r hrm).all z hzm
      obtain ⟨dz, hoz⟩ := hM.obj
      have wrong : (Ar.areArrows [l, rr] 2 = false ∨ n < 0 ∨ 2 < n) → ({ m with br := some (bm.off i l rr n).1 }, (bm.off i l rr n).2) = (m, [-1]) := fun hc => by
        unfold Ar.B.off
        rw [hs]
        show ({ m with br := some (if Ar.areArrows [l, rr] 2 = false ∨ n < 0 ∨ 2 < n then (bm, [-1]) else _ : Ar.B × List Int).1 }, (if Ar.areArrows [l, rr] 2 = false ∨ n < 0 ∨ 2 < n then (bm, [-1]) else _ : Ar.B × List Int).2) = _
        rw [if_pos hc]
        show ({ m with br := some bm }, _) = _
        rw [eta]
      refine ⟨_, rfl, _, rfl, ?_⟩
      rw [decide_eq_false (by intro z; cases z)]
      refine iteF ⟨_, rfl, _, rfl, by show 2 ≤ sizeLine; decide, fun p hp => ?_⟩
      have sp : Same H (L2.upd H p (.lst [.int l, .int rr])) := Same.upd hp
      refine ⟨p, [l, rr], 2, rfl, SqL.of upd_same, by show 2 ≤ sizeLine; decide, fun H2 s2 => ⟨_, rfl, ?_⟩⟩
      have s12 : Same H H2 := sp.trans s2
      cases ha1 : Ar.areArrows [l, rr] 2
      · exact iteT (iteT (k.num hD (wrong (.inl ha1)) (Same.ext s12)))
      refine iteF ⟨_, rfl, _, _, rfl, rfl, _, rfl, ?_⟩
      by_cases c1 : n < 0
      · rw [decide_eq_true c1]
        exact iteT (iteT (k.num hD (wrong (.inr (.inl c1))) (Same.ext s12)))
      rw [decide_eq_false c1]
      refine iteF ⟨_, rfl, _, _, rfl, rfl, _, rfl, ?_⟩
      by_cases c2 : 2 < n
      · rw [decide_eq_true c2]
        exact iteT (k.num hD (wrong (.inr (.inr c2))) (Same.ext s12))
      rw [decide_eq_false c2]
      have na : ¬ (Ar.areArrows [l, rr] 2 = false ∨ n < 0 ∨ 2 < n) := fun z => by
        rcases z with z | z | z
        · rw [ha1] at z; cases z
        · exact c1 z
        · exact c2 z
      have es : bm.off i l rr n = if z.2.2.alike = false then (bm, [-4]) else ((bm.setLast kk (z.2.2.shootOff l rr n)).goOn, Ar.after (z.2.2.shootOff l rr n)) := by
        unfold Ar.B.off
        rw [hs]
        show (if Ar.areArrows [l, rr] 2 = false ∨ n < 0 ∨ 2 < n then (bm, [-1]) else _ : Ar.B × List Int) = _
        rw [if_neg na]
      rw [es] at k
      refine iteF ⟨_, rfl, z.1, dz, _, rfl, s12 _ _ hoz, rfl, z.1, z.2.1, z.2.2, rfl, hM.same s12, _, rfl, ?_⟩
      cases hk : z.2.2.alike
      · rw [if_pos hk] at k
        exact iteT (k.neg hD (by show ({ m with br := some bm }, _) = _; rw [eta]) (Same.ext s12))
      rw [if_neg (by rw [hk]; decide)] at k
      refine iteF ⟨_, rfl, z.1, dz, _, rfl, s12 _ _ hoz, rfl, _, rfl, _, rfl, _, rfl, z.1, z.2.1, z.2.2, l, rr, n, rfl, hM.same s12, fun H3 hm3 b3 => ?_⟩
      obtain ⟨hD3, kp3, nk3, fr3⟩ := DayAt.match_ (T := T) hD hbm s12 hrl hz hm3 b3 (.inl rfl)
      obtain ⟨dx3, hd3⟩ := hD3.obj
      exact ⟨_, rfl, d, dx3, _, rfl, hd3, rfl, _, rfl, d, la, z.1, z.2.1, al, _, _, bm.setLast kk (z.2.2.shootOff l rr n), z.2.2.shootOff l rr n, rfl, hD3, rfl, hm3, hg.set (by rw [hB.mods]; exact fun e => hB.some_ (List.map_eq_nil_iff.mp e)) _ _, k.step kp3 fr3 nk3⟩
end
end ArW
end
section
set_option Elab.async false
set_option maxRecDepth 100000
set_option maxHeartbeats 4000000
/-! Day: places. -/
namespace ArW
open PySem PySem.Spec PyProof.Rows L2 LamX

abbrev nDPl : List Str := ["self", "seated", "archer", "others"]
theorem scD13 : FnScope nDPl ["self"] (defScope (sD 13)) := ⟨rfl, rfl, rfl, by decide +kernel, rfl, by decide +kernel, by decide +kernel⟩
def spDPlaces (c : C4) (T : List (Addr × Str)) : Sp := fun vs H Q _ => ∃ (d la : Addr) (al : AL) (s : BS) (m : Ar.D) (bm : Ar.B), vs = [.ref d] ∧ Tabs T H ∧ DayAt c H d la al (some s) m ∧ m.br = some bm ∧ (bm.done = true → ∀ i ∈ bm.others, (bm.find i).isSome = true) ∧
  DOut c T H d la al (some s) (m, m.places bm) Q
section
variable {P : Program} {w : World} {K : PySem.W.Frag} {mg : Str → Option Value} {base : Heap} {f : Addr} {c : C4} {fd : FuncData} {T : List (Addr × Str)}
theorem ok_dplaces (F : FnP K "places" "Day.places" (sD 13) f fd) (cd : CDy K c.D) (cb : CB K c.B) (ca : CA K c.A) (B : TB mg) (GD : MF P w K mg base c.B "is_done" 3 ["self"] (spBRead c.B c.M fun m => .bl m.done)) (GPl : MF P w K mg base c.B "places" 7 ["self"] (spBPlaces c.B c.M T)) (GR : GF P w K mg base "ranked" 8 ["archers"] (spRanked c.A T)) :
    FnOk P w K mg base CX0 9 f fd ["self"] (spDPlaces c T) := by
  refine fn_ok F scD13 (fun vs H Q E h => ?_) (fun cdv A outer s H vs Q E hr h => ?_)
  · obtain ⟨d, la, al, s, m, bm, rfl, _⟩ := h
    rfl
  · obtain ⟨d, la, al, t, m, bm, rfl, hT, hD, hbm, hfind, k⟩ := h
    obtain ⟨dx, hd⟩ := hD.obj
    have hB := hD.bra hbm
    obtain ⟨db, hb⟩ := hB.obj
    have hfew := hD.few
    refine ⟨_, pss_cons (ps_if (pt_not (pt_val (pe_m0 (X := _) GD cb.cl hr (by decide) (pe_fld (pv 0) rfl)))) (pss_one (ps_ret (pe_lst (pa_cons (pe_un un_neg pe_int) pa_nil)))) pss_nil)
      (pss_cons (ps_set (i := 1) scD13.nd rfl (.inr rfl) (pe_m0 (X := _) GPl cb.cl hr (by decide) (pe_fld (pv 0) rfl)))
      (pss_cons (ps_setLc (i := 3) (own := [("archer", 2)]) (g := gName 2) rfl scD13.nd rfl rfl (sw_true rfl rfl rfl (by decide +kernel)) (pi_list (pe_g (X := _) GR hr (by decide) rfl (pa_cons (pe_fld (pv 0) rfl) pa_nil))) (blkOk_by (N := nDPl) (sc := defScope (sD 13)) (by decide +kernel))
        (fun _ _ _ _ _ => pg_name (i := 2) scD13.nd rfl (Or.inl rfl)) (fun _ _ _ _ _ => pts_one (pt_cmpR (op_notInK (K := K) rfl) (pe_fldK (K := K) (pv 2) rfl rfl) (pv 1) (by rfl))) (fun _ _ _ _ _ => pe_fldK (K := K) (pv 2) rfl rfl))
      (pss_one (ps_ret (pe_op op_cat (pe_op op_cat (pe_lst (pa_cons (pe_callB call_len_seq (by rfl) B.len PySem.boot_len (pa_cons (pe_fld (pv 0) rfl) pa_nil)) pa_nil)) (pv 1)) (pv 3)))))), ?_⟩
    refine ⟨_, rfl, d, c.D, dx, _, _, rfl, hd, cd.cl, cd.bracket, rfl, t.b, db, _, rfl, hb, rfl, t.b, t.ls, t.lr, t.rl, bm, rfl, hB, fun H1 s1 => ⟨_, rfl, ?_⟩⟩
    unfold Ar.D.places at k
    cases hdn : bm.done
    · rw [if_pos hdn] at k
      exact iteT (k.neg hD rfl (Same.ext s1))
    rw [if_neg (by rw [hdn]; decide)] at k
    refine iteF ⟨_, rfl, d, c.D, dx, _, _, rfl, s1 _ _ hd, cd.cl, cd.bracket, rfl, t.b, db, _, rfl, s1 _ _ hb, rfl, t.b, t.ls, t.lr, t.rl, bm, rfl, (Same.ext (T := T) s1).t hT, hB.same s1, hfind hdn, fun H2 H3 pl e2 s3 npl hpl => ?_⟩
    have x3 : Ext T H H3 := (Same.ext s1).trans (e2.trans (Same.ext s3))
    have hd3 := x3.n _ _ hd ins_tbl
    have hla3 := x3.n _ _ hD.lst lst_tbl
    refine ⟨_, rfl, d, c.D, dx, _, _, rfl, hd3, cd.cl, cd.archers, rfl, la, al, rfl, x3.t hT, hla3, hD.all.ext x3.n, fun H4 H5 so e4 s5 nso hso => ?_⟩
    have x35 : Ext T H3 H5 := e4.trans (Same.ext s5)
    have x5 : Ext T H H5 := x3.trans x35
    have hpl5 := x35.n _ _ hpl lst_tbl
    have hAll5 := hD.all.ext x5.n
    have lenP : bm.places.length ≤ 64 := by
      obtain ⟨r, e1, _, e3, e4⟩ := last_ref hB.some_ hB.mods
      have h1 := tops_len bm.last
      rw [← top_eq, e3, List.length_map] at h1
      have h2 := hB.wide r e4
      have h3 := List.length_filter_le (fun a : Int => !decide (a ∈ bm.top)) bm.seated
      have h4 := hB.sfew
      have h5 : bm.others.length ≤ bm.seated.length := h3
      unfold Ar.B.places
      rw [List.length_append, List.length_mergeSort]
      omega
    refine ⟨so, rfl, ⟨arefs (srt al), SqL.of hso⟩, fun D nD => lc_same (K := K) (a := so) (xs := arefs (srt al)) (fun i => ivs ((((srt al).take i).map fun x => x.2.2.number).filter fun i => !decide (i ∈ bm.places))) nD (SqL.of hso) rfl (fun i hi => ?_) (fun i x H6 Q1 Q0 hx s6 q1 q0 => ?_) fun H6 s6 hDl => ?_⟩
    · rw [ivs_length]
      have h1 := List.length_filter_le (fun i : Int => !decide (i ∈ bm.places)) (((srt al).take i).map fun x => x.2.2.number)
      rw [List.length_map, List.length_take, (srt_perm al).length_eq] at h1
      exact small (m := 1000) (by omega)
    · obtain ⟨y, hy, rfl⟩ := map_at hx
      obtain ⟨dy, hoy⟩ := ((hAll5 y ((srt_perm al).mem_iff.mp (List.mem_of_getElem? hy))).same s6).obj
      have hn : ((srt al).map fun x => x.2.2.number)[i]? = some y.2.2.number := by rw [List.getElem?_map, hy]; rfl
      refine ⟨rfl, _, rfl, y.1, c.A, dy, _, _, rfl, hoy, ca.cl, ca.number, rfl, _, rfl, pl, _, rfl, .inl (SqL.of (s6 _ _ hpl5)), rfl, ?_, _, rfl, ?_⟩
      · rw [List.all_map]
        exact List.all_eq_true.mpr fun _ _ => rfl
      · rw [inV_ints]
        show if (!decide (y.2.2.number ∈ bm.places)) = true then _ else _
        cases h : !decide (y.2.2.number ∈ bm.places)
        · refine iteF (q0 _ (Same.refl _) ?_)
          rw [List.map_take, List.map_take, filter_take_f hn h]
        · refine iteT ⟨_, rfl, y.1, c.A, dy, _, _, rfl, hoy, ca.cl, ca.number, rfl, q1 _ _ (Same.refl _) ?_⟩
          rw [List.map_take, List.map_take, filter_take_t hn h, ivs_snoc]
    have eord : m.order = (srt al).map fun x => x.2.2.number := by
      unfold Ar.D.order
      rw [hD.mods, ← srt_mods]
      unfold amods
      rw [List.map_map]
      rfl
    have hD' : H6 D = some (.lst (ivs (m.order.filter fun i => !decide (i ∈ bm.places)))) := by
      rw [hDl, List.length_map, List.take_length, eord]
    have hd6 := s6 _ _ (x5.n _ _ hd ins_tbl)
    have hla6 := s6 _ _ (x5.n _ _ hD.lst lst_tbl)
    refine ⟨_, rfl, d, c.D, dx, _, _, rfl, hd6, cd.cl, cd.archers, rfl, la, _, rfl, .inl (SqL.of hla6), by show 1 ≤ sizeLine; decide, fun p1 hp1 => ?_⟩
    have s7 : Same H6 (L2.upd H6 p1 (.lst [.int (arefs al).length])) := Same.upd hp1
    refine ⟨_, rfl, p1, pl, _, _, rfl, rfl, upd_same, s7 _ _ (s6 _ _ hpl5), ?_, fun p2 hp2 => ?_⟩
    · rw [ivs_length]
      exact Nat.le_of_lt (small (m := 1000) (by show 1 + _ ≤ _; omega))
    have s8 := s7.trans (Same.upd (o := .lst ([.int (arefs al).length] ++ ivs bm.places)) hp2)
    refine ⟨_, rfl, p2, D, _, _, rfl, rfl, upd_same, s8 _ _ hD', ?_, fun p3 hp3 => ?_⟩
    · rw [List.length_append, ivs_length, ivs_length]
      have h1 := List.length_filter_le (fun i : Int => !decide (i ∈ bm.places)) m.order
      rw [eord, List.length_map, (srt_perm al).length_eq] at h1
      rw [eord]
      exact Nat.le_of_lt (small (m := 1000) (by show 1 + _ + _ ≤ _; omega))
    · refine k.read hD rfl (x5.trans ((Same.ext s6).trans (Same.ext (s8.trans (Same.upd hp3))))) ?_ ((NewA.of hp3).ext (x5.trans ((Same.ext s6).trans (Same.ext s8))))
      rw [upd_same, List.length_map, hD.mods, List.length_map, ivs_append]
      rfl
end
end ArW
end
section
set_option Elab.async false
set_option maxRecDepth 100000
set_option maxHeartbeats 4000000
/-! Day: cut. -/
namespace ArW
open PySem PySem.Spec PyProof.Rows L2 LamX

abbrev nCut : List Str := ["self", "count", "sets", "archer", "order", "answer"]
theorem scD7 : FnScope nCut ["self", "count", "sets"] (defScope (sD 7)) := ⟨rfl, rfl, rfl, by decide +kernel, rfl, by decide +kernel, by decide +kernel⟩
theorem cut_nat (l : List Int) (n : Nat) : cutV (ivs l) none (some (n : Int)) = ivs (l.take n) := by
  unfold cutV ivs
  rw [HT.sIx_none, HT.sIx_nat, List.drop_zero, List.length_map, Nat.sub_zero, ← List.map_take]
  congr 1
  rcases Nat.le_total n l.length with h | h
  · rw [Nat.min_eq_left h]
  · rw [Nat.min_eq_right h, List.take_length, List.take_of_length_le h]
theorem goOk_new {l : List Int} (h1 : 2 ≤ l.length) (h2 : l.length ≤ 32) (z : Bool) : GoOk (Ar.B.new l z) := by
  have so := Ar.seatsOk h1 h2
  have hlen : ((Kg64.seats (Kg64.size l.length)).map (Ar.atRank l)).length = 2 * 2 ^ (Kg64.size l.length - 1) := by
    rw [List.length_map, so.len]
    have := so.one
    rw [← Nat.pow_succ']
    congr 1
    omega
  have el : (Ar.B.new l z).last.length = 2 ^ (Kg64.size l.length - 1) := pairs_len z _ _ hlen
  refine ⟨by show 1 ≤ 19; decide, ?_⟩
  rw [el]
  cases h : Kg64.size l.length - 1 with
  | zero => exact .inl rfl
  | succ n => exact .inr ⟨2 ^ n, Nat.one_le_two_pow, by rw [Nat.pow_succ']⟩
theorem BrAt.but {C CM b ls lr a : Addr} {H H' : Hp} {rl : RL} {m : Ar.B} (h : BrAt C CM H b ls lr rl m) (bt : But a H H') {C' dx' : Addr} {fs : List (Str × V)} (ha : H a = some (.ins C' dx' fs)) (n1 : bF m ls lr ≠ fs) (n2 : ∀ mm sc, mF mm sc ≠ fs) : BrAt C CM H' b ls lr rl m := by
  obtain ⟨⟨dx, h1⟩, h2, h3, h4, h5, h6, h7, h8, h9, h10⟩ := h
  have nI : ∀ q l, H q = some (.lst l) → H' q = some (.lst l) := fun q l e => bt _ _ e (ne_of e ha (by intro z; cases z))
  refine ⟨⟨dx, bt _ _ h1 (ins_ne h1 ha n1)⟩, nI _ _ h2, nI _ _ h3, fun r hr => ⟨nI _ _ (h4 r hr).lst, fun x hx => ?_⟩, h5, h6, h7, h8, h9, h10⟩
  obtain ⟨⟨dz, z1⟩, z2⟩ := (h4 r hr).all x hx
  exact ⟨⟨dz, bt _ _ z1 (ins_ne z1 ha (n2 _ _))⟩, nI _ _ z2⟩
theorem bF_dF {m : Ar.D} {la ls lr : Addr} {bs : Option BS} {b : Ar.B} : bF b ls lr ≠ dF m la bs := fun z => by cases z
theorem aF_dF {m : Ar.D} {la l : Addr} {bs : Option BS} {a : Ar.A} : aF a l ≠ dF m la bs := fun z => by cases z
/-- the day gets a bracket -/
theorem DayAt.newBr {c : C4} {H H' : Hp} {d la : Addr} {al : AL} {m : Ar.D} (h : DayAt c H d la al none m) (hne : al ≠ []) {s : BS} {bm : Ar.B} (hB : BrAt c.B c.M H s.b s.ls s.lr s.rl bm) (bt : But d H H') (hd : ∃ dx, H' d = some (.ins c.D dx (dF m la (some s)))) : DayAt c H' d la al (some s) { m with br := some bm } := by
  obtain ⟨⟨dx, h1⟩, h2, h3, h4, h5, h6, h7, h8⟩ := h
  obtain ⟨dx', hd⟩ := hd
  have nI : ∀ q l, H q = some (.lst l) → H' q = some (.lst l) := fun q l e => bt _ _ e (ne_of e h1 (by intro z; cases z))
  refine ⟨⟨dx', hd⟩, nI _ _ h2, fun y hy => ?_, h4, h5, h6, h7, .inr ⟨s, bm, rfl, rfl, hB.but bt h1 bF_dF (fun mm sc => Ne.symm dF_mF), hne⟩⟩
  obtain ⟨⟨dz, z1⟩, z2, z3⟩ := h3 y hy
  exact ⟨⟨dz, bt _ _ z1 (ins_ne z1 h1 aF_dF)⟩, nI _ _ z2, z3⟩
def spDCut (c : C4) (T : List (Addr × Str)) : Sp := fun vs H Q _ => ∃ (d la : Addr) (al : AL) (bs : Option BS) (m : Ar.D) (n z : Int), vs = [.ref d, .int n, .int z] ∧ Tabs T H ∧ DayAt c H d la al bs m ∧ DOut c T H d la al bs (m.cut n z) Q
section
variable {P : Program} {w : World} {K : PySem.W.Frag} {mg : Str → Option Value} {base : Heap} {f : Addr} {c : C4} {fd : FuncData} {T : List (Addr × Str)}
/-- self.bracket.go_on(); return answer, the answer at slot j -/
theorem go_retJ {d la p : Addr} {al : AL} {t : BS} {m : Ar.D} {bm : Ar.B} {H H' : Hp} {l : List Int} {Q : VK} {D : Ends} {σ : L2.St} {j : Nat} (cd : CDy K c.D) (hD : DayAt c H d la al (some t) m) (hbm : m.br = some bm) (hg : GoOk bm) (s : Same H H') (hp : H' p = some (.lst (ivs l))) (hpn : H p = none)
    (k : DOut c T H d la al (some t) ({ m with br := some bm.goOn }, l) Q) (hDr : D.rt = Q) (h0 : σ[0]? = some (some (.ref d))) (hj : σ[j]? = some (some (.ref p))) : tSeq (tDrop (tMeth c.B "go_on" (spBGo c.B c.M) [] E0 (tFld K (tVar 0) "bracket") tNil)) (tRet (tVar j)) D σ H' := by
  obtain ⟨dx, hd⟩ := hD.obj
  have hB := hD.bra hbm
  obtain ⟨db, hb⟩ := hB.obj
  have hD' := hD.same s
  have hB' := hB.same s
  refine ⟨_, h0, d, c.D, dx, _, _, rfl, s _ _ hd, cd.cl, cd.bracket, rfl, t.b, db, _, rfl, s _ _ hb, rfl, t.b, t.ls, t.lr, t.rl, bm, rfl, hB', hg, fun H2 rl' hB2 bt fr => ⟨_, hj, ?_⟩⟩
  show D.rt (.ref p) H2
  rw [hDr]
  have hlr := hB'.rnd
  have hD2 : DayAt c H2 d la al (some ⟨t.b, t.ls, t.lr, rl'⟩) { m with br := some bm.goOn } := hD'.brack (s' := ⟨t.b, t.ls, t.lr, rl'⟩) rfl hB2 (fun q => q = t.lr) (fun q e => .inl e) fun q o e n => bt q o e n
  have hplr : p ≠ t.lr := fun z => by
    rw [z, hB.rnd] at hpn
    cases hpn
  refine k H2 p la al (some ⟨t.b, t.ls, t.lr, rl'⟩) hD2 ?_ (fun q hq => ?_) (bt _ _ hp hplr) (NewA.of hpn)
  · exact (Same.ext s).thenKept (But.kept bt (in_day (by unfold baddr; simp)) (.inr (.inl ⟨_, hlr⟩)))
  · rcases day_in (s := t) hq with hq | hq
    · exact .inl hq
    · unfold baddr at hq
      simp only [List.mem_cons] at hq
      rcases hq with hq | hq | hq | hq
      · exact .inl (in_day (by rw [hq]; unfold baddr; simp))
      · exact .inl (in_day (by rw [hq]; unfold baddr; simp))
      · exact .inl (in_day (by rw [hq]; unfold baddr; simp))
      · rcases fr q hq with h | h
        · exact .inl (in_day (by unfold baddr; simp [h]))
        · exact .inr (NewA.of (s.free h))
theorem ok_dcut (F : FnP K "cut" "Day.cut" (sD 7) f fd) (cd : CDy K c.D) (cb : CB K c.B) (ca : CA K c.A) (B : TB mg) (GR : GF P w K mg base "ranked" 8 ["archers"] (spRanked c.A T)) (GBr : CF P w K mg base "Bracket" c.B 4 ["self", "seated", "by_sets"] (spBInit c.B c.M)) (GL : MF P w K mg base c.B "last" 1 ["self"] (spBLast c.B))
    (GG : MF P w K mg base c.B "go_on" 4 ["self"] (spBGo c.B c.M)) : FnOk P w K mg base CX0 9 f fd ["self", "count", "sets"] (spDCut c T) := by
  refine fn_ok F scD7 (fun vs H Q E h => ?_) (fun cdv A outer s H vs Q E hr h => ?_)
  · obtain ⟨d, la, al, bs, m, n, z, rfl, _⟩ := h
    rfl
  · obtain ⟨d, la, al, bs, m, n, z, rfl, hT, hD, k⟩ := h
    obtain ⟨dx, hd⟩ := hD.obj
    have hfew := hD.few
    refine ⟨_, pss_cons (ps_if (PW.pt (pw_or (pt_cmpR op_lt (pv 1) pe_int (nomark _)) (pw_or (pt_cmpR op_gt (pv 1) (pe_kI B.MS rfl) (nomark _)) (pw_or (pt_cmpR op_lt (pv 2) pe_int (nomark _)) (pw_or1 (pt_cmpR op_gt (pv 2) pe_int (nomark _))))))) (pss_one (ps_ret (pe_lst (pa_cons (pe_kI B.WRONG rfl) pa_nil)))) pss_nil)
      (pss_cons (ps_if (pt_cmpR op_eq (pe_callB call_len_seq (by rfl) B.len PySem.boot_len (pa_cons (pe_fld (pv 0) rfl) pa_nil)) pe_int (nomark _)) (pss_one (ps_ret (pe_lst (pa_cons (pe_un un_neg pe_int) pa_nil)))) pss_nil)
      (pss_cons (ps_if (pt_cmp (pc_notN (pe_fld (pv 0) rfl))) (pss_one (ps_ret (pe_lst (pa_cons (pe_un un_neg pe_int) pa_nil)))) pss_nil)
      (pss_cons (ps_if (pt_val (pe_callB (cr_any rfl) (by rfl) B.any (by decide +kernel) (pa_cons (pe_lc (own := [("archer", 3)]) (g := gName 3) (tt := tYes) rfl scD7.nd (pi_list (pe_fld (pv 0) rfl)) (blkOk_by (N := nCut) (sc := defScope (sD 7)) (by decide +kernel))
        (fun _ _ _ _ _ => pg_name (i := 3) scD7.nd rfl (Or.inl rfl)) (fun _ _ _ _ _ => pts_nil) (fun _ _ _ _ _ => pe_cmpR op_lt (pe_fldK (K := K) (pv 3) rfl rfl) (pe_fldK (K := K) (pv 0) rfl rfl) (nomark _))) pa_nil))) (pss_one (ps_ret (pe_lst (pa_cons (pe_un un_neg pe_int) pa_nil)))) pss_nil)
      (pss_cons (ps_if (pt_cmpR op_gt (pv 1) (pe_callB call_len_seq (by rfl) B.len PySem.boot_len (pa_cons (pe_fld (pv 0) rfl) pa_nil)) (nomark _)) (pss_one (ps_ret (pe_lst (pa_cons (pe_un un_neg pe_int) pa_nil)))) pss_nil)
      (pss_cons (ps_setLc (i := 4) (own := [("archer", 3)]) (g := gName 3) (tt := tYes) rfl scD7.nd rfl rfl (sw_true rfl rfl rfl (by decide +kernel)) (pi_list (pe_g (X := _) GR hr (by decide) rfl (pa_cons (pe_fld (pv 0) rfl) pa_nil))) (blkOk_by (N := nCut) (sc := defScope (sD 7)) (by decide +kernel))
        (fun _ _ _ _ _ => pg_name (i := 3) scD7.nd rfl (Or.inl rfl)) (fun _ _ _ _ _ => pts_nil) (fun _ _ _ _ _ => pe_fldK (K := K) (pv 3) rfl rfl))
      (pss_cons (ps_fld (pv 0) (pe_mk (X := _) GBr hr (by decide) rfl (pa_cons (pe_slice sl_list (pv 4) po_none (po_some (pv 1))) (pa_cons (pe_cmpR op_eq (pv 2) pe_int (nomark _)) pa_nil))) rfl)
      (pss_cons (ps_set (i := 5) scD7.nd rfl (.inl rfl) (pe_op op_cat (pe_lst (pa_cons (pe_callB call_len_seq (by rfl) B.len PySem.boot_len (pa_cons (pe_m0 (X := _) GL cb.cl hr (by decide) (pe_fld (pv 0) rfl)) pa_nil)) pa_nil)) (pv 4)))
      (pss_cons (ps_expr (pe_m0 (X := _) GG cb.cl hr (by decide) (pe_fld (pv 0) rfl))) (pss_one (ps_ret (pv 5))))))))))), ?_⟩
    have hai : (m.archers.length : Nat) = al.length := by rw [hD.mods, List.length_map]
    have h0 : (n < 2 ∨ 32 < n ∨ z < 0 ∨ 1 < z) → ∀ σ, tLst (tCons (tC (.int (-1))) tNil) σ H Q := fun hc σ => k.num hD (by unfold Ar.D.cut; rw [if_pos hc]) (Ext.refl T H)
    refine ⟨_, rfl, _, _, rfl, rfl, _, rfl, ?_⟩
    by_cases c1 : n < 2
    · rw [decide_eq_true c1]
      exact iteT (iteT (h0 (.inl c1) _))
    rw [decide_eq_false c1]
    refine iteF ⟨_, rfl, _, _, rfl, rfl, _, rfl, ?_⟩
    by_cases c2 : 32 < n
    · rw [decide_eq_true c2]
      exact iteT (iteT (h0 (.inr (.inl c2)) _))
    rw [decide_eq_false c2]
    refine iteF ⟨_, rfl, _, _, rfl, rfl, _, rfl, ?_⟩
    by_cases c3 : z < 0
    · rw [decide_eq_true c3]
      exact iteT (iteT (h0 (.inr (.inr (.inl c3))) _))
    rw [decide_eq_false c3]
    refine iteF ⟨_, rfl, _, _, rfl, rfl, _, rfl, ?_⟩
    by_cases c4 : 1 < z
    · rw [decide_eq_true c4]
      exact iteT (h0 (.inr (.inr (.inr c4))) _)
    rw [decide_eq_false c4]
    have n1 : ¬ (n < 2 ∨ 32 < n ∨ z < 0 ∨ 1 < z) := by omega
    refine iteF ⟨_, rfl, d, c.D, dx, _, _, rfl, hd, cd.cl, cd.archers, rfl, la, _, rfl, .inl (SqL.of hD.lst), rfl, _, rfl, ?_⟩
    rw [dI, List.length_map]
    by_cases c5 : al.length = 0
    · rw [decide_eq_true (by exact_mod_cast c5)]
      exact iteT (k.neg hD (by unfold Ar.D.cut; rw [if_neg n1, if_pos (by omega)]) (Ext.refl T H))
    rw [decide_eq_false (by exact_mod_cast c5)]
    have n2 : ¬ m.archers.length = 0 := by omega
    refine iteF ⟨_, rfl, d, c.D, dx, _, _, rfl, hd, cd.cl, cd.bracket, rfl, _, rfl, ?_⟩
    rcases hD.br with ⟨hb1, hb2⟩ | ⟨t, bm, hb1, hb2, _⟩
    rotate_left
    · rw [hb1, show (!decide (brV (some t) = V.non)) = true by rw [decide_eq_false (by intro z; cases z)]; rfl]
      exact iteT (k.neg hD (by unfold Ar.D.cut; rw [if_neg n1, if_neg n2, if_pos (by rw [hb2]; rfl)]) (Ext.refl T H))
    subst hb1
    rw [show (!decide (brV none = V.non)) = false by rw [decide_eq_true (show brV none = V.non from rfl)]; rfl]
    have n3 : ¬ m.br.isSome = true := by rw [hb2]; decide
    refine iteF ⟨_, rfl, d, c.D, dx, _, _, rfl, hd, cd.cl, cd.archers, rfl, la, rfl, ⟨arefs al, SqL.of hD.lst⟩, fun D1 nD1 => lc_same (K := K) (a := la) (xs := arefs al) (fun i => (al.take i).map fun x => V.bl (decide (x.2.2.ends < m.ends))) nD1 (SqL.of hD.lst) rfl
      (fun i hi => take_map_len (m := 1000) _ (by rw [List.length_map] at hi; omega)) (fun i x H2 Q1 Q0 hx s2 q1 q0 => ?_) fun H2 s2 hD2 => ?_⟩
    · obtain ⟨y, hy, rfl⟩ := map_at hx
      obtain ⟨dy, hoy⟩ := ((hD.all y (List.mem_of_getElem? hy)).same s2).obj
      exact ⟨rfl, _, rfl, y.1, c.A, dy, _, _, rfl, hoy, ca.cl, ca.ends, rfl, _, rfl, d, c.D, dx, _, _, rfl, s2 _ _ hd, cd.cl, cd.ends, rfl, _, _, rfl, rfl, q1 _ _ (Same.refl _) (take_map _ hy)⟩
    refine ⟨D1, al.map fun x => decide (x.2.2.ends < m.ends), rfl, SqL.of ?_, _, rfl, ?_⟩
    · rw [hD2, List.length_map, List.take_length, List.map_map]
      rfl
    have eany : (al.map fun x => decide (x.2.2.ends < m.ends)).any id = m.archers.any fun y => decide (y.ends < m.ends) := by
      rw [hD.mods]
      unfold amods
      rw [List.any_map, List.any_map]
      rfl
    rw [eany]
    cases c6 : m.archers.any fun y => decide (y.ends < m.ends)
    rotate_left
    · exact iteT (k.neg hD (by unfold Ar.D.cut; rw [if_neg n1, if_neg n2, if_neg n3, if_pos c6]) (Same.ext s2))
    have n4 : ¬ (m.archers.any fun y => decide (y.ends < m.ends)) = true := by rw [c6]; decide
    refine iteF ⟨_, rfl, _, rfl, d, c.D, dx, _, _, rfl, s2 _ _ hd, cd.cl, cd.archers, rfl, la, _, rfl, .inl (SqL.of (s2 _ _ hD.lst)), _, _, rfl, rfl, _, rfl, ?_⟩
    rw [List.length_map]
    by_cases c7 : (al.length : Int) < n
    · rw [decide_eq_true c7]
      exact iteT (k.neg hD (by unfold Ar.D.cut; rw [if_neg n1, if_neg n2, if_neg n3, if_neg n4, if_pos (by omega)]) (Same.ext s2))
    rw [decide_eq_false c7]
    have er : m.cut n z = ({ m with br := some (Ar.B.new (m.order.take n.toNat) (decide (z = 1))).goOn }, ((Ar.B.new (m.order.take n.toNat) (decide (z = 1))).last.length : Int) :: m.order) := by
      unfold Ar.D.cut
      rw [if_neg n1, if_neg n2, if_neg n3, if_neg n4, if_neg (by omega)]
    rw [er] at k
    -- ranked
    refine iteF ⟨_, rfl, d, c.D, dx, _, _, rfl, s2 _ _ hd, cd.cl, cd.archers, rfl, la, al, rfl, (Same.ext (T := T) s2).t hT, s2 _ _ hD.lst, hD.all.same s2, fun H3 H4 so e3 s4 nso hso => ?_⟩
    have x4 : Ext T H H4 := (Same.ext s2).trans (e3.trans (Same.ext s4))
    have eord : m.order = (srt al).map fun x => x.2.2.number := by
      unfold Ar.D.order
      rw [hD.mods, ← srt_mods]
      unfold amods
      rw [List.map_map]
      rfl
    have hsl := (srt_perm al).length_eq
    refine ⟨so, rfl, ⟨arefs (srt al), SqL.of hso⟩, fun L1 nL => lc_same (K := K) (a := so) (xs := arefs (srt al)) (fun i => ((srt al).take i).map fun x => V.int x.2.2.number) nL (SqL.of hso) rfl
      (fun i hi => take_map_len (m := 1000) _ (by rw [List.length_map] at hi; omega)) (fun i x H5 Q1 Q0 hx s5 q1 q0 => ?_) fun H5 s5 hL => ?_⟩
    · obtain ⟨y, hy, rfl⟩ := map_at hx
      obtain ⟨dy, hoy⟩ := ((hD.all y ((srt_perm al).mem_iff.mp (List.mem_of_getElem? hy))).ext x4.n |>.same s5).obj
      exact ⟨rfl, _, rfl, y.1, c.A, dy, _, _, rfl, hoy, ca.cl, ca.number, rfl, q1 _ _ (Same.refl _) (take_map _ hy)⟩
    have x5 : Ext T H H5 := x4.trans (Same.ext s5)
    have hL' : H5 L1 = some (.lst (ivs m.order)) := by
      rw [hL, List.length_map, List.take_length, eord]
      unfold ivs
      rw [List.map_map]
      rfl
    -- the bracket
    refine ⟨_, rfl, _, rfl, n, rfl, L1, _, rfl, SqL.of hL', fun p1 hp1 => ?_⟩
    have hcut : cutV (ivs m.order) none (some n) = ivs (m.order.take n.toNat) := by
      have := cut_nat m.order n.toNat
      rw [show ((n.toNat : Nat) : Int) = n by omega] at this
      exact this
    rw [hcut]
    have s6 : Same H5 (L2.upd H5 p1 (.lst (ivs (m.order.take n.toNat)))) := Same.upd hp1
    have hp1H : L2.upd H5 p1 (.lst (ivs (m.order.take n.toNat))) p1 = some (.lst (ivs (m.order.take n.toNat))) := upd_same
    have lenO : m.order.length = al.length := by rw [eord, List.length_map, hsl]
    have lenT : (m.order.take n.toNat).length = n.toNat := by rw [List.length_take, lenO]; omega
    refine ⟨_, rfl, rfl, ?_⟩
    rw [dI]
    intro b db hbn hdbn hne
    generalize hG6 : L2.upd H5 p1 (.lst (ivs (m.order.take n.toNat))) = H6 at s6 hp1H hbn hdbn
    have keep : ∀ q o, H6 q = some o → L2.upd (L2.upd H6 db (.own b)) b (.ins c.B db []) q = some o := fun q o e => by
      rw [upd_ne (ne_of_none e hbn), upd_ne (ne_of_none e hdbn)]
      exact e
    refine ⟨b, db, p1, m.order.take n.toNat, decide (z = 1), rfl, upd_same, keep _ _ hp1H, by omega, by omega, fun H7 lr rl hB7 b7 nlr frl => ⟨rfl, ?_⟩⟩
    have s67 : Same H6 H7 := fun q o e => b7 q o (keep q o e) (ne_of_none e hbn)
    have s57 : Same H5 H7 := s6.trans s67
    have x7 : Ext T H H7 := x5.trans (Same.ext s57)
    have hd7 := x7.n _ _ hd ins_tbl
    refine ⟨_, rfl, d, c.D, dx, _, rfl, hd7, cd.cl, cd.bracket, (by show 4 < 1000; decide), ?_⟩
    generalize hbm : Ar.B.new (m.order.take n.toNat) (decide (z = 1)) = bm at k hB7
    have hgo : GoOk bm := by
      rw [← hbm]
      exact goOk_new (by omega) (by omega) _
    have bt8 : But d H7 (L2.upd H7 d (.ins c.D dx (putF "bracket" (.ref b) (dF m la none)))) := But.upd _ _ _
    generalize hG8 : L2.upd H7 d (.ins c.D dx (putF "bracket" (.ref b) (dF m la none))) = H8 at bt8
    have hd8 : H8 d = some (.ins c.D dx (dF m la (some ⟨b, p1, lr, rl⟩))) := by
      rw [← hG8, upd_same]
      rfl
    have alne : al ≠ [] := fun e => c5 (by rw [e]; rfl)
    have hD8 : DayAt c H8 d la al (some ⟨b, p1, lr, rl⟩) { m with br := some bm } := (hD.ext x7.n).newBr alne hB7 bt8 ⟨dx, hd8⟩
    have kp8 : Kept T (daddr d la al none) H H8 := x7.thenKept (But.kept bt8 (by unfold daddr; exact List.mem_cons_self) (.inl ⟨_, _, _, hd7⟩))
    have new6 : ∀ q, H6 q = none → NewA H q := fun q e => (NewA.of e).ext (x5.trans (Same.ext s6))
    have newO : ∀ q, L2.upd (L2.upd H6 db (.own b)) b (.ins c.B db []) q = none → NewA H q := fun q e => new6 q (by
      cases e2 : H6 q with
      | none => rfl
      | some o =>
        rw [keep q o e2] at e
        cases e)
    have fr8 : ∀ q ∈ daddr d la al (some ⟨b, p1, lr, rl⟩), q ∈ daddr d la al none ∨ NewA H q := fun q hq => by
      unfold daddr at hq
      rcases List.mem_cons.mp hq with hq | hq
      · exact .inl (by unfold daddr; rw [hq]; exact List.mem_cons_self)
      · rcases List.mem_cons.mp hq with hq | hq
        · exact .inl (by unfold daddr; rw [hq]; exact List.mem_cons_of_mem _ List.mem_cons_self)
        · rcases List.mem_append.mp hq with hq | hq
          · exact .inl (by unfold daddr; exact List.mem_cons_of_mem _ (List.mem_cons_of_mem _ (List.mem_append_left _ hq)))
          · unfold baddr at hq
            simp only [List.mem_cons] at hq
            rcases hq with hq | hq | hq | hq
            · exact .inr (by rw [hq]; exact new6 b hbn)
            · exact .inr (by rw [hq]; exact (NewA.of hp1).ext x5)
            · exact .inr (by rw [hq]; exact newO lr nlr)
            · exact .inr (newO q (frl q hq))
    have nk8 : ∀ q, NewA H8 q → NewA H q := fun q hn => by
      by_cases hq : q = d
      · obtain ⟨ps, z⟩ := hn _ (by rw [hq]; exact hd8)
        cases z
      · exact NewA.ext x7 fun o e => hn o (bt8 q o e hq)
    have k8 := k.step (la2 := la) (al2 := al) (bs2 := some ⟨b, p1, lr, rl⟩) kp8 fr8 nk8
    obtain ⟨db8, hb8⟩ := (hD8.bra rfl).obj
    have hB8 := hD8.bra rfl
    obtain ⟨r, e1, e2, e3', e4⟩ := last_ref hB8.some_ hB8.mods
    have hr1 := (hB8.all r e4).lst
    have nL1d : L1 ≠ d := ne_of hL' (x5.n _ _ hd ins_tbl) (by intro z; cases z)
    have hL8 := bt8 _ _ (s57 _ _ hL') nL1d
    refine ⟨_, rfl, d, c.D, dx, _, _, rfl, hd8, cd.cl, cd.bracket, rfl, b, db8, _, rfl, hb8, rfl, b, db8, lr, _, _, _, rfl, hb8, rfl, hB8.rnd, e2, r.1, _, rfl, .inl (SqL.of hr1), by show 1 ≤ sizeLine; decide, fun p9 hp9 => ?_⟩
    have s9 : Same H8 (L2.upd H8 p9 (.lst [.int (mrefs r.2).length])) := Same.upd hp9
    refine ⟨_, rfl, p9, L1, _, _, rfl, rfl, upd_same, s9 _ _ hL8, ?_, fun p10 hp10 => ?_⟩
    · rw [ivs_length, lenO]
      exact Nat.le_of_lt (small (m := 1000) (by show 1 + _ ≤ _; omega))
    · have s10 : Same H8 (L2.upd (L2.upd H8 p9 (.lst [.int (mrefs r.2).length])) p10 (.lst ([.int (mrefs r.2).length] ++ ivs m.order))) := s9.trans (Same.upd hp10)
      refine go_retJ (j := 5) (l := (bm.last.length : Int) :: m.order) (p := p10) cd hD8 rfl hgo s10 ?_ (s9.free hp10) k8 rfl rfl rfl
      rw [upd_same, e3', List.length_map, List.length_map]
      rfl
end
end ArW
end
section
set_option Elab.async false
set_option maxRecDepth 100000
set_option maxHeartbeats 4000000
/-! Day: answer_to. -/
namespace ArW
open PySem PySem.Spec PyProof.Rows L2 LamX

theorem scD14 : FnScope ["self", "call", "numbers", "rows"] ["self", "call", "numbers", "rows"] (defScope (sD 14)) := ⟨rfl, rfl, rfl, by decide +kernel, rfl, by decide +kernel, by decide +kernel⟩
/-- what the walk asks of a day -/
structure OkD (m : Ar.D) : Prop where
  ac : m.ac ≤ 100
  arr : ∀ y ∈ m.archers, y.arrows.length ≤ 100
  go : ∀ bm, m.br = some bm → GoOk bm
  find : ∀ bm, m.br = some bm → bm.done = true → ∀ i ∈ bm.others, (bm.find i).isSome = true
/-- the rows of a call stand at ras -/
structure RowsIn (H : Hp) (F : List Addr) (ras : List Addr) (rows : List (List Int)) : Prop where
  len : ras.length = rows.length
  at_ : ∀ (i : Nat) (l : List Int), rows[i]? = some l → ∃ a, ras[i]? = some a ∧ H a = some (.lst (ivs l)) ∧ a ∉ F ∧ l.length ≤ sizeLine
def spDAnswer (c : C4) (T : List (Addr × Str)) : Sp := fun vs H Q _ => ∃ (d la nn rr : Addr) (al : AL) (bs : Option BS) (m : Ar.D) (call : Int) (ns : List Int) (rows : List (List Int)) (ras : List Addr), vs = [.ref d, .int call, .ref nn, .ref rr] ∧ DayAt c H d la al bs m ∧ Tabs T H ∧ OkD m ∧
  H nn = some (.lst (ivs ns)) ∧ H rr = some (.lst (ras.map V.ref)) ∧ RowsIn H (daddr d la al bs) ras rows ∧ PyKg64.shape call = some (ns.length, rows.length) ∧ DOut c T H d la al bs (m.step call ns rows) Q
theorem two {α : Type} {l : List α} (h : l.length = 2) : ∃ a b, l = [a, b] := by
  match l, h with
  | [a, b], _ => exact ⟨a, b, rfl⟩
theorem one {α : Type} {l : List α} (h : l.length = 1) : ∃ a, l = [a] := by
  match l, h with
  | [a], _ => exact ⟨a, rfl⟩
theorem four {α : Type} {l : List α} (h : l.length = 4) : ∃ a b c d, l = [a, b, c, d] := by
  match l, h with
  | [a, b, c, d], _ => exact ⟨a, b, c, d, rfl⟩
theorem shape_is {call : Int} {n k : Nat} (h : PyKg64.shape call = some (n, k)) : (call = 1 ∧ n = 2 ∧ k = 1) ∨ (call = 2 ∧ n = 1 ∧ k = 1) ∨ (call = 3 ∧ n = 1 ∧ k = 0) ∨ (call = 4 ∧ n = 0 ∧ k = 0) ∨ (call = 5 ∧ n = 0 ∧ k = 0) ∨ (call = 6 ∧ n = 2 ∧ k = 0) ∨ (call = 7 ∧ n = 0 ∧ k = 0) ∨
    (call = 8 ∧ n = 1 ∧ k = 2) ∨ (call = 9 ∧ n = 4 ∧ k = 0) ∨ (call = 10 ∧ n = 0 ∧ k = 0) := by
  unfold PyKg64.shape at h
  repeat' split at h
  all_goals first | (cases h; simp_all) | cases h
section
variable {P : Program} {w : World} {K : PySem.W.Frag} {mg : Str → Option Value} {base : Heap} {f : Addr} {c : C4} {fd : FuncData} {T : List (Addr × Str)}
theorem ok_danswer (F : FnP K "answer_to" "Day.answer_to" (sD 14) f fd) (cd : CDy K c.D) (G1 : MF P w K mg base c.D "begin" 3 ["self", "ends", "arrow_count", "clubs"] (spDBegin c K T)) (G2 : MF P w K mg base c.D "take_end" 4 ["self", "number", "arrows"] (spDEnd c T)) (G3 : MF P w K mg base c.D "card" 4 ["self", "number"] (spDCard c T))
    (G4 : MF P w K mg base c.D "ranking" 9 ["self"] (spDRead c T Ar.D.ranking)) (G5 : MF P w K mg base c.D "clubs" 5 ["self"] (spDRead c T Ar.D.clubs)) (G6 : MF P w K mg base c.D "cut" 9 ["self", "count", "sets"] (spDCut c T)) (G7 : MF P w K mg base c.D "told_round" 2 ["self"] (spDRound c T))
    (G8 : MF P w K mg base c.D "shoot" 6 ["self", "number", "first", "second"] (spDShoot c K T)) (G9 : MF P w K mg base c.D "shoot_off" 6 ["self", "numbers"] (spDOff c K T)) (G10 : MF P w K mg base c.D "places" 9 ["self"] (spDPlaces c T)) : FnOk P w K mg base CX0 10 f fd ["self", "call", "numbers", "rows"] (spDAnswer c T) := by
  refine fn_ok F scD14 (fun vs H Q E h => ?_) (fun cdv A outer s H vs Q E hr h => ?_)
  · obtain ⟨d, la, nn, rr, al, bs, m, call, ns, rows, ras, rfl, _⟩ := h
    rfl
  · obtain ⟨d, la, nn, rr, al, bs, m, call, ns, rows, ras, rfl, hD, hT, ok, hnn, hrr, hrows, hsh, k⟩ := h
    obtain ⟨dx, hd⟩ := hD.obj
    refine ⟨_, pss_cons (ps_if (pt_cmpR op_eq (pv 1) pe_int (nomark _)) (pss_one (ps_ret (pe_m (X := _) G1 cd.cl hr (by decide) (pv 0) (pa_cons (pe_ix ix_list (pv 2) pe_int (fun _ _ => rfl)) (pa_cons (pe_ix ix_list (pv 2) pe_int (fun _ _ => rfl)) (pa_cons (pe_ix ix_list (pv 3) pe_int (fun _ _ => rfl)) pa_nil)))))) pss_nil)
      (pss_cons (ps_if (pt_cmpR op_eq (pv 1) pe_int (nomark _)) (pss_one (ps_ret (pe_m (X := _) G2 cd.cl hr (by decide) (pv 0) (pa_cons (pe_ix ix_list (pv 2) pe_int (fun _ _ => rfl)) (pa_cons (pe_ix ix_list (pv 3) pe_int (fun _ _ => rfl)) pa_nil))))) pss_nil)
      (pss_cons (ps_if (pt_cmpR op_eq (pv 1) pe_int (nomark _)) (pss_one (ps_ret (pe_m (X := _) G3 cd.cl hr (by decide) (pv 0) (pa_cons (pe_ix ix_list (pv 2) pe_int (fun _ _ => rfl)) pa_nil)))) pss_nil)
      (pss_cons (ps_if (pt_cmpR op_eq (pv 1) pe_int (nomark _)) (pss_one (ps_ret (pe_m0 (X := _) G4 cd.cl hr (by decide) (pv 0)))) pss_nil)
      (pss_cons (ps_if (pt_cmpR op_eq (pv 1) pe_int (nomark _)) (pss_one (ps_ret (pe_m0 (X := _) G5 cd.cl hr (by decide) (pv 0)))) pss_nil)
      (pss_cons (ps_if (pt_cmpR op_eq (pv 1) pe_int (nomark _)) (pss_one (ps_ret (pe_m (X := _) G6 cd.cl hr (by decide) (pv 0) (pa_cons (pe_ix ix_list (pv 2) pe_int (fun _ _ => rfl)) (pa_cons (pe_ix ix_list (pv 2) pe_int (fun _ _ => rfl)) pa_nil))))) pss_nil)
      (pss_cons (ps_if (pt_cmp (pc_isN (pe_fld (pv 0) rfl))) (pss_one (ps_ret (pe_lst (pa_cons (pe_un un_neg pe_int) pa_nil)))) pss_nil)
      (pss_cons (ps_if (pt_cmpR op_eq (pv 1) pe_int (nomark _)) (pss_one (ps_ret (pe_m0 (X := _) G7 cd.cl hr (by decide) (pv 0)))) pss_nil)
      (pss_cons (ps_if (pt_cmpR op_eq (pv 1) pe_int (nomark _)) (pss_one (ps_ret (pe_m (X := _) G8 cd.cl hr (by decide) (pv 0) (pa_cons (pe_ix ix_list (pv 2) pe_int (fun _ _ => rfl)) (pa_cons (pe_ix ix_list (pv 3) pe_int (fun _ _ => rfl)) (pa_cons (pe_ix ix_list (pv 3) pe_int (fun _ _ => rfl)) pa_nil)))))) pss_nil)
      (pss_cons (ps_if (pt_cmpR op_eq (pv 1) pe_int (nomark _)) (pss_one (ps_ret (pe_m (X := _) G9 cd.cl hr (by decide) (pv 0) (pa_cons (pv 2) pa_nil)))) pss_nil)
      (pss_one (ps_ret (pe_m0 (X := _) G10 cd.cl hr (by decide) (pv 0))))))))))))), ?_⟩
    have row0 : ∀ l, rows[0]? = some l → ∃ a, atI (ras.map V.ref) 0 = some (.ref a) ∧ H a = some (.lst (ivs l)) ∧ a ∉ daddr d la al bs ∧ l.length ≤ sizeLine := fun l hl => by
      obtain ⟨a, h1, h2, h3, h4⟩ := hrows.at_ 0 l hl
      exact ⟨a, atI_nat (j := 0) (by rw [List.getElem?_map, h1]; rfl), h2, h3, h4⟩
    have row1 : ∀ l, rows[1]? = some l → ∃ a, atI (ras.map V.ref) 1 = some (.ref a) ∧ H a = some (.lst (ivs l)) ∧ a ∉ daddr d la al bs ∧ l.length ≤ sizeLine := fun l hl => by
      obtain ⟨a, h1, h2, h3, h4⟩ := hrows.at_ 1 l hl
      exact ⟨a, atI_nat (j := 1) (by rw [List.getElem?_map, h1]; rfl), h2, h3, h4⟩
    rcases shape_is hsh with ⟨hc, hn, hk⟩ | ⟨hc, hn, hk⟩ | ⟨hc, hn, hk⟩ | ⟨hc, hn, hk⟩ | ⟨hc, hn, hk⟩ | ⟨hc, hn, hk⟩ | ⟨hc, hn, hk⟩ | ⟨hc, hn, hk⟩ | ⟨hc, hn, hk⟩ | ⟨hc, hn, hk⟩
    all_goals subst hc
    · obtain ⟨e, a, rfl⟩ := two hn
      obtain ⟨l, rfl⟩ := one hk
      obtain ⟨ra, r1, r2, _, _⟩ := row0 l rfl
      refine ⟨_, rfl, rfl, _, rfl, ?_⟩
      rw [dI, decide_eq_true rfl]
      exact iteT ⟨_, rfl, d, dx, _, rfl, hd, rfl, _, rfl, nn, _, 0, .int e, rfl, rfl, SqL.of hnn, rfl, _, rfl, nn, _, 1, .int a, rfl, rfl, SqL.of hnn, rfl, _, rfl, rr, _, 0, .ref ra, rfl, rfl, SqL.of hrr, r1, d, la, ra, al, bs, m, e, a, l, rfl, hD, SqL.of r2, k⟩
    · obtain ⟨i, rfl⟩ := one hn
      obtain ⟨l, rfl⟩ := one hk
      obtain ⟨ra, r1, r2, r3, r4⟩ := row0 l rfl
      refine ⟨_, rfl, rfl, _, rfl, ?_⟩
      rw [dI, decide_eq_false (by decide)]
      refine iteF ?_
      refine ⟨_, rfl, rfl, _, rfl, ?_⟩
      rw [dI, decide_eq_true rfl]
      exact iteT ⟨_, rfl, d, dx, _, rfl, hd, rfl, _, rfl, nn, _, 0, .int i, rfl, rfl, SqL.of hnn, rfl, _, rfl, rr, _, 0, .ref ra, rfl, rfl, SqL.of hrr, r1, d, la, ra, al, bs, m, i, l, rfl, hD, r2, r3, r4, ok.ac, ok.arr, k⟩
    · obtain ⟨i, rfl⟩ := one hn
      refine ⟨_, rfl, rfl, _, rfl, ?_⟩
      rw [dI, decide_eq_false (by decide)]
      refine iteF ?_
      refine ⟨_, rfl, rfl, _, rfl, ?_⟩
      rw [dI, decide_eq_false (by decide)]
      refine iteF ?_
      refine ⟨_, rfl, rfl, _, rfl, ?_⟩
      rw [dI, decide_eq_true rfl]
      exact iteT ⟨_, rfl, d, dx, _, rfl, hd, rfl, _, rfl, nn, _, 0, .int i, rfl, rfl, SqL.of hnn, rfl, d, la, al, bs, m, i, rfl, hD, k⟩
    · refine ⟨_, rfl, rfl, _, rfl, ?_⟩
      rw [dI, decide_eq_false (by decide)]
      refine iteF ?_
      refine ⟨_, rfl, rfl, _, rfl, ?_⟩
      rw [dI, decide_eq_false (by decide)]
      refine iteF ?_
      refine ⟨_, rfl, rfl, _, rfl, ?_⟩
      rw [dI, decide_eq_false (by decide)]
      refine iteF ?_
      refine ⟨_, rfl, rfl, _, rfl, ?_⟩
      rw [dI, decide_eq_true rfl]
      exact iteT ⟨_, rfl, d, dx, _, rfl, hd, rfl, d, la, al, bs, m, rfl, hT, hD, k⟩
    · refine ⟨_, rfl, rfl, _, rfl, ?_⟩
      rw [dI, decide_eq_false (by decide)]
      refine iteF ?_
      refine ⟨_, rfl, rfl, _, rfl, ?_⟩
      rw [dI, decide_eq_false (by decide)]
      refine iteF ?_
      refine ⟨_, rfl, rfl, _, rfl, ?_⟩
      rw [dI, decide_eq_false (by decide)]
      refine iteF ?_
      refine ⟨_, rfl, rfl, _, rfl, ?_⟩
      rw [dI, decide_eq_false (by decide)]
      refine iteF ?_
      refine ⟨_, rfl, rfl, _, rfl, ?_⟩
      rw [dI, decide_eq_true rfl]
      exact iteT ⟨_, rfl, d, dx, _, rfl, hd, rfl, d, la, al, bs, m, rfl, hT, hD, k⟩
    · obtain ⟨n, z, rfl⟩ := two hn
      refine ⟨_, rfl, rfl, _, rfl, ?_⟩
      rw [dI, decide_eq_false (by decide)]
      refine iteF ?_
      refine ⟨_, rfl, rfl, _, rfl, ?_⟩
      rw [dI, decide_eq_false (by decide)]
      refine iteF ?_
      refine ⟨_, rfl, rfl, _, rfl, ?_⟩
      rw [dI, decide_eq_false (by decide)]
      refine iteF ?_
      refine ⟨_, rfl, rfl, _, rfl, ?_⟩
      rw [dI, decide_eq_false (by decide)]
      refine iteF ?_
      refine ⟨_, rfl, rfl, _, rfl, ?_⟩
      rw [dI, decide_eq_false (by decide)]
      refine iteF ?_
      refine ⟨_, rfl, rfl, _, rfl, ?_⟩
      rw [dI, decide_eq_true rfl]
      exact iteT ⟨_, rfl, d, dx, _, rfl, hd, rfl, _, rfl, nn, _, 0, .int n, rfl, rfl, SqL.of hnn, rfl, _, rfl, nn, _, 1, .int z, rfl, rfl, SqL.of hnn, rfl, d, la, al, bs, m, n, z, rfl, hT, hD, k⟩
    · refine ⟨_, rfl, rfl, _, rfl, ?_⟩
      rw [dI, decide_eq_false (by decide)]
      refine iteF ?_
      refine ⟨_, rfl, rfl, _, rfl, ?_⟩
      rw [dI, decide_eq_false (by decide)]
      refine iteF ?_
      refine ⟨_, rfl, rfl, _, rfl, ?_⟩
      rw [dI, decide_eq_false (by decide)]
      refine iteF ?_
      refine ⟨_, rfl, rfl, _, rfl, ?_⟩
      rw [dI, decide_eq_false (by decide)]
      refine iteF ?_
      refine ⟨_, rfl, rfl, _, rfl, ?_⟩
      rw [dI, decide_eq_false (by decide)]
      refine iteF ?_
      refine ⟨_, rfl, rfl, _, rfl, ?_⟩
      rw [dI, decide_eq_false (by decide)]
      refine iteF ?_
      refine ⟨_, rfl, d, c.D, dx, _, _, rfl, hd, cd.cl, cd.bracket, rfl, _, rfl, ?_⟩
      rcases hD.br with ⟨hb1, hb2⟩ | ⟨t, bm, hb1, hb2, hb3, _⟩
      · subst hb1
        rw [decide_eq_true (show brV none = V.non from rfl)]
        refine iteT (k.neg (n := 2) hD ?_ (Ext.refl T H))
        unfold Ar.D.step
        rw [hb2]
        rfl
      subst hb1
      rw [decide_eq_false (show ¬ brV (some t) = V.non by intro z; cases z)]
      refine iteF ?_
      refine ⟨_, rfl, rfl, _, rfl, ?_⟩
      rw [dI, decide_eq_true rfl]
      have ek : m.step 7 ns rows = (m, Ar.D.round bm) := by
        unfold Ar.D.step
        rw [hb2]
        rfl
      rw [ek] at k
      exact iteT ⟨_, rfl, d, dx, _, rfl, hd, rfl, d, la, al, t, m, bm, rfl, hD, hb2, k⟩
    · obtain ⟨i, rfl⟩ := one hn
      obtain ⟨l, r, rfl⟩ := two hk
      obtain ⟨ra, r1, r2, r3, r4⟩ := row0 l rfl
      obtain ⟨rb, q1, q2, q3, q4⟩ := row1 r rfl
      refine ⟨_, rfl, rfl, _, rfl, ?_⟩
      rw [dI, decide_eq_false (by decide)]
      refine iteF ?_
      refine ⟨_, rfl, rfl, _, rfl, ?_⟩
      rw [dI, decide_eq_false (by decide)]
      refine iteF ?_
      refine ⟨_, rfl, rfl, _, rfl, ?_⟩
      rw [dI, decide_eq_false (by decide)]
      refine iteF ?_
      refine ⟨_, rfl, rfl, _, rfl, ?_⟩
      rw [dI, decide_eq_false (by decide)]
      refine iteF ?_
      refine ⟨_, rfl, rfl, _, rfl, ?_⟩
      rw [dI, decide_eq_false (by decide)]
      refine iteF ?_
      refine ⟨_, rfl, rfl, _, rfl, ?_⟩
      rw [dI, decide_eq_false (by decide)]
      refine iteF ?_
      refine ⟨_, rfl, d, c.D, dx, _, _, rfl, hd, cd.cl, cd.bracket, rfl, _, rfl, ?_⟩
      rcases hD.br with ⟨hb1, hb2⟩ | ⟨t, bm, hb1, hb2, hb3, _⟩
      · subst hb1
        rw [decide_eq_true (show brV none = V.non from rfl)]
        refine iteT (k.neg (n := 2) hD ?_ (Ext.refl T H))
        unfold Ar.D.step
        rw [hb2]
        rfl
      subst hb1
      rw [decide_eq_false (show ¬ brV (some t) = V.non by intro z; cases z)]
      refine iteF ?_
      refine ⟨_, rfl, rfl, _, rfl, ?_⟩
      rw [dI, decide_eq_false (by decide)]
      refine iteF ?_
      refine ⟨_, rfl, rfl, _, rfl, ?_⟩
      rw [dI, decide_eq_true rfl]
      have ek : m.step 8 [i] [l, r] = ({ m with br := some (bm.shoot i l r).1 }, (bm.shoot i l r).2) := by
        unfold Ar.D.step
        rw [hb2]
        rfl
      rw [ek] at k
      exact iteT ⟨_, rfl, d, dx, _, rfl, hd, rfl, _, rfl, nn, _, 0, .int i, rfl, rfl, SqL.of hnn, rfl, _, rfl, rr, _, 0, .ref ra, rfl, rfl, SqL.of hrr, r1, _, rfl, rr, _, 1, .ref rb, rfl, rfl, SqL.of hrr, q1, d, la, ra, rb, al, t, m, bm, i, l, r, rfl, hD, hb2, SqL.of r2, SqL.of q2, r4, q4, ok.go bm hb2, k⟩
    · obtain ⟨i, l, r, n, rfl⟩ := four hn
      refine ⟨_, rfl, rfl, _, rfl, ?_⟩
      rw [dI, decide_eq_false (by decide)]
      refine iteF ?_
      refine ⟨_, rfl, rfl, _, rfl, ?_⟩
      rw [dI, decide_eq_false (by decide)]
      refine iteF ?_
      refine ⟨_, rfl, rfl, _, rfl, ?_⟩
      rw [dI, decide_eq_false (by decide)]
      refine iteF ?_
      refine ⟨_, rfl, rfl, _, rfl, ?_⟩
      rw [dI, decide_eq_false (by decide)]
      refine iteF ?_
      refine ⟨_, rfl, rfl, _, rfl, ?_⟩
      rw [dI, decide_eq_false (by decide)]
      refine iteF ?_
      refine ⟨_, rfl, rfl, _, rfl, ?_⟩
      rw [dI, decide_eq_false (by decide)]
      refine iteF ?_
      refine ⟨_, rfl, d, c.D, dx, _, _, rfl, hd, cd.cl, cd.bracket, rfl, _, rfl, ?_⟩
      rcases hD.br with ⟨hb1, hb2⟩ | ⟨t, bm, hb1, hb2, hb3, _⟩
      · subst hb1
        rw [decide_eq_true (show brV none = V.non from rfl)]
        refine iteT (k.neg (n := 2) hD ?_ (Ext.refl T H))
        unfold Ar.D.step
        rw [hb2]
        rfl
      subst hb1
      rw [decide_eq_false (show ¬ brV (some t) = V.non by intro z; cases z)]
      refine iteF ?_
      refine ⟨_, rfl, rfl, _, rfl, ?_⟩
      rw [dI, decide_eq_false (by decide)]
      refine iteF ?_
      refine ⟨_, rfl, rfl, _, rfl, ?_⟩
      rw [dI, decide_eq_false (by decide)]
      refine iteF ?_
      refine ⟨_, rfl, rfl, _, rfl, ?_⟩
      rw [dI, decide_eq_true rfl]
      have ek : m.step 9 [i, l, r, n] rows = ({ m with br := some (bm.off i l r n).1 }, (bm.off i l r n).2) := by
        unfold Ar.D.step
        rw [hb2]
        rfl
      rw [ek] at k
      exact iteT ⟨_, rfl, d, dx, _, rfl, hd, rfl, _, rfl, d, la, nn, al, t, m, bm, i, l, r, n, rfl, hD, hb2, SqL.of hnn, ok.go bm hb2, k⟩
    · refine ⟨_, rfl, rfl, _, rfl, ?_⟩
      rw [dI, decide_eq_false (by decide)]
      refine iteF ?_
      refine ⟨_, rfl, rfl, _, rfl, ?_⟩
      rw [dI, decide_eq_false (by decide)]
      refine iteF ?_
      refine ⟨_, rfl, rfl, _, rfl, ?_⟩
      rw [dI, decide_eq_false (by decide)]
      refine iteF ?_
      refine ⟨_, rfl, rfl, _, rfl, ?_⟩
      rw [dI, decide_eq_false (by decide)]
      refine iteF ?_
      refine ⟨_, rfl, rfl, _, rfl, ?_⟩
      rw [dI, decide_eq_false (by decide)]
      refine iteF ?_
      refine ⟨_, rfl, rfl, _, rfl, ?_⟩
      rw [dI, decide_eq_false (by decide)]
      refine iteF ?_
      refine ⟨_, rfl, d, c.D, dx, _, _, rfl, hd, cd.cl, cd.bracket, rfl, _, rfl, ?_⟩
      rcases hD.br with ⟨hb1, hb2⟩ | ⟨t, bm, hb1, hb2, hb3, _⟩
      · subst hb1
        rw [decide_eq_true (show brV none = V.non from rfl)]
        refine iteT (k.neg (n := 2) hD ?_ (Ext.refl T H))
        unfold Ar.D.step
        rw [hb2]
        rfl
      subst hb1
      rw [decide_eq_false (show ¬ brV (some t) = V.non by intro z; cases z)]
      refine iteF ?_
      refine ⟨_, rfl, rfl, _, rfl, ?_⟩
      rw [dI, decide_eq_false (by decide)]
      refine iteF ?_
      refine ⟨_, rfl, rfl, _, rfl, ?_⟩
      rw [dI, decide_eq_false (by decide)]
      refine iteF ?_
      refine ⟨_, rfl, rfl, _, rfl, ?_⟩
      rw [dI, decide_eq_false (by decide)]
      refine iteF ?_
      have ek : m.step 10 ns rows = (m, m.places bm) := by
        unfold Ar.D.step
        rw [hb2]
        rfl
      rw [ek] at k
      exact ⟨_, rfl, d, dx, _, rfl, hd, rfl, d, la, al, t, m, bm, rfl, hT, hD, hb2, ok.find bm hb2, k⟩
end
end ArW
end
section
set_option Elab.async false
set_option maxRecDepth 100000
set_option maxHeartbeats 4000000
/-! The calls read off the list, in plain Lean. -/
namespace ArW
open PySem PySem.Spec PyProof.Rows L2 LamX

/-- one call, played by the mirror -/
def stepC (m : Ar.D) : List (List Int) → Ar.D × List Int
  | (p :: ns) :: rows => m.step p ns rows
  | _ => (m, [])
/-- the answers, each with its length ahead -/
def runD : Ar.D → List (List (List Int)) → List Int
  | _, [] => []
  | m, c :: cs => ((stepC m c).2.length : Int) :: (stepC m c).2 ++ runD (stepC m c).1 cs
def AllOk : Ar.D → List (List (List Int)) → Prop
  | _, [] => True
  | m, c :: cs => OkD m ∧ AllOk (stepC m c).1 cs
theorem calls_nil {f : Nat} {cs : List (List (List Int))} (h : PyFlat.calls PyKg64.shape f [] = some cs) : cs = [] := by
  cases f <;> exact (Option.some.inj h).symm
/-- the next call: its place, its numbers, its rows, the rest -/
theorem calls_cons {f : Nat} {p : Int} {r : List Int} {cs : List (List (List Int))} (h : PyFlat.calls PyKg64.shape f (p :: r) = some cs) :
    ∃ n k xs t cs' f', PyKg64.shape p = some (n, k) ∧ n ≤ r.length ∧ PyFlat.rows k (r.drop n) = some (xs, t) ∧ PyFlat.calls PyKg64.shape f' t = some cs' ∧ cs = ((p :: r.take n) :: xs) :: cs' := by
  cases f with
  | zero => cases h
  | succ f =>
    unfold PyFlat.calls at h
    cases hc : PyFlat.call PyKg64.shape (p :: r) with
    | none => rw [hc] at h; cases h
    | some ct =>
      obtain ⟨c, t⟩ := ct
      rw [hc] at h
      cases hcs : PyFlat.calls PyKg64.shape f t with
      | none =>
        have h : (match PyFlat.calls PyKg64.shape f t with | none => none | some cs => some (c :: cs)) = some cs := h
        rw [hcs] at h
        cases h
      | some cs' =>
        have h : (match PyFlat.calls PyKg64.shape f t with | none => none | some cs => some (c :: cs)) = some cs := h
        rw [hcs] at h
        have h : c :: cs' = cs := Option.some.inj h
        have hc : (match PyKg64.shape p with | none => none | some (n, k) => if r.length < n then none else match PyFlat.rows k (r.drop n) with | none => none | some (xs, t) => some ((p :: r.take n) :: xs, t)) = some (c, t) := hc
        cases hs : PyKg64.shape p with
        | none => rw [hs] at hc; cases hc
        | some nk =>
          obtain ⟨n, k⟩ := nk
          rw [hs] at hc
          have hc : (if r.length < n then none else match PyFlat.rows k (r.drop n) with | none => none | some (xs, t) => some ((p :: r.take n) :: xs, t)) = some (c, t) := hc
          by_cases hl : r.length < n
          · rw [if_pos hl] at hc
            cases hc
          · rw [if_neg hl] at hc
            cases hr : PyFlat.rows k (r.drop n) with
            | none => rw [hr] at hc; cases hc
            | some xt =>
              obtain ⟨xs, t'⟩ := xt
              rw [hr] at hc
              have hc : some ((p :: r.take n) :: xs, t') = some (c, t) := hc
              cases hc
              exact ⟨n, k, xs, t, cs', f, rfl, by omega, hr, hcs, h.symm⟩
/-- the next row -/
theorem rows_succ {k : Nat} {l t : List Int} {xs : List (List Int)} (h : PyFlat.rows (k + 1) l = some (xs, t)) :
    ∃ (cnt : Nat) (r : List Int) (ys : List (List Int)), l = (cnt : Int) :: r ∧ cnt ≤ r.length ∧ PyFlat.rows k (r.drop cnt) = some (ys, t) ∧ xs = r.take cnt :: ys := by
  unfold PyFlat.rows at h
  cases hw : PyFlat.row l with
  | none => rw [hw] at h; cases h
  | some xs' =>
    obtain ⟨x, s⟩ := xs'
    rw [hw] at h
    have h : (match PyFlat.rows k s with | none => none | some (xs, t) => some (x :: xs, t)) = some (xs, t) := h
    cases hr : PyFlat.rows k s with
    | none => rw [hr] at h; cases h
    | some yt =>
      obtain ⟨ys, t'⟩ := yt
      rw [hr] at h
      have h : some (x :: ys, t') = some (xs, t) := h
      cases h
      cases l with
      | nil => cases hw
      | cons n r =>
        have hw : (if 0 ≤ n ∧ n.toNat ≤ r.length then some (r.take n.toNat, r.drop n.toNat) else none) = some (x, s) := hw
        by_cases c : 0 ≤ n ∧ n.toNat ≤ r.length
        · rw [if_pos c] at hw
          cases hw
          exact ⟨n.toNat, r, ys, by rw [show ((n.toNat : Nat) : Int) = n by omega], c.2, hr, rfl⟩
        · rw [if_neg c] at hw
          cases hw
theorem rows_count : ∀ {k : Nat} {l t : List Int} {xs : List (List Int)}, PyFlat.rows k l = some (xs, t) → xs.length = k
  | 0, l, t, xs, h => by
    have h : some (([] : List (List Int)), l) = some (xs, t) := h
    cases h
    rfl
  | k + 1, l, t, xs, h => by
    obtain ⟨_, _, ys, _, _, h2, rfl⟩ := rows_succ h
    rw [List.length_cons, rows_count h2]
theorem cut_mid (l : List Int) (a b : Nat) (hab : a ≤ b) (hb : b ≤ l.length) : cutV (ivs l) (some (a : Int)) (some (b : Int)) = ivs ((l.drop a).take (b - a)) := by
  unfold cutV ivs
  rw [HT.sIx_nat, HT.sIx_nat, List.length_map, Nat.min_eq_left hb, Nat.min_eq_left (Nat.le_trans hab hb), List.map_take, List.map_drop]
theorem drop_cons {l r : List Int} {p : Int} {i : Nat} (h : l.drop i = p :: r) : l[i]? = some p ∧ l.drop (i + 1) = r ∧ i + 1 + r.length = l.length := by
  have hi : i < l.length := by
    rcases Nat.lt_or_ge i l.length with z | z
    · exact z
    · rw [List.drop_eq_nil_of_le z] at h
      cases h
  rw [List.drop_eq_getElem_cons hi] at h
  obtain ⟨h1, h2⟩ := List.cons.inj h
  refine ⟨by rw [List.getElem?_eq_getElem hi, h1], h2, ?_⟩
  have := congrArg List.length h2
  rw [List.length_drop] at this
  omega
abbrev nCounts : List Int := [0, 2, 1, 1, 0, 0, 2, 0, 1, 4, 0]
abbrev rCounts : List Int := [0, 1, 1, 0, 0, 0, 0, 0, 2, 0, 0]
theorem counts_at {p : Int} {n k : Nat} (h : PyKg64.shape p = some (n, k)) : atI (ivs nCounts) p = some (V.int (n : Nat)) ∧ atI (ivs rCounts) p = some (V.int (k : Nat)) ∧ n ≤ 4 ∧ k ≤ 2 := by
  rcases shape_is h with ⟨rfl, rfl, rfl⟩ | ⟨rfl, rfl, rfl⟩ | ⟨rfl, rfl, rfl⟩ | ⟨rfl, rfl, rfl⟩ | ⟨rfl, rfl, rfl⟩ | ⟨rfl, rfl, rfl⟩ | ⟨rfl, rfl, rfl⟩ | ⟨rfl, rfl, rfl⟩ | ⟨rfl, rfl, rfl⟩ | ⟨rfl, rfl, rfl⟩ <;>
    exact ⟨rfl, rfl, by decide, by decide⟩
end ArW
end
section
set_option Elab.async false
set_option maxRecDepth 100000
set_option maxHeartbeats 4000000
/-! answers. -/
namespace ArW
open PySem PySem.Spec PyProof.Rows L2 LamX

abbrev nAns : List Str := ["calls", "day", "found", "place", "call", "start", "numbers", "rows", "turn", "answer"]
theorem scAns : FnScope nAns ["calls"] (defScope (top 29)) := ⟨rfl, rfl, rfl, by decide +kernel, rfl, by decide +kernel, by decide +kernel⟩
structure TBC (K : PySem.W.Frag) (mg : Str → Option Value) : Prop where
  NC : ∃ t, mg "NUMBER_COUNTS" = some (.ref t) ∧ ∀ H, SqT K H t (ivs nCounts)
  RC : ∃ t, mg "ROW_COUNTS" = some (.ref t) ∧ ∀ H, SqT K H t (ivs rCounts)
theorem daddr_kind {c : C4} {H : Hp} {d la : Addr} {al : AL} {bs : Option BS} {m : Ar.D} (h : DayAt c H d la al bs m) : ∀ q ∈ daddr d la al bs, (∃ C dx fs, H q = some (.ins C dx fs)) ∨ ∃ l, H q = some (.lst l) := by
  intro q hq
  obtain ⟨⟨dx, h1⟩, h2, h3, _, _, _, _, h8⟩ := h
  unfold daddr at hq
  rcases List.mem_cons.mp hq with hq | hq
  · rw [hq]
    exact .inl ⟨_, _, _, h1⟩
  · rcases List.mem_cons.mp hq with hq | hq
    · rw [hq]
      exact .inr ⟨_, h2⟩
    · rcases List.mem_append.mp hq with hq | hq
      · obtain ⟨y, hy, hq⟩ := List.mem_flatMap.mp hq
        obtain ⟨⟨dy, y1⟩, y2, _⟩ := h3 y hy
        simp only [List.mem_cons, List.not_mem_nil, or_false] at hq
        rcases hq with hq | hq
        · rw [hq]
          exact .inl ⟨_, _, _, y1⟩
        · rw [hq]
          exact .inr ⟨_, y2⟩
      · rcases h8 with ⟨rfl, _⟩ | ⟨s, bm, rfl, _, hB, _⟩
        · cases hq
        · obtain ⟨db, b1⟩ := hB.obj
          unfold baddr at hq
          simp only [List.mem_cons] at hq
          rcases hq with hq | hq | hq | hq
          · rw [hq]
            exact .inl ⟨_, _, _, b1⟩
          · rw [hq]
            exact .inr ⟨_, hB.seat⟩
          · rw [hq]
            exact .inr ⟨_, hB.rnd⟩
          · obtain ⟨r, hr, hq⟩ := List.mem_flatMap.mp hq
            rcases List.mem_cons.mp hq with hq | hq
            · rw [hq]
              exact .inr ⟨_, (hB.all r hr).lst⟩
            · obtain ⟨y, hy, hq⟩ := List.mem_flatMap.mp hq
              obtain ⟨⟨dy, y1⟩, y2⟩ := (hB.all r hr).all y hy
              simp only [List.mem_cons, List.not_mem_nil, or_false] at hq
              rcases hq with hq | hq
              · rw [hq]
                exact .inl ⟨_, _, _, y1⟩
              · rw [hq]
                exact .inr ⟨_, y2⟩
theorem DayAt.keep {c : C4} {H H' : Hp} {d la : Addr} {al : AL} {bs : Option BS} {m : Ar.D} (h : DayAt c H d la al bs m) (k : ∀ q ∈ daddr d la al bs, ∀ o, H q = some o → H' q = some o) : DayAt c H' d la al bs m := by
  obtain ⟨⟨dx, h1⟩, h2, h3, h4, h5, h6, h7, h8⟩ := h
  have m1 : d ∈ daddr d la al bs := by unfold daddr; exact List.mem_cons_self
  have m2 : la ∈ daddr d la al bs := by unfold daddr; exact List.mem_cons_of_mem _ List.mem_cons_self
  refine ⟨⟨dx, k _ m1 _ h1⟩, k _ m2 _ h2, fun y hy => ?_, h4, h5, h6, h7, ?_⟩
  · obtain ⟨⟨dy, y1⟩, y2, y3⟩ := h3 y hy
    have := mem_addr hy d la bs
    exact ⟨⟨dy, k _ this.1 _ y1⟩, k _ this.2 _ y2, y3⟩
  · rcases h8 with h8 | ⟨s, bm, rfl, e2, hB, e4⟩
    · exact .inl h8
    · refine .inr ⟨s, bm, rfl, e2, ?_, e4⟩
      obtain ⟨⟨db, b1⟩, b2, b3, b4, b5, b6, b7, b8, b9, b10⟩ := hB
      have kb : ∀ q ∈ baddr (some s), ∀ o, H q = some o → H' q = some o := fun q hq o e => k q (in_day hq) o e
      refine ⟨⟨db, kb _ (by unfold baddr; simp) _ b1⟩, kb _ (by unfold baddr; simp) _ b2, kb _ (by unfold baddr; simp) _ b3, fun r hr => ⟨?_, fun y hy => ?_⟩, b5, b6, b7, b8, b9, b10⟩
      · refine kb _ ?_ _ (b4 r hr).lst
        have : r.1 ∈ baddrs s.rl := List.mem_flatMap.mpr ⟨r, hr, List.mem_cons_self⟩
        unfold baddr
        simp [this]
      · obtain ⟨⟨dy, y1⟩, y2⟩ := (b4 r hr).all y hy
        have i1 : y.1 ∈ baddrs s.rl := mem_baddr hr hy
        have i2 : y.2.1 ∈ baddrs s.rl := List.mem_flatMap.mpr ⟨r, hr, List.mem_cons_of_mem _ (List.mem_flatMap.mpr ⟨y, hy, by simp⟩)⟩
        exact ⟨⟨dy, kb _ (by unfold baddr; simp [i1]) _ y1⟩, kb _ (by unfold baddr; simp [i2]) _ y2⟩
/-- the request's list: the caller's, or of the text; nobody writes it -/
def Req (K : PySem.W.Frag) (H : Hp) (a : Addr) (xs : List V) : Prop := (∃ o, H a = some (.frz o (.lst xs))) ∨ ∀ H', SqL K H' a xs
theorem Req.sq {K : PySem.W.Frag} {H : Hp} {a : Addr} {xs : List V} (h : Req K H a xs) : SqL K H a xs := by
  rcases h with ⟨o, h⟩ | h
  · exact .inl (.inr ⟨o, h⟩)
  · exact h H
theorem Req.kept {K : PySem.W.Frag} {H H' : Hp} {a : Addr} {xs : List V} (h : Req K H a xs) (k : ∀ o u, H a = some (.frz o u) → H' a = some (.frz o u)) : Req K H' a xs := by
  rcases h with ⟨o, h⟩ | h
  · exact .inl ⟨o, k _ _ h⟩
  · exact .inr h
def spAns (K : PySem.W.Frag) (T : List (Addr × Str)) : Sp := fun vs H Q _ => ∃ (a : Addr) (l : List Int) (cs : List (List (List Int))) (f : Nat), vs = [.ref a] ∧ Tabs T H ∧ Req K H a (ivs l) ∧ l.length ≤ sizeLine ∧ PyFlat.calls PyKg64.shape f l = some cs ∧ AllOk Ar.D.start cs ∧
  (runD Ar.D.start cs).length ≤ 10000000 ∧ ∀ H' p, H' p = some (.lst (ivs (runD Ar.D.start cs))) → Q (.ref p) H'
section
variable {P : Program} {w : World} {K : PySem.W.Frag} {mg : Str → Option Value} {base : Heap} {f : Addr} {c : C4} {fd : FuncData} {T : List (Addr × Str)}
theorem ok_answers (F : FnP K "answers" "answers" (top 29) f fd) (cd : CDy K c.D) (B : TB mg) (BC : TBC K mg) (GD : CF P w K mg base "Day" c.D 1 ["self"] (spDInit c)) (GA : MF P w K mg base c.D "answer_to" 10 ["self", "call", "numbers", "rows"] (spDAnswer c T)) : FnOk P w K mg base CX0 12 f fd ["calls"] (spAns K T) := by
  refine fn_ok F scAns (fun vs H Q E h => ?_) (fun cdv A outer s H vs Q E hr h => ?_)
  · obtain ⟨a, l, cs, ff, rfl, _⟩ := h
    rfl
  · obtain ⟨a, l, cs, ff, rfl, hT, hA, hl, hcs, hok, hlen, k⟩ := h
    obtain ⟨tn, hn1, hn2⟩ := BC.NC
    obtain ⟨tr, hr1, hr2⟩ := BC.RC
    refine ⟨_, pss_cons (ps_set (i := 1) scAns.nd rfl (.inl rfl) (pe_mk0 (X := _) GD hr (by decide) rfl)) (pss_cons (ps_set (i := 2) scAns.nd rfl (.inl rfl) (pe_lst pa_nil)) (pss_cons (ps_set (i := 3) scAns.nd rfl (.inl rfl) pe_int)
      (pss_cons (ps_while PassesOwn.never (pt_cmpR op_lt (pv 3) (pe_callB call_len_seq (by rfl) B.len PySem.boot_len (pa_cons (pv 0) pa_nil)) (nomark _))
        (pss_cons (ps_set (i := 4) scAns.nd rfl (.inl rfl) (pe_ix ix_list (pv 0) (pv 3) (fun _ _ => rfl)))
        (pss_cons (ps_set (i := 5) scAns.nd rfl (.inl rfl) (pe_op op_add (pv 3) pe_int))
        (pss_cons (ps_set (i := 3) scAns.nd rfl (.inl rfl) (pe_op op_add (pv 5) (pe_ix ix_tup (pe_glob rfl hn1 (v := V.ref tn) rfl) (pv 4) (fun _ _ => rfl))))
        (pss_cons (ps_set (i := 6) scAns.nd rfl (.inl rfl) (pe_slice sl_list (pv 0) (po_some (pv 5)) (po_some (pv 3))))
        (pss_cons (ps_set (i := 7) scAns.nd rfl (.inl rfl) (pe_lst pa_nil))
        (pss_cons (ps_for PassesOwn.never rfl (pi_range1 rfl B.range (pa_cons (pe_ix ix_tup (pe_glob rfl hr1 (v := V.ref tr) rfl) (pv 4) (fun _ _ => rfl)) pa_nil)) (pg_name (i := 8) scAns.nd rfl (Or.inl rfl))
          (pss_cons (ps_set (i := 5) scAns.nd rfl (.inl rfl) (pe_op op_add (pv 3) pe_int))
          (pss_cons (ps_set (i := 3) scAns.nd rfl (.inl rfl) (pe_op op_add (pv 5) (pe_ix ix_list (pv 0) (pv 3) (fun _ _ => rfl))))
          (pss_one (ps_expr (pe_bm PySem.F.plainAttrs_list PySem.F.slot_list_append PySem.F.type_list_append mt_append (pv 7) (pa_cons (pe_slice sl_list (pv 0) (po_some (pv 5)) (po_some (pv 3))) pa_nil)))))))
        (pss_cons (ps_set (i := 9) scAns.nd rfl (.inl rfl) (pe_m (X := _) GA cd.cl hr (by decide) (pv 1) (pa_cons (pv 4) (pa_cons (pv 6) (pa_cons (pv 7) pa_nil)))))
        (pss_cons (ps_expr (pe_bm PySem.F.plainAttrs_list PySem.F.slot_list_append PySem.F.type_list_append mt_append (pv 2) (pa_cons (pe_callB call_len_seq (by rfl) B.len PySem.boot_len (pa_cons (pv 9) pa_nil)) pa_nil)))
        (pss_one (ps_expr (pe_bm PySem.F.plainAttrs_list PySem.F.slot_list_extend PySem.F.type_list_extend mt_extend (pv 2) (pa_cons (pv 9) pa_nil)))))))))))))
      (pss_one (ps_ret (pv 2)))))), ?_⟩
    intro d dd hdn hddn hne
    have keep : ∀ q o, H q = some o → L2.upd (L2.upd H dd (.own d)) d (.ins c.D dd []) q = some o := fun q o e => by
      rw [upd_ne (ne_of_none e hdn), upd_ne (ne_of_none e hddn)]
      exact e
    refine ⟨d, dd, rfl, upd_same, fun H1 la hD1 b1 nla => ⟨rfl, Nat.zero_le _, fun fo hfo => ?_⟩⟩
    have s1 : Same H H1 := fun q o e => b1 q o (keep q o e) (ne_of_none e hdn)
    have sf : Same H1 (L2.upd H1 fo (.lst [])) := Same.upd hfo
    refine ⟨fun n σ H' => ∃ pl m la al bs acc cs' ff' x4 x5 x6 x7 x8 x9, n = l.length - pl ∧ pl ≤ l.length ∧ σ = [some (.ref a), some (.ref d), some (.ref fo), some (.int (pl : Nat)), x4, x5, x6, x7, x8, x9] ∧ DayAt c H' d la al bs m ∧ Tabs T H' ∧ H' fo = some (.lst (ivs acc)) ∧ fo ∉ daddr d la al bs ∧ Req K H' a (ivs l) ∧
      PyFlat.calls PyKg64.shape ff' (l.drop pl) = some cs' ∧ AllOk m cs' ∧ acc ++ runD m cs' = runD Ar.D.start cs,
      ⟨_, 0, Ar.D.start, la, [], none, [], cs, ff, none, none, none, none, none, none, rfl, Nat.zero_le _, rfl, hD1.same sf, (hT.ext s1).ext sf, upd_same, fun hm => ?_, (hA.kept fun o u e => sf _ _ (s1 _ _ e)), hcs, hok, rfl⟩, ?_⟩
    · rcases daddr_kind hD1 fo hm with ⟨_, _, _, z⟩ | ⟨_, z⟩
      · rw [hfo] at z; cases z
      · rw [hfo] at z; cases z
    rintro n σ H2 ⟨pl, m, la2, al2, bs2, acc, cs2, ff2, x4, x5, x6, x7, x8, x9, rfl, hpl, rfl, hD2, hT2, hfo2, nfo2, hR2, hcs2, hok2, htot⟩
    have hacc : acc.length + (runD m cs2).length ≤ 10000000 := by
      rw [← htot, List.length_append] at hlen
      exact hlen
    have big : 10000000 + 1 ≤ sizeLine := by decide
    refine ⟨_, rfl, _, rfl, a, _, rfl, .inl hR2.sq, _, _, rfl, rfl, _, rfl, ?_⟩
    rw [ivs_length]
    by_cases c1 : (pl : Int) < (l.length : Int)
    rotate_left
    · rw [decide_eq_false c1]
      have e0 : pl = l.length := by omega
      rw [e0, List.drop_length] at hcs2
      have e1 := calls_nil hcs2
      rw [e1] at htot
      have e2 : acc = runD Ar.D.start cs := by
        rw [← htot]
        exact (List.append_nil acc).symm
      exact iteF ⟨_, rfl, k H2 fo (by rw [hfo2, e2])⟩
    rw [decide_eq_true c1]
    obtain ⟨p, r, hpr⟩ : ∃ p r, l.drop pl = p :: r := ⟨_, _, List.drop_eq_getElem_cons (by omega)⟩
    obtain ⟨hp1, hp2, hp3⟩ := drop_cons hpr
    rw [hpr] at hcs2
    obtain ⟨nn0, kk, xs, t, cs3, ff3, hsh, hnr, hrows, hcs3, rfl⟩ := calls_cons hcs2
    obtain ⟨hnc, hrc, hn4, hk2⟩ := counts_at hsh
    refine iteT ⟨fun σ' H' => ∃ n', n' < l.length - pl ∧ ∃ pl m la al bs acc cs' ff' x4 x5 x6 x7 x8 x9, n' = l.length - pl ∧ pl ≤ l.length ∧ σ' = [some (.ref a), some (.ref d), some (.ref fo), some (.int (pl : Nat)), x4, x5, x6, x7, x8, x9] ∧ DayAt c H' d la al bs m ∧ Tabs T H' ∧ H' fo = some (.lst (ivs acc)) ∧ fo ∉ daddr d la al bs ∧ Req K H' a (ivs l) ∧
      PyFlat.calls PyKg64.shape ff' (l.drop pl) = some cs' ∧ AllOk m cs' ∧ acc ++ runD m cs' = runD Ar.D.start cs, fun σ' H' h => h, ?_⟩
    refine ⟨_, rfl, _, rfl, a, _, _, V.int p, rfl, rfl, hR2.sq, atI_nat (by rw [List.getElem?_map, hp1]; rfl), ?_⟩
    refine ⟨_, rfl, _, _, rfl, rfl, ?_⟩
    refine ⟨_, rfl, _, rfl, tn, _, _, V.int (nn0 : Nat), rfl, rfl, hn2 _, hnc, _, _, rfl, rfl, ?_⟩
    refine ⟨_, rfl, _, rfl, _, rfl, _, rfl, _, rfl, a, _, rfl, hR2.sq, fun nn hnn => ?_⟩
    have ecut : cutV (ivs l) (some ((pl : Int) + 1)) (some ((pl : Int) + 1 + (nn0 : Nat))) = ivs (r.take nn0) := by
      have h := cut_mid l (pl + 1) (pl + 1 + nn0) (by omega) (by omega)
      rw [hp2, show pl + 1 + nn0 - (pl + 1) = nn0 by omega] at h
      exact h
    generalize hG : L2.upd H2 nn _ = G
    have gnn : G nn = some (.lst (ivs (r.take nn0))) := by
      rw [← hG, upd_same]
      exact congrArg (fun z => some (HO.lst z)) ecut
    have sG : Same H2 G := by
      rw [← hG]
      exact Same.upd hnn
    clear hG
    refine ⟨Nat.zero_le _, fun rr hrr => ?_⟩
    have hRG := hR2.kept fun o u e => sG _ _ e
    refine ⟨_, rfl, tr, _, _, V.int (kk : Nat), rfl, rfl, hr2 _, hrc, (kk : Int), rfl, by omega, by omega, for_range (n := kk) (fun j σ H' => ∃ q x5 x8 ras, σ = [some (.ref a), some (.ref d), some (.ref fo), some (.int (q : Nat)), some (.int p), x5, some (.ref nn), some (.ref rr), x8, x9] ∧ Same G H' ∧ H' rr = some (.lst (ras.map V.ref)) ∧
      q ≤ l.length ∧ pl < q ∧ ras.length = j ∧ (∀ (i : Nat) l', (xs.take j)[i]? = some l' → ∃ a', ras[i]? = some a' ∧ H' a' = some (.lst (ivs l')) ∧ G a' = none ∧ l'.length ≤ sizeLine) ∧ PyFlat.rows (kk - j) (l.drop q) = some (xs.drop j, t))
      ⟨pl + 1 + nn0, _, _, [], rfl, Same.upd hrr, upd_same, by omega, by omega, rfl, fun i l' h => by simp at h, ?_⟩ (fun j σ H3 hj ⟨q, x5, x8, ras, es, s3, h3, hq, hplq, hrl, hras, hrw⟩ => ?_) fun σ H3 ⟨q, x5, x8, ras, es, s3, h3, hq, hplq, hrl, hras, hrw⟩ => ?_⟩
    · rw [← List.drop_drop, hp2]
      exact hrows
    · subst es
      rw [show kk - j = (kk - (j + 1)) + 1 by omega] at hrw
      obtain ⟨cnt, r', ys, hd1, hd2, hd3, hd4⟩ := rows_succ hrw
      obtain ⟨g1, g2, g3⟩ := drop_cons hd1
      have hxj : xs[j]? = some (r'.take cnt) ∧ xs.drop (j + 1) = ys := by
        have hj2 : j < xs.length := by
          rcases Nat.lt_or_ge j xs.length with z | z
          · exact z
          · rw [List.drop_eq_nil_of_le z] at hd4
            cases hd4
        rw [List.drop_eq_getElem_cons hj2] at hd4
        obtain ⟨z1, z2⟩ := List.cons.inj hd4
        exact ⟨by rw [List.getElem?_eq_getElem hj2, z1], z2⟩
      have hR3 := hRG.kept fun o u e => s3 _ _ e
      refine ⟨_, rfl, _, _, rfl, rfl, ?_⟩
      refine ⟨_, rfl, _, rfl, _, rfl, a, _, _, V.int (cnt : Nat), rfl, rfl, hR3.sq, atI_nat (by rw [List.getElem?_map, g1]; rfl), _, _, rfl, rfl, ?_⟩
      refine ⟨_, rfl, .inl ⟨rfl, _, SqL.of h3⟩, _, rfl, _, rfl, _, rfl, _, rfl, _, rfl, a, _, rfl, hR3.sq, fun a' ha' => ?_⟩
      have ecut2 : cutV (ivs l) (some ((q : Int) + 1)) (some ((q : Int) + 1 + (cnt : Nat))) = ivs (r'.take cnt) := by
        have h := cut_mid l (q + 1) (q + 1 + cnt) (by omega) (by omega)
        rw [g2, show q + 1 + cnt - (q + 1) = cnt by omega] at h
        exact h
      generalize hG4 : L2.upd H3 a' _ = G4
      have ga' : G4 a' = some (.lst (ivs (r'.take cnt))) := by
        rw [← hG4, upd_same]
        exact congrArg (fun z => some (HO.lst z)) ecut2
      have s4 : Same H3 G4 := by
        rw [← hG4]
        exact Same.upd ha'
      clear hG4
      have na'r : a' ≠ rr := fun z => by
        rw [z, h3] at ha'
        cases ha'
      refine ⟨rr, _, _, rfl, rfl, s4 _ _ h3, by rw [List.length_map]; exact small (m := 1000) (by omega), q + 1 + cnt, _, _, ras ++ [a'], rfl, fun b o e => ?_, ?_, by omega, by omega, by rw [List.length_append, hrl]; rfl, fun i l' hi => ?_, ?_⟩
      · rw [upd_ne (ne_of_none e hrr)]
        exact s4 _ _ (s3 _ _ e)
      · rw [upd_same, List.map_append]
        rfl
      · rw [take_snoc hxj.1] at hi
        by_cases hij : i < j
        · have hxl : (xs.take j).length = j := by
            rw [List.length_take]
            have := (List.getElem?_eq_some_iff.mp hxj.1).1
            omega
          rw [List.getElem?_append_left (by omega)] at hi
          obtain ⟨b, h1, h2, h4, h5⟩ := hras i l' hi
          have nbr : b ≠ rr := fun z => by
            rw [z, h3] at h2
            have h2 := HO.lst.inj (Option.some.inj h2)
            cases ras with
            | nil => simp at h1
            | cons y ras =>
              cases l' with
              | nil => cases h2
              | cons => cases h2
          exact ⟨b, by rw [List.getElem?_append_left (by omega)]; exact h1, by rw [upd_ne nbr]; exact s4 _ _ h2, h4, h5⟩
        · have hxl : (xs.take j).length = j := by
            rw [List.length_take]
            have := (List.getElem?_eq_some_iff.mp hxj.1).1
            omega
          rw [List.getElem?_append_right (by omega), hxl] at hi
          cases hz : i - j with
          | succ z => rw [hz] at hi; simp at hi
          | zero =>
            rw [hz] at hi
            obtain rfl : r'.take cnt = l' := by simpa using hi
            refine ⟨a', ?_, by rw [upd_ne na'r]; exact ga', s3.free ha', ?_⟩
            · rw [List.getElem?_append_right (by omega), hrl, hz]
              rfl
            · rw [List.length_take]
              omega
      · rw [hxj.2]
        rw [← g2, List.drop_drop] at hd3
        exact hd3
    · subst es
      rw [Nat.sub_self] at hrw
      have hrw2 : xs.drop kk = [] ∧ l.drop q = t := by
        have h : some (([] : List (List Int)), l.drop q) = some (xs.drop kk, t) := hrw
        obtain ⟨e1, e2⟩ := Prod.mk.inj (Option.some.inj h)
        exact ⟨e1.symm, e2⟩
      have hxl : xs.length = kk := rows_count hrows
      rw [List.take_of_length_le (by omega)] at hras
      have s23 : Same H2 H3 := sG.trans s3
      have hD3 := hD2.same s23
      obtain ⟨dx3, hd3⟩ := hD3.obj
      have hfo3 := s23 _ _ hfo2
      refine ⟨_, rfl, d, dx3, _, rfl, hd3, rfl, _, rfl, _, rfl, _, rfl, d, la2, nn, rr, al2, bs2, m, p, r.take nn0, xs, ras, rfl, hD3, hT2.ext s23, hok2.1, s3 _ _ gnn, h3, ⟨by rw [hrl, hxl], fun i l' hi => ?_⟩, by rw [List.length_take, Nat.min_eq_left hnr, hxl]; exact hsh, fun H4 ans la4 al4 bs4 hD4 kp4 fr4 hans nans => ?_⟩
      · obtain ⟨b, h1, h2, h4, h5⟩ := hras i l' hi
        refine ⟨b, h1, h2, fun hm => ?_, h5⟩
        rcases daddr_kind hD2 b hm with ⟨_, _, _, z⟩ | ⟨_, z⟩
        · rw [sG _ _ z] at h4; cases h4
        · rw [sG _ _ z] at h4; cases h4
      · have hfo4 := kp4.n _ _ hfo3 lst_tbl nfo2
        have nfo4 : fo ∉ daddr d la4 al4 bs4 := fun hm => by
          rcases fr4 fo hm with z | z
          · exact nfo2 z
          · obtain ⟨ps, z⟩ := z _ hfo3
            cases z
        have naf : ans ≠ fo := fun e => by
          obtain ⟨ps, z⟩ := nans _ (by rw [e]; exact hfo3)
          cases z
        have estep : stepC m ((p :: r.take nn0) :: xs) = m.step p (r.take nn0) xs := rfl
        rw [show runD m (((p :: r.take nn0) :: xs) :: cs3) = ((m.step p (r.take nn0) xs).2.length : Int) :: (m.step p (r.take nn0) xs).2 ++ runD (m.step p (r.take nn0) xs).1 cs3 from rfl] at htot hacc
        have hlen4 : acc.length + 1 + (m.step p (r.take nn0) xs).2.length ≤ 10000000 := by
          rw [List.length_append, List.length_cons] at hacc
          omega
        refine ⟨_, rfl, .inl ⟨rfl, _, SqL.of hfo4⟩, _, rfl, ans, _, rfl, .inl (SqL.of hans), fo, _, _, rfl, rfl, hfo4, by rw [ivs_length]; omega, ?_⟩
        refine ⟨_, rfl, .inl ⟨rfl, _, SqL.of upd_same⟩, _, rfl, fo, ans, _, _, rfl, rfl, upd_same, by rw [upd_ne naf]; exact hans, ?_, ?_⟩
        · rw [List.length_append, ivs_length, ivs_length]
          show acc.length + 1 + _ ≤ _
          omega
        rw [upd_upd]
        generalize hG5 : L2.upd H4 fo _ = H5
        have h5fo : H5 fo = some (.lst (ivs (acc ++ (((m.step p (r.take nn0) xs).2.length : Int) :: (m.step p (r.take nn0) xs).2)))) := by
          rw [← hG5, upd_same, ivs_append, ivs_length]
          exact congrArg (fun z => some (HO.lst z)) (List.append_assoc ..)
        have b5 : But fo H4 H5 := by
          rw [← hG5]
          exact But.upd _ _ _
        clear hG5
        refine ⟨l.length - q, by omega, q, (m.step p (r.take nn0) xs).1, la4, al4, bs4, _, cs3, ff3, _, _, _, _, _, _, rfl, hq, rfl, hD4.keep fun b hb o e => b5 b o e (fun z => nfo4 (z ▸ hb)), ?_, h5fo, nfo4, ?_, by rw [hrw2.2]; exact hcs3, hok2.2, ?_⟩
        · exact tabs_but (F := fun b => b = fo) (kp4.t (hT2.ext s23)) (fun b hb => by rw [hb]; exact .inr (.inl ⟨_, hfo4⟩)) fun b o e hb => b5 b o e hb
        · refine hR2.kept fun o u e => ?_
          have e3 := s23 _ _ e
          have na : a ∉ daddr d la2 al2 bs2 := fun hm => by
            rcases daddr_kind hD2 a hm with ⟨_, _, _, z⟩ | ⟨_, z⟩
            · rw [e] at z; cases z
            · rw [e] at z; cases z
          refine b5 _ _ (kp4.n _ _ e3 (fun ps z => by cases z) na) fun z => ?_
          rw [z, hfo2] at e
          cases e
        · rw [← htot, List.append_assoc]
end
end ArW
end
section
set_option Elab.async false
set_option maxRecDepth 100000
set_option maxHeartbeats 4000000
/-! The plain law over the flat list: what the mirror's run gives is what the specification says. -/
namespace ArW
open Kg64
open Ar (absD absB absA absAs absD_none absD_some)

theorem flat_le {n : Nat} : ∀ (l : List (List Nat)), (∀ e ∈ l, e.length ≤ n) → l.flatten.length ≤ n * l.length
  | [], _ => Nat.zero_le _
  | e :: l, h => by
    rw [List.flatten_cons, List.length_append, List.length_cons, Nat.mul_succ]
    have h1 := h e List.mem_cons_self
    have h2 := flat_le l fun x hx => h x (List.mem_cons_of_mem _ hx)
    omega
theorem okD_of {s : State} (I : Ar.Inv s) : OkD (absD s) := by
  refine ⟨?_, fun y hy => ?_, fun bm hb => ?_, fun bm hb hd i hi => ?_⟩
  · show ((s.arrows : Nat) : Int) ≤ 100
    have := I.arr
    omega
  · obtain ⟨i, _, rfl⟩ := List.mem_map.mp hy
    show (whole (s.arrowsOf i)).length ≤ 100
    rw [Ar.whole_length]
    show ((s.scores.getD i []).flatten).length ≤ 100
    have hx : s.scores.getD i [] = [] ∨ s.scores.getD i [] ∈ s.scores := by
      rw [List.getD_eq_getElem?_getD]
      cases e : s.scores[i]? with
      | none => exact .inl rfl
      | some x => exact .inr (List.mem_of_getElem? e)
    rcases hx with hx | hx
    · rw [hx]
      decide
    · have h1 := I.shots _ hx
      have h2 := flat_le (n := 6) (s.scores.getD i []) fun e he => by rw [I.each _ hx e he]; exact I.arr
      have h3 := I.ends
      omega
  · by_cases hr : s.rounds = []
    · rw [absD_none hr] at hb
      cases hb
    · rw [absD_some hr] at hb
      cases hb
      obtain ⟨_, kp⟩ := I.cut hr
      obtain ⟨k, hk, hs⟩ := kp.r.shape
      have hl : (absB s).last.length = 2 ^ k := by rw [Ar.last_abs, List.length_map, hk]
      have hrl : (absB s).rounds.length = s.rounds.length := List.length_map ..
      refine ⟨by rw [hrl]; rcases hs with hs | ⟨_, hs, _⟩ <;> omega, ?_⟩
      rw [hl]
      cases k with
      | zero => exact .inl rfl
      | succ k => exact .inr ⟨2 ^ k, Nat.one_le_two_pow, Nat.pow_succ'⟩
  · by_cases hr : s.rounds = []
    · rw [absD_none hr] at hb
      cases hb
    · rw [absD_some hr] at hb
      cases hb
      have h1 := (List.mem_filter.mp hi).1
      obtain ⟨j, hj, rfl⟩ := List.mem_map.mp (show i ∈ s.inBracket.map fun (n : Nat) => (n : Int) from h1)
      have h2 : Ar.inR (s.rounds.headD []) j = true := (List.mem_filter.mp hj).2
      obtain ⟨_, _, h3, _⟩ := Ar.find_abs h2 hr
      rw [h3]
      rfl
/-- one call -/
theorem step_abs {s : State} (I : Ar.Inv s) {p : Int} {ns : List Int} {rows : List (List Int)} (h : PyKg64.shape p = some (ns.length, rows.length)) :
    (absD s).step p ns rows = (absD (Kg64Neutral.step s ((p :: ns) :: rows)).1, (Kg64Neutral.step s ((p :: ns) :: rows)).2) ∧ Ar.Inv (Kg64Neutral.step s ((p :: ns) :: rows)).1 := by
  rcases shape_is h with ⟨hc, hn, hk⟩ | ⟨hc, hn, hk⟩ | ⟨hc, hn, hk⟩ | ⟨hc, hn, hk⟩ | ⟨hc, hn, hk⟩ | ⟨hc, hn, hk⟩ | ⟨hc, hn, hk⟩ | ⟨hc, hn, hk⟩ | ⟨hc, hn, hk⟩ | ⟨hc, hn, hk⟩
  all_goals subst hc
  · obtain ⟨e, a, rfl⟩ := two hn
    obtain ⟨l, rfl⟩ := one hk
    exact Ar.begin_abs s I e a l
  · obtain ⟨i, rfl⟩ := one hn
    obtain ⟨l, rfl⟩ := one hk
    exact Ar.end_abs s I i l
  · obtain ⟨i, rfl⟩ := one hn
    obtain rfl := List.length_eq_zero_iff.mp hk
    obtain ⟨h1, h2⟩ := Ar.card_abs s i
    refine ⟨?_, by show Ar.Inv (spec s (.card i)).1; rw [h2]; exact I⟩
    show (absD s, (absD s).card i) = (absD (spec s (.card i)).1, _)
    rw [h2, h1]
    rfl
  · obtain rfl := List.length_eq_zero_iff.mp hn
    obtain rfl := List.length_eq_zero_iff.mp hk
    obtain ⟨h1, h2⟩ := Ar.ranking_abs s I
    refine ⟨?_, by show Ar.Inv (spec s .ranking).1; rw [h2]; exact I⟩
    show (absD s, (absD s).ranking) = (absD (spec s .ranking).1, _)
    rw [h2, h1]
    rfl
  · obtain rfl := List.length_eq_zero_iff.mp hn
    obtain rfl := List.length_eq_zero_iff.mp hk
    obtain ⟨h1, h2⟩ := Ar.clubs_abs s
    refine ⟨?_, by show Ar.Inv (spec s .clubs).1; rw [h2]; exact I⟩
    show (absD s, (absD s).clubs) = (absD (spec s .clubs).1, _)
    rw [h2, h1]
    rfl
  · obtain ⟨n, z, rfl⟩ := two hn
    obtain rfl := List.length_eq_zero_iff.mp hk
    exact Ar.cut_step s I n z
  · obtain rfl := List.length_eq_zero_iff.mp hn
    obtain rfl := List.length_eq_zero_iff.mp hk
    have h2 : (spec s .round).1 = s := rfl
    refine ⟨?_, by show Ar.Inv (spec s .round).1; rw [h2]; exact I⟩
    show (absD s).step 7 [] [] = (absD s, (spec s .round).2.value :: (spec s .round).2.out)
    by_cases hr : s.rounds = []
    · have hs : (spec s .round).2 = num (-2) := if_pos (by rw [hr]; rfl)
      rw [hs]
      unfold Ar.D.step
      rw [absD_none hr]
      rfl
    · obtain ⟨h1, _⟩ := Ar.round_abs s hr
      rw [← h1]
      unfold Ar.D.step
      rw [absD_some hr]
      rfl
  · obtain ⟨k, rfl⟩ := one hn
    obtain ⟨a, b, rfl⟩ := two hk
    show (absD s).step 8 [k] [a, b] = (absD (spec s (.shoot k a b)).1, (spec s (.shoot k a b)).2.value :: (spec s (.shoot k a b)).2.out) ∧ Ar.Inv (spec s (.shoot k a b)).1
    by_cases hr : s.rounds = []
    · have hs : spec s (.shoot k a b) = (s, num (-2)) := if_pos (by rw [hr]; rfl)
      rw [hs]
      refine ⟨?_, I⟩
      unfold Ar.D.step
      rw [absD_none hr]
      rfl
    · obtain ⟨h1, h2⟩ := Ar.shoot_abs s I hr k a b
      refine ⟨?_, h2⟩
      rw [← h1]
      unfold Ar.D.step
      rw [absD_some hr]
      rfl
  · obtain ⟨k, a, b, n, rfl⟩ := four hn
    obtain rfl := List.length_eq_zero_iff.mp hk
    show (absD s).step 9 [k, a, b, n] [] = (absD (spec s (.off k a b n)).1, (spec s (.off k a b n)).2.value :: (spec s (.off k a b n)).2.out) ∧ Ar.Inv (spec s (.off k a b n)).1
    by_cases hr : s.rounds = []
    · have hs : spec s (.off k a b n) = (s, num (-2)) := if_pos (by rw [hr]; rfl)
      rw [hs]
      refine ⟨?_, I⟩
      unfold Ar.D.step
      rw [absD_none hr]
      rfl
    · obtain ⟨h1, h2⟩ := Ar.off_abs' s I hr k a b n
      refine ⟨?_, h2⟩
      rw [← h1]
      unfold Ar.D.step
      rw [absD_some hr]
      rfl
  · obtain rfl := List.length_eq_zero_iff.mp hn
    obtain rfl := List.length_eq_zero_iff.mp hk
    have h2 : (spec s .places).1 = s := rfl
    refine ⟨?_, by show Ar.Inv (spec s .places).1; rw [h2]; exact I⟩
    show (absD s).step 10 [] [] = (absD s, (spec s .places).2.value :: (spec s .places).2.out)
    by_cases hr : s.rounds = []
    · have hs : (spec s .places).2 = num (-2) := if_pos (by rw [hr]; rfl)
      rw [hs]
      unfold Ar.D.step
      rw [absD_none hr]
      rfl
    · obtain ⟨h1, _⟩ := Ar.places_step s I hr
      rw [← h1]
      unfold Ar.D.step
      rw [absD_some hr]
      rfl
/-- calls of the shape -/
def Shaped (cs : List (List (List Int))) : Prop := ∀ c ∈ cs, ∃ p ns rows, c = (p :: ns) :: rows ∧ PyKg64.shape p = some (ns.length, rows.length)
theorem calls_shaped : ∀ {f : Nat} {l : List Int} {cs : List (List (List Int))}, PyFlat.calls PyKg64.shape f l = some cs → Shaped cs
  | f, [], cs, h => by
    rw [calls_nil h]
    intro c hc
    cases hc
  | 0, p :: r, cs, h => by cases h
  | f + 1, p :: r, cs, h => by
    unfold PyFlat.calls at h
    cases hc : PyFlat.call PyKg64.shape (p :: r) with
    | none => rw [hc] at h; cases h
    | some ct =>
      obtain ⟨c, t⟩ := ct
      rw [hc] at h
      cases hcs : PyFlat.calls PyKg64.shape f t with
      | none =>
        have h : (match PyFlat.calls PyKg64.shape f t with | none => none | some cs => some (c :: cs)) = some cs := h
        rw [hcs] at h
        cases h
      | some cs' =>
        have h : (match PyFlat.calls PyKg64.shape f t with | none => none | some cs => some (c :: cs)) = some cs := h
        rw [hcs] at h
        have h : c :: cs' = cs := Option.some.inj h
        have ih := calls_shaped hcs
        -- the first call by itself
        have h1 : PyFlat.calls PyKg64.shape (1 + 0) (p :: r) = none ∨ True := .inr trivial
        rw [← h]
        intro c0 hc0
        rcases List.mem_cons.mp hc0 with rfl | hc0
        · have hc : (match PyKg64.shape p with | none => none | some (n, k) => if r.length < n then none else match PyFlat.rows k (r.drop n) with | none => none | some (xs, t) => some ((p :: r.take n) :: xs, t)) = some (c0, t) := hc
          cases hs : PyKg64.shape p with
          | none => rw [hs] at hc; cases hc
          | some nk =>
            obtain ⟨n, k⟩ := nk
            rw [hs] at hc
            have hc : (if r.length < n then none else match PyFlat.rows k (r.drop n) with | none => none | some (xs, t) => some ((p :: r.take n) :: xs, t)) = some (c0, t) := hc
            by_cases hl : r.length < n
            · rw [if_pos hl] at hc
              cases hc
            · rw [if_neg hl] at hc
              cases hr : PyFlat.rows k (r.drop n) with
              | none => rw [hr] at hc; cases hc
              | some xt =>
                obtain ⟨xs, t'⟩ := xt
                rw [hr] at hc
                have hc : some ((p :: r.take n) :: xs, t') = some (c0, t) := hc
                cases hc
                refine ⟨p, r.take n, xs, rfl, ?_⟩
                rw [hs, List.length_take, Nat.min_eq_left (by omega), rows_count hr]
        · exact ih c0 hc0
theorem whole_id : ∀ c : List (List Int), PyKg64.whole c = c := fun c => by
  unfold PyKg64.whole
  split <;> rfl
theorem run_abs : ∀ (cs : List (List (List Int))) (s : State), Ar.Inv s → Shaped cs → AllOk (absD s) cs ∧ runD (absD s) cs = PyFlat.told (PyFlat.played Kg64Neutral.step s cs)
  | [], s, _, _ => ⟨trivial, rfl⟩
  | c :: cs, s, I, h => by
    obtain ⟨p, ns, rows, rfl, hs⟩ := h c List.mem_cons_self
    obtain ⟨h1, h2⟩ := step_abs I hs
    obtain ⟨h3, h4⟩ := run_abs cs _ h2 fun x hx => h x (List.mem_cons_of_mem _ hx)
    have e : stepC (absD s) ((p :: ns) :: rows) = (absD (Kg64Neutral.step s ((p :: ns) :: rows)).1, (Kg64Neutral.step s ((p :: ns) :: rows)).2) := h1
    refine ⟨⟨okD_of I, ?_⟩, ?_⟩
    · rw [e]
      exact h3
    · show (((stepC (absD s) ((p :: ns) :: rows)).2.length : Nat) : Int) :: (stepC (absD s) ((p :: ns) :: rows)).2 ++ runD (stepC (absD s) ((p :: ns) :: rows)).1 cs = _
      rw [e]
      show (_ :: _) ++ runD _ cs = _
      rw [h4]
      rfl
/-- THE PLAIN LAW -/
theorem answers_plain {l : List Int} (h : PyKg64.answers_asked l = true) : ∃ cs, PyFlat.calls PyKg64.shape l.length l = some cs ∧ AllOk Ar.D.start cs ∧ runD Ar.D.start cs = PyKg64.answers l ∧ (runD Ar.D.start cs).length ≤ 10000000 := by
  unfold PyKg64.answers_asked at h
  cases hc : PyFlat.calls PyKg64.shape l.length l with
  | none => rw [hc] at h; cases h
  | some cs =>
    rw [hc] at h
    have h : (!cs.isEmpty && PyFlat.atMost 200 cs && PyInside.calls PyKg64.bound cs && Kg64Neutral.asked (cs.map PyKg64.whole) && PyFlat.short 10000000 (PyKg64.answers l)) = true := h
    rw [Bool.and_eq_true] at h
    have hs : (PyKg64.answers l).length ≤ 10000000 := of_decide_eq_true h.2
    obtain ⟨h1, h2⟩ := run_abs cs Kg64.init Ar.inv_init (calls_shaped hc)
    have e : PyKg64.answers l = PyFlat.told (PyFlat.played Kg64Neutral.step Kg64Neutral.start cs) := by
      unfold PyKg64.answers PyKg64.calls
      rw [hc]
      show PyFlat.told (PyFlat.played Kg64Neutral.step Kg64Neutral.start (cs.map PyKg64.whole)) = _
      rw [show cs.map PyKg64.whole = cs from (List.map_congr_left fun c _ => whole_id c).trans (List.map_id cs)]
    refine ⟨cs, rfl, h1, ?_, ?_⟩
    · rw [e]
      exact h2
    · rw [show runD Ar.D.start cs = PyKg64.answers l by rw [e]; exact h2]
      exact hs
end ArW
end
section
set_option Elab.async false
set_option maxRecDepth 100000
set_option maxHeartbeats 4000000
/-! A Spec row's end where defs make lambdas: their code tables are tracked from the start. -/
namespace ArW
open PySem PySem.Spec PyProof.Rows L2 LamX
open PySem.W (WData WellAll ReadsW OpenSpec Codec)

/-- the area of the arguments, and the tables -/
def withT (H : Hp) (Ts : List Addr) : Hp := fun b => if b ∈ Ts then some (.tbl #[]) else H b
theorem withT_in {H : Hp} {Ts : List Addr} {b : Addr} (h : b ∈ Ts) : withT H Ts b = some (.tbl #[]) := if_pos h
theorem withT_out {H : Hp} {Ts : List Addr} {b : Addr} (h : b ∉ Ts) : withT H Ts b = H b := if_neg h
/-- the def at fa, called by a caller of Python -/
theorem call_tabs {P : Program} {w : World} {K : PySem.W.Frag} {mg mb : Str → Option Value} {k : Nat} {fa : Addr} {fd : FuncData} {ps : List Str} {sp : Sp} {s₁ : Shared} {vals : List Value} {ds : List WData} {R : PySem.W.WRecords} {cl : Str → Option Addr} {d0 : WData} {cs : List (Addr × Addr)}
    (KX : K.In s₁.heap) (gm : s₁.heap.Ns mainGlobals mg) (gb : s₁.heap.Ns builtinsNs mb) (gbb : ∀ x : Str, x ≠ "__name__" → mb x = bootBuiltins x) (glim : s₁.heap.NoLimit) (gg : s₁.gens = #[])
    (gbm : ∃ (bm : Addr) (ob : Obj), mg "__builtins__" = some (.ref bm) ∧ bm ≠ builtinsNs ∧ s₁.heap.get? bm = some ob ∧ ob.cls = .type "module" ∧ ob.dict = some builtinsNs ∧ ob.data = .plain)
    (tE : ∀ p ∈ cs, s₁.heap.get? p.2 = some { cls := .none, data := .fields #[] }) (tK : ∀ p ∈ cs, K.lookup p.2 = none) (tC : ∀ p ∈ cs, PySem.W.CodeHd s₁.heap p.1 p.2)
    (wl : WellAll w.params s₁.heap vals ds) (pl : plWs ds = true) (wt : ∀ d ∈ ds, d.weight ≤ 1048576) (hr : Room k callerA)
    (F : ∀ base : Heap, K.In base → base.Ns mainGlobals mg → (∀ p ∈ cs, TabB base mg p.1 p.2) → FnOk P w K mg base CX0 k fa fd ps sp) (hbind : ∀ (s : Shared) (us : List Value), us.length = ps.length → BindsTo s fd ⟨us, []⟩ (ps.zip us)) (hlen : ds.length = ps.length)
    (hsp : ∀ (H0 H : Hp) (xs : List V), OnlyF H0 → (∀ b o, H0 b = some o → H b = some o) → (∀ p ∈ cs, H p.2 = some (.tbl #[])) → DwAll K H0 xs ds → sp xs H (fun v H' => Dw K H' v d0) fun _ _ _ => False) :
    codeAny (model P w) callerA (.call (.ref fa) ⟨vals, []⟩) (fun r s' => ∃ u as, r = .ok (.ret u) ∧ ReadsW R cl s'.heap u d0 as ∧ OldK s₁.heap s'.heap ∧ s'.os = s₁.os ∧ AllBare s'.gens) s₁ := by
  obtain ⟨Ar0, okU, obs⟩ := area_all ds vals wl pl wt
  have only := argH_only (K := K) obs
  have hok0 : HOk P w (argH K s₁.heap Ar0) s₁.heap := argH_ok obs
  have dws := dw_all KX obs ds vals wl pl okU
  have vls := vals_toV okU
  have seqs : ∀ b u, argH K s₁.heap Ar0 b = some u → K.lookup b = none ∧ ∃ (c : Value) (vs : List Value), s₁.heap.get? b = some { cls := c, data := .seq vs.toArray } := fun b u q => by
    obtain ⟨h1, vs, _, _, ⟨e, _⟩ | ⟨e, _⟩⟩ := argH_is obs q
    · exact ⟨h1, _, vs, e⟩
    · exact ⟨h1, _, vs, e⟩
  generalize argH K s₁.heap Ar0 = H0 at only hok0 dws seqs
  let Ts : List Addr := cs.map fun p => p.2
  have inT : ∀ p ∈ cs, p.2 ∈ Ts := fun p hp => List.mem_map.mpr ⟨p, hp, rfl⟩
  have tabT : ∀ b, b ∈ Ts → s₁.heap.get? b = some { cls := .none, data := .fields #[] } := fun b hb => by
    obtain ⟨p, hp, rfl⟩ := List.mem_map.mp hb
    exact tE p hp
  have apart : ∀ b u, H0 b = some u → b ∉ Ts := fun b u q hb => by
    obtain ⟨_, c, vs, e⟩ := seqs b u q
    rw [tabT b hb] at e
    have e := congrArg Obj.data (Option.some.inj e)
    cases e
  have sub : ∀ b o, H0 b = some o → withT H0 Ts b = some o := fun b o q => by
    rw [withT_out (apart b o q)]
    exact q
  have hokT : HOk P w (withT H0 Ts) s₁.heap := fun b u q => by
    by_cases hb : b ∈ Ts
    · rw [withT_in hb] at q
      cases q
      exact tabT b hb
    · rw [withT_out hb] at q
      exact (hok0 b u q).stay (fun _ _ _ e => e) (fun a e => sub a _ e) fun a _ e => sub a _ e
  have whatT : ∀ b u, withT H0 Ts b = some u → (b ∈ Ts) ∨ ∃ o v, u = .frz o v ∧ H0 b = some (.frz o v) := fun b u q => by
    by_cases hb : b ∈ Ts
    · exact .inl hb
    · rw [withT_out hb] at q
      rcases only b with z | ⟨o, v, z⟩
      · rw [q] at z; cases z
      · rw [q] at z
        cases z
        exact .inr ⟨o, v, rfl, q⟩
  -- what isn't a list, tuple or table is of the base
  have untr : ∀ b o, s₁.heap.get? b = some o → (∀ vs n, o.data ≠ .seq vs n) → o.data ≠ .fields #[] → withT H0 Ts b = none := fun b o e n1 n2 => by
    cases q : withT H0 Ts b with
    | none => rfl
    | some u =>
      rcases whatT b u q with hb | ⟨_, _, _, h0⟩
      · rw [tabT b hb] at e
        cases e
        exact absurd rfl n2
      · obtain ⟨_, c, vs, e'⟩ := seqs b _ h0
        rw [e'] at e
        cases e
        exact absurd rfl (n1 _ _)
  have atB : ∀ b o, s₁.heap.get? b = some o → withT H0 Ts b = none → (hidT s₁.heap (withT H0 Ts)).get? b = some o := fun b o e n => hidT_get e n
  have nsB : ∀ b m, s₁.heap.Ns b m → (hidT s₁.heap (withT H0 Ts)).Ns b m := fun b m ⟨o, es, ep, e, d, r⟩ => ⟨o, es, ep, atB b o e (untr b o e (fun _ _ z => by rw [d] at z; cases z) fun z => by rw [d] at z; cases z), d, r⟩
  have KB : K.In (hidT s₁.heap (withT H0 Ts)) := fun b o e => atB b o (KX b o e) (by
    cases q : withT H0 Ts b with
    | none => rfl
    | some u =>
      rcases whatT b u q with hb | ⟨_, _, _, h0⟩
      · obtain ⟨p, hp, rfl⟩ := List.mem_map.mp hb
        rw [tK p hp] at e
        cases e
      · rw [(seqs b _ h0).1] at e
        cases e)
  have MB : Mod K mg (hidT s₁.heap (withT H0 Ts)) := ⟨KB, nsB _ _ gm, ⟨mb, nsB _ _ gb, gbb⟩, by
    obtain ⟨mc, l1, l2⟩ := glim
    exact ⟨mc, nsB _ _ l1, l2⟩⟩
  have tabsB : ∀ p ∈ cs, TabB (hidT s₁.heap (withT H0 Ts)) mg p.1 p.2 := fun p hp => by
    have e := tE p hp
    refine ⟨?_, ?_, fun z => ?_⟩
    · obtain ⟨o, us, file, tf, fl, tg, inF, tx, tt, e1, r1, r2, r3, r4, r5, r6, r7, r8, ne⟩ := tC p hp
      refine ⟨o, us, file, tf, fl, tg, inF, tx, tt, atB _ _ e1 (untr _ _ e1 (fun _ _ z => by rw [r2] at z; cases z) fun z => ?_), r1, r2, r3, r4, r5, r6, r7, r8, ne⟩
      rw [r2] at z
      cases z
      simp at r3
    · obtain ⟨bm, ob, q1, q2, q3, q4, q5, q6⟩ := gbm
      refine ⟨bm, ob, q1, q2, fun q => ?_, fun q => ?_, atB _ _ q3 (untr _ _ q3 (fun _ _ z => by rw [q6] at z; cases z) fun z => by rw [q6] at z; cases z), q4, q5, q6⟩
      · obtain ⟨o, es, ep, e', d, _⟩ := gm
        rw [q, e'] at q3
        cases q3
        rw [d] at q6
        cases q6
      · rw [q, e] at q3
        cases q3
        cases q6
    · obtain ⟨o, es, ep, e', d, _⟩ := gm
      rw [z, e] at e'
      cases e'
      cases d
  have env : Env0 P w K mg (hidT s₁.heap (withT H0 Ts)) callerA [] s₁ (withT H0 Ts) := ⟨rfl, MB, fun b o e => of_hidT e, Nat.le_of_eq (hidT_size _ _), trivial, fun b hb => absurd (show b ∈ ([] : List Addr) from hb) List.not_mem_nil, hokT, .of_eq gg⟩
  have ln : vals.length = ps.length := (wellAll_len wl).trans hlen
  refine codeAny_mono ((F _ KB (nsB _ _ gm) tabsB).run callerA [] s₁ (withT H0 Ts) ⟨vals, []⟩ vals (vals.map toV) _ _ hr env (hbind s₁ vals ln) vls (hsp H0 _ _ only sub (fun p hp => withT_in (inT p hp)) dws)) fun r s' x => ?_
  rcases r with e | fl
  · exact (show False from x).elim
  rcases fl with _ | _ | _ | u
  all_goals first | exact (show False from x).elim | skip
  obtain ⟨v, H', os, bare, un, hok', rv, q⟩ := x
  have old : ∀ b o, b ∉ Ts → s₁.heap.get? b = some o → s'.heap.get? b = some o := fun b o nb e => by
    cases q2 : withT H0 Ts b with
    | none => exact un.keep b o e q2 (fun z => absurd (show b ∈ ([] : List Addr) from z) List.not_mem_nil) List.not_mem_nil
    | some u2 =>
      rcases whatT b u2 q2 with hb | ⟨ob, u3, rfl, _⟩
      · exact absurd hb nb
      · obtain ⟨a1, _⟩ := hokT b _ q2
        obtain ⟨a2, _⟩ := hok' b _ (un.frzs b ob _ q2)
        rw [e] at a1
        cases a1
        exact a2
  have tabs' : ∀ p ∈ cs, ∃ more : Array Value, s'.heap.get? p.2 = some { cls := .none, data := .fields more } := fun p hp => by
    obtain ⟨more, z⟩ := un.tbls p.2 #[] (withT_in (inT p hp))
    exact ⟨_, hok' p.2 _ z⟩
  have KX' : K.In s'.heap := fun b o e => old b o (fun hb => by
    obtain ⟨p, hp, rfl⟩ := List.mem_map.mp hb
    rw [tK p hp] at e
    cases e) (KX b o e)
  obtain ⟨as, rd⟩ := Dw.reads (R := R) (cl := cl) hok' KX' d0 v u q rv
  refine ⟨u, as, rfl, rd, ⟨fun b o e => ?_, fun b o e => ?_⟩, os, bare⟩
  · by_cases hb : b ∈ Ts
    · obtain ⟨p, hp, rfl⟩ := List.mem_map.mp hb
      obtain ⟨more, hm⟩ := tabs' p hp
      rw [tE p hp] at e
      cases e
      refine .inr (.inl ⟨((tC p hp).tab (tE p hp)).isCodeTable, rfl, #[], more, rfl, ?_⟩)
      rw [Array.empty_append]
      exact hm
    · exact .inl (old b o hb e)
  · by_cases hb : b ∈ Ts
    · obtain ⟨p, hp, rfl⟩ := List.mem_map.mp hb
      obtain ⟨more, hm⟩ := tabs' p hp
      exact ⟨_, hm⟩
    · exact ⟨o, old b o hb e⟩
/-- the row's end over a head by facts -/
theorem walk_tabs {r : OpenSpec} {k : Nat} {q : Program} {loose : List Str} {XP : (Str → Option Value) → Heap → Prop} {YP : World → Heap → Prop} {d : DefRec} {ps : List Str} (well : r.wellSaid = true) (nodf : d.params.defaults = []) (hlen : r.args.length = ps.length) (hr : Room k callerA)
    (F : ∀ (w : World) (mg : Str → Option Value) (fa : Addr) (h : Heap), YP w h → h.Ns mainGlobals mg → mg d.name = some (.ref fa) →
      ∃ (K : PySem.W.Frag) (fd : FuncData) (sp : Sp) (cs : List (Addr × Addr)), K.In h ∧ (∀ p ∈ cs, h.get? p.2 = some { cls := .none, data := .fields #[] }) ∧ (∀ p ∈ cs, K.lookup p.2 = none) ∧ (∀ p ∈ cs, PySem.W.CodeHd h p.1 p.2) ∧
        (∀ (s : Shared) (us : List Value), us.length = ps.length → BindsTo s fd ⟨us, []⟩ (ps.zip us)) ∧
        (∀ (H0 H : Hp) (xs : List V) (a : Codec.denoteAll r.args), OnlyF H0 → (∀ b o, H0 b = some o → H b = some o) → (∀ p ∈ cs, H p.2 = some (.tbl #[])) → Codec.withinAll r.args a = true → Codec.app r.args r.asked a = true → DwAll K H0 xs (Codec.encAll r.args a) →
          sp xs H (fun v H' => Dw K H' v (r.ret.enc (Codec.app r.args r.f a))) fun _ _ _ => False) ∧
        ∀ base : Heap, K.In base → base.Ns mainGlobals mg → (∀ p ∈ cs, TabB base mg p.1 p.2) → FnOk r.prog w K mg base CX0 k fa fd ps sp) :
    PySem.W.WalkOS q loose XP YP r d [] (fun f vs => PySem.call f vs) := by
  intro w s₀ s₁ mg mb G Y fa o pm cd doc dV kV ho hd hcd hD hmg hg args vals as hpre hlay hrd hwl hlo
  obtain ⟨a, dec, asked⟩ := PySem.W.os_pre_some hpre
  obtain ⟨rfl, within⟩ := Codec.encAll_of_decAll r.args args a dec
  obtain ⟨K, fd, sp, cs, KX, tE, tK, tC, hb, hsp, hF⟩ := F w mg fa _ Y G.T.g hmg
  have step := call_tabs (R := []) (cl := classAt s₀.heap) (d0 := r.ret.enc (Codec.app r.args r.f a)) KX G.T.g G.T.b G.T.builtins G.T.nolimit hg G.T.bmain tE tK tC hwl (pl_encAll _ _) (layable_weight hlay) hr hF hb ((encAll_len _ _).trans hlen)
    fun H0 H xs z1 z2 z3 z4 => hsp H0 H xs a z1 z2 z3 within asked z4
  refine PySem.W.enter_call (codeAny_mono step fun r' s' ⟨u, as', er, h1, h2, h3, h4⟩ => ?_)
  subst er
  exact ⟨.inl ⟨u, _, as', rfl, fun _ => rfl, h1, (OpenSpec.post_iff well within _ _).mpr rfl, fun z => Bool.noConfusion (show false = true from z)⟩, h2, h3, h4⟩
end ArW
end
section
set_option Elab.async false
set_option maxRecDepth 100000
set_option maxHeartbeats 4000000
/-! The facts of the top that the walk leans on (written by gen_facts.py), and the walk over them. -/
namespace ArW
open PySem PySem.Spec PyProof.Rows L2 LamX
def faL : List He.Fa := [
  .int "INNER" (11),
  .int "TEN" (10),
  .int "BEST_OF_CLUB" (3),
  .int "NOBODY" (-1),
  .int "MOST_ENDS_matches" (5),
  .int "ENOUGH" (6),
  .int "MOST_ENDS_day" (12),
  .int "MOST_ARROWS" (6),
  .int "MOST_ARCHERS" (40),
  .int "HIGHEST_CLUB" (50),
  .int "MOST_SEATED" (32),
  .int "MATCH_ARROWS" (3),
  .int "WRONG" (-1),
  .free "min",
  .free "max",
  .free "sum",
  .free "len",
  .free "any",
  .free "all",
  .free "sorted",
  .free "range",
  .free "enumerate",
  .glo "points_of",
  .glo "sum_of",
  .glo "are_arrows",
  .glo "ranked",
  .glo "club_rows",
  .glo "set_points",
  .glo "seats",
  .glo "answers",
  .glo "NUMBER_COUNTS",
  .glo "ROW_COUNTS",
  .glo "Archer",
  .cls "Archer",
  .mkr "Archer",
  .noat "Archer" "number",
  .noat "Archer" "club",
  .noat "Archer" "ends_shot",
  .noat "Archer" "arrows",
  .meth "Archer" "take_end",
  .meth "Archer" "points",
  .meth "Archer" "tens",
  .meth "Archer" "inner_tens",
  .meth "Archer" "standing",
  .glo "Match",
  .cls "Match",
  .mkr "Match",
  .noat "Match" "first",
  .noat "Match" "second",
  .noat "Match" "by_sets",
  .noat "Match" "scores",
  .noat "Match" "ends_shot",
  .noat "Match" "winner",
  .meth "Match" "is_won",
  .meth "Match" "loser",
  .meth "Match" "is_alike",
  .meth "Match" "has",
  .meth "Match" "score_of",
  .meth "Match" "shoot",
  .meth "Match" "shoot_off",
  .meth "Match" "decide",
  .meth "Match" "state",
  .glo "Bracket",
  .cls "Bracket",
  .mkr "Bracket",
  .noat "Bracket" "by_sets",
  .noat "Bracket" "seated",
  .noat "Bracket" "rounds",
  .meth "Bracket" "at_rank",
  .meth "Bracket" "paired",
  .meth "Bracket" "last",
  .meth "Bracket" "is_last_of_all",
  .meth "Bracket" "is_done",
  .meth "Bracket" "go_on",
  .meth "Bracket" "last_match_of",
  .meth "Bracket" "places",
  .meth "Bracket" "standing",
  .glo "Day",
  .cls "Day",
  .mkr "Day",
  .noat "Day" "ends",
  .noat "Day" "arrow_count",
  .noat "Day" "archers",
  .noat "Day" "bracket",
  .meth "Day" "archer_at",
  .meth "Day" "begin",
  .meth "Day" "take_end",
  .meth "Day" "card",
  .meth "Day" "ranking",
  .meth "Day" "clubs",
  .meth "Day" "cut",
  .meth "Day" "told_round",
  .meth "Day" "match_at",
  .meth "Day" "shoot",
  .meth "Day" "shoot_off",
  .meth "Day" "after_shots",
  .meth "Day" "places",
  .meth "Day" "answer_to"]
def fnL : List He.DefD := [
  ⟨("points_of", none), "points_of", "points_of", defArgs (top 4), defBody (top 4), defScope (top 4), [], []⟩,
  ⟨("sum_of", none), "sum_of", "sum_of", defArgs (top 5), defBody (top 5), defScope (top 5), [], []⟩,
  ⟨("are_arrows", none), "are_arrows", "are_arrows", defArgs (top 6), defBody (top 6), defScope (top 6), [], []⟩,
  ⟨("ranked", none), "ranked", "ranked", defArgs (top 8), defBody (top 8), defScope (top 8), [], []⟩,
  ⟨("club_rows", none), "club_rows", "club_rows", defArgs (top 9), defBody (top 9), defScope (top 9), [], []⟩,
  ⟨("set_points", none), "set_points", "set_points", defArgs (top 15), defBody (top 15), defScope (top 15), [], []⟩,
  ⟨("seats", none), "seats", "seats", defArgs (top 16), defBody (top 16), defScope (top 16), [], []⟩,
  ⟨("answers", none), "answers", "answers", defArgs (top 29), defBody (top 29), defScope (top 29), [], []⟩,
  ⟨("Archer", some "__init__"), "__init__", "Archer.__init__", defArgs (inClass (top 7) 0), defBody (inClass (top 7) 0), defScope (inClass (top 7) 0), [], []⟩,
  ⟨("Archer", some "take_end"), "take_end", "Archer.take_end", defArgs (inClass (top 7) 1), defBody (inClass (top 7) 1), defScope (inClass (top 7) 1), [], []⟩,
  ⟨("Archer", some "points"), "points", "Archer.points", defArgs (inClass (top 7) 2), defBody (inClass (top 7) 2), defScope (inClass (top 7) 2), [], []⟩,
  ⟨("Archer", some "tens"), "tens", "Archer.tens", defArgs (inClass (top 7) 3), defBody (inClass (top 7) 3), defScope (inClass (top 7) 3), [], []⟩,
  ⟨("Archer", some "inner_tens"), "inner_tens", "Archer.inner_tens", defArgs (inClass (top 7) 4), defBody (inClass (top 7) 4), defScope (inClass (top 7) 4), [], []⟩,
  ⟨("Archer", some "standing"), "standing", "Archer.standing", defArgs (inClass (top 7) 5), defBody (inClass (top 7) 5), defScope (inClass (top 7) 5), [], []⟩,
  ⟨("Match", some "__init__"), "__init__", "Match.__init__", defArgs (inClass (top 14) 0), defBody (inClass (top 14) 0), defScope (inClass (top 14) 0), [], []⟩,
  ⟨("Match", some "is_won"), "is_won", "Match.is_won", defArgs (inClass (top 14) 1), defBody (inClass (top 14) 1), defScope (inClass (top 14) 1), [], []⟩,
  ⟨("Match", some "loser"), "loser", "Match.loser", defArgs (inClass (top 14) 2), defBody (inClass (top 14) 2), defScope (inClass (top 14) 2), [], []⟩,
  ⟨("Match", some "is_alike"), "is_alike", "Match.is_alike", defArgs (inClass (top 14) 3), defBody (inClass (top 14) 3), defScope (inClass (top 14) 3), [], []⟩,
  ⟨("Match", some "has"), "has", "Match.has", defArgs (inClass (top 14) 4), defBody (inClass (top 14) 4), defScope (inClass (top 14) 4), [], []⟩,
  ⟨("Match", some "score_of"), "score_of", "Match.score_of", defArgs (inClass (top 14) 5), defBody (inClass (top 14) 5), defScope (inClass (top 14) 5), [], []⟩,
  ⟨("Match", some "shoot"), "shoot", "Match.shoot", defArgs (inClass (top 14) 6), defBody (inClass (top 14) 6), defScope (inClass (top 14) 6), [], []⟩,
  ⟨("Match", some "shoot_off"), "shoot_off", "Match.shoot_off", defArgs (inClass (top 14) 7), defBody (inClass (top 14) 7), defScope (inClass (top 14) 7), [], []⟩,
  ⟨("Match", some "decide"), "decide", "Match.decide", defArgs (inClass (top 14) 8), defBody (inClass (top 14) 8), defScope (inClass (top 14) 8), [], []⟩,
  ⟨("Match", some "state"), "state", "Match.state", defArgs (inClass (top 14) 9), defBody (inClass (top 14) 9), defScope (inClass (top 14) 9), [], []⟩,
  ⟨("Bracket", some "__init__"), "__init__", "Bracket.__init__", defArgs (inClass (top 17) 0), defBody (inClass (top 17) 0), defScope (inClass (top 17) 0), [], []⟩,
  ⟨("Bracket", some "at_rank"), "at_rank", "Bracket.at_rank", defArgs (inClass (top 17) 1), defBody (inClass (top 17) 1), defScope (inClass (top 17) 1), [], []⟩,
  ⟨("Bracket", some "paired"), "paired", "Bracket.paired", defArgs (inClass (top 17) 2), defBody (inClass (top 17) 2), defScope (inClass (top 17) 2), [], []⟩,
  ⟨("Bracket", some "last"), "last", "Bracket.last", defArgs (inClass (top 17) 3), defBody (inClass (top 17) 3), defScope (inClass (top 17) 3), [], []⟩,
  ⟨("Bracket", some "is_last_of_all"), "is_last_of_all", "Bracket.is_last_of_all", defArgs (inClass (top 17) 4), defBody (inClass (top 17) 4), defScope (inClass (top 17) 4), [], []⟩,
  ⟨("Bracket", some "is_done"), "is_done", "Bracket.is_done", defArgs (inClass (top 17) 5), defBody (inClass (top 17) 5), defScope (inClass (top 17) 5), [], []⟩,
  ⟨("Bracket", some "go_on"), "go_on", "Bracket.go_on", defArgs (inClass (top 17) 6), defBody (inClass (top 17) 6), defScope (inClass (top 17) 6), [], []⟩,
  ⟨("Bracket", some "last_match_of"), "last_match_of", "Bracket.last_match_of", defArgs (inClass (top 17) 7), defBody (inClass (top 17) 7), defScope (inClass (top 17) 7), [], []⟩,
  ⟨("Bracket", some "places"), "places", "Bracket.places", defArgs (inClass (top 17) 8), defBody (inClass (top 17) 8), defScope (inClass (top 17) 8), [], []⟩,
  ⟨("Bracket", some "standing"), "standing", "Bracket.standing", defArgs (inClass (top 17) 9), defBody (inClass (top 17) 9), defScope (inClass (top 17) 9), [], []⟩,
  ⟨("Day", some "__init__"), "__init__", "Day.__init__", defArgs (inClass (top 28) 0), defBody (inClass (top 28) 0), defScope (inClass (top 28) 0), [], []⟩,
  ⟨("Day", some "archer_at"), "archer_at", "Day.archer_at", defArgs (inClass (top 28) 1), defBody (inClass (top 28) 1), defScope (inClass (top 28) 1), [], []⟩,
  ⟨("Day", some "begin"), "begin", "Day.begin", defArgs (inClass (top 28) 2), defBody (inClass (top 28) 2), defScope (inClass (top 28) 2), [], []⟩,
  ⟨("Day", some "take_end"), "take_end", "Day.take_end", defArgs (inClass (top 28) 3), defBody (inClass (top 28) 3), defScope (inClass (top 28) 3), [], []⟩,
  ⟨("Day", some "card"), "card", "Day.card", defArgs (inClass (top 28) 4), defBody (inClass (top 28) 4), defScope (inClass (top 28) 4), [], []⟩,
  ⟨("Day", some "ranking"), "ranking", "Day.ranking", defArgs (inClass (top 28) 5), defBody (inClass (top 28) 5), defScope (inClass (top 28) 5), [], []⟩,
  ⟨("Day", some "clubs"), "clubs", "Day.clubs", defArgs (inClass (top 28) 6), defBody (inClass (top 28) 6), defScope (inClass (top 28) 6), [], []⟩,
  ⟨("Day", some "cut"), "cut", "Day.cut", defArgs (inClass (top 28) 7), defBody (inClass (top 28) 7), defScope (inClass (top 28) 7), [], []⟩,
  ⟨("Day", some "told_round"), "told_round", "Day.told_round", defArgs (inClass (top 28) 8), defBody (inClass (top 28) 8), defScope (inClass (top 28) 8), [], []⟩,
  ⟨("Day", some "match_at"), "match_at", "Day.match_at", defArgs (inClass (top 28) 9), defBody (inClass (top 28) 9), defScope (inClass (top 28) 9), [], []⟩,
  ⟨("Day", some "shoot"), "shoot", "Day.shoot", defArgs (inClass (top 28) 10), defBody (inClass (top 28) 10), defScope (inClass (top 28) 10), [], []⟩,
  ⟨("Day", some "shoot_off"), "shoot_off", "Day.shoot_off", defArgs (inClass (top 28) 11), defBody (inClass (top 28) 11), defScope (inClass (top 28) 11), [], []⟩,
  ⟨("Day", some "after_shots"), "after_shots", "Day.after_shots", defArgs (inClass (top 28) 12), defBody (inClass (top 28) 12), defScope (inClass (top 28) 12), [], []⟩,
  ⟨("Day", some "places"), "places", "Day.places", defArgs (inClass (top 28) 13), defBody (inClass (top 28) 13), defScope (inClass (top 28) 13), [], []⟩,
  ⟨("Day", some "answer_to"), "answer_to", "Day.answer_to", defArgs (inClass (top 28) 14), defBody (inClass (top 28) 14), defScope (inClass (top 28) 14), [], []⟩]
def tfL : List He.Defn := [("ranked", none), ("Bracket", some "places")]
def exB (K : PySem.W.Frag) : Bool := He.tupB K "NUMBER_COUNTS" (nCounts.map He.Dv.int) && (He.tupB K "ROW_COUNTS" (rCounts.map He.Dv.int) && decide ((He.cT K ("ranked", none)).2 ≠ (He.cT K ("Bracket", some "places")).2))
/-- the tables, with the lambdas' names -/
def tabL (K : PySem.W.Frag) : List (Addr × Str) := [((He.cT K ("ranked", none)).2, "ranked.<locals>.<lambda>"), ((He.cT K ("Bracket", some "places")).2, "Bracket.places.<locals>.<lambda>")]
theorem fbinds {K : PySem.W.Frag} {x q : Str} {st : Stmt} {f : Addr} {fd : FuncData} {ps : List Str} (F : FnP K x q st f fd)
    (h : ∀ (kV doc pm : Value) (an : Option Addr) (cdv ct : Value) (us : List Value), us.length = ps.length → bindArgs (PySem.W.fnOf x q (defArgs st) (defBody st) (defScope st) .none kV doc pm an cdv ct) ⟨us, []⟩ = pure (ps.zip us)) : Binds K fd ps [] := by
  obtain ⟨oc, od, dV, kV, doc, pm, an, cdv, ct, osl, rfl, lk, hcd, hD, hK⟩ := F.ex
  rcases hD with ⟨_, rfl⟩ | ⟨ne, _⟩
  · exact Binds.all fun us hl => h kV doc pm an cdv ct us hl
  · exact absurd rfl ne
theorem lamAt {K : PySem.W.Frag} {base : Heap} {mg : Str → Option Value} {x q q2 : Str} {st : Stmt} {p : He.Defn} {fd : FuncData} {T : List (Addr × Str)} (F : FnP K x q st (He.fAd K p) fd) (tb : TabB base mg (He.cT K p).1 (He.cT K p).2) (h1 : ((He.cT K p).2, q2) ∈ T) (h2 : ∀ z ∈ T, z.1 = (He.cT K p).2 → z.2 = q2) : LamAt base mg fd T q2 := by
  obtain ⟨oc, od, dV, kV, doc, pm, an, cdv, ct, osl, rfl, lk, hcd, hD, hK⟩ := F.ex
  obtain ⟨c, rfl⟩ := He.codeIn_ref hcd
  have e : He.codeOf K p = c := He.codeOf_eq lk rfl
  refine ⟨c, (He.cT K p).2, rfl, ?_, h1, h2⟩
  rw [← e]
  exact tb
section
variable {P : Program} {w : World} {K : PySem.W.Frag} {mg : Str → Option Value} {base h : Heap}
/-- the promise of answers -/
theorem top_ok (s : He.SaysD faL fnL K) (ex : exB K = true) (X : K.In h) (N : h.Ns mainGlobals mg) (tb : ∀ p ∈ tfL, TabB base mg (He.cT K p).1 (He.cT K p).2) {fd0 : FuncData} (F0 : FnP K "answers" "answers" (top 29) (He.ga K "answers") fd0) : FnOk P w K mg base CX0 12 (He.ga K "answers") fd0 ["calls"] (spAns K (tabL K)) := by
  have fac : ∀ f : He.Fa, f ∈ faL → f.ok K = true := fun f hf => s.facts hf
  obtain ⟨ex1, ex⟩ := He.ba ex
  obtain ⟨ex2, ex3⟩ := He.ba ex
  have ne : (He.cT K ("ranked", none)).2 ≠ (He.cT K ("Bracket", some "places")).2 := of_decide_eq_true ex3
  have fa : ∀ i (f : He.Fa), faL[i]? = some f → f.ok K = true := fun i f hf => s.fact i hf
  have B : TB mg := ⟨He.int_ok X N (fa 0 _ rfl), He.int_ok X N (fa 1 _ rfl), He.int_ok X N (fa 2 _ rfl), He.int_ok X N (fa 3 _ rfl), He.int_ok X N (fa 4 _ rfl), He.int_ok X N (fa 5 _ rfl), He.int_ok X N (fa 6 _ rfl), He.int_ok X N (fa 7 _ rfl), He.int_ok X N (fa 8 _ rfl), He.int_ok X N (fa 9 _ rfl), He.int_ok X N (fa 10 _ rfl), He.int_ok X N (fa 11 _ rfl), He.int_ok X N (fa 12 _ rfl),
    He.free_ok X N (fa 13 _ rfl), He.free_ok X N (fa 14 _ rfl), He.free_ok X N (fa 15 _ rfl), He.free_ok X N (fa 16 _ rfl), He.free_ok X N (fa 17 _ rfl), He.free_ok X N (fa 18 _ rfl), He.free_ok X N (fa 19 _ rfl), He.free_ok X N (fa 20 _ rfl), He.free_ok X N (fa 21 _ rfl)⟩
  have BC : TBC K mg := ⟨⟨_, He.glo_ok X N (fa 30 _ rfl), fun H => He.tupB_ok ex1 H⟩, ⟨_, He.glo_ok X N (fa 31 _ rfl), fun H => He.tupB_ok ex2 H⟩⟩
  have ca : CA K (He.ga K "Archer") := ⟨He.cls_ok (fa 33 _ rfl), He.noat_ok (fa 35 _ rfl), He.noat_ok (fa 36 _ rfl), He.noat_ok (fa 37 _ rfl), He.noat_ok (fa 38 _ rfl)⟩
  have cm : CM K (He.ga K "Match") := ⟨He.cls_ok (fa 45 _ rfl), He.noat_ok (fa 47 _ rfl), He.noat_ok (fa 48 _ rfl), He.noat_ok (fa 49 _ rfl), He.noat_ok (fa 50 _ rfl), He.noat_ok (fa 51 _ rfl), He.noat_ok (fa 52 _ rfl)⟩
  have cb : CB K (He.ga K "Bracket") := ⟨He.cls_ok (fa 63 _ rfl), He.noat_ok (fa 65 _ rfl), He.noat_ok (fa 66 _ rfl), He.noat_ok (fa 67 _ rfl)⟩
  have cd : CDy K (He.ga K "Day") := ⟨He.cls_ok (fa 78 _ rfl), He.noat_ok (fa 80 _ rfl), He.noat_ok (fa 81 _ rfl), He.noat_ok (fa 82 _ rfl), He.noat_ok (fa 83 _ rfl)⟩
  let c4 : C4 := ⟨(He.ga K "Archer"), (He.ga K "Bracket"), (He.ga K "Match"), (He.ga K "Day")⟩
  obtain ⟨fd_gPts, F_gPts⟩ : ∃ fd, FnP K "points_of" "points_of" (top 4) (He.ga K "points_of") fd := s.def_ 0
  have gPts : GF P w K mg base "points_of" 1 ["arrow"] spPts := ⟨_, _, ok_pts F_gPts B, He.glo_ok X N (fa 22 _ rfl), F_gPts.kp, (fbinds F_gPts fun _ _ _ _ _ _ us hl => match us, hl with | [_], _ => rfl)⟩
  obtain ⟨fd_gSum, F_gSum⟩ : ∃ fd, FnP K "sum_of" "sum_of" (top 5) (He.ga K "sum_of") fd := s.def_ 1
  have gSum : GF P w K mg base "sum_of" 2 ["arrows"] (spSum K) := ⟨_, _, ok_sum F_gSum B gPts, He.glo_ok X N (fa 23 _ rfl), F_gSum.kp, (fbinds F_gSum fun _ _ _ _ _ _ us hl => match us, hl with | [_], _ => rfl)⟩
  obtain ⟨fd_gAre, F_gAre⟩ : ∃ fd, FnP K "are_arrows" "are_arrows" (top 6) (He.ga K "are_arrows") fd := s.def_ 2
  have gAre : GF P w K mg base "are_arrows" 1 ["arrows", "count"] (spAre K) := ⟨_, _, ok_are F_gAre B, He.glo_ok X N (fa 24 _ rfl), F_gAre.kp, (fbinds F_gAre fun _ _ _ _ _ _ us hl => match us, hl with | [_, _], _ => rfl)⟩
  obtain ⟨fd_aI, F_aI⟩ : ∃ fd, FnP K "__init__" "Archer.__init__" (inClass (top 7) 0) (He.ma K (He.ga K "Archer") "__init__") fd := s.def_ 8
  have aI : CF P w K mg base "Archer" (He.ga K "Archer") 1 ["self", "number", "club"] (spAInit (He.ga K "Archer")) := ⟨_, _, ok_ainit F_aI ca, He.mkr_ok (fa 34 _ rfl), He.glo_ok X N (fa 32 _ rfl), (fbinds F_aI fun _ _ _ _ _ _ us hl => match us, hl with | [_, _, _], _ => rfl)⟩
  obtain ⟨fd_aTake, F_aTake⟩ : ∃ fd, FnP K "take_end" "Archer.take_end" (inClass (top 7) 1) (He.ma K (He.ga K "Archer") "take_end") fd := s.def_ 9
  have aTake : MF P w K mg base (He.ga K "Archer") "take_end" 1 ["self", "arrows"] (spATake (He.ga K "Archer")) := ⟨_, _, ok_atake F_aTake ca, He.meth_ok (fa 39 _ rfl), (fbinds F_aTake fun _ _ _ _ _ _ us hl => match us, hl with | [_, _], _ => rfl)⟩
  obtain ⟨fd_aPts, F_aPts⟩ : ∃ fd, FnP K "points" "Archer.points" (inClass (top 7) 2) (He.ma K (He.ga K "Archer") "points") fd := s.def_ 10
  have aPts : MF P w K mg base (He.ga K "Archer") "points" 3 ["self"] (spARead (He.ga K "Archer") Ar.A.points) := ⟨_, _, ok_apoints F_aPts ca gSum, He.meth_ok (fa 40 _ rfl), (fbinds F_aPts fun _ _ _ _ _ _ us hl => match us, hl with | [_], _ => rfl)⟩
  obtain ⟨fd_aTens, F_aTens⟩ : ∃ fd, FnP K "tens" "Archer.tens" (inClass (top 7) 3) (He.ma K (He.ga K "Archer") "tens") fd := s.def_ 11
  have aTens : MF P w K mg base (He.ga K "Archer") "tens" 1 ["self"] (spARead (He.ga K "Archer") Ar.A.tens) := ⟨_, _, ok_atens F_aTens ca B, He.meth_ok (fa 41 _ rfl), (fbinds F_aTens fun _ _ _ _ _ _ us hl => match us, hl with | [_], _ => rfl)⟩
  obtain ⟨fd_aInner, F_aInner⟩ : ∃ fd, FnP K "inner_tens" "Archer.inner_tens" (inClass (top 7) 4) (He.ma K (He.ga K "Archer") "inner_tens") fd := s.def_ 12
  have aInner : MF P w K mg base (He.ga K "Archer") "inner_tens" 1 ["self"] (spARead (He.ga K "Archer") Ar.A.inner) := ⟨_, _, ok_ainner F_aInner ca B, He.meth_ok (fa 42 _ rfl), (fbinds F_aInner fun _ _ _ _ _ _ us hl => match us, hl with | [_], _ => rfl)⟩
  obtain ⟨fd_aStand, F_aStand⟩ : ∃ fd, FnP K "standing" "Archer.standing" (inClass (top 7) 5) (He.ma K (He.ga K "Archer") "standing") fd := s.def_ 13
  have aStand : MF P w K mg base (He.ga K "Archer") "standing" 4 ["self"] (spAStand (He.ga K "Archer")) := ⟨_, _, ok_astand F_aStand ca aPts aTens aInner, He.meth_ok (fa 43 _ rfl), (fbinds F_aStand fun _ _ _ _ _ _ us hl => match us, hl with | [_], _ => rfl)⟩
  obtain ⟨fd_gRk, F_gRk⟩ : ∃ fd, FnP K "ranked" "ranked" (top 8) (He.ga K "ranked") fd := s.def_ 3
  have l1 : LamAt base mg fd_gRk (tabL K) "ranked.<locals>.<lambda>" := lamAt (p := ("ranked", none)) F_gRk (tb _ (by simp [tfL])) List.mem_cons_self fun z hz e => by
    rcases List.mem_cons.mp hz with rfl | hz
    · rfl
    · rcases List.mem_cons.mp hz with rfl | hz
      · exact absurd e.symm ne
      · cases hz
  have gRk : GF P w K mg base "ranked" 8 ["archers"] (spRanked (He.ga K "Archer") (tabL K)) := ⟨_, _, ok_ranked F_gRk ca l1 B aStand, He.glo_ok X N (fa 25 _ rfl), F_gRk.kp, (fbinds F_gRk fun _ _ _ _ _ _ us hl => match us, hl with | [_], _ => rfl)⟩
  obtain ⟨fd_gClubs, F_gClubs⟩ : ∃ fd, FnP K "club_rows" "club_rows" (top 9) (He.ga K "club_rows") fd := s.def_ 4
  have gClubs : GF P w K mg base "club_rows" 4 ["archers"] (spClubs (He.ga K "Archer")) := ⟨_, _, ok_clubs F_gClubs ca B aPts, He.glo_ok X N (fa 26 _ rfl), F_gClubs.kp, (fbinds F_gClubs fun _ _ _ _ _ _ us hl => match us, hl with | [_], _ => rfl)⟩
  obtain ⟨fd_gSetP, F_gSetP⟩ : ∃ fd, FnP K "set_points" "set_points" (top 15) (He.ga K "set_points") fd := s.def_ 5
  have gSetP : GF P w K mg base "set_points" 1 ["left", "right"] spSetP := ⟨_, _, ok_setp F_gSetP, He.glo_ok X N (fa 27 _ rfl), F_gSetP.kp, (fbinds F_gSetP fun _ _ _ _ _ _ us hl => match us, hl with | [_, _], _ => rfl)⟩
  obtain ⟨fd_gSeats, F_gSeats⟩ : ∃ fd, FnP K "seats" "seats" (top 16) (He.ga K "seats") fd := s.def_ 6
  have gSeats : GF P w K mg base "seats" 1 ["count"] spSeats := ⟨_, _, ok_seats F_gSeats B, He.glo_ok X N (fa 28 _ rfl), F_gSeats.kp, (fbinds F_gSeats fun _ _ _ _ _ _ us hl => match us, hl with | [_], _ => rfl)⟩
  obtain ⟨fd_mI, F_mI⟩ : ∃ fd, FnP K "__init__" "Match.__init__" (inClass (top 14) 0) (He.ma K (He.ga K "Match") "__init__") fd := s.def_ 14
  have mI : CF P w K mg base "Match" (He.ga K "Match") 1 ["self", "first", "second", "by_sets"] (spMInit (He.ga K "Match")) := ⟨_, _, ok_minit F_mI cm B, He.mkr_ok (fa 46 _ rfl), He.glo_ok X N (fa 44 _ rfl), (fbinds F_mI fun _ _ _ _ _ _ us hl => match us, hl with | [_, _, _, _], _ => rfl)⟩
  obtain ⟨fd_mWon, F_mWon⟩ : ∃ fd, FnP K "is_won" "Match.is_won" (inClass (top 14) 1) (He.ma K (He.ga K "Match") "is_won") fd := s.def_ 15
  have mWon : MF P w K mg base (He.ga K "Match") "is_won" 1 ["self"] (spMRead (He.ga K "Match") fun m => .bl m.won) := ⟨_, _, ok_mwon F_mWon cm B, He.meth_ok (fa 53 _ rfl), (fbinds F_mWon fun _ _ _ _ _ _ us hl => match us, hl with | [_], _ => rfl)⟩
  obtain ⟨fd_mLoser, F_mLoser⟩ : ∃ fd, FnP K "loser" "Match.loser" (inClass (top 14) 2) (He.ma K (He.ga K "Match") "loser") fd := s.def_ 16
  have mLoser : MF P w K mg base (He.ga K "Match") "loser" 1 ["self"] (spMRead (He.ga K "Match") fun m => .int m.loser) := ⟨_, _, ok_mloser F_mLoser cm, He.meth_ok (fa 54 _ rfl), (fbinds F_mLoser fun _ _ _ _ _ _ us hl => match us, hl with | [_], _ => rfl)⟩
  obtain ⟨fd_mAlike, F_mAlike⟩ : ∃ fd, FnP K "is_alike" "Match.is_alike" (inClass (top 14) 3) (He.ma K (He.ga K "Match") "is_alike") fd := s.def_ 17
  have mAlike : MF P w K mg base (He.ga K "Match") "is_alike" 2 ["self"] (spMRead (He.ga K "Match") fun m => .bl m.alike) := ⟨_, _, ok_malike F_mAlike cm B mWon, He.meth_ok (fa 55 _ rfl), (fbinds F_mAlike fun _ _ _ _ _ _ us hl => match us, hl with | [_], _ => rfl)⟩
  obtain ⟨fd_mHas, F_mHas⟩ : ∃ fd, FnP K "has" "Match.has" (inClass (top 14) 4) (He.ma K (He.ga K "Match") "has") fd := s.def_ 18
  have mHas : MF P w K mg base (He.ga K "Match") "has" 1 ["self", "archer"] (spMRead1 (He.ga K "Match") fun m i => .bl (m.has i)) := ⟨_, _, ok_mhas F_mHas cm, He.meth_ok (fa 56 _ rfl), (fbinds F_mHas fun _ _ _ _ _ _ us hl => match us, hl with | [_, _], _ => rfl)⟩
  obtain ⟨fd_mScore, F_mScore⟩ : ∃ fd, FnP K "score_of" "Match.score_of" (inClass (top 14) 5) (He.ma K (He.ga K "Match") "score_of") fd := s.def_ 19
  have mScore : MF P w K mg base (He.ga K "Match") "score_of" 1 ["self", "archer"] (spMRead1 (He.ga K "Match") fun m i => .int (m.scoreOf i)) := ⟨_, _, ok_mscore F_mScore cm, He.meth_ok (fa 57 _ rfl), (fbinds F_mScore fun _ _ _ _ _ _ us hl => match us, hl with | [_, _], _ => rfl)⟩
  obtain ⟨fd_mDecide, F_mDecide⟩ : ∃ fd, FnP K "decide" "Match.decide" (inClass (top 14) 8) (He.ma K (He.ga K "Match") "decide") fd := s.def_ 22
  have mDecide : MF P w K mg base (He.ga K "Match") "decide" 1 ["self", "difference"] (spMDecide (He.ga K "Match")) := ⟨_, _, ok_mdecide F_mDecide cm, He.meth_ok (fa 60 _ rfl), (fbinds F_mDecide fun _ _ _ _ _ _ us hl => match us, hl with | [_, _], _ => rfl)⟩
  obtain ⟨fd_mState, F_mState⟩ : ∃ fd, FnP K "state" "Match.state" (inClass (top 14) 9) (He.ma K (He.ga K "Match") "state") fd := s.def_ 23
  have mState : MF P w K mg base (He.ga K "Match") "state" 1 ["self"] (spMState (He.ga K "Match")) := ⟨_, _, ok_mstate F_mState cm, He.meth_ok (fa 61 _ rfl), (fbinds F_mState fun _ _ _ _ _ _ us hl => match us, hl with | [_], _ => rfl)⟩
  obtain ⟨fd_mShoot, F_mShoot⟩ : ∃ fd, FnP K "shoot" "Match.shoot" (inClass (top 14) 6) (He.ma K (He.ga K "Match") "shoot") fd := s.def_ 20
  have mShoot : MF P w K mg base (He.ga K "Match") "shoot" 3 ["self", "first_arrows", "second_arrows"] (spMShoot K (He.ga K "Match")) := ⟨_, _, ok_mshoot F_mShoot cm B gSum gSetP mDecide, He.meth_ok (fa 58 _ rfl), (fbinds F_mShoot fun _ _ _ _ _ _ us hl => match us, hl with | [_, _, _], _ => rfl)⟩
  obtain ⟨fd_mOff, F_mOff⟩ : ∃ fd, FnP K "shoot_off" "Match.shoot_off" (inClass (top 14) 7) (He.ma K (He.ga K "Match") "shoot_off") fd := s.def_ 21
  have mOff : MF P w K mg base (He.ga K "Match") "shoot_off" 2 ["self", "left", "right", "nearer"] (spMOff (He.ga K "Match")) := ⟨_, _, ok_moff F_mOff cm B gPts mDecide, He.meth_ok (fa 59 _ rfl), (fbinds F_mOff fun _ _ _ _ _ _ us hl => match us, hl with | [_, _, _, _], _ => rfl)⟩
  obtain ⟨fd_bRank, F_bRank⟩ : ∃ fd, FnP K "at_rank" "Bracket.at_rank" (inClass (top 17) 1) (He.ma K (He.ga K "Bracket") "at_rank") fd := s.def_ 25
  have bRank : MF P w K mg base (He.ga K "Bracket") "at_rank" 1 ["self", "rank"] (spBRank (He.ga K "Bracket")) := ⟨_, _, ok_brank F_bRank cb B, He.meth_ok (fa 68 _ rfl), (fbinds F_bRank fun _ _ _ _ _ _ us hl => match us, hl with | [_, _], _ => rfl)⟩
  obtain ⟨fd_bPaired, F_bPaired⟩ : ∃ fd, FnP K "paired" "Bracket.paired" (inClass (top 17) 2) (He.ma K (He.ga K "Bracket") "paired") fd := s.def_ 26
  have bPaired : MF P w K mg base (He.ga K "Bracket") "paired" 3 ["self", "archers"] (spBPaired K (He.ga K "Bracket") (He.ga K "Match")) := ⟨_, _, ok_bpaired F_bPaired cb B mI, He.meth_ok (fa 69 _ rfl), (fbinds F_bPaired fun _ _ _ _ _ _ us hl => match us, hl with | [_, _], _ => rfl)⟩
  obtain ⟨fd_bLast, F_bLast⟩ : ∃ fd, FnP K "last" "Bracket.last" (inClass (top 17) 3) (He.ma K (He.ga K "Bracket") "last") fd := s.def_ 27
  have bLast : MF P w K mg base (He.ga K "Bracket") "last" 1 ["self"] (spBLast (He.ga K "Bracket")) := ⟨_, _, ok_blast F_bLast cb, He.meth_ok (fa 70 _ rfl), (fbinds F_bLast fun _ _ _ _ _ _ us hl => match us, hl with | [_], _ => rfl)⟩
  obtain ⟨fd_bAll, F_bAll⟩ : ∃ fd, FnP K "is_last_of_all" "Bracket.is_last_of_all" (inClass (top 17) 4) (He.ma K (He.ga K "Bracket") "is_last_of_all") fd := s.def_ 28
  have bAll : MF P w K mg base (He.ga K "Bracket") "is_last_of_all" 2 ["self"] (spBRead (He.ga K "Bracket") (He.ga K "Match") fun m => .bl m.lastOfAll) := ⟨_, _, ok_ballof F_bAll cb B bLast, He.meth_ok (fa 71 _ rfl), (fbinds F_bAll fun _ _ _ _ _ _ us hl => match us, hl with | [_], _ => rfl)⟩
  obtain ⟨fd_bDone, F_bDone⟩ : ∃ fd, FnP K "is_done" "Bracket.is_done" (inClass (top 17) 5) (He.ma K (He.ga K "Bracket") "is_done") fd := s.def_ 29
  have bDone : MF P w K mg base (He.ga K "Bracket") "is_done" 3 ["self"] (spBRead (He.ga K "Bracket") (He.ga K "Match") fun m => .bl m.done) := ⟨_, _, ok_bdone F_bDone cb cm B bLast bAll mWon, He.meth_ok (fa 72 _ rfl), (fbinds F_bDone fun _ _ _ _ _ _ us hl => match us, hl with | [_], _ => rfl)⟩
  obtain ⟨fd_bI, F_bI⟩ : ∃ fd, FnP K "__init__" "Bracket.__init__" (inClass (top 17) 0) (He.ma K (He.ga K "Bracket") "__init__") fd := s.def_ 24
  have bI : CF P w K mg base "Bracket" (He.ga K "Bracket") 4 ["self", "seated", "by_sets"] (spBInit (He.ga K "Bracket") (He.ga K "Match")) := ⟨_, _, ok_binit F_bI cb B gSeats bRank bPaired, He.mkr_ok (fa 64 _ rfl), He.glo_ok X N (fa 62 _ rfl), (fbinds F_bI fun _ _ _ _ _ _ us hl => match us, hl with | [_, _, _], _ => rfl)⟩
  obtain ⟨fd_bGo, F_bGo⟩ : ∃ fd, FnP K "go_on" "Bracket.go_on" (inClass (top 17) 6) (He.ma K (He.ga K "Bracket") "go_on") fd := s.def_ 30
  have bGo : MF P w K mg base (He.ga K "Bracket") "go_on" 4 ["self"] (spBGo (He.ga K "Bracket") (He.ga K "Match")) := ⟨_, _, ok_bgo F_bGo cb cm B bLast bAll mWon mLoser bPaired, He.meth_ok (fa 73 _ rfl), (fbinds F_bGo fun _ _ _ _ _ _ us hl => match us, hl with | [_], _ => rfl)⟩
  obtain ⟨fd_bFind, F_bFind⟩ : ∃ fd, FnP K "last_match_of" "Bracket.last_match_of" (inClass (top 17) 7) (He.ma K (He.ga K "Bracket") "last_match_of") fd := s.def_ 31
  have bFind : MF P w K mg base (He.ga K "Bracket") "last_match_of" 2 ["self", "archer"] (spBFind (He.ga K "Bracket") (He.ga K "Match")) := ⟨_, _, ok_bfind F_bFind cb cm B mHas, He.meth_ok (fa 74 _ rfl), (fbinds F_bFind fun _ _ _ _ _ _ us hl => match us, hl with | [_, _], _ => rfl)⟩
  obtain ⟨fd_bStand, F_bStand⟩ : ∃ fd, FnP K "standing" "Bracket.standing" (inClass (top 17) 9) (He.ma K (He.ga K "Bracket") "standing") fd := s.def_ 33
  have bStand : MF P w K mg base (He.ga K "Bracket") "standing" 3 ["self", "archer"] (spBStand (He.ga K "Bracket") (He.ga K "Match")) := ⟨_, _, ok_bstand F_bStand cb cm bFind mScore, He.meth_ok (fa 76 _ rfl), (fbinds F_bStand fun _ _ _ _ _ _ us hl => match us, hl with | [_, _], _ => rfl)⟩
  obtain ⟨fd_bPl, F_bPl⟩ : ∃ fd, FnP K "places" "Bracket.places" (inClass (top 17) 8) (He.ma K (He.ga K "Bracket") "places") fd := s.def_ 32
  have l2 : LamAt base mg fd_bPl (tabL K) "Bracket.places.<locals>.<lambda>" := lamAt (p := ("Bracket", some "places")) F_bPl (tb _ (by simp [tfL])) (List.mem_cons_of_mem _ List.mem_cons_self) fun z hz e => by
    rcases List.mem_cons.mp hz with rfl | hz
    · exact absurd e ne
    · rcases List.mem_cons.mp hz with rfl | hz
      · rfl
      · cases hz
  have bPl : MF P w K mg base (He.ga K "Bracket") "places" 7 ["self"] (spBPlaces (He.ga K "Bracket") (He.ga K "Match") (tabL K)) := ⟨_, _, ok_bplaces F_bPl cb cm l2 B bLast mLoser bStand, He.meth_ok (fa 75 _ rfl), (fbinds F_bPl fun _ _ _ _ _ _ us hl => match us, hl with | [_], _ => rfl)⟩
  obtain ⟨fd_dI, F_dI⟩ : ∃ fd, FnP K "__init__" "Day.__init__" (inClass (top 28) 0) (He.ma K (He.ga K "Day") "__init__") fd := s.def_ 34
  have dI : CF P w K mg base "Day" (He.ga K "Day") 1 ["self"] (spDInit c4) := ⟨_, _, ok_dinit F_dI cd, He.mkr_ok (fa 79 _ rfl), He.glo_ok X N (fa 77 _ rfl), (fbinds F_dI fun _ _ _ _ _ _ us hl => match us, hl with | [_], _ => rfl)⟩
  obtain ⟨fd_dAt, F_dAt⟩ : ∃ fd, FnP K "archer_at" "Day.archer_at" (inClass (top 28) 1) (He.ma K (He.ga K "Day") "archer_at") fd := s.def_ 35
  have dAt : MF P w K mg base (He.ga K "Day") "archer_at" 1 ["self", "number"] (spDArcher c4) := ⟨_, _, ok_darcher F_dAt cd B, He.meth_ok (fa 84 _ rfl), (fbinds F_dAt fun _ _ _ _ _ _ us hl => match us, hl with | [_, _], _ => rfl)⟩
  obtain ⟨fd_dBegin, F_dBegin⟩ : ∃ fd, FnP K "begin" "Day.begin" (inClass (top 28) 2) (He.ma K (He.ga K "Day") "begin") fd := s.def_ 36
  have dBegin : MF P w K mg base (He.ga K "Day") "begin" 3 ["self", "ends", "arrow_count", "clubs"] (spDBegin c4 K (tabL K)) := ⟨_, _, ok_dbegin F_dBegin cd B aI, He.meth_ok (fa 85 _ rfl), (fbinds F_dBegin fun _ _ _ _ _ _ us hl => match us, hl with | [_, _, _, _], _ => rfl)⟩
  obtain ⟨fd_dEnd, F_dEnd⟩ : ∃ fd, FnP K "take_end" "Day.take_end" (inClass (top 28) 3) (He.ma K (He.ga K "Day") "take_end") fd := s.def_ 37
  have dEnd : MF P w K mg base (He.ga K "Day") "take_end" 4 ["self", "number", "arrows"] (spDEnd c4 (tabL K)) := ⟨_, _, ok_dend F_dEnd cd ca B dAt gAre gSum aTake aPts, He.meth_ok (fa 86 _ rfl), (fbinds F_dEnd fun _ _ _ _ _ _ us hl => match us, hl with | [_, _, _], _ => rfl)⟩
  obtain ⟨fd_dCard, F_dCard⟩ : ∃ fd, FnP K "card" "Day.card" (inClass (top 28) 4) (He.ma K (He.ga K "Day") "card") fd := s.def_ 38
  have dCard : MF P w K mg base (He.ga K "Day") "card" 4 ["self", "number"] (spDCard c4 (tabL K)) := ⟨_, _, ok_dcard F_dCard cd ca B dAt aPts aTens aInner, He.meth_ok (fa 87 _ rfl), (fbinds F_dCard fun _ _ _ _ _ _ us hl => match us, hl with | [_, _], _ => rfl)⟩
  obtain ⟨fd_dRanking, F_dRanking⟩ : ∃ fd, FnP K "ranking" "Day.ranking" (inClass (top 28) 5) (He.ma K (He.ga K "Day") "ranking") fd := s.def_ 39
  have dRanking : MF P w K mg base (He.ga K "Day") "ranking" 9 ["self"] (spDRead c4 (tabL K) Ar.D.ranking) := ⟨_, _, ok_dranking F_dRanking cd ca B gRk aPts, He.meth_ok (fa 88 _ rfl), (fbinds F_dRanking fun _ _ _ _ _ _ us hl => match us, hl with | [_], _ => rfl)⟩
  obtain ⟨fd_dClubs, F_dClubs⟩ : ∃ fd, FnP K "clubs" "Day.clubs" (inClass (top 28) 6) (He.ma K (He.ga K "Day") "clubs") fd := s.def_ 40
  have dClubs : MF P w K mg base (He.ga K "Day") "clubs" 5 ["self"] (spDRead c4 (tabL K) Ar.D.clubs) := ⟨_, _, ok_dclubs F_dClubs cd B gClubs, He.meth_ok (fa 89 _ rfl), (fbinds F_dClubs fun _ _ _ _ _ _ us hl => match us, hl with | [_], _ => rfl)⟩
  obtain ⟨fd_dCut, F_dCut⟩ : ∃ fd, FnP K "cut" "Day.cut" (inClass (top 28) 7) (He.ma K (He.ga K "Day") "cut") fd := s.def_ 41
  have dCut : MF P w K mg base (He.ga K "Day") "cut" 9 ["self", "count", "sets"] (spDCut c4 (tabL K)) := ⟨_, _, ok_dcut F_dCut cd cb ca B gRk bI bLast bGo, He.meth_ok (fa 90 _ rfl), (fbinds F_dCut fun _ _ _ _ _ _ us hl => match us, hl with | [_, _, _], _ => rfl)⟩
  obtain ⟨fd_dRound, F_dRound⟩ : ∃ fd, FnP K "told_round" "Day.told_round" (inClass (top 28) 8) (He.ma K (He.ga K "Day") "told_round") fd := s.def_ 42
  have dRound : MF P w K mg base (He.ga K "Day") "told_round" 2 ["self"] (spDRound c4 (tabL K)) := ⟨_, _, ok_dround F_dRound cd cb cm B bLast mState, He.meth_ok (fa 91 _ rfl), (fbinds F_dRound fun _ _ _ _ _ _ us hl => match us, hl with | [_], _ => rfl)⟩
  obtain ⟨fd_dMatch, F_dMatch⟩ : ∃ fd, FnP K "match_at" "Day.match_at" (inClass (top 28) 9) (He.ma K (He.ga K "Day") "match_at") fd := s.def_ 43
  have dMatch : MF P w K mg base (He.ga K "Day") "match_at" 2 ["self", "number"] (spDMatch c4) := ⟨_, _, ok_dmatch F_dMatch cd cb B bLast, He.meth_ok (fa 92 _ rfl), (fbinds F_dMatch fun _ _ _ _ _ _ us hl => match us, hl with | [_, _], _ => rfl)⟩
  obtain ⟨fd_dAfter, F_dAfter⟩ : ∃ fd, FnP K "after_shots" "Day.after_shots" (inClass (top 28) 12) (He.ma K (He.ga K "Day") "after_shots") fd := s.def_ 46
  have dAfter : MF P w K mg base (He.ga K "Day") "after_shots" 5 ["self", "match"] (spDAfter c4 (tabL K)) := ⟨_, _, ok_dafter F_dAfter cd cb cm B mState mWon mAlike bGo, He.meth_ok (fa 95 _ rfl), (fbinds F_dAfter fun _ _ _ _ _ _ us hl => match us, hl with | [_, _], _ => rfl)⟩
  obtain ⟨fd_dShoot, F_dShoot⟩ : ∃ fd, FnP K "shoot" "Day.shoot" (inClass (top 28) 10) (He.ma K (He.ga K "Day") "shoot") fd := s.def_ 44
  have dShoot : MF P w K mg base (He.ga K "Day") "shoot" 6 ["self", "number", "first", "second"] (spDShoot c4 K (tabL K)) := ⟨_, _, ok_dshoot F_dShoot cd cm B dMatch gAre mWon mAlike mShoot dAfter, He.meth_ok (fa 93 _ rfl), (fbinds F_dShoot fun _ _ _ _ _ _ us hl => match us, hl with | [_, _, _, _], _ => rfl)⟩
  obtain ⟨fd_dOff, F_dOff⟩ : ∃ fd, FnP K "shoot_off" "Day.shoot_off" (inClass (top 28) 11) (He.ma K (He.ga K "Day") "shoot_off") fd := s.def_ 45
  have dOff : MF P w K mg base (He.ga K "Day") "shoot_off" 6 ["self", "numbers"] (spDOff c4 K (tabL K)) := ⟨_, _, ok_doff F_dOff cd cm B dMatch gAre mAlike mOff dAfter, He.meth_ok (fa 94 _ rfl), (fbinds F_dOff fun _ _ _ _ _ _ us hl => match us, hl with | [_, _], _ => rfl)⟩
  obtain ⟨fd_dPlaces, F_dPlaces⟩ : ∃ fd, FnP K "places" "Day.places" (inClass (top 28) 13) (He.ma K (He.ga K "Day") "places") fd := s.def_ 47
  have dPlaces : MF P w K mg base (He.ga K "Day") "places" 9 ["self"] (spDPlaces c4 (tabL K)) := ⟨_, _, ok_dplaces F_dPlaces cd cb ca B bDone bPl gRk, He.meth_ok (fa 96 _ rfl), (fbinds F_dPlaces fun _ _ _ _ _ _ us hl => match us, hl with | [_], _ => rfl)⟩
  obtain ⟨fd_dAnswer, F_dAnswer⟩ : ∃ fd, FnP K "answer_to" "Day.answer_to" (inClass (top 28) 14) (He.ma K (He.ga K "Day") "answer_to") fd := s.def_ 48
  have dAnswer : MF P w K mg base (He.ga K "Day") "answer_to" 10 ["self", "call", "numbers", "rows"] (spDAnswer c4 (tabL K)) := ⟨_, _, ok_danswer F_dAnswer cd dBegin dEnd dCard dRanking dClubs dCut dRound dShoot dOff dPlaces, He.meth_ok (fa 97 _ rfl), (fbinds F_dAnswer fun _ _ _ _ _ _ us hl => match us, hl with | [_, _, _, _], _ => rfl)⟩
  exact ok_answers (c := c4) F0 cd B BC dI dAnswer
end
end ArW
end
section
set_option Elab.async false
set_option maxRecDepth 100000
set_option maxHeartbeats 4000000
/-! The promise of answers over the head's facts. -/
namespace ArW
open PySem PySem.Spec PyProof.Rows L2 LamX
open PySem.W (Codec WData)

theorem top_end (w : World) (mg : Str → Option Value) (fa : Addr) (h : Heap) (Y : (He.hookX 6 faL fnL [] tfL exB).says w h) (N : h.Ns mainGlobals mg) (hmg : mg "answers" = some (.ref fa)) :
    ∃ (K : PySem.W.Frag) (fd : FuncData) (sp : Sp) (cs : List (Addr × Addr)), K.In h ∧ (∀ p ∈ cs, h.get? p.2 = some { cls := .none, data := .fields #[] }) ∧ (∀ p ∈ cs, K.lookup p.2 = none) ∧ (∀ p ∈ cs, PySem.W.CodeHd h p.1 p.2) ∧
      (∀ (s : Shared) (us : List Value), us.length = (["calls"] : List Str).length → BindsTo s fd ⟨us, []⟩ ((["calls"] : List Str).zip us)) ∧
      (∀ (H0 H : Hp) (xs : List V) (a : Codec.denoteAll PySem.Challenge.rw_archeryround_s01_answers.args), OnlyF H0 → (∀ b o, H0 b = some o → H b = some o) → (∀ p ∈ cs, H p.2 = some (.tbl #[])) → Codec.withinAll PySem.Challenge.rw_archeryround_s01_answers.args a = true →
        Codec.app PySem.Challenge.rw_archeryround_s01_answers.args PySem.Challenge.rw_archeryround_s01_answers.asked a = true → DwAll K H0 xs (Codec.encAll PySem.Challenge.rw_archeryround_s01_answers.args a) →
        sp xs H (fun v H' => Dw K H' v (PySem.Challenge.rw_archeryround_s01_answers.ret.enc (Codec.app PySem.Challenge.rw_archeryround_s01_answers.args PySem.Challenge.rw_archeryround_s01_answers.f a))) fun _ _ _ => False) ∧
      ∀ base : Heap, K.In base → base.Ns mainGlobals mg → (∀ p ∈ cs, TabB base mg p.1 p.2) → FnOk PySem.Challenge.rw_archeryround_s01_answers.prog w K mg base CX0 12 fa fd ["calls"] sp := by
  obtain ⟨K, X, c⟩ := Y
  have sd := c.t.d
  obtain ⟨fd, F0⟩ : ∃ fd, FnP K "answers" "answers" (top 29) (He.ga K "answers") fd := sd.def_ 7
  have efa : He.ga K "answers" = fa := by
    have q := He.glo_ok X N (sd.facts (f := .glo "answers") (by simp [faL]))
    rw [hmg] at q
    exact (Value.ref.inj (Option.some.inj q)).symm
  refine ⟨K, fd, spAns K (tabL K), tfL.map (He.cT K), X, fun p hp => ?_, fun p hp => ?_, fun p hp => ?_, fun s us hu => ?_, fun H0 H xs a only sub tbl within asked dw => ?_, fun base XB NB tb => ?_⟩
  · obtain ⟨q, hq, rfl⟩ := List.mem_map.mp hp
    exact c.empty q hq
  · obtain ⟨q, hq, rfl⟩ := List.mem_map.mp hp
    exact c.out q hq
  · obtain ⟨q, hq, rfl⟩ := List.mem_map.mp hp
    exact PySem.W.codeHd_of_K X (c.hd q hq)
  · obtain ⟨oc, od, dV, kV, doc, pm, an, cdv, ct, osl, rfl, lk, hcd, hD, hK⟩ := F0.ex
    rcases hD with ⟨_, rfl⟩ | ⟨ne, _⟩
    · match us, hu with
      | [_], _ => exact .of_eq rfl
    · exact absurd rfl ne
  · cases dw with
    | cons d1 d2 =>
      cases d2
      cases d1 with
      | lst hs ha =>
        have e := L2.ints_dw a.1 _ ha
        subst e
        have hw : ((Codec.inLen 0 24000 a.1 && a.1.all (Codec.inInt (-2147483648) 2147483647)) && true) = true := within
        rw [Bool.and_eq_true, Bool.and_eq_true] at hw
        have hlen : a.1.length ≤ 24000 := (Codec.inNat_iff.mp hw.1.1).2
        obtain ⟨cs, h1, h2, h3, h4⟩ := answers_plain (l := a.1) asked
        refine ⟨_, a.1, cs, a.1.length, rfl, fun p hp => ?_, ?_, Nat.le_trans hlen (by decide), h1, h2, h4, fun H' p hp => ?_⟩
        · unfold tabL at hp
          rcases List.mem_cons.mp hp with rfl | hp
          · exact TabS.nil (tbl (He.cT K ("ranked", none)) (List.mem_map.mpr ⟨_, by simp [tfL], rfl⟩))
          · rcases List.mem_cons.mp hp with rfl | hp
            · exact TabS.nil (tbl (He.cT K ("Bracket", some "places")) (List.mem_map.mpr ⟨_, by simp [tfL], rfl⟩))
            · cases hp
        · rcases hs with (z | ⟨o, z⟩) | z
          · rcases only _ with e | ⟨o, u, e⟩
            · rw [z] at e; cases e
            · rw [z] at e; cases e
          · exact .inl ⟨o, sub _ _ z⟩
          · exact .inr fun _ => .inr z
        · rw [h3] at hp
          exact .lst (L2.SqL.of hp) (L2.dw_ints _)
  · rw [← efa]
    exact top_ok sd c.more XB NB (fun p hp => tb _ (List.mem_map.mpr ⟨p, hp, rfl⟩)) F0
end ArW
end
set_option Elab.async false
set_option maxRecDepth 100000
set_option maxHeartbeats 4000000
open PySem PySem.W PyProof.Rows
set_option maxRecDepth 100000 in
set_option maxHeartbeats 0 in
theorem PySem.Challenge.cw_archeryround_s01_answers_holds : PySem.Challenge.rw_archeryround_s01_answers.Holds := by
  w_on; o_headS (He.hookX 6 ArW.faL ArW.fnL [] ArW.tfL ArW.exB); (case hw => exact ⟨[.list [.int 4]], by decide +kernel, by decide +kernel⟩)
  refine ArW.walk_tabs (r := PySem.Challenge.rw_archeryround_s01_answers) (k := 12) (ps := ["calls"]) (by decide +kernel) rfl rfl ⟨rfl, by decide, by decide⟩ fun w mg fa h Y N hmg => ?_
  exact ArW.top_end w mg fa h Y N hmg
