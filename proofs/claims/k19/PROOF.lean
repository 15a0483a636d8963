import PyProof.Rows.All
import Wide.All
import OpenK.AllK
import Wide.FinOn
import KE.KStateDown
import HandS.ForMost
import HandS.Defaults
import HandS.Head0
import HandS.Head1
import HandS.Head2
import HandS.HeadEnd
import HandS.HeadHook1
import HandS.HeadHook2
import PySem.Challenge.RW_spikehold_k19_whole_decided_claims
import HandS.MakeKw
import HandS.MakeKwOnly
import HandS.Deep
import HandS.IsInst
import HandS.Style
import KE.KeyNested
import KE.KEqDeep
import PyProof.Rows.TupDisplay
import HandS.Evl
set_option Elab.async false
set_option linter.all false
set_option maxRecDepth 100000
set_option maxHeartbeats 0
/-! Spikehold, the plain law: networks, claims, the search. No program in sight. -/
namespace SK

structure Nu where
  thr : Int
  leak : Int
  refr : Int
  floor : Int
  sub : Bool

structure Sy where
  src : Int
  tgt : Nat
  w : Int
  delay : Nat

structure Net where
  inputs : Nat
  neus : List Nu
  syns : List Sy

inductive Cl where
  | never (n : Int)
  | apart (a b : Int)
  | answer (i n d : Int)

/-- what the law's networks keep -/
structure Net.Ok (net : Net) : Prop where
  inp : net.inputs ≤ 2
  lo : 1 ≤ net.neus.length
  hi : net.neus.length ≤ 3
  sy : net.syns.length ≤ 7
  tgt : ∀ s ∈ net.syns, s.tgt < net.neus.length
  d1 : ∀ s ∈ net.syns, 1 ≤ s.delay
  d2 : ∀ s ∈ net.syns, s.delay ≤ 2
  leak : ∀ u ∈ net.neus, 0 ≤ u.leak

def Cl.Ok : Cl → Prop
  | .answer _ _ d => 1 ≤ d ∧ d ≤ 5
  | _ => True

def nu0 : Nu := ⟨1, 0, 0, 0, false⟩

/-! ### a tick -/
def leaked (u : Nu) (p : Int) : Int := if 0 < u.leak then p - p / 2 ^ u.leak.toNat else p
def summed (u : Nu) (p inc : Int) : Int := if leaked u p + inc > u.floor then leaked u p + inc else u.floor
def step (u : Nu) (p r inc : Int) : Int × Int × Bool :=
  if 0 < r then (summed u p inc, r - 1, false)
  else if summed u p inc < u.thr then (summed u p inc, 0, false)
  else if u.sub = true then (summed u p inc - u.thr, u.refr, true)
  else (0, u.refr, true)
def stepAt (us : List Nu) (ps rs sums : List Int) (n : Nat) : Int × Int × Bool := step (us.getD n nu0) (ps.getD n 0) (rs.getD n 0) (sums.getD n 0)
def potsOf (us : List Nu) (ps rs sums : List Int) (n : Nat) : List Int := (List.range n).map fun i => (stepAt us ps rs sums i).1
def restsOf (us : List Nu) (ps rs sums : List Int) (n : Nat) : List Int := (List.range n).map fun i => (stepAt us ps rs sums i).2.1
def firedOf (us : List Nu) (ps rs sums : List Int) (n : Nat) : List Int := ((List.range n).filter fun i => (stepAt us ps rs sums i).2.2).map fun (i : Nat) => (i : Int)

structure S where
  pots : List Int
  rests : List Int
  pend : List (List Int)
  deriving DecidableEq

abbrev Pair := S × Int

def zeros (n : Nat) : List Int := List.replicate n 0
def init (net : Net) : S := ⟨zeros net.neus.length, zeros net.neus.length, List.replicate 15 (zeros net.neus.length)⟩
/-- the state has the network's sizes -/
structure S.Ok (net : Net) (s : S) : Prop where
  p : s.pots.length = net.neus.length
  r : s.rests.length = net.neus.length
  n : s.pend.length = 15
  e : ∀ l ∈ s.pend, l.length = net.neus.length

def bump (p : List (List Int)) (sy : Sy) : List (List Int) := p.set (sy.delay - 1) ((p.getD (sy.delay - 1) []).set sy.tgt ((p.getD (sy.delay - 1) []).getD sy.tgt 0 + sy.w))
def sends (src : List Int) (p : List (List Int)) (sy : Sy) : List (List Int) := if sy.src ∈ src then bump p sy else p
def fired (net : Net) (s : S) : List Int := firedOf net.neus s.pots s.rests (s.pend.getD 0 []) net.neus.length
def srcs (net : Net) (stim fi : List Int) : List Int := stim ++ fi.map fun n => (net.inputs : Int) + n
def pend0 (net : Net) (s : S) : List (List Int) := s.pend.drop 1 ++ [zeros net.neus.length]
def after (net : Net) (s : S) (stim : List Int) : S :=
  ⟨potsOf net.neus s.pots s.rests (s.pend.getD 0 []) net.neus.length, restsOf net.neus s.pots s.rests (s.pend.getD 0 []) net.neus.length,
    net.syns.foldl (sends (srcs net stim (fired net s))) (pend0 net s)⟩

def nextW : Cl → Int → List Int → List Int → Int
  | .answer i n d, w, stim, fi =>
    let w1 := if 0 < w then (if n ∈ fi then 0 else w - 1) else w
    if w1 = 0 ∧ i ∈ stim then d else w1
  | _, _, _, _ => 0
def broken : Cl → Int → List Int → Bool
  | .never n, _, fi => decide (n ∈ fi)
  | .apart a b, _, fi => decide (a ∈ fi) && decide (b ∈ fi)
  | .answer _ n _, w, fi => decide (w = 1) && !decide (n ∈ fi)

def nxt (net : Net) (cl : Cl) (p : Pair) (stim : List Int) : Pair := (after net p.1 stim, nextW cl p.2 stim (fired net p.1))
def brk (cl : Cl) (net : Net) (p : Pair) : Bool := broken cl p.2 (fired net p.1)
def p0 (net : Net) : Pair := (init net, 0)

/-! ### sizes -/
theorem potsOf_length (us : List Nu) (ps rs sums : List Int) (n : Nat) : (potsOf us ps rs sums n).length = n := by simp [potsOf]
theorem restsOf_length (us : List Nu) (ps rs sums : List Int) (n : Nat) : (restsOf us ps rs sums n).length = n := by simp [restsOf]
theorem firedOf_length (us : List Nu) (ps rs sums : List Int) (n : Nat) : (firedOf us ps rs sums n).length ≤ n := by
  unfold firedOf
  rw [List.length_map]
  have h := List.length_filter_le (fun i => (stepAt us ps rs sums i).2.2) (List.range n)
  rw [List.length_range] at h
  exact h
theorem potsOf_succ (us : List Nu) (ps rs sums : List Int) (n : Nat) : potsOf us ps rs sums (n + 1) = potsOf us ps rs sums n ++ [(stepAt us ps rs sums n).1] := by
  unfold potsOf
  rw [List.range_succ, List.map_append]
  rfl
theorem restsOf_succ (us : List Nu) (ps rs sums : List Int) (n : Nat) : restsOf us ps rs sums (n + 1) = restsOf us ps rs sums n ++ [(stepAt us ps rs sums n).2.1] := by
  unfold restsOf
  rw [List.range_succ, List.map_append]
  rfl
theorem firedOf_yes {us : List Nu} {ps rs sums : List Int} {n : Nat} (h : (stepAt us ps rs sums n).2.2 = true) : firedOf us ps rs sums (n + 1) = firedOf us ps rs sums n ++ [(n : Int)] := by
  unfold firedOf
  rw [List.range_succ, List.filter_append, List.map_append, List.filter_cons, if_pos h]
  rfl
theorem firedOf_no {us : List Nu} {ps rs sums : List Int} {n : Nat} (h : (stepAt us ps rs sums n).2.2 = false) : firedOf us ps rs sums (n + 1) = firedOf us ps rs sums n := by
  unfold firedOf
  rw [List.range_succ, List.filter_append, List.map_append, List.filter_cons, if_neg (by rw [h]; decide)]
  simp
theorem zeros_length (n : Nat) : (zeros n).length = n := List.length_replicate
theorem init_ok (net : Net) : (init net).Ok net := by
  refine ⟨zeros_length _, zeros_length _, List.length_replicate, fun l h => ?_⟩
  rw [List.eq_of_mem_replicate h]
  exact zeros_length _
/-- a table of 15 rows of n -/
structure Tab (n : Nat) (p : List (List Int)) : Prop where
  len : p.length = 15
  row : ∀ l ∈ p, l.length = n
theorem Tab.getD {n : Nat} {p : List (List Int)} (t : Tab n p) {k : Nat} (hk : k < 15) : (p.getD k []).length = n := by
  have h : k < p.length := by rw [t.len]; exact hk
  rw [List.getD_eq_getElem?_getD, List.getElem?_eq_getElem h]
  exact t.row _ (List.getElem_mem h)
theorem Tab.bump {n : Nat} {p : List (List Int)} (t : Tab n p) {sy : Sy} (hd : sy.delay ≤ 15) (h1 : 1 ≤ sy.delay) : Tab n (bump p sy) := by
  refine ⟨by unfold SK.bump; rw [List.length_set]; exact t.len, fun l h => ?_⟩
  unfold SK.bump at h
  rcases List.mem_or_eq_of_mem_set h with h | h
  · exact t.row l h
  · rw [h, List.length_set]
    exact t.getD (by omega)
theorem Tab.sends {n : Nat} {p : List (List Int)} (t : Tab n p) {src : List Int} {sy : Sy} (hd : sy.delay ≤ 15) (h1 : 1 ≤ sy.delay) : Tab n (sends src p sy) := by
  unfold SK.sends
  split
  · exact t.bump hd h1
  · exact t
theorem Tab.foldl {n : Nat} {src : List Int} : ∀ {syns : List Sy} {p : List (List Int)}, Tab n p → (∀ s ∈ syns, 1 ≤ s.delay) → (∀ s ∈ syns, s.delay ≤ 15) → Tab n (syns.foldl (SK.sends src) p)
  | [], _, t, _, _ => t
  | s :: r, _, t, h1, h2 => Tab.foldl (syns := r) (Tab.sends (src := src) t (h2 s List.mem_cons_self) (h1 s List.mem_cons_self)) (fun x hx => h1 x (List.mem_cons_of_mem _ hx)) fun x hx => h2 x (List.mem_cons_of_mem _ hx)
theorem S.Ok.tab {net : Net} {s : S} (h : s.Ok net) : Tab net.neus.length s.pend := ⟨h.n, h.e⟩
theorem pend0_tab {net : Net} {s : S} (h : s.Ok net) : Tab net.neus.length (pend0 net s) := by
  refine ⟨?_, fun l hl => ?_⟩
  · unfold pend0
    rw [List.length_append, List.length_drop, h.n]
    rfl
  · unfold pend0 at hl
    rcases List.mem_append.mp hl with hl | hl
    · exact h.e l (List.mem_of_mem_drop hl)
    · rw [List.mem_singleton.mp hl]
      exact zeros_length _
theorem after_ok {net : Net} {s : S} (hn : net.Ok) (h : s.Ok net) (stim : List Int) : (after net s stim).Ok net := by
  have t := Tab.foldl (src := srcs net stim (fired net s)) (pend0_tab h) hn.d1 (fun s hs => Nat.le_trans (hn.d2 s hs) (by decide))
  exact ⟨potsOf_length .., restsOf_length .., t.len, t.row⟩

/-! ### runs by pairs -/
def fires (net : Net) : S → List (List Int) → List (List Int)
  | _, [] => []
  | s, x :: r => fired net s :: fires net (after net s x) r
def wFirst (net : Net) (cl : Cl) : Pair → List (List Int) → Option Nat
  | _, [] => none
  | p, x :: r => if brk cl net p = true then some 0 else (wFirst net cl (nxt net cl p x) r).map (· + 1)
def reach (net : Net) (cl : Cl) (p : Pair) (S : List (List Int)) : Pair := S.foldl (nxt net cl) p
def reachS (net : Net) (s : S) (X : List (List Int)) : S := X.foldl (after net) s
theorem reach_fst (net : Net) (cl : Cl) : ∀ (X : List (List Int)) (p : Pair), (reach net cl p X).1 = reachS net p.1 X
  | [], _ => rfl
  | x :: r, p => reach_fst net cl r (nxt net cl p x)
theorem fires_length (net : Net) : ∀ (X : List (List Int)) (s : S), (fires net s X).length = X.length
  | [], _ => rfl
  | x :: r, s => by
    show (fires net _ r).length + 1 = r.length + 1
    rw [fires_length net r]
theorem fires_get (net : Net) : ∀ (X : List (List Int)) (s : S) (t : Nat), t < X.length → (fires net s X).getD t [] = fired net (reachS net s (X.take t))
  | [], _, t, h => absurd h (Nat.not_lt_zero _)
  | x :: r, s, 0, _ => rfl
  | x :: r, s, t + 1, h => by
    show (fires net (after net s x) r).getD t [] = _
    rw [fires_get net r _ t (Nat.lt_of_succ_lt_succ h)]
    rfl

/-- the first turn that the watch breaks, by places -/
def wbAt (net : Net) (cl : Cl) (p : Pair) (X : List (List Int)) (t : Nat) : Bool := brk cl net (reach net cl p (X.take t))
theorem wFirst_find (net : Net) (cl : Cl) : ∀ (X : List (List Int)) (p : Pair), wFirst net cl p X = (List.range X.length).find? (wbAt net cl p X)
  | [], _ => rfl
  | x :: r, p => by
    rw [List.length_cons, List.range_succ_eq_map, List.find?_cons, List.find?_map]
    unfold wFirst
    have e0 : wbAt net cl p (x :: r) 0 = brk cl net p := rfl
    rw [e0]
    have ec : (wbAt net cl p (x :: r) ∘ Nat.succ) = wbAt net cl (nxt net cl p x) r := rfl
    rw [ec, ← wFirst_find net cl r]
    cases brk cl net p <;> rfl
theorem find_congr {f g : Nat → Bool} : ∀ (n : Nat), (∀ t, t < n → (∀ u, u < t → f u = false) → g t = f t) → (List.range n).find? g = (List.range n).find? f
  | 0, _ => rfl
  | n + 1, h => by
    rw [List.range_succ, List.find?_append, List.find?_append, find_congr n fun t ht hu => h t (Nat.lt_succ_of_lt ht) hu]
    cases e : (List.range n).find? f with
    | some x => rfl
    | none =>
      have q : ∀ u, u < n → f u = false := fun u hu => by
        have z := List.find?_eq_none.mp e u (List.mem_range.mpr hu)
        cases hf : f u with
        | false => rfl
        | true => exact absurd hf z
      rw [List.find?_cons, List.find?_cons, h n (Nat.lt_succ_self n) q]
      rfl

/-! ### the law's own reading of a break -/
/-- n spikes in none of the turns lo .. hi - 1 -/
def quiet (n : Int) (F : List (List Int)) (lo hi : Nat) : Prop := ∀ u, lo ≤ u → u < hi → ¬ n ∈ F.getD u []
instance (n : Int) (F : List (List Int)) (lo hi : Nat) : Decidable (quiet n F lo hi) :=
  decidable_of_iff (∀ u ∈ List.range hi, lo ≤ u → ¬ n ∈ F.getD u []) ⟨fun h u h1 h2 => h u (List.mem_range.mpr h2) h1, fun h u h1 h2 => h u h2 (List.mem_range.mp h1)⟩
def lawBreaks (cl : Cl) (X F : List (List Int)) (t : Nat) : Bool :=
  match cl with
  | .never n => decide (n ∈ F.getD t [])
  | .apart a b => decide (a ∈ F.getD t []) && decide (b ∈ F.getD t [])
  | .answer i n d => decide (0 ≤ (t : Int) - d ∧ i ∈ X.getD ((t : Int) - d).toNat [] ∧ quiet n F (((t : Int) - d).toNat + 1) (t + 1))
def lawFirst (cl : Cl) (X F : List (List Int)) : Option Nat := (List.range X.length).find? (lawBreaks cl X F)

/-- the watch behind t turns, told by the turns -/
structure Owed (X F : List (List Int)) (i n d : Int) (t : Nat) (w : Int) : Prop where
  nn : 0 ≤ w
  back : 0 < w → ∃ s : Nat, s < t ∧ (s : Int) + d + 1 = t + w ∧ i ∈ X.getD s [] ∧ quiet n F (s + 1) t
  forth : ∀ s : Nat, s < t → i ∈ X.getD s [] → quiet n F (s + 1) t → 0 < w ∧ (t : Int) + w ≤ s + d + 1
theorem owed_next {X F : List (List Int)} {i n d : Int} {t : Nat} {w : Int} (hd : 1 ≤ d) (o : Owed X F i n d t w) (hb : broken (.answer i n d) w (F.getD t []) = false) :
    Owed X F i n d (t + 1) (nextW (.answer i n d) w (X.getD t []) (F.getD t [])) := by
  have hb2 : ¬ (w = 1 ∧ ¬ n ∈ F.getD t []) := fun ⟨h1, h2⟩ => by
    have hb : (decide (w = 1) && !decide (n ∈ F.getD t [])) = false := hb
    rw [decide_eq_true h1, decide_eq_false h2] at hb
    exact absurd hb (by decide)
  have ext : ∀ s, ¬ n ∈ F.getD t [] → quiet n F (s + 1) t → quiet n F (s + 1) (t + 1) := fun s hn q u h1 h2 => by
    rcases Nat.lt_succ_iff_lt_or_eq.mp h2 with h | h
    · exact q u h1 h
    · rw [h]; exact hn
  have cut : ∀ s, quiet n F (s + 1) (t + 1) → quiet n F (s + 1) t := fun s q u h1 h2 => q u h1 (Nat.lt_succ_of_lt h2)
  have last : ∀ s, s < t → quiet n F (s + 1) (t + 1) → ¬ n ∈ F.getD t [] := fun s hs q => q t hs (Nat.lt_succ_self t)
  have self : quiet n F (t + 1) (t + 1) := fun u h1 h2 => absurd h2 (Nat.not_lt.mpr h1)
  unfold nextW
  simp only
  by_cases hw : 0 < w
  · rw [if_pos hw]
    by_cases hn : n ∈ F.getD t []
    · rw [if_pos hn]
      by_cases hi : i ∈ X.getD t []
      · rw [if_pos ⟨rfl, hi⟩]
        refine ⟨by omega, fun _ => ⟨t, Nat.lt_succ_self t, by omega, hi, self⟩, fun s hs h1 h2 => ?_⟩
        rcases Nat.lt_succ_iff_lt_or_eq.mp hs with h | h
        · exact absurd hn (last s h h2)
        · subst h; exact ⟨by omega, by omega⟩
      · rw [if_neg fun z => hi z.2]
        refine ⟨Int.le_refl _, fun h => absurd h (by decide), fun s hs h1 h2 => ?_⟩
        rcases Nat.lt_succ_iff_lt_or_eq.mp hs with h | h
        · exact absurd hn (last s h h2)
        · subst h; exact absurd h1 hi
    · rw [if_neg hn]
      have hw1 : ¬ w = 1 := fun z => hb2 ⟨z, hn⟩
      rw [if_neg fun z => by omega]
      obtain ⟨s, hs, e, h1, h2⟩ := o.back hw
      refine ⟨by omega, fun _ => ⟨s, by omega, by omega, h1, ext s hn h2⟩, fun u hu k1 k2 => ?_⟩
      rcases Nat.lt_succ_iff_lt_or_eq.mp hu with h | h
      · have z := o.forth u h k1 (cut u k2)
        exact ⟨by omega, by omega⟩
      · subst h; exact ⟨by omega, by omega⟩
  · rw [if_neg hw]
    have w0 : w = 0 := by have := o.nn; omega
    subst w0
    by_cases hi : i ∈ X.getD t []
    · rw [if_pos ⟨rfl, hi⟩]
      refine ⟨by omega, fun _ => ⟨t, Nat.lt_succ_self t, by omega, hi, self⟩, fun s hs h1 h2 => ?_⟩
      rcases Nat.lt_succ_iff_lt_or_eq.mp hs with h | h
      · exact absurd (o.forth s h h1 (cut s h2)).1 (by decide)
      · subst h; exact ⟨by omega, by omega⟩
    · rw [if_neg fun z => hi z.2]
      refine ⟨Int.le_refl _, fun h => absurd h (by decide), fun s hs h1 h2 => ?_⟩
      rcases Nat.lt_succ_iff_lt_or_eq.mp hs with h | h
      · exact absurd (o.forth s h h1 (cut s h2)).1 (by decide)
      · subst h; exact absurd h1 hi
theorem owed_break {X F : List (List Int)} {i n d : Int} {t : Nat} {w : Int} (hd : 1 ≤ d) (o : Owed X F i n d t w) : lawBreaks (.answer i n d) X F t = broken (.answer i n d) w (F.getD t []) := by
  have key : (0 ≤ (t : Int) - d ∧ i ∈ X.getD ((t : Int) - d).toNat [] ∧ quiet n F (((t : Int) - d).toNat + 1) (t + 1)) ↔ (w = 1 ∧ ¬ n ∈ F.getD t []) := by
    constructor
    · rintro ⟨h1, h2, h3⟩
      have z := o.forth ((t : Int) - d).toNat (by omega) h2 fun u a b => h3 u a (Nat.lt_succ_of_lt b)
      exact ⟨by omega, h3 t (by omega) (Nat.lt_succ_self t)⟩
    · rintro ⟨h1, h2⟩
      obtain ⟨s, hs, e, k1, k2⟩ := o.back (by omega)
      have es : ((t : Int) - d).toNat = s := by omega
      rw [es]
      refine ⟨by omega, k1, fun u a b => ?_⟩
      rcases Nat.lt_succ_iff_lt_or_eq.mp b with h | h
      · exact k2 u a h
      · rw [h]; exact h2
  show decide _ = (decide (w = 1) && !decide (n ∈ F.getD t []))
  by_cases a : w = 1 ∧ ¬ n ∈ F.getD t []
  · rw [decide_eq_true (key.mpr a), decide_eq_true a.1, decide_eq_false a.2]
    rfl
  · rw [decide_eq_false fun z => a (key.mp z)]
    by_cases b : w = 1
    · rw [decide_eq_true b, decide_eq_true (Decidable.not_not.mp fun z => a ⟨b, z⟩)]
      rfl
    · rw [decide_eq_false b]
      rfl

theorem reach_snoc (net : Net) (cl : Cl) (p : Pair) (A : List (List Int)) (x : List Int) : reach net cl p (A ++ [x]) = nxt net cl (reach net cl p A) x := by
  unfold reach
  rw [List.foldl_append]
  rfl
theorem take_snoc {α : Type} {X : List α} {t : Nat} (d : α) (h : t < X.length) : X.take (t + 1) = X.take t ++ [X.getD t d] := by
  rw [List.take_add_one, List.getElem?_eq_getElem h, List.getD_eq_getElem?_getD, List.getElem?_eq_getElem h]
  rfl
theorem owed_all (net : Net) {i n d : Int} (hd : 1 ≤ d) (X : List (List Int)) : ∀ t, t ≤ X.length → (∀ u, u < t → wbAt net (.answer i n d) (p0 net) X u = false) →
    Owed X (fires net (init net) X) i n d t (reach net (.answer i n d) (p0 net) (X.take t)).2
  | 0, _, _ => ⟨Int.le_refl _, fun h => absurd (show (0 : Int) < 0 from h) (by decide), fun s hs => absurd hs (Nat.not_lt_zero _)⟩
  | t + 1, ht, hb => by
    have o := owed_all net hd X t (Nat.le_of_succ_le ht) fun u hu => hb u (Nat.lt_succ_of_lt hu)
    have e : (fires net (init net) X).getD t [] = fired net (reach net (.answer i n d) (p0 net) (X.take t)).1 := by
      rw [fires_get net X _ t ht, reach_fst]
      rfl
    have z := owed_next hd o (by
      rw [e]
      exact hb t (Nat.lt_succ_self t))
    rw [take_snoc [] ht, reach_snoc]
    rw [e] at z
    exact z
/-- the law's first break is the watch's -/
theorem first_eq (net : Net) {cl : Cl} (hc : cl.Ok) (X : List (List Int)) : lawFirst cl X (fires net (init net) X) = wFirst net cl (p0 net) X := by
  rw [wFirst_find]
  unfold lawFirst
  refine find_congr _ fun t ht hb => ?_
  have e : (fires net (init net) X).getD t [] = fired net (reach net cl (p0 net) (X.take t)).1 := by
    rw [fires_get net X _ t ht, reach_fst]
    rfl
  cases cl with
  | never n =>
    show decide (n ∈ (fires net (init net) X).getD t []) = _
    rw [e]
    rfl
  | apart a b =>
    show (decide (a ∈ (fires net (init net) X).getD t []) && decide (b ∈ (fires net (init net) X).getD t [])) = _
    rw [e]
    rfl
  | answer i n d =>
    rw [owed_break hc.1 (owed_all net hc.1 X t (Nat.le_of_lt ht) hb), e]
    rfl
end SK

/-! Spikehold: the plain run (cells and a history) fires as the states do. -/
namespace SK

/-- which synapses arrive in turn t -/
def arrives (hist : List (List Int)) (t : Nat) (sy : Sy) : Bool := decide (sy.delay ≤ t) && decide (sy.src ∈ hist.getD (t - sy.delay) [])
def arriving (syns : List Sy) (hist : List (List Int)) (t : Nat) (m : Nat) : List Nat := (List.range m).filter fun k => arrives hist t (syns.getD k ⟨0, 0, 0, 0⟩)
theorem arriving_yes {syns : List Sy} {hist : List (List Int)} {t m : Nat} (h : arrives hist t (syns.getD m ⟨0, 0, 0, 0⟩) = true) : arriving syns hist t (m + 1) = arriving syns hist t m ++ [m] := by
  unfold arriving
  rw [List.range_succ, List.filter_append, List.filter_cons, if_pos h]
  rfl
theorem arriving_no {syns : List Sy} {hist : List (List Int)} {t m : Nat} (h : arrives hist t (syns.getD m ⟨0, 0, 0, 0⟩) = false) : arriving syns hist t (m + 1) = arriving syns hist t m := by
  unfold arriving
  rw [List.range_succ, List.filter_append, List.filter_cons, if_neg (by rw [h]; decide)]
  simp
theorem arriving_length (syns : List Sy) (hist : List (List Int)) (t m : Nat) : (arriving syns hist t m).length ≤ m := by
  have h := List.length_filter_le (fun k => arrives hist t (syns.getD k ⟨0, 0, 0, 0⟩)) (List.range m)
  rw [List.length_range] at h
  exact h
theorem arriving_lt {syns : List Sy} {hist : List (List Int)} {t m k : Nat} (h : k ∈ arriving syns hist t m) : k < m := List.mem_range.mp (List.mem_filter.mp h).1
def addTo (sums : List Int) (sy : Sy) : List Int := sums.set sy.tgt (sums.getD sy.tgt 0 + sy.w)
def sumsOf (syns : List Sy) (n : Nat) (ks : List Nat) : List Int := ks.foldl (fun s k => addTo s (syns.getD k ⟨0, 0, 0, 0⟩)) (zeros n)
theorem addTo_length (sums : List Int) (sy : Sy) : (addTo sums sy).length = sums.length := by unfold addTo; rw [List.length_set]
theorem sumsOf_snoc (syns : List Sy) (n : Nat) (ks : List Nat) (k : Nat) : sumsOf syns n (ks ++ [k]) = addTo (sumsOf syns n ks) (syns.getD k ⟨0, 0, 0, 0⟩) := by
  unfold sumsOf
  rw [List.foldl_append]
  rfl
theorem sumsOf_length (syns : List Sy) (n : Nat) (ks : List Nat) : (sumsOf syns n ks).length = n := by
  unfold sumsOf
  have : ∀ (ks : List Nat) (s : List Int), (ks.foldl (fun s k => addTo s (syns.getD k ⟨0, 0, 0, 0⟩)) s).length = s.length := by
    intro ks
    induction ks with
    | nil => intro s; rfl
    | cons k r ih => intro s; rw [List.foldl_cons, ih, addTo_length]
  rw [this, zeros_length]

structure R where
  pots : List Int
  rests : List Int
  hist : List (List Int)
  spikes : List (List Int)
def runSums (net : Net) (r : R) : List Int := sumsOf net.syns net.neus.length (arriving net.syns r.hist r.hist.length net.syns.length)
def runFired (net : Net) (r : R) : List Int := firedOf net.neus r.pots r.rests (runSums net r) net.neus.length
def runStep (net : Net) (r : R) (x : List Int) : R :=
  ⟨potsOf net.neus r.pots r.rests (runSums net r) net.neus.length, restsOf net.neus r.pots r.rests (runSums net r) net.neus.length, r.hist ++ [srcs net x (runFired net r)], r.spikes ++ [runFired net r]⟩
def run0 (net : Net) : R := ⟨zeros net.neus.length, zeros net.neus.length, [], []⟩
def runTo (net : Net) (X : List (List Int)) : R := X.foldl (runStep net) (run0 net)
def runM (net : Net) (X : List (List Int)) : List (List Int) := (runTo net X).spikes

/-! ### sums, place by place -/
theorem getD_set (l : List Int) (i j : Nat) (v : Int) : (l.set i v).getD j 0 = if i = j ∧ j < l.length then v else l.getD j 0 := by
  rw [List.getD_eq_getElem?_getD, List.getD_eq_getElem?_getD, List.getElem?_set]
  by_cases h : i = j
  · subst h
    by_cases h2 : i < l.length
    · rw [if_pos rfl, if_pos h2, if_pos ⟨rfl, h2⟩]; rfl
    · rw [if_pos rfl, if_neg h2, if_neg (fun z => h2 z.2), List.getElem?_eq_none (Nat.not_lt.mp h2)]
  · rw [if_neg h, if_neg (fun z => h z.1)]
theorem getD_set_row (p : List (List Int)) (i j : Nat) (v : List Int) : (p.set i v).getD j [] = if i = j ∧ j < p.length then v else p.getD j [] := by
  rw [List.getD_eq_getElem?_getD, List.getD_eq_getElem?_getD, List.getElem?_set]
  by_cases h : i = j
  · subst h
    by_cases h2 : i < p.length
    · rw [if_pos rfl, if_pos h2, if_pos ⟨rfl, h2⟩]; rfl
    · rw [if_pos rfl, if_neg h2, if_neg (fun z => h2 z.2), List.getElem?_eq_none (Nat.not_lt.mp h2)]
  · rw [if_neg h, if_neg (fun z => h z.1)]
/-- what the synapses that c chooses send to j -/
def tot (c : Sy → Bool) (j : Nat) : List Sy → Int
  | [] => 0
  | s :: r => (if c s = true ∧ s.tgt = j then s.w else 0) + tot c j r
theorem tot_congr {c d : Sy → Bool} {j : Nat} : ∀ {l : List Sy}, (∀ s ∈ l, c s = d s) → tot c j l = tot d j l
  | [], _ => rfl
  | s :: r, h => by
    show (if c s = true ∧ s.tgt = j then s.w else 0) + tot c j r = (if d s = true ∧ s.tgt = j then s.w else 0) + tot d j r
    rw [h s List.mem_cons_self, tot_congr fun x hx => h x (List.mem_cons_of_mem _ hx)]
theorem tot_add {c d : Sy → Bool} {j : Nat} : ∀ {l : List Sy}, (∀ s ∈ l, ¬ (c s = true ∧ d s = true)) → tot (fun s => c s || d s) j l = tot c j l + tot d j l
  | [], _ => rfl
  | s :: r, h => by
    show (if (c s || d s) = true ∧ s.tgt = j then s.w else 0) + tot _ j r = (if c s = true ∧ s.tgt = j then s.w else 0) + tot c j r + ((if d s = true ∧ s.tgt = j then s.w else 0) + tot d j r)
    rw [tot_add fun x hx => h x (List.mem_cons_of_mem _ hx)]
    have hs := h s List.mem_cons_self
    cases hc : c s <;> cases hd : d s <;> by_cases ht : s.tgt = j <;> simp [hc, hd, ht] at hs ⊢ <;> omega
theorem tot_none {c : Sy → Bool} {j : Nat} : ∀ {l : List Sy}, (∀ s ∈ l, c s = false) → tot c j l = 0
  | [], _ => rfl
  | s :: r, h => by
    show (if c s = true ∧ s.tgt = j then s.w else 0) + tot c j r = 0
    rw [h s List.mem_cons_self, tot_none fun x hx => h x (List.mem_cons_of_mem _ hx), if_neg (by simp)]
    rfl
theorem addTo_get (sums : List Int) (sy : Sy) (j : Nat) (hj : j < sums.length) : (addTo sums sy).getD j 0 = sums.getD j 0 + (if sy.tgt = j then sy.w else 0) := by
  unfold addTo
  rw [getD_set]
  by_cases h : sy.tgt = j
  · rw [if_pos ⟨h, hj⟩, if_pos h, h]
  · rw [if_neg (fun z => h z.1), if_neg h, Int.add_zero]
/-- the fold over chosen places is the fold over the list -/
theorem foldl_places (c : Sy → Bool) (d : Sy) (f : List Int → Sy → List Int) : ∀ (l pre : List Sy) (s : List Int),
    (((List.range' pre.length l.length).filter fun k => c ((pre ++ l).getD k d)).foldl (fun s k => f s ((pre ++ l).getD k d)) s) = l.foldl (fun s x => if c x = true then f s x else s) s
  | [], pre, s => rfl
  | x :: r, pre, s => by
    have e : (pre ++ x :: r).getD pre.length d = x := by
      rw [List.getD_eq_getElem?_getD, List.getElem?_append_right (Nat.le_refl _), Nat.sub_self]
      rfl
    have ih := fun s => foldl_places c d f r (pre ++ [x]) s
    have e2 : pre ++ [x] ++ r = pre ++ x :: r := by rw [List.append_assoc]; rfl
    have e3 : (pre ++ [x]).length = pre.length + 1 := by rw [List.length_append]; rfl
    rw [e2, e3] at ih
    rw [List.length_cons, List.range'_succ, List.filter_cons, e]
    cases hc : c x with
    | true =>
      rw [if_pos rfl, List.foldl_cons, e, List.foldl_cons, hc, if_pos rfl]
      exact ih _
    | false =>
      rw [if_neg (by decide), List.foldl_cons, hc, if_neg (by decide)]
      exact ih _
theorem foldl_add_get (c : Sy → Bool) (n j : Nat) (hj : j < n) : ∀ (l : List Sy) (s : List Int), s.length = n → (l.foldl (fun s x => if c x = true then addTo s x else s) s).getD j 0 = s.getD j 0 + tot c j l
  | [], s, _ => (Int.add_zero _).symm
  | x :: r, s, hs => by
    rw [List.foldl_cons]
    show _ = s.getD j 0 + ((if c x = true ∧ x.tgt = j then x.w else 0) + tot c j r)
    cases hc : c x with
    | true =>
      rw [if_pos rfl, foldl_add_get c n j hj r _ ((addTo_length s x).trans hs), addTo_get s x j (by omega)]
      by_cases ht : x.tgt = j
      · rw [if_pos ht, if_pos ⟨rfl, ht⟩]; omega
      · rw [if_neg ht, if_neg fun z => ht z.2]; omega
    | false =>
      rw [if_neg (by decide), foldl_add_get c n j hj r _ hs, if_neg fun z => Bool.noConfusion z.1]
      omega
theorem zeros_getD (n j : Nat) : (zeros n).getD j 0 = 0 := by
  unfold zeros
  rw [List.getD_eq_getElem?_getD, List.getElem?_replicate]
  split <;> rfl
theorem sums_get (net : Net) (hist : List (List Int)) (t j : Nat) (hj : j < net.neus.length) :
    (sumsOf net.syns net.neus.length (arriving net.syns hist t net.syns.length)).getD j 0 = tot (arrives hist t) j net.syns := by
  have e := foldl_places (arrives hist t) ⟨0, 0, 0, 0⟩ addTo net.syns [] (zeros net.neus.length)
  rw [List.nil_append, List.length_nil] at e
  unfold sumsOf arriving
  rw [List.range_eq_range', e, foldl_add_get _ _ j hj _ _ (zeros_length _), zeros_getD, Int.zero_add]
/-! ### what waits, place by place -/
theorem bump_get (p : List (List Int)) (sy : Sy) (k j n : Nat) (t : Tab n p) (hk : k < 15) (hj : j < n) (hd : 1 ≤ sy.delay) (h2 : sy.delay ≤ 15) :
    ((bump p sy).getD k []).getD j 0 = (p.getD k []).getD j 0 + (if sy.delay = k + 1 ∧ sy.tgt = j then sy.w else 0) := by
  unfold bump
  rw [getD_set_row]
  by_cases h : sy.delay - 1 = k
  · subst h
    rw [if_pos ⟨rfl, by rw [t.len]; exact hk⟩, getD_set, t.getD hk]
    by_cases ht : sy.tgt = j
    · rw [if_pos ⟨ht, hj⟩, if_pos ⟨by omega, ht⟩, ht]
    · rw [if_neg fun z => ht z.1, if_neg fun z => ht z.2, Int.add_zero]
  · rw [if_neg fun z => h z.1, if_neg fun z => h (by omega), Int.add_zero]
theorem sends_get (src : List Int) (n k j : Nat) (hk : k < 15) (hj : j < n) : ∀ (l : List Sy) (p : List (List Int)), Tab n p → (∀ s ∈ l, 1 ≤ s.delay) → (∀ s ∈ l, s.delay ≤ 15) →
    ((l.foldl (sends src) p).getD k []).getD j 0 = (p.getD k []).getD j 0 + tot (fun s => decide (s.src ∈ src) && decide (s.delay = k + 1)) j l
  | [], p, _, _, _ => (Int.add_zero _).symm
  | x :: r, p, t, h1, h2 => by
    have a1 := h1 x List.mem_cons_self
    have a2 := h2 x List.mem_cons_self
    rw [List.foldl_cons, sends_get src n k j hk hj r _ (t.sends a2 a1) (fun s hs => h1 s (List.mem_cons_of_mem _ hs)) fun s hs => h2 s (List.mem_cons_of_mem _ hs)]
    show _ = _ + ((if (decide (x.src ∈ src) && decide (x.delay = k + 1)) = true ∧ x.tgt = j then x.w else 0) + tot _ j r)
    unfold sends
    by_cases hs : x.src ∈ src
    · rw [if_pos hs, bump_get p x k j n t hk hj a1 a2]
      by_cases hd : x.delay = k + 1
      · by_cases ht : x.tgt = j
        · rw [if_pos ⟨hd, ht⟩, if_pos ⟨by simp [hs, hd], ht⟩]; omega
        · rw [if_neg fun z => ht z.2, if_neg fun z => ht z.2]; omega
      · rw [if_neg fun z => hd z.1, if_neg (by simp [hd])]; omega
    · rw [if_neg hs, if_neg (by simp [hs])]; omega
theorem rowD (p : List (List Int)) (k : Nat) : p.getD k [] = p[k]?.getD [] := List.getD_eq_getElem?_getD
theorem pend0_get (net : Net) (s : S) (h : s.Ok net) (k j : Nat) (hk : k < 15) : ((pend0 net s).getD k []).getD j 0 = if k < 14 then (s.pend.getD (k + 1) []).getD j 0 else 0 := by
  unfold pend0
  rw [rowD]
  by_cases h14 : k < 14
  · rw [if_pos h14, List.getElem?_append_left (by rw [List.length_drop, h.n]; omega), List.getElem?_drop, rowD, Nat.add_comm 1 k]
  · have e : k = 14 := by omega
    subst e
    rw [if_neg h14, List.getElem?_append_right (by rw [List.length_drop, h.n]; omega), List.length_drop, h.n]
    exact zeros_getD _ _

/-! ### both runs in step -/
theorem list_ext {a b : List Int} (h : a.length = b.length) (g : ∀ j, j < a.length → a.getD j 0 = b.getD j 0) : a = b := by
  refine List.ext_getElem h fun i h1 h2 => ?_
  have z := g i h1
  rw [List.getD_eq_getElem?_getD, List.getD_eq_getElem?_getD, List.getElem?_eq_getElem h1, List.getElem?_eq_getElem h2] at z
  exact z
structure Step (net : Net) (r : R) (s : S) : Prop where
  ok : s.Ok net
  pots : r.pots = s.pots
  rests : r.rests = s.rests
  pend : ∀ k j, k < 15 → j < net.neus.length → (s.pend.getD k []).getD j 0 = tot (fun sy => decide (k < sy.delay) && arrives r.hist (r.hist.length + k) sy) j net.syns
theorem step_sums {net : Net} {r : R} {s : S} (hn : net.Ok) (h : Step net r s) : runSums net r = s.pend.getD 0 [] := by
  have l1 : (runSums net r).length = net.neus.length := sumsOf_length ..
  have l2 : (s.pend.getD 0 []).length = net.neus.length := h.ok.tab.getD (by decide)
  refine list_ext (l1.trans l2.symm) fun j hj => ?_
  rw [l1] at hj
  unfold runSums
  rw [sums_get net _ _ j hj, h.pend 0 j (by decide) hj]
  refine tot_congr fun sy hs => ?_
  have d := hn.d1 sy hs
  rw [decide_eq_true (show 0 < sy.delay from d), Bool.true_and, Nat.add_zero]
theorem step_next {net : Net} {r : R} {s : S} (hn : net.Ok) (h : Step net r s) (x : List Int) : Step net (runStep net r x) (after net s x) ∧ runFired net r = fired net s := by
  have es := step_sums hn h
  have ef : runFired net r = fired net s := by
    unfold runFired fired
    rw [es, h.pots, h.rests]
  refine ⟨⟨after_ok hn h.ok x, ?_, ?_, fun k j hk hj => ?_⟩, ef⟩
  · show potsOf _ _ _ _ _ = potsOf _ _ _ _ _
    rw [es, h.pots, h.rests]
  · show restsOf _ _ _ _ _ = restsOf _ _ _ _ _
    rw [es, h.pots, h.rests]
  · show ((net.syns.foldl (sends (srcs net x (fired net s))) (pend0 net s)).getD k []).getD j 0 = tot (fun sy => decide (k < sy.delay) && arrives (r.hist ++ [srcs net x (runFired net r)]) ((r.hist ++ [srcs net x (runFired net r)]).length + k) sy) j net.syns
    rw [sends_get _ _ k j hk hj _ _ (pend0_tab h.ok) hn.d1 fun s hs => Nat.le_trans (hn.d2 s hs) (by decide), pend0_get net s h.ok k j hk, ef, List.length_append]
    have e1 : (if k < 14 then (s.pend.getD (k + 1) []).getD j 0 else 0) = tot (fun sy => decide (k + 1 < sy.delay) && arrives r.hist (r.hist.length + (k + 1)) sy) j net.syns := by
      by_cases h14 : k < 14
      · rw [if_pos h14, h.pend (k + 1) j (by omega) hj]
      · rw [if_neg h14]
        refine (tot_none fun sy hs => ?_).symm
        have d := hn.d2 sy hs
        rw [decide_eq_false (by omega), Bool.false_and]
    rw [e1, ← tot_add]
    · refine tot_congr fun sy hs => ?_
      have d := hn.d1 sy hs
      unfold arrives
      show (decide (k + 1 < sy.delay) && (decide (sy.delay ≤ r.hist.length + (k + 1)) && decide (sy.src ∈ r.hist.getD (r.hist.length + (k + 1) - sy.delay) [])) || decide (sy.src ∈ srcs net x (fired net s)) && decide (sy.delay = k + 1)) =
        (decide (k < sy.delay) && (decide (sy.delay ≤ r.hist.length + 1 + k) && decide (sy.src ∈ (r.hist ++ [srcs net x (fired net s)]).getD (r.hist.length + 1 + k - sy.delay) [])))
      have ea : r.hist.length + 1 + k = r.hist.length + (k + 1) := by omega
      rw [ea]
      by_cases c1 : k + 1 < sy.delay
      · have c2 : ¬ sy.delay = k + 1 := by omega
        rw [decide_eq_true c1, decide_eq_false c2, decide_eq_true (show k < sy.delay by omega), Bool.true_and, Bool.and_false, Bool.or_false, Bool.true_and]
        by_cases c3 : sy.delay ≤ r.hist.length + (k + 1)
        · rw [decide_eq_true c3, Bool.true_and, Bool.true_and, List.getD_eq_getElem?_getD, List.getD_eq_getElem?_getD, List.getElem?_append_left (by omega)]
        · rw [decide_eq_false c3, Bool.false_and, Bool.false_and]
      · rw [decide_eq_false c1, Bool.false_and, Bool.false_or]
        by_cases c2 : sy.delay = k + 1
        · rw [decide_eq_true c2, Bool.and_true, decide_eq_true (show k < sy.delay by omega), Bool.true_and, decide_eq_true (show sy.delay ≤ r.hist.length + (k + 1) by omega), Bool.true_and]
          have e3 : r.hist.length + (k + 1) - sy.delay = r.hist.length := by omega
          rw [e3, List.getD_eq_getElem?_getD, List.getElem?_append_right (Nat.le_refl _), Nat.sub_self]
          rfl
        · rw [decide_eq_false c2, Bool.and_false, decide_eq_false (show ¬ k < sy.delay by omega), Bool.false_and]
    · rintro sy hs ⟨a, b⟩
      simp only [Bool.and_eq_true, decide_eq_true_eq] at a b
      omega
theorem step_0 (net : Net) : Step net (run0 net) (init net) := by
  refine ⟨init_ok net, rfl, rfl, fun k j hk hj => ?_⟩
  have e1 : ((init net).pend.getD k []).getD j 0 = 0 := by
    show ((List.replicate 15 (zeros net.neus.length)).getD k []).getD j 0 = 0
    rw [rowD, List.getElem?_replicate, if_pos hk]
    exact zeros_getD _ _
  rw [e1]
  refine (tot_none fun sy _ => ?_).symm
  show (decide (k < sy.delay) && (decide (sy.delay ≤ 0 + k) && _)) = false
  by_cases c : k < sy.delay
  · rw [decide_eq_false (show ¬ sy.delay ≤ 0 + k by omega), Bool.false_and, Bool.and_false]
  · rw [decide_eq_false c, Bool.false_and]
theorem run_all {net : Net} (hn : net.Ok) : ∀ (X : List (List Int)) (r : R) (s : S), Step net r s → (X.foldl (runStep net) r).spikes = r.spikes ++ fires net s X
  | [], r, s, _ => (List.append_nil _).symm
  | x :: l, r, s, h => by
    obtain ⟨h1, h2⟩ := step_next hn h x
    rw [List.foldl_cons, run_all hn l _ _ h1]
    show (r.spikes ++ [runFired net r]) ++ _ = r.spikes ++ (fired net s :: _)
    rw [h2, List.append_assoc]
    rfl
/-- the run's spikes are the states' -/
theorem runM_fires {net : Net} (hn : net.Ok) (X : List (List Int)) : runM net X = fires net (init net) X := by
  have e := run_all hn X _ _ (step_0 net)
  exact e
/-- what the law finds first in a run -/
theorem law_first {net : Net} (hn : net.Ok) {cl : Cl} (hc : cl.Ok) (X : List (List Int)) : lawFirst cl X (runM net X) = wFirst net cl (p0 net) X := by
  rw [runM_fires hn, first_eq net hc]
end SK

/-! Spikehold: the search through the pairs. -/
namespace SK

structure Srch (net : Net) (cl : Cl) (stim : Nat → List Int) (M : Nat) (ps : List Pair) (os : List (Nat × Nat)) (at_ num : Nat) (lv : Nat → Nat) : Prop where
  hd : ps[0]? = some (p0 net)
  len : os.length = ps.length
  nd : ps.Nodup
  ok : ∀ p ∈ ps, p.1.Ok net
  lv0 : lv 0 = 0
  o0 : os[0]? = some (0, 0)
  org : ∀ i, 0 < i → i < ps.length → ∃ j k, os[i]? = some (j, k) ∧ j < i ∧ k < M ∧ lv i = lv j + 1 ∧ ∃ p, ps[j]? = some p ∧ ps[i]? = some (nxt net cl p (stim k))
  mono : ∀ i j, i ≤ j → j < ps.length → lv i ≤ lv j
  top : ∀ i, i < ps.length → at_ < ps.length → lv i ≤ lv at_ + 1
  done : ∀ j k p, ps[j]? = some p → (j < at_ ∧ k < M) ∨ (j = at_ ∧ k < num) → brk cl net p = false ∧ ∃ i, ps[i]? = some (nxt net cl p (stim k)) ∧ lv i ≤ lv j + 1

section
variable {net : Net} {cl : Cl} {stim : Nat → List Int} {M : Nat} {ps : List Pair} {os : List (Nat × Nat)} {a num : Nat} {lv : Nat → Nat}
theorem Srch.start : Srch net cl stim M [p0 net] [(0, 0)] 0 0 (fun _ => 0) where
  hd := rfl
  len := rfl
  nd := by simp
  ok := fun p hp => by
    rw [List.mem_singleton.mp hp]
    exact init_ok net
  lv0 := rfl
  o0 := rfl
  org := fun i h1 h2 => absurd h2 (by simp; omega)
  mono := fun _ _ _ _ => Nat.le_refl _
  top := fun _ _ _ => Nat.zero_le _
  done := fun j k p _ h => by rcases h with ⟨h, _⟩ | ⟨_, h⟩ <;> exact absurd h (Nat.not_lt_zero _)
theorem lt_of_get {α : Type} {l : List α} {i : Nat} {x : α} (h : l[i]? = some x) : i < l.length := (List.getElem?_eq_some_iff.mp h).1
theorem mem_of_get {α : Type} {l : List α} {i : Nat} {x : α} (h : l[i]? = some x) : x ∈ l := List.mem_of_getElem? h
theorem Srch.known {p : Pair} (s : Srch net cl stim M ps os a num lv) (hp : ps[a]? = some p) (hb : brk cl net p = false) (hk : nxt net cl p (stim num) ∈ ps) : Srch net cl stim M ps os a (num + 1) lv :=
  { s with
    done := fun j k q hq h => by
      rcases h with h | ⟨rfl, h⟩
      · exact s.done j k q hq (.inl h)
      · rcases Nat.lt_succ_iff_lt_or_eq.mp h with h | h
        · exact s.done _ k q hq (.inr ⟨rfl, h⟩)
        · subst h
          rw [hp] at hq
          have e : p = q := Option.some.inj hq
          subst e
          obtain ⟨i, hi, e⟩ := List.mem_iff_getElem.mp hk
          exact ⟨hb, i, by rw [List.getElem?_eq_getElem hi, e], s.top i hi (lt_of_get hp)⟩ }
theorem Srch.new {p : Pair} (hn : net.Ok) (s : Srch net cl stim M ps os a num lv) (hp : ps[a]? = some p) (hb : brk cl net p = false) (hk : ¬ nxt net cl p (stim num) ∈ ps) (hm : num < M) :
    Srch net cl stim M (ps ++ [nxt net cl p (stim num)]) (os ++ [(a, num)]) a (num + 1) (fun i => if i < ps.length then lv i else lv a + 1) := by
  have ha := lt_of_get hp
  have h0 := lt_of_get s.hd
  have keep : ∀ {i : Nat} {q : Pair}, ps[i]? = some q → (ps ++ [nxt net cl p (stim num)])[i]? = some q := fun h => by
    rw [List.getElem?_append_left (lt_of_get h)]
    exact h
  have last : (ps ++ [nxt net cl p (stim num)])[ps.length]? = some (nxt net cl p (stim num)) := by
    rw [List.getElem?_append_right (Nat.le_refl _), Nat.sub_self]
    rfl
  have back : ∀ {i : Nat}, i < ps.length → (ps ++ [nxt net cl p (stim num)])[i]? = ps[i]? := fun h => List.getElem?_append_left h
  refine ⟨keep s.hd, by rw [List.length_append, List.length_append, s.len]; rfl, ?_, fun q hq => ?_, ?_, ?_, fun i h1 h2 => ?_, fun i j hij hj => ?_, fun i hi _ => ?_, fun j k q hq h => ?_⟩
  · rw [List.nodup_append]
    refine ⟨s.nd, by simp, fun x hx y hy e => ?_⟩
    rw [List.mem_singleton] at hy
    subst hy e
    exact hk hx
  · rcases List.mem_append.mp hq with hq | hq
    · exact s.ok q hq
    · rw [List.mem_singleton.mp hq]
      exact after_ok hn (s.ok p (mem_of_get hp)) _
  · show (if 0 < ps.length then lv 0 else lv a + 1) = 0
    rw [if_pos h0, s.lv0]
  · rw [List.getElem?_append_left (by rw [s.len]; exact h0)]
    exact s.o0
  · by_cases hi : i < ps.length
    · obtain ⟨j, k, e1, e2, e3, e4, q, e5, e6⟩ := s.org i h1 hi
      refine ⟨j, k, ?_, e2, e3, ?_, q, keep e5, keep e6⟩
      · rw [List.getElem?_append_left (by rw [s.len]; exact hi)]
        exact e1
      · show (if i < ps.length then lv i else lv a + 1) = (if j < ps.length then lv j else lv a + 1) + 1
        rw [if_pos hi, if_pos (Nat.lt_trans e2 hi), e4]
    · have ei : i = ps.length := by
        rw [List.length_append] at h2
        have h2 : i < ps.length + 1 := h2
        omega
      subst ei
      refine ⟨a, num, ?_, ha, hm, ?_, p, keep hp, last⟩
      · rw [List.getElem?_append_right (by rw [s.len]; exact Nat.le_refl _), s.len, Nat.sub_self]
        rfl
      · show (if ps.length < ps.length then lv ps.length else lv a + 1) = (if a < ps.length then lv a else lv a + 1) + 1
        rw [if_neg (Nat.lt_irrefl _), if_pos ha]
  · show (if i < ps.length then lv i else lv a + 1) ≤ (if j < ps.length then lv j else lv a + 1)
    by_cases h1 : j < ps.length
    · rw [if_pos h1, if_pos (Nat.lt_of_le_of_lt hij h1)]
      exact s.mono i j hij h1
    · rw [if_neg h1]
      by_cases h2 : i < ps.length
      · rw [if_pos h2]
        exact s.top i h2 ha
      · rw [if_neg h2]
        exact Nat.le_refl _
  · show (if i < ps.length then lv i else lv a + 1) ≤ (if a < ps.length then lv a else lv a + 1) + 1
    rw [if_pos ha]
    by_cases h2 : i < ps.length
    · rw [if_pos h2]
      exact s.top i h2 ha
    · rw [if_neg h2]
      exact Nat.le_refl _
  · have hj : j ≤ a := by rcases h with ⟨h, _⟩ | ⟨h, _⟩ <;> omega
    have hj2 : j < ps.length := Nat.lt_of_le_of_lt hj ha
    rw [back hj2] at hq
    have old : (j < a ∧ k < M) ∨ (j = a ∧ k < num) → brk cl net q = false ∧ ∃ i, (ps ++ [nxt net cl p (stim num)])[i]? = some (nxt net cl q (stim k)) ∧ (if i < ps.length then lv i else lv a + 1) ≤ (if j < ps.length then lv j else lv a + 1) + 1 := fun h => by
      obtain ⟨h1, i, h2, h3⟩ := s.done j k q hq h
      exact ⟨h1, i, keep h2, by rw [if_pos (lt_of_get h2), if_pos hj2]; exact h3⟩
    rcases h with h | ⟨rfl, h⟩
    · exact old (.inl h)
    · rcases Nat.lt_succ_iff_lt_or_eq.mp h with h | h
      · exact old (.inr ⟨rfl, h⟩)
      · subst h
        rw [hp] at hq
        have e : p = q := Option.some.inj hq
        subst e
        refine ⟨hb, ps.length, last, ?_⟩
        show (if ps.length < ps.length then lv ps.length else lv j + 1) ≤ (if j < ps.length then lv j else lv j + 1) + 1
        rw [if_neg (Nat.lt_irrefl _), if_pos hj2]
        exact Nat.le_refl _
theorem Srch.next (s : Srch net cl stim M ps os a M lv) : Srch net cl stim M ps os (a + 1) 0 lv :=
  { s with
    top := fun i hi h => Nat.le_trans (s.top i hi (by omega)) (Nat.succ_le_succ (s.mono a (a + 1) (Nat.le_succ _) h))
    done := fun j k q hq h => by
      rcases h with ⟨h, hk⟩ | ⟨_, h⟩
      · rcases Nat.lt_succ_iff_lt_or_eq.mp h with h | h
        · exact s.done j k q hq (.inl ⟨h, hk⟩)
        · exact s.done j k q hq (.inr ⟨h, hk⟩)
      · exact absurd h (Nat.not_lt_zero _) }

/-! ### ways -/
inductive Way (os : List (Nat × Nat)) : Nat → List Nat → Prop
  | start : Way os 0 []
  | step {i j k : Nat} {ks : List Nat} : os[i]? = some (j, k) → 0 < i → j < i → Way os j ks → Way os i (ks ++ [k])
/-- a place's origin lies ahead of it -/
def Back (os : List (Nat × Nat)) : Prop := ∀ i j k, 0 < i → os[i]? = some (j, k) → j < i
theorem way_ex {os : List (Nat × Nat)} (hb : Back os) : ∀ (i : Nat), i < os.length → ∃ ks, Way os i ks := by
  intro i
  induction i using Nat.strongRecOn with
  | ind i ih =>
    intro hi
    by_cases h0 : i = 0
    · subst h0; exact ⟨[], .start⟩
    · have e : os[i]? = some (os[i].1, os[i].2) := List.getElem?_eq_getElem hi
      have hj := hb i _ _ (Nat.pos_of_ne_zero h0) e
      obtain ⟨ks, w⟩ := ih _ hj (Nat.lt_trans hj hi)
      exact ⟨_, .step e (Nat.pos_of_ne_zero h0) hj w⟩
theorem Srch.back (s : Srch net cl stim M ps os a num lv) : Back os := fun i j k h e => by
  have hi : i < ps.length := by rw [← s.len]; exact lt_of_get e
  obtain ⟨j', k', e1, e2, _⟩ := s.org i h hi
  rw [e] at e1
  injection e1 with e1
  injection e1 with e3 e4
  omega
theorem Srch.way (s : Srch net cl stim M ps os a num lv) {i : Nat} {ks : List Nat} (w : Way os i ks) : i < ps.length → ks.length = lv i ∧ (∀ k ∈ ks, k < M) ∧ ps[i]? = some (reach net cl (p0 net) (ks.map stim)) := by
  induction w with
  | start => intro _; exact ⟨s.lv0.symm, (fun k h => by cases h), s.hd⟩
  | @step i j k ks e h0 hj w ih =>
    intro hi
    obtain ⟨h1, h2, h3⟩ := ih (Nat.lt_trans hj hi)
    obtain ⟨j', k', e1, e2, e3, e4, p, e5, e6⟩ := s.org i h0 hi
    rw [e] at e1
    injection e1 with e1
    injection e1 with a1 a2
    subst a1 a2
    refine ⟨by rw [List.length_append, h1, e4]; rfl, fun x hx => ?_, ?_⟩
    · rcases List.mem_append.mp hx with hx | hx
      · exact h2 x hx
      · rw [List.mem_singleton.mp hx]; exact e3
    · rw [List.map_append, List.map_singleton, reach_snoc, e6]
      rw [h3] at e5
      rw [Option.some.inj e5]
theorem wFirst_none_append (p : Pair) : ∀ (A B : List (List Int)) (p : Pair), wFirst net cl p A = none → wFirst net cl p (A ++ B) = (wFirst net cl (reach net cl p A) B).map (· + A.length)
  | [], B, p, _ => by
    show wFirst net cl p B = (wFirst net cl p B).map (· + 0)
    cases wFirst net cl p B <;> rfl
  | x :: r, B, p, h => by
    have h1 : (if brk cl net p = true then some 0 else (wFirst net cl (nxt net cl p x) r).map (· + 1)) = none := h
    show (if brk cl net p = true then some 0 else (wFirst net cl (nxt net cl p x) (r ++ B)).map (· + 1)) = _
    by_cases hb : brk cl net p = true
    · rw [if_pos hb] at h1; cases h1
    · rw [if_neg hb] at h1
      have h2 : wFirst net cl (nxt net cl p x) r = none := by
        cases q : wFirst net cl (nxt net cl p x) r with
        | none => rfl
        | some z => rw [q] at h1; cases h1
      rw [if_neg hb, wFirst_none_append p r B _ h2]
      show Option.map _ (Option.map _ (wFirst net cl (reach net cl (nxt net cl p x) r) B)) = Option.map _ (wFirst net cl (reach net cl (nxt net cl p x) r) B)
      cases wFirst net cl (reach net cl (nxt net cl p x) r) B with
      | none => rfl
      | some z => show some (z + r.length + 1) = some (z + (r.length + 1)); rw [Nat.add_assoc]
/-- runs of at most lv a turns break nothing -/
theorem Srch.calm (s : Srch net cl stim M ps os a num lv) (ha : a < ps.length) : ∀ (ks : List Nat) (i : Nat) (p : Pair) (t : Nat), ps[i]? = some p → lv i ≤ t → t + ks.length ≤ lv a → (∀ k ∈ ks, k < M) → wFirst net cl p (ks.map stim) = none
  | [], _, _, _, _, _, _, _ => rfl
  | k :: r, i, p, t, hp, hl, ht, hk => by
    have ht : t + (r.length + 1) ≤ lv a := ht
    have hi := lt_of_get hp
    have hia : i < a := by
      rcases Nat.lt_or_ge i a with h | h
      · exact h
      · have := s.mono a i h hi
        omega
    obtain ⟨hb, j, hj, hl2⟩ := s.done i k p hp (.inl ⟨hia, hk k List.mem_cons_self⟩)
    have ih := s.calm ha r j _ (t + 1) hj (by omega) (by omega) fun x hx => hk x (List.mem_cons_of_mem _ hx)
    show (if brk cl net p = true then some 0 else (wFirst net cl (nxt net cl p (stim k)) (r.map stim)).map (· + 1)) = none
    rw [if_neg (by rw [hb]; decide), ih]
    rfl
end

/-! ### answers -/
inductive Ans where
  | breaks (ks : List Nat)
  | opn
  | holds (ps : List Pair)
def AnsOk (net : Net) (cl : Cl) (stim : Nat → List Int) (M most : Nat) : Ans → Prop
  | .breaks ks => 0 < ks.length ∧ (∀ k ∈ ks, k < M) ∧ wFirst net cl (p0 net) (ks.map stim) = some (ks.length - 1) ∧
      ∀ js : List Nat, (∀ k ∈ js, k < M) → js.length < ks.length → wFirst net cl (p0 net) (js.map stim) = none
  | .opn => True
  | .holds ps => ps[0]? = some (p0 net) ∧ ps.Nodup ∧ ps.length ≤ most ∧ (∀ p ∈ ps, p.1.Ok net) ∧ ∀ p ∈ ps, ∀ k, k < M → brk cl net p = false ∧ nxt net cl p (stim k) ∈ ps
section
variable {net : Net} {cl : Cl} {stim : Nat → List Int} {M most : Nat} {ps : List Pair} {os : List (Nat × Nat)} {a num : Nat} {lv : Nat → Nat}
theorem Srch.breaks {p : Pair} {ks : List Nat} (s : Srch net cl stim M ps os a num lv) (hp : ps[a]? = some p) (hb : brk cl net p = true) (hm : num < M) (w : Way os a ks) : AnsOk net cl stim M most (.breaks (ks ++ [num])) := by
  have ha := lt_of_get hp
  obtain ⟨h1, h2, h3⟩ := s.way w ha
  rw [hp] at h3
  have e := Option.some.inj h3
  have none : wFirst net cl (p0 net) (ks.map stim) = none := s.calm ha ks 0 (p0 net) 0 s.hd (by rw [s.lv0]; exact Nat.le_refl _) (by omega) h2
  refine ⟨by rw [List.length_append]; exact Nat.succ_pos _, fun k hk => ?_, ?_, fun js hj hl => ?_⟩
  · rcases List.mem_append.mp hk with hk | hk
    · exact h2 k hk
    · rw [List.mem_singleton.mp hk]; exact hm
  · rw [List.map_append, List.map_singleton, wFirst_none_append p _ _ _ none, ← e]
    show Option.map _ (if brk cl net p = true then some 0 else _) = _
    rw [if_pos hb, List.length_append, List.length_map]
    show some (0 + ks.length) = some (ks.length + 1 - 1)
    rw [Nat.zero_add]
    rfl
  · rw [List.length_append] at hl
    have hl : js.length < ks.length + 1 := hl
    exact s.calm ha js 0 (p0 net) 0 s.hd (by rw [s.lv0]; exact Nat.le_refl _) (by omega) hj
theorem Srch.holds (s : Srch net cl stim M ps os a num lv) (ha : ps.length ≤ a) (hm : ps.length ≤ most) : AnsOk net cl stim M most (.holds ps) := by
  refine ⟨s.hd, s.nd, hm, s.ok, fun p hp k hk => ?_⟩
  obtain ⟨i, hi, e⟩ := List.mem_iff_getElem.mp hp
  obtain ⟨h1, j, h2, _⟩ := s.done i k p (by rw [List.getElem?_eq_getElem hi, e]) (.inl ⟨by omega, hk⟩)
  exact ⟨h1, mem_of_get h2⟩
/-- behind a closed list no run breaks -/
theorem holds_calm (h : AnsOk net cl stim M most (.holds ps)) : ∀ (ks : List Nat) (p : Pair), p ∈ ps → (∀ k ∈ ks, k < M) → wFirst net cl p (ks.map stim) = none
  | [], _, _, _ => rfl
  | k :: r, p, hp, hk => by
    obtain ⟨h1, h2⟩ := h.2.2.2.2 p hp k (hk k List.mem_cons_self)
    show (if brk cl net p = true then some 0 else (wFirst net cl (nxt net cl p (stim k)) (r.map stim)).map (· + 1)) = none
    rw [if_neg (by rw [h1]; decide), holds_calm h r _ h2 fun x hx => hk x (List.mem_cons_of_mem _ hx)]
    rfl
end
/-- the digits of a number: the law's numbered stimuli -/
def nums (M : Int) : Int → Nat → List Int
  | _, 0 => []
  | n, t + 1 => n % M :: nums M (n / M) t
end SK

/-! Spikehold: the text by places, what its top leaves. -/
namespace SK
open PySem PySem.Spec PyProof.Rows L2
def topS (i : Nat) : Stmt := PySem.Challenge.pw_spikehold_k19_whole_decided_claims.main.body.getD i (.Pass ⟨0, 0, 0, 0⟩)
abbrev sStep : Stmt := topS 3
abbrev sInitialState : Stmt := topS 6
abbrev sAdvance : Stmt := topS 7
abbrev sStimulusOf : Stmt := topS 8
abbrev sNextWatch : Stmt := topS 9
abbrev sIsBroken : Stmt := topS 10
abbrev sPathTo : Stmt := topS 11
abbrev sDecide : Stmt := topS 12
abbrev sCheckBreak : Stmt := topS 13
abbrev sCheckPairs : Stmt := topS 14
abbrev sCheckAnswer : Stmt := topS 15
abbrev sRun : Stmt := topS 24
abbrev sLawCell : Stmt := topS 26
abbrev sLawSmall : Stmt := topS 27
abbrev sLawClaim : Stmt := topS 28
abbrev sLawBreaks : Stmt := topS 29
abbrev sLawFirst : Stmt := topS 30
abbrev sLawNumbered : Stmt := topS 31
abbrev sLawBroken : Stmt := topS 32
abbrev sLawClosed : Stmt := topS 33
abbrev sLaw : Stmt := topS 34
abbrev sNeuronInit : Stmt := inClass (topS 2) 0
abbrev sSynapseInit : Stmt := inClass (topS 17) 0
abbrev sNetworkInit : Stmt := inClass (topS 18) 0
abbrev sRunInit : Stmt := inClass (topS 19) 0
abbrev sCellsInit : Stmt := inClass (topS 23) 0
abbrev sCellsArrive : Stmt := inClass (topS 23) 1
abbrev sCellsFire : Stmt := inClass (topS 23) 2
abbrev sCellsLearn : Stmt := inClass (topS 23) 3
abbrev sCellsTick : Stmt := inClass (topS 23) 6
def dStep : He.DefD := ⟨("step", none), "step", "step", defArgs sStep, defBody sStep, defScope sStep, [], []⟩
def dInitialState : He.DefD := ⟨("initial_state", none), "initial_state", "initial_state", defArgs sInitialState, defBody sInitialState, defScope sInitialState, [], []⟩
def dAdvance : He.DefD := ⟨("advance", none), "advance", "advance", defArgs sAdvance, defBody sAdvance, defScope sAdvance, [], []⟩
def dStimulusOf : He.DefD := ⟨("stimulus_of", none), "stimulus_of", "stimulus_of", defArgs sStimulusOf, defBody sStimulusOf, defScope sStimulusOf, [], []⟩
def dNextWatch : He.DefD := ⟨("next_watch", none), "next_watch", "next_watch", defArgs sNextWatch, defBody sNextWatch, defScope sNextWatch, [], []⟩
def dIsBroken : He.DefD := ⟨("is_broken", none), "is_broken", "is_broken", defArgs sIsBroken, defBody sIsBroken, defScope sIsBroken, [], []⟩
def dPathTo : He.DefD := ⟨("path_to", none), "path_to", "path_to", defArgs sPathTo, defBody sPathTo, defScope sPathTo, [], []⟩
def dDecide : He.DefD := ⟨("decide", none), "decide", "decide", defArgs sDecide, defBody sDecide, defScope sDecide, [], []⟩
def dCheckBreak : He.DefD := ⟨("check_break", none), "check_break", "check_break", defArgs sCheckBreak, defBody sCheckBreak, defScope sCheckBreak, [], []⟩
def dCheckPairs : He.DefD := ⟨("check_pairs", none), "check_pairs", "check_pairs", defArgs sCheckPairs, defBody sCheckPairs, defScope sCheckPairs, [], []⟩
def dCheckAnswer : He.DefD := ⟨("check_answer", none), "check_answer", "check_answer", defArgs sCheckAnswer, defBody sCheckAnswer, defScope sCheckAnswer, [], []⟩
def dRun : He.DefD := ⟨("run", none), "run", "run", defArgs sRun, defBody sRun, defScope sRun, [], []⟩
def dLawCell : He.DefD := ⟨("_law_cell", none), "_law_cell", "_law_cell", defArgs sLawCell, defBody sLawCell, defScope sLawCell, [], []⟩
def dLawSmall : He.DefD := ⟨("_law_small", none), "_law_small", "_law_small", defArgs sLawSmall, defBody sLawSmall, defScope sLawSmall, [], []⟩
def dLawClaim : He.DefD := ⟨("_law_claim", none), "_law_claim", "_law_claim", defArgs sLawClaim, defBody sLawClaim, defScope sLawClaim, [], []⟩
def dLawBreaks : He.DefD := ⟨("_law_breaks", none), "_law_breaks", "_law_breaks", defArgs sLawBreaks, defBody sLawBreaks, defScope sLawBreaks, [], []⟩
def dLawFirst : He.DefD := ⟨("_law_first", none), "_law_first", "_law_first", defArgs sLawFirst, defBody sLawFirst, defScope sLawFirst, [], []⟩
def dLawNumbered : He.DefD := ⟨("_law_numbered", none), "_law_numbered", "_law_numbered", defArgs sLawNumbered, defBody sLawNumbered, defScope sLawNumbered, [], []⟩
def dLawBroken : He.DefD := ⟨("_law_broken", none), "_law_broken", "_law_broken", defArgs sLawBroken, defBody sLawBroken, defScope sLawBroken, [], []⟩
def dLawClosed : He.DefD := ⟨("_law_closed", none), "_law_closed", "_law_closed", defArgs sLawClosed, defBody sLawClosed, defScope sLawClosed, [], []⟩
def dLaw : He.DefD := ⟨("law", none), "law", "law", defArgs sLaw, defBody sLaw, defScope sLaw, [], []⟩
def dNeuronInit : He.DefD := ⟨("Neuron", some "__init__"), "__init__", "Neuron.__init__", defArgs sNeuronInit, defBody sNeuronInit, defScope sNeuronInit, [], [("leak", .int 0), ("refractory", .int 0), ("floor", .int 0), ("subtract", .bl false)]⟩
def dSynapseInit : He.DefD := ⟨("Synapse", some "__init__"), "__init__", "Synapse.__init__", defArgs sSynapseInit, defBody sSynapseInit, defScope sSynapseInit, [.bl false], []⟩
def dNetworkInit : He.DefD := ⟨("Network", some "__init__"), "__init__", "Network.__init__", defArgs sNetworkInit, defBody sNetworkInit, defScope sNetworkInit, [.non], []⟩
def dRunInit : He.DefD := ⟨("Run", some "__init__"), "__init__", "Run.__init__", defArgs sRunInit, defBody sRunInit, defScope sRunInit, [], []⟩
def dCellsInit : He.DefD := ⟨("Cells", some "__init__"), "__init__", "Cells.__init__", defArgs sCellsInit, defBody sCellsInit, defScope sCellsInit, [], []⟩
def dCellsArrive : He.DefD := ⟨("Cells", some "arrive"), "arrive", "Cells.arrive", defArgs sCellsArrive, defBody sCellsArrive, defScope sCellsArrive, [], []⟩
def dCellsFire : He.DefD := ⟨("Cells", some "fire"), "fire", "Cells.fire", defArgs sCellsFire, defBody sCellsFire, defScope sCellsFire, [], []⟩
def dCellsLearn : He.DefD := ⟨("Cells", some "learn"), "learn", "Cells.learn", defArgs sCellsLearn, defBody sCellsLearn, defScope sCellsLearn, [], []⟩
def dCellsTick : He.DefD := ⟨("Cells", some "tick"), "tick", "Cells.tick", defArgs sCellsTick, defBody sCellsTick, defScope sCellsTick, [], []⟩
def fnL : List He.DefD := [dStep, dInitialState, dAdvance, dStimulusOf, dNextWatch, dIsBroken, dPathTo, dDecide, dCheckBreak, dCheckPairs, dCheckAnswer, dRun, dLawCell, dLawSmall, dLawClaim, dLawBreaks, dLawFirst, dLawNumbered, dLawBroken, dLawClosed, dLaw, dNeuronInit, dSynapseInit, dNetworkInit, dRunInit, dCellsInit, dCellsArrive, dCellsFire, dCellsLearn, dCellsTick]
def faL : List He.Fa := [.glo "step", .glo "initial_state", .glo "advance", .glo "stimulus_of", .glo "next_watch", .glo "is_broken", .glo "path_to", .glo "decide", .glo "check_break", .glo "check_pairs", .glo "check_answer", .glo "run", .glo "_law_cell", .glo "_law_small", .glo "_law_claim", .glo "_law_breaks", .glo "_law_first", .glo "_law_numbered", .glo "_law_broken", .glo "_law_closed", .glo "law", .glo "Neuron", .cls "Neuron", .mkr "Neuron", .noat "Neuron" "threshold", .noat "Neuron" "leak", .noat "Neuron" "refractory", .noat "Neuron" "floor", .noat "Neuron" "subtract", .glo "Synapse", .cls "Synapse", .mkr "Synapse", .noat "Synapse" "source", .noat "Synapse" "target", .noat "Synapse" "weight", .noat "Synapse" "delay", .noat "Synapse" "plastic", .glo "Network", .cls "Network", .mkr "Network", .noat "Network" "inputs", .noat "Network" "neurons", .noat "Network" "synapses", .noat "Network" "rule", .glo "Run", .cls "Run", .mkr "Run", .noat "Run" "spikes", .noat "Run" "weights", .glo "Cells", .cls "Cells", .mkr "Cells", .noat "Cells" "neurons", .noat "Cells" "synapses", .noat "Cells" "rule", .noat "Cells" "potentials", .noat "Cells" "rests", .noat "Cells" "last_spikes", .noat "Cells" "weights", .noat "Cells" "last_arrivals", .meth "Cells" "arrive", .meth "Cells" "fire", .meth "Cells" "learn", .meth "Cells" "tick", .free "len", .free "range", .free "tuple", .free "list", .free "max", .free "min", .free "int", .free "isinstance", .int "DELAYS" 15]
def names : List PySem.Str := ["_wall", "step", "initial_state", "advance", "stimulus_of", "next_watch", "is_broken", "path_to", "decide", "check_break", "check_pairs", "check_answer", "run", "_law_cell", "_law_small", "_law_claim", "_law_breaks", "_law_first", "_law_numbered", "_law_broken", "_law_closed", "Neuron", "Synapse", "Network", "Run", "Cells", "DELAYS", "depressed", "potentiated", "recent"]
abbrev RO : PySem.W.OpenRow := PySem.W.OpenLaw.row PySem.Challenge.rw_spikehold_k19_whole_decided_claims
abbrev hk : PySem.W.Hook := He.hookD 6 faL fnL
def ob (s : PySem.W.SharedT) : He.AlD := He.obsDG 6 faL fnL (HandSHeadRun.getT s)
theorem ob_eq (s : PySem.W.SharedT) : ob s = hk.obs s.abs := He.obsDG_eq (HandSHeadRun.getT_eq s)
theorem run_eq (w : World) : HandSHeadRun.RunEq RO (PySem.W.view RO.prog [34]) hk ob 3000 names w := by
  intro os
  kernel_rfl
end SK

/-! Spikehold: the head's facts by names. -/
namespace SK
open PySem PySem.Spec PyProof.Rows L2
structure Txt (K : PySem.W.Frag) (mg : Str → Option Value) : Prop where
  c : He.SaysD faL fnL K
  X : ∃ h : Heap, K.In h ∧ h.Ns mainGlobals mg
section
variable {K : PySem.W.Frag} {mg : Str → Option Value}
theorem Txt.gl_step (T : Txt K mg) : mg "step" = some (.ref (He.ga K "step")) := let ⟨_, X, G⟩ := T.X; He.glo_ok X G (T.c.fact 0 (f := .glo "step"))
theorem Txt.gl_initial_state (T : Txt K mg) : mg "initial_state" = some (.ref (He.ga K "initial_state")) := let ⟨_, X, G⟩ := T.X; He.glo_ok X G (T.c.fact 1 (f := .glo "initial_state"))
theorem Txt.gl_advance (T : Txt K mg) : mg "advance" = some (.ref (He.ga K "advance")) := let ⟨_, X, G⟩ := T.X; He.glo_ok X G (T.c.fact 2 (f := .glo "advance"))
theorem Txt.gl_stimulus_of (T : Txt K mg) : mg "stimulus_of" = some (.ref (He.ga K "stimulus_of")) := let ⟨_, X, G⟩ := T.X; He.glo_ok X G (T.c.fact 3 (f := .glo "stimulus_of"))
theorem Txt.gl_next_watch (T : Txt K mg) : mg "next_watch" = some (.ref (He.ga K "next_watch")) := let ⟨_, X, G⟩ := T.X; He.glo_ok X G (T.c.fact 4 (f := .glo "next_watch"))
theorem Txt.gl_is_broken (T : Txt K mg) : mg "is_broken" = some (.ref (He.ga K "is_broken")) := let ⟨_, X, G⟩ := T.X; He.glo_ok X G (T.c.fact 5 (f := .glo "is_broken"))
theorem Txt.gl_path_to (T : Txt K mg) : mg "path_to" = some (.ref (He.ga K "path_to")) := let ⟨_, X, G⟩ := T.X; He.glo_ok X G (T.c.fact 6 (f := .glo "path_to"))
theorem Txt.gl_decide (T : Txt K mg) : mg "decide" = some (.ref (He.ga K "decide")) := let ⟨_, X, G⟩ := T.X; He.glo_ok X G (T.c.fact 7 (f := .glo "decide"))
theorem Txt.gl_check_break (T : Txt K mg) : mg "check_break" = some (.ref (He.ga K "check_break")) := let ⟨_, X, G⟩ := T.X; He.glo_ok X G (T.c.fact 8 (f := .glo "check_break"))
theorem Txt.gl_check_pairs (T : Txt K mg) : mg "check_pairs" = some (.ref (He.ga K "check_pairs")) := let ⟨_, X, G⟩ := T.X; He.glo_ok X G (T.c.fact 9 (f := .glo "check_pairs"))
theorem Txt.gl_check_answer (T : Txt K mg) : mg "check_answer" = some (.ref (He.ga K "check_answer")) := let ⟨_, X, G⟩ := T.X; He.glo_ok X G (T.c.fact 10 (f := .glo "check_answer"))
theorem Txt.gl_run (T : Txt K mg) : mg "run" = some (.ref (He.ga K "run")) := let ⟨_, X, G⟩ := T.X; He.glo_ok X G (T.c.fact 11 (f := .glo "run"))
theorem Txt.gl__law_cell (T : Txt K mg) : mg "_law_cell" = some (.ref (He.ga K "_law_cell")) := let ⟨_, X, G⟩ := T.X; He.glo_ok X G (T.c.fact 12 (f := .glo "_law_cell"))
theorem Txt.gl__law_small (T : Txt K mg) : mg "_law_small" = some (.ref (He.ga K "_law_small")) := let ⟨_, X, G⟩ := T.X; He.glo_ok X G (T.c.fact 13 (f := .glo "_law_small"))
theorem Txt.gl__law_claim (T : Txt K mg) : mg "_law_claim" = some (.ref (He.ga K "_law_claim")) := let ⟨_, X, G⟩ := T.X; He.glo_ok X G (T.c.fact 14 (f := .glo "_law_claim"))
theorem Txt.gl__law_breaks (T : Txt K mg) : mg "_law_breaks" = some (.ref (He.ga K "_law_breaks")) := let ⟨_, X, G⟩ := T.X; He.glo_ok X G (T.c.fact 15 (f := .glo "_law_breaks"))
theorem Txt.gl__law_first (T : Txt K mg) : mg "_law_first" = some (.ref (He.ga K "_law_first")) := let ⟨_, X, G⟩ := T.X; He.glo_ok X G (T.c.fact 16 (f := .glo "_law_first"))
theorem Txt.gl__law_numbered (T : Txt K mg) : mg "_law_numbered" = some (.ref (He.ga K "_law_numbered")) := let ⟨_, X, G⟩ := T.X; He.glo_ok X G (T.c.fact 17 (f := .glo "_law_numbered"))
theorem Txt.gl__law_broken (T : Txt K mg) : mg "_law_broken" = some (.ref (He.ga K "_law_broken")) := let ⟨_, X, G⟩ := T.X; He.glo_ok X G (T.c.fact 18 (f := .glo "_law_broken"))
theorem Txt.gl__law_closed (T : Txt K mg) : mg "_law_closed" = some (.ref (He.ga K "_law_closed")) := let ⟨_, X, G⟩ := T.X; He.glo_ok X G (T.c.fact 19 (f := .glo "_law_closed"))
theorem Txt.gl_law (T : Txt K mg) : mg "law" = some (.ref (He.ga K "law")) := let ⟨_, X, G⟩ := T.X; He.glo_ok X G (T.c.fact 20 (f := .glo "law"))
theorem Txt.gl_Neuron (T : Txt K mg) : mg "Neuron" = some (.ref (He.ga K "Neuron")) := let ⟨_, X, G⟩ := T.X; He.glo_ok X G (T.c.fact 21 (f := .glo "Neuron"))
theorem Txt.cl_Neuron (T : Txt K mg) : Cls K (He.ga K "Neuron") := He.cls_ok (T.c.fact 22 (f := .cls "Neuron"))
theorem Txt.mk_Neuron (T : Txt K mg) : Mk K (He.ga K "Neuron") (He.ma K (He.ga K "Neuron") "__init__") := He.mkr_ok (T.c.fact 23 (f := .mkr "Neuron"))
theorem Txt.na_Neuron_threshold (T : Txt K mg) : NoAttr K (He.ga K "Neuron") "threshold" := He.noat_ok (T.c.fact 24 (f := .noat "Neuron" "threshold"))
theorem Txt.na_Neuron_leak (T : Txt K mg) : NoAttr K (He.ga K "Neuron") "leak" := He.noat_ok (T.c.fact 25 (f := .noat "Neuron" "leak"))
theorem Txt.na_Neuron_refractory (T : Txt K mg) : NoAttr K (He.ga K "Neuron") "refractory" := He.noat_ok (T.c.fact 26 (f := .noat "Neuron" "refractory"))
theorem Txt.na_Neuron_floor (T : Txt K mg) : NoAttr K (He.ga K "Neuron") "floor" := He.noat_ok (T.c.fact 27 (f := .noat "Neuron" "floor"))
theorem Txt.na_Neuron_subtract (T : Txt K mg) : NoAttr K (He.ga K "Neuron") "subtract" := He.noat_ok (T.c.fact 28 (f := .noat "Neuron" "subtract"))
theorem Txt.gl_Synapse (T : Txt K mg) : mg "Synapse" = some (.ref (He.ga K "Synapse")) := let ⟨_, X, G⟩ := T.X; He.glo_ok X G (T.c.fact 29 (f := .glo "Synapse"))
theorem Txt.cl_Synapse (T : Txt K mg) : Cls K (He.ga K "Synapse") := He.cls_ok (T.c.fact 30 (f := .cls "Synapse"))
theorem Txt.mk_Synapse (T : Txt K mg) : Mk K (He.ga K "Synapse") (He.ma K (He.ga K "Synapse") "__init__") := He.mkr_ok (T.c.fact 31 (f := .mkr "Synapse"))
theorem Txt.na_Synapse_source (T : Txt K mg) : NoAttr K (He.ga K "Synapse") "source" := He.noat_ok (T.c.fact 32 (f := .noat "Synapse" "source"))
theorem Txt.na_Synapse_target (T : Txt K mg) : NoAttr K (He.ga K "Synapse") "target" := He.noat_ok (T.c.fact 33 (f := .noat "Synapse" "target"))
theorem Txt.na_Synapse_weight (T : Txt K mg) : NoAttr K (He.ga K "Synapse") "weight" := He.noat_ok (T.c.fact 34 (f := .noat "Synapse" "weight"))
theorem Txt.na_Synapse_delay (T : Txt K mg) : NoAttr K (He.ga K "Synapse") "delay" := He.noat_ok (T.c.fact 35 (f := .noat "Synapse" "delay"))
theorem Txt.na_Synapse_plastic (T : Txt K mg) : NoAttr K (He.ga K "Synapse") "plastic" := He.noat_ok (T.c.fact 36 (f := .noat "Synapse" "plastic"))
theorem Txt.gl_Network (T : Txt K mg) : mg "Network" = some (.ref (He.ga K "Network")) := let ⟨_, X, G⟩ := T.X; He.glo_ok X G (T.c.fact 37 (f := .glo "Network"))
theorem Txt.cl_Network (T : Txt K mg) : Cls K (He.ga K "Network") := He.cls_ok (T.c.fact 38 (f := .cls "Network"))
theorem Txt.mk_Network (T : Txt K mg) : Mk K (He.ga K "Network") (He.ma K (He.ga K "Network") "__init__") := He.mkr_ok (T.c.fact 39 (f := .mkr "Network"))
theorem Txt.na_Network_inputs (T : Txt K mg) : NoAttr K (He.ga K "Network") "inputs" := He.noat_ok (T.c.fact 40 (f := .noat "Network" "inputs"))
theorem Txt.na_Network_neurons (T : Txt K mg) : NoAttr K (He.ga K "Network") "neurons" := He.noat_ok (T.c.fact 41 (f := .noat "Network" "neurons"))
theorem Txt.na_Network_synapses (T : Txt K mg) : NoAttr K (He.ga K "Network") "synapses" := He.noat_ok (T.c.fact 42 (f := .noat "Network" "synapses"))
theorem Txt.na_Network_rule (T : Txt K mg) : NoAttr K (He.ga K "Network") "rule" := He.noat_ok (T.c.fact 43 (f := .noat "Network" "rule"))
theorem Txt.gl_Run (T : Txt K mg) : mg "Run" = some (.ref (He.ga K "Run")) := let ⟨_, X, G⟩ := T.X; He.glo_ok X G (T.c.fact 44 (f := .glo "Run"))
theorem Txt.cl_Run (T : Txt K mg) : Cls K (He.ga K "Run") := He.cls_ok (T.c.fact 45 (f := .cls "Run"))
theorem Txt.mk_Run (T : Txt K mg) : Mk K (He.ga K "Run") (He.ma K (He.ga K "Run") "__init__") := He.mkr_ok (T.c.fact 46 (f := .mkr "Run"))
theorem Txt.na_Run_spikes (T : Txt K mg) : NoAttr K (He.ga K "Run") "spikes" := He.noat_ok (T.c.fact 47 (f := .noat "Run" "spikes"))
theorem Txt.na_Run_weights (T : Txt K mg) : NoAttr K (He.ga K "Run") "weights" := He.noat_ok (T.c.fact 48 (f := .noat "Run" "weights"))
theorem Txt.gl_Cells (T : Txt K mg) : mg "Cells" = some (.ref (He.ga K "Cells")) := let ⟨_, X, G⟩ := T.X; He.glo_ok X G (T.c.fact 49 (f := .glo "Cells"))
theorem Txt.cl_Cells (T : Txt K mg) : Cls K (He.ga K "Cells") := He.cls_ok (T.c.fact 50 (f := .cls "Cells"))
theorem Txt.mk_Cells (T : Txt K mg) : Mk K (He.ga K "Cells") (He.ma K (He.ga K "Cells") "__init__") := He.mkr_ok (T.c.fact 51 (f := .mkr "Cells"))
theorem Txt.na_Cells_neurons (T : Txt K mg) : NoAttr K (He.ga K "Cells") "neurons" := He.noat_ok (T.c.fact 52 (f := .noat "Cells" "neurons"))
theorem Txt.na_Cells_synapses (T : Txt K mg) : NoAttr K (He.ga K "Cells") "synapses" := He.noat_ok (T.c.fact 53 (f := .noat "Cells" "synapses"))
theorem Txt.na_Cells_rule (T : Txt K mg) : NoAttr K (He.ga K "Cells") "rule" := He.noat_ok (T.c.fact 54 (f := .noat "Cells" "rule"))
theorem Txt.na_Cells_potentials (T : Txt K mg) : NoAttr K (He.ga K "Cells") "potentials" := He.noat_ok (T.c.fact 55 (f := .noat "Cells" "potentials"))
theorem Txt.na_Cells_rests (T : Txt K mg) : NoAttr K (He.ga K "Cells") "rests" := He.noat_ok (T.c.fact 56 (f := .noat "Cells" "rests"))
theorem Txt.na_Cells_last_spikes (T : Txt K mg) : NoAttr K (He.ga K "Cells") "last_spikes" := He.noat_ok (T.c.fact 57 (f := .noat "Cells" "last_spikes"))
theorem Txt.na_Cells_weights (T : Txt K mg) : NoAttr K (He.ga K "Cells") "weights" := He.noat_ok (T.c.fact 58 (f := .noat "Cells" "weights"))
theorem Txt.na_Cells_last_arrivals (T : Txt K mg) : NoAttr K (He.ga K "Cells") "last_arrivals" := He.noat_ok (T.c.fact 59 (f := .noat "Cells" "last_arrivals"))
theorem Txt.me_arrive (T : Txt K mg) : Meth K (He.ga K "Cells") "arrive" (He.ma K (He.ga K "Cells") "arrive") := He.meth_ok (T.c.fact 60 (f := .meth "Cells" "arrive"))
theorem Txt.me_fire (T : Txt K mg) : Meth K (He.ga K "Cells") "fire" (He.ma K (He.ga K "Cells") "fire") := He.meth_ok (T.c.fact 61 (f := .meth "Cells" "fire"))
theorem Txt.me_learn (T : Txt K mg) : Meth K (He.ga K "Cells") "learn" (He.ma K (He.ga K "Cells") "learn") := He.meth_ok (T.c.fact 62 (f := .meth "Cells" "learn"))
theorem Txt.me_tick (T : Txt K mg) : Meth K (He.ga K "Cells") "tick" (He.ma K (He.ga K "Cells") "tick") := He.meth_ok (T.c.fact 63 (f := .meth "Cells" "tick"))
theorem Txt.fr_len (T : Txt K mg) : mg "len" = none := let ⟨_, X, G⟩ := T.X; He.free_ok X G (T.c.fact 64 (f := .free "len"))
theorem Txt.fr_range (T : Txt K mg) : mg "range" = none := let ⟨_, X, G⟩ := T.X; He.free_ok X G (T.c.fact 65 (f := .free "range"))
theorem Txt.fr_tuple (T : Txt K mg) : mg "tuple" = none := let ⟨_, X, G⟩ := T.X; He.free_ok X G (T.c.fact 66 (f := .free "tuple"))
theorem Txt.fr_list (T : Txt K mg) : mg "list" = none := let ⟨_, X, G⟩ := T.X; He.free_ok X G (T.c.fact 67 (f := .free "list"))
theorem Txt.fr_max (T : Txt K mg) : mg "max" = none := let ⟨_, X, G⟩ := T.X; He.free_ok X G (T.c.fact 68 (f := .free "max"))
theorem Txt.fr_min (T : Txt K mg) : mg "min" = none := let ⟨_, X, G⟩ := T.X; He.free_ok X G (T.c.fact 69 (f := .free "min"))
theorem Txt.fr_int (T : Txt K mg) : mg "int" = none := let ⟨_, X, G⟩ := T.X; He.free_ok X G (T.c.fact 70 (f := .free "int"))
theorem Txt.fr_isinstance (T : Txt K mg) : mg "isinstance" = none := let ⟨_, X, G⟩ := T.X; He.free_ok X G (T.c.fact 71 (f := .free "isinstance"))
theorem Txt.de (T : Txt K mg) : ∃ t, mg "DELAYS" = some (.int 15 t) := let ⟨_, X, G⟩ := T.X; He.int_ok X G (T.c.fact 72 (f := .int "DELAYS" 15))
theorem Txt.fn_step (T : Txt K mg) : ∃ fd, FunD K "step" "step" (defArgs sStep) (defBody sStep) (defScope sStep) [] [] (He.ga K "step") fd := T.c.def_ 0 (d := dStep)
theorem Txt.fn_initial_state (T : Txt K mg) : ∃ fd, FunD K "initial_state" "initial_state" (defArgs sInitialState) (defBody sInitialState) (defScope sInitialState) [] [] (He.ga K "initial_state") fd := T.c.def_ 1 (d := dInitialState)
theorem Txt.fn_advance (T : Txt K mg) : ∃ fd, FunD K "advance" "advance" (defArgs sAdvance) (defBody sAdvance) (defScope sAdvance) [] [] (He.ga K "advance") fd := T.c.def_ 2 (d := dAdvance)
theorem Txt.fn_stimulus_of (T : Txt K mg) : ∃ fd, FunD K "stimulus_of" "stimulus_of" (defArgs sStimulusOf) (defBody sStimulusOf) (defScope sStimulusOf) [] [] (He.ga K "stimulus_of") fd := T.c.def_ 3 (d := dStimulusOf)
theorem Txt.fn_next_watch (T : Txt K mg) : ∃ fd, FunD K "next_watch" "next_watch" (defArgs sNextWatch) (defBody sNextWatch) (defScope sNextWatch) [] [] (He.ga K "next_watch") fd := T.c.def_ 4 (d := dNextWatch)
theorem Txt.fn_is_broken (T : Txt K mg) : ∃ fd, FunD K "is_broken" "is_broken" (defArgs sIsBroken) (defBody sIsBroken) (defScope sIsBroken) [] [] (He.ga K "is_broken") fd := T.c.def_ 5 (d := dIsBroken)
theorem Txt.fn_path_to (T : Txt K mg) : ∃ fd, FunD K "path_to" "path_to" (defArgs sPathTo) (defBody sPathTo) (defScope sPathTo) [] [] (He.ga K "path_to") fd := T.c.def_ 6 (d := dPathTo)
theorem Txt.fn_decide (T : Txt K mg) : ∃ fd, FunD K "decide" "decide" (defArgs sDecide) (defBody sDecide) (defScope sDecide) [] [] (He.ga K "decide") fd := T.c.def_ 7 (d := dDecide)
theorem Txt.fn_check_break (T : Txt K mg) : ∃ fd, FunD K "check_break" "check_break" (defArgs sCheckBreak) (defBody sCheckBreak) (defScope sCheckBreak) [] [] (He.ga K "check_break") fd := T.c.def_ 8 (d := dCheckBreak)
theorem Txt.fn_check_pairs (T : Txt K mg) : ∃ fd, FunD K "check_pairs" "check_pairs" (defArgs sCheckPairs) (defBody sCheckPairs) (defScope sCheckPairs) [] [] (He.ga K "check_pairs") fd := T.c.def_ 9 (d := dCheckPairs)
theorem Txt.fn_check_answer (T : Txt K mg) : ∃ fd, FunD K "check_answer" "check_answer" (defArgs sCheckAnswer) (defBody sCheckAnswer) (defScope sCheckAnswer) [] [] (He.ga K "check_answer") fd := T.c.def_ 10 (d := dCheckAnswer)
theorem Txt.fn_run (T : Txt K mg) : ∃ fd, FunD K "run" "run" (defArgs sRun) (defBody sRun) (defScope sRun) [] [] (He.ga K "run") fd := T.c.def_ 11 (d := dRun)
theorem Txt.fn__law_cell (T : Txt K mg) : ∃ fd, FunD K "_law_cell" "_law_cell" (defArgs sLawCell) (defBody sLawCell) (defScope sLawCell) [] [] (He.ga K "_law_cell") fd := T.c.def_ 12 (d := dLawCell)
theorem Txt.fn__law_small (T : Txt K mg) : ∃ fd, FunD K "_law_small" "_law_small" (defArgs sLawSmall) (defBody sLawSmall) (defScope sLawSmall) [] [] (He.ga K "_law_small") fd := T.c.def_ 13 (d := dLawSmall)
theorem Txt.fn__law_claim (T : Txt K mg) : ∃ fd, FunD K "_law_claim" "_law_claim" (defArgs sLawClaim) (defBody sLawClaim) (defScope sLawClaim) [] [] (He.ga K "_law_claim") fd := T.c.def_ 14 (d := dLawClaim)
theorem Txt.fn__law_breaks (T : Txt K mg) : ∃ fd, FunD K "_law_breaks" "_law_breaks" (defArgs sLawBreaks) (defBody sLawBreaks) (defScope sLawBreaks) [] [] (He.ga K "_law_breaks") fd := T.c.def_ 15 (d := dLawBreaks)
theorem Txt.fn__law_first (T : Txt K mg) : ∃ fd, FunD K "_law_first" "_law_first" (defArgs sLawFirst) (defBody sLawFirst) (defScope sLawFirst) [] [] (He.ga K "_law_first") fd := T.c.def_ 16 (d := dLawFirst)
theorem Txt.fn__law_numbered (T : Txt K mg) : ∃ fd, FunD K "_law_numbered" "_law_numbered" (defArgs sLawNumbered) (defBody sLawNumbered) (defScope sLawNumbered) [] [] (He.ga K "_law_numbered") fd := T.c.def_ 17 (d := dLawNumbered)
theorem Txt.fn__law_broken (T : Txt K mg) : ∃ fd, FunD K "_law_broken" "_law_broken" (defArgs sLawBroken) (defBody sLawBroken) (defScope sLawBroken) [] [] (He.ga K "_law_broken") fd := T.c.def_ 18 (d := dLawBroken)
theorem Txt.fn__law_closed (T : Txt K mg) : ∃ fd, FunD K "_law_closed" "_law_closed" (defArgs sLawClosed) (defBody sLawClosed) (defScope sLawClosed) [] [] (He.ga K "_law_closed") fd := T.c.def_ 19 (d := dLawClosed)
theorem Txt.fn_law (T : Txt K mg) : ∃ fd, FunD K "law" "law" (defArgs sLaw) (defBody sLaw) (defScope sLaw) [] [] (He.ga K "law") fd := T.c.def_ 20 (d := dLaw)
theorem Txt.fn_Neuron_init (T : Txt K mg) : ∃ fd, FunD K "__init__" "Neuron.__init__" (defArgs sNeuronInit) (defBody sNeuronInit) (defScope sNeuronInit) [] [("leak", .int 0), ("refractory", .int 0), ("floor", .int 0), ("subtract", .bl false)] (He.ma K (He.ga K "Neuron") "__init__") fd := T.c.def_ 21 (d := dNeuronInit)
theorem Txt.fn_Synapse_init (T : Txt K mg) : ∃ fd, FunD K "__init__" "Synapse.__init__" (defArgs sSynapseInit) (defBody sSynapseInit) (defScope sSynapseInit) [.bl false] [] (He.ma K (He.ga K "Synapse") "__init__") fd := T.c.def_ 22 (d := dSynapseInit)
theorem Txt.fn_Network_init (T : Txt K mg) : ∃ fd, FunD K "__init__" "Network.__init__" (defArgs sNetworkInit) (defBody sNetworkInit) (defScope sNetworkInit) [.non] [] (He.ma K (He.ga K "Network") "__init__") fd := T.c.def_ 23 (d := dNetworkInit)
theorem Txt.fn_Run_init (T : Txt K mg) : ∃ fd, FunD K "__init__" "Run.__init__" (defArgs sRunInit) (defBody sRunInit) (defScope sRunInit) [] [] (He.ma K (He.ga K "Run") "__init__") fd := T.c.def_ 24 (d := dRunInit)
theorem Txt.fn_Cells_init (T : Txt K mg) : ∃ fd, FunD K "__init__" "Cells.__init__" (defArgs sCellsInit) (defBody sCellsInit) (defScope sCellsInit) [] [] (He.ma K (He.ga K "Cells") "__init__") fd := T.c.def_ 25 (d := dCellsInit)
theorem Txt.fn_Cells_arrive (T : Txt K mg) : ∃ fd, FunD K "arrive" "Cells.arrive" (defArgs sCellsArrive) (defBody sCellsArrive) (defScope sCellsArrive) [] [] (He.ma K (He.ga K "Cells") "arrive") fd := T.c.def_ 26 (d := dCellsArrive)
theorem Txt.fn_Cells_fire (T : Txt K mg) : ∃ fd, FunD K "fire" "Cells.fire" (defArgs sCellsFire) (defBody sCellsFire) (defScope sCellsFire) [] [] (He.ma K (He.ga K "Cells") "fire") fd := T.c.def_ 27 (d := dCellsFire)
theorem Txt.fn_Cells_learn (T : Txt K mg) : ∃ fd, FunD K "learn" "Cells.learn" (defArgs sCellsLearn) (defBody sCellsLearn) (defScope sCellsLearn) [] [] (He.ma K (He.ga K "Cells") "learn") fd := T.c.def_ 28 (d := dCellsLearn)
theorem Txt.fn_Cells_tick (T : Txt K mg) : ∃ fd, FunD K "tick" "Cells.tick" (defArgs sCellsTick) (defBody sCellsTick) (defScope sCellsTick) [] [] (He.ma K (He.ga K "Cells") "tick") fd := T.c.def_ 29 (d := dCellsTick)
end
end SK

/-! Spikehold: shared rules and readings. -/
namespace SK
open PySem PySem.Spec PyProof.Rows L2

/-! ### a def by its name -/
def Has (P : Program) (w : World) (K : PySem.W.Frag) (mg : Str → Option Value) (base : Heap) (k : Nat) (x : Str) (ps : List Str) (sp : Sp) : Prop :=
  ∃ f fd, mg x = some (.ref f) ∧ PySem.W.keepIn K (.ref f) = true ∧ Binds K fd ps [] ∧ FnOk P w K mg base CX0 k f fd ps sp
def HasM (P : Program) (w : World) (K : PySem.W.Frag) (mg : Str → Option Value) (base : Heap) (k : Nat) (C : Addr) (m : Str) (ps : List Str) (sp : Sp) : Prop :=
  ∃ f fd, Meth K C m f ∧ Binds K fd ps [] ∧ FnOk P w K mg base CX0 k f fd ps sp
def HasC (P : Program) (w : World) (K : PySem.W.Frag) (mg : Str → Option Value) (base : Heap) (k : Nat) (x : Str) (C : Addr) (ps : List Str) (dvs : List V) (sp : Sp) : Prop :=
  ∃ f fd ds, mg x = some (.ref C) ∧ Mk K C f ∧ Binds K fd ps ds ∧ Vals dvs ds ∧ FnOk P w K mg base CX0 k f fd ps sp
section
variable {X : Cx} {k : Nat} {x m : Str} {ps : List Str} {sp : Sp} {p pos apos : Pos} {e o : Expr} {es : List Expr} {t : TA} {to : TE} {C : Addr} {dvs : List V}
theorem pe_callH (h : Has X.prog X.w X.K X.mg X.base k x ps sp) (hr : Room k X.A) (hg : Gl X x) (ha : PA X (e :: es) t) (hdb : (x == ("__debug__" : Str)) = false := by decide)
    (he : starEach (e :: es) X.env = (false, eval e X.env) :: starEach es X.env := by rfl) (hpl : (backTo pos (starEach es X.env)).any (·.1) = false := by rfl) : PE X (.Call (.Name x p) (e :: es) [] pos) (tCall sp [] E0 t) := by
  obtain ⟨f, fd, hm, hk, hb, F⟩ := h
  exact pe_call F hr hg hm hk hb .nil pass0 ha hdb he hpl
theorem pe_methH {pl : Sem Bool} (h : HasM X.prog X.w X.K X.mg X.base k C m ps sp) (hc : Cls X.K C) (hr : Room k X.A) (ho : PE X o to) (ha : PA X (e :: es) t)
    (hst : starEach (e :: es) X.env = (false, eval e X.env) :: starEach es X.env := by rfl) (hpl : (backTo pos (starEach es X.env)).any (·.1) = false := by rfl)
    (ht : eval (.Call (.Attribute o m apos) (e :: es) [] pos) X.env = (do
      let ov ← eval o X.env
      standAt apos.atName
      let (f, first) ← holding [ov] (getMethod ov m pl)
      callWith pos f first (backTo pos (starEach (e :: es) X.env)) (backToKw pos (keywordEach [] X.env))) := by rfl) : PE X (.Call (.Attribute o m apos) (e :: es) [] pos) (tMeth C m sp [] E0 to t) := by
  obtain ⟨f, fd, hm, hb, F⟩ := h
  exact pe_meth (pl := pl) ho hc hm F hr hb .nil pass0 ha hst hpl ht
theorem pe_makeH (h : HasC X.prog X.w X.K X.mg X.base k x C ps dvs sp) (hr : Room (k + 1) X.A) (hg : Gl X x) (ha : PA X (e :: es) t) (hdb : (x == ("__debug__" : Str)) = false := by decide)
    (he : starEach (e :: es) X.env = (false, eval e X.env) :: starEach es X.env := by rfl) (hpl : (backTo pos (starEach es X.env)).any (·.1) = false := by rfl) : PE X (.Call (.Name x p) (e :: es) [] pos) (tMake C sp dvs E0 t) := by
  obtain ⟨f, fd, ds, hm, M, hb, hd, F⟩ := h
  exact pe_make M F hr hg hm hb hd pass0 ha hdb he hpl
end
section
variable {P : Program} {w : World} {K : PySem.W.Frag} {mg : Str → Option Value} {base : Heap}
theorem fn_ok {x qual : Str} {params : Arguments} {body : List Stmt} {scope : Scope} {dvs : List V} {kws : List (Str × V)} {f : Addr} {fd : FuncData} {N ps : List Str} {k : Nat} {sp : Sp} (F : FunD K x qual params body scope dvs kws f fd) (S : FnScope N ps scope)
    (len : ∀ vs H Q E, sp vs H Q E → vs.length = ps.length)
    (hbody : ∀ (cdv : Value) (A : Around) (outer : List Env) (s : Shared) (H : Hp) (vs : List V) (Q : VK) (E : XK), Room k (A.deeper (envOfC qual scope s.heap.objs.size f cdv)) → sp vs H Q E →
      ∃ t, PSs (cxOf CX0 P w K mg base N qual scope f cdv A outer s H E).nox body t ∧ t { nx := fun _ H' => Q .non H', rt := Q } (start N vs) H) : FnOk P w K mg base CX0 (k + 1) f fd ps sp :=
  F.ok S len fun cdv A outer s H vs Q E hr h => let ⟨t, a, b⟩ := hbody cdv A outer s H vs Q E hr h; ⟨t, a.nox, b⟩
theorem Has.mono {j k : Nat} {x : Str} {ps : List Str} {sp : Sp} (h : Has P w K mg base j x ps sp) (l : j ≤ k) : Has P w K mg base k x ps sp :=
  let ⟨f, fd, a, b, c, F⟩ := h; ⟨f, fd, a, b, c, F.mono l⟩
end

/-! ### heaps -/
theorem same_new {H : Hp} {p : Addr} {o : HO} (h : H p = none) : Same H (upd H p o) := fun b u e => by
  rw [upd_ne (ne_of_none e h)]
  exact e
theorem same_mut {H H' : Hp} {p : Addr} {o : HO} (e : Same H H') (h : H p = none) : Same H (upd H' p o) := fun b u q => by
  rw [upd_ne (ne_of_none q h)]
  exact e b u q
/-- the tuples stay -/
def Tu (H H' : Hp) : Prop := ∀ b xs, H b = some (.tup xs) → H' b = some (.tup xs)
theorem Same.tu {H H' : Hp} (e : Same H H') : Tu H H' := fun b xs h => e b _ h
theorem Tu.refl (H : Hp) : Tu H H := fun _ _ h => h
theorem Tu.trans {H H1 H2 : Hp} (a : Tu H H1) (b : Tu H1 H2) : Tu H H2 := fun c xs h => b c xs (a c xs h)
theorem tu_mut {H : Hp} {p : Addr} {o u : HO} (h : H p = some u) (hn : ∀ xs, u ≠ .tup xs) : Tu H (upd H p o) := fun b xs e => by
  rw [upd_ne fun z => by subst z; rw [h] at e; exact hn xs (Option.some.inj e)]
  exact e
theorem tu_lst {H : Hp} {p : Addr} {o : HO} {ys : List V} (h : H p = some (.lst ys)) : Tu H (upd H p o) := tu_mut h fun xs z => by cases z
theorem tu_ext {H : Hp} {p : Addr} {o : HO} {φ : Heap → Prop} (h : H p = some (.ext φ)) : Tu H (upd H p o) := tu_mut h fun xs z => by cases z

/-! ### tuples of whole numbers, states, pairs -/
def RowsAt (H : Hp) : List V → List (List Int) → Prop := Paired fun v l => ∃ a, v = .ref a ∧ H a = some (.tup (l.map V.int))
def StAt (H : Hp) (v : V) (s : S) : Prop := ∃ (b p r q : Addr) (qs : List V), v = .ref b ∧ H b = some (.tup [.ref p, .ref r, .ref q]) ∧ H p = some (.tup (s.pots.map V.int)) ∧ H r = some (.tup (s.rests.map V.int)) ∧ H q = some (.tup qs) ∧ RowsAt H qs s.pend
def PairAt (H : Hp) (v : V) (p : Pair) : Prop := ∃ (a : Addr) (s : V), v = .ref a ∧ H a = some (.tup [s, .int p.2]) ∧ StAt H s p.1
theorem RowsAt.tu {H H' : Hp} (t : Tu H H') {vs : List V} {ls : List (List Int)} (h : RowsAt H vs ls) : RowsAt H' vs ls := Paired.mapP h fun _ _ ⟨a, e, q⟩ => ⟨a, e, t _ _ q⟩
theorem StAt.tu {H H' : Hp} (t : Tu H H') {v : V} {s : S} (h : StAt H v s) : StAt H' v s :=
  let ⟨b, p, r, q, qs, e, h1, h2, h3, h4, h5⟩ := h; ⟨b, p, r, q, qs, e, t _ _ h1, t _ _ h2, t _ _ h3, t _ _ h4, h5.tu t⟩
theorem PairAt.tu {H H' : Hp} (t : Tu H H') {v : V} {p : Pair} (h : PairAt H v p) : PairAt H' v p :=
  let ⟨a, s, e, h1, h2⟩ := h; ⟨a, s, e, t _ _ h1, h2.tu t⟩
theorem RowsAt.get {H : Hp} : ∀ {vs : List V} {ls : List (List Int)} {i : Nat} {l : List Int}, RowsAt H vs ls → ls[i]? = some l → ∃ a, vs[i]? = some (.ref a) ∧ H a = some (.tup (l.map V.int))
  | _, _, _, _, .nil, h => by simp at h
  | _, _, 0, l, .cons ⟨a, e, q⟩ _, h => by
    have e2 := Option.some.inj (show some _ = some l from h)
    subst e e2
    exact ⟨a, rfl, q⟩
  | _, _, i + 1, l, .cons _ t, h => RowsAt.get (i := i) t h
theorem Paired.len {α β : Type} {R : α → β → Prop} {xs : List α} {ys : List β} (h : Paired R xs ys) : xs.length = ys.length := Paired.length h

/-! ### as data -/
def intsD (l : List Int) : PyData := .tuple (l.map PyData.int)
def stD (s : S) : PyData := .tuple [intsD s.pots, intsD s.rests, .tuple (s.pend.map intsD)]
def pairD (p : Pair) : PyData := .tuple [stD p.1, .int p.2]
theorem dp_ints {K : PySem.W.Frag} {H : Hp} : ∀ l : List Int, DpAll K H (l.map V.int) (l.map PyData.int)
  | [] => .nil
  | i :: r => .cons (.int i) (dp_ints r)
theorem dp_tup {K : PySem.W.Frag} {H : Hp} {a : Addr} {l : List Int} (h : H a = some (.tup (l.map V.int))) : Dp K H (.ref a) (intsD l) := .tup (SqT.of h) (dp_ints l)
theorem dpAll_of {α : Type} {K : PySem.W.Frag} {H : Hp} {R : V → α → Prop} {f : α → PyData} (hd : ∀ v x, R v x → Dp K H v (f x)) : ∀ {vs : List V} {xs : List α}, Paired R vs xs → DpAll K H vs (xs.map f)
  | _, _, .nil => .nil
  | _, _, .cons r t => .cons (hd _ _ r) (dpAll_of hd t)
theorem StAt.dp {K : PySem.W.Frag} {H : Hp} {v : V} {s : S} (h : StAt H v s) : Dp K H v (stD s) := by
  obtain ⟨b, p, r, q, qs, rfl, h1, h2, h3, h4, h5⟩ := h
  exact .tup (SqT.of h1) (.cons (dp_tup h2) (.cons (dp_tup h3) (.cons (.tup (SqT.of h4) (dpAll_of (fun v l ⟨a, e, q⟩ => by subst e; exact dp_tup q) h5)) .nil)))
theorem PairAt.dp {K : PySem.W.Frag} {H : Hp} {v : V} {p : Pair} (h : PairAt H v p) : Dp K H v (pairD p) := by
  obtain ⟨a, s, rfl, h1, h2⟩ := h
  exact .tup (SqT.of h1) (.cons h2.dp (.cons (.int _) .nil))
theorem ints_eqv (a b : List Int) : PyData.eqv (intsD a) (intsD b) = decide (a = b) := by
  show PyData.eqvAll _ _ = _
  exact PySem.W.ked_eqvAll a b
theorem rows_eqv : ∀ a b : List (List Int), PyData.eqvAll (a.map intsD) (b.map intsD) = decide (a = b)
  | [], [] => by simp [PyData.eqvAll]
  | [], _ :: _ => by simp [PyData.eqvAll]
  | _ :: _, [] => by simp [PyData.eqvAll]
  | x :: r, y :: t => by
    simp only [List.map_cons, PyData.eqvAll, ints_eqv, rows_eqv r t]
    by_cases h : x = y <;> by_cases h' : r = t <;> simp [h, h']
theorem pair_eqv (p q : Pair) : PyData.eqv (pairD p) (pairD q) = decide (p = q) := by
  obtain ⟨⟨a, b, c⟩, w⟩ := p
  obtain ⟨⟨a', b', c'⟩, w'⟩ := q
  have e : PyData.eqv (pairD (⟨a, b, c⟩, w)) (pairD (⟨a', b', c'⟩, w')) = ((decide (a = a') && (decide (b = b') && (decide (c = c') && true))) && ((w == w') && true)) := by
    simp only [pairD, stD, PyData.eqv, PyData.eqvAll, ints_eqv, rows_eqv]
  rw [e]
  by_cases h1 : a = a' <;> by_cases h2 : b = b' <;> by_cases h3 : c = c' <;> by_cases h4 : w = w' <;> simp [h1, h2, h3, h4]
theorem ints_lay : ∀ l : List Int, PyData.canLayAll0 (l.map PyData.int) = true
  | [] => by simp [PyData.canLayAll0]
  | i :: r => by simp [PyData.canLayAll0, PyData.canLay0, ints_lay r]
theorem ints_dep : ∀ l : List Int, PyData.depthAll (l.map PyData.int) = 0
  | [] => by simp [PyData.depthAll]
  | i :: r => by simp [PyData.depthAll, PyData.depth, ints_dep r]
theorem rows_lay : ∀ l : List (List Int), PyData.canLayAll0 (l.map intsD) = true
  | [] => by simp [PyData.canLayAll0]
  | i :: r => by simp [PyData.canLayAll0, intsD, PyData.canLay0, ints_lay, rows_lay r]
theorem rows_dep : ∀ l : List (List Int), PyData.depthAll (l.map intsD) ≤ 1
  | [] => by simp [PyData.depthAll]
  | i :: r => by
    have h := rows_dep r
    simp only [List.map_cons, PyData.depthAll, intsD, PyData.depth, ints_dep]
    omega
theorem pair_lay (p : Pair) : (pairD p).canLay0 = true := by simp [pairD, stD, intsD, PyData.canLay0, PyData.canLayAll0, ints_lay, rows_lay]
theorem pair_dep (p : Pair) : (pairD p).depth ≤ 4 := by
  have h := rows_dep p.1.pend
  simp only [pairD, stD, intsD, PyData.depth, PyData.depthAll, ints_dep]
  omega
theorem pairs_lay : ∀ ps : List Pair, PyData.canLayAll0 (ps.map pairD) = true
  | [] => by simp [PyData.canLayAll0]
  | p :: r => by simp [PyData.canLayAll0, pair_lay p, pairs_lay r]
theorem pairs_dep : ∀ ps : List Pair, PyData.depthAll (ps.map pairD) ≤ 4
  | [] => by simp [PyData.depthAll]
  | p :: r => by
    have h1 := pairs_dep r
    have h2 := pair_dep p
    simp only [List.map_cons, PyData.depthAll]
    omega
theorem shaped_of {d : PyData} (h : d.canLay0 = true) (h2 : d.depth ≤ 64) : SeqAt.shaped d = true := by
  show (d.canLay0 && decide (d.depth ≤ 64)) = true
  rw [h, decide_eq_true h2]
  rfl
theorem pair_shaped (p : Pair) : SeqAt.shaped (pairD p) = true := shaped_of (pair_lay p) (by have := pair_dep p; omega)
theorem pairs_shaped (ps : List Pair) : SeqAt.shaped (.list (ps.map pairD)) = true :=
  shaped_of (by simp only [PyData.canLay0]; exact pairs_lay ps) (by have := pairs_dep ps; simp only [PyData.depth]; omega)
theorem any_pair (p : Pair) (ps : List Pair) : ((ps.map pairD).any fun z => PyData.eqv z (pairD p)) = decide (p ∈ ps) := by
  induction ps with
  | nil => rfl
  | cons q r ih =>
    rw [List.map_cons, List.any_cons, ih, pair_eqv]
    by_cases h1 : q = p
    · subst h1; simp
    · by_cases h2 : p ∈ r
      · simp [h1, h2]
      · simp [h1, h2]
        exact fun z => h1 z.symm
def PairsAt (H : Hp) : List V → List Pair → Prop := Paired (PairAt H)
theorem PairsAt.dp {K : PySem.W.Frag} {H : Hp} {vs : List V} {ps : List Pair} (h : PairsAt H vs ps) : DpAll K H vs (ps.map pairD) := dpAll_of (fun _ _ r => r.dp) h
theorem PairsAt.tu {H H' : Hp} (t : Tu H H') {vs : List V} {ps : List Pair} (h : PairsAt H vs ps) : PairsAt H' vs ps := Paired.mapP h fun _ _ r => r.tu t

/-! ### as keys -/
def intsK (l : List Int) : NestedKey := .tup (l.map NestedKey.num)
def stK (s : S) : NestedKey := .tup [intsK s.pots, intsK s.rests, .tup (s.pend.map intsK)]
def pairK (p : Pair) : NestedKey := .tup [stK p.1, .num p.2]
theorem map_inj {α β : Type} {f : α → β} (hf : ∀ a b, f a = f b → a = b) : ∀ {xs ys : List α}, xs.map f = ys.map f → xs = ys
  | [], [], _ => rfl
  | [], _ :: _, h => by simp at h
  | _ :: _, [], h => by simp at h
  | x :: xs, y :: ys, h => by
    rw [List.map_cons, List.map_cons] at h
    injection h with h1 h2
    rw [hf _ _ h1, map_inj hf h2]
theorem intsK_inj {a b : List Int} (h : intsK a = intsK b) : a = b := by
  injection h with h
  exact map_inj (fun _ _ z => by injection z) h
theorem pairK_inj {p q : Pair} (h : pairK p = pairK q) : p = q := by
  obtain ⟨⟨a, b, c⟩, w⟩ := p
  obtain ⟨⟨a', b', c'⟩, w'⟩ := q
  unfold pairK stK at h
  injection h with h
  injection h with h1 h2
  injection h2 with h3 _
  injection h3 with h3
  injection h1 with h1
  injection h1 with k1 k2
  injection k2 with k2 k3
  injection k3 with k3 _
  injection k3 with k3
  have e1 : a = a' := intsK_inj k1
  have e2 : b = b' := intsK_inj k2
  have e3 : c = c' := map_inj (fun _ _ z => intsK_inj z) k3
  have e4 : w = w' := h3
  rw [e1, e2, e3, e4]
theorem intsK_dep : ∀ l : List Int, NestedKey.depthAll (l.map NestedKey.num) = 0
  | [] => by simp [NestedKey.depthAll]
  | i :: r => by simp [NestedKey.depthAll, NestedKey.depth, intsK_dep r]
theorem rowsK_dep : ∀ l : List (List Int), NestedKey.depthAll (l.map intsK) ≤ 1
  | [] => by simp [NestedKey.depthAll]
  | i :: r => by
    have h := rowsK_dep r
    simp only [List.map_cons, NestedKey.depthAll, intsK, NestedKey.depth, intsK_dep]
    omega
theorem pairK_dep (p : Pair) : (pairK p).depth ≤ 8 := by
  have h := rowsK_dep p.1.pend
  simp only [pairK, stK, intsK, NestedKey.depth, NestedKey.depthAll, intsK_dep]
  omega
section
variable {P : Program} {w : World} {H : Hp} {h : Heap}
theorem key_tup {a : Addr} {vs : List V} {ks : List NestedKey} (ok : HOk P w H h) (e : H a = some (.tup vs)) (hk : ∀ its, Vals vs its → NestedAll h ks its) : NestedIs h (.tup ks) (.ref a) := by
  obtain ⟨_, its, r, o, h1, h2, n, h3⟩ := (show ObjOk P w H h a (.tup vs) from ok a _ e)
  exact .tup h1 h2 h3 (by simpa using hk its r)
theorem key_ints : ∀ (l : List Int) (its : List Value), Vals (l.map V.int) its → NestedAll h (l.map NestedKey.num) its
  | [], _, r => by cases r; exact .nil
  | i :: l, _, r => by
    cases r with
    | cons r t =>
      obtain ⟨u, rfl⟩ := r
      exact .cons (.int i u) (key_ints l _ t)
theorem key_row {a : Addr} {l : List Int} (ok : HOk P w H h) (e : H a = some (.tup (l.map V.int))) : NestedIs h (intsK l) (.ref a) := key_tup ok e (key_ints l)
theorem key_rows (ok : HOk P w H h) : ∀ {vs : List V} {ls : List (List Int)}, RowsAt H vs ls → ∀ its, Vals vs its → NestedAll h (ls.map intsK) its
  | _, _, .nil, _, r => by cases r; exact .nil
  | _, _, .cons ⟨a, e, q⟩ t, _, r => by
    cases r with
    | cons r1 r2 =>
      subst e
      cases r1
      exact .cons (key_row ok q) (key_rows ok t _ r2)
theorem key_pair {b : Addr} {p : Pair} (ok : HOk P w H h) (e : PairAt H (.ref b) p) : (nestedKind P w).is h (pairK p) b := by
  obtain ⟨a, s, e1, h1, c, x, r, q, qs, e2, k1, k2, k3, k4, k5⟩ := e
  cases e1
  subst e2
  refine ⟨key_tup ok h1 fun its ri => ?_, pairK_dep p⟩
  cases ri with
  | cons r1 r2 =>
    cases r2 with
    | cons r3 r4 =>
      cases r4
      cases r1
      obtain ⟨t, rfl⟩ := r3
      refine .cons (key_tup ok k1 fun jts rj => ?_) (.cons (.int _ t) .nil)
      cases rj with
      | cons s1 s2 =>
        cases s2 with
        | cons s3 s4 =>
          cases s4 with
          | cons s5 s6 =>
            cases s6
            cases s1
            cases s3
            cases s5
            exact .cons (key_row ok k2) (.cons (key_row ok k3) (.cons (key_tup ok k4 (key_rows ok k5)) .nil))
end

/-! ### a dict whose keys are such pairs, its values True -/
abbrev kx (x : Pair × Addr) : NestedKey × Addr × Value := (pairK x.1, x.2, .bool true)
def dN (P : Program) (w : World) (d : Addr) (xs : List (Pair × Addr)) : HO := .ext fun h => (d == sysModules) = false ∧ xs.length ≤ sizeLine ∧
  ∃ o es ep, h.get? d = some o ∧ o.ExactDict ∧ o.data = .dict es ep ∧ es.toList = (xs.map kx).map (entryOfKey (nestedKind P w)) ∧ (xs.map (·.1)).Nodup
def KeysAt (H : Hp) (xs : List (Pair × Addr)) : Prop := ∀ x ∈ xs, PairAt H (.ref x.2) x.1
theorem KeysAt.tu {H H' : Hp} (t : Tu H H') {xs : List (Pair × Addr)} (h : KeysAt H xs) : KeysAt H' xs := fun x hx => (h x hx).tu t
theorem nodup_map {α β : Type} {f : α → β} (hf : ∀ a b, f a = f b → a = b) : ∀ {l : List α}, l.Nodup → (l.map f).Nodup
  | [], _ => List.nodup_nil
  | a :: r, h => by
    obtain ⟨h1, h2⟩ := List.nodup_cons.mp h
    rw [List.map_cons]
    refine List.nodup_cons.mpr ⟨fun m => ?_, nodup_map hf h2⟩
    obtain ⟨b, hb, e⟩ := List.mem_map.mp m
    rw [hf _ _ e] at hb
    exact h1 hb
section
variable {X : Cx} {pins : List (Addr × Obj)} {σ : L2.St} {H : Hp} {s : Shared} {d : Addr} {xs : List (Pair × Addr)}
theorem dN_of (ok : HOk X.prog X.w H s.heap) (e : H d = some (dN X.prog X.w d xs)) (hk : KeysAt H xs) : (d == sysModules) = false ∧ xs.length ≤ sizeLine ∧ s.heap.DictOfH (nestedKind X.prog X.w) d (xs.map kx) := by
  obtain ⟨⟨h1, h2, o, es, ep, h3, h4, h5, h6, h7⟩, _, _⟩ := (show ObjOk X.prog X.w H s.heap d (dN X.prog X.w d xs) from ok d _ e)
  refine ⟨h1, h2, o, es, ep, h3, h4, h5, h6, fun x hx => ?_, ?_⟩
  · obtain ⟨y, hy, rfl⟩ := List.mem_map.mp hx
    exact key_pair ok (hk y hy)
  · rw [List.map_map]
    have e2 : ((fun x : NestedKey × Addr × Value => x.1) ∘ kx) = (pairK ∘ fun x : Pair × Addr => x.1) := rfl
    rw [e2, ← List.map_map]
    exact nodup_map (fun _ _ z => pairK_inj z) h7
theorem dN_new {P : Program} {w : World} {H' : Hp} {h' : Heap} (hd : (d == sysModules) = false) (hz : xs.length ≤ sizeLine) (hn : (xs.map (·.1)).Nodup) (dd : h'.DictOfH (nestedKind P w) d (xs.map kx)) : ObjOk P w H' h' d (dN P w d xs) := by
  obtain ⟨o, es, ep, h3, h4, h5, h6, _, _⟩ := dd
  refine ⟨⟨hd, hz, o, es, ep, h3, h4, h5, h6, hn⟩, ⟨o, h3⟩, fun a b ⟨k1, k2, o', es', ep', k3, k4⟩ st => ⟨k1, k2, o', es', ep', st _ k3, k4⟩⟩
theorem at_kx (p : Pair) : ∀ xs : List (Pair × Addr), (atKey (xs.map kx) (pairK p)).isSome = decide (p ∈ xs.map (·.1))
  | [] => rfl
  | x :: r => by
    have ih := at_kx p r
    unfold atKey at ih ⊢
    rw [Option.isSome_map] at ih ⊢
    rw [List.map_cons, List.find?_cons]
    by_cases h : x.1 = p
    · have e : decide ((kx x).1 = pairK p) = true := decide_eq_true (by rw [← h])
      rw [e, List.map_cons, h]
      simp
    · have e : decide ((kx x).1 = pairK p) = false := decide_eq_false fun z => h (pairK_inj z)
      rw [e, List.map_cons]
      show (List.find? _ (r.map kx)).isSome = _
      rw [ih]
      by_cases h2 : p ∈ r.map (·.1)
      · rw [decide_eq_true h2, decide_eq_true (List.mem_cons_of_mem _ h2)]
      · rw [decide_eq_false h2, decide_eq_false fun z => (List.mem_cons.mp z).elim (fun q => h q.symm) h2]
def rNotN (P : Program) (w : World) : R2 := fun x y H Q => ∃ d b p xs, x = .ref b ∧ y = .ref d ∧ H d = some (dN P w d xs) ∧ KeysAt H xs ∧ PairAt H (.ref b) p ∧ Q (.bl (!decide (p ∈ xs.map (·.1)))) H
theorem op_notN2 {P : Program} {w : World} (hP : X.prog = P) (hw : X.w = w) (hu : X.A.units + 64 < cLine) : OpR X (compareOp .NotIn) (rNotN P w) := by
  subst hP hw
  intro pins s σ H x y v u Q I rx ry h
  obtain ⟨d, b, p, xs, rfl, rfl, e, hk, hp, q⟩ := h
  cases rx
  cases ry
  obtain ⟨hd, hz, dd⟩ := dN_of I.hok e hk
  refine wpAny_notIn_heap (knd := nestedKind X.prog X.w) (k := pairK p) (by show X.A.units + 1 + 8 < cLine; omega) (key_pair I.hok hp) hd dd ?_
  rw [at_kx]
  exact ⟨.bl _, H, I.tok _, rfl, q⟩
def rSetN (P : Program) (w : World) : TSet := fun o i v H Q => ∃ d b p xs, o = .ref d ∧ i = .ref b ∧ v = .bl true ∧ H d = some (dN P w d xs) ∧ KeysAt H xs ∧ PairAt H (.ref b) p ∧ ¬ p ∈ xs.map (·.1) ∧ xs.length < 1000 ∧
  Q (upd H d (dN P w d (xs ++ [(p, b)])))
theorem nd_app {α : Type} {l : List α} {x : α} (h : l.Nodup) (hx : ¬ x ∈ l) : (l ++ [x]).Nodup := by
  rw [List.nodup_append]
  refine ⟨h, by simp, fun a ha b hb e => ?_⟩
  rw [List.mem_singleton] at hb
  subst hb e
  exact hx ha
theorem dN_put {h' : Heap} {p : Pair} {b : Addr} {tk : Nat} (I : Inv X pins σ H s) (e : H d = some (dN X.prog X.w d xs)) (hk : KeysAt H xs) (hp : PairAt H (.ref b) p) (hn : ¬ p ∈ xs.map (·.1)) (hl : xs.length < 1000)
    (dd' : h'.DictOfH (nestedKind X.prog X.w) d (storedH (xs.map kx) (pairK p) b (.bool true))) (hs : Heap.SameBut d s.heap h') : Inv X pins σ (upd H d (dN X.prog X.w d (xs ++ [(p, b)]))) { s with heap := h', toks := tk } := by
  obtain ⟨hd, hz, dd⟩ := dN_of I.hok e hk
  obtain ⟨⟨_, _, _, _, _, _, _, _, _, nd⟩, _, _⟩ := (show ObjOk X.prog X.w H s.heap d (dN X.prog X.w d xs) from I.hok d _ e)
  have e0 : atKey (xs.map kx) (pairK p) = none := by
    have z := at_kx p xs
    rw [decide_eq_false hn] at z
    cases q : atKey (xs.map kx) (pairK p) with
    | none => rfl
    | some x => rw [q] at z; cases z
  rw [storedH_new e0] at dd'
  have e1 : xs.map kx ++ [(pairK p, b, Value.bool true)] = (xs ++ [(p, b)]).map kx := by rw [List.map_append]; rfl
  rw [e1] at dd'
  have he : ∃ q, h'.get? d = some q := let ⟨q, _, _, hq, _⟩ := dd'; ⟨q, hq⟩
  refine I.write (x := d) (e := d) (by rw [e]; exact True.intro) (.inl rfl) (fun c q hc z => (hs.2 c hc).trans z) he (dN_new hd ?_ ?_ dd')
  · rw [List.length_append, sizeLine_eq]
    show xs.length + 1 ≤ _
    omega
  · rw [List.map_append]
    exact nd_app nd hn
theorem set_N {P : Program} {w : World} (hP : X.prog = P) (hw : X.w = w) (hu : X.A.units + 64 < cLine) : PSet X (rSetN P w) := by
  subst hP hw
  intro pins s σ H o i v ov iv u Q I ro ri rv h
  obtain ⟨d, b, p, xs, rfl, rfl, rfl, e, hk, hp, hn, hl, q⟩ := h
  cases ro
  cases ri
  cases rv
  obtain ⟨hd, hz, dd⟩ := dN_of I.hok e hk
  refine wpAny_setItem_heap (hsz := by rw [List.length_map]; exact hz) (knd := nestedKind X.prog X.w) (k := pairK p) (by show X.A.units + 1 + 8 < cLine; omega) (key_pair I.hok hp) dd fun h' dd' hs => ⟨_, dN_put I e hk hp hn hl dd' hs, q⟩
/-- {k: True} -/
def tDispN (P : Program) (w : World) (tk tv : TE) : TE := fun σ H Q => ∀ d, H d = none → tPairs [(tk, tv)] σ (upd H d (dN P w d [])) fun prs H2 => ∃ x y, prs = [(x, y)] ∧ y = .bl true ∧ H2 d = some (dN P w d []) ∧ ∃ b p, x = .ref b ∧ PairAt H2 (.ref b) p ∧
  Q (.ref d) (upd H2 d (dN P w d [(p, b)]))
theorem pe_dispN {P : Program} {w : World} {k v : Expr} {tk tv : TE} {pos : Pos} (hP : X.prog = P) (hw : X.w = w) (hu : X.A.units + 64 < cLine) (hk : PE X k tk) (hv : PE X v tv) : PE X (.Dict [some k] [v] pos) (tDispN P w tk tv) := by
  subst hP hw
  refine ⟨fun pins s σ H Q I q => ?_⟩
  have hn := I.hok.fresh (Nat.le_refl s.heap.objs.size)
  have new : ObjOk X.prog X.w (upd H s.heap.objs.size (dN X.prog X.w s.heap.objs.size [])) (s.heap.push { cls := .type "dict", data := .dict #[] }) s.heap.objs.size (dN X.prog X.w s.heap.objs.size []) :=
    dN_new (beq_eq_false_iff_ne.mpr (Ne.symm (Nat.ne_of_lt I.big))) (Nat.zero_le _) List.nodup_nil (Heap.DictOfH.new s.heap)
  have I1 := I.laid (a := s.heap.objs.size) (h' := s.heap.push { cls := .type "dict", data := .dict #[] }) (t' := s.toks) (fun _ _ q => Heap.get?_push_of_some _ q) (Nat.le_refl _) new
  refine PySem.wpAny_Dict_any rfl rfl (by simp) (Nat.le_of_ble_eq_true rfl) ?_
  refine thn ((pps_cons hk hv (pps_nil (X := X) (pos := pos))).run pins _ σ _ (fun prs H2 => ∃ x y, prs = [(x, y)] ∧ y = .bl true ∧ H2 s.heap.objs.size = some (dN X.prog X.w s.heap.objs.size []) ∧ ∃ b p, x = .ref b ∧ PairAt H2 (.ref b) p ∧
      Q (.ref s.heap.objs.size) (upd H2 s.heap.objs.size (dN X.prog X.w s.heap.objs.size [(p, b)]))) I1 ?_) ?_
  · exact q _ hn
  · rintro vs s2 ⟨prs, H2, I2, rel, x, y, rfl, rfl, e, b, p, rfl, hp, q2⟩
    cases rel with
    | cons r1 r2 =>
      cases r2
      rename_i pv
      obtain ⟨u, z⟩ := pv
      obtain ⟨r3, r4⟩ := r1
      cases (show u = Value.ref b from r3)
      cases (show z = Value.bool true from r4)
      have hk0 : KeysAt H2 [] := fun x hx => by cases hx
      obtain ⟨hd, hz, dd⟩ := dN_of I2.hok e hk0
      unfold storeAll
      rw [List.forIn_cons]
      refine wpAny_bind (wpAny_bind (wpAny_dictSet_heap (hsz := Nat.zero_le _) (knd := nestedKind X.prog X.w) (k := pairK p) (by show X.A.units + 8 < cLine; omega) (key_pair I2.hok hp) dd fun h' dd' hs => wpAny_pure ?_))
      show wpAny _ _ (forIn ([] : List (Value × Value)) PUnit.unit _) _ _ _
      rw [List.forIn_nil]
      exact wpAny_pure ⟨.ref s.heap.objs.size, _, dN_put I2 e hk0 hp (by simp) (by decide) dd' hs, rfl, q2⟩
end

/-! ### xs[i], by values -/
def gL (K : PySem.W.Frag) : V → V → Hp → VK → Prop := fun o i H Q => ∃ p xs k v, o = .ref p ∧ i = .int k ∧ SqL K H p xs ∧ 0 ≤ k ∧ k < 2 ^ 63 ∧ xs[k.toNat]? = some v ∧ Q v H
theorem get_list {X : Cx} : PGet X (gL X.K) := by
  intro pins s σ H o i ov iv Q I ro ri h
  obtain ⟨p, xs, k, v, rfl, rfl, hq, h0, hz, he, q⟩ := h
  cases ro
  obtain ⟨t, rfl⟩ := ri
  obtain ⟨its, r, pl, _⟩ := I.list hq
  obtain ⟨u, eu, ru⟩ := r.get he
  exact wpAny_getItem_list pl.isList h0 hz (by simpa using eu) ⟨v, H, I, ru, q⟩
end SK

/-! Spikehold: the objects in the heap; step, stimulus_of, next_watch, is_broken, initial_state. -/
namespace SK
open PySem PySem.Spec PyProof.Rows L2
theorem bt_list : bootBuiltins "list" = some (.type "list") := by decide +kernel
theorem bt_tuple : bootBuiltins "tuple" = some (.type "tuple") := by decide +kernel
def rListOf (K : PySem.W.Frag) : List V → Hp → VK → Prop := fun xs H Q => ∃ p ys, xs = [.ref p] ∧ (SqL K H p ys ∨ SqT K H p ys) ∧ ∀ l, H l = none → Q (.ref l) (upd H l (.lst ys))
def rTupOf (K : PySem.W.Frag) : List V → Hp → VK → Prop := fun xs H Q => ∃ p ys, xs = [.ref p] ∧ ((SqL K H p ys ∧ ∀ l, H l = none → Q (.ref l) (upd H l (.tup ys))) ∨ (SqT K H p ys ∧ Q (.ref p) H))
theorem hu65 {k : Nat} {A : Around} (hr : Room k A) : A.units + 65 < cLine := by have := hr.un; omega
abbrev Fl (fs : List (Str × V)) (x : Str) (v : V) : Prop := fs.lookup x = some v
structure NeuO (K : PySem.W.Frag) (H : Hp) (a : Addr) (u : Nu) : Prop where
  ex : ∃ dx fs, H a = some (.ins (He.ga K "Neuron") dx fs) ∧ Fl fs "threshold" (.int u.thr) ∧ Fl fs "leak" (.int u.leak) ∧ Fl fs "refractory" (.int u.refr) ∧ Fl fs "floor" (.int u.floor) ∧ Fl fs "subtract" (.bl u.sub)
structure SynO (K : PySem.W.Frag) (H : Hp) (a : Addr) (s : Sy) : Prop where
  ex : ∃ dx fs, H a = some (.ins (He.ga K "Synapse") dx fs) ∧ Fl fs "source" (.int s.src) ∧ Fl fs "target" (.int s.tgt) ∧ Fl fs "weight" (.int s.w) ∧ Fl fs "delay" (.int s.delay)
def NeuAt (K : PySem.W.Frag) (H : Hp) (v : V) (u : Nu) : Prop := ∃ a, v = .ref a ∧ NeuO K H a u
def SynAt (K : PySem.W.Frag) (H : Hp) (v : V) (s : Sy) : Prop := ∃ a, v = .ref a ∧ SynO K H a s
structure NetAt (K : PySem.W.Frag) (H : Hp) (a : Addr) (net : Net) : Prop where
  ex : ∃ dx fs l1 l2 ns ss, H a = some (.ins (He.ga K "Network") dx fs) ∧ Fl fs "inputs" (.int net.inputs) ∧ Fl fs "neurons" (.ref l1) ∧ Fl fs "synapses" (.ref l2) ∧ Fl fs "rule" .non ∧
    H l1 = some (.lst ns) ∧ Paired (NeuAt K H) ns net.neus ∧ H l2 = some (.lst ss) ∧ Paired (SynAt K H) ss net.syns
  ok : net.Ok
section
variable {K : PySem.W.Frag} {H H' : Hp} {a : Addr} {v : V}
theorem NeuO.same {u : Nu} (e : Same H H') (h : NeuO K H a u) : NeuO K H' a u := let ⟨dx, fs, h1, h2⟩ := h.ex; ⟨dx, fs, e _ _ h1, h2⟩
theorem SynO.same {s : Sy} (e : Same H H') (h : SynO K H a s) : SynO K H' a s := let ⟨dx, fs, h1, h2⟩ := h.ex; ⟨dx, fs, e _ _ h1, h2⟩
theorem NeuAt.same {u : Nu} (e : Same H H') (h : NeuAt K H v u) : NeuAt K H' v u := let ⟨a, q, h⟩ := h; ⟨a, q, h.same e⟩
theorem SynAt.same {s : Sy} (e : Same H H') (h : SynAt K H v s) : SynAt K H' v s := let ⟨a, q, h⟩ := h; ⟨a, q, h.same e⟩
theorem NetAt.same {net : Net} (e : Same H H') (h : NetAt K H a net) : NetAt K H' a net :=
  let ⟨dx, fs, l1, l2, ns, ss, h1, h2, h3, h4, h5, h6, h7, h8, h9⟩ := h.ex
  ⟨⟨dx, fs, l1, l2, ns, ss, e _ _ h1, h2, h3, h4, h5, e _ _ h6, Paired.mapP h7 fun _ _ q => q.same e, e _ _ h8, Paired.mapP h9 fun _ _ q => q.same e⟩, h.ok⟩
end
theorem Paired.getR {α β : Type} {R : α → β → Prop} : ∀ {xs : List α} {ys : List β} {i : Nat} {y : β}, Paired R xs ys → ys[i]? = some y → ∃ x, xs[i]? = some x ∧ R x y
  | _, _, _, _, .nil, h => by simp at h
  | _, _, 0, y, .cons r _, h => by
    have e := Option.some.inj (show some _ = some y from h)
    subst e
    exact ⟨_, rfl, r⟩
  | _, _, i + 1, y, .cons _ t, h => Paired.getR (i := i) t h
theorem Paired.getL {α β : Type} {R : α → β → Prop} : ∀ {xs : List α} {ys : List β} {i : Nat} {x : α}, Paired R xs ys → xs[i]? = some x → ∃ y, ys[i]? = some y ∧ R x y
  | _, _, _, _, .nil, h => by simp at h
  | _, _, 0, x, .cons r _, h => by
    have e := Option.some.inj (show some _ = some x from h)
    subst e
    exact ⟨_, rfl, r⟩
  | _, _, i + 1, x, .cons _ t, h => Paired.getL (i := i) t h
/-- a claim's tuple -/
def clV : Cl → List V
  | .never n => [.str "never", .int n]
  | .apart a b => [.str "apart", .int a, .int b]
  | .answer i n d => [.str "answer", .int i, .int n, .int d]
def IntL (H : Hp) (v : V) (l : List Int) : Prop := ∃ a, v = .ref a ∧ H a = some (.lst (l.map V.int))
theorem IntL.same {H H' : Hp} {v : V} {l : List Int} (e : Same H H') (h : IntL H v l) : IntL H' v l := let ⟨a, q, h⟩ := h; ⟨a, q, e _ _ h⟩
theorem inV_int (i : Int) : ∀ l : List Int, inV (.int i) (l.map V.int) = decide (i ∈ l)
  | [] => rfl
  | j :: r => by
    have ih := inV_int i r
    unfold inV at ih ⊢
    rw [List.map_cons, List.any_cons, ih]
    have e : eqV (.int j) (.int i) = decide (j = i) := by
      show (j == i) = _
      exact (Bool.beq_eq_decide_eq j i)
    rw [e]
    by_cases h : j = i
    · subst h; simp
    · by_cases h2 : i ∈ r
      · simp [h2]
      · simp [h, h2]
        exact fun z => h z.symm
theorem flat_ints : ∀ l : List Int, (l.map V.int).all flatV = true
  | [] => rfl
  | _ :: r => by rw [List.map_cons, List.all_cons, flat_ints r]; rfl
theorem int_at {l : List Int} {n : Nat} (h : n < l.length) : (l.map V.int)[n]? = some (.int (l.getD n 0)) := by
  rw [List.getElem?_map, List.getElem?_eq_getElem h, List.getD_eq_getElem?_getD, List.getElem?_eq_getElem h]
  rfl
theorem at0 {α : Type} {xs : List α} {v : α} (h : xs[0]? = some v) : atI xs 0 = some v := atI_nat (j := 0) h
theorem at1 {α : Type} {xs : List α} {v : α} (h : xs[1]? = some v) : atI xs 1 = some v := atI_nat (j := 1) h
theorem at2 {α : Type} {xs : List α} {v : α} (h : xs[2]? = some v) : atI xs 2 = some v := atI_nat (j := 2) h
theorem at3 {α : Type} {xs : List α} {v : α} (h : xs[3]? = some v) : atI xs 3 = some v := atI_nat (j := 3) h

theorem tYes_ok {σ : List (Option V)} {H : Hp} {Q : Bool → Hp → Prop} (h : Q true H) : tYes σ H Q := h
theorem three {α : Type} {a b c : α} : [a, b, c].length ≤ sizeLine := by show 3 ≤ sizeLine; decide
/-! ### step -/
theorem scStep : FnScope ["neuron", "potential", "rest", "incoming"] ["neuron", "potential", "rest", "incoming"] (defScope sStep) := ⟨rfl, rfl, rfl, by decide +kernel, rfl, by decide +kernel, by decide +kernel⟩
def spStep (K : PySem.W.Frag) : Sp := fun vs H Q _ => ∃ (a : Addr) (u : Nu) (p r i : Int), vs = [.ref a, .int p, .int r, .int i] ∧ NeuO K H a u ∧ 0 ≤ u.leak ∧
  ∀ t, H t = none → Q (.ref t) (upd H t (.tup [.int (step u p r i).1, .int (step u p r i).2.1, .bl (step u p r i).2.2]))
theorem hasStep {P : Program} {w : World} {K : PySem.W.Frag} {mg : Str → Option Value} {base : Heap} (T : Txt K mg) : Has P w K mg base 1 "step" ["neuron", "potential", "rest", "incoming"] (spStep K) := by
  obtain ⟨fd, F⟩ := T.fn_step
  refine ⟨_, fd, T.gl_step, F.kp, F.bindsN fun _ _ _ _ _ _ us hl => match us, hl with | [_, _, _, _], _ => rfl, fn_ok F scStep (fun vs H Q E h => ?_) (fun cdv A outer s H vs Q E hr h => ?_)⟩
  · obtain ⟨a, u, p, r, i, rfl, _⟩ := h
    rfl
  · obtain ⟨a, u, p, r, i, rfl, hn, hl, q⟩ := h
    refine ⟨_, (Evl.pss_cut (ps_if (pt_cmpR op_gt (pe_fld (pv 0) rfl) pe_int (nomark _)) (pss_one (ps_aug (i := 1) scStep.nd rfl (.inl rfl) (pe_op op_shr (pv 1) (pe_fld (pv 0) rfl)) ip_sub)) pss_nil)
      (pss_cons (ps_set (i := 1) scStep.nd rfl (.inl rfl) (pe_callB (call_max2 rfl) (by rfl) T.fr_max (by decide +kernel) (pa_cons (pe_fld (pv 0) rfl) (pa_cons (pe_op op_add (pv 1) (pv 3)) pa_nil))))
      (pss_cons (ps_if (pt_cmpR op_gt (pv 2) pe_int (nomark _)) (pss_one (ps_ret (pe_tup (pa_cons (pv 1) (pa_cons (pe_op op_sub (pv 2) pe_int) (pa_cons pe_bl pa_nil)))))) pss_nil)
      (pss_cons (ps_if (pt_cmpR op_lt (pv 1) (pe_fld (pv 0) rfl) (nomark _)) (pss_one (ps_ret (pe_tup (pa_cons (pv 1) (pa_cons pe_int (pa_cons pe_bl pa_nil)))))) pss_nil)
      (pss_cons (ps_if (pt_val (pe_fld (pv 0) rfl)) (pss_one (ps_ret (pe_tup (pa_cons (pe_op op_sub (pv 1) (pe_fld (pv 0) rfl)) (pa_cons (pe_fld (pv 0) rfl) (pa_cons pe_bl pa_nil)))))) pss_nil)
      (pss_one (ps_ret (pe_tup (pa_cons pe_int (pa_cons (pe_fld (pv 0) rfl) (pa_cons pe_bl pa_nil))))))))))), ?_⟩
    obtain ⟨dx, fs, h0, h1, h2, h3, h4, h5⟩ := hn.ex
    refine ⟨fun σ' H' => H' = H ∧ σ' = [some (.ref a), some (.int (leaked u p)), some (.int r), some (.int i)], ?_, fun σ' H' hm => ?_⟩
    · refine ⟨_, rfl, a, _, dx, fs, _, rfl, h0, T.cl_Neuron, T.na_Neuron_leak, h2, _, _, rfl, rfl, _, rfl, ite2 (fun c => ?_) (fun c => ?_)⟩
      · have c : 0 < u.leak := of_decide_eq_true c
        refine ⟨_, rfl, _, rfl, _, rfl, a, _, dx, fs, _, rfl, h0, T.cl_Neuron, T.na_Neuron_leak, h2, _, _, rfl, rfl, hl, _, _, rfl, rfl, rfl, ?_⟩
        unfold leaked
        rw [if_pos c]
        rfl
      · have c : ¬ 0 < u.leak := fun z => c (decide_eq_true z)
        refine ⟨rfl, ?_⟩
        unfold leaked
        rw [if_neg c]
        rfl
    · obtain ⟨rfl, rfl⟩ := hm
      refine ⟨_, rfl, a, _, dx, fs, _, rfl, h0, T.cl_Neuron, T.na_Neuron_floor, h4, _, rfl, _, rfl, _, _, rfl, rfl, _, _, rfl, ?_⟩
      refine ⟨_, rfl, _, _, rfl, rfl, _, rfl, ite2 (fun c => ?_) (fun c => ?_)⟩
      · have c : 0 < r := of_decide_eq_true c
        have e : step u p r i = (summed u p i, r - 1, false) := by
          unfold step
          rw [if_pos c]
        refine ⟨_, rfl, _, rfl, _, _, rfl, rfl, three, fun t ht => ?_⟩
        have z := q t ht
        rw [e] at z
        exact z
      · have c : ¬ 0 < r := fun z => c (decide_eq_true z)
        refine ⟨_, rfl, _, rfl, a, _, dx, fs, _, rfl, h0, T.cl_Neuron, T.na_Neuron_threshold, h1, _, _, rfl, rfl, _, rfl, ite2 (fun c2 => ?_) (fun c2 => ?_)⟩
        · have c2 : summed u p i < u.thr := of_decide_eq_true c2
          have e : step u p r i = (summed u p i, 0, false) := by
            unfold step
            rw [if_neg c, if_pos c2]
          refine ⟨_, rfl, three, fun t ht => ?_⟩
          have z := q t ht
          rw [e] at z
          exact z
        · have c2 : ¬ summed u p i < u.thr := fun z => c2 (decide_eq_true z)
          refine ⟨_, rfl, a, _, dx, fs, _, rfl, h0, T.cl_Neuron, T.na_Neuron_subtract, h5, _, rfl, ite2 (fun c3 => ?_) (fun c3 => ?_)⟩
          · have e : step u p r i = (summed u p i - u.thr, u.refr, true) := by
              unfold step
              rw [if_neg c, if_neg c2, if_pos c3]
            refine ⟨_, rfl, _, rfl, a, _, dx, fs, _, rfl, h0, T.cl_Neuron, T.na_Neuron_threshold, h1, _, _, rfl, rfl, _, rfl, a, _, dx, fs, _, rfl, h0, T.cl_Neuron, T.na_Neuron_refractory, h3, three, fun t ht => ?_⟩
            have z := q t ht
            rw [e] at z
            exact z
          · have e : step u p r i = (0, u.refr, true) := by
              unfold step
              rw [if_neg c, if_neg c2, if_neg c3]
            refine ⟨_, rfl, a, _, dx, fs, _, rfl, h0, T.cl_Neuron, T.na_Neuron_refractory, h3, three, fun t ht => ?_⟩
            have z := q t ht
            rw [e] at z
            exact z

/-! ### stimulus_of -/
def stimOf (inputs : Nat) (num : Int) : List Int := ((List.range inputs).filter fun (k : Nat) => decide (V.int (Builtin.bitAnd (num / 2 ^ (k : Int).toNat) 1) = V.int 1)).map fun (k : Nat) => (k : Int)
theorem stim_yes {num : Int} {n : Nat} (h : decide (V.int (Builtin.bitAnd (num / 2 ^ (n : Int).toNat) 1) = V.int 1) = true) : stimOf (n + 1) num = stimOf n num ++ [(n : Int)] := by
  unfold stimOf
  rw [List.range_succ, List.filter_append, List.map_append, List.filter_cons, if_pos h]
  rfl
theorem stim_no {num : Int} {n : Nat} (h : decide (V.int (Builtin.bitAnd (num / 2 ^ (n : Int).toNat) 1) = V.int 1) = false) : stimOf (n + 1) num = stimOf n num := by
  unfold stimOf
  rw [List.range_succ, List.filter_append, List.map_append, List.filter_cons, if_neg (by rw [h]; decide)]
  simp
theorem stim_length (n : Nat) (num : Int) : (stimOf n num).length ≤ n := by
  unfold stimOf
  rw [List.length_map]
  refine Nat.le_trans (List.length_filter_le _ _) ?_
  rw [List.length_range]
  exact Nat.le_refl _
theorem scStimulusOf : FnScope ["network", "number", "k"] ["network", "number"] (defScope sStimulusOf) := ⟨rfl, rfl, rfl, by decide +kernel, rfl, by decide +kernel, by decide +kernel⟩
def spStim (K : PySem.W.Frag) : Sp := fun vs H Q _ => ∃ (a : Addr) (net : Net) (num : Int), vs = [.ref a, .int num] ∧ NetAt K H a net ∧
  ∀ p H', Same H H' → H p = none → H' p = some (.lst ((stimOf net.inputs num).map V.int)) → Q (.ref p) H'
theorem hasStimulusOf {P : Program} {w : World} {K : PySem.W.Frag} {mg : Str → Option Value} {base : Heap} (T : Txt K mg) : Has P w K mg base 1 "stimulus_of" ["network", "number"] (spStim K) := by
  obtain ⟨fd, F⟩ := T.fn_stimulus_of
  refine ⟨_, fd, T.gl_stimulus_of, F.kp, F.bindsN fun _ _ _ _ _ _ us hl => match us, hl with | [_, _], _ => rfl, fn_ok F scStimulusOf (fun vs H Q E h => ?_) (fun cdv A outer s H vs Q E hr h => ?_)⟩
  · obtain ⟨a, net, num, rfl, _⟩ := h
    rfl
  · obtain ⟨a, net, num, rfl, hn, q⟩ := h
    refine ⟨_, (pss_one (ps_ret (pe_lc (own := [("k", 2)]) (g := gName 2) rfl scStimulusOf.nd (pi_range1 rfl T.fr_range (pa_cons (pe_fld (pv 0) rfl) pa_nil)) (blkOk_by (N := ["network", "number", "k"]) (sc := defScope sStimulusOf) (by decide +kernel)) (fun _ _ _ _ _ => pg_name (i := 2) scStimulusOf.nd rfl (Or.inl rfl)) (fun _ _ _ _ _ => pts_one (pt_cmpR op_eq (pe_op op_and (pe_op op_shr (pv 1) (pv 2)) pe_int) pe_int (nomark _))) (fun _ _ _ _ _ => (pv 2))))), ?_⟩
    obtain ⟨dx, fs, l1, l2, ns, ss, h0, h1, _⟩ := hn.ex
    have hi := hn.ok.inp
    refine ⟨_, rfl, a, _, dx, fs, _, rfl, h0, T.cl_Network, T.na_Network_inputs, h1, _, rfl, by omega, by omega, fun D hD => ?_⟩
    refine lc_range (lo := 0) (n := (net.inputs : Int).toNat) (fun i H' => Same H H' ∧ H' D = some (.lst ((stimOf i num).map V.int))) ⟨same_new hD, upd_same⟩ (fun i H' hi' ⟨hs, hd⟩ => ?_) (fun H' ⟨hs, hd⟩ => ?_)
    · refine ⟨rfl, _, rfl, _, rfl, _, _, rfl, rfl, by omega, _, _, rfl, rfl, rfl, _, rfl, ?_⟩
      have e0 : (0 : Int) + (i : Int) = (i : Int) := Int.zero_add _
      rw [e0]
      refine ite2 (fun hc => ?_) (fun hc => ?_)
      · refine ⟨_, rfl, _, hd, small1000 ?_, same_mut hs hD, ?_⟩
        · rw [List.length_map]
          have := stim_length i num
          omega
        · rw [upd_same, stim_yes hc, List.map_append]
          rfl
      · refine ⟨hs, ?_⟩
        rw [stim_no (by simpa using hc)]
        exact hd
    · have e : (net.inputs : Int).toNat = net.inputs := Int.toNat_natCast _
      rw [e] at hd
      exact q D H' hs hD hd

/-! ### next_watch, is_broken -/
theorem scNextWatch : FnScope ["claim", "watch", "stimulus", "spikes"] ["claim", "watch", "stimulus", "spikes"] (defScope sNextWatch) := ⟨rfl, rfl, rfl, by decide +kernel, rfl, by decide +kernel, by decide +kernel⟩
def spWatch : Sp := fun vs H Q _ => ∃ (c : Addr) (cl : Cl) (w : Int) (a b : Addr) (stim fi : List Int), vs = [.ref c, .int w, .ref a, .ref b] ∧ H c = some (.tup (clV cl)) ∧ H a = some (.lst (stim.map V.int)) ∧ H b = some (.lst (fi.map V.int)) ∧
  Q (.int (nextW cl w stim fi)) H
theorem hasNextWatch {P : Program} {w : World} {K : PySem.W.Frag} {mg : Str → Option Value} {base : Heap} (T : Txt K mg) : Has P w K mg base 1 "next_watch" ["claim", "watch", "stimulus", "spikes"] spWatch := by
  obtain ⟨fd, F⟩ := T.fn_next_watch
  refine ⟨_, fd, T.gl_next_watch, F.kp, F.bindsN fun _ _ _ _ _ _ us hl => match us, hl with | [_, _, _, _], _ => rfl, fn_ok F scNextWatch (fun vs H Q E h => ?_) (fun cdv A outer s H vs Q E hr h => ?_)⟩
  · obtain ⟨c, cl, w, a, b, stim, fi, rfl, _⟩ := h
    rfl
  · obtain ⟨c, cl, w, a, b, stim, fi, rfl, hc, ha, hb, q⟩ := h
    refine ⟨_, (pss_cons (ps_if (pt_cmpR op_ne (pe_ix ix_tup (pv 0) pe_int (fun _ _ => rfl)) pe_str (nomark _)) (pss_one (ps_ret pe_int)) pss_nil)
      (Evl.pss_cut (ps_if (pt_cmpR op_gt (pv 1) pe_int (nomark _)) (pss_one (ps_set (i := 1) scNextWatch.nd rfl (.inl rfl) (pe_ifExp (pt_cmpR op_in_seq (pe_ix ix_tup (pv 0) pe_int (fun _ _ => rfl)) (pv 3) (by rfl)) pe_int (pe_op op_sub (pv 1) pe_int)))) pss_nil)
      (Evl.pss_cut (ps_if (PW.pt (pw_and (pt_cmpR op_eq (pv 1) pe_int (nomark _)) (pw_and1 (pt_cmpR op_in_seq (pe_ix ix_tup (pv 0) pe_int (fun _ _ => rfl)) (pv 2) (by rfl))))) (pss_one (ps_set (i := 1) scNextWatch.nd rfl (.inl rfl) (pe_ix ix_tup (pv 0) pe_int (fun _ _ => rfl)))) pss_nil)
      (pss_one (ps_ret (pv 1)))))), ?_⟩
    have hc0 := SqT.of (K := K) hc
    cases cl with
    | never n =>
      refine ⟨_, rfl, c, _, _, _, rfl, rfl, hc0, at0 rfl, rfl, _, rfl, ite2 (fun _ => q) (fun z => absurd (by decide +kernel) z)⟩
    | apart n m =>
      refine ⟨_, rfl, c, _, _, _, rfl, rfl, hc0, at0 rfl, rfl, _, rfl, ite2 (fun _ => q) (fun z => absurd (by decide +kernel) z)⟩
    | answer i n d =>
      refine ⟨_, rfl, c, _, _, _, rfl, rfl, hc0, at0 rfl, rfl, _, rfl, ite2 (fun z => absurd z (by decide +kernel)) (fun _ => ?_)⟩
      refine ⟨fun σ' H' => H' = H ∧ σ' = [some (.ref c), some (.int (if 0 < w then (if n ∈ fi then 0 else w - 1) else w)), some (.ref a), some (.ref b)], ?_, fun σ' H' hm => ?_⟩
      · refine ⟨_, rfl, _, _, rfl, rfl, _, rfl, ite2 (fun c1 => ?_) (fun c1 => ?_)⟩
        · have c1 : 0 < w := of_decide_eq_true c1
          rw [if_pos c1]
          refine ⟨_, rfl, c, _, _, _, rfl, rfl, hc0, at2 rfl, _, rfl, b, _, rfl, .inl (SqL.of hb), rfl, flat_ints fi, _, rfl, ?_⟩
          rw [inV_int]
          refine ite2 (fun c2 => ?_) (fun c2 => ?_)
          · rw [if_pos (of_decide_eq_true c2)]
            exact ⟨rfl, rfl⟩
          · rw [if_neg fun z => c2 (decide_eq_true z)]
            exact ⟨_, rfl, _, _, rfl, rfl, rfl, rfl⟩
        · rw [if_neg fun z => c1 (decide_eq_true z)]
          exact ⟨rfl, rfl⟩
      · obtain ⟨rfl, rfl⟩ := hm
        have e : nextW (.answer i n d) w stim fi = if (if 0 < w then (if n ∈ fi then 0 else w - 1) else w) = 0 ∧ i ∈ stim then d else (if 0 < w then (if n ∈ fi then 0 else w - 1) else w) := rfl
        rw [e] at q
        generalize (if 0 < w then (if n ∈ fi then 0 else w - 1) else w) = w1 at q
        refine ⟨fun σ' H'' => H'' = H' ∧ σ' = [some (.ref c), some (.int (if w1 = 0 ∧ i ∈ stim then d else w1)), some (.ref a), some (.ref b)], ?_, fun σ' H'' hm => ?_⟩
        · refine ⟨_, rfl, rfl, _, rfl, ite2 (fun c1 => ?_) (fun c1 => ?_)⟩
          · have c1 : w1 = 0 := V.int.inj (of_decide_eq_true c1)
            refine ⟨_, rfl, c, _, _, _, rfl, rfl, hc0, at1 rfl, _, rfl, a, _, rfl, .inl (SqL.of ha), rfl, flat_ints stim, _, rfl, ?_⟩
            rw [inV_int]
            refine ite2 (fun c2 => ?_) (fun c2 => ?_)
            · refine ⟨_, rfl, c, _, _, _, rfl, rfl, hc0, at3 rfl, rfl, ?_⟩
              rw [if_pos ⟨c1, of_decide_eq_true c2⟩]
              rfl
            · rw [if_neg fun z => c2 (decide_eq_true z.2)]
              exact ⟨rfl, rfl⟩
          · have c1 : ¬ w1 = 0 := fun z => c1 (decide_eq_true (by rw [z]))
            refine iteF ?_
            rw [if_neg fun z => c1 z.1]
            exact ⟨rfl, rfl⟩
        · obtain ⟨rfl, rfl⟩ := hm
          exact ⟨_, rfl, q⟩
theorem scIsBroken : FnScope ["claim", "watch", "spikes"] ["claim", "watch", "spikes"] (defScope sIsBroken) := ⟨rfl, rfl, rfl, by decide +kernel, rfl, by decide +kernel, by decide +kernel⟩
def spBroken : Sp := fun vs H Q _ => ∃ (c : Addr) (cl : Cl) (w : Int) (b : Addr) (fi : List Int), vs = [.ref c, .int w, .ref b] ∧ H c = some (.tup (clV cl)) ∧ H b = some (.lst (fi.map V.int)) ∧ Q (.bl (broken cl w fi)) H
theorem hasIsBroken {P : Program} {w : World} {K : PySem.W.Frag} {mg : Str → Option Value} {base : Heap} (T : Txt K mg) : Has P w K mg base 1 "is_broken" ["claim", "watch", "spikes"] spBroken := by
  obtain ⟨fd, F⟩ := T.fn_is_broken
  refine ⟨_, fd, T.gl_is_broken, F.kp, F.bindsN fun _ _ _ _ _ _ us hl => match us, hl with | [_, _, _], _ => rfl, fn_ok F scIsBroken (fun vs H Q E h => ?_) (fun cdv A outer s H vs Q E hr h => ?_)⟩
  · obtain ⟨c, cl, w, b, fi, rfl, _⟩ := h
    rfl
  · obtain ⟨c, cl, w, b, fi, rfl, hc, hb, q⟩ := h
    refine ⟨_, (pss_cons (ps_if (pt_cmpR op_eq (pe_ix ix_tup (pv 0) pe_int (fun _ _ => rfl)) pe_str (nomark _)) (pss_one (ps_ret (pe_cmpR op_in_seq (pe_ix ix_tup (pv 0) pe_int (fun _ _ => rfl)) (pv 2) (by rfl)))) pss_nil)
      (pss_cons (ps_if (pt_cmpR op_eq (pe_ix ix_tup (pv 0) pe_int (fun _ _ => rfl)) pe_str (nomark _)) (pss_one (ps_ret (pe_and (pe_cmpR op_in_seq (pe_ix ix_tup (pv 0) pe_int (fun _ _ => rfl)) (pv 2) (by rfl)) (pe_one (pe_cmpR op_in_seq (pe_ix ix_tup (pv 0) pe_int (fun _ _ => rfl)) (pv 2) (by rfl)))))) pss_nil)
      (pss_one (ps_ret (pe_and (pe_cmpR op_eq (pv 1) pe_int (nomark _)) (pe_one (pe_cmpR op_notIn_seq (pe_ix ix_tup (pv 0) pe_int (fun _ _ => rfl)) (pv 2) (by rfl)))))))), ?_⟩
    have hc0 := SqT.of (K := K) hc
    cases cl with
    | never n =>
      refine ⟨_, rfl, c, _, _, _, rfl, rfl, hc0, at0 rfl, rfl, _, rfl, ite2 (fun _ => ?_) (fun z => absurd (by decide +kernel) z)⟩
      refine ⟨_, rfl, c, _, _, _, rfl, rfl, hc0, at1 rfl, _, rfl, b, _, rfl, .inl (SqL.of hb), rfl, flat_ints fi, ?_⟩
      show Q (.bl (inV (.int n) (fi.map V.int))) H
      rw [inV_int]
      exact q
    | apart n m =>
      refine ⟨_, rfl, c, _, _, _, rfl, rfl, hc0, at0 rfl, rfl, _, rfl, ite2 (fun z => absurd z (by decide +kernel)) (fun _ => ?_)⟩
      refine ⟨_, rfl, c, _, _, _, rfl, rfl, hc0, at0 rfl, rfl, _, rfl, ite2 (fun _ => ?_) (fun z => absurd (by decide +kernel) z)⟩
      refine ⟨_, rfl, c, _, _, _, rfl, rfl, hc0, at1 rfl, _, rfl, b, _, rfl, .inl (SqL.of hb), rfl, flat_ints fi, decide (n ∈ fi), by rw [← inV_int]; rfl, ?_⟩
      have q : Q (.bl (decide (n ∈ fi) && decide (m ∈ fi))) H := q
      cases hd : decide (n ∈ fi) with
      | false =>
        rw [hd] at q
        exact iteF q
      | true =>
        rw [hd] at q
        refine iteT ⟨_, rfl, c, _, _, _, rfl, rfl, hc0, at2 rfl, _, rfl, b, _, rfl, .inl (SqL.of hb), rfl, flat_ints fi, ?_⟩
        show Q (.bl (inV (.int m) (fi.map V.int))) H
        rw [inV_int]
        exact q
    | answer i n d =>
      refine ⟨_, rfl, c, _, _, _, rfl, rfl, hc0, at0 rfl, rfl, _, rfl, ite2 (fun z => absurd z (by decide +kernel)) (fun _ => ?_)⟩
      refine ⟨_, rfl, c, _, _, _, rfl, rfl, hc0, at0 rfl, rfl, _, rfl, ite2 (fun z => absurd z (by decide +kernel)) (fun _ => ?_)⟩
      have q : Q (.bl (decide (w = 1) && !decide (n ∈ fi))) H := q
      refine ⟨_, rfl, rfl, decide (w = 1), by rw [dec_int, Bool.beq_eq_decide_eq], ?_⟩
      cases hd : decide (w = 1) with
      | false =>
        rw [hd] at q
        exact iteF q
      | true =>
        rw [hd] at q
        refine iteT ⟨_, rfl, c, _, _, _, rfl, rfl, hc0, at2 rfl, _, rfl, b, _, rfl, .inl (SqL.of hb), rfl, flat_ints fi, ?_⟩
        show Q (.bl (!inV (.int n) (fi.map V.int))) H
        rw [inV_int]
        exact q

/-! ### initial_state -/
theorem paired_rep {α β : Type} {R : α → β → Prop} {x : α} {y : β} (h : R x y) : ∀ n : Nat, Paired R (List.replicate n x) (List.replicate n y)
  | 0 => .nil
  | n + 1 => .cons h (paired_rep h n)
theorem map_rep (n : Nat) : (zeros n).map V.int = List.replicate n (.int 0) := by
  unfold zeros
  rw [List.map_replicate]
theorem scInitialState : FnScope ["network", "zeros", "neuron", "k"] ["network"] (defScope sInitialState) := ⟨rfl, rfl, rfl, by decide +kernel, rfl, by decide +kernel, by decide +kernel⟩
def spInitial (K : PySem.W.Frag) : Sp := fun vs H Q _ => ∃ (a : Addr) (net : Net), vs = [.ref a] ∧ NetAt K H a net ∧ ∀ v H', Same H H' → StAt H' v (init net) → Q v H'
theorem hasInitialState {P : Program} {w : World} {K : PySem.W.Frag} {mg : Str → Option Value} {base : Heap} (T : Txt K mg) : Has P w K mg base 1 "initial_state" ["network"] (spInitial K) := by
  obtain ⟨fd, F⟩ := T.fn_initial_state
  refine ⟨_, fd, T.gl_initial_state, F.kp, F.bindsN fun _ _ _ _ _ _ us hl => match us, hl with | [_], _ => rfl, fn_ok F scInitialState (fun vs H Q E h => ?_) (fun cdv A outer s H vs Q E hr h => ?_)⟩
  · obtain ⟨a, net, rfl, _⟩ := h
    rfl
  · obtain ⟨a, net, rfl, hn, q⟩ := h
    obtain ⟨gt, gDE⟩ := T.de
    refine ⟨_, (pss_cons (ps_set (i := 1) scInitialState.nd rfl (.inr rfl) (pe_callTy call_tuple_of (by rfl) T.fr_tuple bt_tuple (pa_cons (pe_lc (own := [("neuron", 2)]) (g := gName 2) (tt := tYes) rfl scInitialState.nd (pi_list (pe_fld (pv 0) rfl)) (blkOk_by (N := ["network", "zeros", "neuron", "k"]) (sc := defScope sInitialState) (by decide +kernel)) (fun _ _ _ _ _ => pg_name (i := 2) scInitialState.nd rfl (Or.inl rfl)) (fun _ _ _ _ _ => pts_nil) (fun _ _ _ _ _ => pe_int)) pa_nil)))
      (pss_one (ps_ret (pe_tup (pa_cons (pv 1) (pa_cons (pv 1) (pa_cons (pe_callTy call_tuple_of (by rfl) T.fr_tuple bt_tuple (pa_cons (pe_lc (own := [("k", 3)]) (g := gName 3) (tt := tYes) rfl scInitialState.nd (pi_range1 rfl T.fr_range (pa_cons (pe_glob (v := .int 15) rfl gDE ⟨_, rfl⟩) pa_nil)) (blkOk_by (N := ["network", "zeros", "neuron", "k"]) (sc := defScope sInitialState) (by decide +kernel)) (fun _ _ _ _ _ => pg_name (i := 3) scInitialState.nd rfl (Or.inl rfl)) (fun _ _ _ _ _ => pts_nil) (fun _ _ _ _ _ => (pv 1))) pa_nil)) pa_nil))))))), ?_⟩
    obtain ⟨dx, fs, l1, l2, ns, ss, h0, h1, h2, h3, h4, h5, h6, _⟩ := hn.ex
    have hi := hn.ok.hi
    have hlen := Paired.len h6
    refine ⟨_, rfl, a, _, dx, fs, _, rfl, h0, T.cl_Network, T.na_Network_neurons, h2, l1, rfl, ⟨_, SqL.of h5⟩, fun D hD => ?_⟩
    refine lc_list (K := K) (a := l1) (xs := ns) (fun i H' => Same H H' ∧ H' D = some (.lst (List.replicate i (.int 0)))) ⟨same_new hD, upd_same⟩ (fun i H' _ ⟨hs, _⟩ => hs.seq (SqL.of h5)) (fun i x H' hx ⟨hs, hd⟩ => ?_) (fun H1 ⟨hs, hd⟩ => ?_)
    · have hi' := (List.getElem?_eq_some_iff.mp hx).1
      refine ⟨rfl, ?_⟩
      refine tYes_ok (iteT ⟨_, hd, small1000 (by rw [List.length_replicate]; omega), same_mut hs hD, ?_⟩)
      rw [upd_same, List.replicate_succ']
    · refine ⟨D, _, rfl, .inl ⟨SqL.of hd, fun z hz => ?_⟩⟩
      have ez : (List.replicate ns.length (V.int 0)) = (zeros net.neus.length).map V.int := by rw [map_rep, hlen]
      have s1 : Same H (upd H1 z (.tup (List.replicate ns.length (V.int 0)))) := hs.trans (same_new hz)
      have hz1 : (upd H1 z (.tup (List.replicate ns.length (V.int 0)))) z = some (.tup ((zeros net.neus.length).map V.int)) := by rw [upd_same, ez]
      generalize hH2 : upd H1 z (.tup (List.replicate ns.length (V.int 0))) = H2 at s1 hz1
      refine ⟨_, rfl, _, rfl, 15, rfl, by decide, by decide, fun D2 hD2 => ?_⟩
      refine lc_range (lo := 0) (n := (15 : Int).toNat) (fun i H' => Same H2 H' ∧ H' D2 = some (.lst (List.replicate i (.ref z)))) ⟨same_new hD2, upd_same⟩ (fun i H' hi' ⟨hs', hd'⟩ => ?_) (fun H3 ⟨hs', hd'⟩ => ?_)
      · have hi' : i < 15 := hi'
        refine ⟨rfl, ?_⟩
        refine tYes_ok (iteT ⟨_, rfl, _, hd', small1000 (by rw [List.length_replicate]; omega), same_mut hs' hD2, ?_⟩)
        rw [upd_same, List.replicate_succ']
      · refine ⟨D2, _, rfl, .inl ⟨SqL.of hd', fun t ht => ⟨three, fun r hr => ?_⟩⟩⟩
        have hzt : H3 z = some (.tup ((zeros net.neus.length).map V.int)) := hs' _ _ hz1
        have k1 : Same H3 (upd H3 t (.tup (List.replicate (15 : Int).toNat (V.ref z)))) := same_new ht
        have k2 := k1.trans (same_new (o := .tup [.ref z, .ref z, .ref t]) hr)
        refine q _ _ ((s1.trans hs').trans k2) ⟨r, z, z, t, _, rfl, upd_same, k2 _ _ hzt, k2 _ _ hzt, same_new hr _ _ upd_same, paired_rep ⟨z, rfl, k2 _ _ hzt⟩ 15⟩
end SK

/-! Spikehold: advance. -/
namespace SK
open PySem PySem.Spec PyProof.Rows L2
/-! ### a table: a list of lists of whole numbers -/
structure Tb (H : Hp) (D : Addr) (as : List Addr) (tab : List (List Int)) : Prop where
  top : H D = some (.lst (as.map V.ref))
  len : as.length = tab.length
  nd : as.Nodup
  out : ¬ D ∈ as
  row : ∀ (k : Nat) (a : Addr) (l : List Int), as[k]? = some a → tab[k]? = some l → H a = some (.lst (l.map V.int))
section
variable {H H' : Hp} {D a : Addr} {as : List Addr} {tab : List (List Int)} {l : List Int}
theorem Tb.same (e : Same H H') (t : Tb H D as tab) : Tb H' D as tab := ⟨e _ _ t.top, t.len, t.nd, t.out, fun k a l h1 h2 => e _ _ (t.row k a l h1 h2)⟩
theorem Tb.there (t : Tb H D as tab) (ha : a ∈ as) : ∃ o, H a = some o := by
  obtain ⟨k, hk, e⟩ := List.mem_iff_getElem.mp ha
  have hk2 : k < tab.length := by rw [← t.len]; exact hk
  exact ⟨_, t.row k a _ (by rw [List.getElem?_eq_getElem hk, e]) (List.getElem?_eq_getElem hk2)⟩
theorem Tb.new_out (t : Tb H D as tab) (ha : H a = none) : ¬ a ∈ as := fun z => by
  obtain ⟨o, e⟩ := t.there z
  rw [ha] at e
  cases e
theorem Tb.empty (h : H D = some (.lst [])) : Tb H D [] [] := ⟨h, rfl, List.nodup_nil, by simp, fun k a l h1 _ => by simp at h1⟩
theorem Tb.snoc (t : Tb H D as tab) (ha : ¬ a ∈ as) (hD : a ≠ D) (h : H a = some (.lst (l.map V.int))) : Tb (upd H D (.lst (as.map V.ref ++ [.ref a]))) D (as ++ [a]) (tab ++ [l]) := by
  refine ⟨by rw [upd_same, List.map_append]; rfl, by rw [List.length_append, List.length_append, t.len]; rfl, nd_app t.nd ha, fun z => ?_, fun k b m h1 h2 => ?_⟩
  · rcases List.mem_append.mp z with z | z
    · exact t.out z
    · exact hD (List.mem_singleton.mp z).symm
  · by_cases hk : k < as.length
    · rw [List.getElem?_append_left hk] at h1
      rw [List.getElem?_append_left (by rw [← t.len]; exact hk)] at h2
      rw [upd_ne fun z => t.out (by rw [← z]; exact List.mem_of_getElem? h1)]
      exact t.row k b m h1 h2
    · have hk2 : k < as.length + 1 := by
        have z := (List.getElem?_eq_some_iff.mp h1).1
        rw [List.length_append] at z
        exact z
      have e : k = as.length := by omega
      subst e
      rw [List.getElem?_append_right (Nat.le_refl _), Nat.sub_self] at h1
      rw [t.len, List.getElem?_append_right (Nat.le_refl _), Nat.sub_self] at h2
      have e1 : a = b := Option.some.inj (show some a = some b from h1)
      have e2 : l = m := Option.some.inj (show some l = some m from h2)
      subst e1 e2
      rw [upd_ne hD]
      exact h
theorem Tb.put {k : Nat} (t : Tb H D as tab) (hk : as[k]? = some a) : Tb (upd H a (.lst (l.map V.int))) D as (tab.set k l) := by
  have hDa : D ≠ a := fun z => t.out (by rw [z]; exact List.mem_of_getElem? hk)
  refine ⟨by rw [upd_ne hDa]; exact t.top, by rw [List.length_set]; exact t.len, t.nd, t.out, fun j b m h1 h2 => ?_⟩
  by_cases hj : j = k
  · subst hj
    rw [hk] at h1
    have e1 : a = b := Option.some.inj h1
    subst e1
    have hlt : j < tab.length := by
      have z := (List.getElem?_eq_some_iff.mp h2).1
      rw [List.length_set] at z
      exact z
    rw [List.getElem?_set_self hlt] at h2
    rw [← Option.some.inj h2, upd_same]
  · rw [List.getElem?_set_ne (Ne.symm hj)] at h2
    rw [upd_ne fun z => hj (by subst z; exact nd_ix t.nd h1 hk)]
    exact t.row j b m h1 h2
theorem Tb.other {p : Addr} {o : HO} (t : Tb H D as tab) (h1 : p ≠ D) (h2 : ¬ p ∈ as) : Tb (upd H p o) D as tab :=
  ⟨by rw [upd_ne (Ne.symm h1)]; exact t.top, t.len, t.nd, t.out, fun k a l k1 k2 => by
    rw [upd_ne fun z => h2 (by rw [← z]; exact List.mem_of_getElem? k1)]
    exact t.row k a l k1 k2⟩
end
theorem cutFrom1 (xs : List V) : cutV xs (some 1) none = xs.drop 1 := by
  have e := HT.sIx_nat xs.length 0 1
  have e' : HT.sIx xs.length 0 (some 1) = min 1 xs.length := e
  unfold cutV
  rw [e', HT.sIx_none]
  cases xs with
  | nil => rfl
  | cons x r =>
    have e2 : min 1 (x :: r).length = 1 := by rw [List.length_cons]; omega
    rw [e2]
    show List.take ((x :: r).length - 1) r = r
    rw [List.length_cons, Nat.add_sub_cancel]
    exact List.take_length
theorem getElem?_getD {α : Type} {l : List α} {i : Nat} (d : α) (h : i < l.length) : l[i]? = some (l.getD i d) := by
  rw [List.getElem?_eq_getElem h, List.getD_eq_getElem?_getD, List.getElem?_eq_getElem h]
  rfl
theorem nu_at {K : PySem.W.Frag} {H : Hp} {ns : List V} {us : List Nu} {i : Nat} (h : Paired (NeuAt K H) ns us) (hi : i < us.length) : ∃ a, ns[i]? = some (.ref a) ∧ NeuO K H a (us.getD i nu0) := by
  obtain ⟨x, hx, a, rfl, ho⟩ := Paired.getR h (getElem?_getD nu0 hi)
  exact ⟨a, hx, ho⟩
theorem leak_at {net : Net} (ok : net.Ok) {i : Nat} (hi : i < net.neus.length) : 0 ≤ (net.neus.getD i nu0).leak := ok.leak _ (List.mem_of_getElem? (getElem?_getD nu0 hi))

theorem two {α : Type} {a b : α} : [a, b].length ≤ sizeLine := by show 2 ≤ sizeLine; decide
theorem scAdvance : FnScope ["network", "state", "stimulus", "potentials", "rests", "fired", "n", "potential", "rest", "spikes", "pending", "sources", "synapse", "after", "sums", "neuron"] ["network", "state", "stimulus"] (defScope sAdvance) := ⟨rfl, rfl, rfl, by decide +kernel, rfl, by decide +kernel, by decide +kernel⟩
def spAdv (K : PySem.W.Frag) : Sp := fun vs H Q _ => ∃ (a c : Addr) (v : V) (net : Net) (st : S) (stim : List Int), vs = [.ref a, v, .ref c] ∧ NetAt K H a net ∧ StAt H v st ∧ st.Ok net ∧ H c = some (.lst (stim.map V.int)) ∧ stim.length ≤ 100 ∧
  ∀ t s f H', Same H H' → H' t = some (.tup [s, .ref f]) → StAt H' s (after net st stim) → H f = none → H' f = some (.lst ((fired net st).map V.int)) → Q (.ref t) H'
theorem hasAdvance {P : Program} {w : World} {K : PySem.W.Frag} {mg : Str → Option Value} {base : Heap} (T : Txt K mg) (hStep : Has P w K mg base 1 "step" ["neuron", "potential", "rest", "incoming"] (spStep K)) : Has P w K mg base 2 "advance" ["network", "state", "stimulus"] (spAdv K) := by
  obtain ⟨fd, F⟩ := T.fn_advance
  refine ⟨_, fd, T.gl_advance, F.kp, F.bindsN fun _ _ _ _ _ _ us hl => match us, hl with | [_, _, _], _ => rfl, fn_ok F scAdvance (fun vs H Q E h => ?_) (fun cdv A outer s H vs Q E hr h => ?_)⟩
  · obtain ⟨a, c, v, net, st, stim, rfl, _⟩ := h
    rfl
  · obtain ⟨a, c, v, net, st, stim, rfl, hn, hst, hok, hc, hcl, q⟩ := h
    refine ⟨_, (pss_cons (ps_set (i := 3) scAdvance.nd rfl (.inl rfl) (pe_lst pa_nil))
      (pss_cons (ps_set (i := 4) scAdvance.nd rfl (.inl rfl) (pe_lst pa_nil))
      (pss_cons (ps_set (i := 5) scAdvance.nd rfl (.inl rfl) (pe_lst pa_nil))
      (pss_cons (ps_for PassesOwn.never rfl (pi_range1 rfl T.fr_range (pa_cons (pe_callB call_len_seq (by rfl) T.fr_len PySem.boot_len (pa_cons (pe_fld (pv 0) rfl) pa_nil)) pa_nil)) (pg_name (i := 6) scAdvance.nd rfl (.inl rfl)) (pss_cons (ps_asg (pe_callH hStep (hr.mono (by decide)) (by rfl) (pa_cons (pe_ix ix_list (pe_fld (pv 0) rfl) (pv 6) (fun _ _ => rfl)) (pa_cons (pe_ix ix_tup (pe_ix ix_tup (pv 1) pe_int (fun _ _ => rfl)) (pv 6) (fun _ _ => rfl)) (pa_cons (pe_ix ix_tup (pe_ix ix_tup (pv 1) pe_int (fun _ _ => rfl)) (pv 6) (fun _ _ => rfl)) (pa_cons (pe_ix ix_tup (pe_ix ix_tup (pe_ix ix_tup (pv 1) pe_int (fun _ _ => rfl)) pe_int (fun _ _ => rfl)) (pv 6) (fun _ _ => rfl)) pa_nil))))) (pg_tup (by rfl) (pgs_cons (pg_name (i := 7) scAdvance.nd rfl (.inl rfl)) (pgs_cons (pg_name (i := 8) scAdvance.nd rfl (.inl rfl)) (pgs_cons (pg_name (i := 9) scAdvance.nd rfl (.inl rfl)) pgs_nil)))))
      (pss_cons (ps_expr (pe_bm PySem.F.plainAttrs_list PySem.F.slot_list_append PySem.F.type_list_append mt_append (pv 3) (pa_cons (pv 7) pa_nil)))
      (pss_cons (ps_expr (pe_bm PySem.F.plainAttrs_list PySem.F.slot_list_append PySem.F.type_list_append mt_append (pv 4) (pa_cons (pv 8) pa_nil)))
      (pss_one (ps_if (pt_val (pv 9)) (pss_one (ps_expr (pe_bm PySem.F.plainAttrs_list PySem.F.slot_list_append PySem.F.type_list_append mt_append (pv 5) (pa_cons (pv 6) pa_nil)))) pss_nil))))))
      (pss_cons (ps_setLc (i := 10) (own := [("sums", 14)]) (g := gName 14) (tt := tYes) (te := tCB (rListOf K) (tCons (tVar 14) tNil)) rfl scAdvance.nd rfl rfl (sw_true rfl rfl rfl (by decide +kernel)) (pi_tup (pe_slice sl_tup (pe_ix ix_tup (pv 1) pe_int (fun _ _ => rfl)) (po_some pe_int) po_none)) (blkOk_by (N := ["network", "state", "stimulus", "potentials", "rests", "fired", "n", "potential", "rest", "spikes", "pending", "sources", "synapse", "after", "sums", "neuron"]) (sc := defScope sAdvance) (by decide +kernel)) (fun _ _ _ _ _ => pg_name (i := 14) scAdvance.nd rfl (Or.inl rfl)) (fun _ _ _ _ _ => pts_nil) (fun _ _ _ _ _ => (pe_callTy call_list_of (by rfl) T.fr_list bt_list (pa_cons (pv 14) pa_nil))))
      (pss_cons (ps_expr (pe_bm PySem.F.plainAttrs_list PySem.F.slot_list_append PySem.F.type_list_append mt_append (pv 10) (pa_cons (pe_lc (own := [("neuron", 15)]) (g := gName 15) (tt := tYes) rfl scAdvance.nd (pi_list (pe_fld (pv 0) rfl)) (blkOk_by (N := ["network", "state", "stimulus", "potentials", "rests", "fired", "n", "potential", "rest", "spikes", "pending", "sources", "synapse", "after", "sums", "neuron"]) (sc := defScope sAdvance) (by decide +kernel)) (fun _ _ _ _ _ => pg_name (i := 15) scAdvance.nd rfl (Or.inl rfl)) (fun _ _ _ _ _ => pts_nil) (fun _ _ _ _ _ => pe_int)) pa_nil)))
      (pss_cons (ps_set (i := 11) scAdvance.nd rfl (.inl rfl) (pe_op op_cat (pv 2) (pe_lc (own := [("n", 6)]) (g := gName 6) (tt := tYes) (te := tOp (rI0 fun i j => .int (i + j)) (tFld K (tVar 0) "inputs") (tVar 6)) rfl scAdvance.nd (pi_list (pv 5)) (blkOk_by (N := ["network", "state", "stimulus", "potentials", "rests", "fired", "n", "potential", "rest", "spikes", "pending", "sources", "synapse", "after", "sums", "neuron"]) (sc := defScope sAdvance) (by decide +kernel)) (fun _ _ _ _ _ => pg_name (i := 6) scAdvance.nd rfl (Or.inl rfl)) (fun _ _ _ _ _ => pts_nil) (fun _ _ _ _ _ => (pe_op op_add (pe_fld (pv 0) rfl) (pv 6))))))
      (pss_cons (ps_for PassesOwn.never rfl (pi_list (pe_fld (pv 0) rfl)) (pg_name (i := 12) scAdvance.nd rfl (.inl rfl)) (pss_one (ps_if (pt_cmpR op_in_seq (pe_fld (pv 12) rfl) (pv 11) (by rfl)) (pss_one (ps_augS (pe_ix ix_list (pv 10) (pe_op op_sub (pe_fld (pv 12) rfl) pe_int) (fun _ _ => rfl)) (pe_fld (pv 12) rfl) get_list (pe_fld (pv 12) rfl) ip_add set_list)) pss_nil)))
      (pss_cons (ps_set (i := 13) scAdvance.nd rfl (.inl rfl) (pe_tup (pa_cons (pe_callTy call_tuple_of (by rfl) T.fr_tuple bt_tuple (pa_cons (pv 3) pa_nil)) (pa_cons (pe_callTy call_tuple_of (by rfl) T.fr_tuple bt_tuple (pa_cons (pv 4) pa_nil)) (pa_cons (pe_callTy call_tuple_of (by rfl) T.fr_tuple bt_tuple (pa_cons (pe_lc (own := [("sums", 14)]) (g := gName 14) (tt := tYes) (te := tCB (rTupOf K) (tCons (tVar 14) tNil)) rfl scAdvance.nd (pi_list (pv 10)) (blkOk_by (N := ["network", "state", "stimulus", "potentials", "rests", "fired", "n", "potential", "rest", "spikes", "pending", "sources", "synapse", "after", "sums", "neuron"]) (sc := defScope sAdvance) (by decide +kernel)) (fun _ _ _ _ _ => pg_name (i := 14) scAdvance.nd rfl (Or.inl rfl)) (fun _ _ _ _ _ => pts_nil) (fun _ _ _ _ _ => (pe_callTy call_tuple_of (by rfl) T.fr_tuple bt_tuple (pa_cons (pv 14) pa_nil)))) pa_nil)) pa_nil)))))
      (pss_one (ps_ret (pe_tup (pa_cons (pv 13) (pa_cons (pv 5) pa_nil)))))))))))))), ?_⟩
    obtain ⟨dx, fs, l1, l2, ns, ss, h0, h1, h2, h3, h4, h5, h6, h7, h8⟩ := hn.ex
    have net_ok := hn.ok
    have hhi := net_ok.hi
    have hlen := Paired.len h6
    obtain ⟨b, ap, ar, aq, qs, rfl, k1, k2, k3, k4, k5⟩ := hst
    have hqs : qs.length = 15 := (Paired.len k5).trans hok.n
    refine ⟨Nat.zero_le _, fun p1 hp1 => ⟨Nat.zero_le _, fun p2 hp2 => ⟨Nat.zero_le _, fun p3 hp3 => ?_⟩⟩⟩
    have n21 : p2 ≠ p1 := fun z => by rw [z, upd_same] at hp2; cases hp2
    have n32 : p3 ≠ p2 := fun z => by rw [z, upd_same] at hp3; cases hp3
    have n31 : p3 ≠ p1 := fun z => by rw [z, upd_ne n21.symm, upd_same] at hp3; cases hp3
    have f2 : H p2 = none := (same_new hp1).free hp2
    have f3 : H p3 = none := (same_new hp1).free ((same_new hp2).free hp3)
    have s0 : Same H (upd (upd (upd H p1 (.lst [])) p2 (.lst [])) p3 (.lst [])) := (same_new hp1).trans ((same_new hp2).trans (same_new hp3))
    refine ⟨_, rfl, a, _, dx, fs, _, rfl, s0 _ _ h0, T.cl_Network, T.na_Network_neurons, h2, l1, ns, rfl, .inl (SqL.of (s0 _ _ h5)), _, rfl, by omega, by omega, ?_⟩
    refine for_range (lo := 0) (n := (ns.length : Int).toNat) (fun i σ' H' => ∃ x6 x7 x8 x9, σ' = [some (.ref a), some (.ref b), some (.ref c), some (.ref p1), some (.ref p2), some (.ref p3), x6, x7, x8, x9, none, none, none, none, none, none] ∧ Same H H' ∧
      H' p1 = some (.lst ((potsOf net.neus st.pots st.rests (st.pend.getD 0 []) i).map V.int)) ∧ H' p2 = some (.lst ((restsOf net.neus st.pots st.rests (st.pend.getD 0 []) i).map V.int)) ∧ H' p3 = some (.lst ((firedOf net.neus st.pots st.rests (st.pend.getD 0 []) i).map V.int)))
      ⟨none, none, none, none, rfl, s0, ?_, ?_, upd_same⟩ ?_ ?_
    · rw [upd_ne n31.symm, upd_ne n21.symm, upd_same]; rfl
    · rw [upd_ne n32.symm, upd_same]; rfl
    · rintro i σ' H' hi ⟨x6, x7, x8, x9, rfl, sm, e1, e2, e3⟩
      have hi : i < net.neus.length := by rw [← hlen]; omega
      have e0 : (0 : Int) + (i : Int) = (i : Int) := Int.zero_add _
      rw [e0]
      obtain ⟨u, hu, hu2⟩ := nu_at h6 hi
      have r0 := k5.get (i := 0) (getElem?_getD [] (by rw [hok.n]; decide))
      obtain ⟨z0, hz0, hz1⟩ := r0
      have lz : (st.pend.getD 0 []).length = net.neus.length := hok.tab.getD (by decide)
      refine ⟨_, rfl, a, _, dx, fs, _, rfl, sm _ _ h0, T.cl_Network, T.na_Network_neurons, h2, _, rfl, l1, ns, (i : Int), _, rfl, rfl, SqL.of (sm _ _ h5), atI_nat hu, ?_⟩
      refine ⟨_, rfl, b, _, 0, _, rfl, rfl, SqT.of (sm _ _ k1), at0 rfl, _, rfl, ap, _, (i : Int), _, rfl, rfl, SqT.of (sm _ _ k2), atI_nat (int_at (by rw [hok.p]; exact hi)), ?_⟩
      refine ⟨_, rfl, b, _, 1, _, rfl, rfl, SqT.of (sm _ _ k1), at1 rfl, _, rfl, ar, _, (i : Int), _, rfl, rfl, SqT.of (sm _ _ k3), atI_nat (int_at (by rw [hok.r]; exact hi)), ?_⟩
      refine ⟨_, rfl, b, _, 2, _, rfl, rfl, SqT.of (sm _ _ k1), at2 rfl, aq, _, 0, _, rfl, rfl, SqT.of (sm _ _ k4), at0 hz0, _, rfl, z0, _, (i : Int), _, rfl, rfl, SqT.of (sm _ _ hz1), atI_nat (int_at (by rw [lz]; exact hi)), ?_⟩
      refine ⟨u, net.neus.getD i nu0, st.pots.getD i 0, st.rests.getD i 0, (st.pend.getD 0 []).getD i 0, rfl, hu2.same sm, leak_at net_ok hi, fun t ht => ?_⟩
      have es : step (net.neus.getD i nu0) (st.pots.getD i 0) (st.rests.getD i 0) ((st.pend.getD 0 []).getD i 0) = stepAt net.neus st.pots st.rests (st.pend.getD 0 []) i := rfl
      rw [es]
      generalize hs3 : stepAt net.neus st.pots st.rests (st.pend.getD 0 []) i = s3
      have m1 : p1 ≠ t := ne_of_none e1 ht
      have m2 : p2 ≠ t := ne_of_none e2 ht
      have m3 : p3 ≠ t := ne_of_none e3 ht
      have sm' := sm.trans (same_new (o := .tup [.int s3.1, .int s3.2.1, .bl s3.2.2]) ht)
      refine ⟨t, _, rfl, SqT.of upd_same, rfl, _, _, rfl, _, _, rfl, _, _, rfl, rfl, ?_⟩
      have lp := potsOf_length net.neus st.pots st.rests (st.pend.getD 0 []) i
      have lr := restsOf_length net.neus st.pots st.rests (st.pend.getD 0 []) i
      have lf := firedOf_length net.neus st.pots st.rests (st.pend.getD 0 []) i
      have g1 : (upd H' t (.tup [.int s3.1, .int s3.2.1, .bl s3.2.2])) p1 = some (.lst ((potsOf net.neus st.pots st.rests (st.pend.getD 0 []) i).map V.int)) := by rw [upd_ne m1]; exact e1
      have g2 : (upd H' t (.tup [.int s3.1, .int s3.2.1, .bl s3.2.2])) p2 = some (.lst ((restsOf net.neus st.pots st.rests (st.pend.getD 0 []) i).map V.int)) := by rw [upd_ne m2]; exact e2
      have g3 : (upd H' t (.tup [.int s3.1, .int s3.2.1, .bl s3.2.2])) p3 = some (.lst ((firedOf net.neus st.pots st.rests (st.pend.getD 0 []) i).map V.int)) := by rw [upd_ne m3]; exact e3
      generalize upd H' t (.tup [.int s3.1, .int s3.2.1, .bl s3.2.2]) = H2 at sm' g1 g2 g3
      refine ⟨_, rfl, .inl ⟨rfl, _, SqL.of g1⟩, _, rfl, p1, _, _, rfl, rfl, g1, small1000 (by rw [List.length_map, lp]; omega), ?_⟩
      have g2' : (upd H2 p1 (.lst ((potsOf net.neus st.pots st.rests (st.pend.getD 0 []) i).map V.int ++ [.int s3.1]))) p2 = some (.lst ((restsOf net.neus st.pots st.rests (st.pend.getD 0 []) i).map V.int)) := by rw [upd_ne n21]; exact g2
      refine ⟨_, rfl, .inl ⟨rfl, _, SqL.of g2'⟩, _, rfl, p2, _, _, rfl, rfl, g2', small1000 (by rw [List.length_map, lr]; omega), ?_⟩
      have g3' : (upd (upd H2 p1 (.lst ((potsOf net.neus st.pots st.rests (st.pend.getD 0 []) i).map V.int ++ [.int s3.1]))) p2 (.lst ((restsOf net.neus st.pots st.rests (st.pend.getD 0 []) i).map V.int ++ [.int s3.2.1]))) p3 = some (.lst ((firedOf net.neus st.pots st.rests (st.pend.getD 0 []) i).map V.int)) := by
        rw [upd_ne n32, upd_ne n31]; exact g3
      have w1 : (potsOf net.neus st.pots st.rests (st.pend.getD 0 []) i).map V.int ++ [.int s3.1] = (potsOf net.neus st.pots st.rests (st.pend.getD 0 []) (i + 1)).map V.int := by
        rw [potsOf_succ, List.map_append, hs3]; rfl
      have w2 : (restsOf net.neus st.pots st.rests (st.pend.getD 0 []) i).map V.int ++ [.int s3.2.1] = (restsOf net.neus st.pots st.rests (st.pend.getD 0 []) (i + 1)).map V.int := by
        rw [restsOf_succ, List.map_append, hs3]; rfl
      rw [w1, w2] at g3' ⊢
      have sm2 := same_mut (o := .lst ((restsOf net.neus st.pots st.rests (st.pend.getD 0 []) (i + 1)).map V.int)) (same_mut (o := .lst ((potsOf net.neus st.pots st.rests (st.pend.getD 0 []) (i + 1)).map V.int)) sm' hp1) f2
      refine ⟨_, rfl, _, rfl, ite2 (fun cs => ?_) (fun cs => ?_)⟩
      · refine ⟨_, rfl, .inl ⟨rfl, _, SqL.of g3'⟩, _, rfl, p3, _, _, rfl, rfl, g3', small1000 (by rw [List.length_map]; omega), ?_⟩
        refine ⟨_, _, _, _, rfl, same_mut sm2 f3, ?_, ?_, ?_⟩
        · rw [upd_ne n31.symm, upd_ne n21.symm, upd_same]
        · rw [upd_ne n32.symm, upd_same]
        · rw [upd_same, firedOf_yes (by rw [hs3]; exact cs), List.map_append]; rfl
      · refine ⟨_, _, _, _, rfl, sm2, ?_, ?_, ?_⟩
        · rw [upd_ne n21.symm, upd_same]
        · rw [upd_same]
        · rw [firedOf_no (by rw [hs3]; simpa using cs)]; exact g3'
    · rintro σ' H' ⟨x6, x7, x8, x9, rfl, sm, e1, e2, e3⟩
      have en : (ns.length : Int).toNat = net.neus.length := by rw [Int.toNat_natCast, hlen]
      rw [en] at e1 e2 e3
      refine ⟨_, rfl, b, _, 2, _, rfl, rfl, SqT.of (sm _ _ k1), at2 rfl, 1, rfl, aq, qs, rfl, SqT.of (sm _ _ k4), fun z => by rw [hqs] at z; exact absurd z.1 (by decide), fun pt hpt => ⟨pt, rfl, ⟨_, SqT.of upd_same⟩, fun D hD => ?_⟩⟩
      have sb := sm.trans (same_new (o := .tup (cutV qs (some 1) none)) hpt)
      have f1 := same_new (o := .tup (cutV qs (some 1) none)) hpt _ _ e1
      have f2' := same_new (o := .tup (cutV qs (some 1) none)) hpt _ _ e2
      have f3' := same_new (o := .tup (cutV qs (some 1) none)) hpt _ _ e3
      have fpt : (upd H' pt (.tup (cutV qs (some 1) none))) pt = some (.tup (cutV qs (some 1) none)) := upd_same
      generalize upd H' pt (.tup (cutV qs (some 1) none)) = Hb at sb f1 f2' f3' fpt hD ⊢
      clear e1 e2 e3 sm hpt
      refine lc_tup (K := K) (a := pt) (xs := cutV qs (some 1) none) (fun i H'' => ∃ as, Same Hb H'' ∧ (∀ x ∈ as, Hb x = none) ∧ Tb H'' D as ((st.pend.drop 1).take i))
        ⟨[], same_new hD, (fun x hx => by cases hx), Tb.empty upd_same⟩ (fun i H'' _ ⟨as, h, _⟩ => SqT.of (h _ _ fpt)) ?_ ?_
      · rintro i x H'' hx ⟨as, hs, ho, tb⟩
        rw [cutFrom1, List.getElem?_drop] at hx
        obtain ⟨l, hl, z, rfl, hz⟩ := Paired.getL k5 hx
        have hz2 := hs _ _ (sb _ _ hz)
        have hi := (List.getElem?_eq_some_iff.mp hx).1
        refine ⟨rfl, tYes_ok (iteT ⟨_, rfl, z, _, rfl, .inr (SqT.of hz2), fun n hnw => ?_⟩)⟩
        have nD : n ≠ D := fun e => by rw [e, tb.top] at hnw; cases hnw
        have tb2 := tb.same (same_new (o := .lst (l.map V.int)) hnw)
        refine ⟨_, tb2.top, small1000 ?_, as ++ [n], same_mut (hs.trans (same_new hnw)) hD, fun y hy => ?_, ?_⟩
        · rw [List.length_map, tb.len, List.length_take]
          omega
        · rcases List.mem_append.mp hy with hy | hy
          · exact ho y hy
          · rw [List.mem_singleton.mp hy]; exact hs.free hnw
        · have e : (st.pend.drop 1).take (i + 1) = (st.pend.drop 1).take i ++ [l] := by
            rw [List.take_add_one, List.getElem?_drop, hl]; rfl
          rw [e]
          exact tb2.snoc (tb.new_out hnw) nD upd_same
      · rintro H2 ⟨as, hs, ho, tb⟩
        have e14 : (st.pend.drop 1).take (cutV qs (some 1) none).length = st.pend.drop 1 := by
          rw [cutFrom1, List.length_drop, hqs]
          exact List.take_of_length_le (by rw [List.length_drop, hok.n]; decide)
        rw [e14] at tb
        have las : as.length = 14 := by rw [tb.len, List.length_drop, hok.n]
        refine ⟨_, rfl, .inl ⟨rfl, _, SqL.of tb.top⟩, _, rfl, a, _, dx, fs, _, rfl, hs _ _ (sb _ _ h0), T.cl_Network, T.na_Network_neurons, h2, l1, rfl, ⟨_, SqL.of (hs _ _ (sb _ _ h5))⟩, fun D2 hD2 => ?_⟩
        refine lc_list (K := K) (a := l1) (xs := ns) (fun i H'' => Same H2 H'' ∧ H'' D2 = some (.lst (List.replicate i (.int 0)))) ⟨same_new hD2, upd_same⟩ (fun i H'' _ ⟨h, _⟩ => SqL.of (h _ _ (hs _ _ (sb _ _ h5)))) (fun i x H'' hx ⟨h, hd⟩ => ?_) (fun H3 ⟨s3, d3⟩ => ?_)
        · have hi' := (List.getElem?_eq_some_iff.mp hx).1
          refine ⟨rfl, tYes_ok (iteT ⟨_, hd, small1000 (by rw [List.length_replicate]; omega), same_mut h hD2, ?_⟩)⟩
          rw [upd_same, List.replicate_succ']
        · have ez : List.replicate ns.length (V.int 0) = (zeros net.neus.length).map V.int := by rw [map_rep, hlen]
          rw [ez] at d3
          have tb3 := tb.same s3
          refine ⟨D, _, _, rfl, rfl, tb3.top, small1000 (by rw [List.length_map, las]; decide), ?_⟩
          have nD2 : D2 ≠ D := fun e => by rw [e, tb.top] at hD2; cases hD2
          have tb4 := tb3.snoc (tb.new_out hD2) nD2 d3
          have ep : st.pend.drop 1 ++ [zeros net.neus.length] = pend0 net st := rfl
          rw [ep] at tb4
          have s4 : Same Hb (upd H3 D (.lst (as.map V.ref ++ [.ref D2]))) := same_mut (hs.trans s3) hD
          have o4 : ∀ x ∈ as ++ [D2], Hb x = none := fun y hy => by
            rcases List.mem_append.mp hy with hy | hy
            · exact ho y hy
            · rw [List.mem_singleton.mp hy]; exact hs.free hD2
          generalize upd H3 D (.lst (as.map V.ref ++ [.ref D2])) = H4 at tb4 s4
          generalize as ++ [D2] = as4 at tb4 o4
          have g3 := s4 _ _ f3'
          have hff : firedOf net.neus st.pots st.rests (st.pend.getD 0 []) net.neus.length = fired net st := rfl
          rw [hff] at g3 f3'
          have lff : (fired net st).length ≤ net.neus.length := firedOf_length ..
          refine ⟨_, rfl, _, rfl, p3, rfl, ⟨_, SqL.of g3⟩, fun D3 hD3 => ?_⟩
          refine lc_list (K := K) (a := p3) (xs := (fired net st).map V.int) (fun i H'' => Same H4 H'' ∧ H'' D3 = some (.lst ((((fired net st).map fun n => (net.inputs : Int) + n).take i).map V.int))) ⟨same_new hD3, upd_same⟩ (fun i H'' _ ⟨h, _⟩ => SqL.of (h _ _ g3)) (fun i x H'' hx ⟨h, hd⟩ => ?_) (fun H5 ⟨s5, d5⟩ => ?_)
          · have hi' := (List.getElem?_eq_some_iff.mp hx).1
            rw [List.length_map] at hi'
            rw [int_at hi'] at hx
            have hx := Option.some.inj hx
            subst hx
            refine ⟨rfl, tYes_ok (iteT ⟨_, rfl, a, _, dx, fs, _, rfl, h _ _ (s4 _ _ (sb _ _ h0)), T.cl_Network, T.na_Network_inputs, h1, _, rfl, _, _, rfl, rfl, _, hd, small1000 ?_, same_mut h hD3, ?_⟩)⟩
            · rw [List.length_map, List.length_take, List.length_map]; omega
            · rw [upd_same, List.take_add_one, List.getElem?_map, getElem?_getD 0 hi', List.map_append]
              rfl
          · have et : ((fired net st).map fun n => (net.inputs : Int) + n).take ((fired net st).map V.int).length = (fired net st).map fun n => (net.inputs : Int) + n := List.take_of_length_le (by rw [List.length_map, List.length_map]; exact Nat.le_refl _)
            rw [et] at d5
            have s45 := s4.trans s5
            refine ⟨c, D3, _, _, rfl, rfl, s45 _ _ (sb _ _ hc), d5, Nat.le_of_lt (small1000 (by rw [List.length_map, List.length_map, List.length_map]; omega)), fun sr hsr => ?_⟩
            have es : stim.map V.int ++ ((fired net st).map fun n => (net.inputs : Int) + n).map V.int = (srcs net stim (fired net st)).map V.int := by
              unfold srcs
              rw [List.map_append]
            rw [es]
            have tb6 := (tb4.same s5).same (same_new (o := .lst ((srcs net stim (fired net st)).map V.int)) hsr)
            have s6 := s45.trans (same_new (o := .lst ((srcs net stim (fired net st)).map V.int)) hsr)
            have n6 : ∀ x ∈ as4, sr ≠ x := fun x hx e => (tb4.same s5).new_out hsr (e ▸ hx)
            have nrD : sr ≠ D := fun e => by rw [e, (tb4.same s5).top] at hsr; cases hsr
            have r6 : (upd H5 sr (.lst ((srcs net stim (fired net st)).map V.int))) sr = some (.lst ((srcs net stim (fired net st)).map V.int)) := upd_same
            generalize upd H5 sr (.lst ((srcs net stim (fired net st)).map V.int)) = H6 at tb6 s6 r6
            refine ⟨_, rfl, a, _, dx, fs, _, rfl, s6 _ _ (sb _ _ h0), T.cl_Network, T.na_Network_synapses, h3, l2, rfl, ⟨_, SqL.of (s6 _ _ (sb _ _ h7))⟩, ?_⟩
            refine for_list (K := K) (a := l2) (xs := ss) (fun i σ' H'' => ∃ x12, σ' = [some (.ref a), some (.ref b), some (.ref c), some (.ref p1), some (.ref p2), some (.ref p3), x6, x7, x8, x9, some (.ref D), some (.ref sr), x12, none, none, none] ∧ Same Hb H'' ∧
              Tb H'' D as4 ((net.syns.take i).foldl (sends (srcs net stim (fired net st))) (pend0 net st)) ∧ H'' sr = some (.lst ((srcs net stim (fired net st)).map V.int))) ⟨none, rfl, s6, tb6, r6⟩ (fun i σ' H'' _ ⟨_, _, h, _⟩ => SqL.of (h _ _ (sb _ _ h7))) ?_ ?_
            · rintro i x σ' H'' hx ⟨x12, rfl, hs7, tb7, r7⟩
              obtain ⟨sy, hsy, z, rfl, hz⟩ := Paired.getL h8 hx
              obtain ⟨dz, fz, z0, z1, z2, z3, z4⟩ := hz.ex
              have z0 := hs7 _ _ (sb _ _ z0)
              have hm := List.mem_of_getElem? hsy
              have ef : (net.syns.take (i + 1)).foldl (sends (srcs net stim (fired net st))) (pend0 net st) = sends (srcs net stim (fired net st)) ((net.syns.take i).foldl (sends (srcs net stim (fired net st))) (pend0 net st)) sy := by
                rw [List.take_add_one, hsy, List.foldl_append]
                rfl
              have tT : Tab net.neus.length ((net.syns.take i).foldl (sends (srcs net stim (fired net st))) (pend0 net st)) :=
                Tab.foldl (pend0_tab hok) (fun s h => net_ok.d1 s (List.mem_of_mem_take h)) fun s h => Nat.le_trans (net_ok.d2 s (List.mem_of_mem_take h)) (by decide)
              generalize (net.syns.take i).foldl (sends (srcs net stim (fired net st))) (pend0 net st) = tab at tb7 ef tT
              have d1 := net_ok.d1 sy hm
              have d2 := net_ok.d2 sy hm
              have dt := net_ok.tgt sy hm
              refine ⟨_, rfl, z, _, dz, fz, _, rfl, z0, T.cl_Synapse, T.na_Synapse_source, z1, _, rfl, sr, _, rfl, .inl (SqL.of r7), rfl, flat_ints _, _, rfl, ?_⟩
              rw [inV_int]
              refine ite2 (fun cs => ?_) (fun cs => ?_)
              · have cs : sy.src ∈ srcs net stim (fired net st) := of_decide_eq_true cs
                have hk : sy.delay - 1 < 15 := by omega
                have ha4 : sy.delay - 1 < as4.length := by rw [tb7.len, tT.len]; exact hk
                have hrow := getElem?_getD ([] : List Int) (show sy.delay - 1 < tab.length by rw [tT.len]; exact hk)
                have hra := List.getElem?_eq_getElem ha4
                have hr := tb7.row _ _ _ hra hrow
                have lrow := tT.getD hk
                have hin : as4[sy.delay - 1] ∈ as4 := List.getElem_mem ha4
                have ed : (sy.delay : Int) - 1 = ((sy.delay - 1 : Nat) : Int) := by omega
                refine ⟨_, rfl, _, rfl, z, _, dz, fz, _, rfl, z0, T.cl_Synapse, T.na_Synapse_delay, z4, _, _, rfl, rfl, D, _, _, _, rfl, rfl, SqL.of tb7.top, at_of ed (by rw [List.getElem?_map, hra]; rfl), ?_⟩
                refine ⟨_, rfl, z, _, dz, fz, _, rfl, z0, T.cl_Synapse, T.na_Synapse_target, z2, _, _, _, _, rfl, rfl, SqL.of hr, by omega, by omega, int_at (by rw [lrow]; exact dt), ?_⟩
                refine ⟨_, rfl, z, _, dz, fz, _, rfl, z0, T.cl_Synapse, T.na_Synapse_weight, z3, _, _, rfl, rfl, _, _, _, sy.tgt, rfl, rfl, hr, Evl.ixN_nat (by rw [List.length_map, lrow]; exact dt), ?_⟩
                have e2 : ((tab.getD (sy.delay - 1) []).map V.int).set sy.tgt (.int ((tab.getD (sy.delay - 1) []).getD sy.tgt 0 + sy.w)) = ((tab.getD (sy.delay - 1) []).set sy.tgt ((tab.getD (sy.delay - 1) []).getD sy.tgt 0 + sy.w)).map V.int := List.map_set.symm
                refine ⟨_, rfl, same_mut hs7 (o4 _ hin), ?_, ?_⟩
                · rw [ef]
                  unfold sends
                  rw [if_pos cs]
                  show Tb (upd H'' as4[sy.delay - 1] (.lst (((tab.getD (sy.delay - 1) []).map V.int).set sy.tgt (.int ((tab.getD (sy.delay - 1) []).getD sy.tgt 0 + sy.w))))) D as4 (bump tab sy)
                  rw [e2]
                  exact tb7.put hra
                · rw [upd_ne (n6 _ hin)]
                  exact r7
              · have cs : ¬ sy.src ∈ srcs net stim (fired net st) := fun z => cs (decide_eq_true z)
                refine ⟨_, rfl, hs7, ?_, r7⟩
                rw [ef]
                unfold sends
                rw [if_neg cs]
                exact tb7
            · rintro σ' H7 ⟨x12, rfl, hs7, tb7, r7⟩
              have est : net.syns.take ss.length = net.syns := List.take_of_length_le (by rw [Paired.len h8]; exact Nat.le_refl _)
              rw [est] at tb7
              have tT : Tab net.neus.length (net.syns.foldl (sends (srcs net stim (fired net st))) (pend0 net st)) :=
                Tab.foldl (pend0_tab hok) net_ok.d1 fun s h => Nat.le_trans (net_ok.d2 s h) (by decide)
              have ea : (after net st stim).pend = net.syns.foldl (sends (srcs net stim (fired net st))) (pend0 net st) := rfl
              rw [← ea] at tb7 tT
              have f1 : Hb p1 = some (.lst ((after net st stim).pots.map V.int)) := f1
              have f2' : Hb p2 = some (.lst ((after net st stim).rests.map V.int)) := f2'
              refine ⟨_, rfl, p1, _, rfl, .inl ⟨SqL.of (hs7 _ _ f1), fun t1 ht1 => ?_⟩⟩
              have s8 := hs7.trans (same_new (o := .tup ((after net st stim).pots.map V.int)) ht1)
              have tb8 := tb7.same (same_new (o := .tup ((after net st stim).pots.map V.int)) ht1)
              have q1 : (upd H7 t1 (.tup ((after net st stim).pots.map V.int))) t1 = some (.tup ((after net st stim).pots.map V.int)) := upd_same
              refine ⟨_, rfl, p2, _, rfl, .inl ⟨SqL.of (s8 _ _ f2'), fun t2 ht2 => ?_⟩⟩
              have s9 := s8.trans (same_new (o := .tup ((after net st stim).rests.map V.int)) ht2)
              have tb9 := tb8.same (same_new (o := .tup ((after net st stim).rests.map V.int)) ht2)
              have q1 := same_new (o := .tup ((after net st stim).rests.map V.int)) ht2 _ _ q1
              have q2 : (upd (upd H7 t1 (.tup ((after net st stim).pots.map V.int))) t2 (.tup ((after net st stim).rests.map V.int))) t2 = some (.tup ((after net st stim).rests.map V.int)) := upd_same
              generalize (upd (upd H7 t1 (.tup ((after net st stim).pots.map V.int))) t2 (.tup ((after net st stim).rests.map V.int))) = H9 at s9 tb9 q1 q2 ⊢
              refine ⟨_, rfl, D, rfl, ⟨_, SqL.of tb9.top⟩, fun D5 hD5 => ?_⟩
              refine lc_list (K := K) (a := D) (xs := as4.map V.ref) (fun i H'' => ∃ vs, Same H9 H'' ∧ H'' D5 = some (.lst vs) ∧ RowsAt H'' vs ((after net st stim).pend.take i)) ⟨[], same_new hD5, upd_same, .nil⟩ (fun i H'' _ ⟨vs, h, _⟩ => SqL.of (h _ _ tb9.top)) (fun i x H'' hx ⟨vs, h, hd, hrw⟩ => ?_) (fun H10 ⟨vs, s10, d10, rw10⟩ => ?_)
              · have hi' := (List.getElem?_eq_some_iff.mp hx).1
                rw [List.length_map] at hi'
                have hip : i < (after net st stim).pend.length := by rw [← tb9.len]; exact hi'
                rw [List.getElem?_map, List.getElem?_eq_getElem hi'] at hx
                have hx : V.ref as4[i] = x := Option.some.inj hx
                subst hx
                have hrow := getElem?_getD ([] : List Int) hip
                have hr := h _ _ (tb9.row _ _ _ (List.getElem?_eq_getElem hi') hrow)
                refine ⟨rfl, tYes_ok (iteT ⟨_, rfl, _, _, rfl, .inl ⟨SqL.of hr, fun t ht => ?_⟩⟩)⟩
                have hd2 := same_new (o := .tup (((after net st stim).pend.getD i []).map V.int)) ht _ _ hd
                have lvs := Paired.len hrw
                refine ⟨_, hd2, small1000 ?_, vs ++ [.ref t], same_mut (h.trans (same_new ht)) hD5, upd_same, ?_⟩
                · rw [lvs, List.length_take]
                  have := tT.len
                  omega
                · rw [List.take_add_one, hrow]
                  have ntD : t ≠ D5 := fun e => by rw [e, hd] at ht; cases ht
                  refine Paired.snoc ((hrw.tu (Same.tu (same_new ht))).tu (tu_lst hd2)) ⟨t, rfl, ?_⟩
                  rw [upd_ne ntD, upd_same]
              · have etk : (after net st stim).pend.take (as4.map V.ref).length = (after net st stim).pend := List.take_of_length_le (by rw [List.length_map, tb9.len]; exact Nat.le_refl _)
                rw [etk] at rw10
                refine ⟨D5, _, rfl, .inl ⟨SqL.of d10, fun tq htq => ⟨three, fun tp htp => ?_⟩⟩⟩
                have s11 := same_new (o := .tup vs) htq
                have s12 := same_new (o := .tup [.ref t1, .ref t2, .ref tq]) htp
                have s13 := s10.trans (s11.trans s12)
                have hst' : StAt (upd (upd H10 tq (.tup vs)) tp (.tup [.ref t1, .ref t2, .ref tq])) (.ref tp) (after net st stim) :=
                  ⟨tp, t1, t2, tq, vs, rfl, upd_same, s13 _ _ q1, s13 _ _ q2, s12 _ _ upd_same, (rw10.tu (Same.tu s11)).tu (Same.tu s12)⟩
                have s14 := s9.trans s13
                generalize upd (upd H10 tq (.tup vs)) tp (.tup [.ref t1, .ref t2, .ref tq]) = H12 at hst' s14
                refine ⟨_, rfl, _, rfl, two, fun t ht => ?_⟩
                have s15 := s14.trans (same_new (o := .tup [.ref tp, .ref p3]) ht)
                exact q t (.ref tp) p3 _ (sb.trans s15) upd_same (hst'.tu (Same.tu (same_new ht))) f3 (s15 _ _ f3')
end SK

/-! Spikehold: path_to, decide. -/
namespace SK
open PySem PySem.Spec PyProof.Rows L2
/-- lists of whole numbers, by their references -/
def LsAt (H : Hp) : List V → List (List Int) → Prop := Paired fun v l => ∃ b, v = .ref b ∧ H b = some (.lst (l.map V.int))
theorem LsAt.same {H H' : Hp} (e : Same H H') {vs : List V} {X : List (List Int)} (h : LsAt H vs X) : LsAt H' vs X := Paired.mapP h fun _ _ ⟨b, q, z⟩ => ⟨b, q, e _ _ z⟩
def StimsAt (H : Hp) (a : Addr) (X : List (List Int)) : Prop := ∃ vs, H a = some (.lst vs) ∧ LsAt H vs X
theorem StimsAt.same {H H' : Hp} (e : Same H H') {a : Addr} {X : List (List Int)} (h : StimsAt H a X) : StimsAt H' a X := let ⟨vs, h1, h2⟩ := h; ⟨vs, e _ _ h1, h2.same e⟩
theorem Tb.ls {H : Hp} {D : Addr} : ∀ {as : List Addr} {X : List (List Int)}, as.length = X.length → (∀ (k : Nat) (a : Addr) (l : List Int), as[k]? = some a → X[k]? = some l → H a = some (.lst (l.map V.int))) → LsAt H (as.map V.ref) X
  | [], [], _, _ => .nil
  | [], _ :: _, h, _ => by simp at h
  | _ :: _, [], h, _ => by simp at h
  | a :: r, x :: t, h, hr => .cons ⟨a, rfl, hr 0 a x rfl rfl⟩ (Tb.ls (D := D) (Nat.succ.inj h) fun k b l h1 h2 => hr (k + 1) b l h1 h2)
theorem pd_app {α β : Type} {R : α → β → Prop} : ∀ {xs us : List α} {ys vs : List β}, Paired R xs ys → Paired R us vs → Paired R (xs ++ us) (ys ++ vs)
  | _, _, _, _, .nil, q => q
  | _, _, _, _, .cons h t, q => .cons h (pd_app t q)
theorem pd_rev {α β : Type} {R : α → β → Prop} : ∀ {xs : List α} {ys : List β}, Paired R xs ys → Paired R xs.reverse ys.reverse
  | _, _, .nil => .nil
  | _, _, .cons h t => by
    rw [List.reverse_cons, List.reverse_cons]
    exact pd_app (pd_rev t) (.cons h .nil)
/-- origins -/
def OrAt (H : Hp) : List V → List (Nat × Nat) → Prop := Paired fun v jk => ∃ b, v = .ref b ∧ H b = some (.tup [.int jk.1, .int jk.2])
theorem OrAt.tu {H H' : Hp} (t : Tu H H') {vs : List V} {os : List (Nat × Nat)} (h : OrAt H vs os) : OrAt H' vs os := Paired.mapP h fun _ _ ⟨b, q, z⟩ => ⟨b, q, t _ _ z⟩
abbrev stimN (net : Net) (k : Nat) : List Int := stimOf net.inputs (k : Int)
abbrev stM (net : Net) : Nat := 2 ^ net.inputs
def AnsAt (H : Hp) (net : Net) (most : Nat) (t : Addr) : Ans → Prop
  | .breaks ks => ∃ r, H t = some (.tup [.str "breaks", .ref r]) ∧ StimsAt H r (ks.map (stimN net))
  | .opn => H t = some (.tup [.str "open", .int most])
  | .holds ps => ∃ r vs, H t = some (.tup [.str "holds", .ref r]) ∧ H r = some (.lst vs) ∧ PairsAt H vs ps
theorem AnsAt.same {H H' : Hp} {net : Net} {most : Nat} {t : Addr} (e : Same H H') : ∀ {ans : Ans}, AnsAt H net most t ans → AnsAt H' net most t ans
  | .breaks ks, ⟨r, h1, h2⟩ => ⟨r, e _ _ h1, h2.same e⟩
  | .opn, h => e _ _ h
  | .holds ps, ⟨r, vs, h1, h2, h3⟩ => ⟨r, vs, e _ _ h1, e _ _ h2, h3.tu (Same.tu e)⟩
theorem way_len {os : List (Nat × Nat)} {i : Nat} {ks : List Nat} (w : Way os i ks) : ks.length ≤ i := by
  induction w with
  | start => exact Nat.le_refl _
  | step e h0 hj w ih => rw [List.length_append]; show _ + 1 ≤ _; omega

/-! ### path_to -/
theorem scPathTo : FnScope ["network", "origins", "place", "stimuli", "number"] ["network", "origins", "place"] (defScope sPathTo) := ⟨rfl, rfl, rfl, by decide +kernel, rfl, by decide +kernel, by decide +kernel⟩
def spPath (K : PySem.W.Frag) : Sp := fun vs H Q _ => ∃ (a o : Addr) (net : Net) (os : List (Nat × Nat)) (i : Nat) (ks : List Nat) (vso : List V), vs = [.ref a, .ref o, .int i] ∧ NetAt K H a net ∧ H o = some (.lst vso) ∧ OrAt H vso os ∧ Way os i ks ∧ i ≤ 200 ∧
  ∀ p vs' H', Same H H' → H' p = some (.lst vs') → LsAt H' vs' (ks.map (stimN net)) → Q (.ref p) H'
theorem hasPathTo {P : Program} {w : World} {K : PySem.W.Frag} {mg : Str → Option Value} {base : Heap} (T : Txt K mg) (hStimulusOf : Has P w K mg base 1 "stimulus_of" ["network", "number"] (spStim K)) : Has P w K mg base 2 "path_to" ["network", "origins", "place"] (spPath K) := by
  obtain ⟨fd, F⟩ := T.fn_path_to
  refine ⟨_, fd, T.gl_path_to, F.kp, F.bindsN fun _ _ _ _ _ _ us hl => match us, hl with | [_, _, _], _ => rfl, fn_ok F scPathTo (fun vs H Q E h => ?_) (fun cdv A outer s H vs Q E hr h => ?_)⟩
  · obtain ⟨a, o, net, os, i, ks, vso, rfl, _⟩ := h
    rfl
  · obtain ⟨a, o, net, os, i, ks, vso, rfl, hn, ho, hor, hw, hi, q⟩ := h
    refine ⟨_, (pss_cons (ps_set (i := 3) scPathTo.nd rfl (.inl rfl) (pe_lst pa_nil))
      (pss_cons (ps_while PassesOwn.never (pt_cmpR op_gt (pv 2) pe_int (nomark _)) (pss_cons (ps_asg (pe_ix ix_list (pv 1) (pv 2) (fun _ _ => rfl)) (pg_tup (by rfl) (pgs_cons (pg_name (i := 2) scPathTo.nd rfl (.inl rfl)) (pgs_cons (pg_name (i := 4) scPathTo.nd rfl (.inl rfl)) pgs_nil))))
      (pss_one (ps_expr (pe_bm PySem.F.plainAttrs_list PySem.F.slot_list_append PySem.F.type_list_append mt_append (pv 3) (pa_cons (pe_callH hStimulusOf (hr.mono (by decide)) (by rfl) (pa_cons (pv 0) (pa_cons (pv 4) pa_nil))) pa_nil))))))
      (pss_cons (ps_expr (pe_bm0 PySem.F.plainAttrs_list PySem.F.slot_list_reverse PySem.F.type_list_reverse mt_reverse (pv 3)))
      (pss_one (ps_ret (pv 3)))))), ?_⟩
    have hkl := way_len hw
    refine ⟨Nat.zero_le _, fun p hp => ?_⟩
    refine ⟨fun m σ' H' => ∃ (i' : Nat) (ks1 ks2 : List Nat) (as : List Addr) (x4 : Option V), m = i' ∧ σ' = [some (.ref a), some (.ref o), some (.int i'), some (.ref p), x4] ∧ Same H H' ∧ Tb H' p as ((ks2.map (stimN net)).reverse) ∧ Way os i' ks1 ∧ ks = ks1 ++ ks2,
      ⟨i, i, ks, [], [], none, rfl, rfl, same_new hp, Tb.empty upd_same, hw, (List.append_nil _).symm⟩, ?_⟩
    rintro m σ' H' ⟨i', ks1, ks2, as, x4, rfl, rfl, sm, tb, w1, ek⟩
    refine ⟨_, rfl, _, _, rfl, rfl, _, rfl, ite2 (fun c => ?_) (fun c => ?_)⟩
    · have c : (0 : Int) < (m : Int) := of_decide_eq_true c
      cases w1 with
      | start => exact absurd c (by decide)
      | @step _ j k ks' e h0 hj w2 =>
        obtain ⟨v, hv, b, rfl, hb⟩ := Paired.getR hor e
        refine ⟨fun σ2 H2 => ∃ (as : List Addr) (x4 : Option V), σ2 = [some (.ref a), some (.ref o), some (.int j), some (.ref p), x4] ∧ Same H H2 ∧ Tb H2 p as (((k :: ks2).map (stimN net)).reverse), fun σ2 H2 ⟨as, x4, e1, e2, e3⟩ => ⟨j, hj, j, ks', k :: ks2, as, x4, rfl, e1, e2, e3, w2, by rw [ek, List.append_assoc]; rfl⟩, ?_⟩
        refine ⟨_, rfl, _, rfl, o, vso, _, _, rfl, rfl, SqL.of (sm _ _ ho), atI_nat hv, b, _, rfl, SqT.of (sm _ _ hb), rfl, _, _, rfl, _, _, rfl, rfl, ?_⟩
        refine ⟨_, rfl, .inl ⟨rfl, _, SqL.of tb.top⟩, _, rfl, _, rfl, a, net, (k : Int), rfl, hn.same sm, fun sp H2 s2 fr hsp => ?_⟩
        have tb2 := tb.same s2
        have lk : ks2.length ≤ ks.length := by rw [ek, List.length_append]; omega
        refine ⟨p, _, _, rfl, rfl, tb2.top, small1000 ?_, as ++ [sp], _, rfl, same_mut (sm.trans s2) hp, ?_⟩
        · rw [List.length_map, tb.len, List.length_reverse, List.length_map]; omega
        · have e5 : ((k :: ks2).map (stimN net)).reverse = (ks2.map (stimN net)).reverse ++ [stimN net k] := by rw [List.map_cons, List.reverse_cons]
          rw [e5]
          exact tb2.snoc (tb.new_out fr) (fun z => by rw [z, tb.top] at fr; cases fr) hsp
    · have c0 : ¬ (0 : Int) < (m : Int) := fun z => c (decide_eq_true z)
      have i0 : m = 0 := by omega
      subst i0
      have k1 : ks1 = [] := by
        cases w1 with
        | start => rfl
        | step e h0 hj w2 => exact absurd h0 (Nat.lt_irrefl _)
      subst k1
      rw [List.nil_append] at ek
      subst ek
      refine ⟨_, rfl, .inl ⟨rfl, _, SqL.of tb.top⟩, p, _, rfl, rfl, tb.top, _, rfl, ?_⟩
      refine q p _ _ (same_mut sm hp) upd_same ?_
      have z := pd_rev (Tb.ls (D := p) (H := upd H' p (.lst (as.map V.ref).reverse)) tb.len fun k b l h1 h2 => by
        rw [upd_ne fun z => tb.out (by rw [← z]; exact List.mem_of_getElem? h1)]
        exact tb.row k b l h1 h2)
      rw [List.reverse_reverse] at z
      exact z

/-! ### decide -/
structure DI (P : Program) (w : World) (net : Net) (cl : Cl) (most : Nat) (Hb H : Hp) (L d O : Addr) (xs : List (Pair × Addr)) (vso : List V) (os : List (Nat × Nat)) (a num : Nat) (lv : Nat → Nat) : Prop where
  sm : Same Hb H
  fL : Hb L = none
  fd : Hb d = none
  fO : Hb O = none
  nLd : L ≠ d
  nLO : L ≠ O
  ndO : d ≠ O
  l : H L = some (.lst (xs.map fun x => V.ref x.2))
  k : KeysAt H xs
  d : H d = some (dN P w d xs)
  o : H O = some (.lst vso)
  orr : OrAt H vso os
  s : Srch net cl (stimN net) (stM net) (xs.map (·.1)) os a num lv
  sz : xs.length ≤ most
section
variable {P : Program} {w : World} {net : Net} {cl : Cl} {most : Nat} {Hb H H' : Hp} {L d O : Addr} {xs : List (Pair × Addr)} {vso : List V} {os : List (Nat × Nat)} {a num : Nat} {lv : Nat → Nat}
theorem DI.same (i : DI P w net cl most Hb H L d O xs vso os a num lv) (e : Same H H') : DI P w net cl most Hb H' L d O xs vso os a num lv :=
  ⟨i.sm.trans e, i.fL, i.fd, i.fO, i.nLd, i.nLO, i.ndO, e _ _ i.l, i.k.tu (Same.tu e), e _ _ i.d, e _ _ i.o, i.orr.tu (Same.tu e), i.s, i.sz⟩
theorem DI.osl (i : DI P w net cl most Hb H L d O xs vso os a num lv) : vso.length = xs.length := (Paired.len i.orr).trans (i.s.len.trans (List.length_map _))
theorem DI.put {p : Pair} {pr ob : Addr} (i : DI P w net cl most Hb H L d O xs vso os a num lv) (hn : net.Ok) (hp : (xs.map (·.1))[a]? = some p) (hb : brk cl net p = false) (hk : ¬ nxt net cl p (stimN net num) ∈ xs.map (·.1)) (hm : num < stM net)
    (hl : xs.length < most) (hpr : PairAt H (.ref pr) (nxt net cl p (stimN net num)))
    (hob : (upd (upd H d (dN P w d (xs ++ [(nxt net cl p (stimN net num), pr)]))) L (.lst ((xs.map fun x => V.ref x.2) ++ [.ref pr]))) ob = none) :
    DI P w net cl most Hb (upd (upd (upd (upd H d (dN P w d (xs ++ [(nxt net cl p (stimN net num), pr)]))) L (.lst ((xs.map fun x => V.ref x.2) ++ [.ref pr]))) ob (.tup [.int a, .int num])) O (.lst (vso ++ [.ref ob])))
      L d O (xs ++ [(nxt net cl p (stimN net num), pr)]) (vso ++ [.ref ob]) (os ++ [(a, num)]) a (num + 1) (fun i => if i < (xs.map (·.1)).length then lv i else lv a + 1) := by
  have t1 : Tu H (upd H d (dN P w d (xs ++ [(nxt net cl p (stimN net num), pr)]))) := tu_ext i.d
  have eL : (upd H d (dN P w d (xs ++ [(nxt net cl p (stimN net num), pr)]))) L = some (.lst (xs.map fun x => V.ref x.2)) := by rw [upd_ne i.nLd]; exact i.l
  have t2 := t1.trans (tu_lst (o := .lst ((xs.map fun x => V.ref x.2) ++ [.ref pr])) eL)
  have s3 := same_new (o := .tup [.int a, .int num]) hob
  have t3 := t2.trans (Same.tu s3)
  have eO2 : (upd (upd H d (dN P w d (xs ++ [(nxt net cl p (stimN net num), pr)]))) L (.lst ((xs.map fun x => V.ref x.2) ++ [.ref pr]))) O = some (.lst vso) := by rw [upd_ne i.nLO.symm, upd_ne i.ndO.symm]; exact i.o
  have eO := s3 _ _ eO2
  have t4 := t3.trans (tu_lst (o := .lst (vso ++ [.ref ob])) eO)
  have sm3 := (same_mut (same_mut i.sm i.fd) i.fL).trans s3
  have nOb : ob ≠ O := fun z => by rw [z, eO2] at hob; cases hob
  refine ⟨same_mut sm3 i.fO, i.fL, i.fd, i.fO, i.nLd, i.nLO, i.ndO, ?_, fun x hx => ?_, ?_, upd_same, ?_, ?_, ?_⟩
  · rw [upd_ne i.nLO]
    refine Eq.trans (s3 _ _ upd_same) ?_
    rw [List.map_append]
    rfl
  · rcases List.mem_append.mp hx with hx | hx
    · exact (i.k x hx).tu t4
    · rw [List.mem_singleton.mp hx]
      exact hpr.tu t4
  · rw [upd_ne i.ndO]
    refine s3 _ _ ?_
    rw [upd_ne i.nLd.symm, upd_same]
  · refine Paired.snoc (i.orr.tu t4) ⟨ob, rfl, ?_⟩
    rw [upd_ne nOb, upd_same]
  · have z := Srch.new hn i.s hp hb hk hm
    rw [List.map_append]
    exact z
  · rw [List.length_append]
    exact hl
end
theorem pow_cast (n : Nat) : (1 : Int) * 2 ^ (n : Int).toNat = ((2 ^ n : Nat) : Int) := by
  rw [Int.one_mul, Int.toNat_natCast]
  exact (Int.natCast_pow 2 n).symm
theorem stM_le {net : Net} (h : net.Ok) : stM net ≤ 4 := Nat.le_trans (Nat.pow_le_pow_right (by decide) h.inp) (by decide)
theorem stM_pos (net : Net) : 0 < stM net := Nat.two_pow_pos _
theorem shl_ok {n : Nat} (h : n ≤ 1000) : CPow 1 (n : Int) := ⟨by omega, by omega, by decide⟩

theorem scDecide : FnScope ["network", "claim", "most", "pairs", "known", "origins", "at", "state", "watch", "number", "stimulus", "after", "spikes", "pair"] ["network", "claim", "most"] (defScope sDecide) := ⟨rfl, rfl, rfl, by decide +kernel, rfl, by decide +kernel, by decide +kernel⟩
def spDecide (K : PySem.W.Frag) : Sp := fun vs H Q _ => ∃ (a c : Addr) (net : Net) (cl : Cl) (most : Nat), vs = [.ref a, .ref c, .int most] ∧ NetAt K H a net ∧ H c = some (.tup (clV cl)) ∧ 1 ≤ most ∧ most ≤ 100 ∧
  ∀ t H' ans, Same H H' → AnsAt H' net most t ans → AnsOk net cl (stimN net) (stM net) most ans → (∀ ks, ans = .breaks ks → ks.length ≤ 201) → Q (.ref t) H'
theorem hasDecide {P : Program} {w : World} {K : PySem.W.Frag} {mg : Str → Option Value} {base : Heap} (T : Txt K mg) (hStimulusOf : Has P w K mg base 1 "stimulus_of" ["network", "number"] (spStim K)) (hAdvance : Has P w K mg base 2 "advance" ["network", "state", "stimulus"] (spAdv K)) (hIsBroken : Has P w K mg base 1 "is_broken" ["claim", "watch", "spikes"] spBroken) (hNextWatch : Has P w K mg base 1 "next_watch" ["claim", "watch", "stimulus", "spikes"] spWatch) (hInitialState : Has P w K mg base 1 "initial_state" ["network"] (spInitial K)) (hPathTo : Has P w K mg base 2 "path_to" ["network", "origins", "place"] (spPath K)) : Has P w K mg base 3 "decide" ["network", "claim", "most"] (spDecide K) := by
  obtain ⟨fd, F⟩ := T.fn_decide
  refine ⟨_, fd, T.gl_decide, F.kp, F.bindsN fun _ _ _ _ _ _ us hl => match us, hl with | [_, _, _], _ => rfl, fn_ok F scDecide (fun vs H Q E h => ?_) (fun cdv A outer s H vs Q E hr h => ?_)⟩
  · obtain ⟨a, c, net, cl, most, rfl, _⟩ := h
    rfl
  · obtain ⟨a, c, net, cl, most, rfl, hn, hc, hm1, hm2, q⟩ := h
    refine ⟨_, (pss_cons (ps_set (i := 3) scDecide.nd rfl (.inl rfl) (pe_lst (pa_cons (pe_tup (pa_cons (pe_callH hInitialState (hr.mono (by decide)) (by rfl) (pa_cons (pv 0) pa_nil)) (pa_cons pe_int pa_nil))) pa_nil)))
      (pss_cons (ps_set (i := 4) scDecide.nd rfl (.inl rfl) (pe_dispN (P := P) (w := w) rfl rfl hr.units (pe_ix ix_list (pv 3) pe_int (fun _ _ => rfl)) pe_bl))
      (pss_cons (ps_set (i := 5) scDecide.nd rfl (.inl rfl) (pe_lst (pa_cons (pe_tup (pa_cons pe_int (pa_cons pe_int pa_nil))) pa_nil)))
      (pss_cons (ps_set (i := 6) scDecide.nd rfl (.inl rfl) pe_int)
      (pss_cons (ps_while PassesOwn.never (pt_cmpR op_lt (pv 6) (pe_callB call_len_seq (by rfl) T.fr_len PySem.boot_len (pa_cons (pv 3) pa_nil)) (nomark _)) (pss_cons (ps_asg (pe_ix ix_list (pv 3) (pv 6) (fun _ _ => rfl)) (pg_tup (by rfl) (pgs_cons (pg_name (i := 7) scDecide.nd rfl (.inl rfl)) (pgs_cons (pg_name (i := 8) scDecide.nd rfl (.inl rfl)) pgs_nil))))
      (pss_cons (ps_for PassesOwn.never rfl (pi_range1 rfl T.fr_range (pa_cons (pe_op op_shl pe_int (pe_fld (pv 0) rfl)) pa_nil)) (pg_name (i := 9) scDecide.nd rfl (.inl rfl)) (pss_cons (ps_set (i := 10) scDecide.nd rfl (.inl rfl) (pe_callH hStimulusOf (hr.mono (by decide)) (by rfl) (pa_cons (pv 0) (pa_cons (pv 9) pa_nil))))
      (pss_cons (ps_asg (pe_callH hAdvance (hr.mono (by decide)) (by rfl) (pa_cons (pv 0) (pa_cons (pv 7) (pa_cons (pv 10) pa_nil)))) (pg_tup (by rfl) (pgs_cons (pg_name (i := 11) scDecide.nd rfl (.inl rfl)) (pgs_cons (pg_name (i := 12) scDecide.nd rfl (.inl rfl)) pgs_nil))))
      (pss_cons (ps_if (pt_val (pe_callH hIsBroken (hr.mono (by decide)) (by rfl) (pa_cons (pv 1) (pa_cons (pv 8) (pa_cons (pv 12) pa_nil))))) (pss_one (ps_ret (pe_tup (pa_cons pe_str (pa_cons (pe_op op_cat (pe_callH hPathTo (hr.mono (by decide)) (by rfl) (pa_cons (pv 0) (pa_cons (pv 5) (pa_cons (pv 6) pa_nil)))) (pe_lst (pa_cons (pv 10) pa_nil))) pa_nil))))) pss_nil)
      (pss_cons (ps_set (i := 13) scDecide.nd rfl (.inl rfl) (pe_tup (pa_cons (pv 11) (pa_cons (pe_callH hNextWatch (hr.mono (by decide)) (by rfl) (pa_cons (pv 1) (pa_cons (pv 8) (pa_cons (pv 10) (pa_cons (pv 12) pa_nil))))) pa_nil))))
      (pss_one (ps_if (pt_cmpR (op_notN2 (P := P) (w := w) rfl rfl hr.units) (pv 13) (pv 4) (by rfl)) (pss_cons (ps_if (pt_cmpR op_ge (pe_callB call_len_seq (by rfl) T.fr_len PySem.boot_len (pa_cons (pv 3) pa_nil)) (pv 2) (nomark _)) (pss_one (ps_ret (pe_tup (pa_cons pe_str (pa_cons (pv 2) pa_nil))))) pss_nil)
      (pss_cons (ps_asg pe_bl (pg_sub (pv 4) (pv 13) (set_N (P := P) (w := w) rfl rfl hr.units)))
      (pss_cons (ps_expr (pe_bm PySem.F.plainAttrs_list PySem.F.slot_list_append PySem.F.type_list_append mt_append (pv 3) (pa_cons (pv 13) pa_nil)))
      (pss_one (ps_expr (pe_bm PySem.F.plainAttrs_list PySem.F.slot_list_append PySem.F.type_list_append mt_append (pv 5) (pa_cons (pe_tup (pa_cons (pv 6) (pa_cons (pv 9) pa_nil))) pa_nil))))))) pss_nil)))))))
      (pss_one (ps_aug (i := 6) scDecide.nd rfl (.inl rfl) pe_int ip_add)))))
      (pss_one (ps_ret (pe_tup (pa_cons pe_str (pa_cons (pv 3) pa_nil)))))))))), ?_⟩
    have net_ok := hn.ok
    obtain ⟨dx, fs, l1, l2, ns, ss, h0, h1, _⟩ := hn.ex
    refine ⟨_, rfl, a, net, rfl, hn, fun v H1 s1 st1 => ⟨two, fun b0 hb0 => ⟨by show 1 ≤ sizeLine; decide, fun L hL => ?_⟩⟩⟩
    have s2 := s1.trans (same_new (o := .tup [v, .int 0]) hb0)
    have p2 : PairAt (upd H1 b0 (.tup [v, .int 0])) (.ref b0) (p0 net) := ⟨b0, v, rfl, upd_same, st1.tu (Same.tu (same_new hb0))⟩
    generalize upd H1 b0 (.tup [v, .int 0]) = H2 at s2 p2 hL ⊢
    have fL := s2.free hL
    have s3 := s2.trans (same_new (o := .lst [.ref b0]) hL)
    have p3 := p2.tu (Same.tu (same_new (o := .lst [.ref b0]) hL))
    have l3 : (upd H2 L (.lst [.ref b0])) L = some (.lst [.ref b0]) := upd_same
    generalize upd H2 L (.lst [.ref b0]) = H3 at s3 p3 l3 ⊢
    refine fun d hd => ⟨_, rfl, L, _, 0, _, rfl, rfl, SqL.of (same_new hd _ _ l3), at0 rfl, _, _, rfl, rfl, upd_same, b0, p0 net, rfl, p3.tu (Same.tu (same_new hd)), ?_⟩
    have fd := s3.free hd
    have nLd : L ≠ d := fun z => by rw [← z, l3] at hd; cases hd
    rw [upd_upd]
    have s4 := s3.trans (same_new (o := dN P w d [(p0 net, b0)]) hd)
    have p4 := p3.tu (Same.tu (same_new (o := dN P w d [(p0 net, b0)]) hd))
    have l4 := same_new (o := dN P w d [(p0 net, b0)]) hd _ _ l3
    have d4 : (upd H3 d (dN P w d [(p0 net, b0)])) d = some (dN P w d [(p0 net, b0)]) := upd_same
    generalize upd H3 d (dN P w d [(p0 net, b0)]) = H4 at s4 p4 l4 d4 ⊢
    refine ⟨two, fun o0 ho0 => ⟨by show 1 ≤ sizeLine; decide, fun O hO => ?_⟩⟩
    have s5 := same_new (o := .tup [.int 0, .int 0]) ho0
    have s6 := same_new (o := .lst [.ref o0]) hO
    have s56 := s5.trans s6
    have fO := (s4.trans s5).free hO
    have nLO : L ≠ O := fun z => by rw [← z, s5 _ _ l4] at hO; cases hO
    have ndO : d ≠ O := fun z => by rw [← z, s5 _ _ d4] at hO; cases hO
    have di : DI P w net cl most H (upd (upd H4 o0 (.tup [.int 0, .int 0])) O (.lst [.ref o0])) L d O [(p0 net, b0)] [.ref o0] [(0, 0)] 0 0 (fun _ => 0) :=
      ⟨s4.trans s56, fL, fd, fO, nLd, nLO, ndO, s56 _ _ l4, fun x hx => by rw [List.mem_singleton.mp hx]; exact p4.tu (Same.tu s56), s56 _ _ d4, upd_same, .cons ⟨o0, rfl, s6 _ _ upd_same⟩ .nil, Srch.start, hm1⟩
    generalize upd (upd H4 o0 (.tup [.int 0, .int 0])) O (.lst [.ref o0]) = H5 at di ⊢
    refine ⟨fun m σ' H' => ∃ (xs : List (Pair × Addr)) (vso : List V) (os : List (Nat × Nat)) (at_ : Nat) (lv : Nat → Nat) (x7 x8 x9 x10 x11 x12 x13 : Option V), m = most - at_ ∧ σ' = [some (.ref a), some (.ref c), some (.int most), some (.ref L), some (.ref d), some (.ref O), some (.int at_), x7, x8, x9, x10, x11, x12, x13] ∧
      DI P w net cl most H H' L d O xs vso os at_ 0 lv, ⟨most, _, _, _, 0, _, none, none, none, none, none, none, none, rfl, rfl, di⟩, ?_⟩
    rintro m σ' H' ⟨xs, vso, os, at_, lv, x7, x8, x9, x10, x11, x12, x13, rfl, rfl, i0⟩
    refine ⟨_, rfl, _, rfl, L, _, rfl, .inl (SqL.of i0.l), _, _, rfl, rfl, _, rfl, ite2 (fun ca => ?_) (fun ca => ?_)⟩
    · have ca : (at_ : Int) < ((xs.map fun x => V.ref x.2).length : Nat) := of_decide_eq_true ca
      rw [List.length_map] at ca
      have ca : at_ < xs.length := by omega
      have hsz := i0.sz
      have hx := List.getElem?_eq_getElem ca
      generalize xs[at_] = x0 at hx
      obtain ⟨p, pa⟩ := x0
      have hxm : (p, pa) ∈ xs := List.mem_of_getElem? hx
      have hp : (xs.map (·.1))[at_]? = some p := by rw [List.getElem?_map, hx]; rfl
      obtain ⟨pa', sv, epa, hpa, hsv⟩ := i0.k _ hxm
      cases epa
      have hpok := i0.s.ok p (mem_of_get hp)
      refine ⟨fun σ2 H2 => ∃ (xs : List (Pair × Addr)) (vso : List V) (os : List (Nat × Nat)) (lv : Nat → Nat) (x7 x8 x9 x10 x11 x12 x13 : Option V), σ2 = [some (.ref a), some (.ref c), some (.int most), some (.ref L), some (.ref d), some (.ref O), some (.int ((at_ : Int) + 1)), x7, x8, x9, x10, x11, x12, x13] ∧
        DI P w net cl most H H2 L d O xs vso os (at_ + 1) 0 lv, fun σ2 H2 ⟨xs, vso, os, lv, x7, x8, x9, x10, x11, x12, x13, e1, e2⟩ => ⟨most - (at_ + 1), by omega, xs, vso, os, at_ + 1, lv, x7, x8, x9, x10, x11, x12, x13, rfl, e1, e2⟩, ?_⟩
      refine ⟨_, rfl, _, rfl, L, _, _, _, rfl, rfl, SqL.of i0.l, atI_nat (by rw [List.getElem?_map, hx]; rfl), pa, _, rfl, SqT.of hpa, rfl, _, _, rfl, _, _, rfl, rfl, ?_⟩
      refine ⟨_, rfl, a, _, dx, fs, _, rfl, i0.sm _ _ h0, T.cl_Network, T.na_Network_inputs, h1, 1, _, rfl, rfl, shl_ok (by have := net_ok.inp; omega), _, rfl, ?_⟩
      rw [pow_cast]
      have hM := stM_le net_ok
      refine ⟨Int.le_trans (by decide) (Int.natCast_nonneg _), by show ((stM net : Nat) : Int) < _; omega, ?_⟩
      refine for_range (lo := 0) (n := ((2 ^ net.inputs : Nat) : Int).toNat) (fun num σ2 H2 => ∃ (xs : List (Pair × Addr)) (vso : List V) (os : List (Nat × Nat)) (lv : Nat → Nat) (x9 x10 x11 x12 x13 : Option V), σ2 = [some (.ref a), some (.ref c), some (.int most), some (.ref L), some (.ref d), some (.ref O), some (.int at_), some sv, some (.int p.2), x9, x10, x11, x12, x13] ∧
        DI P w net cl most H H2 L d O xs vso os at_ num lv ∧ (xs.map (·.1))[at_]? = some p ∧ StAt H2 sv p.1) ⟨xs, vso, os, lv, x9, x10, x11, x12, x13, rfl, i0, hp, hsv⟩ ?_ ?_
      · rintro num σ2 H2 hnum ⟨xs, vso, os, lv, x9, x10, x11, x12, x13, rfl, i1, hp, hsv⟩
        have hnum : num < stM net := by
          rw [Int.toNat_natCast] at hnum
          exact hnum
        have e0 : (0 : Int) + (num : Int) = (num : Int) := Int.zero_add _
        rw [e0]
        have hsz := i1.sz
        have hpk := i1.s.ok p (mem_of_get hp)
        refine ⟨_, rfl, _, rfl, a, net, num, rfl, hn.same i1.sm, fun sp H3 s3 fsp hsp => ?_⟩
        have i3 := i1.same s3
        have hsv3 := hsv.tu (Same.tu s3)
        have lst : (stimOf net.inputs (num : Int)).length ≤ 100 := Nat.le_trans (stim_length _ _) (by have := net_ok.inp; omega)
        refine ⟨_, rfl, _, rfl, _, rfl, a, sp, sv, net, p.1, _, rfl, hn.same i3.sm, hsv3, hpk, hsp, lst, fun t sA f H4 s4 ht hA ff hf => ?_⟩
        have i4 := i3.same s4
        have hsp4 := s4 _ _ hsp
        have hsv4 := hsv3.tu (Same.tu s4)
        refine ⟨t, _, rfl, SqT.of ht, rfl, _, _, rfl, _, _, rfl, rfl, ?_⟩
        refine ⟨_, rfl, _, rfl, _, rfl, c, cl, p.2, f, _, rfl, i4.sm _ _ hc, hf, _, rfl, ite2 (fun cb => ?_) (fun cb => ?_)⟩
        · have cb : brk cl net p = true := cb
          obtain ⟨ks, wk⟩ := way_ex i4.s.back at_ (by rw [i4.s.len]; exact lt_of_get hp)
          have hat : at_ ≤ 200 := by
            have z := lt_of_get hp
            rw [List.length_map] at z
            omega
          refine ⟨_, rfl, _, rfl, _, rfl, a, O, net, os, at_, ks, vso, rfl, hn.same i4.sm, i4.o, i4.orr, wk, hat, fun pp vs' H5 s5 hpp lpp => ?_⟩
          refine ⟨_, rfl, by show 1 ≤ sizeLine; decide, fun ql hql => ?_⟩
          have lvs := Paired.len lpp
          rw [List.length_map] at lvs
          have lks := way_len wk
          refine ⟨pp, ql, vs', [.ref sp], rfl, rfl, same_new hql _ _ hpp, upd_same, Nat.le_of_lt (small1000 (by show vs'.length + 1 ≤ 1000; omega)), fun r hr => ⟨two, fun t' ht' => ?_⟩⟩
          have s6 := same_new (o := .lst [.ref sp]) hql
          have s7 := same_new (o := .lst (vs' ++ [.ref sp])) hr
          have s8 := same_new (o := .tup [.str "breaks", .ref r]) ht'
          have s68 := s6.trans (s7.trans s8)
          refine q t' _ (.breaks (ks ++ [num])) (i4.sm.trans (s5.trans s68)) ⟨r, upd_same, _, s8 _ _ upd_same, ?_⟩ (Srch.breaks i4.s hp cb hnum wk) fun ks' e => by
            cases e
            rw [List.length_append]
            show ks.length + 1 ≤ 201
            omega
          rw [List.map_append]
          exact Paired.snoc (lpp.same s68) ⟨sp, rfl, s68 _ _ (s5 _ _ hsp4)⟩
        · have cb : brk cl net p = false := by
            cases e : brk cl net p with
            | false => rfl
            | true => exact absurd e cb
          refine ⟨_, rfl, _, rfl, _, rfl, _, rfl, _, rfl, c, cl, p.2, sp, f, _, _, rfl, i4.sm _ _ hc, hsp4, hf, two, fun pr hpr => ?_⟩
          have s5 := same_new (o := .tup [sA, .int (nextW cl p.2 (stimOf net.inputs (num : Int)) (fired net p.1))]) hpr
          have i5 := i4.same s5
          have hsv5 := hsv4.tu (Same.tu s5)
          have hq5 : PairAt (upd H4 pr (.tup [sA, .int (nextW cl p.2 (stimOf net.inputs (num : Int)) (fired net p.1))])) (.ref pr) (nxt net cl p (stimN net num)) := ⟨pr, sA, rfl, upd_same, hA.tu (Same.tu s5)⟩
          generalize upd H4 pr (.tup [sA, .int (nextW cl p.2 (stimOf net.inputs (num : Int)) (fired net p.1))]) = H5 at s5 i5 hsv5 hq5 ⊢
          refine ⟨_, rfl, _, rfl, d, pr, _, xs, rfl, rfl, i5.d, i5.k, hq5, _, rfl, ite2 (fun ck => ?_) (fun ck => ?_)⟩
          · have ck : ¬ nxt net cl p (stimN net num) ∈ xs.map (·.1) := of_decide_eq_false (by simpa using ck)
            refine ⟨_, rfl, L, _, rfl, .inl (SqL.of i5.l), _, rfl, _, _, rfl, rfl, _, rfl, ite2 (fun cm => ?_) (fun cm => ?_)⟩
            · -- return ("open", most)
              refine ⟨_, rfl, two, fun t' ht' => q t' _ .opn (i5.sm.trans (same_new ht')) upd_same trivial fun ks e => by cases e⟩
            · have cm : ¬ (most : Int) ≤ ((xs.map fun x => V.ref x.2).length : Nat) := fun z => cm (decide_eq_true z)
              rw [List.length_map] at cm
              have cm : xs.length < most := by omega
              have los := i5.osl
              refine ⟨_, rfl, _, rfl, d, pr, _, xs, rfl, rfl, rfl, i5.d, i5.k, hq5, ck, by omega, ?_⟩
              have eL : (upd H5 d (dN P w d (xs ++ [(nxt net cl p (stimN net num), pr)]))) L = some (.lst (xs.map fun x => V.ref x.2)) := by rw [upd_ne i5.nLd]; exact i5.l
              refine ⟨_, rfl, .inl ⟨rfl, _, SqL.of eL⟩, _, rfl, L, _, _, rfl, rfl, eL, small1000 (by rw [List.length_map]; omega), ?_⟩
              have eO : (upd (upd H5 d (dN P w d (xs ++ [(nxt net cl p (stimN net num), pr)]))) L (.lst ((xs.map fun x => V.ref x.2) ++ [.ref pr]))) O = some (.lst vso) := by rw [upd_ne i5.nLO.symm, upd_ne i5.ndO.symm]; exact i5.o
              refine ⟨_, rfl, .inl ⟨rfl, _, SqL.of eO⟩, _, rfl, _, rfl, two, fun ob hob => ?_⟩
              refine ⟨O, vso, _, rfl, rfl, same_new hob _ _ eO, small1000 (by omega), ?_⟩
              have i6 := i5.put net_ok hp cb ck hnum cm hq5 hob
              refine ⟨_, _, _, _, _, _, _, _, _, rfl, i6, ?_, ?_⟩
              · rw [List.map_append, List.getElem?_append_left (lt_of_get hp)]
                exact hp
              · have t1 : Tu H5 _ := tu_ext (o := dN P w d (xs ++ [(nxt net cl p (stimN net num), pr)])) i5.d
                have t2 := t1.trans (tu_lst (o := .lst ((xs.map fun x => V.ref x.2) ++ [.ref pr])) eL)
                have t3 := t2.trans (Same.tu (same_new (o := .tup [.int at_, .int num]) hob))
                have t4 := t3.trans (tu_lst (o := .lst (vso ++ [.ref ob])) (same_new hob _ _ eO))
                exact hsv5.tu t4
          · have ck : nxt net cl p (stimN net num) ∈ xs.map (·.1) := by
              by_cases z : nxt net cl p (stimN net num) ∈ xs.map (·.1)
              · exact z
              · exact absurd (by rw [decide_eq_false z]; rfl) ck
            refine ⟨xs, vso, os, lv, _, _, _, _, _, rfl, { i5 with s := Srch.known i5.s hp cb ck }, hp, hsv5⟩
      · rintro σ2 H2 ⟨xs, vso, os, lv, x9, x10, x11, x12, x13, rfl, i1, hp, hsv⟩
        rw [Int.toNat_natCast] at i1
        refine ⟨_, rfl, _, _, rfl, rfl, xs, vso, os, lv, _, _, _, _, _, _, _, rfl, { i1 with s := Srch.next i1.s }⟩
    · have ca : ¬ (at_ : Int) < ((xs.map fun x => V.ref x.2).length : Nat) := fun z => ca (decide_eq_true z)
      rw [List.length_map] at ca
      refine ⟨_, rfl, two, fun t ht => ?_⟩
      have s6 := same_new (o := .tup [.str "holds", .ref L]) ht
      refine q t _ (.holds (xs.map (·.1))) (i0.sm.trans s6) ⟨L, _, upd_same, s6 _ _ i0.l, ?_⟩ (Srch.holds i0.s (by rw [List.length_map]; omega) (by rw [List.length_map]; exact i0.sz)) fun ks e => by cases e
      have all : ∀ ys : List (Pair × Addr), (∀ x ∈ ys, x ∈ xs) → PairsAt (upd H' t (.tup [.str "holds", .ref L])) (ys.map fun x => V.ref x.2) (ys.map (·.1)) := by
        intro ys
        induction ys with
        | nil => intro _; exact .nil
        | cons y r ih => intro hy; exact .cons ((i0.k y (hy y List.mem_cons_self)).tu (Same.tu s6)) (ih fun x hx => hy x (List.mem_cons_of_mem _ hx))
      exact all xs fun x hx => hx
end SK

/-! Spikehold: check_break, check_pairs, check_answer. -/
namespace SK
open PySem PySem.Spec PyProof.Rows L2
/-! ### check_break -/
theorem scCheckBreak : FnScope ["network", "claim", "stimuli", "state", "watch", "tick", "after", "spikes"] ["network", "claim", "stimuli"] (defScope sCheckBreak) := ⟨rfl, rfl, rfl, by decide +kernel, rfl, by decide +kernel, by decide +kernel⟩
def spChkB (K : PySem.W.Frag) : Sp := fun vs H Q _ => ∃ (a c r : Addr) (net : Net) (cl : Cl) (X : List (List Int)), vs = [.ref a, .ref c, .ref r] ∧ NetAt K H a net ∧ H c = some (.tup (clV cl)) ∧ StimsAt H r X ∧ X.length ≤ 1000 ∧ (∀ x ∈ X, x.length ≤ 100) ∧
  0 < X.length ∧ wFirst net cl (p0 net) X = some (X.length - 1) ∧ ∀ H', Same H H' → Q (.bl true) H'
theorem hasCheckBreak {P : Program} {w : World} {K : PySem.W.Frag} {mg : Str → Option Value} {base : Heap} (T : Txt K mg) (hAdvance : Has P w K mg base 2 "advance" ["network", "state", "stimulus"] (spAdv K)) (hIsBroken : Has P w K mg base 1 "is_broken" ["claim", "watch", "spikes"] spBroken) (hNextWatch : Has P w K mg base 1 "next_watch" ["claim", "watch", "stimulus", "spikes"] spWatch) (hInitialState : Has P w K mg base 1 "initial_state" ["network"] (spInitial K)) : Has P w K mg base 3 "check_break" ["network", "claim", "stimuli"] (spChkB K) := by
  obtain ⟨fd, F⟩ := T.fn_check_break
  refine ⟨_, fd, T.gl_check_break, F.kp, F.bindsN fun _ _ _ _ _ _ us hl => match us, hl with | [_, _, _], _ => rfl, fn_ok F scCheckBreak (fun vs H Q E h => ?_) (fun cdv A outer s H vs Q E hr h => ?_)⟩
  · obtain ⟨a, c, r, net, cl, X, rfl, _⟩ := h
    rfl
  · obtain ⟨a, c, r, net, cl, X, rfl, hn, hc, ⟨vs, hr1, hls⟩, hX, hx1, hpos, hw, q⟩ := h
    refine ⟨_, (pss_cons (ps_set (i := 3) scCheckBreak.nd rfl (.inl rfl) (pe_callH hInitialState (hr.mono (by decide)) (by rfl) (pa_cons (pv 0) pa_nil)))
      (pss_cons (ps_set (i := 4) scCheckBreak.nd rfl (.inl rfl) pe_int)
      (pss_cons (ps_for PassesOwn.never rfl (pi_range1 rfl T.fr_range (pa_cons (pe_callB call_len_seq (by rfl) T.fr_len PySem.boot_len (pa_cons (pv 2) pa_nil)) pa_nil)) (pg_name (i := 5) scCheckBreak.nd rfl (.inl rfl)) (pss_cons (ps_asg (pe_callH hAdvance (hr.mono (by decide)) (by rfl) (pa_cons (pv 0) (pa_cons (pv 3) (pa_cons (pe_ix ix_list (pv 2) (pv 5) (fun _ _ => rfl)) pa_nil)))) (pg_tup (by rfl) (pgs_cons (pg_name (i := 6) scCheckBreak.nd rfl (.inl rfl)) (pgs_cons (pg_name (i := 7) scCheckBreak.nd rfl (.inl rfl)) pgs_nil))))
      (pss_cons (ps_if (pt_val (pe_callH hIsBroken (hr.mono (by decide)) (by rfl) (pa_cons (pv 1) (pa_cons (pv 4) (pa_cons (pv 7) pa_nil))))) (pss_one (ps_ret (pe_cmpR op_eq (pv 5) (pe_op op_sub (pe_callB call_len_seq (by rfl) T.fr_len PySem.boot_len (pa_cons (pv 2) pa_nil)) pe_int) (nomark _)))) pss_nil)
      (pss_cons (ps_set (i := 4) scCheckBreak.nd rfl (.inl rfl) (pe_callH hNextWatch (hr.mono (by decide)) (by rfl) (pa_cons (pv 1) (pa_cons (pv 4) (pa_cons (pe_ix ix_list (pv 2) (pv 5) (fun _ _ => rfl)) (pa_cons (pv 7) pa_nil))))))
      (pss_one (ps_set (i := 3) scCheckBreak.nd rfl (.inl rfl) (pv 6)))))))
      (pss_one (ps_ret pe_bl))))), ?_⟩
    have net_ok := hn.ok
    have lX := Paired.len hls
    refine ⟨_, rfl, a, net, rfl, hn, fun v H1 s1 st1 => ?_⟩
    refine ⟨_, rfl, r, _, rfl, .inl (SqL.of (s1 _ _ hr1)), _, rfl, by omega, by omega, ?_⟩
    refine for_range (lo := 0) (n := (vs.length : Int).toNat) (fun t σ' H' => ∃ (sv : V) (p : Pair) (x5 x6 x7 : Option V), σ' = [some (.ref a), some (.ref c), some (.ref r), some sv, some (.int p.2), x5, x6, x7] ∧ Same H H' ∧ StAt H' sv p.1 ∧ p.1.Ok net ∧
      wFirst net cl (p0 net) X = (wFirst net cl p (X.drop t)).map (· + t)) ⟨v, p0 net, none, none, none, rfl, s1, st1, init_ok net, ?_⟩ ?_ ?_
    · rw [List.drop_zero]
      cases wFirst net cl (p0 net) X <;> rfl
    · rintro t σ' H' ht ⟨sv, p, x5, x6, x7, rfl, sm, hsv, hok, ew⟩
      have e0 : (0 : Int) + (t : Int) = (t : Int) := Int.zero_add _
      rw [e0]
      have ht : t < X.length := by rw [← lX]; omega
      obtain ⟨xv, hxv, b, rfl, hb⟩ := Paired.getR hls (getElem?_getD ([] : List Int) ht)
      have hin : X.getD t [] ∈ X := List.mem_of_getElem? (getElem?_getD ([] : List Int) ht)
      have ed : X.drop t = X.getD t [] :: X.drop (t + 1) := by
        rw [List.drop_eq_getElem_cons ht, List.getD_eq_getElem?_getD, List.getElem?_eq_getElem ht]
        rfl
      rw [ed] at ew
      generalize X.getD t [] = x at hb hin ew
      refine ⟨_, rfl, _, rfl, _, rfl, _, rfl, r, vs, _, _, rfl, rfl, SqL.of (sm _ _ hr1), atI_nat hxv, a, b, sv, net, p.1, x, rfl, hn.same sm, hsv, hok, sm _ _ hb, hx1 _ hin, fun tt sA f H2 s2 htt hA ff hf => ?_⟩
      have sm2 := sm.trans s2
      refine ⟨tt, _, rfl, SqT.of htt, rfl, _, _, rfl, _, _, rfl, rfl, ?_⟩
      refine ⟨_, rfl, _, rfl, _, rfl, c, cl, p.2, f, _, rfl, sm2 _ _ hc, hf, _, rfl, ite2 (fun cb => ?_) (fun cb => ?_)⟩
      · have cb : brk cl net p = true := cb
        have e1 : wFirst net cl p (x :: X.drop (t + 1)) = some 0 := by
          show (if brk cl net p = true then some 0 else _) = _
          rw [if_pos cb]
        rw [e1, hw] at ew
        have e2 : X.length - 1 = 0 + t := Option.some.inj ew
        refine ⟨_, rfl, _, rfl, r, _, rfl, .inl (SqL.of (sm2 _ _ hr1)), _, _, rfl, rfl, rfl, ?_⟩
        rw [decide_eq_true (by rw [lX]; congr 1; omega)]
        exact q _ sm2
      · have cb : brk cl net p = false := by
          cases e : brk cl net p with
          | false => rfl
          | true => exact absurd e cb
        refine ⟨_, rfl, _, rfl, _, rfl, _, rfl, r, vs, _, _, rfl, rfl, SqL.of (sm2 _ _ hr1), atI_nat hxv, _, rfl, c, cl, p.2, b, f, x, _, rfl, sm2 _ _ hc, sm2 _ _ hb, hf, ?_⟩
        refine ⟨_, rfl, sA, nxt net cl p x, _, _, _, rfl, sm2, hA, after_ok net_ok hok _, ?_⟩
        have e1 : wFirst net cl p (x :: X.drop (t + 1)) = (wFirst net cl (nxt net cl p x) (X.drop (t + 1))).map (· + 1) := by
          show (if brk cl net p = true then some 0 else _) = _
          rw [if_neg (by rw [cb]; decide)]
        rw [ew, e1]
        cases wFirst net cl (nxt net cl p x) (X.drop (t + 1)) with
        | none => rfl
        | some z => show some (z + 1 + t) = some (z + (t + 1)); congr 1; omega
    · rintro σ' H' ⟨sv, p, x5, x6, x7, rfl, sm, hsv, hok, ew⟩
      exfalso
      have e : X.drop (vs.length : Int).toNat = [] := List.drop_eq_nil_of_le (by rw [Int.toNat_natCast, lX]; exact Nat.le_refl _)
      rw [e, hw] at ew
      cases ew

/-! ### check_pairs -/
theorem scCheckPairs : FnScope ["network", "claim", "pairs", "state", "watch", "number", "stimulus", "after", "spikes"] ["network", "claim", "pairs"] (defScope sCheckPairs) := ⟨rfl, rfl, rfl, by decide +kernel, rfl, by decide +kernel, by decide +kernel⟩
def spChkP (K : PySem.W.Frag) : Sp := fun vs H Q _ => ∃ (a c r : Addr) (net : Net) (cl : Cl) (most : Nat) (vp : List V) (ps : List Pair), vs = [.ref a, .ref c, .ref r] ∧ NetAt K H a net ∧ H c = some (.tup (clV cl)) ∧ H r = some (.lst vp) ∧ PairsAt H vp ps ∧
  AnsOk net cl (stimN net) (stM net) most (.holds ps) ∧ ∀ H', Same H H' → Q (.bl true) H'
theorem hasCheckPairs {P : Program} {w : World} {K : PySem.W.Frag} {mg : Str → Option Value} {base : Heap} (T : Txt K mg) (hStimulusOf : Has P w K mg base 1 "stimulus_of" ["network", "number"] (spStim K)) (hAdvance : Has P w K mg base 2 "advance" ["network", "state", "stimulus"] (spAdv K)) (hIsBroken : Has P w K mg base 1 "is_broken" ["claim", "watch", "spikes"] spBroken) (hNextWatch : Has P w K mg base 1 "next_watch" ["claim", "watch", "stimulus", "spikes"] spWatch) (hInitialState : Has P w K mg base 1 "initial_state" ["network"] (spInitial K)) : Has P w K mg base 3 "check_pairs" ["network", "claim", "pairs"] (spChkP K) := by
  obtain ⟨fd, F⟩ := T.fn_check_pairs
  refine ⟨_, fd, T.gl_check_pairs, F.kp, F.bindsN fun _ _ _ _ _ _ us hl => match us, hl with | [_, _, _], _ => rfl, fn_ok F scCheckPairs (fun vs H Q E h => ?_) (fun cdv A outer s H vs Q E hr h => ?_)⟩
  · obtain ⟨a, c, r, net, cl, most, vp, ps, rfl, _⟩ := h
    rfl
  · obtain ⟨a, c, r, net, cl, most, vp, ps, rfl, hn, hc, hr1, hps, ok, q⟩ := h
    refine ⟨_, (pss_cons (ps_if (pt_cmpR (op_notInD (hu65 hr)) (pe_tup (pa_cons (pe_callH hInitialState (hr.mono (by decide)) (by rfl) (pa_cons (pv 0) pa_nil)) (pa_cons pe_int pa_nil))) (pv 2) (by rfl)) (pss_one (ps_ret pe_bl)) pss_nil)
      (pss_cons (ps_for PassesOwn.never rfl (pi_list (pv 2)) (pg_tup (by rfl) (pgs_cons (pg_name (i := 3) scCheckPairs.nd rfl (.inl rfl)) (pgs_cons (pg_name (i := 4) scCheckPairs.nd rfl (.inl rfl)) pgs_nil))) (pss_one (ps_for PassesOwn.never rfl (pi_range1 rfl T.fr_range (pa_cons (pe_op op_shl pe_int (pe_fld (pv 0) rfl)) pa_nil)) (pg_name (i := 5) scCheckPairs.nd rfl (.inl rfl)) (pss_cons (ps_set (i := 6) scCheckPairs.nd rfl (.inl rfl) (pe_callH hStimulusOf (hr.mono (by decide)) (by rfl) (pa_cons (pv 0) (pa_cons (pv 5) pa_nil))))
      (pss_cons (ps_asg (pe_callH hAdvance (hr.mono (by decide)) (by rfl) (pa_cons (pv 0) (pa_cons (pv 3) (pa_cons (pv 6) pa_nil)))) (pg_tup (by rfl) (pgs_cons (pg_name (i := 7) scCheckPairs.nd rfl (.inl rfl)) (pgs_cons (pg_name (i := 8) scCheckPairs.nd rfl (.inl rfl)) pgs_nil))))
      (pss_cons (ps_if (pt_val (pe_callH hIsBroken (hr.mono (by decide)) (by rfl) (pa_cons (pv 1) (pa_cons (pv 4) (pa_cons (pv 8) pa_nil))))) (pss_one (ps_ret pe_bl)) pss_nil)
      (pss_one (ps_if (pt_cmpR (op_notInD (hu65 hr)) (pe_tup (pa_cons (pv 7) (pa_cons (pe_callH hNextWatch (hr.mono (by decide)) (by rfl) (pa_cons (pv 1) (pa_cons (pv 4) (pa_cons (pv 6) (pa_cons (pv 8) pa_nil))))) pa_nil))) (pv 2) (by rfl)) (pss_one (ps_ret pe_bl)) pss_nil))))))))
      (pss_one (ps_ret pe_bl)))), ?_⟩
    have net_ok := hn.ok
    obtain ⟨dx, fs, l1, l2, ns, ss, h0, h1, _⟩ := hn.ex
    have hM := stM_le net_ok
    obtain ⟨ok1, ok2, ok3, ok4, ok5⟩ := ok
    refine ⟨_, rfl, a, net, rfl, hn, fun v H1 s1 st1 => ⟨two, fun b0 hb0 => ?_⟩⟩
    have s2 := s1.trans (same_new (o := .tup [v, .int 0]) hb0)
    have p2 : PairAt (upd H1 b0 (.tup [v, .int 0])) (.ref b0) (p0 net) := ⟨b0, v, rfl, upd_same, st1.tu (Same.tu (same_new hb0))⟩
    refine ⟨_, rfl, _, _, p2.dp, Dp.lst (SqL.of (s2 _ _ hr1)) (hps.tu (Same.tu s2)).dp, pair_shaped _, pairs_shaped _, _, rfl, ?_⟩
    rw [any_pair, decide_eq_true (mem_of_get ok1)]
    refine iteF ?_
    refine ⟨_, rfl, r, rfl, ⟨_, SqL.of (s2 _ _ hr1)⟩, ?_⟩
    refine for_list (K := K) (a := r) (xs := vp) (fun i σ' H' => ∃ x3 x4 x5 x6 x7 x8, σ' = [some (.ref a), some (.ref c), some (.ref r), x3, x4, x5, x6, x7, x8] ∧ Same H H') ⟨none, none, none, none, none, none, rfl, s2⟩ (fun i σ' H' _ ⟨_, _, _, _, _, _, _, h⟩ => SqL.of (h _ _ hr1)) ?_ ?_
    · rintro i x σ' H' hx ⟨x3, x4, x5, x6, x7, x8, rfl, sm⟩
      obtain ⟨p, hp, pa, sv, rfl, hpa, hsv⟩ := Paired.getL hps hx
      have hpm := mem_of_get hp
      have hpk := ok4 p hpm
      refine ⟨pa, _, rfl, SqT.of (sm _ _ hpa), rfl, _, _, rfl, _, _, rfl, rfl, ?_⟩
      refine ⟨_, rfl, a, _, dx, fs, _, rfl, sm _ _ h0, T.cl_Network, T.na_Network_inputs, h1, 1, _, rfl, rfl, shl_ok (by have := net_ok.inp; omega), _, rfl, ?_⟩
      rw [pow_cast]
      refine ⟨Int.le_trans (by decide) (Int.natCast_nonneg _), by show ((stM net : Nat) : Int) < _; omega, ?_⟩
      refine for_range (lo := 0) (n := ((2 ^ net.inputs : Nat) : Int).toNat) (fun num σ2 H2 => ∃ x5 x6 x7 x8, σ2 = [some (.ref a), some (.ref c), some (.ref r), some sv, some (.int p.2), x5, x6, x7, x8] ∧ Same H H2) ⟨x5, x6, x7, x8, rfl, sm⟩ ?_ ?_
      · rintro num σ2 H2 hnum ⟨x5, x6, x7, x8, rfl, sm⟩
        have hnum : num < stM net := by
          rw [Int.toNat_natCast] at hnum
          exact hnum
        have e0 : (0 : Int) + (num : Int) = (num : Int) := Int.zero_add _
        rw [e0]
        obtain ⟨hb, hm⟩ := ok5 p hpm num hnum
        refine ⟨_, rfl, _, rfl, a, net, num, rfl, hn.same sm, fun sp H3 s3 fsp hsp => ?_⟩
        have sm3 := sm.trans s3
        have lst : (stimOf net.inputs (num : Int)).length ≤ 100 := Nat.le_trans (stim_length _ _) (by have := net_ok.inp; omega)
        refine ⟨_, rfl, _, rfl, _, rfl, a, sp, sv, net, p.1, _, rfl, hn.same sm3, hsv.tu (Same.tu sm3), hpk, hsp, lst, fun t sA f H4 s4 ht hA ff hf => ?_⟩
        have sm4 := sm3.trans s4
        refine ⟨t, _, rfl, SqT.of ht, rfl, _, _, rfl, _, _, rfl, rfl, ?_⟩
        refine ⟨_, rfl, _, rfl, _, rfl, c, cl, p.2, f, _, rfl, sm4 _ _ hc, hf, _, rfl, ?_⟩
        have hb' : broken cl p.2 (fired net p.1) = false := hb
        rw [hb']
        refine iteF ?_
        refine ⟨_, rfl, _, rfl, _, rfl, _, rfl, _, rfl, c, cl, p.2, sp, f, _, _, rfl, sm4 _ _ hc, s4 _ _ hsp, hf, two, fun pr hpr => ?_⟩
        have s5 := same_new (o := .tup [sA, .int (nextW cl p.2 (stimOf net.inputs (num : Int)) (fired net p.1))]) hpr
        have hq5 : PairAt (upd H4 pr (.tup [sA, .int (nextW cl p.2 (stimOf net.inputs (num : Int)) (fired net p.1))])) (.ref pr) (nxt net cl p (stimN net num)) := ⟨pr, sA, rfl, upd_same, hA.tu (Same.tu s5)⟩
        have sm5 := sm4.trans s5
        refine ⟨_, rfl, _, _, hq5.dp, Dp.lst (SqL.of (sm5 _ _ hr1)) (hps.tu (Same.tu sm5)).dp, pair_shaped _, pairs_shaped _, _, rfl, ?_⟩
        rw [any_pair, decide_eq_true hm]
        exact iteF ⟨_, _, _, _, rfl, sm5⟩
      · rintro σ2 H2 ⟨x5, x6, x7, x8, rfl, sm⟩
        exact ⟨_, _, _, _, _, _, rfl, sm⟩
    · rintro σ' H' ⟨x3, x4, x5, x6, x7, x8, rfl, sm⟩
      exact q _ sm

/-! ### check_answer -/
def isPaper : Ans → Bool
  | .opn => false
  | _ => true
theorem ansOk_len {net : Net} {cl : Cl} {most : Nat} {ks : List Nat} (h : AnsOk net cl (stimN net) (stM net) most (.breaks ks)) : 0 < (ks.map (stimN net)).length ∧ wFirst net cl (p0 net) (ks.map (stimN net)) = some ((ks.map (stimN net)).length - 1) := by
  obtain ⟨h1, h2, h3, _⟩ := h
  rw [List.length_map]
  exact ⟨h1, h3⟩
theorem scCheckAnswer : FnScope ["network", "claim", "answer"] ["network", "claim", "answer"] (defScope sCheckAnswer) := ⟨rfl, rfl, rfl, by decide +kernel, rfl, by decide +kernel, by decide +kernel⟩
def spChkA (K : PySem.W.Frag) : Sp := fun vs H Q _ => ∃ (a c t : Addr) (net : Net) (cl : Cl) (most : Nat) (ans : Ans), vs = [.ref a, .ref c, .ref t] ∧ NetAt K H a net ∧ H c = some (.tup (clV cl)) ∧ AnsAt H net most t ans ∧ AnsOk net cl (stimN net) (stM net) most ans ∧
  (∀ ks, ans = .breaks ks → ks.length ≤ 1000) ∧ ∀ H', Same H H' → Q (.bl (isPaper ans)) H'
theorem hasCheckAnswer {P : Program} {w : World} {K : PySem.W.Frag} {mg : Str → Option Value} {base : Heap} (T : Txt K mg) (hCheckBreak : Has P w K mg base 3 "check_break" ["network", "claim", "stimuli"] (spChkB K)) (hCheckPairs : Has P w K mg base 3 "check_pairs" ["network", "claim", "pairs"] (spChkP K)) : Has P w K mg base 4 "check_answer" ["network", "claim", "answer"] (spChkA K) := by
  obtain ⟨fd, F⟩ := T.fn_check_answer
  refine ⟨_, fd, T.gl_check_answer, F.kp, F.bindsN fun _ _ _ _ _ _ us hl => match us, hl with | [_, _, _], _ => rfl, fn_ok F scCheckAnswer (fun vs H Q E h => ?_) (fun cdv A outer s H vs Q E hr h => ?_)⟩
  · obtain ⟨a, c, t, net, cl, most, ans, rfl, _⟩ := h
    rfl
  · obtain ⟨a, c, t, net, cl, most, ans, rfl, hn, hc, hat, ok, hlen, q⟩ := h
    refine ⟨_, (pss_cons (ps_if (pt_cmpR op_eq (pe_ix ix_tup (pv 2) pe_int (fun _ _ => rfl)) pe_str (nomark _)) (pss_one (ps_ret (pe_callH hCheckBreak (hr.mono (by decide)) (by rfl) (pa_cons (pv 0) (pa_cons (pv 1) (pa_cons (pe_ix ix_tup (pv 2) pe_int (fun _ _ => rfl)) pa_nil)))))) pss_nil)
      (pss_cons (ps_if (pt_cmpR op_eq (pe_ix ix_tup (pv 2) pe_int (fun _ _ => rfl)) pe_str (nomark _)) (pss_one (ps_ret (pe_callH hCheckPairs (hr.mono (by decide)) (by rfl) (pa_cons (pv 0) (pa_cons (pv 1) (pa_cons (pe_ix ix_tup (pv 2) pe_int (fun _ _ => rfl)) pa_nil)))))) pss_nil)
      (pss_one (ps_ret pe_bl)))), ?_⟩
    have net_ok := hn.ok
    cases ans with
    | breaks ks =>
      obtain ⟨r, ht, hst⟩ := hat
      refine ⟨_, rfl, t, _, _, _, rfl, rfl, SqT.of ht, at0 rfl, rfl, _, rfl, ite2 (fun _ => ?_) (fun z => absurd (by decide +kernel) z)⟩
      obtain ⟨k1, k2⟩ := ansOk_len ok
      refine ⟨_, rfl, _, rfl, _, rfl, t, _, _, _, rfl, rfl, SqT.of ht, at1 rfl, a, c, r, net, cl, _, rfl, hn, hc, hst, by rw [List.length_map]; exact hlen ks rfl, fun x hx => ?_, k1, k2, q⟩
      obtain ⟨k, _, rfl⟩ := List.mem_map.mp hx
      exact Nat.le_trans (stim_length _ _) (by have := net_ok.inp; omega)
    | opn =>
      refine ⟨_, rfl, t, _, _, _, rfl, rfl, SqT.of hat, at0 rfl, rfl, _, rfl, ite2 (fun z => absurd z (by decide +kernel)) (fun _ => ?_)⟩
      refine ⟨_, rfl, t, _, _, _, rfl, rfl, SqT.of hat, at0 rfl, rfl, _, rfl, ite2 (fun z => absurd z (by decide +kernel)) (fun _ => ?_)⟩
      exact q _ (Same.refl _)
    | holds ps =>
      obtain ⟨r, vp, ht, hr1, hps⟩ := hat
      refine ⟨_, rfl, t, _, _, _, rfl, rfl, SqT.of ht, at0 rfl, rfl, _, rfl, ite2 (fun z => absurd z (by decide +kernel)) (fun _ => ?_)⟩
      refine ⟨_, rfl, t, _, _, _, rfl, rfl, SqT.of ht, at0 rfl, rfl, _, rfl, ite2 (fun _ => ?_) (fun z => absurd (by decide +kernel) z)⟩
      exact ⟨_, rfl, _, rfl, _, rfl, t, _, _, _, rfl, rfl, SqT.of ht, at1 rfl, a, c, r, net, cl, most, vp, ps, rfl, hn, hc, hr1, hps, ok, q⟩
end SK

/-! Spikehold: the objects are made. -/
namespace SK
open PySem PySem.Spec PyProof.Rows L2
def HasK (P : Program) (w : World) (K : PySem.W.Frag) (mg : Str → Option Value) (base : Heap) (k n : Nat) (x : Str) (C : Addr) (ps ks : List Str) (sp : Sp) : Prop :=
  ∃ f fd g, mg x = some (.ref C) ∧ Mk K C f ∧ KBn K fd ps (n + 1) ks g (fun vs zs => vs ++ zs) ∧ FnOk P w K mg base CX0 k f fd ps sp
theorem pe_makeKH {X : Cx} {k n : Nat} {x : Str} {C : Addr} {ps ks : List Str} {sp : Sp} {p pos : Pos} {e : Expr} {es : List Expr} {kws : List Keyword} {t tk : TA} (h : HasK X.prog X.w X.K X.mg X.base k n x C ps ks sp) (hr : Room (k + 1) X.A) (hg : Gl X x) (ha : PA X (e :: es) t) (hkw : PK X kws tk)
    (hall : (backToKw pos (keywordEach kws X.env)).all (·.1.isSome) = true := by rfl) (hks : (backToKw pos (keywordEach kws X.env)).filterMap (·.1) = ks := by rfl) (hdb : (x == ("__debug__" : Str)) = false := by decide)
    (he : starEach (e :: es) X.env = (false, eval e X.env) :: starEach es X.env := by rfl) (hpl : ((backTo pos (starEach (e :: es) X.env)).any (·.1) || (backToKw pos (keywordEach kws X.env)).any (·.1.isNone)) = false := by rfl) :
    PE X (.Call (.Name x p) (e :: es) kws pos) (tMakeK C n ks.length sp (fun vs zs => vs ++ zs) E0 t tk) := by
  obtain ⟨f, fd, g, hm, M, hb, F⟩ := h
  exact pe_makeK M F hr hg hm hb pass0 ha hkw hall hks hdb he hpl
theorem fl_here {fs : List (Str × V)} {f : Str} {v : V} : Fl (putF f v fs) f v := by
  show (putF f v fs).lookup f = some v
  rw [lookup_putF, if_pos rfl]
theorem fl_skip {fs : List (Str × V)} {f g : Str} {v u : V} (h : ¬ g = f) (e : Fl fs g u) : Fl (putF f v fs) g u := by
  show (putF f v fs).lookup g = some u
  rw [lookup_putF, if_neg h]
  exact e
theorem pf_len {fs : List (Str × V)} {f : Str} {v : V} {n : Nat} (h : fs.length < n) : (putF f v fs).length < n + 1 := by
  have := length_putF f v fs
  omega
theorem lt1000 {fs : List (Str × V)} {n : Nat} (h : fs.length < n) (hn : n ≤ 1000) : fs.length < 1000 := Nat.lt_of_lt_of_le h hn

/-! ### Neuron -/
theorem scNeuronInit : FnScope ["self", "threshold", "leak", "refractory", "floor", "subtract"] ["self", "threshold", "leak", "refractory", "floor", "subtract"] (defScope sNeuronInit) := ⟨rfl, rfl, rfl, by decide +kernel, rfl, by decide +kernel, by decide +kernel⟩
def spNeuI (K : PySem.W.Frag) : Sp := fun vs H Q _ => ∃ (G : Hp) (x dx : Addr) (u : Nu), vs = [.ref x, .int u.thr, .int u.leak, .int u.refr, .int u.floor, .bl u.sub] ∧ Same G H ∧ G x = none ∧ H x = some (.ins (He.ga K "Neuron") dx []) ∧
  ∀ H', Same G H' → NeuO K H' x u → Q .non H'
theorem hasNeuron {P : Program} {w : World} {K : PySem.W.Frag} {mg : Str → Option Value} {base : Heap} (T : Txt K mg) : HasK P w K mg base 1 1 "Neuron" (He.ga K "Neuron") ["self", "threshold", "leak", "refractory", "floor", "subtract"] ["leak", "refractory", "floor", "subtract"] (spNeuI K) := by
  obtain ⟨fd, F⟩ := T.fn_Neuron_init
  obtain ⟨mv, hb⟩ := F.kbinds0 (ps := ["self", "threshold", "leak", "refractory", "floor", "subtract"]) 2 ["leak", "refractory", "floor", "subtract"] [] (fun vs _ zs => vs ++ zs) (by simp) (by intro q hq; cases hq) (fun r _ s => r.append s) (fun D doc pm an cdv ct us mv ws h1 h2 h3 => by
    match us, mv, ws, h1, h2, h3 with
    | [_, _], [], [_, _, _, _], _, _, _ => rfl)
  refine ⟨_, fd, _, T.gl_Neuron, T.mk_Neuron, hb, fn_ok F scNeuronInit (fun vs H Q E h => ?_) (fun cdv A outer s H vs Q E hr h => ?_)⟩
  · obtain ⟨G, x, dx, u, rfl, _⟩ := h
    rfl
  · obtain ⟨G, x, dx, u, rfl, sm, hx, h0, q⟩ := h
    refine ⟨_, (pss_cons (ps_fld (pv 0) (pv 1) rfl)
      (pss_cons (ps_fld (pv 0) (pv 2) rfl)
      (pss_cons (ps_fld (pv 0) (pv 3) rfl)
      (pss_cons (ps_fld (pv 0) (pv 4) rfl)
      (pss_one (ps_fld (pv 0) (pv 5) rfl)))))), ?_⟩
    refine ⟨_, rfl, _, rfl, x, _, dx, _, rfl, h0, T.cl_Neuron, T.na_Neuron_threshold, by decide, ?_⟩
    refine ⟨_, rfl, _, rfl, x, _, dx, _, rfl, upd_same, T.cl_Neuron, T.na_Neuron_leak, lt1000 (pf_len (n := 1) (by decide)) (by decide), ?_⟩
    rw [upd_upd]
    refine ⟨_, rfl, _, rfl, x, _, dx, _, rfl, upd_same, T.cl_Neuron, T.na_Neuron_refractory, lt1000 (pf_len (pf_len (n := 1) (by decide))) (by decide), ?_⟩
    rw [upd_upd]
    refine ⟨_, rfl, _, rfl, x, _, dx, _, rfl, upd_same, T.cl_Neuron, T.na_Neuron_floor, lt1000 (pf_len (pf_len (pf_len (n := 1) (by decide)))) (by decide), ?_⟩
    rw [upd_upd]
    refine ⟨_, rfl, _, rfl, x, _, dx, _, rfl, upd_same, T.cl_Neuron, T.na_Neuron_subtract, lt1000 (pf_len (pf_len (pf_len (pf_len (n := 1) (by decide))))) (by decide), ?_⟩
    rw [upd_upd]
    refine q _ (same_mut sm hx) ⟨dx, _, upd_same, ?_, ?_, ?_, ?_, fl_here⟩
    · exact fl_skip (by decide +kernel) (fl_skip (by decide +kernel) (fl_skip (by decide +kernel) (fl_skip (by decide +kernel) fl_here)))
    · exact fl_skip (by decide +kernel) (fl_skip (by decide +kernel) (fl_skip (by decide +kernel) fl_here))
    · exact fl_skip (by decide +kernel) (fl_skip (by decide +kernel) fl_here)
    · exact fl_skip (by decide +kernel) fl_here
/-! ### Synapse -/
theorem scSynapseInit : FnScope ["self", "source", "target", "weight", "delay", "plastic"] ["self", "source", "target", "weight", "delay", "plastic"] (defScope sSynapseInit) := ⟨rfl, rfl, rfl, by decide +kernel, rfl, by decide +kernel, by decide +kernel⟩
def spSynI (K : PySem.W.Frag) : Sp := fun vs H Q _ => ∃ (G : Hp) (x dx : Addr) (y : Sy), vs = [.ref x, .int y.src, .int y.tgt, .int y.w, .int y.delay, .bl false] ∧ Same G H ∧ G x = none ∧ H x = some (.ins (He.ga K "Synapse") dx []) ∧
  ∀ H', Same G H' → SynO K H' x y → Q .non H'
theorem hasSynapse {P : Program} {w : World} {K : PySem.W.Frag} {mg : Str → Option Value} {base : Heap} (T : Txt K mg) : HasC P w K mg base 1 "Synapse" (He.ga K "Synapse") ["self", "source", "target", "weight", "delay", "plastic"] [.bl false] (spSynI K) := by
  obtain ⟨fd, F⟩ := T.fn_Synapse_init
  obtain ⟨ds, hd, hb⟩ := F.binds1 (ps := ["self", "source", "target", "weight", "delay", "plastic"]) 5 0 (by simp) rfl (fun T' kV doc pm an cdv ct us its h1 h2 => by
    match us, its, h1, h2 with
    | [_, _, _, _, _], [_], _, _ => exact ⟨_, rfl, rfl⟩)
  refine ⟨_, fd, ds, T.gl_Synapse, T.mk_Synapse, hb, hd, fn_ok F scSynapseInit (fun vs H Q E h => ?_) (fun cdv A outer s H vs Q E hr h => ?_)⟩
  · obtain ⟨G, x, dx, u, rfl, _⟩ := h
    rfl
  · obtain ⟨G, x, dx, u, rfl, sm, hx, h0, q⟩ := h
    refine ⟨_, (pss_cons (ps_fld (pv 0) (pv 1) rfl)
      (pss_cons (ps_fld (pv 0) (pv 2) rfl)
      (pss_cons (ps_fld (pv 0) (pv 3) rfl)
      (pss_cons (ps_fld (pv 0) (pv 4) rfl)
      (pss_one (ps_fld (pv 0) (pv 5) rfl)))))), ?_⟩
    refine ⟨_, rfl, _, rfl, x, _, dx, _, rfl, h0, T.cl_Synapse, T.na_Synapse_source, by decide, ?_⟩
    refine ⟨_, rfl, _, rfl, x, _, dx, _, rfl, upd_same, T.cl_Synapse, T.na_Synapse_target, lt1000 (pf_len (n := 1) (by decide)) (by decide), ?_⟩
    rw [upd_upd]
    refine ⟨_, rfl, _, rfl, x, _, dx, _, rfl, upd_same, T.cl_Synapse, T.na_Synapse_weight, lt1000 (pf_len (pf_len (n := 1) (by decide))) (by decide), ?_⟩
    rw [upd_upd]
    refine ⟨_, rfl, _, rfl, x, _, dx, _, rfl, upd_same, T.cl_Synapse, T.na_Synapse_delay, lt1000 (pf_len (pf_len (pf_len (n := 1) (by decide)))) (by decide), ?_⟩
    rw [upd_upd]
    refine ⟨_, rfl, _, rfl, x, _, dx, _, rfl, upd_same, T.cl_Synapse, T.na_Synapse_plastic, lt1000 (pf_len (pf_len (pf_len (pf_len (n := 1) (by decide))))) (by decide), ?_⟩
    rw [upd_upd]
    refine q _ (same_mut sm hx) ⟨dx, _, upd_same, ?_, ?_, ?_, ?_⟩
    · exact fl_skip (by decide +kernel) (fl_skip (by decide +kernel) (fl_skip (by decide +kernel) (fl_skip (by decide +kernel) fl_here)))
    · exact fl_skip (by decide +kernel) (fl_skip (by decide +kernel) (fl_skip (by decide +kernel) fl_here))
    · exact fl_skip (by decide +kernel) (fl_skip (by decide +kernel) fl_here)
    · exact fl_skip (by decide +kernel) fl_here
/-! ### Network -/
theorem scNetworkInit : FnScope ["self", "inputs", "neurons", "synapses", "rule"] ["self", "inputs", "neurons", "synapses", "rule"] (defScope sNetworkInit) := ⟨rfl, rfl, rfl, by decide +kernel, rfl, by decide +kernel, by decide +kernel⟩
def spNetI (K : PySem.W.Frag) : Sp := fun vs H Q _ => ∃ (G : Hp) (x dx n s : Addr) (net : Net) (ns ss : List V), vs = [.ref x, .int net.inputs, .ref n, .ref s, .non] ∧ Same G H ∧ G x = none ∧ H x = some (.ins (He.ga K "Network") dx []) ∧ net.Ok ∧
  G n = some (.lst ns) ∧ Paired (NeuAt K G) ns net.neus ∧ G s = some (.lst ss) ∧ Paired (SynAt K G) ss net.syns ∧ ∀ H', Same G H' → NetAt K H' x net → Q .non H'
theorem hasNetwork {P : Program} {w : World} {K : PySem.W.Frag} {mg : Str → Option Value} {base : Heap} (T : Txt K mg) : HasC P w K mg base 1 "Network" (He.ga K "Network") ["self", "inputs", "neurons", "synapses", "rule"] [.non] (spNetI K) := by
  obtain ⟨fd, F⟩ := T.fn_Network_init
  obtain ⟨ds, hd, hb⟩ := F.binds1 (ps := ["self", "inputs", "neurons", "synapses", "rule"]) 4 0 (by simp) rfl (fun T' kV doc pm an cdv ct us its h1 h2 => by
    match us, its, h1, h2 with
    | [_, _, _, _], [_], _, _ => exact ⟨_, rfl, rfl⟩)
  refine ⟨_, fd, ds, T.gl_Network, T.mk_Network, hb, hd, fn_ok F scNetworkInit (fun vs H Q E h => ?_) (fun cdv A outer s H vs Q E hr h => ?_)⟩
  · obtain ⟨G, x, dx, n, s, net, ns, ss, rfl, _⟩ := h
    rfl
  · obtain ⟨G, x, dx, n, s', net, ns, ss, rfl, sm, hx, h0, ok, h1, h2, h3, h4, q⟩ := h
    refine ⟨_, (pss_cons (ps_fld (pv 0) (pv 1) rfl)
      (pss_cons (ps_fld (pv 0) (pe_callTy call_list_of (by rfl) T.fr_list bt_list (pa_cons (pv 2) pa_nil)) rfl)
      (pss_cons (ps_fld (pv 0) (pe_callTy call_list_of (by rfl) T.fr_list bt_list (pa_cons (pv 3) pa_nil)) rfl)
      (pss_one (ps_fld (pv 0) (pv 4) rfl))))), ?_⟩
    refine ⟨_, rfl, _, rfl, x, _, dx, _, rfl, h0, T.cl_Network, T.na_Network_inputs, by decide, ?_⟩
    have sm1 := same_mut (o := .ins (He.ga K "Network") dx (putF "inputs" (.int net.inputs) [])) sm hx
    refine ⟨_, rfl, n, ns, rfl, .inl (SqL.of (sm1 _ _ h1)), fun l1 hl1 => ?_⟩
    have n1 : x ≠ l1 := fun z => by rw [← z, upd_same] at hl1; cases hl1
    have sm2 := sm1.trans (same_new (o := .lst ns) hl1)
    refine ⟨_, rfl, x, _, dx, _, rfl, Eq.trans (upd_ne n1) upd_same, T.cl_Network, T.na_Network_neurons, lt1000 (pf_len (n := 1) (by decide)) (by decide), ?_⟩
    have sm3 := same_mut (o := .ins (He.ga K "Network") dx (putF "neurons" (.ref l1) (putF "inputs" (.int net.inputs) []))) sm2 hx
    have f1 : G l1 = none := sm1.free hl1
    refine ⟨_, rfl, s', ss, rfl, .inl (SqL.of (sm3 _ _ h3)), fun l2 hl2 => ?_⟩
    have n2 : x ≠ l2 := fun z => by rw [← z, upd_same] at hl2; cases hl2
    have n3 : l1 ≠ l2 := fun z => by rw [← z, upd_ne n1.symm, upd_same] at hl2; cases hl2
    have sm4 := sm3.trans (same_new (o := .lst ss) hl2)
    refine ⟨_, rfl, x, _, dx, _, rfl, Eq.trans (upd_ne n2) upd_same, T.cl_Network, T.na_Network_synapses, lt1000 (pf_len (pf_len (n := 1) (by decide))) (by decide), ?_⟩
    refine ⟨_, rfl, _, rfl, x, _, dx, _, rfl, upd_same, T.cl_Network, T.na_Network_rule, lt1000 (pf_len (pf_len (pf_len (n := 1) (by decide)))) (by decide), ?_⟩
    rw [upd_upd]
    have sm5 := same_mut (o := .ins (He.ga K "Network") dx (putF "rule" .non (putF "synapses" (.ref l2) (putF "neurons" (.ref l1) (putF "inputs" (.int net.inputs) []))))) sm4 hx
    refine q _ sm5 ⟨⟨dx, _, l1, l2, ns, ss, upd_same, ?_, ?_, ?_, fl_here, ?_, Paired.mapP h2 fun _ _ z => z.same sm5, ?_, Paired.mapP h4 fun _ _ z => z.same sm5⟩, ok⟩
    · exact fl_skip (by decide +kernel) (fl_skip (by decide +kernel) (fl_skip (by decide +kernel) fl_here))
    · exact fl_skip (by decide +kernel) (fl_skip (by decide +kernel) fl_here)
    · exact fl_skip (by decide +kernel) fl_here
    · rw [upd_ne n1.symm, upd_ne n3, upd_ne n1.symm, upd_same]
    · rw [upd_ne n2.symm, upd_same]
/-! ### Run -/
theorem scRunInit : FnScope ["self", "spikes", "weights"] ["self", "spikes", "weights"] (defScope sRunInit) := ⟨rfl, rfl, rfl, by decide +kernel, rfl, by decide +kernel, by decide +kernel⟩
def RunAt (K : PySem.W.Frag) (H : Hp) (x : Addr) (F : List (List Int)) : Prop := ∃ dx fs l, H x = some (.ins (He.ga K "Run") dx fs) ∧ Fl fs "spikes" (.ref l) ∧ StimsAt H l F
def spRunI (K : PySem.W.Frag) : Sp := fun vs H Q _ => ∃ (G : Hp) (x dx l : Addr) (v : V) (F : List (List Int)), vs = [.ref x, .ref l, v] ∧ Same G H ∧ G x = none ∧ H x = some (.ins (He.ga K "Run") dx []) ∧ StimsAt G l F ∧
  ∀ H', Same G H' → RunAt K H' x F → Q .non H'
theorem hasRunC {P : Program} {w : World} {K : PySem.W.Frag} {mg : Str → Option Value} {base : Heap} (T : Txt K mg) : HasC P w K mg base 1 "Run" (He.ga K "Run") ["self", "spikes", "weights"] [] (spRunI K) := by
  obtain ⟨fd, F⟩ := T.fn_Run_init
  refine ⟨_, fd, [], T.gl_Run, T.mk_Run, F.bindsN fun _ _ _ _ _ _ us hl => match us, hl with | [_, _, _], _ => rfl, .nil, fn_ok F scRunInit (fun vs H Q E h => ?_) (fun cdv A outer s H vs Q E hr h => ?_)⟩
  · obtain ⟨G, x, dx, l, v, F, rfl, _⟩ := h
    rfl
  · obtain ⟨G, x, dx, l, v, F, rfl, sm, hx, h0, h1, q⟩ := h
    refine ⟨_, (pss_cons (ps_fld (pv 0) (pv 1) rfl)
      (pss_one (ps_fld (pv 0) (pv 2) rfl))), ?_⟩
    refine ⟨_, rfl, _, rfl, x, _, dx, _, rfl, h0, T.cl_Run, T.na_Run_spikes, by decide, ?_⟩
    refine ⟨_, rfl, _, rfl, x, _, dx, _, rfl, upd_same, T.cl_Run, T.na_Run_weights, lt1000 (pf_len (n := 1) (by decide)) (by decide), ?_⟩
    rw [upd_upd]
    have sm5 := same_mut (o := .ins (He.ga K "Run") dx (putF "weights" v (putF "spikes" (.ref l) []))) sm hx
    exact q _ sm5 ⟨dx, _, l, upd_same, fl_skip (by decide +kernel) fl_here, h1.same sm5⟩
end SK

/-! Spikehold: the cells. -/
namespace SK
open PySem PySem.Spec PyProof.Rows L2
structure CellsO (K : PySem.W.Frag) (G : Hp) (x : Addr) (net : Net) (cp cr cs ca : Addr) : Prop where
  ex : ∃ dx fs l1 l2 W ns ss, G x = some (.ins (He.ga K "Cells") dx fs) ∧ Fl fs "neurons" (.ref l1) ∧ Fl fs "synapses" (.ref l2) ∧ Fl fs "rule" .non ∧ Fl fs "potentials" (.ref cp) ∧ Fl fs "rests" (.ref cr) ∧ Fl fs "last_spikes" (.ref cs) ∧ Fl fs "weights" (.ref W) ∧ Fl fs "last_arrivals" (.ref ca) ∧
    (fs.lookup ("tick" : Str) = none ∧ fs.lookup ("arrive" : Str) = none ∧ fs.lookup ("fire" : Str) = none ∧ fs.lookup ("learn" : Str) = none) ∧ G l1 = some (.lst ns) ∧ Paired (NeuAt K G) ns net.neus ∧ G l2 = some (.lst ss) ∧ Paired (SynAt K G) ss net.syns ∧ G W = some (.lst (net.syns.map fun s => V.int s.w))
  ok : net.Ok
structure Out (cp cr cs ca s : Addr) : Prop where
  p : s ≠ cp
  r : s ≠ cr
  l : s ≠ cs
  a : s ≠ ca
structure CellsF (G : Hp) (cp cr cs ca : Addr) : Prop where
  p : G cp = none
  r : G cr = none
  l : G cs = none
  a : G ca = none
  pr : cp ≠ cr
  pl : cp ≠ cs
  pa : cp ≠ ca
  rl : cr ≠ cs
  ra : cr ≠ ca
  la : cs ≠ ca
structure CellsS (H : Hp) (net : Net) (cp cr cs ca : Addr) (ps rs : List Int) : Prop where
  p : H cp = some (.lst (ps.map V.int))
  r : H cr = some (.lst (rs.map V.int))
  l : ∃ l, H cs = some (.lst l) ∧ l.length = net.neus.length
  a : ∃ l, H ca = some (.lst l) ∧ l.length = net.syns.length
section
variable {K : PySem.W.Frag} {G H H' : Hp} {x cp cr cs ca s : Addr} {net : Net} {ps rs : List Int} {o : HO}
theorem CellsO.same (e : Same G H) (h : CellsO K G x net cp cr cs ca) : CellsO K H x net cp cr cs ca :=
  let ⟨dx, fs, l1, l2, W, ns, ss, a0, a1, a2, a3, a4, a5, a6, a7, a8, a9, b1, b2, b3, b4, b5⟩ := h.ex
  ⟨⟨dx, fs, l1, l2, W, ns, ss, e _ _ a0, a1, a2, a3, a4, a5, a6, a7, a8, a9, e _ _ b1, Paired.mapP b2 fun _ _ z => z.same e, e _ _ b3, Paired.mapP b4 fun _ _ z => z.same e, e _ _ b5⟩, h.ok⟩
theorem CellsS.same (e : Same H H') (h : CellsS H net cp cr cs ca ps rs) : CellsS H' net cp cr cs ca ps rs :=
  ⟨e _ _ h.p, e _ _ h.r, let ⟨l, a, b⟩ := h.l; ⟨l, e _ _ a, b⟩, let ⟨l, a, b⟩ := h.a; ⟨l, e _ _ a, b⟩⟩
theorem CellsS.out (h : CellsS H net cp cr cs ca ps rs) (hs : H s = none) : Out cp cr cs ca s := by
  obtain ⟨l, a, _⟩ := h.l
  obtain ⟨m, b, _⟩ := h.a
  exact ⟨(ne_of_none h.p hs).symm, (ne_of_none h.r hs).symm, (ne_of_none a hs).symm, (ne_of_none b hs).symm⟩
theorem CellsF.out (h : CellsF G cp cr cs ca) (z : Out cp cr cs ca s) : CellsF (upd G s o) cp cr cs ca :=
  ⟨by rw [upd_ne z.p.symm]; exact h.p, by rw [upd_ne z.r.symm]; exact h.r, by rw [upd_ne z.l.symm]; exact h.l, by rw [upd_ne z.a.symm]; exact h.a, h.pr, h.pl, h.pa, h.rl, h.ra, h.la⟩
theorem CellsS.off (h : CellsS H net cp cr cs ca ps rs) (z : Out cp cr cs ca s) : CellsS (upd H s o) net cp cr cs ca ps rs :=
  ⟨by rw [upd_ne z.p.symm]; exact h.p, by rw [upd_ne z.r.symm]; exact h.r, let ⟨l, a, b⟩ := h.l; ⟨l, by rw [upd_ne z.l.symm]; exact a, b⟩, let ⟨l, a, b⟩ := h.a; ⟨l, by rw [upd_ne z.a.symm]; exact a, b⟩⟩
theorem same_put {o : HO} (e : Same G H) (h : H s = some o) : Same (upd G s o) H := fun b u q => by
  by_cases z : b = s
  · rw [z, upd_same] at q
    rw [z, h]
    exact q
  · rw [upd_ne z] at q
    exact e b u q
end
theorem rep_flat {α : Type} (a : α) : ∀ n : Nat, (List.replicate n [a]).flatten = List.replicate n a
  | 0 => rfl
  | n + 1 => by rw [List.replicate_succ, List.flatten_cons, rep_flat a n, List.replicate_succ]; rfl

/-! ### arrive -/
theorem scCellsArrive : FnScope ["self", "tick", "arriving", "sums", "k", "synapse"] ["self", "tick", "arriving"] (defScope sCellsArrive) := ⟨rfl, rfl, rfl, by decide +kernel, rfl, by decide +kernel, by decide +kernel⟩
def spArrive (K : PySem.W.Frag) : Sp := fun vs H Q _ => ∃ (G : Hp) (x ar cp cr cs ca : Addr) (net : Net) (t : Int) (ks : List Nat) (ps rs : List Int), vs = [.ref x, .int t, .ref ar] ∧ Same G H ∧ CellsO K G x net cp cr cs ca ∧ CellsF G cp cr cs ca ∧ CellsS H net cp cr cs ca ps rs ∧
  G ar = some (.lst (ks.map fun (k : Nat) => V.int (k : Int))) ∧ (∀ k ∈ ks, k < net.syns.length) ∧
  ∀ s H', Same G H' → CellsS H' net cp cr cs ca ps rs → G s = none → Out cp cr cs ca s → H' s = some (.lst ((sumsOf net.syns net.neus.length ks).map V.int)) → Q (.ref s) H'
theorem hasCellsArrive {P : Program} {w : World} {K : PySem.W.Frag} {mg : Str → Option Value} {base : Heap} (T : Txt K mg) : HasM P w K mg base 1 (He.ga K "Cells") "arrive" ["self", "tick", "arriving"] (spArrive K) := by
  obtain ⟨fd, F⟩ := T.fn_Cells_arrive
  refine ⟨_, fd, T.me_arrive, F.bindsN fun _ _ _ _ _ _ us hl => match us, hl with | [_, _, _], _ => rfl, fn_ok F scCellsArrive (fun vs H Q E h => ?_) (fun cdv A outer s H vs Q E hr h => ?_)⟩
  · obtain ⟨G, x, ar, cp, cr, cs, ca, net, t, ks, ps, rs, rfl, _⟩ := h
    rfl
  · obtain ⟨G, x, ar, cp, cr, cs, ca, net, t, ks, ps, rs, rfl, sm, co, cf, cS, har, hks, q⟩ := h
    refine ⟨_, (pss_cons (ps_set (i := 3) scCellsArrive.nd rfl (.inl rfl) (pe_op op_rep (pe_lst (pa_cons pe_int pa_nil)) (pe_callB call_len_seq (by rfl) T.fr_len PySem.boot_len (pa_cons (pe_fld (pv 0) rfl) pa_nil))))
      (pss_cons (ps_for PassesOwn.never rfl (pi_list (pv 2)) (pg_name (i := 4) scCellsArrive.nd rfl (.inl rfl)) (pss_cons (ps_set (i := 5) scCellsArrive.nd rfl (.inl rfl) (pe_ix ix_list (pe_fld (pv 0) rfl) (pv 4) (fun _ _ => rfl)))
      (pss_cons (ps_augS (pv 3) (pe_fld (pv 5) rfl) get_list (pe_ix ix_list (pe_fld (pv 0) rfl) (pv 4) (fun _ _ => rfl)) ip_add set_list)
      (pss_cons (ps_asg (pv 1) (pg_sub (pe_fld (pv 0) rfl) (pv 4) set_list))
      (pss_one (ps_if (PW.pt (pw_and (pt_cmp (pc_notN (pe_fld (pv 0) rfl))) (pw_and1 (pt_val (pe_fld (pv 5) rfl))))) pss_never pss_nil))))))
      (pss_one (ps_ret (pv 3))))), ?_⟩
    have net_ok := co.ok
    have hhi := net_ok.hi
    obtain ⟨dx, fs, l1, l2, W, ns, ss, a0, a1, a2, a3, a4, a5, a6, a7, a8, a9, b1, b2, b3, b4, b5⟩ := co.ex
    have lns := Paired.len b2
    refine ⟨by show 1 ≤ sizeLine; decide, fun q0 hq0 => ?_⟩
    have s1 := sm.trans (same_new (o := .lst [.int 0]) hq0)
    refine ⟨_, rfl, x, _, dx, fs, _, rfl, s1 _ _ a0, T.cl_Cells, T.na_Cells_neurons, a1, l1, ns, rfl, .inl (SqL.of (s1 _ _ b1)), q0, _, _, rfl, rfl, upd_same, by omega, by omega, ?_, fun s hs => ?_⟩
    · rw [Int.toNat_natCast]
      exact Nat.le_of_lt (small1000 (by show 1 * ns.length ≤ 1000; omega))
    have cS1 := cS.same (same_new (o := .lst [.int 0]) hq0)
    have zo := cS1.out hs
    have fs0 := s1.free hs
    rw [Int.toNat_natCast, rep_flat]
    have ez : List.replicate ns.length (V.int 0) = (sumsOf net.syns net.neus.length []).map V.int := by
      show _ = (zeros net.neus.length).map V.int
      rw [map_rep, lns]
    rw [ez]
    refine ⟨_, rfl, ar, rfl, ⟨_, SqL.of (same_new hs _ _ (s1 _ _ har))⟩, ?_⟩
    refine for_list (K := K) (a := ar) (xs := ks.map fun (k : Nat) => V.int (k : Int)) (fun i σ' H' => ∃ x4 x5, σ' = [some (.ref x), some (.int t), some (.ref ar), some (.ref s), x4, x5] ∧ Same G H' ∧ CellsS H' net cp cr cs ca ps rs ∧ H' s = some (.lst ((sumsOf net.syns net.neus.length (ks.take i)).map V.int)))
      ⟨none, none, rfl, s1.trans (same_new hs), cS1.same (same_new hs), upd_same⟩ (fun i σ' H' _ ⟨_, _, _, h, _⟩ => SqL.of (h _ _ har)) ?_ ?_
    · rintro i y σ' H' hy ⟨x4, x5, rfl, sm', cS', hs'⟩
      have hi := (List.getElem?_eq_some_iff.mp hy).1
      rw [List.length_map] at hi
      rw [List.getElem?_map, List.getElem?_eq_getElem hi] at hy
      have hy : V.int (ks[i] : Int) = y := Option.some.inj hy
      subst hy
      have hk := hks _ (List.getElem_mem hi)
      have etk : ks.take (i + 1) = ks.take i ++ [ks[i]] := by rw [List.take_add_one, List.getElem?_eq_getElem hi]; rfl
      generalize ks[i] = k at hk etk
      have hsy := getElem?_getD (⟨0, 0, 0, 0⟩ : Sy) hk
      obtain ⟨yv, hyv, z, rfl, hz⟩ := Paired.getR b4 hsy
      have hmem := List.mem_of_getElem? hsy
      have esum : sumsOf net.syns net.neus.length (ks.take (i + 1)) = addTo (sumsOf net.syns net.neus.length (ks.take i)) (net.syns.getD k ⟨0, 0, 0, 0⟩) := by rw [etk, sumsOf_snoc]
      generalize net.syns.getD k ⟨0, 0, 0, 0⟩ = sy at hsy hz hmem esum
      obtain ⟨dz, fz, z0, z1, z2, z3, z4⟩ := hz.ex
      have z0 := sm' _ _ z0
      have ht := net_ok.tgt sy hmem
      have lsum := sumsOf_length net.syns net.neus.length (ks.take i)
      refine ⟨_, rfl, x, _, dx, fs, _, rfl, sm' _ _ a0, T.cl_Cells, T.na_Cells_synapses, a2, _, rfl, l2, ss, _, _, rfl, rfl, SqL.of (sm' _ _ b3), atI_nat hyv, ?_⟩
      refine ⟨_, rfl, _, rfl, z, _, dz, fz, _, rfl, z0, T.cl_Synapse, T.na_Synapse_target, z2, s, _, _, _, rfl, rfl, SqL.of hs', by omega, by omega, int_at (by rw [lsum]; exact ht), ?_⟩
      refine ⟨_, rfl, x, _, dx, fs, _, rfl, sm' _ _ a0, T.cl_Cells, T.na_Cells_weights, a7, _, rfl, W, _, _, _, rfl, rfl, SqL.of (sm' _ _ b5), atI_nat (by rw [List.getElem?_map, hsy]; rfl), _, _, rfl, rfl, s, _, _, sy.tgt, rfl, rfl, hs', Evl.ixN_nat (by rw [List.length_map, lsum]; exact ht), ?_⟩
      have eset : ((sumsOf net.syns net.neus.length (ks.take i)).map V.int).set sy.tgt (.int ((sumsOf net.syns net.neus.length (ks.take i)).getD sy.tgt 0 + sy.w)) = (sumsOf net.syns net.neus.length (ks.take (i + 1))).map V.int := by
        rw [esum]
        exact List.map_set.symm
      dsimp only
      rw [Int.toNat_natCast, eset]
      have sm2 := same_mut (o := .lst ((sumsOf net.syns net.neus.length (ks.take (i + 1))).map V.int)) sm' fs0
      have cS2 := cS'.off (o := .lst ((sumsOf net.syns net.neus.length (ks.take (i + 1))).map V.int)) zo
      have hs2 : (upd H' s (.lst ((sumsOf net.syns net.neus.length (ks.take (i + 1))).map V.int))) s = some (.lst ((sumsOf net.syns net.neus.length (ks.take (i + 1))).map V.int)) := upd_same
      generalize upd H' s (.lst ((sumsOf net.syns net.neus.length (ks.take (i + 1))).map V.int)) = H2 at sm2 cS2 hs2 ⊢
      obtain ⟨la, hla, lla⟩ := cS2.a
      refine ⟨_, rfl, _, rfl, x, _, dx, fs, _, rfl, sm2 _ _ a0, T.cl_Cells, T.na_Cells_last_arrivals, a8, _, rfl, ca, la, _, k, rfl, rfl, hla, Evl.ixN_nat (by rw [lla]; exact hk), ?_⟩
      have sm3 := same_mut (o := .lst (la.set k (.int t))) sm2 cf.a
      have cS3 : CellsS (upd H2 ca (.lst (la.set k (.int t)))) net cp cr cs ca ps rs :=
        ⟨by rw [upd_ne cf.pa]; exact cS2.p, by rw [upd_ne cf.ra]; exact cS2.r, let ⟨l, a, b⟩ := cS2.l; ⟨l, by rw [upd_ne cf.la]; exact a, b⟩, ⟨_, upd_same, by rw [List.length_set]; exact lla⟩⟩
      refine ⟨_, rfl, x, _, dx, fs, _, rfl, sm3 _ _ a0, T.cl_Cells, T.na_Cells_rule, a3, _, rfl, ?_⟩
      refine iteNS rfl ?_
      refine iteF ⟨_, _, rfl, sm3, cS3, ?_⟩
      rw [upd_ne zo.a]
      exact hs2
    · rintro σ' H' ⟨x4, x5, rfl, sm', cS', hs'⟩
      have e : ks.take (ks.map fun (k : Nat) => V.int (k : Int)).length = ks := List.take_of_length_le (by rw [List.length_map]; exact Nat.le_refl _)
      rw [e] at hs'
      exact ⟨_, rfl, q s H' sm' cS' fs0 zo hs'⟩

/-! ### fire -/
theorem set_mid (a b : List Int) (v : Int) (h : 0 < b.length) : (a ++ b).set a.length v = (a ++ [v]) ++ b.drop 1 := by
  cases b with
  | nil => exact absurd h (Nat.lt_irrefl _)
  | cons x r =>
    rw [List.set_append_right _ _ (Nat.le_refl _), Nat.sub_self, List.append_assoc]
    rfl
theorem get_mid (a b : List Int) (i : Nat) (h : i = a.length) (hb : 0 < b.length) : (a ++ b).getD i 0 = b.getD 0 0 := by
  subst h
  rw [List.getD_eq_getElem?_getD, List.getElem?_append_right (Nat.le_refl _), Nat.sub_self, List.getD_eq_getElem?_getD]
theorem drop_get (l : List Int) (i : Nat) : (l.drop i).getD 0 0 = l.getD i 0 := by
  rw [List.getD_eq_getElem?_getD, List.getElem?_drop, List.getD_eq_getElem?_getD, Nat.add_zero]
theorem scCellsFire : FnScope ["self", "sums", "fired", "n", "potential", "rest", "spikes"] ["self", "sums"] (defScope sCellsFire) := ⟨rfl, rfl, rfl, by decide +kernel, rfl, by decide +kernel, by decide +kernel⟩
def spFire (K : PySem.W.Frag) : Sp := fun vs H Q _ => ∃ (G : Hp) (x s cp cr cs ca : Addr) (net : Net) (sums ps rs : List Int), vs = [.ref x, .ref s] ∧ Same G H ∧ CellsO K G x net cp cr cs ca ∧ CellsF G cp cr cs ca ∧ CellsS H net cp cr cs ca ps rs ∧
  G s = some (.lst (sums.map V.int)) ∧ sums.length = net.neus.length ∧ ps.length = net.neus.length ∧ rs.length = net.neus.length ∧
  ∀ f H', Same G H' → CellsS H' net cp cr cs ca (potsOf net.neus ps rs sums net.neus.length) (restsOf net.neus ps rs sums net.neus.length) → G f = none → Out cp cr cs ca f → H' f = some (.lst ((firedOf net.neus ps rs sums net.neus.length).map V.int)) → Q (.ref f) H'
theorem hasCellsFire {P : Program} {w : World} {K : PySem.W.Frag} {mg : Str → Option Value} {base : Heap} (T : Txt K mg) (hStep : Has P w K mg base 1 "step" ["neuron", "potential", "rest", "incoming"] (spStep K)) : HasM P w K mg base 2 (He.ga K "Cells") "fire" ["self", "sums"] (spFire K) := by
  obtain ⟨fd, F⟩ := T.fn_Cells_fire
  refine ⟨_, fd, T.me_fire, F.bindsN fun _ _ _ _ _ _ us hl => match us, hl with | [_, _], _ => rfl, fn_ok F scCellsFire (fun vs H Q E h => ?_) (fun cdv A outer s H vs Q E hr h => ?_)⟩
  · obtain ⟨G, x, s, cp, cr, cs, ca, net, sums, ps, rs, rfl, _⟩ := h
    rfl
  · obtain ⟨G, x, s, cp, cr, cs, ca, net, sums, ps, rs, rfl, sm, co, cf, cS, hs, lsu, lps, lrs, q⟩ := h
    refine ⟨_, (pss_cons (ps_set (i := 2) scCellsFire.nd rfl (.inl rfl) (pe_lst pa_nil))
      (pss_cons (ps_for PassesOwn.never rfl (pi_range1 rfl T.fr_range (pa_cons (pe_callB call_len_seq (by rfl) T.fr_len PySem.boot_len (pa_cons (pe_fld (pv 0) rfl) pa_nil)) pa_nil)) (pg_name (i := 3) scCellsFire.nd rfl (.inl rfl)) (pss_cons (ps_asg (pe_callH hStep (hr.mono (by decide)) (by rfl) (pa_cons (pe_ix ix_list (pe_fld (pv 0) rfl) (pv 3) (fun _ _ => rfl)) (pa_cons (pe_ix ix_list (pe_fld (pv 0) rfl) (pv 3) (fun _ _ => rfl)) (pa_cons (pe_ix ix_list (pe_fld (pv 0) rfl) (pv 3) (fun _ _ => rfl)) (pa_cons (pe_ix ix_list (pv 1) (pv 3) (fun _ _ => rfl)) pa_nil))))) (pg_tup (by rfl) (pgs_cons (pg_name (i := 4) scCellsFire.nd rfl (.inl rfl)) (pgs_cons (pg_name (i := 5) scCellsFire.nd rfl (.inl rfl)) (pgs_cons (pg_name (i := 6) scCellsFire.nd rfl (.inl rfl)) pgs_nil)))))
      (pss_cons (ps_asg (pv 4) (pg_sub (pe_fld (pv 0) rfl) (pv 3) set_list))
      (pss_cons (ps_asg (pv 5) (pg_sub (pe_fld (pv 0) rfl) (pv 3) set_list))
      (pss_one (ps_if (pt_val (pv 6)) (pss_one (ps_expr (pe_bm PySem.F.plainAttrs_list PySem.F.slot_list_append PySem.F.type_list_append mt_append (pv 2) (pa_cons (pv 3) pa_nil)))) pss_nil))))))
      (pss_one (ps_ret (pv 2))))), ?_⟩
    have net_ok := co.ok
    have hhi := net_ok.hi
    obtain ⟨dx, fs, l1, l2, W, ns, ss, a0, a1, a2, a3, a4, a5, a6, a7, a8, a9, b1, b2, b3, b4, b5⟩ := co.ex
    have lns := Paired.len b2
    refine ⟨Nat.zero_le _, fun f hf => ?_⟩
    have s1 := sm.trans (same_new (o := .lst []) hf)
    have cS1 := cS.same (same_new (o := .lst []) hf)
    have zo := cS.out hf
    have ff := sm.free hf
    refine ⟨_, rfl, x, _, dx, fs, _, rfl, s1 _ _ a0, T.cl_Cells, T.na_Cells_neurons, a1, l1, ns, rfl, .inl (SqL.of (s1 _ _ b1)), _, rfl, by omega, by omega, ?_⟩
    refine for_range (lo := 0) (n := (ns.length : Int).toNat) (fun i σ' H' => ∃ x3 x4 x5 x6, σ' = [some (.ref x), some (.ref s), some (.ref f), x3, x4, x5, x6] ∧ Same G H' ∧
      CellsS H' net cp cr cs ca (potsOf net.neus ps rs sums i ++ ps.drop i) (restsOf net.neus ps rs sums i ++ rs.drop i) ∧ H' f = some (.lst ((firedOf net.neus ps rs sums i).map V.int))) ⟨none, none, none, none, rfl, s1, cS1, upd_same⟩ ?_ ?_
    · rintro i σ' H' hi ⟨x3, x4, x5, x6, rfl, sm', cS', hf'⟩
      have hi : i < net.neus.length := by rw [← lns]; omega
      have e0 : (0 : Int) + (i : Int) = (i : Int) := Int.zero_add _
      rw [e0]
      obtain ⟨u, hu, hu2⟩ := nu_at b2 hi
      have lp := potsOf_length net.neus ps rs sums i
      have lr := restsOf_length net.neus ps rs sums i
      have lf := firedOf_length net.neus ps rs sums i
      have ldp : 0 < (ps.drop i).length := by rw [List.length_drop]; omega
      have ldr : 0 < (rs.drop i).length := by rw [List.length_drop]; omega
      have gp : (potsOf net.neus ps rs sums i ++ ps.drop i).getD i 0 = ps.getD i 0 := by rw [get_mid _ _ i lp.symm ldp, drop_get]
      have gr : (restsOf net.neus ps rs sums i ++ rs.drop i).getD i 0 = rs.getD i 0 := by rw [get_mid _ _ i lr.symm ldr, drop_get]
      have hlp : i < (potsOf net.neus ps rs sums i ++ ps.drop i).length := by rw [List.length_append]; omega
      have hlr : i < (restsOf net.neus ps rs sums i ++ rs.drop i).length := by rw [List.length_append]; omega
      have hip := int_at hlp
      have hir := int_at hlr
      rw [gp] at hip
      rw [gr] at hir
      refine ⟨_, rfl, x, _, dx, fs, _, rfl, sm' _ _ a0, T.cl_Cells, T.na_Cells_neurons, a1, _, rfl, l1, ns, (i : Int), _, rfl, rfl, SqL.of (sm' _ _ b1), atI_nat hu, ?_⟩
      refine ⟨_, rfl, x, _, dx, fs, _, rfl, sm' _ _ a0, T.cl_Cells, T.na_Cells_potentials, a4, _, rfl, cp, _, (i : Int), _, rfl, rfl, SqL.of cS'.p, atI_nat hip, ?_⟩
      refine ⟨_, rfl, x, _, dx, fs, _, rfl, sm' _ _ a0, T.cl_Cells, T.na_Cells_rests, a5, _, rfl, cr, _, (i : Int), _, rfl, rfl, SqL.of cS'.r, atI_nat hir, ?_⟩
      refine ⟨_, rfl, _, rfl, s, _, (i : Int), _, rfl, rfl, SqL.of (sm' _ _ hs), atI_nat (int_at (by rw [lsu]; exact hi)), ?_⟩
      refine ⟨u, net.neus.getD i nu0, ps.getD i 0, rs.getD i 0, sums.getD i 0, rfl, hu2.same sm', leak_at net_ok hi, fun t ht => ?_⟩
      have es : step (net.neus.getD i nu0) (ps.getD i 0) (rs.getD i 0) (sums.getD i 0) = stepAt net.neus ps rs sums i := rfl
      rw [es]
      have wp : (potsOf net.neus ps rs sums i ++ ps.drop i).set i (stepAt net.neus ps rs sums i).1 = potsOf net.neus ps rs sums (i + 1) ++ ps.drop (i + 1) := by
        have z := set_mid (potsOf net.neus ps rs sums i) (ps.drop i) (stepAt net.neus ps rs sums i).1 ldp
        rw [lp, List.drop_drop] at z
        rw [z, potsOf_succ]
      have wr : (restsOf net.neus ps rs sums i ++ rs.drop i).set i (stepAt net.neus ps rs sums i).2.1 = restsOf net.neus ps rs sums (i + 1) ++ rs.drop (i + 1) := by
        have z := set_mid (restsOf net.neus ps rs sums i) (rs.drop i) (stepAt net.neus ps rs sums i).2.1 ldr
        rw [lr, List.drop_drop] at z
        rw [z, restsOf_succ]
      have fy : (stepAt net.neus ps rs sums i).2.2 = true → firedOf net.neus ps rs sums (i + 1) = firedOf net.neus ps rs sums i ++ [(i : Int)] := firedOf_yes
      have fn : (stepAt net.neus ps rs sums i).2.2 = false → firedOf net.neus ps rs sums (i + 1) = firedOf net.neus ps rs sums i := firedOf_no
      generalize stepAt net.neus ps rs sums i = s3 at wp wr fy fn ⊢
      have sm2 := sm'.trans (same_new (o := .tup [.int s3.1, .int s3.2.1, .bl s3.2.2]) ht)
      have cS2 := cS'.same (same_new (o := .tup [.int s3.1, .int s3.2.1, .bl s3.2.2]) ht)
      have hf2 := same_new (o := .tup [.int s3.1, .int s3.2.1, .bl s3.2.2]) ht _ _ hf'
      refine ⟨t, _, rfl, SqT.of upd_same, rfl, _, _, rfl, _, _, rfl, _, _, rfl, rfl, ?_⟩
      generalize upd H' t (.tup [.int s3.1, .int s3.2.1, .bl s3.2.2]) = H2 at sm2 cS2 hf2 ⊢
      refine ⟨_, rfl, _, rfl, x, _, dx, fs, _, rfl, sm2 _ _ a0, T.cl_Cells, T.na_Cells_potentials, a4, _, rfl, cp, _, (i : Int), i, rfl, rfl, cS2.p, Evl.ixN_nat (by rw [List.length_map]; exact hlp), ?_⟩
      have ep : ((potsOf net.neus ps rs sums i ++ ps.drop i).map V.int).set i (.int s3.1) = (potsOf net.neus ps rs sums (i + 1) ++ ps.drop (i + 1)).map V.int := by rw [← wp]; exact List.map_set.symm
      have er : ((restsOf net.neus ps rs sums i ++ rs.drop i).map V.int).set i (.int s3.2.1) = (restsOf net.neus ps rs sums (i + 1) ++ rs.drop (i + 1)).map V.int := by rw [← wr]; exact List.map_set.symm
      rw [ep]
      have sm3 := same_mut (o := .lst ((potsOf net.neus ps rs sums (i + 1) ++ ps.drop (i + 1)).map V.int)) sm2 cf.p
      have cr3 : (upd H2 cp (.lst ((potsOf net.neus ps rs sums (i + 1) ++ ps.drop (i + 1)).map V.int))) cr = some (.lst ((restsOf net.neus ps rs sums i ++ rs.drop i).map V.int)) := by rw [upd_ne cf.pr.symm]; exact cS2.r
      refine ⟨_, rfl, _, rfl, x, _, dx, fs, _, rfl, sm3 _ _ a0, T.cl_Cells, T.na_Cells_rests, a5, _, rfl, cr, _, (i : Int), i, rfl, rfl, cr3, Evl.ixN_nat (by rw [List.length_map]; exact hlr), ?_⟩
      rw [er]
      have sm4 := same_mut (o := .lst ((restsOf net.neus ps rs sums (i + 1) ++ rs.drop (i + 1)).map V.int)) sm3 cf.r
      have cS4 : CellsS (upd (upd H2 cp (.lst ((potsOf net.neus ps rs sums (i + 1) ++ ps.drop (i + 1)).map V.int))) cr (.lst ((restsOf net.neus ps rs sums (i + 1) ++ rs.drop (i + 1)).map V.int))) net cp cr cs ca (potsOf net.neus ps rs sums (i + 1) ++ ps.drop (i + 1)) (restsOf net.neus ps rs sums (i + 1) ++ rs.drop (i + 1)) :=
        ⟨by rw [upd_ne cf.pr, upd_same], upd_same, let ⟨l, a, b⟩ := cS2.l; ⟨l, by rw [upd_ne cf.rl.symm, upd_ne cf.pl.symm]; exact a, b⟩, let ⟨l, a, b⟩ := cS2.a; ⟨l, by rw [upd_ne cf.ra.symm, upd_ne cf.pa.symm]; exact a, b⟩⟩
      have hf4 : (upd (upd H2 cp (.lst ((potsOf net.neus ps rs sums (i + 1) ++ ps.drop (i + 1)).map V.int))) cr (.lst ((restsOf net.neus ps rs sums (i + 1) ++ rs.drop (i + 1)).map V.int))) f = some (.lst ((firedOf net.neus ps rs sums i).map V.int)) := by
        rw [upd_ne zo.r, upd_ne zo.p]; exact hf2
      generalize upd (upd H2 cp (.lst ((potsOf net.neus ps rs sums (i + 1) ++ ps.drop (i + 1)).map V.int))) cr (.lst ((restsOf net.neus ps rs sums (i + 1) ++ rs.drop (i + 1)).map V.int)) = H4 at sm4 cS4 hf4 ⊢
      refine ⟨_, rfl, _, rfl, ite2 (fun c => ?_) (fun c => ?_)⟩
      · refine ⟨_, rfl, .inl ⟨rfl, _, SqL.of hf4⟩, _, rfl, f, _, _, rfl, rfl, hf4, small1000 (by rw [List.length_map]; omega), ?_⟩
        refine ⟨_, _, _, _, rfl, same_mut sm4 ff, cS4.off zo, ?_⟩
        rw [upd_same, fy c, List.map_append]
        rfl
      · refine ⟨_, _, _, _, rfl, sm4, cS4, ?_⟩
        rw [fn (by simpa using c)]
        exact hf4
    · rintro σ' H' ⟨x3, x4, x5, x6, rfl, sm', cS', hf'⟩
      have en : (ns.length : Int).toNat = net.neus.length := by rw [Int.toNat_natCast, lns]
      have d1 : ps.drop net.neus.length = [] := List.drop_eq_nil_of_le (Nat.le_of_eq lps)
      have d2 : rs.drop net.neus.length = [] := List.drop_eq_nil_of_le (Nat.le_of_eq lrs)
      rw [en, d1, d2, List.append_nil, List.append_nil] at cS'
      rw [en] at hf'
      exact ⟨_, rfl, q f H' sm' cS' ff zo hf'⟩

/-! ### learn -/
theorem scCellsLearn : FnScope ["self", "tick", "fired", "n", "k", "synapse"] ["self", "tick", "fired"] (defScope sCellsLearn) := ⟨rfl, rfl, rfl, by decide +kernel, rfl, by decide +kernel, by decide +kernel⟩
def spLearn (K : PySem.W.Frag) : Sp := fun vs H Q _ => ∃ (G : Hp) (x f cp cr cs ca : Addr) (net : Net) (t : Int) (fl ps rs : List Int), vs = [.ref x, .int t, .ref f] ∧ Same G H ∧ CellsO K G x net cp cr cs ca ∧ CellsF G cp cr cs ca ∧ CellsS H net cp cr cs ca ps rs ∧
  G f = some (.lst (fl.map V.int)) ∧ (∀ n ∈ fl, 0 ≤ n ∧ n < net.neus.length) ∧ ∀ H', Same G H' → CellsS H' net cp cr cs ca ps rs → Q .non H'
theorem hasCellsLearn {P : Program} {w : World} {K : PySem.W.Frag} {mg : Str → Option Value} {base : Heap} (T : Txt K mg) : HasM P w K mg base 1 (He.ga K "Cells") "learn" ["self", "tick", "fired"] (spLearn K) := by
  obtain ⟨fd, F⟩ := T.fn_Cells_learn
  refine ⟨_, fd, T.me_learn, F.bindsN fun _ _ _ _ _ _ us hl => match us, hl with | [_, _, _], _ => rfl, fn_ok F scCellsLearn (fun vs H Q E h => ?_) (fun cdv A outer s H vs Q E hr h => ?_)⟩
  · obtain ⟨G, x, f, cp, cr, cs, ca, net, t, fl, ps, rs, rfl, _⟩ := h
    rfl
  · obtain ⟨G, x, f, cp, cr, cs, ca, net, t, fl, ps, rs, rfl, sm, co, cf, cS, hf, hfl, q⟩ := h
    refine ⟨_, (pss_cons (ps_for PassesOwn.never rfl (pi_list (pv 2)) (pg_name (i := 3) scCellsLearn.nd rfl (.inl rfl)) (pss_one (ps_asg (pv 1) (pg_sub (pe_fld (pv 0) rfl) (pv 3) set_list))))
      (pss_cons (ps_if (pt_cmp (pc_isN (pe_fld (pv 0) rfl))) (pss_one ps_retN) pss_nil)
      (pss_one ps_never))), ?_⟩
    obtain ⟨dx, fs, l1, l2, W, ns, ss, a0, a1, a2, a3, a4, a5, a6, a7, a8, a9, b1, b2, b3, b4, b5⟩ := co.ex
    refine ⟨_, rfl, f, rfl, ⟨_, SqL.of (sm _ _ hf)⟩, ?_⟩
    refine for_list (K := K) (a := f) (xs := fl.map V.int) (fun i σ' H' => ∃ x3, σ' = [some (.ref x), some (.int t), some (.ref f), x3, none, none] ∧ Same G H' ∧ CellsS H' net cp cr cs ca ps rs) ⟨none, rfl, sm, cS⟩ (fun i σ' H' _ ⟨_, _, h, _⟩ => SqL.of (h _ _ hf)) ?_ ?_
    · rintro i y σ' H' hy ⟨x3, rfl, sm', cS'⟩
      have hi := (List.getElem?_eq_some_iff.mp hy).1
      rw [List.length_map] at hi
      rw [int_at hi] at hy
      have hy := Option.some.inj hy
      subst hy
      have hm : fl.getD i 0 ∈ fl := List.mem_of_getElem? (getElem?_getD 0 hi)
      obtain ⟨h1, h2⟩ := hfl _ hm
      obtain ⟨j, hj⟩ := Int.eq_ofNat_of_zero_le h1
      rw [hj] at h2 ⊢
      obtain ⟨l, hl, ll⟩ := cS'.l
      refine ⟨_, rfl, _, rfl, x, _, dx, fs, _, rfl, sm' _ _ a0, T.cl_Cells, T.na_Cells_last_spikes, a6, _, rfl, cs, l, (j : Int), j, rfl, rfl, hl, Evl.ixN_nat (by rw [ll]; omega), ?_⟩
      exact ⟨_, rfl, same_mut sm' cf.l, ⟨by rw [upd_ne cf.pl]; exact cS'.p, by rw [upd_ne cf.rl]; exact cS'.r, ⟨_, upd_same, by rw [List.length_set]; exact ll⟩, let ⟨m, a, b⟩ := cS'.a; ⟨m, by rw [upd_ne cf.la.symm]; exact a, b⟩⟩⟩
    · rintro σ' H' ⟨x3, rfl, sm', cS'⟩
      refine ⟨_, rfl, x, _, dx, fs, _, rfl, sm' _ _ a0, T.cl_Cells, T.na_Cells_rule, a3, _, rfl, ite2 (fun _ => q _ sm' cS') (fun z => absurd (by decide) z)⟩

/-! ### tick -/
theorem fired_range {us : List Nu} {ps rs sums : List Int} {n : Nat} : ∀ x ∈ firedOf us ps rs sums n, 0 ≤ x ∧ x < n := fun x hx => by
  unfold firedOf at hx
  obtain ⟨i, hi, rfl⟩ := List.mem_map.mp hx
  have z := List.mem_range.mp (List.mem_filter.mp hi).1
  omega
theorem scCellsTick : FnScope ["self", "tick", "arriving", "sums", "fired"] ["self", "tick", "arriving"] (defScope sCellsTick) := ⟨rfl, rfl, rfl, by decide +kernel, rfl, by decide +kernel, by decide +kernel⟩
def spTick (K : PySem.W.Frag) : Sp := fun vs H Q _ => ∃ (G : Hp) (x ar cp cr cs ca : Addr) (net : Net) (t : Int) (ks : List Nat) (ps rs : List Int), vs = [.ref x, .int t, .ref ar] ∧ Same G H ∧ CellsO K G x net cp cr cs ca ∧ CellsF G cp cr cs ca ∧ CellsS H net cp cr cs ca ps rs ∧
  G ar = some (.lst (ks.map fun (k : Nat) => V.int (k : Int))) ∧ (∀ k ∈ ks, k < net.syns.length) ∧ ps.length = net.neus.length ∧ rs.length = net.neus.length ∧
  ∀ f H', Same G H' → CellsS H' net cp cr cs ca (potsOf net.neus ps rs (sumsOf net.syns net.neus.length ks) net.neus.length) (restsOf net.neus ps rs (sumsOf net.syns net.neus.length ks) net.neus.length) → G f = none → Out cp cr cs ca f →
    H' f = some (.lst ((firedOf net.neus ps rs (sumsOf net.syns net.neus.length ks) net.neus.length).map V.int)) → Q (.ref f) H'
theorem hasCellsTick {P : Program} {w : World} {K : PySem.W.Frag} {mg : Str → Option Value} {base : Heap} (T : Txt K mg) (mArrive : HasM P w K mg base 1 (He.ga K "Cells") "arrive" ["self", "tick", "arriving"] (spArrive K)) (mFire : HasM P w K mg base 2 (He.ga K "Cells") "fire" ["self", "sums"] (spFire K)) (mLearn : HasM P w K mg base 1 (He.ga K "Cells") "learn" ["self", "tick", "fired"] (spLearn K)) : HasM P w K mg base 3 (He.ga K "Cells") "tick" ["self", "tick", "arriving"] (spTick K) := by
  obtain ⟨fd, F⟩ := T.fn_Cells_tick
  refine ⟨_, fd, T.me_tick, F.bindsN fun _ _ _ _ _ _ us hl => match us, hl with | [_, _, _], _ => rfl, fn_ok F scCellsTick (fun vs H Q E h => ?_) (fun cdv A outer s H vs Q E hr h => ?_)⟩
  · obtain ⟨G, x, ar, cp, cr, cs, ca, net, t, ks, ps, rs, rfl, _⟩ := h
    rfl
  · obtain ⟨G, x, ar, cp, cr, cs, ca, net, t, ks, ps, rs, rfl, sm, co, cf, cS, har, hks, lps, lrs, q⟩ := h
    refine ⟨_, (pss_cons (ps_set (i := 3) scCellsTick.nd rfl (.inl rfl) (pe_methH mArrive T.cl_Cells (hr.mono (by decide)) (pv 0) (pa_cons (pv 1) (pa_cons (pv 2) pa_nil))))
      (pss_cons (ps_set (i := 4) scCellsTick.nd rfl (.inl rfl) (pe_methH mFire T.cl_Cells (hr.mono (by decide)) (pv 0) (pa_cons (pv 3) pa_nil)))
      (pss_cons (ps_expr (pe_methH mLearn T.cl_Cells (hr.mono (by decide)) (pv 0) (pa_cons (pv 1) (pa_cons (pv 4) pa_nil))))
      (pss_one (ps_ret (pv 4)))))), ?_⟩
    obtain ⟨dx, fs, l1, l2, W, ns, ss, a0, _, _, _, _, _, _, _, _, a9, _⟩ := co.ex
    refine ⟨_, rfl, x, dx, fs, rfl, sm _ _ a0, a9.2.1, _, rfl, _, rfl, G, x, ar, cp, cr, cs, ca, net, t, ks, ps, rs, rfl, sm, co, cf, cS, har, hks, fun s1 H1 sm1 cS1 fs1 zo1 hs1 => ?_⟩
    have lsu := sumsOf_length net.syns net.neus.length ks
    generalize sumsOf net.syns net.neus.length ks = sums at hs1 lsu q
    have g1 := same_new (o := .lst (sums.map V.int)) fs1
    have sg1 := same_put sm1 hs1
    have co1 := co.same g1
    have cf1 : CellsF (upd G s1 (.lst (sums.map V.int))) cp cr cs ca := cf.out zo1
    have hG1 : (upd G s1 (.lst (sums.map V.int))) s1 = some (.lst (sums.map V.int)) := upd_same
    generalize upd G s1 (.lst (sums.map V.int)) = G1 at g1 sg1 co1 cf1 hG1
    refine ⟨_, rfl, x, dx, fs, rfl, sm1 _ _ a0, a9.2.2.1, _, rfl, G1, x, s1, cp, cr, cs, ca, net, sums, ps, rs, rfl, sg1, co1, cf1, cS1, hG1, lsu, lps, lrs, fun f H2 sm2 cS2 ff2 zo2 hf2 => ?_⟩
    have g2 := same_new (o := .lst ((firedOf net.neus ps rs sums net.neus.length).map V.int)) ff2
    have sg2 := same_put sm2 hf2
    have co2 := co1.same g2
    have cf2 : CellsF (upd G1 f (.lst ((firedOf net.neus ps rs sums net.neus.length).map V.int))) cp cr cs ca := cf1.out zo2
    have hG2 : (upd G1 f (.lst ((firedOf net.neus ps rs sums net.neus.length).map V.int))) f = some (.lst ((firedOf net.neus ps rs sums net.neus.length).map V.int)) := upd_same
    generalize upd G1 f (.lst ((firedOf net.neus ps rs sums net.neus.length).map V.int)) = G2 at g2 sg2 co2 cf2 hG2
    refine ⟨_, rfl, x, dx, fs, rfl, sm2 _ _ (g1 _ _ a0), a9.2.2.2, _, rfl, _, rfl, G2, x, f, cp, cr, cs, ca, net, t, _, _, _, rfl, sg2, co2, cf2, cS2, hG2, fired_range, fun H3 sm3 cS3 => ?_⟩
    exact ⟨_, rfl, q f H3 (g1.trans (g2.trans sm3)) cS3 (g1.free ff2) zo2 (sm3 _ _ hG2)⟩

/-! ### the cells are made -/
def But (x : Addr) (H H' : Hp) : Prop := ∀ b o, b ≠ x → H b = some o → H' b = some o
theorem But.trans {x : Addr} {H H1 H2 : Hp} (a : But x H H1) (b : But x H1 H2) : But x H H2 := fun c o hc h => b c o hc (a c o hc h)
theorem but_same {x : Addr} {H H' : Hp} (e : Same H H') : But x H H' := fun b o _ h => e b o h
theorem but_put {x : Addr} {H : Hp} {o : HO} : But x H (upd H x o) := fun b u hb h => by rw [upd_ne hb]; exact h
theorem But.free {x p : Addr} {H H' : Hp} (e : But x H H') (hx : p ≠ x) (h : H' p = none) : H p = none := by
  cases q : H p with
  | none => rfl
  | some o =>
    rw [e p o hx q] at h
    cases h
theorem but_ne {x p : Addr} {H : Hp} {o : HO} (h : H x = some o) (hp : H p = none) : p ≠ x := (ne_of_none h hp).symm
theorem fl_none {fs : List (Str × V)} {f g : Str} {v : V} (h : ¬ g = f) (e : fs.lookup g = none) : (putF f v fs).lookup g = none := by
  rw [lookup_putF, if_neg h]
  exact e
def hide4 (H : Hp) (cp cr cs ca : Addr) : Hp := fun b => if b = cp ∨ b = cr ∨ b = cs ∨ b = ca then none else H b
theorem hide4_same {H : Hp} {cp cr cs ca : Addr} : Same (hide4 H cp cr cs ca) H := fun b o e => by
  unfold hide4 at e
  split at e
  · cases e
  · exact e
theorem hide4_in {G H : Hp} {cp cr cs ca : Addr} (e : Same G H) (h1 : G cp = none) (h2 : G cr = none) (h3 : G cs = none) (h4 : G ca = none) : Same G (hide4 H cp cr cs ca) := fun b o q => by
  unfold hide4
  rw [if_neg]
  · exact e b o q
  · rintro (z | z | z | z)
    · rw [z, h1] at q; cases q
    · rw [z, h2] at q; cases q
    · rw [z, h3] at q; cases q
    · rw [z, h4] at q; cases q
theorem hide4_at {H : Hp} {cp cr cs ca b : Addr} {o : HO} (h : H b = some o) (h1 : b ≠ cp) (h2 : b ≠ cr) (h3 : b ≠ cs) (h4 : b ≠ ca) : hide4 H cp cr cs ca b = some o := by
  unfold hide4
  rw [if_neg]
  · exact h
  · rintro (z | z | z | z)
    · exact h1 z
    · exact h2 z
    · exact h3 z
    · exact h4 z
theorem But.sameG {x : Addr} {G H H' : Hp} (e : But x H H') (sm : Same G H) (hx : G x = none) : Same G H' := fun b o h => e b o (ne_of_none h hx) (sm b o h)
/-- self.f = [v] * len(l) -/
theorem rep_store {K : PySem.W.Frag} {C x dx l : Addr} {fs : List (Str × V)} {f : Str} {v : V} {j : Nat} {σ : List (Option V)} {H : Hp} {ys : List V} {D : Ends} (h0 : σ[0]? = some (some (.ref x))) (hj : σ[j]? = some (some (.ref l))) (hx : H x = some (.ins C dx fs)) (hl : H l = some (.lst ys))
    (hn : ys.length ≤ 100) (c : Cls K C) (na : NoAttr K C f) (hf : fs.length < 1000) (k : ∀ p H', But x H H' → H p = none → H' p = some (.lst (List.replicate ys.length v)) → H' x = some (.ins C dx (putF f (.ref p) fs)) → D.nx σ H') :
    sFld K (tVar 0) (tOp rRep (tLst (tCons (tC v) tNil)) (tCB (fun xs H Q => ∃ p ys, xs = [V.ref p] ∧ (SqL K H p ys ∨ SqT K H p ys) ∧ Q (.int ys.length) H) (tCons (tVar j) tNil))) f D σ H := by
  refine ⟨by show 1 ≤ sizeLine; decide, fun q0 hq0 => ⟨_, hj, l, ys, rfl, .inl (SqL.of (same_new hq0 _ _ hl)), q0, _, _, rfl, rfl, upd_same, by omega, by omega, ?_, fun p hp => ?_⟩⟩
  · rw [Int.toNat_natCast]
    exact Nat.le_of_lt (small1000 (by show 1 * ys.length ≤ 1000; omega))
  · rw [Int.toNat_natCast, rep_flat] at *
    have b1 := (same_new (o := .lst [v]) hq0)
    have b2 := b1.trans (same_new (o := .lst (List.replicate ys.length v)) hp)
    have x2 := b2 _ _ hx
    refine ⟨_, h0, x, C, dx, fs, rfl, x2, c, na, hf, k p _ ((but_same b2).trans but_put) (b1.free hp) ?_ upd_same⟩
    rw [upd_ne (ne_of_none (b1 _ _ hx) hp).symm, upd_same]
theorem scCellsInit : FnScope ["self", "neurons", "synapses", "rule", "synapse"] ["self", "neurons", "synapses", "rule"] (defScope sCellsInit) := ⟨rfl, rfl, rfl, by decide +kernel, rfl, by decide +kernel, by decide +kernel⟩
def spCellI (K : PySem.W.Frag) : Sp := fun vs H Q _ => ∃ (G : Hp) (x dx n s : Addr) (net : Net) (ns ss : List V), vs = [.ref x, .ref n, .ref s, .non] ∧ Same G H ∧ G x = none ∧ H x = some (.ins (He.ga K "Cells") dx []) ∧ net.Ok ∧
  G n = some (.lst ns) ∧ Paired (NeuAt K G) ns net.neus ∧ G s = some (.lst ss) ∧ Paired (SynAt K G) ss net.syns ∧
  ∀ G' H' cp cr cs ca, Same G G' → Same G' H' → CellsO K G' x net cp cr cs ca → CellsF G' cp cr cs ca → CellsS H' net cp cr cs ca (zeros net.neus.length) (zeros net.neus.length) → Q .non H'
theorem hasCells {P : Program} {w : World} {K : PySem.W.Frag} {mg : Str → Option Value} {base : Heap} (T : Txt K mg) : HasC P w K mg base 1 "Cells" (He.ga K "Cells") ["self", "neurons", "synapses", "rule"] [] (spCellI K) := by
  obtain ⟨fd, F⟩ := T.fn_Cells_init
  refine ⟨_, fd, [], T.gl_Cells, T.mk_Cells, F.bindsN fun _ _ _ _ _ _ us hl => match us, hl with | [_, _, _, _], _ => rfl, .nil, fn_ok F scCellsInit (fun vs H Q E h => ?_) (fun cdv A outer s H vs Q E hr h => ?_)⟩
  · obtain ⟨G, x, dx, n, s, net, ns, ss, rfl, _⟩ := h
    rfl
  · obtain ⟨G, x, dx, n, s', net, ns, ss, rfl, sm, hx, h0, ok, h1, h2, h3, h4, q⟩ := h
    refine ⟨_, (pss_cons (ps_fld (pv 0) (pv 1) rfl)
      (pss_cons (ps_fld (pv 0) (pv 2) rfl)
      (pss_cons (ps_fld (pv 0) (pv 3) rfl)
      (pss_cons (ps_fld (pv 0) (pe_op op_rep (pe_lst (pa_cons pe_int pa_nil)) (pe_callB call_len_seq (by rfl) T.fr_len PySem.boot_len (pa_cons (pv 1) pa_nil))) rfl)
      (pss_cons (ps_fld (pv 0) (pe_op op_rep (pe_lst (pa_cons pe_int pa_nil)) (pe_callB call_len_seq (by rfl) T.fr_len PySem.boot_len (pa_cons (pv 1) pa_nil))) rfl)
      (pss_cons (ps_fld (pv 0) (pe_op op_rep (pe_lst (pa_cons pe_non pa_nil)) (pe_callB call_len_seq (by rfl) T.fr_len PySem.boot_len (pa_cons (pv 1) pa_nil))) rfl)
      (pss_cons (ps_fld (pv 0) (pe_lc (own := [("synapse", 4)]) (g := gName 4) (tt := tYes) (te := tFld K (tVar 4) "weight") rfl scCellsInit.nd (pi_list (pv 2)) (blkOk_by (N := ["self", "neurons", "synapses", "rule", "synapse"]) (sc := defScope sCellsInit) (by decide +kernel)) (fun _ _ _ _ _ => pg_name (i := 4) scCellsInit.nd rfl (Or.inl rfl)) (fun _ _ _ _ _ => pts_nil) (fun _ _ _ _ _ => (pe_fld (pv 4) rfl))) rfl)
      (pss_one (ps_fld (pv 0) (pe_op op_rep (pe_lst (pa_cons pe_non pa_nil)) (pe_callB call_len_seq (by rfl) T.fr_len PySem.boot_len (pa_cons (pv 2) pa_nil))) rfl))))))))), ?_⟩
    have lns := Paired.len h2
    have lss := Paired.len h4
    have hhi := ok.hi
    have hsy := ok.sy
    refine ⟨_, rfl, _, rfl, x, _, dx, _, rfl, h0, T.cl_Cells, T.na_Cells_neurons, by decide, ?_⟩
    refine ⟨_, rfl, _, rfl, x, _, dx, _, rfl, upd_same, T.cl_Cells, T.na_Cells_synapses, lt1000 (pf_len (n := 1) (by decide)) (by decide), ?_⟩
    rw [upd_upd]
    refine ⟨_, rfl, _, rfl, x, _, dx, _, rfl, upd_same, T.cl_Cells, T.na_Cells_rule, lt1000 (pf_len (pf_len (n := 1) (by decide))) (by decide), ?_⟩
    rw [upd_upd]
    have e3 := same_mut (o := .ins (He.ga K "Cells") dx (putF "rule" .non (putF "synapses" (.ref s') (putF "neurons" (.ref n) [])))) sm hx
    have x3 : (upd H x (.ins (He.ga K "Cells") dx (putF "rule" .non (putF "synapses" (.ref s') (putF "neurons" (.ref n) []))))) x = some (.ins (He.ga K "Cells") dx (putF "rule" .non (putF "synapses" (.ref s') (putF "neurons" (.ref n) [])))) := upd_same
    generalize upd H x (.ins (He.ga K "Cells") dx (putF "rule" .non (putF "synapses" (.ref s') (putF "neurons" (.ref n) [])))) = H3 at e3 x3 ⊢
    refine rep_store rfl rfl x3 (e3 _ _ h1) (by omega) T.cl_Cells T.na_Cells_potentials (lt1000 (pf_len (pf_len (pf_len (n := 1) (by decide)))) (by decide)) fun cp H4 b4 f4 l4 x4 => ?_
    have e4 := b4.sameG e3 hx
    have np := but_ne x3 f4
    refine rep_store rfl rfl x4 (e4 _ _ h1) (by omega) T.cl_Cells T.na_Cells_rests (lt1000 (pf_len (pf_len (pf_len (pf_len (n := 1) (by decide))))) (by decide)) fun cr H5 b5 f5 l5 x5 => ?_
    have e5 := b5.sameG e4 hx
    have nr := but_ne x4 f5
    have npr : cp ≠ cr := ne_of_none l4 f5
    have l45 := b5 _ _ np l4
    refine rep_store rfl rfl x5 (e5 _ _ h1) (by omega) T.cl_Cells T.na_Cells_last_spikes (lt1000 (pf_len (pf_len (pf_len (pf_len (pf_len (n := 1) (by decide)))))) (by decide)) fun cs H6 b6 f6 l6 x6 => ?_
    have e6 := b6.sameG e5 hx
    have nl := but_ne x5 f6
    have npl : cp ≠ cs := ne_of_none l45 f6
    have nrl : cr ≠ cs := ne_of_none l5 f6
    have l46 := b6 _ _ np l45
    have l56 := b6 _ _ nr l5
    refine ⟨_, rfl, s', rfl, ⟨_, SqL.of (e6 _ _ h3)⟩, fun W hW => ?_⟩
    refine lc_list (K := K) (a := s') (xs := ss) (fun i H' => Same H6 H' ∧ H' W = some (.lst ((net.syns.take i).map fun s => V.int s.w))) ⟨same_new hW, upd_same⟩ (fun i H' _ ⟨h, _⟩ => SqL.of (h _ _ (e6 _ _ h3))) (fun i y H' hy ⟨h, hd⟩ => ?_) (fun H7 ⟨s7, d7⟩ => ?_)
    · obtain ⟨sy, hsy, z, rfl, hz⟩ := Paired.getL h4 hy
      obtain ⟨dz, fz, z0, z1, z2, z3, z4⟩ := hz.ex
      have hi := (List.getElem?_eq_some_iff.mp hsy).1
      refine ⟨rfl, tYes_ok (iteT ⟨_, rfl, z, _, dz, fz, _, rfl, h _ _ (e6 _ _ z0), T.cl_Synapse, T.na_Synapse_weight, z3, _, hd, small1000 (by rw [List.length_map, List.length_take]; omega), same_mut h hW, ?_⟩)⟩
      rw [upd_same, List.take_add_one, hsy, List.map_append]
      rfl
    · have eW : net.syns.take ss.length = net.syns := List.take_of_length_le (by rw [lss]; exact Nat.le_refl _)
      rw [eW] at d7
      have x7 := s7 _ _ x6
      have nW := but_ne x6 hW
      refine ⟨_, rfl, x, _, dx, _, rfl, x7, T.cl_Cells, T.na_Cells_weights, lt1000 (pf_len (pf_len (pf_len (pf_len (pf_len (pf_len (n := 1) (by decide))))))) (by decide), ?_⟩
      have b8 := (but_same (x := x) s7).trans (but_put (o := .ins (He.ga K "Cells") dx (putF "weights" (.ref W) (putF "last_spikes" (.ref cs) (putF "rests" (.ref cr) (putF "potentials" (.ref cp) (putF "rule" .non (putF "synapses" (.ref s') (putF "neurons" (.ref n) [])))))))))
      have e8 := b8.sameG e6 hx
      have x8 : (upd H7 x (.ins (He.ga K "Cells") dx (putF "weights" (.ref W) (putF "last_spikes" (.ref cs) (putF "rests" (.ref cr) (putF "potentials" (.ref cp) (putF "rule" .non (putF "synapses" (.ref s') (putF "neurons" (.ref n) [])))))))))  x = some (.ins (He.ga K "Cells") dx (putF "weights" (.ref W) (putF "last_spikes" (.ref cs) (putF "rests" (.ref cr) (putF "potentials" (.ref cp) (putF "rule" .non (putF "synapses" (.ref s') (putF "neurons" (.ref n) [])))))))) := upd_same
      have d8 : (upd H7 x (.ins (He.ga K "Cells") dx (putF "weights" (.ref W) (putF "last_spikes" (.ref cs) (putF "rests" (.ref cr) (putF "potentials" (.ref cp) (putF "rule" .non (putF "synapses" (.ref s') (putF "neurons" (.ref n) []))))))))) W = some (.lst (net.syns.map fun s => V.int s.w)) := by rw [upd_ne nW]; exact d7
      generalize upd H7 x (.ins (He.ga K "Cells") dx (putF "weights" (.ref W) (putF "last_spikes" (.ref cs) (putF "rests" (.ref cr) (putF "potentials" (.ref cp) (putF "rule" .non (putF "synapses" (.ref s') (putF "neurons" (.ref n) [])))))))) = H8 at b8 e8 x8 d8 ⊢
      have npW : cp ≠ W := ne_of_none l46 hW
      have nrW : cr ≠ W := ne_of_none l56 hW
      have nlW : cs ≠ W := ne_of_none l6 hW
      have l48 := b8 _ _ np l46
      have l58 := b8 _ _ nr l56
      have l68 := b8 _ _ nl l6
      refine rep_store rfl rfl x8 (e8 _ _ h3) (by omega) T.cl_Cells T.na_Cells_last_arrivals (lt1000 (pf_len (pf_len (pf_len (pf_len (pf_len (pf_len (pf_len (n := 1) (by decide)))))))) (by decide)) fun ca H9 b9 f9 l9 x9 => ?_
      have e9 := b9.sameG e8 hx
      have na := but_ne x8 f9
      have npa : cp ≠ ca := ne_of_none l48 f9
      have nra : cr ≠ ca := ne_of_none l58 f9
      have nla : cs ≠ ca := ne_of_none l68 f9
      have nWa : W ≠ ca := ne_of_none d8 f9
      have d9 := b9 _ _ nW d8
      have g1 : G cp = none := e3.free f4
      have g2 : G cr = none := e4.free f5
      have g3 : G cs = none := e5.free f6
      have g4 : G ca = none := e8.free f9
      have eh := hide4_in e9 g1 g2 g3 g4
      have xh := hide4_at x9 np.symm nr.symm nl.symm na.symm
      have dh := hide4_at d9 npW.symm nrW.symm nlW.symm nWa
      have o1 : ∀ b, b = cp ∨ b = cr ∨ b = cs ∨ b = ca → hide4 H9 cp cr cs ca b = none := fun b hb => by unfold hide4; rw [if_pos hb]
      refine q (hide4 H9 cp cr cs ca) H9 cp cr cs ca eh hide4_same ⟨⟨dx, _, n, s', W, ns, ss, xh, ?_, ?_, ?_, ?_, ?_, ?_, ?_, fl_here, ⟨?_, ?_, ?_, ?_⟩, eh _ _ h1, Paired.mapP h2 fun _ _ z => z.same eh, eh _ _ h3, Paired.mapP h4 fun _ _ z => z.same eh, dh⟩, ok⟩
        ⟨o1 _ (.inl rfl), o1 _ (.inr (.inl rfl)), o1 _ (.inr (.inr (.inl rfl))), o1 _ (.inr (.inr (.inr rfl))), npr, npl, npa, nrl, nra, nla⟩ ⟨?_, ?_, ⟨_, b9 _ _ nl l68, by rw [List.length_replicate]; exact lns⟩, ⟨_, l9, by rw [List.length_replicate]; exact lss⟩⟩
      · exact fl_skip (by decide +kernel) (fl_skip (by decide +kernel) (fl_skip (by decide +kernel) (fl_skip (by decide +kernel) (fl_skip (by decide +kernel) (fl_skip (by decide +kernel) (fl_skip (by decide +kernel) fl_here))))))
      · exact fl_skip (by decide +kernel) (fl_skip (by decide +kernel) (fl_skip (by decide +kernel) (fl_skip (by decide +kernel) (fl_skip (by decide +kernel) (fl_skip (by decide +kernel) fl_here)))))
      · exact fl_skip (by decide +kernel) (fl_skip (by decide +kernel) (fl_skip (by decide +kernel) (fl_skip (by decide +kernel) (fl_skip (by decide +kernel) fl_here))))
      · exact fl_skip (by decide +kernel) (fl_skip (by decide +kernel) (fl_skip (by decide +kernel) (fl_skip (by decide +kernel) fl_here)))
      · exact fl_skip (by decide +kernel) (fl_skip (by decide +kernel) (fl_skip (by decide +kernel) fl_here))
      · exact fl_skip (by decide +kernel) (fl_skip (by decide +kernel) fl_here)
      · exact fl_skip (by decide +kernel) fl_here
      · exact fl_none (by decide +kernel) (fl_none (by decide +kernel) (fl_none (by decide +kernel) (fl_none (by decide +kernel) (fl_none (by decide +kernel) (fl_none (by decide +kernel) (fl_none (by decide +kernel) (fl_none (by decide +kernel) rfl)))))))
      · exact fl_none (by decide +kernel) (fl_none (by decide +kernel) (fl_none (by decide +kernel) (fl_none (by decide +kernel) (fl_none (by decide +kernel) (fl_none (by decide +kernel) (fl_none (by decide +kernel) (fl_none (by decide +kernel) rfl)))))))
      · exact fl_none (by decide +kernel) (fl_none (by decide +kernel) (fl_none (by decide +kernel) (fl_none (by decide +kernel) (fl_none (by decide +kernel) (fl_none (by decide +kernel) (fl_none (by decide +kernel) (fl_none (by decide +kernel) rfl)))))))
      · exact fl_none (by decide +kernel) (fl_none (by decide +kernel) (fl_none (by decide +kernel) (fl_none (by decide +kernel) (fl_none (by decide +kernel) (fl_none (by decide +kernel) (fl_none (by decide +kernel) (fl_none (by decide +kernel) rfl)))))))
      · rw [map_rep, ← lns]
        exact b9 _ _ np l48
      · rw [map_rep, ← lns]
        exact b9 _ _ nr l58
end SK

/-! Spikehold: run. -/
namespace SK
open PySem PySem.Spec PyProof.Rows L2
theorem run_snoc (net : Net) (X : List (List Int)) (x : List Int) : runTo net (X ++ [x]) = runStep net (runTo net X) x := by
  unfold runTo
  rw [List.foldl_append]
  rfl
structure RunOk (net : Net) (t : Nat) (r : R) : Prop where
  p : r.pots.length = net.neus.length
  rr : r.rests.length = net.neus.length
  h : r.hist.length = t
  s : r.spikes.length = t
theorem runTo_ok (net : Net) : ∀ X : List (List Int), RunOk net X.length (runTo net X) := by
  intro X
  have go : ∀ (X : List (List Int)) (r : R) (t : Nat), RunOk net t r → RunOk net (t + X.length) (X.foldl (runStep net) r) := by
    intro X
    induction X with
    | nil => intro r t h; exact h
    | cons x l ih =>
      intro r t h
      have z := ih (runStep net r x) (t + 1) ⟨potsOf_length .., restsOf_length .., by show (r.hist ++ [_]).length = _; rw [List.length_append, h.h]; rfl, by show (r.spikes ++ [_]).length = _; rw [List.length_append, h.s]; rfl⟩
      have e : t + (x :: l).length = t + 1 + l.length := by rw [List.length_cons]; omega
      rw [e]
      exact z
  have z := go X (run0 net) 0 ⟨zeros_length _, zeros_length _, rfl, rfl⟩
  rw [Nat.zero_add] at z
  exact z
/-- what a run keeps between two turns -/
structure RI (K : PySem.W.Frag) (H0 G H : Hp) (x cp cr cs ca hi sp : Addr) (net : Net) (r : R) : Prop where
  base : Same H0 G
  sm : Same G H
  co : CellsO K G x net cp cr cs ca
  cf : CellsF G cp cr cs ca
  cS : CellsS H net cp cr cs ca r.pots r.rests
  fh : G hi = none
  fs : G sp = none
  hs : hi ≠ sp
  oh : Out cp cr cs ca hi
  os : Out cp cr cs ca sp
  h : ∃ vh, H hi = some (.lst vh) ∧ LsAt G vh r.hist
  s : ∃ vs, H sp = some (.lst vs) ∧ LsAt G vs r.spikes
section
variable {K : PySem.W.Frag} {H0 G H H' : Hp} {x cp cr cs ca hi sp p : Addr} {net : Net} {r : R} {o : HO}
/-- a new object, kept -/
theorem RI.new (i : RI K H0 G H x cp cr cs ca hi sp net r) (hp : H p = none) : RI K H0 (upd G p o) (upd H p o) x cp cr cs ca hi sp net r := by
  have z := i.cS.out hp
  have g := same_new (o := o) (i.sm.free hp)
  have nh : hi ≠ p := let ⟨_, e, _⟩ := i.h; ne_of_none e hp
  have ns : sp ≠ p := let ⟨_, e, _⟩ := i.s; ne_of_none e hp
  exact ⟨i.base.trans g, same_put (i.sm.trans (same_new hp)) upd_same, i.co.same g, i.cf.out z, i.cS.off z, by rw [upd_ne nh]; exact i.fh, by rw [upd_ne ns]; exact i.fs, i.hs, i.oh, i.os,
    let ⟨v, a, b⟩ := i.h; ⟨v, by rw [upd_ne nh]; exact a, b.same g⟩, let ⟨v, a, b⟩ := i.s; ⟨v, by rw [upd_ne ns]; exact a, b.same g⟩⟩
/-- the heap grows -/
theorem RI.grow (i : RI K H0 G H x cp cr cs ca hi sp net r) (e : Same H H') : RI K H0 G H' x cp cr cs ca hi sp net r :=
  ⟨i.base, i.sm.trans e, i.co, i.cf, i.cS.same e, i.fh, i.fs, i.hs, i.oh, i.os, let ⟨v, a, b⟩ := i.h; ⟨v, e _ _ a, b⟩, let ⟨v, a, b⟩ := i.s; ⟨v, e _ _ a, b⟩⟩
/-- a new object that changes yet -/
theorem RI.off (i : RI K H0 G H x cp cr cs ca hi sp net r) (hp : G p = none) (z : Out cp cr cs ca p) (nh : hi ≠ p) (ns : sp ≠ p) : RI K H0 G (upd H p o) x cp cr cs ca hi sp net r :=
  ⟨i.base, same_mut i.sm hp, i.co, i.cf, i.cS.off z, i.fh, i.fs, i.hs, i.oh, i.os, let ⟨v, a, b⟩ := i.h; ⟨v, by rw [upd_ne nh]; exact a, b⟩, let ⟨v, a, b⟩ := i.s; ⟨v, by rw [upd_ne ns]; exact a, b⟩⟩
/-- an object that stands still from now on -/
theorem RI.keep (i : RI K H0 G H x cp cr cs ca hi sp net r) (hp : H p = some o) (z : Out cp cr cs ca p) (nh : hi ≠ p) (ns : sp ≠ p) (gp : G p = none) : RI K H0 (upd G p o) H x cp cr cs ca hi sp net r := by
  have g := same_new (o := o) gp
  exact ⟨i.base.trans g, same_put i.sm hp, i.co.same g, i.cf.out z, i.cS, by rw [upd_ne nh]; exact i.fh, by rw [upd_ne ns]; exact i.fs, i.hs, i.oh, i.os,
    let ⟨v, a, b⟩ := i.h; ⟨v, a, b.same g⟩, let ⟨v, a, b⟩ := i.s; ⟨v, a, b.same g⟩⟩
end

theorem scRun : FnScope ["network", "stimuli", "cells", "history", "spikes", "tick", "arriving", "k", "synapse", "fired", "n"] ["network", "stimuli"] (defScope sRun) := ⟨rfl, rfl, rfl, by decide +kernel, rfl, by decide +kernel, by decide +kernel⟩
def spRun (K : PySem.W.Frag) : Sp := fun vs H Q _ => ∃ (a b : Addr) (net : Net) (X : List (List Int)), vs = [.ref a, .ref b] ∧ NetAt K H a net ∧ StimsAt H b X ∧ X.length ≤ 500 ∧ (∀ x ∈ X, x.length ≤ 100) ∧
  ∀ x H', Same H H' → RunAt K H' x (runM net X) → Q (.ref x) H'
theorem hasRun {P : Program} {w : World} {K : PySem.W.Frag} {mg : Str → Option Value} {base : Heap} (T : Txt K mg) (cCells : HasC P w K mg base 1 "Cells" (He.ga K "Cells") ["self", "neurons", "synapses", "rule"] [] (spCellI K)) (cRun : HasC P w K mg base 1 "Run" (He.ga K "Run") ["self", "spikes", "weights"] [] (spRunI K)) (mTick : HasM P w K mg base 3 (He.ga K "Cells") "tick" ["self", "tick", "arriving"] (spTick K)) : Has P w K mg base 4 "run" ["network", "stimuli"] (spRun K) := by
  obtain ⟨fd, F⟩ := T.fn_run
  refine ⟨_, fd, T.gl_run, F.kp, F.bindsN fun _ _ _ _ _ _ us hl => match us, hl with | [_, _], _ => rfl, fn_ok F scRun (fun vs H Q E h => ?_) (fun cdv A outer s H vs Q E hr h => ?_)⟩
  · obtain ⟨a, b, net, X, rfl, _⟩ := h
    rfl
  · obtain ⟨a, b, net, X, rfl, hn, ⟨vx, hb, hls⟩, hX, hx1, q⟩ := h
    refine ⟨_, (pss_cons (ps_set (i := 2) scRun.nd rfl (.inl rfl) (pe_makeH cCells (hr.mono (by decide)) (by rfl) (pa_cons (pe_fld (pv 0) rfl) (pa_cons (pe_fld (pv 0) rfl) (pa_cons (pe_fld (pv 0) rfl) pa_nil)))))
      (pss_cons (ps_set (i := 3) scRun.nd rfl (.inl rfl) (pe_lst pa_nil))
      (pss_cons (ps_set (i := 4) scRun.nd rfl (.inl rfl) (pe_lst pa_nil))
      (pss_cons (ps_for PassesOwn.never rfl (pi_range1 rfl T.fr_range (pa_cons (pe_callB call_len_seq (by rfl) T.fr_len PySem.boot_len (pa_cons (pv 1) pa_nil)) pa_nil)) (pg_name (i := 5) scRun.nd rfl (.inl rfl)) (pss_cons (ps_set (i := 6) scRun.nd rfl (.inl rfl) (pe_lst pa_nil))
      (pss_cons (ps_for PassesOwn.never rfl (pi_range1 rfl T.fr_range (pa_cons (pe_callB call_len_seq (by rfl) T.fr_len PySem.boot_len (pa_cons (pe_fld (pv 0) rfl) pa_nil)) pa_nil)) (pg_name (i := 7) scRun.nd rfl (.inl rfl)) (pss_cons (ps_set (i := 8) scRun.nd rfl (.inl rfl) (pe_ix ix_list (pe_fld (pv 0) rfl) (pv 7) (fun _ _ => rfl)))
      (pss_one (ps_if (PW.pt (pw_and (pt_cmpR op_le (pe_fld (pv 8) rfl) (pv 5) (nomark _)) (pw_and1 (pt_cmpR op_in_seq (pe_fld (pv 8) rfl) (pe_ix ix_list (pv 3) (pe_op op_sub (pv 5) (pe_fld (pv 8) rfl)) (fun _ _ => rfl)) (by rfl))))) (pss_one (ps_expr (pe_bm PySem.F.plainAttrs_list PySem.F.slot_list_append PySem.F.type_list_append mt_append (pv 6) (pa_cons (pv 7) pa_nil)))) pss_nil))))
      (pss_cons (ps_set (i := 9) scRun.nd rfl (.inl rfl) (pe_methH mTick T.cl_Cells (hr.mono (by decide)) (pv 2) (pa_cons (pv 5) (pa_cons (pv 6) pa_nil))))
      (pss_cons (ps_expr (pe_bm PySem.F.plainAttrs_list PySem.F.slot_list_append PySem.F.type_list_append mt_append (pv 4) (pa_cons (pv 9) pa_nil)))
      (pss_one (ps_expr (pe_bm PySem.F.plainAttrs_list PySem.F.slot_list_append PySem.F.type_list_append mt_append (pv 3) (pa_cons (pe_op op_cat (pe_ix ix_list (pv 1) (pv 5) (fun _ _ => rfl)) (pe_lc (own := [("n", 10)]) (g := gName 10) (tt := tYes) (te := tOp (rI0 fun i j => .int (i + j)) (tFld K (tVar 0) "inputs") (tVar 10)) rfl scRun.nd (pi_list (pv 9)) (blkOk_by (N := ["network", "stimuli", "cells", "history", "spikes", "tick", "arriving", "k", "synapse", "fired", "n"]) (sc := defScope sRun) (by decide +kernel)) (fun _ _ _ _ _ => pg_name (i := 10) scRun.nd rfl (Or.inl rfl)) (fun _ _ _ _ _ => pts_nil) (fun _ _ _ _ _ => (pe_op op_add (pe_fld (pv 0) rfl) (pv 10))))) pa_nil)))))))))
      (pss_one (ps_ret (pe_makeH cRun (hr.mono (by decide)) (by rfl) (pa_cons (pv 4) (pa_cons (pe_fld (pv 2) rfl) pa_nil))))))))), ?_⟩
    have net_ok := hn.ok
    have hhi := net_ok.hi
    have hsy := net_ok.sy
    have lX := Paired.len hls
    obtain ⟨dn, fn, l1, l2, ns, ss, h0, h1, h2, h3, h4, h5, h6, h7, h8⟩ := hn.ex
    have lns := Paired.len h6
    have lss := Paired.len h8
    refine ⟨_, rfl, a, _, dn, fn, _, rfl, h0, T.cl_Network, T.na_Network_neurons, h2, _, rfl, a, _, dn, fn, _, rfl, h0, T.cl_Network, T.na_Network_synapses, h3, _, rfl, a, _, dn, fn, _, rfl, h0, T.cl_Network, T.na_Network_rule, h4, fun x dx hx hdx nxd => ?_⟩
    have s1 : Same H (upd (upd H dx (.own x)) x (.ins (He.ga K "Cells") dx [])) := fun c o e => by
      rw [upd_ne (ne_of_none e hx), upd_ne (ne_of_none e hdx)]
      exact e
    refine ⟨H, x, dx, l1, l2, net, ns, ss, rfl, s1, hx, upd_same, net_ok, h5, h6, h7, h8, fun G H1 cp cr cs ca g1 g2 co cf cS => ⟨rfl, ?_⟩⟩
    refine ⟨Nat.zero_le _, fun hi hhi' => ⟨Nat.zero_le _, fun sp hsp => ?_⟩⟩
    have s2 := g2.trans (same_new (o := .lst []) hhi')
    have cS2 := cS.same (same_new (o := .lst []) hhi')
    have nhs : hi ≠ sp := fun z => by rw [← z, upd_same] at hsp; cases hsp
    have i0 : RI K H G (upd (upd H1 hi (.lst [])) sp (.lst [])) x cp cr cs ca hi sp net (run0 net) :=
      ⟨g1, s2.trans (same_new hsp), co, cf, cS2.same (same_new hsp), g2.free hhi', s2.free hsp, nhs, cS.out hhi', cS2.out hsp, ⟨[], by rw [upd_ne nhs, upd_same], .nil⟩, ⟨[], upd_same, .nil⟩⟩
    generalize upd (upd H1 hi (.lst [])) sp (.lst []) = H2 at i0 ⊢
    refine ⟨_, rfl, b, vx, rfl, .inl (SqL.of (i0.sm _ _ (i0.base _ _ hb))), _, rfl, by omega, by omega, ?_⟩
    refine for_range (lo := 0) (n := (vx.length : Int).toNat) (fun t σ' H' => ∃ G x5 x6 x7 x8 x9, σ' = [some (.ref a), some (.ref b), some (.ref x), some (.ref hi), some (.ref sp), x5, x6, x7, x8, x9, none] ∧ RI K H G H' x cp cr cs ca hi sp net (runTo net (X.take t)))
      ⟨G, none, none, none, none, none, rfl, i0⟩ ?_ ?_
    · rintro t σ' H' ht ⟨G, x5, x6, x7, x8, x9, rfl, i1⟩
      have ht : t < X.length := by rw [← lX]; omega
      have e0 : (0 : Int) + (t : Int) = (t : Int) := Int.zero_add _
      rw [e0]
      have etk : X.take (t + 1) = X.take t ++ [X.getD t []] := take_snoc [] ht
      rw [etk, run_snoc]
      have rok := runTo_ok net (X.take t)
      have lt : (X.take t).length = t := by rw [List.length_take]; omega
      rw [lt] at rok
      generalize runTo net (X.take t) = r at i1 rok ⊢
      obtain ⟨xv, hxv, xb, rfl, hxb⟩ := Paired.getR hls (getElem?_getD ([] : List Int) ht)
      have hin : X.getD t [] ∈ X := List.mem_of_getElem? (getElem?_getD ([] : List Int) ht)
      have lx := hx1 _ hin
      generalize X.getD t [] = xs at hxb lx ⊢
      refine ⟨Nat.zero_le _, fun ar har => ?_⟩
      have ga := i1.sm.free har
      have za := i1.cS.out har
      have nha : hi ≠ ar := let ⟨_, e, _⟩ := i1.h; ne_of_none e har
      have nsa : sp ≠ ar := let ⟨_, e, _⟩ := i1.s; ne_of_none e har
      have i2 := i1.off (o := .lst []) ga za nha nsa
      refine ⟨_, rfl, a, _, dn, fn, _, rfl, i2.sm _ _ (i2.base _ _ h0), T.cl_Network, T.na_Network_synapses, h3, l2, ss, rfl, .inl (SqL.of (i2.sm _ _ (i2.base _ _ h7))), _, rfl, by omega, by omega, ?_⟩
      refine for_range (lo := 0) (n := (ss.length : Int).toNat) (fun k σ' H' => ∃ x7 x8, σ' = [some (.ref a), some (.ref b), some (.ref x), some (.ref hi), some (.ref sp), some (.int t), some (.ref ar), x7, x8, x9, none] ∧ RI K H G H' x cp cr cs ca hi sp net r ∧
        H' ar = some (.lst ((arriving net.syns r.hist t k).map fun (k : Nat) => V.int (k : Int)))) ⟨x7, x8, rfl, i2, upd_same⟩ ?_ ?_
      · rintro k σ' H' hk ⟨x7, x8, rfl, i3, a3⟩
        have hk : k < net.syns.length := by rw [← lss]; omega
        have e0 : (0 : Int) + (k : Int) = (k : Int) := Int.zero_add _
        rw [e0]
        have hsyk := getElem?_getD (⟨0, 0, 0, 0⟩ : Sy) hk
        obtain ⟨yv, hyv, z, rfl, hz⟩ := Paired.getR h8 hsyk
        have hmem := List.mem_of_getElem? hsyk
        have fy : arrives r.hist t (net.syns.getD k ⟨0, 0, 0, 0⟩) = true → arriving net.syns r.hist t (k + 1) = arriving net.syns r.hist t k ++ [k] := arriving_yes
        have fno : arrives r.hist t (net.syns.getD k ⟨0, 0, 0, 0⟩) = false → arriving net.syns r.hist t (k + 1) = arriving net.syns r.hist t k := arriving_no
        have la := arriving_length net.syns r.hist t k
        generalize net.syns.getD k ⟨0, 0, 0, 0⟩ = sy at hz hmem fy fno
        obtain ⟨dz, fz, z0, z1, z2, z3, z4⟩ := hz.ex
        have z0 := i3.sm _ _ (i3.base _ _ z0)
        have d1 := net_ok.d1 sy hmem
        have gob : arrives r.hist t sy = true → RI K H G (upd H' ar (.lst ((arriving net.syns r.hist t k).map (fun (k : Nat) => V.int (k : Int)) ++ [.int k]))) x cp cr cs ca hi sp net r ∧
            (upd H' ar (.lst ((arriving net.syns r.hist t k).map (fun (k : Nat) => V.int (k : Int)) ++ [.int k]))) ar = some (.lst ((arriving net.syns r.hist t (k + 1)).map fun (k : Nat) => V.int (k : Int))) := fun hy =>
          ⟨i3.off ga za nha nsa, by rw [upd_same, fy hy, List.map_append]; rfl⟩
        refine ⟨_, rfl, a, _, dn, fn, _, rfl, i3.sm _ _ (i3.base _ _ h0), T.cl_Network, T.na_Network_synapses, h3, _, rfl, l2, ss, _, _, rfl, rfl, SqL.of (i3.sm _ _ (i3.base _ _ h7)), atI_nat hyv, ?_⟩
        refine ⟨_, rfl, z, _, dz, fz, _, rfl, z0, T.cl_Synapse, T.na_Synapse_delay, z4, _, rfl, _, _, rfl, rfl, _, rfl, ite2 (fun c1 => ?_) (fun c1 => ?_)⟩
        · have c1 : (sy.delay : Int) ≤ (t : Int) := of_decide_eq_true c1
          have c1 : sy.delay ≤ t := by omega
          obtain ⟨vh, hvh, lvh⟩ := i3.h
          have hlt : t - sy.delay < r.hist.length := by rw [rok.h]; omega
          obtain ⟨hv, hhv, hb', rfl, hrow⟩ := Paired.getR lvh (getElem?_getD ([] : List Int) hlt)
          have ei : (t : Int) - (sy.delay : Int) = ((t - sy.delay : Nat) : Int) := by omega
          refine ⟨_, rfl, z, _, dz, fz, _, rfl, z0, T.cl_Synapse, T.na_Synapse_source, z1, _, rfl, _, rfl, _, rfl, z, _, dz, fz, _, rfl, z0, T.cl_Synapse, T.na_Synapse_delay, z4, _, _, rfl, rfl, hi, vh, _, _, rfl, rfl, SqL.of hvh, at_of ei hhv, hb', _, rfl, .inl (SqL.of (i3.sm _ _ hrow)), rfl, flat_ints _, _, rfl, ?_⟩
          rw [inV_int]
          have ea : arrives r.hist t sy = decide (sy.src ∈ r.hist.getD (t - sy.delay) []) := by
            unfold arrives
            rw [decide_eq_true c1, Bool.true_and]
          refine ite2 (fun c2 => ?_) (fun c2 => ?_)
          · obtain ⟨i4, a4⟩ := gob (by rw [ea]; exact c2)
            exact ⟨_, rfl, .inl ⟨rfl, _, SqL.of a3⟩, _, rfl, ar, _, _, rfl, rfl, a3, small1000 (by rw [List.length_map]; omega), _, _, rfl, i4, a4⟩
          · refine ⟨_, _, rfl, i3, ?_⟩
            rw [fno (by rw [ea]; simpa using c2)]
            exact a3
        · have c1 : ¬ (sy.delay : Int) ≤ (t : Int) := fun z => c1 (decide_eq_true z)
          refine iteF ⟨_, _, rfl, i3, ?_⟩
          have ea : arrives r.hist t sy = false := by
            unfold arrives
            rw [decide_eq_false (by omega), Bool.false_and]
          rw [fno ea]
          exact a3
      · rintro σ' H3 ⟨x7, x8, rfl, i3, a3⟩
        have en : (ss.length : Int).toNat = net.syns.length := by rw [Int.toNat_natCast, lss]
        rw [en] at a3
        have i4 := i3.keep a3 za nha nsa ga
        have gar : (upd G ar (.lst ((arriving net.syns r.hist t net.syns.length).map fun (k : Nat) => V.int (k : Int)))) ar = some (.lst ((arriving net.syns r.hist t net.syns.length).map fun (k : Nat) => V.int (k : Int))) := upd_same
        generalize upd G ar (.lst ((arriving net.syns r.hist t net.syns.length).map fun (k : Nat) => V.int (k : Int))) = G4 at i4 gar
        obtain ⟨vh, hvh, lvh⟩ := i4.h
        obtain ⟨vs, hvs, lvs⟩ := i4.s
        have gx := same_new (o := .lst vh) i4.fh
        have fs5 : (upd G4 hi (.lst vh)) sp = none := by rw [upd_ne i4.hs.symm]; exact i4.fs
        have gy := gx.trans (same_new (o := .lst vs) fs5)
        have smx : Same (upd (upd G4 hi (.lst vh)) sp (.lst vs)) H3 := same_put (same_put i4.sm hvh) hvs
        obtain ⟨dx', fs', _, _, _, _, _, a0, _, _, _, _, _, _, _, _, a9, _⟩ := i4.co.ex
        have esum : sumsOf net.syns net.neus.length (arriving net.syns r.hist t net.syns.length) = runSums net r := by unfold runSums; rw [rok.h]
        refine ⟨_, rfl, x, dx', fs', rfl, i4.sm _ _ a0, a9.1, _, rfl, _, rfl, _, x, ar, cp, cr, cs, ca, net, t, _, r.pots, r.rests, rfl, smx, i4.co.same gy, (i4.cf.out i4.oh).out i4.os, i4.cS, gy _ _ gar, fun k hk => arriving_lt hk, rok.p, rok.rr, fun f H4 s4 cS4 ff zf hf => ?_⟩
        rw [esum] at cS4 hf
        have hf : H4 f = some (.lst ((runFired net r).map V.int)) := hf
        have nhf : hi ≠ f := fun z => by
          rw [← z, upd_ne i4.hs, upd_same] at ff
          cases ff
        have nsf : sp ≠ f := fun z => by
          rw [← z, upd_same] at ff
          cases ff
        have hh4 : H4 hi = some (.lst vh) := s4 _ _ (by rw [upd_ne i4.hs, upd_same])
        have hs4 : H4 sp = some (.lst vs) := s4 _ _ upd_same
        have gf := gy.free ff
        have i5 : RI K H G4 H4 x cp cr cs ca hi sp net ⟨(runStep net r xs).pots, (runStep net r xs).rests, r.hist, r.spikes⟩ :=
          ⟨i4.base, gy.trans s4, i4.co, i4.cf, cS4, i4.fh, i4.fs, i4.hs, i4.oh, i4.os, ⟨vh, hh4, lvh⟩, ⟨vs, hs4, lvs⟩⟩
        have i6 := i5.keep hf zf nhf nsf gf
        have gff : (upd G4 f (.lst ((runFired net r).map V.int))) f = some (.lst ((runFired net r).map V.int)) := upd_same
        generalize upd G4 f (.lst ((runFired net r).map V.int)) = G6 at i6 gff
        have lff : (runFired net r).length ≤ net.neus.length := firedOf_length ..
        have lvsl := Paired.len lvs
        have lvhl := Paired.len lvh
        obtain ⟨vh6, hvh6, lvh6⟩ := i6.h
        obtain ⟨vs6, hvs6, lvs6⟩ := i6.s
        have evs : vs6 = vs := by rw [hs4] at hvs6; cases hvs6; rfl
        have evh : vh6 = vh := by rw [hh4] at hvh6; cases hvh6; rfl
        subst evs evh
        refine ⟨_, rfl, .inl ⟨rfl, _, SqL.of hs4⟩, _, rfl, sp, _, _, rfl, rfl, hs4, small1000 (by rw [lvsl]; have := rok.s; omega), ?_⟩
        have i7 : RI K H G6 (upd H4 sp (.lst (vs6 ++ [.ref f]))) x cp cr cs ca hi sp net ⟨(runStep net r xs).pots, (runStep net r xs).rests, r.hist, r.spikes ++ [runFired net r]⟩ :=
          ⟨i6.base, same_mut i6.sm i6.fs, i6.co, i6.cf, i6.cS.off i6.os, i6.fh, i6.fs, i6.hs, i6.oh, i6.os, ⟨vh6, by rw [upd_ne i6.hs]; exact hh4, lvh6⟩, ⟨_, upd_same, Paired.snoc lvs6 ⟨f, rfl, gff⟩⟩⟩
        have hh7 : (upd H4 sp (.lst (vs6 ++ [.ref f]))) hi = some (.lst vh6) := by rw [upd_ne i6.hs]; exact hh4
        generalize upd H4 sp (.lst (vs6 ++ [.ref f])) = H7 at i7 hh7 ⊢
        refine ⟨_, rfl, .inl ⟨rfl, _, SqL.of hh7⟩, _, rfl, _, rfl, b, vx, _, _, rfl, rfl, SqL.of (i7.sm _ _ (i7.base _ _ hb)), atI_nat hxv, _, rfl, f, rfl, ⟨_, SqL.of (i7.sm _ _ gff)⟩, fun D hD => ?_⟩
        refine lc_list (K := K) (a := f) (xs := (runFired net r).map V.int) (fun i H'' => Same H7 H'' ∧ H'' D = some (.lst ((((runFired net r).map fun n => (net.inputs : Int) + n).take i).map V.int))) ⟨same_new hD, upd_same⟩ (fun i H'' _ ⟨h, _⟩ => SqL.of (h _ _ (i7.sm _ _ gff))) (fun i y H'' hy ⟨h, hd⟩ => ?_) (fun H8 ⟨s8, d8⟩ => ?_)
        · have hi' := (List.getElem?_eq_some_iff.mp hy).1
          rw [List.length_map] at hi'
          rw [int_at hi'] at hy
          have hy := Option.some.inj hy
          subst hy
          refine ⟨rfl, tYes_ok (iteT ⟨_, rfl, a, _, dn, fn, _, rfl, h _ _ (i7.sm _ _ (i7.base _ _ h0)), T.cl_Network, T.na_Network_inputs, h1, _, rfl, _, _, rfl, rfl, _, hd, small1000 ?_, same_mut h hD, ?_⟩)⟩
          · rw [List.length_map, List.length_take, List.length_map]; omega
          · rw [upd_same, List.take_add_one, List.getElem?_map, getElem?_getD 0 hi', List.map_append]
            rfl
        · have et : ((runFired net r).map fun n => (net.inputs : Int) + n).take ((runFired net r).map V.int).length = (runFired net r).map fun n => (net.inputs : Int) + n := List.take_of_length_le (by rw [List.length_map, List.length_map]; exact Nat.le_refl _)
          rw [et] at d8
          have i8 := i7.grow s8
          refine ⟨xb, D, _, _, rfl, rfl, i8.sm _ _ (i8.base _ _ hxb), d8, Nat.le_of_lt (small1000 (by rw [List.length_map, List.length_map, List.length_map]; omega)), fun c hc => ?_⟩
          have esr : xs.map V.int ++ ((runFired net r).map fun n => (net.inputs : Int) + n).map V.int = (srcs net xs (runFired net r)).map V.int := by
            unfold srcs
            rw [List.map_append]
          rw [esr]
          have nhc : hi ≠ c := ne_of_none (s8 _ _ hh7) hc
          have i9 := i8.new (o := .lst ((srcs net xs (runFired net r)).map V.int)) hc
          have gc : (upd G6 c (.lst ((srcs net xs (runFired net r)).map V.int))) c = some (.lst ((srcs net xs (runFired net r)).map V.int)) := upd_same
          have hh9 : (upd H8 c (.lst ((srcs net xs (runFired net r)).map V.int))) hi = some (.lst vh6) := by rw [upd_ne nhc]; exact s8 _ _ hh7
          have lvh9 := lvh6.same (same_new (o := .lst ((srcs net xs (runFired net r)).map V.int)) (i8.sm.free hc))
          generalize upd G6 c (.lst ((srcs net xs (runFired net r)).map V.int)) = G9 at i9 gc lvh9
          generalize upd H8 c (.lst ((srcs net xs (runFired net r)).map V.int)) = H9 at i9 hh9 ⊢
          refine ⟨hi, _, _, rfl, rfl, hh9, small1000 (by rw [lvhl]; have := rok.h; omega), G9, _, _, _, _, _, rfl, ?_⟩
          obtain ⟨vs9, hvs9, lvs9⟩ := i9.s
          exact ⟨i9.base, same_mut i9.sm i9.fh, i9.co, i9.cf, i9.cS.off i9.oh, i9.fh, i9.fs, i9.hs, i9.oh, i9.os, ⟨_, upd_same, Paired.snoc lvh9 ⟨c, rfl, gc⟩⟩, ⟨vs9, by rw [upd_ne i9.hs.symm]; exact hvs9, lvs9⟩⟩
    · rintro σ' H3 ⟨G, x5, x6, x7, x8, x9, rfl, i1⟩
      have en : X.take (vx.length : Int).toNat = X := List.take_of_length_le (by rw [Int.toNat_natCast, lX]; exact Nat.le_refl _)
      rw [en] at i1
      obtain ⟨dx', fs', _, _, _, _, _, a0, _, _, _, _, _, _, a7, _, a9, _⟩ := i1.co.ex
      obtain ⟨vs, hvs, lvs⟩ := i1.s
      refine ⟨_, rfl, _, rfl, x, _, dx', fs', _, rfl, i1.sm _ _ a0, T.cl_Cells, T.na_Cells_weights, a7, fun y dy hy hdy nyd => ?_⟩
      have s1 : Same H3 (upd (upd H3 dy (.own y)) y (.ins (He.ga K "Run") dy [])) := fun c o e => by
        rw [upd_ne (ne_of_none e hy), upd_ne (ne_of_none e hdy)]
        exact e
      refine ⟨H3, y, dy, sp, _, runM net X, rfl, s1, hy, upd_same, ⟨vs, hvs, lvs.same i1.sm⟩, fun H4 s4 h4 => ⟨rfl, q y H4 ((i1.base.trans i1.sm).trans s4) h4⟩⟩
end SK

/-! Spikehold: what the law builds. -/
namespace SK
open PySem PySem.Spec PyProof.Rows L2
theorem p2 : (0 : Int) < 2 := by decide
theorem p3 : (0 : Int) < 3 := by decide
theorem p4 : (0 : Int) < 4 := by decide
theorem p5 : (0 : Int) < 5 := by decide
def hide1 (H : Hp) (p : Addr) : Hp := fun b => if b = p then none else H b
theorem hide1_same {H : Hp} {p : Addr} : Same (hide1 H p) H := fun b o e => by
  unfold hide1 at e
  split at e
  · cases e
  · exact e
theorem hide1_at {H : Hp} {p b : Addr} {o : HO} (h : H b = some o) (hb : b ≠ p) : hide1 H p b = some o := by
  unfold hide1
  rw [if_neg hb]
  exact h
theorem hide1_mono {H H' : Hp} {p : Addr} (e : Same H H') : Same (hide1 H p) (hide1 H' p) := fun b o h => by
  unfold hide1 at h
  split at h
  · cases h
  · rename_i hb
    exact hide1_at (e _ _ h) hb
theorem hide1_upd {H : Hp} {p : Addr} {o : HO} : hide1 (upd H p o) p = hide1 H p := by
  funext b
  unfold hide1
  by_cases h : b = p
  · rw [if_pos h, if_pos h]
  · rw [if_neg h, if_neg h, upd_ne h]
theorem NeuO.hide {K : PySem.W.Frag} {H : Hp} {a p : Addr} {u : Nu} (h : NeuO K H a u) (n : a ≠ p) : NeuO K (hide1 H p) a u := let ⟨dx, fs, h1, h2⟩ := h.ex; ⟨dx, fs, hide1_at h1 n, h2⟩
theorem SynO.hide {K : PySem.W.Frag} {H : Hp} {a p : Addr} {u : Sy} (h : SynO K H a u) (n : a ≠ p) : SynO K (hide1 H p) a u := let ⟨dx, fs, h1, h2⟩ := h.ex; ⟨dx, fs, hide1_at h1 n, h2⟩
abbrev cell (ns : List Int) (k : Nat) : Int := ns.getD k 0
theorem scLawCell : FnScope ["_law_script", "_law_k"] ["_law_script", "_law_k"] (defScope sLawCell) := ⟨rfl, rfl, rfl, by decide +kernel, rfl, by decide +kernel, by decide +kernel⟩
def spCell (K : PySem.W.Frag) : Sp := fun vs H Q _ => ∃ (s : Addr) (ns : List Int) (k : Nat), vs = [.ref s, .int k] ∧ SqL K H s (ns.map V.int) ∧ Q (.int (cell ns k)) H
theorem hasLawCell {P : Program} {w : World} {K : PySem.W.Frag} {mg : Str → Option Value} {base : Heap} (T : Txt K mg) : Has P w K mg base 1 "_law_cell" ["_law_script", "_law_k"] (spCell K) := by
  obtain ⟨fd, F⟩ := T.fn__law_cell
  refine ⟨_, fd, T.gl__law_cell, F.kp, F.bindsN fun _ _ _ _ _ _ us hl => match us, hl with | [_, _], _ => rfl, fn_ok F scLawCell (fun vs H Q E h => ?_) (fun cdv A outer s H vs Q E hr h => ?_)⟩
  · obtain ⟨s, ns, k, rfl, _⟩ := h
    rfl
  · obtain ⟨s', ns, k, rfl, hs, q⟩ := h
    refine ⟨_, (pss_cons (ps_if (pt_cmpR op_lt (pv 1) (pe_callB call_len_seq (by rfl) T.fr_len PySem.boot_len (pa_cons (pv 0) pa_nil)) (nomark _)) (pss_one (ps_ret (pe_callTy call_int1 (by rfl) T.fr_int (by decide +kernel) (pa_cons (pe_ix ix_list (pv 0) (pv 1) (fun _ _ => rfl)) pa_nil)))) pss_nil)
      (pss_one (ps_ret pe_int))), ?_⟩
    refine ⟨_, rfl, _, rfl, s', _, rfl, .inl hs, _, _, rfl, rfl, _, rfl, ite2 (fun c => ?_) (fun c => ?_)⟩
    · have c : (k : Int) < ((ns.map V.int).length : Nat) := of_decide_eq_true c
      rw [List.length_map] at c
      exact ⟨_, rfl, _, rfl, s', _, _, _, rfl, rfl, hs, atI_nat (int_at (by omega)), .inl ⟨_, rfl, q⟩⟩
    · have c : ¬ (k : Int) < ((ns.map V.int).length : Nat) := fun z => c (decide_eq_true z)
      rw [List.length_map] at c
      have e : cell ns k = 0 := by
        show ns.getD k 0 = 0
        rw [List.getD_eq_getElem?_getD, List.getElem?_eq_none (by omega)]
        rfl
      rw [e] at q
      exact q

/-! ### the network -/
def nuOf (c : Int) : Nu := ⟨1 + c % 4, c / 4 % 3, c / 12 % 3, -(c / 36 % 2), decide (V.int (c / 72 % 5) = V.int 1)⟩
def syOf (inputs many : Nat) (c : Int) : Sy := ⟨c.fmod ((inputs : Int) + many), ((c / 6).fmod many).toNat, c / 18 % 5 - 1, (1 + c / 90 % 2).toNat⟩
def inpOf (ns : List Int) : Nat := (cell ns 0 % 3).toNat
def manyOf (ns : List Int) : Nat := (1 + cell ns 0 / 3 % 3).toNat
def synsN (ns : List Int) : Nat := min 11 ns.length - 4
def smallNet (ns : List Int) : Net := ⟨inpOf ns, (List.range (manyOf ns)).map fun k => nuOf (cell ns (1 + k)), (List.range (synsN ns)).map fun i => syOf (inpOf ns) (manyOf ns) (cell ns (4 + i))⟩
theorem many_pos (ns : List Int) : 1 ≤ manyOf ns ∧ manyOf ns ≤ 3 := by unfold manyOf; omega
theorem inp_le (ns : List Int) : inpOf ns ≤ 2 := by unfold inpOf; omega
theorem fmod_nat (c : Int) {m : Nat} (h : 0 < m) : 0 ≤ c.fmod m ∧ c.fmod m < m := by
  rw [Int.fmod_eq_emod_of_nonneg _ (Int.natCast_nonneg m)]
  exact ⟨Int.emod_nonneg _ (by omega), Int.emod_lt_of_pos _ (by omega)⟩
theorem small_ok (ns : List Int) : (smallNet ns).Ok := by
  have h1 := many_pos ns
  have h2 := inp_le ns
  have en : (smallNet ns).neus.length = manyOf ns := by show ((List.range (manyOf ns)).map _).length = _; rw [List.length_map, List.length_range]
  refine ⟨h2, by rw [en]; exact h1.1, by rw [en]; exact h1.2, ?_, fun s hs => ?_, fun s hs => ?_, fun s hs => ?_, fun u hu => ?_⟩
  · show ((List.range (synsN ns)).map _).length ≤ 7
    rw [List.length_map, List.length_range]
    unfold synsN
    omega
  · obtain ⟨i, _, rfl⟩ := List.mem_map.mp hs
    rw [en]
    show ((cell ns (4 + i) / 6).fmod (manyOf ns)).toNat < manyOf ns
    have := fmod_nat (cell ns (4 + i) / 6) (show 0 < manyOf ns from h1.1)
    omega
  · obtain ⟨i, _, rfl⟩ := List.mem_map.mp hs
    show 1 ≤ (1 + cell ns (4 + i) / 90 % 2).toNat
    omega
  · obtain ⟨i, _, rfl⟩ := List.mem_map.mp hs
    show (1 + cell ns (4 + i) / 90 % 2).toNat ≤ 2
    omega
  · obtain ⟨i, _, rfl⟩ := List.mem_map.mp hu
    show 0 ≤ cell ns (1 + i) / 4 % 3
    omega
theorem scLawSmall : FnScope ["_law_script", "_law_shape", "_law_inputs", "_law_many", "_law_neurons", "_law_k", "_law_cell_here", "_law_synapses"] ["_law_script"] (defScope sLawSmall) := ⟨rfl, rfl, rfl, by decide +kernel, rfl, by decide +kernel, by decide +kernel⟩
def spSmall (K : PySem.W.Frag) : Sp := fun vs H Q _ => ∃ (s : Addr) (ns : List Int), vs = [.ref s] ∧ SqL K H s (ns.map V.int) ∧ ns.length ≤ 63 ∧ ∀ a H', Same H H' → NetAt K H' a (smallNet ns) → Q (.ref a) H'
theorem hasLawSmall {P : Program} {w : World} {K : PySem.W.Frag} {mg : Str → Option Value} {base : Heap} (T : Txt K mg) (hLawCell : Has P w K mg base 1 "_law_cell" ["_law_script", "_law_k"] (spCell K)) (cNeuron : HasK P w K mg base 1 1 "Neuron" (He.ga K "Neuron") ["self", "threshold", "leak", "refractory", "floor", "subtract"] ["leak", "refractory", "floor", "subtract"] (spNeuI K)) (cSynapse : HasC P w K mg base 1 "Synapse" (He.ga K "Synapse") ["self", "source", "target", "weight", "delay", "plastic"] [.bl false] (spSynI K)) (cNetwork : HasC P w K mg base 1 "Network" (He.ga K "Network") ["self", "inputs", "neurons", "synapses", "rule"] [.non] (spNetI K)) : Has P w K mg base 3 "_law_small" ["_law_script"] (spSmall K) := by
  obtain ⟨fd, F⟩ := T.fn__law_small
  refine ⟨_, fd, T.gl__law_small, F.kp, F.bindsN fun _ _ _ _ _ _ us hl => match us, hl with | [_], _ => rfl, fn_ok F scLawSmall (fun vs H Q E h => ?_) (fun cdv A outer s H vs Q E hr h => ?_)⟩
  · obtain ⟨s, ns, rfl, _⟩ := h
    rfl
  · obtain ⟨s', ns, rfl, hs, hl, q⟩ := h
    refine ⟨_, (pss_cons (ps_set (i := 1) scLawSmall.nd rfl (.inl rfl) (pe_callH hLawCell (hr.mono (by decide)) (by rfl) (pa_cons (pv 0) (pa_cons pe_int pa_nil))))
      (pss_cons (ps_set (i := 2) scLawSmall.nd rfl (.inl rfl) (pe_op op_mod (pv 1) pe_int))
      (pss_cons (ps_set (i := 3) scLawSmall.nd rfl (.inl rfl) (pe_op op_add pe_int (pe_op op_mod (pe_op op_fdiv (pv 1) pe_int) pe_int)))
      (pss_cons (ps_set (i := 4) scLawSmall.nd rfl (.inl rfl) (pe_lst pa_nil))
      (pss_cons (ps_for PassesOwn.never rfl (pi_range1 rfl T.fr_range (pa_cons (pv 3) pa_nil)) (pg_name (i := 5) scLawSmall.nd rfl (.inl rfl)) (pss_cons (ps_set (i := 6) scLawSmall.nd rfl (.inl rfl) (pe_callH hLawCell (hr.mono (by decide)) (by rfl) (pa_cons (pv 0) (pa_cons (pe_op op_add pe_int (pv 5)) pa_nil))))
      (pss_one (ps_expr (pe_bm PySem.F.plainAttrs_list PySem.F.slot_list_append PySem.F.type_list_append mt_append (pv 4) (pa_cons (pe_makeKH cNeuron (hr.mono (by decide)) (by rfl) (pa_cons (pe_op op_add pe_int (pe_op op_mod (pv 6) pe_int)) pa_nil) (pk_cons (pe_op op_mod (pe_op op_fdiv (pv 6) pe_int) pe_int) (pk_cons (pe_op op_mod (pe_op op_fdiv (pv 6) pe_int) pe_int) (pk_cons (pe_un un_neg (pe_op op_mod (pe_op op_fdiv (pv 6) pe_int) pe_int)) (pk_cons (pe_cmpR op_eq (pe_op op_mod (pe_op op_fdiv (pv 6) pe_int) pe_int) pe_int (nomark _)) pk_nil))))) pa_nil))))))
      (pss_cons (ps_set (i := 7) scLawSmall.nd rfl (.inl rfl) (pe_lst pa_nil))
      (pss_cons (ps_for PassesOwn.never rfl (pi_range2 rfl T.fr_range (pa_cons pe_int (pa_cons (pe_callB (call_min2 rfl) (by rfl) T.fr_min (by decide +kernel) (pa_cons pe_int (pa_cons (pe_callB call_len_seq (by rfl) T.fr_len PySem.boot_len (pa_cons (pv 0) pa_nil)) pa_nil))) pa_nil))) (pg_name (i := 5) scLawSmall.nd rfl (.inl rfl)) (pss_cons (ps_set (i := 6) scLawSmall.nd rfl (.inl rfl) (pe_callTy call_int1 (by rfl) T.fr_int (by decide +kernel) (pa_cons (pe_ix ix_list (pv 0) (pv 5) (fun _ _ => rfl)) pa_nil)))
      (pss_one (ps_expr (pe_bm PySem.F.plainAttrs_list PySem.F.slot_list_append PySem.F.type_list_append mt_append (pv 7) (pa_cons (pe_makeH cSynapse (hr.mono (by decide)) (by rfl) (pa_cons (pe_op op_modN (pv 6) (pe_op op_add (pv 2) (pv 3))) (pa_cons (pe_op op_modN (pe_op op_fdiv (pv 6) pe_int) (pv 3)) (pa_cons (pe_op op_sub (pe_op op_mod (pe_op op_fdiv (pv 6) pe_int) pe_int) pe_int) (pa_cons (pe_op op_add pe_int (pe_op op_mod (pe_op op_fdiv (pv 6) pe_int) pe_int)) pa_nil))))) pa_nil))))))
      (pss_one (ps_ret (pe_makeH cNetwork (hr.mono (by decide)) (by rfl) (pa_cons (pv 2) (pa_cons (pv 4) (pa_cons (pv 7) pa_nil))))))))))))), ?_⟩
    have hm := many_pos ns
    have hi := inp_le ns
    have ei : cell ns 0 % 3 = (inpOf ns : Int) := by unfold inpOf; omega
    have em : 1 + cell ns 0 / 3 % 3 = (manyOf ns : Int) := by unfold manyOf; omega
    refine ⟨_, rfl, s', ns, 0, rfl, hs, ?_⟩
    refine ⟨_, rfl, _, _, rfl, rfl, p3, ?_⟩
    dsimp only
    rw [ei]
    refine ⟨_, rfl, _, _, rfl, rfl, ⟨by decide, by decide⟩, _, _, rfl, rfl, p3, _, _, rfl, rfl, ?_⟩
    dsimp only
    rw [em]
    refine ⟨Nat.zero_le _, fun ln hln => ?_⟩
    refine ⟨_, rfl, _, rfl, by omega, by omega, ?_⟩
    refine for_range (lo := 0) (n := (manyOf ns : Int).toNat) (fun i σ' H' => ∃ x5 x6 vn, σ' = [some (.ref s'), some (.int (cell ns 0)), some (.int (inpOf ns)), some (.int (manyOf ns)), some (.ref ln), x5, x6, none] ∧ Same H H' ∧ H' ln = some (.lst vn) ∧
      Paired (NeuAt K (hide1 H' ln)) vn ((List.range i).map fun k => nuOf (cell ns (1 + k)))) ⟨none, none, [], rfl, same_new hln, upd_same, .nil⟩ ?_ ?_
    · rintro i σ' H' hi' ⟨x5, x6, vn, rfl, sm, hvn, pd⟩
      have hi' : i < manyOf ns := by omega
      have e0 : (0 : Int) + (i : Int) = (i : Int) := Int.zero_add _
      rw [e0]
      have e1 : (1 : Int) + (i : Int) = ((1 + i : Nat) : Int) := by omega
      refine ⟨_, rfl, _, rfl, _, _, rfl, rfl, s', ns, 1 + i, by show [V.ref s', V.int ((1 : Int) + i)] = _; rw [e1], sm.seq hs, ?_⟩
      have er : (List.range (i + 1)).map (fun k => nuOf (cell ns (1 + k))) = (List.range i).map (fun k => nuOf (cell ns (1 + k))) ++ [nuOf (cell ns (1 + i))] := by rw [List.range_succ, List.map_append]; rfl
      rw [er]
      generalize cell ns (1 + i) = c
      have lvn := Paired.len pd
      rw [List.length_map, List.length_range] at lvn
      refine ⟨_, rfl, .inl ⟨rfl, _, SqL.of hvn⟩, _, rfl, _, _, rfl, rfl, p4, _, _, rfl, rfl, _, rfl, _, _, rfl, rfl, ⟨by decide, by decide⟩, _, _, rfl, rfl, p3, ?_⟩
      refine ⟨_, rfl, _, _, rfl, rfl, ⟨by decide, by decide⟩, _, _, rfl, rfl, p3, _, rfl, _, _, rfl, rfl, ⟨by decide, by decide⟩, _, _, rfl, rfl, p2, _, rfl, ?_⟩
      refine ⟨_, rfl, _, _, rfl, rfl, ⟨by decide, by decide⟩, _, _, rfl, rfl, p5, rfl, rfl, rfl, fun x dx hx hdx nxd => ?_⟩
      have s1 : Same H' (upd (upd H' dx (.own x)) x (.ins (He.ga K "Neuron") dx [])) := fun c o e => by
        rw [upd_ne (ne_of_none e hx), upd_ne (ne_of_none e hdx)]
        exact e
      refine ⟨H', x, dx, nuOf c, rfl, s1, hx, upd_same, fun H2 s2 n2 => ⟨rfl, ?_⟩⟩
      have hvn2 := s2 _ _ hvn
      have nx : x ≠ ln := but_ne hvn hx
      refine ⟨ln, _, _, rfl, rfl, hvn2, small1000 (by omega), _, _, _, rfl, same_mut (sm.trans s2) hln, upd_same, ?_⟩
      rw [hide1_upd]
      exact Paired.snoc (Paired.mapP pd fun _ _ z => z.same (hide1_mono s2)) ⟨x, rfl, n2.hide nx⟩
    · rintro σ' H1 ⟨x5, x6, vn, rfl, sm1, hvn, pd⟩
      have pn : Paired (NeuAt K H1) vn (smallNet ns).neus := by
        rw [Int.toNat_natCast] at pd
        exact Paired.mapP pd fun _ _ z => z.same hide1_same
      refine ⟨Nat.zero_le _, fun ls hls => ?_⟩
      have sm2 := sm1.trans (same_new (o := .lst []) hls)
      have fls := sm1.free hls
      refine ⟨_, rfl, s', _, rfl, .inl (sm2.seq hs), _, _, rfl, _, _, rfl, ⟨by decide, by decide, ?_, ?_⟩, ?_⟩
      · rw [List.length_map]; omega
      · rw [List.length_map]; omega
      · have en : ((if ((ns.map V.int).length : Int) < 11 then ((ns.map V.int).length : Int) else 11) - 4).toNat = synsN ns := by
          rw [List.length_map]
          unfold synsN
          split <;> omega
        rw [en]
        refine for_range (lo := 4) (n := synsN ns) (fun i σ' H' => ∃ x5 x6 vs, σ' = [some (.ref s'), some (.int (cell ns 0)), some (.int (inpOf ns)), some (.int (manyOf ns)), some (.ref ln), x5, x6, some (.ref ls)] ∧ Same H1 H' ∧ H' ls = some (.lst vs) ∧
          Paired (SynAt K (hide1 H' ls)) vs ((List.range i).map fun i => syOf (inpOf ns) (manyOf ns) (cell ns (4 + i)))) ⟨_, _, [], rfl, same_new hls, upd_same, .nil⟩ ?_ ?_
        · rintro i σ' H' hi' ⟨x5, x6, vs, rfl, sm, hvs, pd⟩
          have hi4 : 4 + i < ns.length := by unfold synsN at hi'; omega
          have hi7 : i < 7 := by unfold synsN at hi'; omega
          have e1 : (4 : Int) + (i : Int) = ((4 + i : Nat) : Int) := by omega
          rw [e1]
          refine ⟨_, rfl, _, rfl, s', _, _, _, rfl, rfl, (sm1.trans sm).seq hs, atI_nat (show (ns.map V.int)[4 + i]? = some (.int (cell ns (4 + i))) from int_at hi4), .inl ⟨_, rfl, ?_⟩⟩
          have er : (List.range (i + 1)).map (fun i => syOf (inpOf ns) (manyOf ns) (cell ns (4 + i))) = (List.range i).map (fun i => syOf (inpOf ns) (manyOf ns) (cell ns (4 + i))) ++ [syOf (inpOf ns) (manyOf ns) (cell ns (4 + i))] := by rw [List.range_succ, List.map_append]; rfl
          rw [er]
          generalize cell ns (4 + i) = c
          have lvs := Paired.len pd
          rw [List.length_map, List.length_range] at lvs
          have hf := fmod_nat (c / 6) (show 0 < manyOf ns from hm.1)
          have e2 : (c / 6).fmod (manyOf ns : Int) = (((c / 6).fmod (manyOf ns : Int)).toNat : Int) := by omega
          have e3 : 1 + c / 90 % 2 = ((1 + c / 90 % 2).toNat : Int) := by omega
          refine ⟨_, rfl, .inl ⟨rfl, _, SqL.of hvs⟩, _, rfl, _, rfl, _, rfl, _, _, rfl, rfl, _, _, rfl, rfl, (by show (inpOf ns : Int) + (manyOf ns : Int) ≠ 0; omega), ?_⟩
          refine ⟨_, rfl, _, _, rfl, rfl, ⟨by decide, by decide⟩, _, rfl, _, _, rfl, rfl, (by show (manyOf ns : Int) ≠ 0; omega), ?_⟩
          refine ⟨_, rfl, _, _, rfl, rfl, ⟨by decide, by decide⟩, _, _, rfl, rfl, p5, _, _, rfl, rfl, _, rfl, _, _, rfl, rfl, ⟨by decide, by decide⟩, _, _, rfl, rfl, p2, _, _, rfl, rfl, fun x dx hx hdx nxd => ?_⟩
          have s1 : Same H' (upd (upd H' dx (.own x)) x (.ins (He.ga K "Synapse") dx [])) := fun c o e => by
            rw [upd_ne (ne_of_none e hx), upd_ne (ne_of_none e hdx)]
            exact e
          refine ⟨H', x, dx, syOf (inpOf ns) (manyOf ns) c, ?_, s1, hx, upd_same, fun H2 s2 n2 => ⟨rfl, ?_⟩⟩
          · show [V.ref x, V.int (c.fmod ((inpOf ns : Int) + (manyOf ns : Int))), V.int ((c / 6).fmod (manyOf ns : Int)), V.int (c / 18 % 5 - 1), V.int (1 + c / 90 % 2), V.bl false] = [V.ref x, V.int (c.fmod ((inpOf ns : Int) + (manyOf ns : Int))), V.int ((((c / 6).fmod (manyOf ns : Int)).toNat : Nat) : Int), V.int (c / 18 % 5 - 1), V.int (((1 + c / 90 % 2).toNat : Nat) : Int), V.bl false]
            rw [← e2, ← e3]
          · have hvs2 := s2 _ _ hvs
            have nx : x ≠ ls := but_ne hvs hx
            refine ⟨ls, _, _, rfl, rfl, hvs2, small1000 (by omega), _, _, _, rfl, same_mut (sm.trans s2) hls, upd_same, ?_⟩
            rw [hide1_upd]
            exact Paired.snoc (Paired.mapP pd fun _ _ z => z.same (hide1_mono s2)) ⟨x, rfl, n2.hide nx⟩
        · rintro σ' H3 ⟨x5, x6, vs, rfl, sm, hvs, pd⟩
          have psy : Paired (SynAt K H3) vs (smallNet ns).syns := Paired.mapP pd fun _ _ z => z.same hide1_same
          refine ⟨_, rfl, _, rfl, _, rfl, fun x dx hx hdx nxd => ?_⟩
          have s1 : Same H3 (upd (upd H3 dx (.own x)) x (.ins (He.ga K "Network") dx [])) := fun c o e => by
            rw [upd_ne (ne_of_none e hx), upd_ne (ne_of_none e hdx)]
            exact e
          exact ⟨H3, x, dx, ln, ls, smallNet ns, vn, vs, rfl, s1, hx, upd_same, small_ok ns, sm _ _ hvn, Paired.mapP pn fun _ _ z => z.same sm, hvs, psy, fun H4 s4 n4 => ⟨rfl, q x H4 (sm1.trans (sm.trans s4)) n4⟩⟩

theorem and_val {t u : TT} {σ : List (Option V)} {H : Hp} {Q : Bool → Hp → Prop} {a b : Bool} (h1 : ∀ Q : Bool → Hp → Prop, Q a H → t σ H Q) (h2 : a = true → ∀ Q : Bool → Hp → Prop, Q b H → u σ H Q) (h : Q (a && b) H) : tAnd t u σ H Q := by
  refine h1 _ ?_
  cases a with
  | true => exact iteT (h2 rfl _ h)
  | false => exact iteF h
theorem or_val {t u : TT} {σ : List (Option V)} {H : Hp} {Q : Bool → Hp → Prop} {a b : Bool} (h1 : ∀ Q : Bool → Hp → Prop, Q a H → t σ H Q) (h2 : a = false → ∀ Q : Bool → Hp → Prop, Q b H → u σ H Q) (h : Q (a || b) H) : tOr t u σ H Q := by
  refine h1 _ ?_
  cases a with
  | true => exact iteT h
  | false => exact iteF (h2 rfl _ h)
/-! ### the claim -/
def claimOf (net : Net) (c : Int) : Cl :=
  if c % 3 = 1 ∧ 0 < net.inputs then .answer ((c / 3).fmod net.inputs) ((c / 9).fmod net.neus.length) (1 + c / 27 % 5)
  else if c % 3 = 2 ∧ 1 < net.neus.length then .apart ((c / 3).fmod net.neus.length) (((c / 3).fmod net.neus.length + 1 + (c / 9).fmod ((net.neus.length : Int) - 1)).fmod net.neus.length)
  else .never ((c / 3).fmod net.neus.length)
theorem claim_ok (net : Net) (c : Int) : (claimOf net c).Ok := by
  unfold claimOf
  split
  · show 1 ≤ 1 + c / 27 % 5 ∧ 1 + c / 27 % 5 ≤ 5
    omega
  · split <;> exact trivial
theorem scLawClaim : FnScope ["_law_script", "_law_network", "_law_cell_here", "_law_many", "_law_kind", "_law_first_here"] ["_law_script", "_law_network"] (defScope sLawClaim) := ⟨rfl, rfl, rfl, by decide +kernel, rfl, by decide +kernel, by decide +kernel⟩
def spClaim (K : PySem.W.Frag) : Sp := fun vs H Q _ => ∃ (s a : Addr) (ns : List Int) (net : Net), vs = [.ref s, .ref a] ∧ SqL K H s (ns.map V.int) ∧ NetAt K H a net ∧ ∀ t H', Same H H' → H' t = some (.tup (clV (claimOf net (cell ns 11)))) → Q (.ref t) H'
theorem hasLawClaim {P : Program} {w : World} {K : PySem.W.Frag} {mg : Str → Option Value} {base : Heap} (T : Txt K mg) (hLawCell : Has P w K mg base 1 "_law_cell" ["_law_script", "_law_k"] (spCell K)) : Has P w K mg base 2 "_law_claim" ["_law_script", "_law_network"] (spClaim K) := by
  obtain ⟨fd, F⟩ := T.fn__law_claim
  refine ⟨_, fd, T.gl__law_claim, F.kp, F.bindsN fun _ _ _ _ _ _ us hl => match us, hl with | [_, _], _ => rfl, fn_ok F scLawClaim (fun vs H Q E h => ?_) (fun cdv A outer s H vs Q E hr h => ?_)⟩
  · obtain ⟨s, a, ns, net, rfl, _⟩ := h
    rfl
  · obtain ⟨s', a, ns, net, rfl, hs, hn, q⟩ := h
    refine ⟨_, (pss_cons (ps_set (i := 2) scLawClaim.nd rfl (.inl rfl) (pe_callH hLawCell (hr.mono (by decide)) (by rfl) (pa_cons (pv 0) (pa_cons pe_int pa_nil))))
      (pss_cons (ps_set (i := 3) scLawClaim.nd rfl (.inl rfl) (pe_callB call_len_seq (by rfl) T.fr_len PySem.boot_len (pa_cons (pe_fld (pv 1) rfl) pa_nil)))
      (pss_cons (ps_set (i := 4) scLawClaim.nd rfl (.inl rfl) (pe_op op_mod (pv 2) pe_int))
      (pss_cons (ps_if (PW.pt (pw_and (pt_cmpR op_eq (pv 4) pe_int (nomark _)) (pw_and1 (pt_cmpR op_gt (pe_fld (pv 1) rfl) pe_int (nomark _))))) (pss_one (ps_ret (pe_tup (pa_cons pe_str (pa_cons (pe_op op_modN (pe_op op_fdiv (pv 2) pe_int) (pe_fld (pv 1) rfl)) (pa_cons (pe_op op_modN (pe_op op_fdiv (pv 2) pe_int) (pv 3)) (pa_cons (pe_op op_add pe_int (pe_op op_mod (pe_op op_fdiv (pv 2) pe_int) pe_int)) pa_nil))))))) pss_nil)
      (pss_cons (ps_if (PW.pt (pw_and (pt_cmpR op_eq (pv 4) pe_int (nomark _)) (pw_and1 (pt_cmpR op_gt (pv 3) pe_int (nomark _))))) (pss_cons (ps_set (i := 5) scLawClaim.nd rfl (.inl rfl) (pe_op op_modN (pe_op op_fdiv (pv 2) pe_int) (pv 3)))
      (pss_one (ps_ret (pe_tup (pa_cons pe_str (pa_cons (pv 5) (pa_cons (pe_op op_modN (pe_op op_add (pe_op op_add (pv 5) pe_int) (pe_op op_modN (pe_op op_fdiv (pv 2) pe_int) (pe_op op_sub (pv 3) pe_int))) (pv 3)) pa_nil))))))) pss_nil)
      (pss_one (ps_ret (pe_tup (pa_cons pe_str (pa_cons (pe_op op_modN (pe_op op_fdiv (pv 2) pe_int) (pv 3)) pa_nil)))))))))), ?_⟩
    have net_ok := hn.ok
    have hlo := net_ok.lo
    obtain ⟨dx, fs, l1, l2, vn, vs, h0, h1, h2, h3, h4, h5, h6, _⟩ := hn.ex
    have lvn := Paired.len h6
    refine ⟨_, rfl, s', ns, 11, rfl, hs, ?_⟩
    generalize cell ns 11 = c at q ⊢
    refine ⟨_, rfl, a, _, dx, fs, _, rfl, h0, T.cl_Network, T.na_Network_neurons, h2, l1, vn, rfl, .inl (SqL.of h5), ?_⟩
    rw [lvn]
    refine ⟨_, rfl, _, _, rfl, rfl, p3, ?_⟩
    have hm0 : ((net.neus.length : Nat) : Int) ≠ 0 := by omega
    dsimp only [gName, tSeq, tIfS, tNext]
    refine and_val (a := decide (V.int (c % 3) = V.int 1)) (b := decide ((0 : Int) < (net.inputs : Int))) (fun Q q => ⟨_, rfl, rfl, _, rfl, q⟩) (fun _ Q q => ⟨_, rfl, a, _, dx, fs, _, rfl, h0, T.cl_Network, T.na_Network_inputs, h1, _, _, rfl, rfl, _, rfl, q⟩) ?_
    refine ite2 (fun c1 => ?_) (fun c1 => ?_)
    · have k : c % 3 = 1 ∧ 0 < net.inputs := by
        rw [Bool.and_eq_true] at c1
        have z1 : c % 3 = 1 := V.int.inj (of_decide_eq_true c1.1)
        have z2 : (0 : Int) < (net.inputs : Int) := of_decide_eq_true c1.2
        exact ⟨z1, by omega⟩
      have e : claimOf net c = .answer ((c / 3).fmod net.inputs) ((c / 9).fmod net.neus.length) (1 + c / 27 % 5) := by
        unfold claimOf
        rw [if_pos k]
      refine ⟨_, rfl, _, _, rfl, rfl, ⟨by decide, by decide⟩, _, rfl, a, _, dx, fs, _, rfl, h0, T.cl_Network, T.na_Network_inputs, h1, _, _, rfl, rfl, (by show (net.inputs : Int) ≠ 0; omega), ?_⟩
      refine ⟨_, rfl, _, _, rfl, rfl, ⟨by decide, by decide⟩, _, rfl, _, _, rfl, rfl, hm0, _, rfl, _, _, rfl, rfl, ⟨by decide, by decide⟩, _, _, rfl, rfl, p5, _, _, rfl, rfl, (by show 4 ≤ sizeLine; decide), fun t ht => q t _ (same_new ht) ?_⟩
      rw [upd_same, e]
      rfl
    · have k : ¬ (c % 3 = 1 ∧ 0 < net.inputs) := fun z => c1 (by
        rw [Bool.and_eq_true]
        exact ⟨decide_eq_true (by rw [z.1]), decide_eq_true (by omega)⟩)
      refine and_val (a := decide (V.int (c % 3) = V.int 2)) (b := decide ((1 : Int) < ((net.neus.length : Nat) : Int))) (fun Q q => ⟨_, rfl, rfl, _, rfl, q⟩) (fun _ Q q => ⟨_, rfl, _, _, rfl, rfl, _, rfl, q⟩) ?_
      refine ite2 (fun c2 => ?_) (fun c2 => ?_)
      · have k2 : c % 3 = 2 ∧ 1 < net.neus.length := by
          rw [Bool.and_eq_true] at c2
          have z1 : c % 3 = 2 := V.int.inj (of_decide_eq_true c2.1)
          have z2 : (1 : Int) < ((net.neus.length : Nat) : Int) := of_decide_eq_true c2.2
          exact ⟨z1, by omega⟩
        have e : claimOf net c = .apart ((c / 3).fmod net.neus.length) (((c / 3).fmod net.neus.length + 1 + (c / 9).fmod ((net.neus.length : Int) - 1)).fmod net.neus.length) := by
          unfold claimOf
          rw [if_neg k, if_pos k2]
        refine ⟨_, rfl, _, _, rfl, rfl, ⟨by decide, by decide⟩, _, rfl, _, _, rfl, rfl, hm0, ?_⟩
        refine ⟨_, rfl, _, rfl, _, _, rfl, rfl, _, rfl, _, _, rfl, rfl, ⟨by decide, by decide⟩, _, rfl, _, _, rfl, rfl, _, _, rfl, rfl, (by show ((net.neus.length : Nat) : Int) - 1 ≠ 0; omega), _, _, rfl, rfl, _, rfl, _, _, rfl, rfl, hm0, three, fun t ht => q t _ (same_new ht) ?_⟩
        rw [upd_same, e]
        rfl
      · have k2 : ¬ (c % 3 = 2 ∧ 1 < net.neus.length) := fun z => c2 (by
          rw [Bool.and_eq_true]
          exact ⟨decide_eq_true (by rw [z.1]), decide_eq_true (by omega)⟩)
        have e : claimOf net c = .never ((c / 3).fmod net.neus.length) := by
          unfold claimOf
          rw [if_neg k, if_neg k2]
        refine ⟨_, rfl, _, _, rfl, rfl, ⟨by decide, by decide⟩, _, rfl, _, _, rfl, rfl, hm0, two, fun t ht => q t _ (same_new ht) ?_⟩
        rw [upd_same, e]
        rfl
end SK

/-! Spikehold: the law's own reading of runs. -/
namespace SK
open PySem PySem.Spec PyProof.Rows L2
theorem ls_get {H : Hp} {vs : List V} {X : List (List Int)} {i : Nat} (h : LsAt H vs X) (hi : i < X.length) : ∃ b, vs[i]? = some (.ref b) ∧ H b = some (.lst ((X.getD i []).map V.int)) := by
  obtain ⟨v, hv, b, rfl, hb⟩ := Paired.getR h (getElem?_getD ([] : List Int) hi)
  exact ⟨b, hv, hb⟩
/-! ### _law_breaks -/
theorem scLawBreaks : FnScope ["_law_claim_here", "_law_stimuli", "_law_spikes", "_law_t", "_law_start", "_law_k"] ["_law_claim_here", "_law_stimuli", "_law_spikes", "_law_t"] (defScope sLawBreaks) := ⟨rfl, rfl, rfl, by decide +kernel, rfl, by decide +kernel, by decide +kernel⟩
def spLBreaks : Sp := fun vs H Q _ => ∃ (c b s : Addr) (cl : Cl) (X F : List (List Int)) (t : Nat), vs = [.ref c, .ref b, .ref s, .int t] ∧ H c = some (.tup (clV cl)) ∧ cl.Ok ∧ StimsAt H b X ∧ StimsAt H s F ∧ t < X.length ∧ F.length = X.length ∧ X.length ≤ 1000 ∧ Q (.bl (lawBreaks cl X F t)) H
theorem hasLawBreaks {P : Program} {w : World} {K : PySem.W.Frag} {mg : Str → Option Value} {base : Heap} (T : Txt K mg) : Has P w K mg base 1 "_law_breaks" ["_law_claim_here", "_law_stimuli", "_law_spikes", "_law_t"] spLBreaks := by
  obtain ⟨fd, F⟩ := T.fn__law_breaks
  refine ⟨_, fd, T.gl__law_breaks, F.kp, F.bindsN fun _ _ _ _ _ _ us hl => match us, hl with | [_, _, _, _], _ => rfl, fn_ok F scLawBreaks (fun vs H Q E h => ?_) (fun cdv A outer s H vs Q E hr h => ?_)⟩
  · obtain ⟨c, b, s, cl, X, F, t, rfl, _⟩ := h
    rfl
  · obtain ⟨c, b, s', cl, X, F, t, rfl, hc, ok, ⟨vx, hb, lx⟩, ⟨vf, hs, lf⟩, ht, hF, hX, q⟩ := h
    refine ⟨_, (pss_cons (ps_if (pt_cmpR op_eq (pe_ix ix_tup (pv 0) pe_int (fun _ _ => rfl)) pe_str (nomark _)) (pss_one (ps_ret (pe_cmpR op_in_seq (pe_ix ix_tup (pv 0) pe_int (fun _ _ => rfl)) (pe_ix ix_list (pv 2) (pv 3) (fun _ _ => rfl)) (by rfl)))) pss_nil)
      (pss_cons (ps_if (pt_cmpR op_eq (pe_ix ix_tup (pv 0) pe_int (fun _ _ => rfl)) pe_str (nomark _)) (pss_one (ps_ret (pe_and (pe_cmpR op_in_seq (pe_ix ix_tup (pv 0) pe_int (fun _ _ => rfl)) (pe_ix ix_list (pv 2) (pv 3) (fun _ _ => rfl)) (by rfl)) (pe_one (pe_cmpR op_in_seq (pe_ix ix_tup (pv 0) pe_int (fun _ _ => rfl)) (pe_ix ix_list (pv 2) (pv 3) (fun _ _ => rfl)) (by rfl)))))) pss_nil)
      (pss_cons (ps_set (i := 4) scLawBreaks.nd rfl (.inl rfl) (pe_op op_sub (pv 3) (pe_ix ix_tup (pv 0) pe_int (fun _ _ => rfl))))
      (pss_cons (ps_if (PW.pt (pw_or (pt_cmpR op_lt (pv 4) pe_int (nomark _)) (pw_or1 (pt_cmpR op_notIn_seq (pe_ix ix_tup (pv 0) pe_int (fun _ _ => rfl)) (pe_ix ix_list (pv 1) (pv 4) (fun _ _ => rfl)) (by rfl))))) (pss_one (ps_ret pe_bl)) pss_nil)
      (pss_cons (ps_for PassesOwn.never rfl (pi_range2 rfl T.fr_range (pa_cons (pe_op op_add (pv 4) pe_int) (pa_cons (pe_op op_add (pv 3) pe_int) pa_nil))) (pg_name (i := 5) scLawBreaks.nd rfl (.inl rfl)) (pss_one (ps_if (pt_cmpR op_in_seq (pe_ix ix_tup (pv 0) pe_int (fun _ _ => rfl)) (pe_ix ix_list (pv 2) (pv 5) (fun _ _ => rfl)) (by rfl)) (pss_one (ps_ret pe_bl)) pss_nil)))
      (pss_one (ps_ret pe_bl))))))), ?_⟩
    have hc0 := SqT.of (K := K) hc
    have lvx := Paired.len lx
    have lvf := Paired.len lf
    obtain ⟨fb, hfb, hfr⟩ := ls_get lf (i := t) (by omega)
    cases cl with
    | never n =>
      refine ⟨_, rfl, c, _, _, _, rfl, rfl, hc0, at0 rfl, rfl, _, rfl, ite2 (fun _ => ?_) (fun z => absurd (by decide +kernel) z)⟩
      refine ⟨_, rfl, c, _, _, _, rfl, rfl, hc0, at1 rfl, _, rfl, _, rfl, s', vf, _, _, rfl, rfl, SqL.of hs, atI_nat hfb, fb, _, rfl, .inl (SqL.of hfr), rfl, flat_ints _, ?_⟩
      show Q (.bl (inV (.int n) ((F.getD t []).map V.int))) H
      rw [inV_int]
      exact q
    | apart n m =>
      refine ⟨_, rfl, c, _, _, _, rfl, rfl, hc0, at0 rfl, rfl, _, rfl, ite2 (fun z => absurd z (by decide +kernel)) (fun _ => ?_)⟩
      refine ⟨_, rfl, c, _, _, _, rfl, rfl, hc0, at0 rfl, rfl, _, rfl, ite2 (fun _ => ?_) (fun z => absurd (by decide +kernel) z)⟩
      refine ⟨_, rfl, c, _, _, _, rfl, rfl, hc0, at1 rfl, _, rfl, _, rfl, s', vf, _, _, rfl, rfl, SqL.of hs, atI_nat hfb, fb, _, rfl, .inl (SqL.of hfr), rfl, flat_ints _, decide (n ∈ F.getD t []), by rw [← inV_int]; rfl, ?_⟩
      have q : Q (.bl (decide (n ∈ F.getD t []) && decide (m ∈ F.getD t []))) H := q
      cases hd : decide (n ∈ F.getD t []) with
      | false =>
        rw [hd] at q
        exact iteF q
      | true =>
        rw [hd] at q
        refine iteT ⟨_, rfl, c, _, _, _, rfl, rfl, hc0, at2 rfl, _, rfl, _, rfl, s', vf, _, _, rfl, rfl, SqL.of hs, atI_nat hfb, fb, _, rfl, .inl (SqL.of hfr), rfl, flat_ints _, ?_⟩
        show Q (.bl (inV (.int m) ((F.getD t []).map V.int))) H
        rw [inV_int]
        exact q
    | answer i n d =>
      obtain ⟨hd1, hd5⟩ := ok
      refine ⟨_, rfl, c, _, _, _, rfl, rfl, hc0, at0 rfl, rfl, _, rfl, ite2 (fun z => absurd z (by decide +kernel)) (fun _ => ?_)⟩
      refine ⟨_, rfl, c, _, _, _, rfl, rfl, hc0, at0 rfl, rfl, _, rfl, ite2 (fun z => absurd z (by decide +kernel)) (fun _ => ?_)⟩
      refine ⟨_, rfl, _, rfl, c, _, _, _, rfl, rfl, hc0, at3 rfl, _, _, rfl, rfl, ?_⟩
      dsimp only [gName]
      have q : Q (.bl (decide (0 ≤ (t : Int) - d ∧ i ∈ X.getD ((t : Int) - d).toNat [] ∧ quiet n F (((t : Int) - d).toNat + 1) (t + 1)))) H := q
      refine ⟨_, rfl, _, _, rfl, rfl, _, rfl, ite2 (fun c1 => ?_) (fun c1 => ?_)⟩
      · have c1 : (t : Int) - d < 0 := of_decide_eq_true c1
        rw [decide_eq_false (fun z => by omega)] at q
        exact iteT q
      · have c1 : ¬ (t : Int) - d < 0 := fun z => c1 (decide_eq_true z)
        have es : (t : Int) - d = ((((t : Int) - d).toNat : Nat) : Int) := by omega
        have hst : ((t : Int) - d).toNat < X.length := by omega
        have hst2 : ((t : Int) - d).toNat < t := by omega
        obtain ⟨xb, hxb, hxr⟩ := ls_get lx hst
        generalize ((t : Int) - d).toNat = st at es hst hst2 hxb hxr q
        rw [es]
        refine ⟨_, rfl, c, _, _, _, rfl, rfl, hc0, at1 rfl, _, rfl, _, rfl, b, vx, _, _, rfl, rfl, SqL.of hb, atI_nat hxb, xb, _, rfl, .inl (SqL.of hxr), rfl, flat_ints _, _, rfl, ?_⟩
        dsimp only
        rw [inV_int]
        refine ite2 (fun c2 => ?_) (fun c2 => ?_)
        · have c2 : ¬ i ∈ X.getD st [] := of_decide_eq_false (by simpa using c2)
          rw [decide_eq_false (fun z => c2 z.2.1)] at q
          exact q
        · have c2 : i ∈ X.getD st [] := by
            by_cases z : i ∈ X.getD st []
            · exact z
            · exact absurd (by rw [decide_eq_false z]; rfl) c2
          refine ⟨_, rfl, _, _, rfl, rfl, _, rfl, _, _, rfl, rfl, _, _, rfl, ⟨by omega, by omega, by omega, by omega⟩, ?_⟩
          have en : ((t : Int) + 1 - ((st : Int) + 1)).toNat = t - st := by omega
          rw [en]
          refine for_range (lo := (st : Int) + 1) (n := t - st) (fun k σ' H' => ∃ x5, σ' = [some (.ref c), some (.ref b), some (.ref s'), some (.int t), some (.int st), x5] ∧ H' = H ∧ quiet n F (st + 1) (st + 1 + k)) ⟨none, rfl, rfl, fun u h1 h2 => by omega⟩ ?_ ?_
          · rintro k σ' H' hk ⟨x5, rfl, rfl, hq⟩
            have ek : (st : Int) + 1 + (k : Int) = ((st + 1 + k : Nat) : Int) := by omega
            rw [ek]
            obtain ⟨gb, hgb, hgr⟩ := ls_get lf (i := st + 1 + k) (by omega)
            refine ⟨_, rfl, c, _, _, _, rfl, rfl, hc0, at2 rfl, _, rfl, _, rfl, s', vf, _, _, rfl, rfl, SqL.of hs, atI_nat hgb, gb, _, rfl, .inl (SqL.of hgr), rfl, flat_ints _, _, rfl, ?_⟩
            dsimp only
            rw [inV_int]
            refine ite2 (fun c3 => ?_) (fun c3 => ?_)
            · have c3 : n ∈ F.getD (st + 1 + k) [] := of_decide_eq_true c3
              rw [decide_eq_false (fun z => z.2.2 (st + 1 + k) (by omega) (by omega) c3)] at q
              exact q
            · have c3 : ¬ n ∈ F.getD (st + 1 + k) [] := fun z => c3 (decide_eq_true z)
              refine ⟨_, rfl, rfl, fun u h1 h2 => ?_⟩
              by_cases e : u = st + 1 + k
              · rw [e]; exact c3
              · exact hq u h1 (by omega)
          · rintro σ' H' ⟨x5, rfl, rfl, hq⟩
            have e2 : st + 1 + (t - st) = t + 1 := by omega
            rw [e2] at hq
            rw [decide_eq_true ⟨by omega, c2, hq⟩] at q
            exact q

/-! ### _law_first -/
def optV : Option Nat → V
  | none => .non
  | some t => .int (t : Int)
theorem scLawFirst : FnScope ["_law_network", "_law_claim_here", "_law_stimuli", "_law_spikes", "_law_t"] ["_law_network", "_law_claim_here", "_law_stimuli"] (defScope sLawFirst) := ⟨rfl, rfl, rfl, by decide +kernel, rfl, by decide +kernel, by decide +kernel⟩
def spLFirst (K : PySem.W.Frag) : Sp := fun vs H Q _ => ∃ (a c b : Addr) (net : Net) (cl : Cl) (X : List (List Int)), vs = [.ref a, .ref c, .ref b] ∧ NetAt K H a net ∧ H c = some (.tup (clV cl)) ∧ cl.Ok ∧ StimsAt H b X ∧ X.length ≤ 500 ∧ (∀ x ∈ X, x.length ≤ 100) ∧
  ∀ H', Same H H' → Q (optV (wFirst net cl (p0 net) X)) H'
theorem hasLawFirst {P : Program} {w : World} {K : PySem.W.Frag} {mg : Str → Option Value} {base : Heap} (T : Txt K mg) (hRun : Has P w K mg base 4 "run" ["network", "stimuli"] (spRun K)) (hLawBreaks : Has P w K mg base 1 "_law_breaks" ["_law_claim_here", "_law_stimuli", "_law_spikes", "_law_t"] spLBreaks) : Has P w K mg base 5 "_law_first" ["_law_network", "_law_claim_here", "_law_stimuli"] (spLFirst K) := by
  obtain ⟨fd, F⟩ := T.fn__law_first
  refine ⟨_, fd, T.gl__law_first, F.kp, F.bindsN fun _ _ _ _ _ _ us hl => match us, hl with | [_, _, _], _ => rfl, fn_ok F scLawFirst (fun vs H Q E h => ?_) (fun cdv A outer s H vs Q E hr h => ?_)⟩
  · obtain ⟨a, c, b, net, cl, X, rfl, _⟩ := h
    rfl
  · obtain ⟨a, c, b, net, cl, X, rfl, hn, hc, ok, hb, hX, hx, q⟩ := h
    refine ⟨_, (pss_cons (ps_set (i := 3) scLawFirst.nd rfl (.inl rfl) (pe_fld (pe_callH hRun (hr.mono (by decide)) (by rfl) (pa_cons (pv 0) (pa_cons (pv 2) pa_nil))) rfl))
      (pss_cons (ps_for PassesOwn.never rfl (pi_range1 rfl T.fr_range (pa_cons (pe_callB call_len_seq (by rfl) T.fr_len PySem.boot_len (pa_cons (pv 2) pa_nil)) pa_nil)) (pg_name (i := 4) scLawFirst.nd rfl (.inl rfl)) (pss_one (ps_if (pt_val (pe_callH hLawBreaks (hr.mono (by decide)) (by rfl) (pa_cons (pv 1) (pa_cons (pv 2) (pa_cons (pv 3) (pa_cons (pv 4) pa_nil)))))) (pss_one (ps_ret (pv 4))) pss_nil)))
      (pss_one (ps_ret pe_non)))), ?_⟩
    have ef := law_first hn.ok ok X
    rw [← ef] at q
    have lF : (runM net X).length = X.length := by rw [runM_fires hn.ok, fires_length]
    refine ⟨_, rfl, _, rfl, a, b, net, X, rfl, hn, hb, hX, hx, fun x H1 s1 hr => ?_⟩
    obtain ⟨dx, fs, l, h0, h1, h2⟩ := hr
    generalize runM net X = F at q h2 lF
    refine ⟨x, _, dx, fs, _, rfl, h0, T.cl_Run, T.na_Run_spikes, h1, ?_⟩
    have hb1 := hb.same s1
    have hc1 := s1 _ _ hc
    obtain ⟨vx, hbx, lx⟩ := id hb1
    have lvx := Paired.len lx
    refine ⟨_, rfl, b, vx, rfl, .inl (SqL.of hbx), _, rfl, by omega, by omega, ?_⟩
    refine for_range (lo := 0) (n := (vx.length : Int).toNat) (fun t σ' H' => ∃ x4, σ' = [some (.ref a), some (.ref c), some (.ref b), some (.ref l), x4] ∧ H' = H1 ∧ ∀ u, u < t → lawBreaks cl X F u = false) ⟨none, rfl, rfl, fun u h => absurd h (Nat.not_lt_zero _)⟩ ?_ ?_
    · rintro t σ' H' ht ⟨x4, rfl, rfl, hno⟩
      have ht : t < X.length := by omega
      have e0 : (0 : Int) + (t : Int) = (t : Int) := Int.zero_add _
      rw [e0]
      refine ⟨_, rfl, _, rfl, _, rfl, _, rfl, c, b, l, cl, X, F, t, rfl, hc1, ok, hb1, h2, ht, lF, by omega, _, rfl, ite2 (fun c1 => ?_) (fun c1 => ?_)⟩
      · have e : lawFirst cl X F = some t := by
          unfold lawFirst
          refine List.find?_eq_some_iff_getElem.mpr ⟨c1, t, by rw [List.length_range]; exact ht, by rw [List.getElem_range], fun j hj => ?_⟩
          rw [List.getElem_range, hno j hj]
          rfl
        rw [e] at q
        exact ⟨_, rfl, q _ s1⟩
      · refine ⟨_, rfl, rfl, fun u hu => ?_⟩
        rcases Nat.lt_succ_iff_lt_or_eq.mp hu with h | h
        · exact hno u h
        · rw [h]; simpa using c1
    · rintro σ' H' ⟨x4, rfl, rfl, hno⟩
      rw [Int.toNat_natCast, lvx] at hno
      have e : lawFirst cl X F = none := by
        unfold lawFirst
        refine List.find?_eq_none.mpr fun u hu => ?_
        rw [hno u (List.mem_range.mp hu)]
        decide
      rw [e] at q
      exact q _ s1

/-! ### _law_numbered -/
def numsN (M : Nat) : Int → Nat → List Nat
  | _, 0 => []
  | n, t + 1 => (n.fmod M).toNat :: numsN M (n.fdiv M) t
theorem numsN_len (M : Nat) : ∀ (t : Nat) (n : Int), (numsN M n t).length = t
  | 0, _ => rfl
  | t + 1, n => congrArg Nat.succ (numsN_len M t _)
theorem numsN_lt {M : Nat} (h : 0 < M) : ∀ (t : Nat) (n : Int), ∀ k ∈ numsN M n t, k < M
  | 0, _, k, hk => by cases hk
  | t + 1, n, k, hk => by
    rcases List.mem_cons.mp hk with e | hk
    · rw [e]
      have := fmod_nat n h
      omega
    · exact numsN_lt h t _ k hk
theorem scLawNumbered : FnScope ["_law_network", "_law_number", "_law_ticks", "_law_stimuli", "_law_t"] ["_law_network", "_law_number", "_law_ticks"] (defScope sLawNumbered) := ⟨rfl, rfl, rfl, by decide +kernel, rfl, by decide +kernel, by decide +kernel⟩
def spLNum (K : PySem.W.Frag) : Sp := fun vs H Q _ => ∃ (a : Addr) (net : Net) (n : Int) (t : Nat), vs = [.ref a, .int n, .int t] ∧ NetAt K H a net ∧ t ≤ 100 ∧ ∀ p H', Same H H' → StimsAt H' p ((numsN (stM net) n t).map (stimN net)) → Q (.ref p) H'
theorem hasLawNumbered {P : Program} {w : World} {K : PySem.W.Frag} {mg : Str → Option Value} {base : Heap} (T : Txt K mg) (hStimulusOf : Has P w K mg base 1 "stimulus_of" ["network", "number"] (spStim K)) : Has P w K mg base 2 "_law_numbered" ["_law_network", "_law_number", "_law_ticks"] (spLNum K) := by
  obtain ⟨fd, F⟩ := T.fn__law_numbered
  refine ⟨_, fd, T.gl__law_numbered, F.kp, F.bindsN fun _ _ _ _ _ _ us hl => match us, hl with | [_, _, _], _ => rfl, fn_ok F scLawNumbered (fun vs H Q E h => ?_) (fun cdv A outer s H vs Q E hr h => ?_)⟩
  · obtain ⟨a, net, n, t, rfl, _⟩ := h
    rfl
  · obtain ⟨a, net, n, t, rfl, hn, ht, q⟩ := h
    refine ⟨_, (pss_cons (ps_set (i := 3) scLawNumbered.nd rfl (.inl rfl) (pe_lst pa_nil))
      (pss_cons (ps_for PassesOwn.never rfl (pi_range1 rfl T.fr_range (pa_cons (pv 2) pa_nil)) (pg_name (i := 4) scLawNumbered.nd rfl (.inl rfl)) (pss_cons (ps_expr (pe_bm PySem.F.plainAttrs_list PySem.F.slot_list_append PySem.F.type_list_append mt_append (pv 3) (pa_cons (pe_callH hStimulusOf (hr.mono (by decide)) (by rfl) (pa_cons (pv 0) (pa_cons (pe_op op_modN (pv 1) (pe_op op_shl pe_int (pe_fld (pv 0) rfl))) pa_nil))) pa_nil)))
      (pss_one (ps_set (i := 1) scLawNumbered.nd rfl (.inl rfl) (pe_op op_fdivN (pv 1) (pe_op op_shl pe_int (pe_fld (pv 0) rfl)))))))
      (pss_one (ps_ret (pv 3))))), ?_⟩
    have net_ok := hn.ok
    have hM := stM_le net_ok
    have hMp := stM_pos net
    obtain ⟨dx, fs, l1, l2, vn, vs, h0, h1, _⟩ := hn.ex
    have hin := net_ok.inp
    refine ⟨Nat.zero_le _, fun p hp => ?_⟩
    refine ⟨_, rfl, _, rfl, by omega, by omega, ?_⟩
    refine for_range (lo := 0) (n := (t : Int).toNat) (fun i σ' H' => ∃ x4 n' as done, σ' = [some (.ref a), some (.int n'), some (.int t), some (.ref p), x4] ∧ Same H H' ∧ Tb H' p as (done.map (stimN net)) ∧ done.length = i ∧ numsN (stM net) n t = done ++ numsN (stM net) n' (t - i)) ⟨none, n, [], [], rfl, same_new hp, Tb.empty upd_same, rfl, rfl⟩ ?_ ?_
    · rintro i σ' H' hi ⟨x4, n', as, done, rfl, sm, tb, ld, en⟩
      have hi : i < t := by omega
      have hf := fmod_nat n' hMp
      have em : n'.fmod ((stM net : Nat) : Int) = ((n'.fmod ((stM net : Nat) : Int)).toNat : Int) := by omega
      refine ⟨_, rfl, .inl ⟨rfl, _, SqL.of tb.top⟩, _, rfl, _, rfl, _, rfl, a, _, dx, fs, _, rfl, sm _ _ h0, T.cl_Network, T.na_Network_inputs, h1, _, _, rfl, rfl, shl_ok (by omega), _, _, rfl, rfl, ?_, ?_⟩
      · show (1 : Int) * 2 ^ (net.inputs : Int).toNat ≠ 0
        rw [pow_cast]
        show ((stM net : Nat) : Int) ≠ 0
        omega
      rw [pow_cast]
      refine ⟨a, net, n'.fmod ((stM net : Nat) : Int), rfl, hn.same sm, fun sp H2 s2 fsp hsp => ?_⟩
      rw [em] at hsp
      have tb2 := tb.same s2
      refine ⟨p, _, _, rfl, rfl, tb2.top, small1000 (by rw [List.length_map, tb.len, List.length_map]; omega), ?_⟩
      have tb3 := tb2.snoc (tb.new_out fsp) (fun z => by rw [z, tb.top] at fsp; cases fsp) hsp
      have sm3 := same_mut (o := .lst (as.map V.ref ++ [.ref sp])) (sm.trans s2) hp
      refine ⟨_, rfl, _, rfl, a, _, dx, fs, _, rfl, sm3 _ _ h0, T.cl_Network, T.na_Network_inputs, h1, _, _, rfl, rfl, shl_ok (by omega), _, _, rfl, rfl, ?_, ?_⟩
      · show (1 : Int) * 2 ^ (net.inputs : Int).toNat ≠ 0 ∧ ((1 : Int) * 2 ^ (net.inputs : Int).toNat).natAbs < 1073741824
        rw [pow_cast]
        show ((stM net : Nat) : Int) ≠ 0 ∧ ((stM net : Nat) : Int).natAbs < 1073741824
        omega
      rw [pow_cast]
      refine ⟨_, n'.fdiv ((stM net : Nat) : Int), as ++ [sp], done ++ [(n'.fmod ((stM net : Nat) : Int)).toNat], rfl, sm3, ?_, by rw [List.length_append, ld]; rfl, ?_⟩
      · rw [List.map_append]
        exact tb3
      · have e3 : t - i = (t - (i + 1)) + 1 := by omega
        rw [en, e3, List.append_assoc]
        rfl
    · rintro σ' H' ⟨x4, n', as, done, rfl, sm, tb, ld, en⟩
      rw [Int.toNat_natCast, Nat.sub_self] at en
      have en : numsN (stM net) n t = done := en.trans (List.append_nil _)
      refine ⟨_, rfl, q p H' sm ?_⟩
      rw [en]
      exact ⟨_, tb.top, Tb.ls (D := p) tb.len tb.row⟩

/-! ### _law_broken -/
theorem scLawBroken : FnScope ["_law_network", "_law_claim_here", "_law_stimuli", "_law_ticks", "_law_number"] ["_law_network", "_law_claim_here", "_law_stimuli"] (defScope sLawBroken) := ⟨rfl, rfl, rfl, by decide +kernel, rfl, by decide +kernel, by decide +kernel⟩
def spLBroken (K : PySem.W.Frag) : Sp := fun vs H Q _ => ∃ (a c b : Addr) (net : Net) (cl : Cl) (most : Nat) (ks : List Nat), vs = [.ref a, .ref c, .ref b] ∧ NetAt K H a net ∧ H c = some (.tup (clV cl)) ∧ cl.Ok ∧ StimsAt H b (ks.map (stimN net)) ∧
  AnsOk net cl (stimN net) (stM net) most (.breaks ks) ∧ ks.length ≤ 201 ∧ ∀ H', Same H H' → Q (.bl true) H'
theorem stims_short {net : Net} (h : net.Ok) (ks : List Nat) : ∀ x ∈ ks.map (stimN net), x.length ≤ 100 := fun x hx => by
  obtain ⟨k, _, rfl⟩ := List.mem_map.mp hx
  exact Nat.le_trans (stim_length _ _) (by have := h.inp; omega)
theorem hasLawBroken {P : Program} {w : World} {K : PySem.W.Frag} {mg : Str → Option Value} {base : Heap} (T : Txt K mg) (hLawFirst : Has P w K mg base 5 "_law_first" ["_law_network", "_law_claim_here", "_law_stimuli"] (spLFirst K)) (hLawNumbered : Has P w K mg base 2 "_law_numbered" ["_law_network", "_law_number", "_law_ticks"] (spLNum K)) : Has P w K mg base 6 "_law_broken" ["_law_network", "_law_claim_here", "_law_stimuli"] (spLBroken K) := by
  obtain ⟨fd, F⟩ := T.fn__law_broken
  refine ⟨_, fd, T.gl__law_broken, F.kp, F.bindsN fun _ _ _ _ _ _ us hl => match us, hl with | [_, _, _], _ => rfl, fn_ok F scLawBroken (fun vs H Q E h => ?_) (fun cdv A outer s H vs Q E hr h => ?_)⟩
  · obtain ⟨a, c, b, net, cl, most, ks, rfl, _⟩ := h
    rfl
  · obtain ⟨a, c, b, net, cl, most, ks, rfl, hn, hc, ok, hb, hans, hk, q⟩ := h
    refine ⟨_, (pss_cons (ps_if (pt_cmpR op_ne (pe_callH hLawFirst (hr.mono (by decide)) (by rfl) (pa_cons (pv 0) (pa_cons (pv 1) (pa_cons (pv 2) pa_nil)))) (pe_op op_sub (pe_callB call_len_seq (by rfl) T.fr_len PySem.boot_len (pa_cons (pv 2) pa_nil)) pe_int) (nomark _)) (pss_one (ps_ret pe_bl)) pss_nil)
      (pss_cons (ps_for PassesOwn.never rfl (pi_range2 rfl T.fr_range (pa_cons pe_int (pa_cons (pe_callB (call_min2 rfl) (by rfl) T.fr_min (by decide +kernel) (pa_cons pe_int (pa_cons (pe_callB call_len_seq (by rfl) T.fr_len PySem.boot_len (pa_cons (pv 2) pa_nil)) pa_nil))) pa_nil))) (pg_name (i := 3) scLawBroken.nd rfl (.inl rfl)) (pss_one (ps_for PassesOwn.never rfl (pi_range1 rfl T.fr_range (pa_cons (pe_op op_shl pe_int (pe_op op_mul (pe_fld (pv 0) rfl) (pv 3))) pa_nil)) (pg_name (i := 4) scLawBroken.nd rfl (.inl rfl)) (pss_one (ps_if (pt_cmp (pc_notN (pe_callH hLawFirst (hr.mono (by decide)) (by rfl) (pa_cons (pv 0) (pa_cons (pv 1) (pa_cons (pe_callH hLawNumbered (hr.mono (by decide)) (by rfl) (pa_cons (pv 0) (pa_cons (pv 4) (pa_cons (pv 3) pa_nil)))) pa_nil)))))) (pss_one (ps_ret pe_bl)) pss_nil)))))
      (pss_one (ps_ret pe_bl)))), ?_⟩
    have net_ok := hn.ok
    have hin := net_ok.inp
    obtain ⟨dx, fs, l1, l2, vn, vs, h0, h1, _⟩ := hn.ex
    obtain ⟨k1, k2⟩ := ansOk_len hans
    obtain ⟨_, _, _, k3⟩ := hans
    have hMp := stM_pos net
    obtain ⟨vx, hbx, lx⟩ := id hb
    have lvx := Paired.len lx
    rw [List.length_map] at lvx
    refine ⟨_, rfl, _, rfl, _, rfl, a, c, b, net, cl, _, rfl, hn, hc, ok, hb, by rw [List.length_map]; omega, stims_short net_ok ks, fun H1 s1 => ?_⟩
    rw [k2, List.length_map]
    rw [List.length_map] at k1
    refine ⟨_, rfl, b, vx, rfl, .inl (SqL.of (s1 _ _ hbx)), _, _, rfl, rfl, rfl, _, rfl, ?_⟩
    have ed : V.int ((ks.length - 1 : Nat) : Int) = V.int ((vx.length : Int) - 1) := by congr 1; omega
    have ed2 : (!decide (optV (some (ks.length - 1)) = V.int ((vx.length : Int) - 1))) = false := by
      show (!decide (V.int ((ks.length - 1 : Nat) : Int) = V.int ((vx.length : Int) - 1))) = false
      rw [ed, decide_eq_true rfl]
      rfl
    dsimp only
    rw [ed2]
    refine iteF ?_
    refine ⟨_, rfl, b, vx, rfl, .inl (SqL.of (s1 _ _ hbx)), _, _, rfl, _, _, rfl, ⟨by decide, by decide, by omega, by omega⟩, ?_⟩
    refine for_range (lo := 1) (n := ((if (vx.length : Int) < 5 then (vx.length : Int) else 5) - 1).toNat) (fun i σ' H' => ∃ x3 x4, σ' = [some (.ref a), some (.ref c), some (.ref b), x3, x4] ∧ Same H H') ⟨none, none, rfl, s1⟩ ?_ ?_
    · rintro i σ' H' hi ⟨x3, x4, rfl, sm⟩
      have hi2 : 1 + i < ks.length ∧ 1 + i ≤ 4 := by
        split at hi <;> omega
      have e1 : (1 : Int) + (i : Int) = ((1 + i : Nat) : Int) := by omega
      rw [e1]
      have em : (net.inputs : Int) * ((1 + i : Nat) : Int) = ((net.inputs * (1 + i) : Nat) : Int) := (Int.natCast_mul _ _).symm
      have hle : net.inputs * (1 + i) ≤ 8 := Nat.le_trans (Nat.mul_le_mul hin hi2.2) (by decide)
      refine ⟨_, rfl, a, _, dx, fs, _, rfl, sm _ _ h0, T.cl_Network, T.na_Network_inputs, h1, _, rfl, _, _, rfl, rfl, .inl ⟨by omega, by omega⟩, _, _, rfl, rfl, ?_, ((2 ^ (net.inputs * (1 + i)) : Nat) : Int), ?_, ?_⟩
      · show CPow 1 ((net.inputs : Int) * ((1 + i : Nat) : Int))
        rw [em]
        exact shl_ok (by omega)
      · show [V.int (1 * 2 ^ ((net.inputs : Int) * ((1 + i : Nat) : Int)).toNat)] = [V.int ((2 ^ (net.inputs * (1 + i)) : Nat) : Int)]
        rw [em, pow_cast]
      have hp8 : 2 ^ (net.inputs * (1 + i)) ≤ 256 := Nat.le_trans (Nat.pow_le_pow_right (by decide) hle) (by decide)
      generalize 2 ^ (net.inputs * (1 + i)) = m at hp8
      refine ⟨by omega, by omega, ?_⟩
      refine for_range (lo := 0) (n := (m : Int).toNat) (fun j σ' H' => ∃ x4, σ' = [some (.ref a), some (.ref c), some (.ref b), some (.int ((1 + i : Nat) : Int)), x4] ∧ Same H H') ⟨x4, rfl, sm⟩ ?_ ?_
      · rintro j σ' H' hj ⟨x4, rfl, sm⟩
        refine ⟨_, rfl, _, rfl, _, rfl, _, rfl, _, rfl, a, net, _, 1 + i, rfl, hn.same sm, by omega, fun p H2 s2 hp => ?_⟩
        have sm2 := sm.trans s2
        generalize (0 : Int) + (j : Int) = nn at hp
        refine ⟨a, c, p, net, cl, _, rfl, hn.same sm2, sm2 _ _ hc, ok, hp, by rw [List.length_map, numsN_len]; omega, stims_short net_ok _, fun H3 s3 => ?_⟩
        have en := k3 (numsN (stM net) nn (1 + i)) (numsN_lt hMp _ _) (by rw [numsN_len]; exact hi2.1)
        rw [en]
        exact ⟨_, rfl, iteNS rfl ⟨_, rfl, sm2.trans s3⟩⟩
      · rintro σ' H' ⟨x4, rfl, sm⟩
        exact ⟨_, _, rfl, sm⟩
    · rintro σ' H' ⟨x3, x4, rfl, sm⟩
      exact q _ sm

/-! ### _law_closed -/
theorem take_not {ps : List Pair} (hn : ps.Nodup) {k : Nat} {p : Pair} (h : ps[k]? = some p) : ¬ p ∈ ps.take k := fun z => by
  obtain ⟨j, hj, e⟩ := List.mem_iff_getElem.mp z
  rw [List.length_take] at hj
  rw [List.getElem_take] at e
  have e2 : ps[j]? = some p := by rw [List.getElem?_eq_getElem (by omega), e]
  have := nd_ix hn e2 h
  omega
theorem cutTo (xs : List V) (k : Nat) : cutV xs none (some (k : Int)) = xs.take k := by
  have e := HT.sIx_nat xs.length xs.length k
  unfold cutV
  rw [HT.sIx_none, e, List.drop_zero, Nat.sub_zero]
  by_cases h : k ≤ xs.length
  · rw [Nat.min_eq_left h]
  · rw [Nat.min_eq_right (by omega), List.take_length, List.take_of_length_le (by omega)]
theorem scLawClosed : FnScope ["_law_network", "_law_claim_here", "_law_pairs", "_law_k", "_law_number", "_law_stimulus", "_law_after"] ["_law_network", "_law_claim_here", "_law_pairs"] (defScope sLawClosed) := ⟨rfl, rfl, rfl, by decide +kernel, rfl, by decide +kernel, by decide +kernel⟩
def spLClosed (K : PySem.W.Frag) : Sp := fun vs H Q _ => ∃ (a c r : Addr) (net : Net) (cl : Cl) (most : Nat) (vp : List V) (ps : List Pair), vs = [.ref a, .ref c, .ref r] ∧ NetAt K H a net ∧ H c = some (.tup (clV cl)) ∧ H r = some (.lst vp) ∧ PairsAt H vp ps ∧
  AnsOk net cl (stimN net) (stM net) most (.holds ps) ∧ most ≤ 1000 ∧ ∀ H', Same H H' → Q (.bl true) H'
theorem hasLawClosed {P : Program} {w : World} {K : PySem.W.Frag} {mg : Str → Option Value} {base : Heap} (T : Txt K mg) (hStimulusOf : Has P w K mg base 1 "stimulus_of" ["network", "number"] (spStim K)) (hAdvance : Has P w K mg base 2 "advance" ["network", "state", "stimulus"] (spAdv K)) (hNextWatch : Has P w K mg base 1 "next_watch" ["claim", "watch", "stimulus", "spikes"] spWatch) (hInitialState : Has P w K mg base 1 "initial_state" ["network"] (spInitial K)) : Has P w K mg base 3 "_law_closed" ["_law_network", "_law_claim_here", "_law_pairs"] (spLClosed K) := by
  obtain ⟨fd, F⟩ := T.fn__law_closed
  refine ⟨_, fd, T.gl__law_closed, F.kp, F.bindsN fun _ _ _ _ _ _ us hl => match us, hl with | [_, _, _], _ => rfl, fn_ok F scLawClosed (fun vs H Q E h => ?_) (fun cdv A outer s H vs Q E hr h => ?_)⟩
  · obtain ⟨a, c, r, net, cl, most, vp, ps, rfl, _⟩ := h
    rfl
  · obtain ⟨a, c, r, net, cl, most, vp, ps, rfl, hn, hc, hr1, hps, hans, hmost, q⟩ := h
    refine ⟨_, (pss_cons (ps_if (pt_cmpR (op_neD hr.units) (pe_ix ix_list (pv 2) pe_int (fun _ _ => rfl)) (pe_tup (pa_cons (pe_callH hInitialState (hr.mono (by decide)) (by rfl) (pa_cons (pv 0) pa_nil)) (pa_cons pe_int pa_nil))) (nomark _)) (pss_one (ps_ret pe_bl)) pss_nil)
      (pss_cons (ps_for PassesOwn.never rfl (pi_range1 rfl T.fr_range (pa_cons (pe_callB call_len_seq (by rfl) T.fr_len PySem.boot_len (pa_cons (pv 2) pa_nil)) pa_nil)) (pg_name (i := 3) scLawClosed.nd rfl (.inl rfl)) (pss_cons (ps_if (pt_cmpR (op_inD (hu65 hr)) (pe_ix ix_list (pv 2) (pv 3) (fun _ _ => rfl)) (pe_slice sl_list (pv 2) po_none (po_some (pv 3))) (by rfl)) (pss_one (ps_ret pe_bl)) pss_nil)
      (pss_one (ps_for PassesOwn.never rfl (pi_range1 rfl T.fr_range (pa_cons (pe_op op_shl pe_int (pe_fld (pv 0) rfl)) pa_nil)) (pg_name (i := 4) scLawClosed.nd rfl (.inl rfl)) (pss_cons (ps_set (i := 5) scLawClosed.nd rfl (.inl rfl) (pe_callH hStimulusOf (hr.mono (by decide)) (by rfl) (pa_cons (pv 0) (pa_cons (pv 4) pa_nil))))
      (pss_cons (ps_set (i := 6) scLawClosed.nd rfl (.inl rfl) (pe_callH hAdvance (hr.mono (by decide)) (by rfl) (pa_cons (pv 0) (pa_cons (pe_ix ix_tup (pe_ix ix_list (pv 2) (pv 3) (fun _ _ => rfl)) pe_int (fun _ _ => rfl)) (pa_cons (pv 5) pa_nil)))))
      (pss_one (ps_if (pt_cmpR (op_notInD (hu65 hr)) (pe_tup (pa_cons (pe_ix ix_tup (pv 6) pe_int (fun _ _ => rfl)) (pa_cons (pe_callH hNextWatch (hr.mono (by decide)) (by rfl) (pa_cons (pv 1) (pa_cons (pe_ix ix_tup (pe_ix ix_list (pv 2) (pv 3) (fun _ _ => rfl)) pe_int (fun _ _ => rfl)) (pa_cons (pv 5) (pa_cons (pe_ix ix_tup (pv 6) pe_int (fun _ _ => rfl)) pa_nil))))) pa_nil))) (pv 2) (by rfl)) (pss_one (ps_ret pe_bl)) pss_nil))))))))
      (pss_one (ps_ret pe_bl)))), ?_⟩
    have net_ok := hn.ok
    obtain ⟨dx, fs, l1, l2, ns, ss, h0, h1, _⟩ := hn.ex
    have hM := stM_le net_ok
    obtain ⟨ok1, ok2, ok3, ok4, ok5⟩ := hans
    have lvp := Paired.len hps
    obtain ⟨v0, hv0, hp0⟩ := Paired.getR hps ok1
    refine ⟨_, rfl, r, vp, _, _, rfl, rfl, SqL.of hr1, at0 hv0, ?_⟩
    refine ⟨_, rfl, a, net, rfl, hn, fun v H1 s1 st1 => ⟨two, fun b0 hb0 => ?_⟩⟩
    have s2 := s1.trans (same_new (o := .tup [v, .int 0]) hb0)
    have p2 : PairAt (upd H1 b0 (.tup [v, .int 0])) (.ref b0) (p0 net) := ⟨b0, v, rfl, upd_same, st1.tu (Same.tu (same_new hb0))⟩
    refine ⟨_, _, (hp0.tu (Same.tu s2)).dp, p2.dp, pair_shaped _, pair_shaped _, _, rfl, ?_⟩
    rw [pair_eqv, decide_eq_true rfl]
    refine iteF ?_
    refine ⟨_, rfl, r, vp, rfl, .inl (SqL.of (s2 _ _ hr1)), _, rfl, by omega, by omega, ?_⟩
    refine for_range (lo := 0) (n := (vp.length : Int).toNat) (fun i σ' H' => ∃ x3 x4 x5 x6, σ' = [some (.ref a), some (.ref c), some (.ref r), x3, x4, x5, x6] ∧ Same H H') ⟨none, none, none, none, rfl, s2⟩ ?_ ?_
    · rintro i σ' H' hi ⟨x3, x4, x5, x6, rfl, sm⟩
      have hi : i < vp.length := by omega
      have e0 : (0 : Int) + (i : Int) = (i : Int) := Int.zero_add _
      rw [e0]
      have hv := List.getElem?_eq_getElem hi
      generalize vp[i] = v at hv
      obtain ⟨p, hp, hpat⟩ := Paired.getL hps hv
      obtain ⟨pa, sv, rfl, hpa, hsv⟩ := id hpat
      have hpm := mem_of_get hp
      have hpk := ok4 p hpm
      refine ⟨_, rfl, _, rfl, r, vp, _, _, rfl, rfl, SqL.of (sm _ _ hr1), atI_nat hv, _, rfl, _, rfl, _, rfl, r, vp, rfl, SqL.of (sm _ _ hr1), fun cp hcp => ?_⟩
      rw [cutTo]
      have sm1 := sm.trans (same_new (o := .lst (vp.take i)) hcp)
      have ptk : PairsAt (upd H' cp (.lst (vp.take i))) (vp.take i) (ps.take i) := by
        have go : ∀ {xs : List V} {ys : List Pair} (n : Nat), PairsAt (upd H' cp (.lst (vp.take i))) xs ys → PairsAt (upd H' cp (.lst (vp.take i))) (xs.take n) (ys.take n) := by
          intro xs ys n h
          induction h generalizing n with
          | nil => rw [List.take_nil, List.take_nil]; exact .nil
          | cons hr _ ih =>
            cases n with
            | zero => exact .nil
            | succ n => exact .cons hr (ih n)
        exact go i (hps.tu (Same.tu sm1))
      refine ⟨_, _, (hpat.tu (Same.tu sm1)).dp, Dp.lst (SqL.of upd_same) ptk.dp, pair_shaped _, pairs_shaped _, _, rfl, ?_⟩
      rw [any_pair, decide_eq_false (take_not ok2 hp)]
      refine iteF ?_
      refine ⟨_, rfl, a, _, dx, fs, _, rfl, sm1 _ _ h0, T.cl_Network, T.na_Network_inputs, h1, 1, _, rfl, rfl, shl_ok (by have := net_ok.inp; omega), _, rfl, ?_⟩
      rw [pow_cast]
      refine ⟨Int.le_trans (by decide) (Int.natCast_nonneg _), by show ((stM net : Nat) : Int) < _; omega, ?_⟩
      refine for_range (lo := 0) (n := ((2 ^ net.inputs : Nat) : Int).toNat) (fun num σ2 H2 => ∃ x4 x5 x6, σ2 = [some (.ref a), some (.ref c), some (.ref r), some (.int i), x4, x5, x6] ∧ Same H H2) ⟨x4, x5, x6, rfl, sm1⟩ ?_ ?_
      · rintro num σ2 H2 hnum ⟨x4, x5, x6, rfl, sm⟩
        have hnum : num < stM net := by
          rw [Int.toNat_natCast] at hnum
          exact hnum
        have e0 : (0 : Int) + (num : Int) = (num : Int) := Int.zero_add _
        rw [e0]
        obtain ⟨hb, hm⟩ := ok5 p hpm num hnum
        refine ⟨_, rfl, _, rfl, a, net, num, rfl, hn.same sm, fun sp H3 s3 fsp hsp => ?_⟩
        have sm3 := sm.trans s3
        have lst : (stimOf net.inputs (num : Int)).length ≤ 100 := Nat.le_trans (stim_length _ _) (by have := net_ok.inp; omega)
        refine ⟨_, rfl, _, rfl, _, rfl, r, vp, _, _, rfl, rfl, SqL.of (sm3 _ _ hr1), atI_nat hv, pa, _, _, _, rfl, rfl, SqT.of (sm3 _ _ hpa), at0 rfl, _, rfl, a, sp, sv, net, p.1, _, rfl, hn.same sm3, hsv.tu (Same.tu sm3), hpk, hsp, lst, fun t sA f H4 s4 ht hA ff hf => ?_⟩
        have sm4 := sm3.trans s4
        refine ⟨_, rfl, t, _, _, _, rfl, rfl, SqT.of ht, at0 rfl, _, rfl, _, rfl, _, rfl, r, vp, _, _, rfl, rfl, SqL.of (sm4 _ _ hr1), atI_nat hv, pa, _, _, _, rfl, rfl, SqT.of (sm4 _ _ hpa), at1 rfl, _, rfl, _, rfl, t, _, _, _, rfl, rfl, SqT.of ht, at1 rfl, ?_⟩
        refine ⟨c, cl, p.2, sp, f, _, _, rfl, sm4 _ _ hc, s4 _ _ hsp, hf, two, fun pr hpr => ?_⟩
        have s5 := same_new (o := .tup [sA, .int (nextW cl p.2 (stimOf net.inputs (num : Int)) (fired net p.1))]) hpr
        have hq5 : PairAt (upd H4 pr (.tup [sA, .int (nextW cl p.2 (stimOf net.inputs (num : Int)) (fired net p.1))])) (.ref pr) (nxt net cl p (stimN net num)) := ⟨pr, sA, rfl, upd_same, hA.tu (Same.tu s5)⟩
        have sm5 := sm4.trans s5
        refine ⟨_, rfl, _, _, hq5.dp, Dp.lst (SqL.of (sm5 _ _ hr1)) (hps.tu (Same.tu sm5)).dp, pair_shaped _, pairs_shaped _, _, rfl, ?_⟩
        rw [any_pair, decide_eq_true hm]
        exact iteF ⟨_, _, _, rfl, sm5⟩
      · rintro σ2 H2 ⟨x4, x5, x6, rfl, sm⟩
        exact ⟨_, _, _, _, rfl, sm⟩
    · rintro σ' H' ⟨x3, x4, x5, x6, rfl, sm⟩
      exact q _ sm
end SK

/-! Spikehold: the law. -/
namespace SK
open PySem PySem.Spec PyProof.Rows L2
/-! ### answers as data -/
def lsD (l : List Int) : PyData := .list (l.map PyData.int)
def ansD (net : Net) (m : Nat) : Ans → PyData
  | .breaks ks => .tuple [.str "breaks", .list ((ks.map (stimN net)).map lsD)]
  | .opn => .tuple [.str "open", .int (m : Int)]
  | .holds ps => .tuple [.str "holds", .list (ps.map pairD)]
theorem ansAt_dp {K : PySem.W.Frag} {H : Hp} {net : Net} {m : Nat} {t : Addr} : ∀ {ans : Ans}, AnsAt H net m t ans → Dp K H (.ref t) (ansD net m ans)
  | .breaks ks, ⟨r, h1, vs, h2, h3⟩ => .tup (SqT.of h1) (.cons (.str _) (.cons (.lst (SqL.of h2) (dpAll_of (fun v l ⟨b, e, q⟩ => by subst e; exact .lst (SqL.of q) (dp_ints l)) h3)) .nil))
  | .opn, h => .tup (SqT.of h) (.cons (.str _) (.cons (.int _) .nil))
  | .holds ps, ⟨r, vs, h1, h2, h3⟩ => .tup (SqT.of h1) (.cons (.str _) (.cons (.lst (SqL.of h2) h3.dp) .nil))
theorem lss_lay : ∀ l : List (List Int), PyData.canLayAll0 (l.map lsD) = true
  | [] => by simp [PyData.canLayAll0]
  | i :: r => by simp [PyData.canLayAll0, lsD, PyData.canLay0, ints_lay, lss_lay r]
theorem lss_dep : ∀ l : List (List Int), PyData.depthAll (l.map lsD) ≤ 1
  | [] => by simp [PyData.depthAll]
  | i :: r => by
    have h := lss_dep r
    simp only [List.map_cons, PyData.depthAll, lsD, PyData.depth, ints_dep]
    omega
theorem ans_shaped (net : Net) (m : Nat) (ans : Ans) : SeqAt.shaped (ansD net m ans) = true := by
  have e1 : PyData.strOk "breaks" = true := by decide +kernel
  have e2 : PyData.strOk "open" = true := by decide +kernel
  have e3 : PyData.strOk "holds" = true := by decide +kernel
  cases ans with
  | breaks ks =>
    have h := lss_dep (ks.map (stimN net))
    refine shaped_of ?_ ?_
    · simp only [ansD, PyData.canLay0, PyData.canLayAll0, e1, lss_lay, Bool.and_true]
    · simp only [ansD, PyData.depth, PyData.depthAll]; omega
  | opn =>
    refine shaped_of ?_ ?_
    · simp only [ansD, PyData.canLay0, PyData.canLayAll0, e2, Bool.and_true]
    · simp only [ansD, PyData.depth, PyData.depthAll]; omega
  | holds ps =>
    have h := pairs_dep ps
    refine shaped_of ?_ ?_
    · simp only [ansD, PyData.canLay0, PyData.canLayAll0, e3, pairs_lay, Bool.and_true]
    · simp only [ansD, PyData.depth, PyData.depthAll]; omega
theorem ans_other (net : Net) (m : Nat) (ans : Ans) : PyData.eqv (ansD net (m + 1) ans) (ansD net m .opn) = false := by
  have e1 : (("breaks" : Str) == "open") = false := by decide +kernel
  have e3 : (("holds" : Str) == "open") = false := by decide +kernel
  cases ans with
  | breaks ks => simp only [ansD, PyData.eqv, PyData.eqvAll, e1, Bool.false_and]
  | opn =>
    have e : (((m + 1 : Nat) : Int) == (m : Int)) = false := beq_eq_false_iff_ne.mpr (by omega)
    simp only [ansD, PyData.eqv, PyData.eqvAll, e, Bool.false_and, Bool.and_false]
  | holds ps => simp only [ansD, PyData.eqv, PyData.eqvAll, e3, Bool.false_and]
def mostOf (ns : List Int) : Nat := (1 + cell ns 12 % 60).toNat
theorem most_range (ns : List Int) : 1 ≤ mostOf ns ∧ mostOf ns ≤ 60 := by unfold mostOf; omega
theorem ansAt_tup {H : Hp} {net : Net} {m : Nat} {t : Addr} : ∀ {ans : Ans}, AnsAt H net m t ans → ∃ w x, H t = some (.tup [.str w, x])
  | .breaks ks, ⟨r, h, _⟩ => ⟨_, _, h⟩
  | .opn, h => ⟨_, _, h⟩
  | .holds ps, ⟨r, vs, h, _⟩ => ⟨_, _, h⟩

theorem scLaw : FnScope ["_law_script", "_law_network", "_law_claim_here", "_law_most", "_law_found", "_law_k", "_law_ticks"] ["_law_script"] (defScope sLaw) := ⟨rfl, rfl, rfl, by decide +kernel, rfl, by decide +kernel, by decide +kernel⟩
def spLaw (K : PySem.W.Frag) : Sp := fun vs H Q _ => ∃ (s : Addr) (ns : List Int), vs = [.ref s] ∧ SqL K H s (ns.map V.int) ∧ ns.length ≤ 63 ∧ ∀ H', Q (.bl true) H'
theorem ok_law {P : Program} {w : World} {K : PySem.W.Frag} {mg : Str → Option Value} {base : Heap} (T : Txt K mg) {fd : FuncData} (F : FunD K "law" "law" (defArgs sLaw) (defBody sLaw) (defScope sLaw) [] [] (He.ga K "law") fd)
    (hLawSmall : Has P w K mg base 3 "_law_small" ["_law_script"] (spSmall K)) (hLawClaim : Has P w K mg base 2 "_law_claim" ["_law_script", "_law_network"] (spClaim K)) (hLawCell : Has P w K mg base 1 "_law_cell" ["_law_script", "_law_k"] (spCell K))
    (hDecide : Has P w K mg base 3 "decide" ["network", "claim", "most"] (spDecide K)) (hCheckAnswer : Has P w K mg base 4 "check_answer" ["network", "claim", "answer"] (spChkA K)) (hLawBroken : Has P w K mg base 6 "_law_broken" ["_law_network", "_law_claim_here", "_law_stimuli"] (spLBroken K))
    (hLawClosed : Has P w K mg base 3 "_law_closed" ["_law_network", "_law_claim_here", "_law_pairs"] (spLClosed K)) (hLawFirst : Has P w K mg base 5 "_law_first" ["_law_network", "_law_claim_here", "_law_stimuli"] (spLFirst K)) (hLawNumbered : Has P w K mg base 2 "_law_numbered" ["_law_network", "_law_number", "_law_ticks"] (spLNum K)) :
    FnOk P w K mg base CX0 7 (He.ga K "law") fd ["_law_script"] (spLaw K) := by
  refine fn_ok F scLaw (fun vs H Q E h => ?_) (fun cdv A outer s H vs Q E hr h => ?_)
  · obtain ⟨s, ns, rfl, _⟩ := h
    rfl
  · obtain ⟨s', ns, rfl, hs, hl, q⟩ := h
    refine ⟨_, (pss_cons (ps_set (i := 1) scLaw.nd rfl (.inl rfl) (pe_callH hLawSmall (hr.mono (by decide)) (by rfl) (pa_cons (pv 0) pa_nil)))
      (pss_cons (ps_set (i := 2) scLaw.nd rfl (.inl rfl) (pe_callH hLawClaim (hr.mono (by decide)) (by rfl) (pa_cons (pv 0) (pa_cons (pv 1) pa_nil))))
      (pss_cons (ps_set (i := 3) scLaw.nd rfl (.inl rfl) (pe_op op_add pe_int (pe_op op_mod (pe_callH hLawCell (hr.mono (by decide)) (by rfl) (pa_cons (pv 0) (pa_cons pe_int pa_nil))) pe_int)))
      (pss_cons (ps_set (i := 4) scLaw.nd rfl (.inl rfl) (pe_callH hDecide (hr.mono (by decide)) (by rfl) (pa_cons (pv 1) (pa_cons (pv 2) (pa_cons (pv 3) pa_nil)))))
      (pss_cons (ps_if (PW.pt (pw_or (pt_not (pt_val (pe_callB call_isi (by rfl) T.fr_isinstance (by decide +kernel) (pa_cons (pv 4) (pa_cons (pe_bltn (v := .ty "tuple") (by rfl) T.fr_tuple (by decide +kernel) rfl) pa_nil))))) (pw_or1 (pt_cmpR op_ne (pe_callB call_len_seq (by rfl) T.fr_len PySem.boot_len (pa_cons (pv 4) pa_nil)) pe_int (nomark _))))) (pss_one (ps_ret pe_bl)) pss_nil)
      (pss_cons (ps_if (pt_cmpR op_eq (pe_ix ix_tup (pv 4) pe_int (fun _ _ => rfl)) pe_str (nomark _)) (pss_one (ps_ret (pe_and (pe_cmpR op_eq (pe_ix ix_tup (pv 4) pe_int (fun _ _ => rfl)) (pv 3) (nomark _)) (pe_and (pe_not (pe_callH hCheckAnswer (hr.mono (by decide)) (by rfl) (pa_cons (pv 1) (pa_cons (pv 2) (pa_cons (pv 4) pa_nil))))) (pe_one (pe_cmpR (op_neD hr.units) (pe_callH hDecide (hr.mono (by decide)) (by rfl) (pa_cons (pv 1) (pa_cons (pv 2) (pa_cons (pe_op op_add (pv 3) pe_int) pa_nil)))) (pv 4) (nomark _))))))) pss_nil)
      (pss_cons (ps_if (pt_cmpR op_notBl (pe_callH hCheckAnswer (hr.mono (by decide)) (by rfl) (pa_cons (pv 1) (pa_cons (pv 2) (pa_cons (pv 4) pa_nil)))) pe_bl (nomark _)) (pss_one (ps_ret pe_bl)) pss_nil)
      (pss_cons (ps_if (pt_cmpR op_eq (pe_ix ix_tup (pv 4) pe_int (fun _ _ => rfl)) pe_str (nomark _)) (pss_one (ps_ret (pe_callH hLawBroken (hr.mono (by decide)) (by rfl) (pa_cons (pv 1) (pa_cons (pv 2) (pa_cons (pe_ix ix_tup (pv 4) pe_int (fun _ _ => rfl)) pa_nil)))))) pss_nil)
      (pss_cons (ps_if (PW.pt (pw_or (pt_cmpR op_ne (pe_ix ix_tup (pv 4) pe_int (fun _ _ => rfl)) pe_str (nomark _)) (pw_or (pt_cmpR op_gt (pe_callB call_len_seq (by rfl) T.fr_len PySem.boot_len (pa_cons (pe_ix ix_tup (pv 4) pe_int (fun _ _ => rfl)) pa_nil)) (pv 3) (nomark _)) (pw_or1 (pt_not (pt_val (pe_callH hLawClosed (hr.mono (by decide)) (by rfl) (pa_cons (pv 1) (pa_cons (pv 2) (pa_cons (pe_ix ix_tup (pv 4) pe_int (fun _ _ => rfl)) pa_nil)))))))))) (pss_one (ps_ret pe_bl)) pss_nil)
      (pss_cons (ps_for PassesOwn.never rfl (pi_range2 rfl T.fr_range (pa_cons pe_int (pa_cons (pe_callB (call_min2 rfl) (by rfl) T.fr_min (by decide +kernel) (pa_cons pe_int (pa_cons (pe_callB call_len_seq (by rfl) T.fr_len PySem.boot_len (pa_cons (pv 0) pa_nil)) pa_nil))) pa_nil))) (pg_name (i := 5) scLaw.nd rfl (.inl rfl)) (pss_cons (ps_set (i := 6) scLaw.nd rfl (.inl rfl) (pe_op op_add pe_int (pe_op op_mod (pe_callTy call_int1 (by rfl) T.fr_int (by decide +kernel) (pa_cons (pe_ix ix_list (pv 0) (pv 5) (fun _ _ => rfl)) pa_nil)) pe_int)))
      (pss_one (ps_if (pt_cmp (pc_notN (pe_callH hLawFirst (hr.mono (by decide)) (by rfl) (pa_cons (pv 1) (pa_cons (pv 2) (pa_cons (pe_callH hLawNumbered (hr.mono (by decide)) (by rfl) (pa_cons (pv 1) (pa_cons (pe_op op_fdiv (pe_callTy call_int1 (by rfl) T.fr_int (by decide +kernel) (pa_cons (pe_ix ix_list (pv 0) (pv 5) (fun _ _ => rfl)) pa_nil)) pe_int) (pa_cons (pv 6) pa_nil)))) pa_nil)))))) (pss_one (ps_ret pe_bl)) pss_nil))))
      (pss_one (ps_ret pe_bl)))))))))))), ?_⟩
    have hm := most_range ns
    have em : 1 + cell ns 12 % 60 = (mostOf ns : Int) := by unfold mostOf; omega
    refine ⟨_, rfl, s', ns, rfl, hs, hl, fun a H1 s1 hn => ?_⟩
    have hs1 := s1.seq hs
    refine ⟨_, rfl, _, rfl, s', a, ns, _, rfl, hs1, hn, fun c H2 s2 hc => ?_⟩
    have hn2 := hn.same s2
    have hs2 := s2.seq hs1
    have cok := claim_ok (smallNet ns) (cell ns 11)
    generalize claimOf (smallNet ns) (cell ns 11) = cl at hc cok
    generalize smallNet ns = net at hn2
    have net_ok := hn2.ok
    refine ⟨_, rfl, s', ns, 12, rfl, hs2, _, _, rfl, rfl, (by show (0 : Int) < 60; decide), _, _, rfl, rfl, ?_⟩
    dsimp only
    rw [em]
    refine ⟨_, rfl, _, rfl, _, rfl, a, c, net, cl, mostOf ns, rfl, hn2, hc, hm.1, by omega, fun t H3 ans s3 hat aok alen => ?_⟩
    have hn3 := hn2.same s3
    have hc3 := s3 _ _ hc
    have hs3 := s3.seq hs2
    obtain ⟨wd, xv, ht⟩ := ansAt_tup hat
    refine ⟨_, rfl, _, _, _, _, true, rfl, .ty "tuple", .base (.tup ht), kit_ty (by decide +kernel), _, rfl, ?_⟩
    refine iteF ⟨_, rfl, t, _, rfl, .inr (SqT.of ht), rfl, _, rfl, ?_⟩
    refine iteF ?_
    cases ans with
    | opn =>
      have ht : H3 t = some (.tup [.str "open", .int (mostOf ns : Int)]) := hat
      refine ⟨_, rfl, t, _, _, _, rfl, rfl, SqT.of ht, at0 rfl, rfl, _, rfl, ite2 (fun _ => ?_) (fun z => absurd (by decide +kernel) z)⟩
      refine ⟨_, rfl, t, _, _, _, rfl, rfl, SqT.of ht, at1 rfl, _, rfl, rfl, true, by rw [decide_eq_true rfl], iteT ?_⟩
      refine ⟨_, rfl, _, rfl, _, rfl, a, c, t, net, cl, mostOf ns, .opn, rfl, hn3, hc3, ht, aok, fun ks e => Nat.le_trans (alen ks e) (by decide), fun H4 s4 => ⟨_, rfl, true, rfl, iteT ?_⟩⟩
      refine ⟨_, rfl, _, rfl, _, rfl, _, _, rfl, rfl, a, c, net, cl, mostOf ns + 1, rfl, hn3.same s4, s4 _ _ hc3, by omega, by omega, fun t2 H5 ans2 s5 hat2 aok2 alen2 => ?_⟩
      have ht5 : AnsAt H5 net (mostOf ns) t .opn := s5 _ _ (s4 _ _ ht)
      refine ⟨_, rfl, _, _, ansAt_dp hat2, ansAt_dp ht5, ans_shaped _ _ _, ans_shaped _ _ _, ?_⟩
      rw [ans_other]
      exact q _
    | breaks ks =>
      obtain ⟨r, ht, hst⟩ := id hat
      refine ⟨_, rfl, t, _, _, _, rfl, rfl, SqT.of ht, at0 rfl, rfl, _, rfl, ite2 (fun z => absurd z (by decide +kernel)) (fun _ => ?_)⟩
      refine ⟨_, rfl, _, rfl, _, rfl, a, c, t, net, cl, mostOf ns, _, rfl, hn3, hc3, hat, aok, fun ks e => Nat.le_trans (alen ks e) (by decide), fun H4 s4 => ⟨true, true, rfl, rfl, _, rfl, iteNS rfl ?_⟩⟩
      have ht4 := s4 _ _ ht
      refine ⟨_, rfl, t, _, _, _, rfl, rfl, SqT.of ht4, at0 rfl, rfl, _, rfl, ite2 (fun _ => ?_) (fun z => absurd (by decide +kernel) z)⟩
      refine ⟨_, rfl, _, rfl, _, rfl, t, _, _, _, rfl, rfl, SqT.of ht4, at1 rfl, a, c, r, net, cl, mostOf ns, ks, rfl, hn3.same s4, s4 _ _ hc3, cok, hst.same s4, aok, alen ks rfl, fun H5 s5 => q _⟩
    | holds ps =>
      obtain ⟨r, vp, ht, hr1, hps⟩ := id hat
      refine ⟨_, rfl, t, _, _, _, rfl, rfl, SqT.of ht, at0 rfl, rfl, _, rfl, ite2 (fun z => absurd z (by decide +kernel)) (fun _ => ?_)⟩
      refine ⟨_, rfl, _, rfl, _, rfl, a, c, t, net, cl, mostOf ns, _, rfl, hn3, hc3, hat, aok, fun ks e => Nat.le_trans (alen ks e) (by decide), fun H4 s4 => ⟨true, true, rfl, rfl, _, rfl, iteNS rfl ?_⟩⟩
      have ht4 := s4 _ _ ht
      have hr4 := s4 _ _ hr1
      have hn4 := hn3.same s4
      have hc4 := s4 _ _ hc3
      have hs4 := s4.seq hs3
      refine ⟨_, rfl, t, _, _, _, rfl, rfl, SqT.of ht4, at0 rfl, rfl, _, rfl, ite2 (fun z => absurd z (by decide +kernel)) (fun _ => ?_)⟩
      have lvp := Paired.len hps
      have aok3 : ps.length ≤ mostOf ns := aok.2.2.1
      refine ⟨_, rfl, t, _, _, _, rfl, rfl, SqT.of ht4, at0 rfl, rfl, _, rfl, ?_⟩
      refine ite2 (fun z => absurd z (by decide +kernel)) (fun _ => ?_)
      refine ⟨_, rfl, t, _, _, _, rfl, rfl, SqT.of ht4, at1 rfl, r, _, rfl, .inl (SqL.of hr4), _, rfl, _, _, rfl, rfl, _, rfl, ?_⟩
      refine ite2 (fun z => absurd (of_decide_eq_true z) (by omega)) (fun _ => ?_)
      refine ⟨_, rfl, _, rfl, _, rfl, t, _, _, _, rfl, rfl, SqT.of ht4, at1 rfl, a, c, r, net, cl, mostOf ns, vp, ps, rfl, hn4, hc4, hr4, hps.tu (Same.tu s4), aok, by omega, fun H5 s5 => ⟨_, rfl, iteF ?_⟩⟩
      have hn5 := hn4.same s5
      have hc5 := s5 _ _ hc4
      have hs5 := s5.seq hs4
      refine ⟨_, rfl, s', _, rfl, .inl hs5, _, _, rfl, _, _, rfl, ⟨by decide, by decide, ?_, ?_⟩, ?_⟩
      · rw [List.length_map]; omega
      · rw [List.length_map]; omega
      refine for_range (lo := 13) (n := ((if ((ns.map V.int).length : Int) < 25 then ((ns.map V.int).length : Int) else 25) - 13).toNat) (fun i σ' H' => ∃ x5 x6, σ' = [some (.ref s'), some (.ref a), some (.ref c), some (.int (mostOf ns)), some (.ref t), x5, x6] ∧ Same H5 H') ⟨none, none, rfl, Same.refl _⟩ ?_ ?_
      · rintro i σ' H' hi ⟨x5, x6, rfl, sm⟩
        rw [List.length_map] at hi
        have hi4 : 13 + i < ns.length := by split at hi <;> omega
        have e1 : (13 : Int) + (i : Int) = ((13 + i : Nat) : Int) := by omega
        rw [e1]
        have gk : (ns.map V.int)[13 + i]? = some (.int (cell ns (13 + i))) := int_at hi4
        generalize cell ns (13 + i) = x at gk
        have ex : 1 + x % 12 = ((1 + x % 12).toNat : Int) := by omega
        have hs6 := sm.seq hs5
        refine ⟨_, rfl, _, rfl, s', _, _, _, rfl, rfl, hs6, atI_nat gk, .inl ⟨_, rfl, _, _, rfl, rfl, (by show (0 : Int) < 12; decide), _, _, rfl, rfl, ?_⟩⟩
        dsimp only
        rw [ex]
        refine ⟨_, rfl, _, rfl, _, rfl, _, rfl, _, rfl, s', _, _, _, rfl, rfl, hs6, atI_nat gk, .inl ⟨_, rfl, _, _, rfl, rfl, ⟨by decide, by decide⟩, _, rfl, a, net, x / 12, (1 + x % 12).toNat, rfl, hn5.same sm, by omega, fun p H6 s6 hp => ?_⟩⟩
        have sm6 := sm.trans s6
        refine ⟨a, c, p, net, cl, _, rfl, hn5.same sm6, sm6 _ _ hc5, cok, hp, by rw [List.length_map, numsN_len]; omega, stims_short net_ok _, fun H7 s7 => ?_⟩
        rw [holds_calm aok (numsN (stM net) (x / 12) (1 + x % 12).toNat) (p0 net) (mem_of_get aok.1) (numsN_lt (stM_pos net) _ _)]
        exact ⟨_, rfl, iteNS rfl ⟨_, _, rfl, sm6.trans s7⟩⟩
      · rintro σ' H' ⟨x5, x6, rfl, sm⟩
        exact q _
end SK

/-! Spikehold: the law at the program's end. -/
namespace SK
open PySem PySem.Spec PyProof.Rows L2
theorem law_all {P : Program} {w : World} {K : PySem.W.Frag} {mg : Str → Option Value} (T : Txt K mg) : ∃ fd : FuncData, (∀ (s : Shared) (v : Value), BindsTo s fd ⟨[v], []⟩ [("_law_script", v)]) ∧ ∀ base : Heap, FnOk P w K mg base CX0 7 (He.ga K "law") fd ["_law_script"] (spLaw K) := by
  obtain ⟨fd, F⟩ := T.fn_law
  have b := FunD.bindsA (ps := ["_law_script"]) F fun _ _ _ _ _ _ us hl => match us, hl with | [_], _ => rfl
  refine ⟨fd, fun s v => b s [v] rfl, fun base => ?_⟩
  have hS := hasStep (P := P) (w := w) (base := base) T
  have hSt := hasStimulusOf (P := P) (w := w) (base := base) T
  have hNw := hasNextWatch (P := P) (w := w) (base := base) T
  have hIb := hasIsBroken (P := P) (w := w) (base := base) T
  have hIs := hasInitialState (P := P) (w := w) (base := base) T
  have hAd := hasAdvance T hS
  have hPt := hasPathTo T hSt
  have hDc := hasDecide T hSt hAd hIb hNw hIs hPt
  have hCb := hasCheckBreak T hAd hIb hNw hIs
  have hCp := hasCheckPairs T hSt hAd hIb hNw hIs
  have hCa := hasCheckAnswer T hCb hCp
  have hTk := hasCellsTick T (hasCellsArrive T) (hasCellsFire T hS) (hasCellsLearn T)
  have hRn := hasRun T (hasCells T) (hasRunC T) hTk
  have hLc := hasLawCell (P := P) (w := w) (base := base) T
  have hLs := hasLawSmall T hLc (hasNeuron T) (hasSynapse T) (hasNetwork T)
  have hLf := hasLawFirst T hRn (hasLawBreaks T)
  have hLn := hasLawNumbered T hSt
  exact ok_law T F hLs (hasLawClaim T hLc) hLc hDc hCa (hasLawBroken T hLf hLn) (hasLawClosed T hSt hAd hNw hIs) hLf hLn
end SK
open PySem PySem.W PySem.Calls PyProof.Rows
theorem PySem.Challenge.cw_spikehold_k19_whole_decided_claims_holds : PySem.Challenge.rw_spikehold_k19_whole_decided_claims.Holds := by
  w_on; o_law
  refine HandSHeadRun.head_any (r := SK.RO) (q := view SK.RO.prog [34]) (H := SK.hk) (ob := SK.ob) (M := 3000) (loose := SK.names) (d := HandSHeadRun.topDef SK.RO.prog 34) (kwd := []) SK.ob_eq
    (by kernel_rfl) (fun s => by kernel_rfl) SK.run_eq (by kernel_rfl) (by kernel_rfl) (by kernel_rfl) (by rfl) (by first | assumption | decide +kernel) (by decide +kernel) ⟨rfl, rfl, rfl, rfl, rfl, by decide +kernel⟩ ?hw ?hc
  case hw => w_witness2
  case hc =>
    refine L2.walk_ofE (l := PySem.Challenge.rw_spikehold_k19_whole_decided_claims) (n := 63) (k := 7) (x := "_law_script") (CX := L2.CX0) rfl (by decide) (by kernel_rfl) ⟨rfl, by decide, by decide⟩ ?F (fun _ _ _ _ z => z)
    intro w mg fa h Y G hmg0
    obtain ⟨K, KX, c⟩ := Y
    have hmg : mg ("law" : PySem.Str) = some (.ref fa) := by
      have e : (HandSHeadRun.topDef SK.RO.prog 34).name = ("law" : PySem.Str) := by kernel_rfl
      rw [← e]
      exact hmg0
    have T : SK.Txt K mg := ⟨c, h, KX, G⟩
    have e := hmg.symm.trans T.gl_law
    cases e
    obtain ⟨fd, hb, hF⟩ := SK.law_all (P := (PySem.Challenge.rw_spikehold_k19_whole_decided_claims).prog) (w := w) T
    exact ⟨K, fd, SK.spLaw K, KX, hb, fun H a ns hl _ hS => ⟨a, ns, rfl, hS, hl, fun _ => rfl⟩, fun base _ _ => hF base⟩

