import PyProof.Rows.All
import Wide.All
import OpenK.AllK
import Wide.FinOn
import Open.SpecLaws
import KE.OsGo
import HandS.ForSpec
import HandS.Comp
import HandS.Iter
import HandS.Evl
import HandS.Conv
import HandS.NoneIn
import HandS.Style
import HandS.Wide
import HandS.CallLocal
import HandS.Text
import HandS.Head4
import HandS.HeadHook4
import PySem.Challenge.RW_nosepanel_s01_answers
import HandS.HeadNt
/-! The program as plain Lean functions. -/
namespace Np

def b01 (b : Bool) : Nat := if b = true then 1 else 0
/-- a loop of i turns -/
def lp {α : Type} (f : Nat → α → α) (s : α) : Nat → α
  | 0 => s
  | i + 1 => f i (lp f s i)
def upf {α : Type} (w : Nat → α) (i : Nat) (v : α) : Nat → α := fun j => if j = i then v else w j
abbrev Mx := Nat → Nat → Nat

/-! ### orders -/
def grown (m x : Nat) : Nat := m ||| 2 ^ x
def setOver (f : Mx) (n x : Nat) : Nat := lp (fun y g => if f y x = 1 then grown g y else g) 0 n
def mayF (nd : List Nat) (m x : Nat) : Bool := !(m.testBit x) && decide (nd.getD x 0 &&& m = nd.getD x 0)
/-- the samples above a row's first -/
def above (n s : Nat) : List Nat := List.range' (s + 1) (n - (s + 1))
def okNext (f : Mx) (row : List Nat) (x : Nat) : Bool := decide (f (row.getLastD 0) x = 1) && !row.contains x
def extend (f : Mx) (row : List Nat) (xs : List Nat) : List (List Nat) := (xs.filter (okNext f row)).map fun x => row ++ [x]
def longer (f : Mx) (n : Nat) (rows : List (List Nat)) : List (List Nat) := rows.flatMap fun row => extend f row (above n (row.headD 0))
def rowsAt (f : Mx) (n : Nat) : Nat → List (List Nat)
  | 0 => (List.range n).map fun s => [s]
  | k + 1 => longer f n (rowsAt f n k)
def closing (f : Mx) (row : List Nat) : Bool := decide (f (row.getLastD 0) (row.headD 0) = 1)
def ringAt (f : Mx) (n k : Nat) : Option (List Nat) := (rowsAt f n (k + 1)).find? (closing f)
def ring (f : Mx) (n : Nat) : List Nat := ((List.range (n - 1)).findSome? (ringAt f n)).getD []
def isSound (f : Mx) (n : Nat) : Bool := decide ((ring f n).length = 0)
def firstFree (nd : List Nat) (m : Nat) : Nat := ((List.range nd.length).find? (mayF nd m)).getD nd.length
def firstStep (nd : List Nat) (p : List Nat × Nat) : List Nat × Nat := (p.1 ++ [firstFree nd p.2], grown p.2 (firstFree nd p.2))
def firstAt (nd : List Nat) (i : Nat) : List Nat × Nat := lp (fun _ => firstStep nd) ([], 0) i
def firstOrder (nd : List Nat) : List Nat := (firstAt nd nd.length).1
def every (n : Nat) : Nat := 2 ^ n - 1
def waysIn (nd : List Nat) (m : Nat) (w : List Nat) (i : Nat) : List Nat := lp (fun x w => if mayF nd m x = true then w.set (grown m x) (w.getD (grown m x) 0 + w.getD m 0) else w) w i
def ways0 (n : Nat) : List Nat := (List.replicate (2 ^ n) 0).set 0 1
def ways (nd : List Nat) (k : Nat) : List Nat := lp (fun m w => waysIn nd m w nd.length) (ways0 nd.length) k
def cnt (nd : List Nat) : Nat := (ways nd (every nd.length)).getD (every nd.length) 0
def cntB (nd : List Nat) (a b : Nat) : Nat := cnt (nd.set b (grown (nd.getD b 0) a))

/-! ### against -/
def againstIn (t : Mx) (o : List Nat) (i s j : Nat) : Nat := lp (fun d s => s + t (o.getD (i + 1 + d) 0) (o.getD i 0)) s j
def saidAgainst (t : Mx) (o : List Nat) (i : Nat) : Nat := lp (fun i s => againstIn t o i s (o.length - (i + 1))) 0 i
def costNext (t : Mx) (m x i : Nat) : Nat := lp (fun y s => if (!decide (y = x) && !m.testBit y) = true then s + t y x else s) 0 i
def costFrom (t : Mx) (nd : List Nat) (r : List Int) (m x : Nat) : Int :=
  if mayF nd m x = true then (if r.getD (grown m x) 0 = -1 then -1 else (costNext t m x nd.length : Int) + r.getD (grown m x) 0) else -1
def leastStep (c least : Int) : Int := if c ≠ -1 ∧ (least = -1 ∨ c < least) then c else least
def leastFrom (t : Mx) (nd : List Nat) (r : List Int) (m i : Nat) : Int := lp (fun x least => leastStep (costFrom t nd r m x) least) (-1) i
def restStep (t : Mx) (nd : List Nat) (m : Nat) (r : List Int) : List Int := r.set m (leastFrom t nd r m nd.length)
def rests (t : Mx) (nd : List Nat) (i : Nat) : List Int := lp (fun i r => restStep t nd (every nd.length - 1 - i) r) (List.replicate (2 ^ nd.length) 0) i
def restOf (t : Mx) (nd : List Nat) : List Int := rests t nd (every nd.length)
def nextBest (t : Mx) (nd : List Nat) (r : List Int) (m : Nat) : Nat := ((List.range nd.length).find? fun x => decide (costFrom t nd r m x = r.getD m 0)).getD nd.length
def bestStep (t : Mx) (nd : List Nat) (r : List Int) (p : List Nat × Nat) : List Nat × Nat := (p.1 ++ [nextBest t nd r p.2], grown p.2 (nextBest t nd r p.2))
def bestAt (t : Mx) (nd : List Nat) (r : List Int) (i : Nat) : List Nat × Nat := lp (fun _ => bestStep t nd r) ([], 0) i
def bestOrder (t : Mx) (nd : List Nat) : List Nat := (bestAt t nd (restOf t nd) nd.length).1
def isAgainst (f : Mx) (o : List Nat) (a b : Nat) : Bool := decide (f a b = 1) && decide (o.idxOf b < o.idxOf a)
def pairsAgainst (f : Mx) (n : Nat) (o : List Nat) (i : Nat) : List (Nat × Nat) := (List.range i).flatMap fun a => ((List.range n).filter fun b => isAgainst f o a b).map fun b => (a, b)

/-! ### chances -/
def fraction (a b : Nat) : List Nat := [a / Nat.gcd a b, b / Nat.gcd a b]
def choices (m k : Nat) : Nat := lp (fun i s => s * (m - i) / (i + 1)) 1 k
def luckyWays (g r i : Nat) : Nat := lp (fun i s => s + choices g (r + i) * 2 ^ (g - (r + i))) 0 i
def lucky (g r : Nat) : Nat := luckyWays g r (g + 1 - r)
def luck (g r : Nat) : List Nat := fraction (lucky g r) (3 ^ g)
def leastNeeded (g q : Nat) : Option Nat := (List.range (g + 1)).find? fun r => decide (lucky g r * q ≤ 3 ^ g)
structure Pl where
  least : Nat
  less : Nat
  together : Nat
def placeStep (nd : List Nat) (x y : Nat) (p : Pl) : Pl :=
  if y = x then p else ⟨if cntB nd y x = cnt nd then p.least + 1 else p.least, if cntB nd y x = 0 then p.less + 1 else p.less, p.together + cntB nd y x⟩
def placesAt (nd : List Nat) (x i : Nat) : Pl := lp (placeStep nd x) ⟨1, 0, cnt nd⟩ i
def places (nd : List Nat) (x : Nat) : List Nat := [(placesAt nd x nd.length).least, nd.length - (placesAt nd x nd.length).less] ++ fraction (placesAt nd x nd.length).together (cnt nd)
def isOpen (nd : List Nat) (e a b : Nat) : Bool := decide (0 < cntB nd a b) && decide (cntB nd a b < e)
def openRow (nd : List Nat) (e a : Nat) (bs : List Nat) : List (Nat × Nat × Nat) := (bs.filter (isOpen nd e a)).map fun b => (a, b, cntB nd a b)
def openPairs (nd : List Nat) (e i : Nat) : List (Nat × Nat × Nat) := (List.range i).flatMap fun a => openRow nd e a (above nd.length a)
def offOf (b e : Nat) : Nat := (2 * (b : Int) - (e : Int)).natAbs
def askStep (e : Nat) (p : List Nat × Nat) (x : Nat × Nat × Nat) : List Nat × Nat := if offOf x.2.2 e < p.2 then ([x.1, x.2.1] ++ fraction x.2.2 e, offOf x.2.2 e) else p
def pairToAsk (nd : List Nat) : List Nat := ((openPairs nd (cnt nd) nd.length).foldl (askStep (cnt nd)) ([], cnt nd)).1

/-! ### the panel -/
structure MN where
  said : Mx
  weight : Nat
structure MT where
  nose : Nat
  a : Nat
  b : Nat
  right : Nat
structure MS where
  n : Nat
  noses : List MN
  trials : List MT
def freshN : MN := ⟨fun _ _ => 0, 1⟩
def MN.put (x : MN) (a b v w : Nat) : MN := ⟨fun i j => if i = b ∧ j = a then w else if i = a ∧ j = b then v else x.said i j, x.weight⟩
def start : MS := ⟨0, [], []⟩
def hasSaid (x : MN) (a b : Nat) : Bool := decide (0 < x.said a b + x.said b a)
def pairsSaid (n : Nat) (x : MN) : Nat := ((List.range n).map fun i => ((List.range n).map fun j => x.said i j).sum).sum
def weightOver (l : List MN) (a b : Nat) : Nat := (l.map fun x => x.weight * x.said a b).sum
def zOf (n j : Nat) : Nat := if j = 0 then 0 else if j % 2 = 1 then (j + 1) / 2 else n - j / 2
def planRows (n : Nat) : Nat := if n % 2 = 1 then 2 * n else n
def planRow (n i : Nat) : List Nat := let r := (List.range n).map fun j => (zOf n j + i) % n
  if n ≤ i then r.reverse else r
def needs (f : Mx) (n : Nat) : List Nat := (List.range n).map (setOver f n)

/-! ### the answers: a refusal is a number below 0 -/
def no (z : Int) : List Int := [z]
def yes (l : List Nat) : List Int := 0 :: l.map fun (n : Nat) => (n : Int)
def pairsOfBoth (n : Nat) (x y : MN) (i : Nat) : List (Nat × Nat) := (List.range i).flatMap fun a => ((above n a).filter fun b => hasSaid x a b && hasSaid y a b).map fun b => (a, b)
def sameIn (x y : MN) (l : List (Nat × Nat)) : Nat := (l.filter fun p => decide (x.said p.1 p.2 = y.said p.1 p.2)).length
def beatsAll (t : Mx) (n x : Nat) : Bool := (List.range n).all fun y => decide (y = x) || decide (t y x < t x y)
def noseNo (s : MS) (h : Nat) : Int := if s.noses.length ≤ h then -3 else 0
def pairNo (s : MS) (a b : Nat) : Int := if s.n ≤ a ∨ s.n ≤ b then -3 else if a = b then -4 else 0
def nosePairNo (s : MS) (h a b : Nat) : Int := if s.noses.length ≤ h then -3 else pairNo s a b
def noseAt (s : MS) (h : Nat) : MN := s.noses.getD h freshN
def soundNo (s : MS) (h : Nat) : Int := if noseNo s h = 0 then (if isSound (noseAt s h).said s.n = true then 0 else -4) else noseNo s h
def soundPairNo (s : MS) (h a b : Nat) : Int := if nosePairNo s h a b = 0 then soundNo s h else nosePairNo s h a b
def ndOf (s : MS) (h : Nat) : List Nat := needs (noseAt s h).said s.n
def nothing (n : Nat) : List Nat := List.replicate n 0
/-- an answer, or a refusal -/
def gate (z : Int) (l : List Int) : List Int := if z = 0 then l else no z
def putNose (s : MS) (h : Nat) (x : MN) : MS := { s with noses := s.noses.set h x }

def aPanel (s : MS) (n k : Nat) : MS × List Int := if (2 ≤ n ∧ n ≤ 8) ∧ (1 ≤ k ∧ k ≤ 8) then (⟨n, List.replicate k freshN, []⟩, yes []) else (s, no (-1))
def aSay (s : MS) (h a b : Nat) : MS × List Int := if nosePairNo s h a b = 0 then (putNose s h ((noseAt s h).put a b 1 0), yes [pairsSaid s.n ((noseAt s h).put a b 1 0)]) else (s, no (nosePairNo s h a b))
def aUnsay (s : MS) (h a b : Nat) : MS × List Int := if nosePairNo s h a b = 0 then
    (if hasSaid (noseAt s h) a b = true then (putNose s h ((noseAt s h).put a b 0 0), yes [pairsSaid s.n ((noseAt s h).put a b 0 0)]) else (s, no (-4)))
  else (s, no (nosePairNo s h a b))
def aWeigh (s : MS) (h w : Nat) : MS × List Int := if w ≤ 9 then (if noseNo s h = 0 then (putNose s h { noseAt s h with weight := w }, yes []) else (s, no (noseNo s h))) else (s, no (-1))
def aRing (s : MS) (h : Nat) : List Int := gate (noseNo s h) (yes ((ring (noseAt s h).said s.n).length :: ring (noseAt s h).said s.n))
def mendPairs (s : MS) (h : Nat) : List (Nat × Nat) := pairsAgainst (noseAt s h).said s.n (bestOrder (noseAt s h).said (nothing s.n)) s.n
def flat2 (l : List (Nat × Nat)) : List Nat := l.flatMap fun p => [p.1, p.2]
def aMend (s : MS) (h : Nat) : List Int := gate (noseNo s h) (yes ((mendPairs s h).length :: flat2 (mendPairs s h)))
def followsOf (nd : List Nat) (a b : Nat) : Nat := if cntB nd a b = cnt nd then 1 else if cntB nd a b = 0 then 0 else 2
def aFollows (s : MS) (h a b : Nat) : List Int := gate (soundPairNo s h a b) (yes [followsOf (ndOf s h) a b])
def aFirst (s : MS) (h : Nat) : List Int := gate (soundNo s h) (yes (firstOrder (ndOf s h)))
def aMany (s : MS) (h : Nat) : List Int := gate (noseNo s h) (yes [cnt (ndOf s h)])
def aChance (s : MS) (h a b : Nat) : List Int := gate (soundPairNo s h a b) (yes (fraction (cntB (ndOf s h) a b) (cnt (ndOf s h))))
def aPlace (s : MS) (h a : Nat) : List Int := gate (noseNo s h) (if s.n ≤ a then no (-3) else gate (soundNo s h) (yes (places (ndOf s h) a)))
def aAsk (s : MS) (h : Nat) : List Int := gate (soundNo s h) (if (pairToAsk (ndOf s h)).length = 0 then no (-4) else yes (pairToAsk (ndOf s h)))
def aAgree (s : MS) (g h : Nat) : List Int := gate (noseNo s g) (gate (noseNo s h) (yes [(pairsOfBoth s.n (noseAt s g) (noseAt s h) s.n).length, sameIn (noseAt s g) (noseAt s h) (pairsOfBoth s.n (noseAt s g) (noseAt s h) s.n)]))
def aOver (s : MS) (a b : Nat) : List Int := gate (pairNo s a b) (yes [weightOver s.noses a b, weightOver s.noses b a])
def aKing (s : MS) : List Int := yes [match (List.range s.n).find? (beatsAll (weightOver s.noses) s.n) with
  | some x => x + 1
  | none => 0]
def isOrd (n : Nat) (o : List Nat) : Bool := decide (o.length = n) && (List.range n).all o.contains
def aAgainst (s : MS) (o : List Nat) : List Int := if isOrd s.n o = true then yes [saidAgainst (weightOver s.noses) o o.length] else no (-1)
def told (s : MS) (nd : List Nat) : List Int := let o := bestOrder (weightOver s.noses) nd
  yes (saidAgainst (weightOver s.noses) o o.length :: o)
def aBest (s : MS) : List Int := told s (nothing s.n)
def aNear (s : MS) (h : Nat) : List Int := gate (soundNo s h) (told s (ndOf s h))
def aTrial (s : MS) (h a b r : Nat) : MS × List Int := if r ≤ 1 then (if nosePairNo s h a b = 0 then (if s.trials.length = 36 then (s, no (-9)) else ({ s with trials := s.trials ++ [⟨h, a, b, r⟩] }, yes [s.trials.length + 1])) else (s, no (nosePairNo s h a b))) else (s, no (-1))
def aUntry (s : MS) : MS × List Int := if s.trials.length = 0 then (s, no (-4)) else ({ s with trials := s.trials.dropLast }, yes [s.trials.length - 1])
def rightsOf (l : List MT) : Nat := (l.map MT.right).sum
def trialsOf (s : MS) (h : Nat) : List MT := s.trials.filter fun t => decide (t.nose = h)
def aScore (s : MS) (h : Nat) : List Int := gate (noseNo s h) (yes [(trialsOf s h).length, rightsOf (trialsOf s h)])
def isWith (a b : Nat) (t : MT) : Bool := (decide (t.a = a) && decide (t.b = b)) || (decide (t.a = b) && decide (t.b = a))
def trialsWith (s : MS) (a b : Nat) : List MT := s.trials.filter (isWith a b)
def aApart (s : MS) (a b : Nat) : List Int := gate (pairNo s a b) (yes ([(trialsWith s a b).length, rightsOf (trialsWith s a b)] ++ luck (trialsWith s a b).length (rightsOf (trialsWith s a b))))
def aLuck (m r : Nat) : List Int := if m ≤ 30 ∧ r ≤ m then yes (luck m r) else no (-1)
def aNeed (m q : Nat) : List Int := if m ≤ 30 ∧ 1 ≤ q ∧ q ≤ 1000000 then (match leastNeeded m q with
  | some r => yes [r]
  | none => no (-4)) else no (-1)
def aSheet (s : MS) (i : Nat) : List Int := if planRows s.n ≤ i then no (-1) else yes (planRow s.n i)
def aTold (s : MS) : List Int := yes ([s.n, s.noses.length, s.trials.length] ++ s.noses.flatMap fun x => [pairsSaid s.n x, x.weight])

/-- a call: its number, its numbers, its rows -/
def act (s : MS) (c : Nat) (l : List Nat) (rows : List (List Nat)) : MS × List Int :=
  let x := l.getD 0 0
  let y := l.getD 1 0
  let z := l.getD 2 0
  match c with
  | 0 => aPanel s x y
  | 1 => aSay s x y z
  | 2 => aUnsay s x y z
  | 3 => aWeigh s x y
  | 4 => (s, aRing s x)
  | 5 => (s, aMend s x)
  | 6 => (s, aFollows s x y z)
  | 7 => (s, aFirst s x)
  | 8 => (s, aMany s x)
  | 9 => (s, aChance s x y z)
  | 10 => (s, aPlace s x y)
  | 11 => (s, aAsk s x)
  | 12 => (s, aAgree s x y)
  | 13 => (s, aOver s x y)
  | 14 => (s, aKing s)
  | 15 => (s, aAgainst s (rows.getD 0 []))
  | 16 => (s, aBest s)
  | 17 => (s, aNear s x)
  | 18 => aTrial s x y z (l.getD 3 0)
  | 19 => aUntry s
  | 20 => (s, aScore s x)
  | 21 => (s, aApart s x y)
  | 22 => (s, aLuck x y)
  | 23 => (s, aNeed x y)
  | 24 => (s, aSheet s x)
  | 25 => (s, aTold s)
  | _ => (s, [])
def numsOf (c : Nat) : Nat := [2, 3, 3, 2, 1, 1, 3, 1, 1, 3, 2, 1, 2, 2, 0, 0, 0, 1, 4, 0, 1, 2, 2, 2, 1, 0].getD c 0
end Np
set_option Elab.async false
set_option linter.all false
set_option maxRecDepth 100000
set_option maxHeartbeats 4000000
namespace Np
open PySem PySem.Spec PyProof.Rows L2 Evl

/-! ### numbers that are not negative -/
abbrev nV (n : Nat) : V := .int (n : Int)
abbrev nL (l : List Nat) : List V := l.map nV
theorem nL_len (l : List Nat) : (nL l).length = l.length := List.length_map ..
theorem nL_at {l : List Nat} {i : Nat} (h : i < l.length) : (nL l)[i]? = some (nV (l.getD i 0)) := by
  rw [List.getElem?_map, List.getD_eq_getElem?_getD, List.getElem?_eq_getElem h]
  rfl
theorem nL_set (l : List Nat) (i v : Nat) : (nL l).set i (nV v) = nL (l.set i v) := by
  unfold nL
  rw [List.map_set]
theorem nL_app (l : List Nat) (v : Nat) : nL l ++ [nV v] = nL (l ++ [v]) := by
  unfold nL
  rw [List.map_append]
  rfl

section
variable {K : PySem.W.Frag} {σ : L2.St} {H H' : Hp} {ta tb tc td te : TE} {t u : TT} {x y z v : V} {a b c : Nat}
theorem v0 (i : Nat) {v : V} (h : σ[i]? = some (some v)) : Ev (tVar i) σ H v := ev_var h
theorem e_n {i : Int} (h : i = (a : Int)) : Ev (tC (.int i)) σ H (nV a) := by
  rw [h]
  exact ev_c
theorem r_is {r : R2} {w : V} (e : z = w) (h : RV r x y H z) : RV r x y H w := e ▸ h
theorem r_add : RV (rI0 fun i j => .int (i + j)) (nV a) (nV b) H (nV (a + b)) := r_is (congrArg V.int (by omega)) rv_I0
theorem r_sub (h : b ≤ a) : RV (rI0 fun i j => .int (i - j)) (nV a) (nV b) H (nV (a - b)) := r_is (congrArg V.int (by omega)) rv_I0
theorem r_mul (h : a < 18446744073709551616 ∨ b < 18446744073709551616) : RV (rI CMul fun i j => .int (i * j)) (nV a) (nV b) H (nV (a * b)) :=
  r_is (congrArg V.int (Int.natCast_mul a b).symm) (rv_I (by
    rcases h with h | h
    · exact Or.inl ⟨by omega, by omega⟩
    · exact Or.inr ⟨by omega, by omega⟩))
theorem r_div (h : 0 < b) (h2 : b < 1073741824) : RV (rI CDiv fun i j => .int (i / j)) (nV a) (nV b) H (nV (a / b)) := r_is (congrArg V.int (Int.natCast_ediv a b).symm) (rv_I ⟨by omega, by omega⟩)
theorem r_divW (h : 0 < b) (h2 : b < 2 ^ 100) : RV (rI CDivW fun i j => .int (i / j)) (nV a) (nV b) H (nV (a / b)) :=
  r_is (congrArg V.int (Int.natCast_ediv a b).symm) (rv_I (wide_div (b := 100) (by omega) (by omega) (by decide) (by decide)))
theorem r_mod (h : 0 < b) : RV (rI (fun _ j => 0 < j) fun i j => .int (i % j)) (nV a) (nV b) H (nV (a % b)) := r_is (congrArg V.int (Int.natCast_emod a b).symm) (rv_I (by omega))
theorem r_shl (h : a ≤ 1000000) : RV (rI CPow fun i j => .int (i * 2 ^ j.toNat)) (.int 1) (nV a) H (nV (2 ^ a)) :=
  r_is (congrArg V.int (by simp)) (rv_I ⟨by omega, by omega, by decide⟩)
theorem r_and : RV (rI0 fun i j => .int (Builtin.bitAnd i j)) (nV a) (nV b) H (nV (a &&& b)) :=
  r_is (congrArg V.int (by rw [bitAnd_pp (by omega) (by omega)]; simp)) rv_I0
theorem r_or : RV (rI0 fun i j => .int (Builtin.bitOr i j)) (nV a) (nV b) H (nV (a ||| b)) :=
  r_is (congrArg V.int (by rw [Bits.bitOr_pp (by omega) (by omega)]; simp)) rv_I0
theorem nV_inj (h : nV a = nV b) : a = b := by
  have e := V.int.inj h
  omega
theorem dec_nV : decide (nV a = nV b) = decide (a = b) := by
  by_cases h : a = b
  · rw [h, decide_eq_true rfl, decide_eq_true rfl]
  · rw [decide_eq_false h, decide_eq_false fun e => h (nV_inj e)]
theorem r_eq : RV rEq (nV a) (nV b) H (.bl (decide (a = b))) := r_is (congrArg V.bl dec_nV) (rv_eq rfl)
theorem r_ne : RV rNe (nV a) (nV b) H (.bl (!decide (a = b))) := r_is (congrArg (fun c => V.bl (!c)) dec_nV) (rv_ne rfl)
theorem r_lt : RV (rI0 fun i j => .bl (decide (i < j))) (nV a) (nV b) H (.bl (decide (a < b))) := r_is (congrArg V.bl (decide_eq_decide.mpr (by omega))) rv_I0
theorem r_le : RV (rI0 fun i j => .bl (decide (i ≤ j))) (nV a) (nV b) H (.bl (decide (a ≤ b))) := r_is (congrArg V.bl (decide_eq_decide.mpr (by omega))) rv_I0
theorem r_gt : RV (rI0 fun i j => .bl (decide (j < i))) (nV a) (nV b) H (.bl (decide (b < a))) := r_is (congrArg V.bl (decide_eq_decide.mpr (by omega))) rv_I0
theorem r_ge : RV (rI0 fun i j => .bl (decide (j ≤ i))) (nV a) (nV b) H (.bl (decide (b ≤ a))) := r_is (congrArg V.bl (decide_eq_decide.mpr (by omega))) rv_I0

/-! ### calls by values -/
theorem c1 {sp : Sp} {E : XK} (h : Ev ta σ H x) (s : SpV sp [x] H z) : Ev (tCall sp [] E (tCons ta tNil)) σ H z := ev_call (ea_cons h ea_nil) s
theorem c2 {sp : Sp} {E : XK} (h : Ev ta σ H x) (h2 : Ev tb σ H y) (s : SpV sp [x, y] H z) : Ev (tCall sp [] E (tCons ta (tCons tb tNil))) σ H z := ev_call (ea_cons h (ea_cons h2 ea_nil)) s
theorem c3 {sp : Sp} {E : XK} (h : Ev ta σ H x) (h2 : Ev tb σ H y) (h3 : Ev tc σ H v) (s : SpV sp [x, y, v] H z) : Ev (tCall sp [] E (tCons ta (tCons tb (tCons tc tNil)))) σ H z := ev_call (ea_cons h (ea_cons h2 (ea_cons h3 ea_nil))) s
end

/-! ### lists of objects: matrices, rows, pairs -/
def row (n : Nat) (g : Nat → Nat) : List V := (List.range n).map fun j => nV (g j)
theorem row_at {n j : Nat} {g : Nat → Nat} (h : j < n) : (row n g)[j]? = some (nV (g j)) := by
  unfold row
  rw [List.getElem?_map, List.getElem?_range h]
  rfl
theorem row_len (n : Nat) (g : Nat → Nat) : (row n g).length = n := by
  unfold row
  rw [List.length_map, List.length_range]
/-- at p: a list of objects, each as it is told -/
def Refs (H : Hp) (p : Addr) (os : List HO) : Prop := ∃ as : List Addr, as.length = os.length ∧ p ∉ as ∧ H p = some (.lst (as.map V.ref)) ∧ ∀ (i : Nat) (a : Addr) (o : HO), as[i]? = some a → os[i]? = some o → H a = some o
def MatO (n : Nat) (f : Mx) : List HO := (List.range n).map fun i => .lst (row n (f i))
/-- a matrix -/
abbrev Mat (H : Hp) (p : Addr) (n : Nat) (f : Mx) : Prop := Refs H p (MatO n f)
theorem Refs.mono {H H' : Hp} {p : Addr} {os : List HO} (e : Ex H H') (h : Refs H p os) : Refs H' p os := by
  obtain ⟨as, h1, h0, h2, h3⟩ := h
  exact ⟨as, h1, h0, e _ _ h2, fun i a o x y => e _ _ (h3 i a o x y)⟩
theorem Refs.at_ {H : Hp} {p : Addr} {os : List HO} {i : Nat} {o : HO} (h : Refs H p os) (hi : os[i]? = some o) : ∃ a xs, H p = some (.lst xs) ∧ xs.length = os.length ∧ xs[i]? = some (V.ref a) ∧ H a = some o := by
  obtain ⟨as, h1, _, h2, h3⟩ := h
  have hl : i < as.length := by
    rw [h1]
    exact (List.getElem?_eq_some_iff.mp hi).1
  refine ⟨as[i], _, h2, by rw [List.length_map]; exact h1, by rw [List.getElem?_map, List.getElem?_eq_getElem hl]; rfl, h3 i _ o (List.getElem?_eq_getElem hl) hi⟩
theorem Refs.list {H : Hp} {p : Addr} {os : List HO} (h : Refs H p os) : ∃ xs, H p = some (.lst xs) ∧ xs.length = os.length := by
  obtain ⟨as, h1, _, h2, _⟩ := h
  exact ⟨_, h2, by rw [List.length_map]; exact h1⟩
theorem matO_at {n i : Nat} {f : Mx} (h : i < n) : (MatO n f)[i]? = some (.lst (row n (f i))) := by
  unfold MatO
  rw [List.getElem?_map, List.getElem?_range h]
  rfl
theorem matO_len (n : Nat) (f : Mx) : (MatO n f).length = n := by
  unfold MatO
  rw [List.length_map, List.length_range]
section
variable {K : PySem.W.Frag} {σ : L2.St} {H H' : Hp} {ta tb tc td te : TE} {p : Addr} {n i j : Nat} {f : Mx} {l : List Nat}
/-- xs[i] of a list of numbers -/
theorem e_ix (ha : Ev ta σ H (.ref p)) (hp : SqL K H p (nL l)) (hb : Ev tb σ H (nV i)) (hi : i < l.length) : Ev (tOp (rIxL K) ta tb) σ H (nV (l.getD i 0)) := ev_op ha hb (rv_ixL hp (atI_nat (nL_at hi)))
/-- t[i][j] -/
theorem e_mx (ha : Ev ta σ H (.ref p)) (hp : Mat H p n f) (hb : Ev tb σ H (nV i)) (hc : Ev tc σ H (nV j)) (hi : i < n) (hj : j < n) : Ev (tOp (rIxL K) (tOp (rIxL K) ta tb) tc) σ H (nV (f i j)) := by
  obtain ⟨a, xs, h1, _, h3, h4⟩ := hp.at_ (matO_at hi)
  exact ev_op (ev_op ha hb (rv_ixL (SqL.of h1) (atI_nat h3))) hc (rv_ixL (SqL.of h4) (atI_nat (row_at hj)))
/-- len of a list -/
theorem e_len {xs : List V} {m : Nat} (ha : Ev ta σ H (.ref p)) (h : SqL K H p xs) (e : xs.length = m) : Ev (tCB (rLenS K) (tCons ta tNil)) σ H (nV m) := by
  subst e
  exact ev_len ha h
theorem e_lenM (ha : Ev ta σ H (.ref p)) (h : Mat H p n f) : Ev (tCB (rLenS K) (tCons ta tNil)) σ H (nV n) := by
  obtain ⟨xs, h1, h2⟩ := h.list
  exact e_len ha (SqL.of h1) (h2.trans (matO_len n f))
theorem e_lenL (ha : Ev ta σ H (.ref p)) (h : SqL K H p (nL l)) : Ev (tCB (rLenS K) (tCons ta tNil)) σ H (nV l.length) := e_len ha h (nL_len l)

/-! ### loops -/
variable {D : Ends} {tu tz : TS} {g : TG} {s : Nat}
theorem s_R1 {m : Nat} {k : Nat} (h : Ev ta σ H (nV m)) (hn : m ≤ 100000) (Pv : Nat → L2.St → Hp → Prop) (h0 : ∀ H1, Ex H H1 → Pv 0 σ H1)
    (hs : ∀ (i : Nat) σ' H', i < m → Pv i σ' H' → tu { D with nx := Pv (i + 1), ct := Pv (i + 1), bk := D.nx } (σ'.set k (some (nV i))) H') (hd : ∀ σ' H', Pv m σ' H' → D.nx σ' H') : tFor (iRng1 (tCons ta tNil)) (gName k) tu D σ H :=
  s_forR1 (ea_cons h ea_nil) ⟨by omega, by omega⟩ Pv h0 (fun i σ' H' hi p => hs i σ' H' (by omega) p) hd
theorem q_R1 {m : Nat} {k : Nat} (h : Ev ta σ H (nV m)) (hn : m ≤ 100000) (Pv : Nat → L2.St → Hp → Prop) (h0 : ∀ H1, Ex H H1 → Pv 0 σ H1)
    (hs : ∀ (i : Nat) σ' H', i < m → Pv i σ' H' → tu { D with nx := Pv (i + 1), ct := Pv (i + 1), bk := tz D } (σ'.set k (some (nV i))) H') (hd : ∀ σ' H', Pv m σ' H' → tz D σ' H') : tSeq (tFor (iRng1 (tCons ta tNil)) (gName k) tu) tz D σ H :=
  s_R1 (D := { D with nx := tz D }) h hn Pv h0 hs hd
/-- range(a, b): the turns a + 0, a + 1, .. -/
theorem s_R2 {lo m : Nat} {k : Nat} (h : Ev ta σ H (nV lo)) (h2 : Ev tb σ H (nV m)) (hn : lo ≤ 100000) (hm : m ≤ 100000) (Pv : Nat → L2.St → Hp → Prop) (h0 : ∀ H1, Ex H H1 → Pv 0 σ H1)
    (hs : ∀ (i : Nat) σ' H', lo + i < m → Pv i σ' H' → tu { D with nx := Pv (i + 1), ct := Pv (i + 1), bk := D.nx } (σ'.set k (some (nV (lo + i)))) H') (hd : ∀ σ' H', Pv (m - lo) σ' H' → D.nx σ' H') : tFor (iRng2 (tCons ta (tCons tb tNil))) (gName k) tu D σ H :=
  s_forR2 (ea_cons h (ea_cons h2 ea_nil)) ⟨by omega, by omega, by omega, by omega⟩ Pv h0 (fun i σ' H' hi p => by
    have e : (lo : Int) + (i : Int) = ((lo + i : Nat) : Int) := by omega
    rw [e]
    exact hs i σ' H' (by omega) p) (fun σ' H' p => hd σ' H' (by
      have e : ((m : Int) - (lo : Int)).toNat = m - lo := by omega
      rw [e] at p
      exact p))
theorem q_R2 {lo m : Nat} {k : Nat} (h : Ev ta σ H (nV lo)) (h2 : Ev tb σ H (nV m)) (hn : lo ≤ 100000) (hm : m ≤ 100000) (Pv : Nat → L2.St → Hp → Prop) (h0 : ∀ H1, Ex H H1 → Pv 0 σ H1)
    (hs : ∀ (i : Nat) σ' H', lo + i < m → Pv i σ' H' → tu { D with nx := Pv (i + 1), ct := Pv (i + 1), bk := tz D } (σ'.set k (some (nV (lo + i)))) H') (hd : ∀ σ' H', Pv (m - lo) σ' H' → tz D σ' H') : tSeq (tFor (iRng2 (tCons ta (tCons tb tNil))) (gName k) tu) tz D σ H :=
  s_R2 (D := { D with nx := tz D }) h h2 hn hm Pv h0 hs hd
/-- name += e, numbers -/
theorem s_augN {k a b : Nat} (hx : σ[k]? = some (some (nV a))) (h : Ev te σ H (nV b)) (kk : ∀ H1, Ex H H1 → D.nx (σ.set k (some (nV (a + b)))) H1) : tAug k te (ipI fun i j => i + j) D σ H :=
  s_aug hx h fun H1 e => by
    have e2 : (a : Int) + (b : Int) = ((a + b : Nat) : Int) := by omega
    rw [e2]
    exact kk H1 e
end

/-! ### defs by name -/
structure DefK (P : Program) (w : World) (K : PySem.W.Frag) (mg : Str → Option Value) (base : Heap) (x : Str) (k : Nat) (ps : List Str) (sp : Sp) : Prop where
  ex : ∃ f fd, mg x = some (.ref f) ∧ FnOk P w K mg base CX0 k f fd ps sp ∧ PySem.W.keepIn K (.ref f) = true ∧ Binds K fd ps []
theorem pe_def {X : Cx} {x : Str} {j k : Nat} {ps : List Str} {sp : Sp} {p pos : Pos} {e : Expr} {es : List Expr} {t : TA} (D : DefK X.prog X.w X.K X.mg X.base x j ps sp) (hr : Room k X.A) (ha : PA X (e :: es) t) (hj : j ≤ k := by decide) (hg : Gl X x := by rfl)
    (hdb : (x == ("__debug__" : Str)) = false := by decide) (he : starEach (e :: es) X.env = (false, eval e X.env) :: starEach es X.env := by rfl) (hpl : (backTo pos (starEach es X.env)).any (·.1) = false := by rfl) :
    PE X (.Call (.Name x p) (e :: es) [] pos) (tCall sp [] E0 t) := by
  obtain ⟨f, fd, hm, F, hk, hb⟩ := D.ex
  exact pe_call F (hr.mono hj) hg hm hk hb .nil pass0 ha hdb he hpl
/-- a method by name -/
structure MethK (P : Program) (w : World) (K : PySem.W.Frag) (mg : Str → Option Value) (base : Heap) (C : Addr) (m : Str) (k : Nat) (ps : List Str) (sp : Sp) : Prop where
  ex : ∃ f fd, Meth K C m f ∧ FnOk P w K mg base CX0 k f fd ps sp ∧ Binds K fd ps []
theorem pe_mth {X : Cx} {C : Addr} {m : Str} {j k : Nat} {ps : List Str} {sp : Sp} {pl : Sem Bool} {apos pos : Pos} {o e : Expr} {es : List Expr} {ta : TE} {t : TA} (D : MethK X.prog X.w X.K X.mg X.base C m j ps sp) (hr : Room k X.A) (he : PE X o ta) (c : Cls X.K C) (ha : PA X (e :: es) t) (hj : j ≤ k := by decide)
    (hst : starEach (e :: es) X.env = (false, eval e X.env) :: starEach es X.env := by rfl) (hpl : (backTo pos (starEach es X.env)).any (·.1) = false := by rfl)
    (ht : eval (.Call (.Attribute o m apos) (e :: es) [] pos) X.env = (do
      let ov ← eval o X.env
      standAt apos.atName
      let (f, first) ← holding [ov] (getMethod ov m pl)
      callWith pos f first (backTo pos (starEach (e :: es) X.env)) (backToKw pos (keywordEach [] X.env))) := by rfl) :
    PE X (.Call (.Attribute o m apos) (e :: es) [] pos) (tMeth C m sp [] E0 ta t) := by
  obtain ⟨f, fd, hm, F, hb⟩ := D.ex
  exact pe_meth he c hm F (hr.mono hj) hb .nil pass0 ha hst hpl ht
theorem pe_mth0 {X : Cx} {C : Addr} {m : Str} {j k : Nat} {ps : List Str} {sp : Sp} {pl : Sem Bool} {apos pos : Pos} {o : Expr} {ta : TE} (D : MethK X.prog X.w X.K X.mg X.base C m j ps sp) (hr : Room k X.A) (he : PE X o ta) (c : Cls X.K C) (hj : j ≤ k := by decide)
    (ht : eval (.Call (.Attribute o m apos) [] [] pos) X.env = (do
      let ov ← eval o X.env
      standAt apos.atName
      let (f, first) ← holding [ov] (getMethod ov m pl)
      callWith pos f first (backTo pos (starEach [] X.env)) (backToKw pos (keywordEach [] X.env))) := by rfl) :
    PE X (.Call (.Attribute o m apos) [] [] pos) (tMeth C m sp [] E0 ta tNil) := by
  obtain ⟨f, fd, hm, F, hb⟩ := D.ex
  exact pe_meth0 he c hm F (hr.mono hj) hb .nil pass0 ht
/-- a class by its __init__ -/
structure MakeK (P : Program) (w : World) (K : PySem.W.Frag) (mg : Str → Option Value) (base : Heap) (C : Addr) (k : Nat) (ps : List Str) (sp : Sp) : Prop where
  ex : ∃ f fd, Mk K C f ∧ FnOk P w K mg base CX0 k f fd ps sp ∧ Binds K fd ps []
theorem pe_mk {X : Cx} {C : Addr} {x : Str} {j k : Nat} {ps : List Str} {sp : Sp} {p pos : Pos} {e : Expr} {es : List Expr} {t : TA} (D : MakeK X.prog X.w X.K X.mg X.base C j ps sp) (hr : Room k X.A) (hm : X.mg x = some (.ref C)) (ha : PA X (e :: es) t) (hj : j + 1 ≤ k := by decide) (hg : Gl X x := by rfl)
    (hdb : (x == ("__debug__" : Str)) = false := by decide) (he : starEach (e :: es) X.env = (false, eval e X.env) :: starEach es X.env := by rfl) (hpl : (backTo pos (starEach es X.env)).any (·.1) = false := by rfl) :
    PE X (.Call (.Name x p) (e :: es) [] pos) (tMake C sp [] E0 t) := by
  obtain ⟨f, fd, M, F, hb⟩ := D.ex
  exact pe_make M F (hr.mono hj) hg hm hb .nil pass0 ha hdb he hpl
theorem pe_mk0 {X : Cx} {C : Addr} {x : Str} {j k : Nat} {ps : List Str} {sp : Sp} {p pos : Pos} (D : MakeK X.prog X.w X.K X.mg X.base C j ps sp) (hr : Room k X.A) (hm : X.mg x = some (.ref C)) (hj : j + 1 ≤ k := by decide) (hg : Gl X x := by rfl)
    (hdb : (x == ("__debug__" : Str)) = false := by decide) : PE X (.Call (.Name x p) [] [] pos) (tMake C sp [] E0 tNil) := by
  obtain ⟨f, fd, M, F, hb⟩ := D.ex
  exact pe_make0 M F (hr.mono hj) hg hm hb .nil pass0 hdb
/-- a module's number -/
theorem pe_const {X : Cx} {x : Str} {i : Int} {pos : Pos} (h : ∃ t, X.mg x = some (.int i t)) (hg : Gl X x := by rfl) (hd : (x == ("__debug__" : Str)) = false := by decide) : PE X (.Name x pos) (tC (.int i)) := by
  obtain ⟨t, h⟩ := h
  exact pe_glob hg h ⟨t, rfl⟩ hd
/-- a written dict whose keys are 0, 1, .. -/
def KInts (K : PySem.W.Frag) (a : Addr) (vs : List V) : Prop := (a == sysModules) = false ∧ ∃ (es : Array DictEntry) (n : Nat), K.lookup a = some ⟨.type "dict", none, .dict es n, #[]⟩ ∧
  es.size = vs.length ∧ ∀ (i : Nat) (e : DictEntry) (v : V), es[i]? = some e → vs[i]? = some v → (∃ t, e.key = .int (i : Int) t) ∧ e.hash = hashInt (i : Int) ∧ RelV v e.val
def rIxK (a : Addr) (vs : List V) : R2 := fun x y H Q => ∃ i v, x = .ref a ∧ y = nV i ∧ vs[i]? = some v ∧ Q v H
abbrev CNose (K : PySem.W.Frag) : Addr := He.ga K "Nose"
abbrev CPanel (K : PySem.W.Frag) : Addr := He.ga K "Panel"
def numsL : List Nat := [2, 3, 3, 2, 1, 1, 3, 1, 1, 3, 2, 1, 2, 2, 0, 0, 0, 1, 4, 0, 1, 2, 2, 2, 1, 0]
def deedL : List Str := ["answer_panel", "answer_say", "answer_unsay", "answer_weigh", "answer_ring", "answer_mend", "answer_follows", "answer_first", "answer_many", "answer_chance", "answer_place", "answer_ask", "answer_agree", "answer_over", "answer_king", "answer_against", "answer_best", "answer_near", "answer_trial", "answer_untry", "answer_score", "answer_apart", "answer_luck", "answer_need", "answer_sheet", "answer_told"]
def deedA (K : PySem.W.Frag) (i : Nat) : Addr := He.ga K (deedL.getD i "")
/-- what the top has left: the names of Python's own, the module's numbers, the classes -/
structure Txt (K : PySem.W.Frag) (mg : Str → Option Value) : Prop where
  range : mg "range" = none
  len : mg "len" = none
  sum : mg "sum" = none
  abs : mg "abs" = none
  sorted : mg "sorted" = none
  list : mg "list" = none
  c_NO_WAY : ∃ t, mg "NO_WAY" = some (.int (-1) t)
  c_LEAST_SAMPLES : ∃ t, mg "LEAST_SAMPLES" = some (.int (2) t)
  c_MOST_SAMPLES : ∃ t, mg "MOST_SAMPLES" = some (.int (8) t)
  c_LEAST_NOSES : ∃ t, mg "LEAST_NOSES" = some (.int (1) t)
  c_MOST_NOSES : ∃ t, mg "MOST_NOSES" = some (.int (8) t)
  c_MOST_WEIGHT : ∃ t, mg "MOST_WEIGHT" = some (.int (9) t)
  c_MOST_TRIALS : ∃ t, mg "MOST_TRIALS" = some (.int (36) t)
  c_MOST_GUESSES : ∃ t, mg "MOST_GUESSES" = some (.int (30) t)
  c_MOST_ODDS : ∃ t, mg "MOST_ODDS" = some (.int (1000000) t)
  c_ALL_WELL : ∃ t, mg "ALL_WELL" = some (.int (0) t)
  c_OUT_OF_RANGE : ∃ t, mg "OUT_OF_RANGE" = some (.int (-1) t)
  c_NOT_THERE : ∃ t, mg "NOT_THERE" = some (.int (-3) t)
  c_CANNOT_BE : ∃ t, mg "CANNOT_BE" = some (.int (-4) t)
  c_FULL : ∃ t, mg "FULL" = some (.int (-9) t)
  c_BEFORE : ∃ t, mg "BEFORE" = some (.int (1) t)
  c_BEHIND : ∃ t, mg "BEHIND" = some (.int (0) t)
  c_EITHER : ∃ t, mg "EITHER" = some (.int (2) t)
  c_AGAINST : ∃ t, mg "AGAINST" = some (.int (15) t)
  g_Nose : mg "Nose" = some (.ref (CNose K))
  g_Panel : mg "Panel" = some (.ref (CPanel K))
  k_Nose : Cls K (CNose K)
  k_Panel : Cls K (CPanel K)
  a_said : NoAttr K (CNose K) "said"
  a_weight : NoAttr K (CNose K) "weight"
  a_samples : NoAttr K (CPanel K) "samples"
  a_noses : NoAttr K (CPanel K) "noses"
  a_trials : NoAttr K (CPanel K) "trials"
  g_MANY_NUMBERS : mg "MANY_NUMBERS" = some (.ref (He.ga K "MANY_NUMBERS"))
  t_MANY_NUMBERS : KInts K (He.ga K "MANY_NUMBERS") (nL numsL)
  g_DEEDS : mg "DEEDS" = some (.ref (He.ga K "DEEDS"))
  t_DEEDS : KInts K (He.ga K "DEEDS") ((List.range 26).map fun i => V.ref (deedA K i))
/-- xs[i], by values, for xs[i] += .. -/
def rGetL (K : PySem.W.Frag) : V → V → Hp → VK → Prop := fun x y H Q => ∃ p xs i v, x = .ref p ∧ y = nV i ∧ SqL K H p xs ∧ xs[i]? = some v ∧ Q v H
theorem get_list {X : Cx} : PGet X (rGetL X.K) := by
  intro pins s σ H o i ov iv Q I r1 r2 h
  obtain ⟨p, xs, n, z, rfl, rfl, hq, he, q⟩ := h
  cases r1
  obtain ⟨t, rfl⟩ := r2
  obtain ⟨its, r, pl, hz⟩ := I.list hq
  obtain ⟨w, ew, rw'⟩ := r.get he
  have hl := r.length
  have hn := line63
  have hi := (List.getElem?_eq_some_iff.mp he).1
  exact wpAny_getItem_list (x := w) pl.isList (by omega) (by omega) (by simpa using ew) ⟨z, H, I, rw', q⟩
theorem ints_map {P : Program} {w : World} {K : PySem.W.Frag} {h : Heap} {a : Addr} {vs : List V} (X : K.In h) (D : KInts K a vs) : ∃ f : Int → Option Value, h.MapOf (intKind P w) a f ∧ ∀ (i : Nat) (v : V), vs[i]? = some v → ∃ u, f (i : Int) = some u ∧ RelV v u := by
  obtain ⟨_, es, n, hl, hz, he⟩ := D
  have at_ : ∀ (i : Nat) (hi : i < es.size), ∃ t, es[i].key = .int (i : Int) t ∧ es[i].hash = hashInt (i : Int) := fun i hi => by
    obtain ⟨⟨t, h1⟩, h2, _⟩ := he i es[i] (vs[i]'(by omega)) (Array.getElem?_eq_getElem hi) (List.getElem?_eq_getElem (by omega))
    exact ⟨t, h1, h2⟩
  refine ⟨_, ⟨_, es, n, X _ _ hl, ⟨rfl, rfl, rfl⟩, rfl, fun e hm => ?_, fun _ => rfl⟩, fun i v hv => ?_⟩
  · obtain ⟨i, hi, rfl⟩ := Array.mem_iff_getElem.mp hm
    obtain ⟨t, h1, h2⟩ := at_ i hi
    exact ⟨(i : Int), by rw [h1]; exact intKind_is P w _ t, h2⟩
  · have hi : i < es.size := by
      have := (List.getElem?_eq_some_iff.mp hv).1
      omega
    obtain ⟨_, _, hr⟩ := he i es[i] v (Array.getElem?_eq_getElem hi) hv
    refine ⟨es[i].val, ?_, hr⟩
    obtain ⟨t, h1, _⟩ := at_ i hi
    have hf : (es.find? fun e => (intKind P w).is (i : Int) e.key) = some es[i] := by
      rw [Array.find?_eq_some_iff_getElem]
      refine ⟨by rw [h1]; exact intKind_is P w _ t, i, hi, rfl, fun j hj => ?_⟩
      obtain ⟨t2, h2, _⟩ := at_ j (by omega)
      have e2 := KeyKind.is_eq_decide (knd := intKind P w) (intKind_is P w (j : Int) t2) (i : Int)
      rw [h2, e2, decide_eq_false (by omega)]
      rfl
    show ((es.find? fun e => (intKind P w).is (i : Int) e.key).map (·.val)) = _
    rw [hf]
    rfl
theorem ix_kint {X : Cx} {a : Addr} {vs : List V} (D : KInts X.K a vs) : IxR X (rIxK a vs) := by
  intro value slice pins s σ H x y v u Q I rx ry h hs
  obtain ⟨i, r, rfl, rfl, hv, q⟩ := h
  cases rx
  obtain ⟨t, rfl⟩ := ry
  obtain ⟨f, hm, hf⟩ := ints_map (P := X.prog) (w := X.w) I.kIn D
  obtain ⟨u0, e, ru⟩ := hf i r hv
  exact tail_any hm.typeIs slot_dict_getitem.lookup (wpAny_getItem_of (intKind_is X.prog X.w _ t) hm e ⟨r, H, I.tok _, ru, q⟩) hs
end Np
namespace Np
open PySem PySem.Spec PyProof.Rows L2 Evl
section
variable {K : PySem.W.Frag} {σ : L2.St} {H H' : Hp} {ta tb te : TE}
theorem flat_one (n : Nat) (v : V) : (List.replicate n [v]).flatten = List.replicate n v := by
  induction n with
  | zero => rfl
  | succ n ih =>
    rw [List.replicate_succ, List.flatten_cons, ih]
    rfl
/-- [k] * n -/
theorem el_rep {k n : Nat} (h : Ev tb σ H (nV n)) (hn : n ≤ 100000) : EvL (tOp rRep (tLst (tCons (tC (.int (k : Int))) tNil)) tb) σ H (nL (List.replicate n k)) := fun H1 e1 Q q =>
  ⟨by show 1 ≤ sizeLine; decide, fun p hp => h _ (e1.trans (Ex.new hp)) _ fun H2 e2 => ⟨p, (n : Int), [nV k], rfl, rfl, e2 p _ upd_same, by omega, by omega, by
    show 1 * ((n : Int)).toNat ≤ sizeLine
    rw [Nat.one_mul, Int.toNat_natCast]
    exact Nat.le_trans hn (by decide), fun d hd => by
    have e3 : (List.replicate ((n : Int)).toNat [nV k]).flatten = nL (List.replicate n k) := by
      rw [Int.toNat_natCast, flat_one]
      unfold nL
      rw [List.map_replicate]
    have g := q d (upd H2 d (.lst (nL (List.replicate n k)))) (fresh_back ((Ex.new hp).trans e2) hd) (((Ex.new hp).trans e2).trans (Ex.new hd)) upd_same
    rw [← e3] at g
    exact g⟩⟩
end
end Np
namespace Np
open PySem PySem.Spec PyProof.Rows L2 Evl
/-! ### what an expression gives, by what is true of it -/
abbrev VP := V → Hp → Prop
def EvP (te : TE) (σ : L2.St) (H : Hp) (P : VP) : Prop := ∀ H1, Ex H H1 → ∀ Q : VK, (∀ v H2, Ex H1 H2 → P v H2 → Q v H2) → te σ H1 Q
def SpP (sp : Sp) (vs : List V) (H : Hp) (P : VP) : Prop := ∀ H1, Ex H H1 → ∀ Q : VK, (∀ v H2, Ex H1 H2 → P v H2 → Q v H2) → ∀ E : XK, sp vs H1 Q E
def RetP (P : VP) (H : Hp) (Q : VK) : Prop := ∀ v H2, Ex H H2 → P v H2 → Q v H2
/-- a list, a list of objects -/
def IsL (xs : List V) : VP := fun v H => ∃ p, v = .ref p ∧ H p = some (.lst xs)
def IsR (os : List HO) : VP := fun v H => ∃ p, v = .ref p ∧ Refs H p os
abbrev IsN (l : List Nat) : VP := IsL (nL l)
theorem IsL.mono {xs : List V} {v : V} {H H' : Hp} (e : Ex H H') (h : IsL xs v H) : IsL xs v H' := let ⟨p, a, b⟩ := h; ⟨p, a, e _ _ b⟩
theorem IsR.mono {os : List HO} {v : V} {H H' : Hp} (e : Ex H H') (h : IsR os v H) : IsR os v H' := let ⟨p, a, b⟩ := h; ⟨p, a, b.mono e⟩
section
variable {K : PySem.W.Frag} {σ : L2.St} {H H' H0 : Hp} {ta tb tc td te tl : TE} {P R : VP} {D : Ends} {tu tz : TS} {g : TG} {sp : Sp} {E : XK} {x y z v : V} {i : Nat}
theorem EvP.mono (e : Ex H H') (h : EvP te σ H P) : EvP te σ H' P := fun H1 a Q q => h H1 (e.trans a) Q q
theorem EvP.imp (h : EvP te σ H P) (k : ∀ v H1, Ex H H1 → P v H1 → R v H1) : EvP te σ H R := fun H1 e Q q => h H1 e Q fun v H2 e2 p => q v H2 e2 (k v H2 (e.trans e2) p)
theorem p_of (h : Ev te σ H v) (k : ∀ H1, Ex H H1 → P v H1) : EvP te σ H P := fun H1 e Q q => h H1 e Q fun H2 e2 => q v H2 e2 (k H2 (e.trans e2))
theorem p_new {xs : List V} (h : EvL te σ H xs) : EvP te σ H (IsL xs) := fun H1 e Q q => h H1 e Q fun p H2 _ e2 h2 => q _ H2 e2 ⟨p, rfl, h2⟩
theorem p_var {p : Addr} {xs : List V} (h : σ[i]? = some (some (.ref p))) (hp : H p = some (.lst xs)) : EvP (tVar i) σ H (IsL xs) := p_of (v0 i h) fun _ e => ⟨p, rfl, e _ _ hp⟩
theorem p_asg (h : EvP te σ H P) (k : ∀ v H1, Ex H H1 → P v H1 → D.nx (σ.set i (some v)) H1) : tAsg te (gName i) D σ H := h H (Ex.refl H) _ k
theorem pq_asg (h : EvP te σ H P) (k : ∀ v H1, Ex H H1 → P v H1 → tz D (σ.set i (some v)) H1) : tSeq (tAsg te (gName i)) tz D σ H := h H (Ex.refl H) _ k
theorem p_ret (h : EvP te σ H P) (k : ∀ v H1, Ex H H1 → P v H1 → D.rt v H1) : tRet te D σ H := h H (Ex.refl H) _ k
theorem p_c1 (h : EvP ta σ H P) (s : ∀ v H1, Ex H H1 → P v H1 → SpP sp [v] H1 R) : EvP (tCall sp [] E (tCons ta tNil)) σ H R := fun H1 e Q q =>
  h H1 e _ fun v H2 e2 p => s v H2 (e.trans e2) p H2 (Ex.refl H2) Q (fun z H3 e3 r => q z H3 (e2.trans e3) r) E
theorem p_c1v (h : EvP ta σ H P) (s : ∀ v H1, Ex H H1 → P v H1 → SpV sp [v] H1 z) : Ev (tCall sp [] E (tCons ta tNil)) σ H z := fun H1 e Q q =>
  h H1 e _ fun v H2 e2 p => s v H2 (e.trans e2) p H2 (Ex.refl H2) Q (fun H3 e3 => q H3 (e2.trans e3)) E
theorem p_cv {ta : TA} {vs : List V} (h : EvA ta σ H vs) (s : SpP sp (vs ++ []) H R) : EvP (tCall sp [] E ta) σ H R := fun H1 e Q q =>
  h H1 e _ fun H2 e2 => s H2 (e.trans e2) Q (fun v H3 e3 r => q v H3 (e2.trans e3) r) E
theorem p_v1 (h : Ev ta σ H x) (s : SpP sp [x] H R) : EvP (tCall sp [] E (tCons ta tNil)) σ H R := p_cv (ea_cons h ea_nil) s
theorem p_v2 (h : Ev ta σ H x) (h2 : Ev tb σ H y) (s : SpP sp [x, y] H R) : EvP (tCall sp [] E (tCons ta (tCons tb tNil))) σ H R := p_cv (ea_cons h (ea_cons h2 ea_nil)) s
theorem p_v3 (h : Ev ta σ H x) (h2 : Ev tb σ H y) (h3 : Ev tc σ H z) (s : SpP sp [x, y, z] H R) : EvP (tCall sp [] E (tCons ta (tCons tb (tCons tc tNil)))) σ H R := p_cv (ea_cons h (ea_cons h2 (ea_cons h3 ea_nil))) s
/-- the second argument by what is true of it -/
theorem p_c2 (h : Ev ta σ H x) (h2 : EvP tb σ H P) (s : ∀ v H1, Ex H H1 → P v H1 → SpP sp [x, v] H1 R) : EvP (tCall sp [] E (tCons ta (tCons tb tNil))) σ H R := fun H1 e Q q =>
  h H1 e _ fun H2 e2 => h2 H2 (e.trans e2) _ fun v H3 e3 p => s v H3 ((e.trans e2).trans e3) p H3 (Ex.refl H3) Q (fun z H4 e4 r => q z H4 ((e2.trans e3).trans e4) r) E
/-- the first one -/
theorem p_c12 (h : EvP ta σ H P) (h2 : ∀ H1, Ex H H1 → Ev tb σ H1 y) (s : ∀ v H1, Ex H H1 → P v H1 → SpP sp [v, y] H1 R) (hm : ∀ v H1 H2, Ex H1 H2 → P v H1 → P v H2) : EvP (tCall sp [] E (tCons ta (tCons tb tNil))) σ H R := fun H1 e Q q =>
  h H1 e _ fun v H2 e2 p => h2 H2 (e.trans e2) H2 (Ex.refl H2) _ fun H3 e3 => s v H3 ((e.trans e2).trans e3) (hm v H2 H3 e3 p) H3 (Ex.refl H3) Q (fun z H4 e4 r => q z H4 ((e2.trans e3).trans e4) r) E
/-- len of what a call gives -/
theorem p_len {xs : List V} {m : Nat} (h : EvP ta σ H (IsL xs)) (e : xs.length = m) : Ev (tCB (rLenS K) (tCons ta tNil)) σ H (nV m) := fun H1 a Q q => h H1 a _ fun v H2 e2 ⟨p, ev, hp⟩ => by
  subst e
  exact ⟨p, xs, by rw [ev], Or.inl (SqL.of hp), q H2 e2⟩
theorem p_lenN {l : List Nat} (h : EvP ta σ H (IsN l)) : Ev (tCB (rLenS K) (tCons ta tNil)) σ H (nV l.length) := p_len h (nL_len l)
/-- xs + ys -/
theorem p_cat {xs ys : List V} (h : EvP ta σ H (IsL xs)) (h2 : EvP tb σ H (IsL ys)) (hz : xs.length + ys.length ≤ sizeLine) : EvL (tOp rCat ta tb) σ H (xs ++ ys) := fun H1 e Q q =>
  h H1 e _ fun u H2 e2 ⟨a, eu, ha⟩ => h2 H2 (e.trans e2) _ fun v H3 e3 ⟨b, ev, hb⟩ => ⟨a, b, xs, ys, eu, ev, e3 a _ ha, hb, hz, fun p hp => q p _ (fresh_back (e2.trans e3) hp) ((e2.trans e3).trans (Ex.new hp)) upd_same⟩
/-! ### a list of one's own that grows -/
/-- what was tracked ahead of l's making stands -/
def Up (l : Addr) (H H2 : Hp) : Prop := ∀ H0, Ex H0 H → H0 l = none → Ex H0 H2
theorem up_of {l : Addr} {o : HO} {H1 : Hp} (e : Ex H H1) : Up l H (upd H1 l o) := fun _ a h => Ex.mut (a.trans e) h
theorem up_ex {l : Addr} (e : Ex H H') : Up l H H' := fun _ a _ => a.trans e
theorem s_appN {l : Addr} {xs : List Nat} {n : Nat} (hl : H l = some (.lst (nL xs))) (ha : Ev ta σ H (.ref l)) (h : Ev te σ H (nV n)) (hz : xs.length < 100000) (k : ∀ H2, Up l H H2 → H2 l = some (.lst (nL (xs ++ [n]))) → D.nx σ H2) :
    tDrop (tBM K "list" rAppend ta (tCons te tNil)) D σ H := s_app hl ha h (by rw [nL_len]; exact hz) fun H1 e => k _ (up_of e) (by rw [upd_same, nL_app])
theorem Refs.app {l q : Addr} {os : List HO} {o : HO} (h : Refs H l os) (hq : H q = some o) (n : q ≠ l) : ∃ xs, H l = some (.lst xs) ∧ xs.length = os.length ∧ Refs (upd H l (.lst (xs ++ [.ref q]))) l (os ++ [o]) := by
  obtain ⟨as, h1, h0, h2, h3⟩ := h
  refine ⟨as.map V.ref, h2, by rw [List.length_map]; exact h1, as ++ [q], by simp [h1], fun z => ?_, by rw [upd_same, List.map_append]; rfl, fun j a u ha hu => ?_⟩
  · rcases List.mem_append.mp z with z | z
    · exact h0 z
    · exact n (List.mem_singleton.mp z).symm
  · have hne : a ≠ l := by
      rintro rfl
      rcases List.mem_append.mp (List.mem_of_getElem? ha) with z | z
      · exact h0 z
      · exact n (List.mem_singleton.mp z).symm
    rw [upd_ne hne]
    by_cases hj : j < as.length
    · rw [List.getElem?_append_left hj] at ha
      rw [List.getElem?_append_left (by omega)] at hu
      exact h3 j a u ha hu
    · rw [List.getElem?_append_right (by omega)] at ha hu
      have e : j - as.length = 0 := by
        have := (List.getElem?_eq_some_iff.mp ha).1
        simp at this
        omega
      rw [e] at ha
      rw [show j - os.length = 0 by omega] at hu
      cases ha
      cases hu
      exact hq
/-- append of a new object -/
theorem s_appR {l : Addr} {os : List HO} {ys : List V} (hl : Refs H l os) (ha : Ev ta σ H (.ref l)) (h : EvL te σ H ys) (hz : os.length < sizeLine) (k : ∀ H2, Up l H H2 → Refs H2 l (os ++ [.lst ys]) → D.nx σ H2) :
    tDrop (tBM K "list" rAppend ta (tCons te tNil)) D σ H := ha H (Ex.refl H) _ fun H1 e1 => by
  have hl1 := hl.mono e1
  obtain ⟨xs, h1, _⟩ := hl1.list
  refine ⟨Or.inl ⟨rfl, xs, SqL.of h1⟩, h H1 e1 _ fun p H2 hp e2 h2 => ?_⟩
  have hl2 := hl1.mono e2
  have hne : p ≠ l := by
    rintro rfl
    rw [h1] at hp
    cases hp
  obtain ⟨xs2, g1, g2, g3⟩ := hl2.app h2 hne
  exact ⟨l, xs2, .ref p, rfl, rfl, g1, by omega, k _ (up_of (e1.trans e2)) g3⟩
theorem s_appT {l : Addr} {os : List HO} {ys : List V} (hl : Refs H l os) (ha : Ev ta σ H (.ref l)) (h : EvU te σ H ys) (hz : os.length < sizeLine) (k : ∀ H2, Up l H H2 → Refs H2 l (os ++ [.tup ys]) → D.nx σ H2) :
    tDrop (tBM K "list" rAppend ta (tCons te tNil)) D σ H := ha H (Ex.refl H) _ fun H1 e1 => by
  have hl1 := hl.mono e1
  obtain ⟨xs, h1, _⟩ := hl1.list
  refine ⟨Or.inl ⟨rfl, xs, SqL.of h1⟩, h H1 e1 _ fun p H2 hp e2 h2 => ?_⟩
  have hl2 := hl1.mono e2
  have hne : p ≠ l := by
    rintro rfl
    rw [h1] at hp
    cases hp
  obtain ⟨xs2, g1, g2, g3⟩ := hl2.app h2 hne
  exact ⟨l, xs2, .ref p, rfl, rfl, g1, by omega, k _ (up_of (e1.trans e2)) g3⟩
theorem Refs.nil {l : Addr} (h : H l = some (.lst [])) : Refs H l [] := ⟨[], rfl, by simp, h, fun j a o z => by simp at z⟩
/-- x = [] -/
theorem q_nil {k : Nat} (kk : ∀ l H1, H l = none → Ex H H1 → H1 l = some (.lst []) → tz D (σ.set k (some (.ref l))) H1) : tSeq (tAsg (tLst tNil) (gName k)) tz D σ H :=
  q_asgL (el_lst ea_nil (by decide)) kk
/-! ### a walk over a list of objects that stands; over one of numbers -/
theorem s_forR {p : Addr} {os : List HO} (h : Ev tl σ H (.ref p)) (hx : Refs H0 p os) (e0 : Ex H0 H) (Pv : Nat → L2.St → Hp → Prop) (h0 : ∀ H1, Ex H H1 → Pv 0 σ H1) (hl : ∀ i σ' H', Pv i σ' H' → Ex H0 H')
    (hs : ∀ (i : Nat) (a : Addr) (o : HO) σ' H', os[i]? = some o → H0 a = some o → Pv i σ' H' → g (.ref a) σ' H' fun σ2 H2 => tu { D with nx := Pv (i + 1), ct := Pv (i + 1), bk := D.nx } σ2 H2) (hd : ∀ σ' H', Pv os.length σ' H' → D.nx σ' H') : tFor (iList K tl) g tu D σ H := by
  obtain ⟨as, h1, _, h2, h3⟩ := id hx
  refine s_forL h (SqL.of (e0 _ _ h2)) Pv h0 (fun i σ' H' _ q => SqL.of (hl i σ' H' q _ _ h2)) (fun i x σ' H' hi q => ?_) (fun σ' H' q => hd σ' H' (by rw [List.length_map, h1] at q; exact q))
  rw [List.getElem?_map] at hi
  cases ha : as[i]? with
  | none =>
    rw [ha] at hi
    cases hi
  | some a =>
    rw [ha] at hi
    cases hi
    have hlt := (List.getElem?_eq_some_iff.mp ha).1
    have ho : os[i]? = some os[i] := List.getElem?_eq_getElem (by omega)
    exact hs i a _ σ' H' ho (h3 i a _ ha ho) q
theorem q_forR {p : Addr} {os : List HO} (h : Ev tl σ H (.ref p)) (hx : Refs H0 p os) (e0 : Ex H0 H) (Pv : Nat → L2.St → Hp → Prop) (h0 : ∀ H1, Ex H H1 → Pv 0 σ H1) (hl : ∀ i σ' H', Pv i σ' H' → Ex H0 H')
    (hs : ∀ (i : Nat) (a : Addr) (o : HO) σ' H', os[i]? = some o → H0 a = some o → Pv i σ' H' → g (.ref a) σ' H' fun σ2 H2 => tu { D with nx := Pv (i + 1), ct := Pv (i + 1), bk := tz D } σ2 H2) (hd : ∀ σ' H', Pv os.length σ' H' → tz D σ' H') : tSeq (tFor (iList K tl) g tu) tz D σ H :=
  s_forR (D := { D with nx := tz D }) h hx e0 Pv h0 hl hs hd
/-- xs[-1] -/
theorem e_last {p : Addr} {l : List Nat} (ha : Ev ta σ H (.ref p)) (hp : SqL K H p (nL l)) (hn : l ≠ []) : Ev (tOp (rIxL K) ta (tUn (rU fun i => .int (-i)) (tC (.int 1)))) σ H (nV (l.getLastD 0)) := by
  have e : l = l.dropLast ++ [l.getLastD 0] := by
    rw [List.getLastD_eq_getLast?, List.getLast?_eq_some_getLast hn]
    exact (List.dropLast_concat_getLast hn).symm
  have e2 : nL l = nL l.dropLast ++ [nV (l.getLastD 0)] := by rw [nL_app, ← e]
  rw [e2] at hp
  exact ev_op ha (ev_un ev_c ru_neg) (rv_ixL hp (atI_last _ _))
/-- x not in xs -/
theorem inV_nL (x : Nat) : ∀ l : List Nat, inV (nV x) (nL l) = l.contains x
  | [] => rfl
  | y :: r => by
    have ih := inV_nL x r
    show (eqV (nV y) (nV x) || inV (nV x) (nL r)) = (x == y || r.contains x)
    rw [ih]
    have e : eqV (nV y) (nV x) = (x == y) := by
      show ((y : Int) == (x : Int)) = (x == y)
      by_cases h : x = y
      · subst h
        rw [beq_self_eq_true, beq_self_eq_true]
      · rw [beq_eq_false_iff_ne.mpr h, beq_eq_false_iff_ne.mpr fun z => h (by omega)]
    rw [e]
theorem flat_nL (l : List Nat) : (nL l).all flatV = true := List.all_eq_true.mpr fun v hv => by
  obtain ⟨n, _, rfl⟩ := List.mem_map.mp hv
  rfl
theorem e_notin {p : Addr} {l : List Nat} {n : Nat} (ha : Ev ta σ H (nV n)) (hb : Ev tb σ H (.ref p)) (hp : SqL K H p (nL l)) : Ev (tOp (rIn K true) ta tb) σ H (.bl (!l.contains n)) :=
  ev_is (ev_op ha hb (rv_niL hp rfl (flat_nL l))) (congrArg (fun b => V.bl (!b)) (inV_nL n l))
/-! ### comprehensions that make objects -/
theorem er_lcR1 {ta : TA} {j m : Nat} {vs : List Nat} (xs : Nat → List V) (h : EvA ta σ H [nV m]) (hm : m ≤ 40000) (hw : ∀ x, wipe ((wipe σ vs).set j (some x)) vs = wipe σ vs)
    (he : ∀ (i : Nat) H1, Ex H H1 → i < m → EvL te ((wipe σ vs).set j (some (nV i))) H1 (xs i)) : ∀ H1, Ex H H1 → ∀ Q : VK, (∀ d H2, H1 d = none → Ex H1 H2 → Refs H2 d ((List.range m).map fun i => .lst (xs i)) → Q (.ref d) H2) → tLc (iRng1 ta) (gName j) tYes te vs σ H1 Q := fun H0 e Q q =>
  h H0 e _ fun H1 e1 => ⟨(m : Int), rfl, by omega, by omega, fun Dl hD => by
    rw [Int.toNat_natCast]
    refine lc_range (lo := 0) (n := m) (fun i H' => H1 Dl = none ∧ Ex H1 H' ∧ Refs H' Dl ((List.range i).map fun i => .lst (xs i))) ⟨hD, Ex.new hD, Refs.nil upd_same⟩ (fun i H' hi p => ?_) (fun H' p => q Dl H' (fresh_back e1 p.1) (e1.trans p.2.1) p.2.2)
    obtain ⟨p1, p2, p3⟩ := p
    have e0 : (0 : Int) + (i : Int) = (i : Int) := Int.zero_add _
    show wipe ((wipe σ vs).set j (some (.int ((0 : Int) + (i : Int))))) vs = wipe σ vs ∧ (te ((wipe σ vs).set j (some (.int ((0 : Int) + (i : Int))))) H' fun y H4 => ∃ acc, H4 Dl = some (.lst acc) ∧ acc.length < sizeLine ∧ _)
    rw [e0]
    refine ⟨hw _, he i H' ((e.trans e1).trans p2) hi H' (Ex.refl H') _ fun a H4 ha e4 h4 => ?_⟩
    have hne : a ≠ Dl := by
      rintro rfl
      obtain ⟨zs, hz, _⟩ := p3.list
      rw [hz] at ha
      cases ha
    obtain ⟨acc, g1, g2, g3⟩ := (p3.mono e4).app h4 hne
    refine ⟨acc, g1, ?_, p1, Ex.mut (p2.trans e4) p1, ?_⟩
    · rw [List.length_map, List.length_range] at g2
      exact Nat.lt_of_le_of_lt (by omega : acc.length ≤ 40000) (by decide)
    · rw [List.range_succ, List.map_append]
      exact g3⟩
end
end Np
namespace Np
open PySem PySem.Spec PyProof.Rows L2 Evl
section
variable {K : PySem.W.Frag} {σ : L2.St} {H H' H0 : Hp} {ta tb tc td te to ti : TE} {P R : VP} {D : Ends} {tu tz : TS} {g : TG}
theorem p_lcR {ta : TA} {j m : Nat} {vs : List Nat} (xs : Nat → List V) (h : EvA ta σ H [nV m]) (hm : m ≤ 40000) (hw : ∀ x, wipe ((wipe σ vs).set j (some x)) vs = wipe σ vs)
    (he : ∀ (i : Nat) H1, Ex H H1 → i < m → EvL te ((wipe σ vs).set j (some (nV i))) H1 (xs i)) : EvP (tLc (iRng1 ta) (gName j) tYes te vs) σ H (IsR ((List.range m).map fun i => .lst (xs i))) := fun H1 e Q q =>
  er_lcR1 xs h hm hw he H1 e Q fun d H2 _ e2 hr => q _ H2 e2 ⟨d, rfl, hr⟩
theorem e_head {p : Addr} {l : List Nat} (ha : Ev ta σ H (.ref p)) (hp : SqL K H p (nL l)) (hn : l ≠ []) : Ev (tOp (rIxL K) ta (tC (.int 0))) σ H (nV (l.headD 0)) := by
  have e : l.getD 0 0 = l.headD 0 := by cases l <;> rfl
  rw [← e]
  exact e_ix ha hp (e_n (a := 0) rfl) (by cases l with | nil => exact absurd rfl hn | cons => exact Nat.zero_lt_succ _)
/-- xs[i] = e, xs[i] += e over a list of numbers -/
theorem s_setN {l : Addr} {xs : List Nat} {j n : Nat} (hl : H l = some (.lst (nL xs))) (h : Ev te σ H (nV n)) (ho : Ev ta σ H (.ref l)) (hi : Ev tb σ H (nV j)) (hj : j < xs.length) (k : ∀ H2, Up l H H2 → H2 l = some (.lst (nL (xs.set j n))) → D.nx σ H2) :
    tAsg te (gSub ta tb rSetL) D σ H := s_setL hl h ho hi (by rw [nL_len]; exact hj) fun H1 e => k _ (up_of e) (by rw [upd_same, nL_set])
theorem s_augL {l : Addr} {xs : List Nat} {i b : Nat} (hl : H l = some (.lst (nL xs))) (ho : Ev to σ H (.ref l)) (hi : Ev ti σ H (nV i)) (hi2 : i < xs.length) (he : Ev te σ H (nV b)) (k : ∀ H2, Up l H H2 → H2 l = some (.lst (nL (xs.set i (xs.getD i 0 + b)))) → D.nx σ H2) :
    tAugS to ti te (rGetL K) (ipI fun i j => i + j) rSetL D σ H := ho H (Ex.refl H) _ fun H1 e1 => hi H1 e1 _ fun H2 e2 =>
  ⟨l, nL xs, i, nV (xs.getD i 0), rfl, rfl, SqL.of (e2 l _ (e1 l _ hl)), nL_at hi2, he H2 (e1.trans e2) _ fun H3 e3 => ⟨_, _, rfl, rfl, l, nL xs, (i : Int), i, rfl, rfl, e3 l _ (e2 l _ (e1 l _ hl)), by rw [nL_len]; exact ixN_nat hi2, by
    have e4 : ((xs.getD i 0 : Nat) : Int) + (b : Int) = ((xs.getD i 0 + b : Nat) : Int) := by omega
    show D.nx σ (upd H3 l (.lst ((nL xs).set i (.int (((xs.getD i 0 : Nat) : Int) + (b : Int))))))
    rw [e4]
    exact k _ (up_of ((e1.trans e2).trans e3)) (by rw [upd_same, nL_set])⟩⟩
/-! ### plain facts about searches -/
theorem find_range {p : Nat → Bool} {n i : Nat} (hi : i < n) (hp : p i = true) (hq : ∀ j, j < i → p j = false) : (List.range n).find? p = some i := by
  rw [List.find?_eq_some_iff_getElem]
  exact ⟨hp, i, by rw [List.length_range]; exact hi, List.getElem_range _, fun j hj => by rw [List.getElem_range, hq j hj]; rfl⟩
theorem find_range_none {p : Nat → Bool} {n : Nat} (hq : ∀ j, j < n → p j = false) : (List.range n).find? p = none :=
  List.find?_eq_none.mpr fun x hx => by rw [hq x (List.mem_range.mp hx)]; exact Bool.false_ne_true
theorem some_range {α : Type} {g : Nat → Option α} {n i : Nat} {r : α} (hi : i < n) (hp : g i = some r) (hq : ∀ j, j < i → g j = none) : (List.range n).findSome? g = some r := by
  have e : n = i + (n - i - 1 + 1) := by omega
  rw [e, List.range_add, List.findSome?_append, List.findSome?_eq_none_iff.mpr fun x hx => hq x (List.mem_range.mp hx)]
  rw [List.range_succ_eq_map, List.map_cons, List.findSome?_cons]
  show (match g (i + 0) with | some b => some b | none => _) = _
  rw [Nat.add_zero, hp]
theorem some_range_none {α : Type} {g : Nat → Option α} {n : Nat} (hq : ∀ j, j < n → g j = none) : (List.range n).findSome? g = none := List.findSome?_eq_none_iff.mpr fun x hx => hq x (List.mem_range.mp hx)
theorem take_snoc {α : Type} {l : List α} {i : Nat} {x : α} (h : l[i]? = some x) : l.take (i + 1) = l.take i ++ [x] := by
  rw [List.take_succ, h]
  rfl
end
end Np
namespace Np
open PySem PySem.Spec PyProof.Rows L2 Evl
section
variable {K : PySem.W.Frag} {σ : L2.St} {H H' H0 : Hp} {ta tb tc td te to ti : TE} {P R : VP} {D : Ends} {tu tz : TS} {g : TG}
theorem q_appN {l : Addr} {xs : List Nat} {n : Nat} (hl : H l = some (.lst (nL xs))) (ha : Ev ta σ H (.ref l)) (h : Ev te σ H (nV n)) (hz : xs.length < 100000) (k : ∀ H2, Up l H H2 → H2 l = some (.lst (nL (xs ++ [n]))) → tz D σ H2) :
    tSeq (tDrop (tBM K "list" rAppend ta (tCons te tNil))) tz D σ H := s_appN (D := { D with nx := tz D }) hl ha h hz k
theorem q_appR {l : Addr} {os : List HO} {ys : List V} (hl : Refs H l os) (ha : Ev ta σ H (.ref l)) (h : EvL te σ H ys) (hz : os.length < sizeLine) (k : ∀ H2, Up l H H2 → Refs H2 l (os ++ [.lst ys]) → tz D σ H2) :
    tSeq (tDrop (tBM K "list" rAppend ta (tCons te tNil))) tz D σ H := s_appR (D := { D with nx := tz D }) hl ha h hz k
theorem q_appT {l : Addr} {os : List HO} {ys : List V} (hl : Refs H l os) (ha : Ev ta σ H (.ref l)) (h : EvU te σ H ys) (hz : os.length < sizeLine) (k : ∀ H2, Up l H H2 → Refs H2 l (os ++ [.tup ys]) → tz D σ H2) :
    tSeq (tDrop (tBM K "list" rAppend ta (tCons te tNil))) tz D σ H := s_appT (D := { D with nx := tz D }) hl ha h hz k
theorem q_setN {l : Addr} {xs : List Nat} {j n : Nat} (hl : H l = some (.lst (nL xs))) (h : Ev te σ H (nV n)) (ho : Ev ta σ H (.ref l)) (hi : Ev tb σ H (nV j)) (hj : j < xs.length) (k : ∀ H2, Up l H H2 → H2 l = some (.lst (nL (xs.set j n))) → tz D σ H2) :
    tSeq (tAsg te (gSub ta tb rSetL)) tz D σ H := s_setN (D := { D with nx := tz D }) hl h ho hi hj k
theorem q_augN {k a b : Nat} (hx : σ[k]? = some (some (nV a))) (h : Ev te σ H (nV b)) (kk : ∀ H1, Ex H H1 → tz D (σ.set k (some (nV (a + b)))) H1) : tSeq (tAug k te (ipI fun i j => i + j)) tz D σ H := s_augN (D := { D with nx := tz D }) hx h kk
end
end Np
namespace Np
open PySem PySem.Spec PyProof.Rows L2 Evl
/-! ### whole numbers of either sign -/
abbrev iL (l : List Int) : List V := l.map V.int
theorem iL_len (l : List Int) : (iL l).length = l.length := List.length_map ..
theorem iL_at {l : List Int} {i : Nat} (h : i < l.length) : (iL l)[i]? = some (.int (l.getD i 0)) := by
  rw [List.getElem?_map, List.getD_eq_getElem?_getD, List.getElem?_eq_getElem h]
  rfl
theorem iL_set (l : List Int) (i : Nat) (v : Int) : (iL l).set i (.int v) = iL (l.set i v) := by
  unfold iL
  rw [List.map_set]
section
variable {K : PySem.W.Frag} {σ : L2.St} {H H' H0 : Hp} {ta tb tc td te to ti : TE} {P R : VP} {D : Ends} {tu tz : TS} {g : TG} {i j : Int} {a b n m : Nat}
theorem dec_iV : decide (V.int i = V.int j) = decide (i = j) := by
  by_cases h : i = j
  · rw [h, decide_eq_true rfl, decide_eq_true rfl]
  · rw [decide_eq_false h, decide_eq_false fun e => h (V.int.inj e)]
theorem r_eqI : RV rEq (.int i) (.int j) H (.bl (decide (i = j))) := r_is (congrArg V.bl dec_iV) (rv_eq rfl)
theorem r_neI : RV rNe (.int i) (.int j) H (.bl (!decide (i = j))) := r_is (congrArg (fun c => V.bl (!c)) dec_iV) (rv_ne rfl)
theorem e_ixI {p : Addr} {l : List Int} (ha : Ev ta σ H (.ref p)) (hp : SqL K H p (iL l)) (hb : Ev tb σ H (nV n)) (hi : n < l.length) : Ev (tOp (rIxL K) ta tb) σ H (.int (l.getD n 0)) := ev_op ha hb (rv_ixL hp (atI_nat (iL_at hi)))
theorem s_setI {l : Addr} {xs : List Int} {v : Int} (hl : H l = some (.lst (iL xs))) (h : Ev te σ H (.int v)) (ho : Ev ta σ H (.ref l)) (hi : Ev tb σ H (nV n)) (hj : n < xs.length) (k : ∀ H2, Up l H H2 → H2 l = some (.lst (iL (xs.set n v))) → D.nx σ H2) :
    tAsg te (gSub ta tb rSetL) D σ H := s_setL hl h ho hi (by rw [iL_len]; exact hj) fun H1 e => k _ (up_of e) (by rw [upd_same, iL_set])
theorem iL_rep (n : Nat) : nL (List.replicate n 0) = iL (List.replicate n 0) := by
  unfold nL iL
  rw [List.map_replicate, List.map_replicate]
  rfl
/-- range(e - 1, -1, -1), the turns e - 1, e - 2, .. -/
theorem q_down3 {k : Nat} {ta : TA} (h : EvA ta σ H [.int ((n : Int) - 1), .int (-1), .int (-1)]) (hn : n ≤ 100000) (Pv : Nat → L2.St → Hp → Prop) (h0 : ∀ H1, Ex H H1 → Pv 0 σ H1)
    (hs : ∀ (i : Nat) σ' H', i < n → Pv i σ' H' → tu { D with nx := Pv (i + 1), ct := Pv (i + 1), bk := tz D } (σ'.set k (some (nV (n - 1 - i)))) H') (hd : ∀ σ' H', Pv n σ' H' → tz D σ' H') :
    tSeq (tFor (iRng3 ta) (gName k) tu) tz D σ H :=
  h H (Ex.refl H) _ fun H1 e1 => ⟨(n : Int) - 1, -1, -1, n, rfl, by
    have r := RgC.neg (i := (n : Int) - 1) (j := -1) (by omega) (by omega) (by omega) (by omega)
    have e : ((n : Int) - 1 - -1).toNat = n := by omega
    rw [e] at r
    exact r, for_rangeC (D := { D with nx := tz D }) Pv (h0 H1 e1) (fun i σ' H' hi p => by
    have e : (n : Int) - 1 + (i : Nat) * (-1) = ((n - 1 - i : Nat) : Int) := by omega
    rw [e]
    exact hs i σ' H' hi p) hd⟩
theorem q_down {k : Nat} (h : Ev ta σ H (.int ((n : Int) - 1))) (hn : n ≤ 100000) (Pv : Nat → L2.St → Hp → Prop) (h0 : ∀ H1, Ex H H1 → Pv 0 σ H1)
    (hs : ∀ (i : Nat) σ' H', i < n → Pv i σ' H' → tu { D with nx := Pv (i + 1), ct := Pv (i + 1), bk := tz D } (σ'.set k (some (nV (n - 1 - i)))) H') (hd : ∀ σ' H', Pv n σ' H' → tz D σ' H') :
    tSeq (tFor (iRng3 (tCons ta (tCons (tUn (rU fun i => .int (-i)) (tC (.int 1))) (tCons (tUn (rU fun i => .int (-i)) (tC (.int 1))) tNil)))) (gName k) tu) tz D σ H :=
  q_down3 (ea_cons h (ea_cons (ev_un ev_c ru_neg) (ea_cons (ev_un ev_c ru_neg) ea_nil))) hn Pv h0 hs hd
/-- xs.index(x) -/
theorem e_index {p : Addr} {l : List Nat} {x : Nat} (ha : Ev ta σ H (.ref p)) (hp : SqL K H p (nL l)) (hb : Ev tb σ H (nV x)) (hx : x ∈ l) : Ev (tBM K "list" (rIndex K) ta (tCons tb tNil)) σ H (nV (l.idxOf x)) := fun H1 e Q q =>
  ha H1 e _ fun H2 e2 => ⟨Or.inl ⟨rfl, _, ex_l (e.trans e2) hp⟩, hb H2 (e.trans e2) _ fun H3 e3 => by
    have hi : l.idxOf x < l.length := List.idxOf_lt_length_of_mem hx
    have hv : l[l.idxOf x] = x := List.getElem_idxOf hi
    have eqv : ∀ a b : Nat, eqV (nV a) (nV b) = decide (a = b) := fun a b => by
      show ((a : Int) == (b : Int)) = _
      by_cases h : a = b
      · rw [h, decide_eq_true rfl, beq_self_eq_true]
      · rw [decide_eq_false h, beq_eq_false_iff_ne.mpr fun z => h (by omega)]
    refine ⟨p, nL l, nV x, l.idxOf x, nV x, rfl, rfl, ex_l ((e.trans e2).trans e3) hp, rfl, flat_nL l, ?_, ?_, fun m z hm hz => ?_, q H3 (e2.trans e3)⟩
    · rw [List.getElem?_map, List.getElem?_eq_getElem hi, hv]
      rfl
    · rw [eqv, decide_eq_true rfl]
    · rw [List.getElem?_map, List.getElem?_eq_getElem (by omega)] at hz
      have hz : nV l[m] = z := Option.some.inj hz
      rw [← hz, eqv, decide_eq_false]
      intro h
      have q2 := List.not_of_lt_findIdx (p := (· == x)) hm
      rw [h, beq_self_eq_true] at q2
      cases q2⟩
end
def PairsO (ps : List (Nat × Nat)) : List HO := ps.map fun p => .tup [nV p.1, nV p.2]
theorem pairsO_app (ps : List (Nat × Nat)) (p : Nat × Nat) : PairsO (ps ++ [p]) = PairsO ps ++ [.tup [nV p.1, nV p.2]] := by
  unfold PairsO
  rw [List.map_append]
  rfl
theorem pairsO_len (ps : List (Nat × Nat)) : (PairsO ps).length = ps.length := List.length_map ..
theorem pairsO_at {ps : List (Nat × Nat)} {i : Nat} {o : HO} (h : (PairsO ps)[i]? = some o) : ∃ p, ps[i]? = some p ∧ o = .tup [nV p.1, nV p.2] := by
  unfold PairsO at h
  rw [List.getElem?_map] at h
  cases e : ps[i]? with
  | none =>
    rw [e] at h
    cases h
  | some r =>
    rw [e] at h
    exact ⟨r, rfl, (Option.some.inj h).symm⟩
end Np
namespace Np
open PySem PySem.Spec PyProof.Rows L2 Evl
/-! ### rules whose reading names the written part by a letter: a comprehension's block may use them -/
theorem cr_sumK {X : Cx} {K : PySem.W.Frag} (hK : X.K = K) (hc : X.calm = true) : CallR X (.builtin "sum") (rSum K) := hK ▸ cr_sum hc
theorem ix_tupK {X : Cx} {K : PySem.W.Frag} (hK : X.K = K) : IxR X (rIxT K) := hK ▸ ix_tup
end Np
set_option Elab.async false
set_option linter.all false
set_option maxRecDepth 100000
set_option maxHeartbeats 4000000
namespace Np
open PySem PySem.Spec PyProof.Rows L2 Evl
def top (i : Nat) : Stmt := PySem.Challenge.pw_nosepanel_s01_answers.main.body.getD i (.Pass ⟨0, 0, 0, 0⟩)
abbrev s_has : Stmt := top 1
abbrev s_grown : Stmt := top 2
abbrev s_set_over : Stmt := top 3
abbrev s_needed_sets : Stmt := top 4
abbrev s_nothing_needed : Stmt := top 5
abbrev s_may_follow : Stmt := top 6
abbrev s_longer_rows : Stmt := top 7
abbrev s_shortest_ring : Stmt := top 8
abbrev s_is_sound : Stmt := top 9
abbrev s_first_free : Stmt := top 10
abbrev s_first_order : Stmt := top 11
abbrev s_count_orders : Stmt := top 12
abbrev s_count_before : Stmt := top 13
abbrev s_said_against : Stmt := top 16
abbrev s_cost_of_next : Stmt := top 17
abbrev s_cost_from : Stmt := top 18
abbrev s_least_from : Stmt := top 19
abbrev s_least_rests : Stmt := top 20
abbrev s_next_of_best : Stmt := top 21
abbrev s_best_order : Stmt := top 22
abbrev s_pairs_against : Stmt := top 23
abbrev s_common_divisor : Stmt := top 25
abbrev s_fraction : Stmt := top 26
abbrev s_power : Stmt := top 27
abbrev s_choices : Stmt := top 28
abbrev s_lucky_ways : Stmt := top 29
abbrev s_luck : Stmt := top 30
abbrev s_least_needed : Stmt := top 31
abbrev s_chance_before : Stmt := top 32
abbrev s_places : Stmt := top 33
abbrev s_open_pairs : Stmt := top 34
abbrev s_pair_to_ask : Stmt := top 35
abbrev s_within : Stmt := top 50
abbrev s_refused : Stmt := top 51
abbrev s_answered : Stmt := top 52
abbrev s_Nose_init : Stmt := inClass (top 54) 0
abbrev s_Nose_say : Stmt := inClass (top 54) 1
abbrev s_Nose_unsay : Stmt := inClass (top 54) 2
abbrev s_Nose_weigh : Stmt := inClass (top 54) 3
abbrev s_Panel_init : Stmt := inClass (top 55) 0
abbrev s_Panel_set_up : Stmt := inClass (top 55) 1
abbrev s_Panel_keep_trial : Stmt := inClass (top 55) 2
abbrev s_Panel_drop_trial : Stmt := inClass (top 55) 3
abbrev s_nose_refusal : Stmt := top 56
abbrev s_pair_refusal : Stmt := top 57
abbrev s_nose_pair_refusal : Stmt := top 58
abbrev s_has_said : Stmt := top 59
abbrev s_pairs_said : Stmt := top 60
abbrev s_weight_over : Stmt := top 61
abbrev s_weights_of_row : Stmt := top 62
abbrev s_weight_table : Stmt := top 63
abbrev s_first_plan_row : Stmt := top 64
abbrev s_plan_rows : Stmt := top 65
abbrev s_plan_row : Stmt := top 66
abbrev s_sound_refusal : Stmt := top 71
abbrev s_sound_pair_refusal : Stmt := top 72
abbrev s_needs_of : Stmt := top 73
abbrev s_answer_ring : Stmt := top 74
abbrev s_answer_mend : Stmt := top 75
abbrev s_answer_follows : Stmt := top 76
abbrev s_answer_first : Stmt := top 77
abbrev s_answer_many : Stmt := top 78
abbrev s_answer_chance : Stmt := top 79
abbrev s_answer_place : Stmt := top 80
abbrev s_answer_ask : Stmt := top 81
abbrev s_answer_against : Stmt := top 82
abbrev s_told_best : Stmt := top 83
abbrev s_answer_best : Stmt := top 84
abbrev s_answer_near : Stmt := top 85
abbrev s_answer_panel : Stmt := top 87
abbrev s_answer_say : Stmt := top 88
abbrev s_answer_unsay : Stmt := top 89
abbrev s_answer_weigh : Stmt := top 90
abbrev s_pairs_of_both : Stmt := top 91
abbrev s_answer_agree : Stmt := top 92
abbrev s_answer_over : Stmt := top 93
abbrev s_beats_all : Stmt := top 94
abbrev s_answer_king : Stmt := top 95
abbrev s_answer_trial : Stmt := top 96
abbrev s_answer_untry : Stmt := top 97
abbrev s_how_many_right : Stmt := top 98
abbrev s_answer_score : Stmt := top 99
abbrev s_trials_with : Stmt := top 100
abbrev s_answer_apart : Stmt := top 101
abbrev s_answer_luck : Stmt := top 102
abbrev s_answer_need : Stmt := top 103
abbrev s_answer_sheet : Stmt := top 104
abbrev s_answer_told : Stmt := top 105
abbrev s_read_call : Stmt := top 110
abbrev s_answer_call : Stmt := top 111
abbrev s_answers : Stmt := top 113
section
variable {P : Program} {w : World} {K : PySem.W.Frag} {mg : Str → Option Value} {base : Heap}
theorem sc_has : FnScope ["group", "sample"] ["group", "sample"] (defScope s_has) := ⟨rfl, rfl, rfl, by decide +kernel, rfl, by decide +kernel, by decide +kernel⟩
def sp_has (_ : PySem.W.Frag) : Sp := fun vs H Q _ => ∃ m x : Nat, vs = [nV m, nV x] ∧ x ≤ 1000 ∧ RetV (.bl (m.testBit x)) H Q
theorem sv_has {H : Hp} {m x : Nat} (h : x ≤ 1000) : SpV (sp_has K) [nV m, nV x] H (.bl (m.testBit x)) := fun _ _ _ q _ => ⟨m, x, rfl, h, q⟩
theorem has_bit (m x : Nat) : (!decide (m &&& 2 ^ x = 0)) = m.testBit x := by
  cases h : m.testBit x with
  | true =>
    have e : (m &&& 2 ^ x) ≠ 0 := fun z => by
      have q := congrArg (fun y => Nat.testBit y x) z
      simp [Nat.testBit_and, Nat.testBit_two_pow, h] at q
    rw [decide_eq_false e]
    rfl
  | false =>
    have e : (m &&& 2 ^ x) = 0 := Nat.eq_of_testBit_eq fun i => by
      rw [Nat.testBit_and, Nat.testBit_two_pow, Nat.zero_testBit]
      by_cases hi : x = i
      · rw [← hi, h]
        rfl
      · simp [hi]
    rw [decide_eq_true e]
    rfl
theorem ok_has {f : Addr} {fd : FuncData} (F : Fun K "has" "has" s_has f fd) (T : Txt K mg)   : FnOk P w K mg base CX0 1 f fd ["group", "sample"] (sp_has K) := by
  refine F.ok sc_has (fun vs H Q E h => ?_) (fun cdv A outer s H vs Q E hr h => ⟨_, (pss_one (ps_ret (pe_cmpR op_ne (pe_op op_and (pv 0) (pe_op op_shl pe_int (pv 1))) pe_int (nomark _)))), ?_⟩)
  · obtain ⟨_, _, rfl, _⟩ := h
    rfl
  · obtain ⟨m, x, rfl, hx, k⟩ := h
    exact s_ret (ev_is (ev_op (ev_op (v0 0 rfl) (ev_op ev_c (v0 1 rfl) (r_shl (by omega))) r_and) (e_n (a := 0) rfl) r_ne) (congrArg V.bl (has_bit m x))) k
theorem sc_grown : FnScope ["group", "sample"] ["group", "sample"] (defScope s_grown) := ⟨rfl, rfl, rfl, by decide +kernel, rfl, by decide +kernel, by decide +kernel⟩
def sp_grown (_ : PySem.W.Frag) : Sp := fun vs H Q _ => ∃ m x : Nat, vs = [nV m, nV x] ∧ x ≤ 1000 ∧ RetV (nV (grown m x)) H Q
theorem sv_grown {H : Hp} {m x : Nat} (h : x ≤ 1000) : SpV (sp_grown K) [nV m, nV x] H (nV (grown m x)) := fun _ _ _ q _ => ⟨m, x, rfl, h, q⟩
theorem ok_grown {f : Addr} {fd : FuncData} (F : Fun K "grown" "grown" s_grown f fd) (T : Txt K mg)   : FnOk P w K mg base CX0 1 f fd ["group", "sample"] (sp_grown K) := by
  refine F.ok sc_grown (fun vs H Q E h => ?_) (fun cdv A outer s H vs Q E hr h => ⟨_, (pss_one (ps_ret (pe_op op_or (pv 0) (pe_op op_shl pe_int (pv 1))))), ?_⟩)
  · obtain ⟨_, _, rfl, _⟩ := h
    rfl
  · obtain ⟨m, x, rfl, hx, k⟩ := h
    exact s_ret (ev_op (v0 0 rfl) (ev_op ev_c (v0 1 rfl) (r_shl (by omega))) r_or) k
theorem sc_set_over : FnScope ["said", "sample", "group", "other"] ["said", "sample"] (defScope s_set_over) := ⟨rfl, rfl, rfl, by decide +kernel, rfl, by decide +kernel, by decide +kernel⟩
def sp_set_over (_ : PySem.W.Frag) : Sp := fun vs H Q _ => ∃ (p : Addr) (x n : Nat) (f : Mx), vs = [.ref p, nV x] ∧ Mat H p n f ∧ x < n ∧ n ≤ 8 ∧ RetV (nV (setOver f n x)) H Q
theorem sv_set_over {H : Hp} {p : Addr} {x n : Nat} {f : Mx} (hM : Mat H p n f) (hx : x < n) (hn : n ≤ 8) : SpV (sp_set_over K) [.ref p, nV x] H (nV (setOver f n x)) := fun _ e _ q _ => ⟨p, x, n, f, rfl, hM.mono e, hx, hn, q⟩
theorem ok_set_over {f : Addr} {fd : FuncData} (F : Fun K "set_over" "set_over" s_set_over f fd) (T : Txt K mg) (D_grown : DefK P w K mg base "grown" 1 ["group", "sample"] (sp_grown K))  : FnOk P w K mg base CX0 2 f fd ["said", "sample"] (sp_set_over K) := by
  refine F.ok sc_set_over (fun vs H Q E h => ?_) (fun cdv A outer s H vs Q E hr h => ⟨_, (pss_cons (ps_set (i := 2) sc_set_over.nd rfl (Or.inl rfl) pe_int)
        (pss_cons (ps_for PassesOwn.never rfl (pi_range1 rfl T.range (pa_cons (pe_callB call_len_seq (by rfl) T.len (by decide +kernel) (pa_cons (pv 0) pa_nil)) pa_nil)) (pg_name (i := 3) sc_set_over.nd rfl (Or.inl rfl))
        (pss_one (ps_if (pt_cmpR op_eq (pe_ix ix_list (pe_ix ix_list (pv 0) (pv 3) (fun _ _ => rfl)) (pv 1) (fun _ _ => rfl)) pe_int (nomark _)) (pss_one (ps_set (i := 2) sc_set_over.nd rfl (Or.inl rfl) (pe_def D_grown hr (pa_cons (pv 2) (pa_cons (pv 3) pa_nil))))) pss_nil)))
        (pss_one (ps_ret (pv 2))))), ?_⟩)
  · obtain ⟨_, _, _, _, rfl, _⟩ := h
    rfl
  · obtain ⟨p, x, n, f, rfl, hM, hx, hn, k⟩ := h
    refine q_asg (e_n (a := 0) rfl) fun H1 e1 => ?_
    refine q_R1 (e_lenM (v0 0 rfl) (hM.mono e1)) (by omega) (fun i σ' H' => ∃ v, σ' = [some (.ref p), some (nV x), some (nV (setOver f i x)), v] ∧ Ex H H') (fun H2 e2 => ⟨none, rfl, e1.trans e2⟩) ?_ ?_
    · rintro i σ' H' hi ⟨v, rfl, e⟩
      refine s_when (et_test (ev_op (e_mx (v0 0 rfl) (hM.mono e) (v0 3 rfl) (v0 1 rfl) hi hx) (e_n (a := 1) rfl) r_eq)) (fun hb H2 e2 => ?_) (fun hb H2 e2 => ?_)
      · refine s_asg (c2 (v0 2 rfl) (v0 3 rfl) (sv_grown (by omega))) fun H3 e3 => ?_
        have e4 : setOver f (i + 1) x = grown (setOver f i x) i := if_pos (of_decide_eq_true hb)
        exact ⟨_, by rw [e4]; rfl, (e.trans e2).trans e3⟩
      · have e4 : setOver f (i + 1) x = setOver f i x := if_neg (of_decide_eq_false hb)
        exact ⟨_, by rw [e4]; rfl, e.trans e2⟩
    · rintro σ' H' ⟨v, rfl, e⟩
      exact s_ret (v0 2 rfl) fun H2 e2 => k H2 (e.trans e2)
theorem sc_needed_sets : FnScope ["said", "sample"] ["said"] (defScope s_needed_sets) := ⟨rfl, rfl, rfl, by decide +kernel, rfl, by decide +kernel, by decide +kernel⟩
def sp_needed_sets (_ : PySem.W.Frag) : Sp := fun vs H Q _ => ∃ (p : Addr) (n : Nat) (f : Mx), vs = [.ref p] ∧ Mat H p n f ∧ n ≤ 8 ∧ RetP (IsN (needs f n)) H Q
theorem sv_needed_sets {H : Hp} {p : Addr} {n : Nat} {f : Mx} (hM : Mat H p n f) (hn : n ≤ 8) : SpP (sp_needed_sets K) [.ref p] H (IsN (needs f n)) := fun _ e _ q _ => ⟨p, n, f, rfl, hM.mono e, hn, q⟩
theorem given_all {n : Nat} (g : Nat → Nat) : given n (fun _ => true) (fun i => nV (g i)) = nL ((List.range n).map g) := by
  unfold given nL
  rw [List.filter_eq_self.mpr (fun _ _ => rfl), List.map_map]
  rfl
theorem ok_needed_sets {f : Addr} {fd : FuncData} (F : Fun K "needed_sets" "needed_sets" s_needed_sets f fd) (T : Txt K mg) (D_set_over : DefK P w K mg base "set_over" 2 ["said", "sample"] (sp_set_over K))  : FnOk P w K mg base CX0 3 f fd ["said"] (sp_needed_sets K) := by
  refine F.ok sc_needed_sets (fun vs H Q E h => ?_) (fun cdv A outer s H vs Q E hr h => ⟨_, (pss_one (ps_ret (pe_lc (own := [("sample", 1)]) (g := gName 1) (tt := tYes) rfl sc_needed_sets.nd (pi_range1 rfl T.range (pa_cons (pe_callB call_len_seq (by rfl) T.len (by decide +kernel) (pa_cons (pv 0) pa_nil)) pa_nil)) (blkOk_by (N := ["said", "sample"]) (sc := defScope s_needed_sets) (by decide +kernel)) (fun _ _ _ _ _ => pg_name (i := 1) sc_needed_sets.nd rfl (Or.inl rfl)) (fun _ _ _ _ _ => pts_nil) (fun _ _ _ _ _ => (pe_def D_set_over hr (pa_cons (pv 0) (pa_cons (pv 1) pa_nil))))))), ?_⟩)
  · obtain ⟨_, _, _, rfl, _⟩ := h
    rfl
  · obtain ⟨p, n, f, rfl, hM, hn, k⟩ := h
    have e0 : given n (fun _ => true) (fun i => nV (setOver f n i)) = nL (needs f n) := given_all _
    have k : RetP (IsL (nL (needs f n))) H Q := k
    rw [← e0] at k
    exact p_ret (p_new (el_lcR1 (n := (n : Int)) (fun _ => true) (fun i => nV (setOver f n i)) (ea_cons (e_lenM (v0 0 rfl) hM) ea_nil) ⟨by omega, by omega⟩ (fun x => rfl) (fun i H1 e hi => fun H2 e2 _ q => q H2 (Ex.refl H2))
      (fun i H1 e hi _ => c2 (v0 0 rfl) (v0 1 rfl) (sv_set_over (hM.mono e) (by omega) hn)))) k
theorem sc_nothing_needed : FnScope ["samples"] ["samples"] (defScope s_nothing_needed) := ⟨rfl, rfl, rfl, by decide +kernel, rfl, by decide +kernel, by decide +kernel⟩
def sp_nothing_needed (_ : PySem.W.Frag) : Sp := fun vs H Q _ => ∃ n : Nat, vs = [nV n] ∧ n ≤ 8 ∧ RetP (IsN (nothing n)) H Q
theorem sv_nothing_needed {H : Hp} {n : Nat} (hn : n ≤ 8) : SpP (sp_nothing_needed K) [nV n] H (IsN (nothing n)) := fun _ _ _ q _ => ⟨n, rfl, hn, q⟩
theorem ok_nothing_needed {f : Addr} {fd : FuncData} (F : Fun K "nothing_needed" "nothing_needed" s_nothing_needed f fd) (T : Txt K mg)   : FnOk P w K mg base CX0 1 f fd ["samples"] (sp_nothing_needed K) := by
  refine F.ok sc_nothing_needed (fun vs H Q E h => ?_) (fun cdv A outer s H vs Q E hr h => ⟨_, (pss_one (ps_ret (pe_op op_rep (pe_lst (pa_cons pe_int pa_nil)) (pv 0)))), ?_⟩)
  · obtain ⟨_, rfl, _⟩ := h
    rfl
  · obtain ⟨n, rfl, hn, k⟩ := h
    exact p_ret (p_new (el_rep (v0 0 rfl) (by omega))) k
theorem sc_may_follow : FnScope ["needed", "have", "sample"] ["needed", "have", "sample"] (defScope s_may_follow) := ⟨rfl, rfl, rfl, by decide +kernel, rfl, by decide +kernel, by decide +kernel⟩
def sp_may_follow (_ : PySem.W.Frag) : Sp := fun vs H Q _ => ∃ (p : Addr) (m x : Nat) (nd : List Nat), vs = [.ref p, nV m, nV x] ∧ H p = some (.lst (nL nd)) ∧ x < nd.length ∧ nd.length ≤ 8 ∧ RetV (.bl (mayF nd m x)) H Q
theorem sv_may_follow {H : Hp} {p : Addr} {m x : Nat} {nd : List Nat} (hp : H p = some (.lst (nL nd))) (hx : x < nd.length) (hn : nd.length ≤ 8) : SpV (sp_may_follow K) [.ref p, nV m, nV x] H (.bl (mayF nd m x)) :=
  fun _ e _ q _ => ⟨p, m, x, nd, rfl, e _ _ hp, hx, hn, q⟩
theorem ok_may_follow {f : Addr} {fd : FuncData} (F : Fun K "may_follow" "may_follow" s_may_follow f fd) (T : Txt K mg) (D_has : DefK P w K mg base "has" 1 ["group", "sample"] (sp_has K))  : FnOk P w K mg base CX0 2 f fd ["needed", "have", "sample"] (sp_may_follow K) := by
  refine F.ok sc_may_follow (fun vs H Q E h => ?_) (fun cdv A outer s H vs Q E hr h => ⟨_, (pss_one (ps_ret (pe_and (pe_not (pe_def D_has hr (pa_cons (pv 1) (pa_cons (pv 2) pa_nil)))) (pe_one (pe_cmpR op_eq (pe_op op_and (pe_ix ix_list (pv 0) (pv 2) (fun _ _ => rfl)) (pv 1)) (pe_ix ix_list (pv 0) (pv 2) (fun _ _ => rfl)) (nomark _)))))), ?_⟩)
  · obtain ⟨_, _, _, _, rfl, _⟩ := h
    rfl
  · obtain ⟨p, m, x, nd, rfl, hp, hx, hn, k⟩ := h
    exact s_ret (ev_andV (ev_notV (c2 (v0 1 rfl) (v0 2 rfl) (sv_has (by omega)))) (fun _ => ev_op (ev_op (e_ix (v0 0 rfl) (SqL.of hp) (v0 2 rfl) hx) (v0 1 rfl) r_and) (e_ix (v0 0 rfl) (SqL.of hp) (v0 2 rfl) hx) r_eq)) k
/-! ### rings -/
def RowsO (rs : List (List Nat)) : List HO := rs.map fun r => .lst (nL r)
theorem rowsO_at {rs : List (List Nat)} {i : Nat} {o : HO} (h : (RowsO rs)[i]? = some o) : ∃ r, rs[i]? = some r ∧ o = .lst (nL r) := by
  unfold RowsO at h
  rw [List.getElem?_map] at h
  cases e : rs[i]? with
  | none =>
    rw [e] at h
    cases h
  | some r =>
    rw [e] at h
    exact ⟨r, rfl, (Option.some.inj h).symm⟩
theorem rowsO_len (rs : List (List Nat)) : (RowsO rs).length = rs.length := List.length_map ..
theorem rowsO_app (rs : List (List Nat)) (r : List Nat) : RowsO (rs ++ [r]) = RowsO rs ++ [.lst (nL r)] := by
  unfold RowsO
  rw [List.map_append]
  rfl
def RowOk (n : Nat) (r : List Nat) : Prop := r ≠ [] ∧ ∀ x ∈ r, x < n
theorem RowOk.last {n : Nat} {r : List Nat} (h : RowOk n r) : r.getLastD 0 < n := by
  have e : r.getLastD 0 = r.getLast h.1 := by rw [List.getLastD_eq_getLast?, List.getLast?_eq_some_getLast h.1]; rfl
  rw [e]
  exact h.2 _ (List.getLast_mem h.1)
theorem RowOk.head {n : Nat} {r : List Nat} (h : RowOk n r) : r.headD 0 < n := by
  cases r with
  | nil => exact absurd rfl h.1
  | cons a l => exact h.2 _ List.mem_cons_self
theorem extend_len (f : Mx) (r xs : List Nat) : (extend f r xs).length ≤ xs.length := by
  unfold extend
  rw [List.length_map]
  exact List.length_filter_le _ _
theorem longer_len (f : Mx) {n : Nat} (hn : n ≤ 8) : ∀ rs : List (List Nat), (longer f n rs).length ≤ rs.length * 7
  | [] => Nat.le_refl _
  | r :: rs => by
    have ih := longer_len f hn rs
    have e := extend_len f r (above n (r.headD 0))
    unfold above at e
    rw [List.length_range'] at e
    unfold longer at ih ⊢
    rw [List.flatMap_cons, List.length_append, List.length_cons]
    unfold above at ih ⊢
    omega
theorem longer_snoc (f : Mx) (n : Nat) (rs : List (List Nat)) (r : List Nat) : longer f n (rs ++ [r]) = longer f n rs ++ extend f r (above n (r.headD 0)) := by
  unfold longer
  rw [List.flatMap_append, List.flatMap_singleton]
theorem longer_ok {f : Mx} {n : Nat} {rs : List (List Nat)} (h : ∀ r ∈ rs, RowOk n r) : ∀ r ∈ longer f n rs, RowOk n r := fun r hr => by
  obtain ⟨q, hq, h2⟩ := List.mem_flatMap.mp hr
  obtain ⟨x, hx, rfl⟩ := List.mem_map.mp h2
  have hx2 := List.mem_range'_1.mp (List.mem_filter.mp hx).1
  refine ⟨by simp, fun y hy => ?_⟩
  rcases List.mem_append.mp hy with z | z
  · exact (h q hq).2 y z
  · rw [List.mem_singleton.mp z]
    omega
theorem rowsAt_ok (f : Mx) (n : Nat) : ∀ k, ∀ r ∈ rowsAt f n k, RowOk n r
  | 0, r, h => by
    obtain ⟨s, hs, rfl⟩ := List.mem_map.mp h
    exact ⟨by simp, fun x hx => by rw [List.mem_singleton.mp hx]; exact List.mem_range.mp hs⟩
  | k + 1, r, h => longer_ok (rowsAt_ok f n k) r h
theorem rowsAt_len (f : Mx) {n : Nat} (hn : n ≤ 8) : ∀ k, (rowsAt f n k).length ≤ 8 * 7 ^ k
  | 0 => by
    show ((List.range n).map _).length ≤ _
    rw [List.length_map, List.length_range]
    omega
  | k + 1 => by
    have h1 := longer_len f hn (rowsAt f n k)
    have h2 := rowsAt_len f hn k
    show (longer f n (rowsAt f n k)).length ≤ _
    rw [Nat.pow_succ]
    omega
theorem rowsAt_small (f : Mx) {n k : Nat} (hn : n ≤ 8) (hk : k ≤ 6) : (rowsAt f n k).length * 7 < 16777216 := by
  have h := rowsAt_len f hn k
  have h2 : 7 ^ k ≤ 7 ^ 6 := Nat.pow_le_pow_right (by decide) hk
  have h3 : (7 : Nat) ^ 6 = 117649 := by decide
  omega
theorem sizeLine_is : (sizeLine : Nat) = 16777216 := sizeLine_eq
theorem extend_yes {f : Mx} {r xs : List Nat} {x : Nat} (h : okNext f r x = true) : extend f r (xs ++ [x]) = extend f r xs ++ [r ++ [x]] := by
  unfold extend
  rw [List.filter_append, List.map_append, List.filter_cons, if_pos h]
  rfl
theorem extend_no {f : Mx} {r xs : List Nat} {x : Nat} (h : okNext f r x = false) : extend f r (xs ++ [x]) = extend f r xs := by
  unfold extend
  rw [List.filter_append, List.map_append, List.filter_cons, if_neg (by rw [h]; decide)]
  exact List.append_nil _
theorem sc_longer_rows : FnScope ["said", "rows", "longer", "row", "sample"] ["said", "rows"] (defScope s_longer_rows) := ⟨rfl, rfl, rfl, by decide +kernel, rfl, by decide +kernel, by decide +kernel⟩
def sp_longer_rows (_ : PySem.W.Frag) : Sp := fun vs H Q _ => ∃ (p r : Addr) (n : Nat) (f : Mx) (rs : List (List Nat)), vs = [.ref p, .ref r] ∧ Mat H p n f ∧ Refs H r (RowsO rs) ∧ n ≤ 8 ∧ (∀ q ∈ rs, RowOk n q ∧ q.length ≤ 100) ∧ rs.length * 7 < 16777216 ∧ RetP (IsR (RowsO (longer f n rs))) H Q
theorem sv_longer_rows {H : Hp} {p r : Addr} {n : Nat} {f : Mx} {rs : List (List Nat)} (hM : Mat H p n f) (hR : Refs H r (RowsO rs)) (hn : n ≤ 8) (ho : ∀ q ∈ rs, RowOk n q ∧ q.length ≤ 100) (hz : rs.length * 7 < 16777216) : SpP (sp_longer_rows K) [.ref p, .ref r] H (IsR (RowsO (longer f n rs))) :=
  fun _ e _ q _ => ⟨p, r, n, f, rs, rfl, hM.mono e, hR.mono e, hn, ho, hz, q⟩
theorem ok_longer_rows {f : Addr} {fd : FuncData} (F : Fun K "longer_rows" "longer_rows" s_longer_rows f fd) (T : Txt K mg)   : FnOk P w K mg base CX0 1 f fd ["said", "rows"] (sp_longer_rows K) := by
  refine F.ok sc_longer_rows (fun vs H Q E h => ?_) (fun cdv A outer s H vs Q E hr h => ⟨_, (pss_cons (ps_set (i := 2) sc_longer_rows.nd rfl (Or.inl rfl) (pe_lst pa_nil))
        (pss_cons (ps_for PassesOwn.never rfl (pi_list (pv 1)) (pg_name (i := 3) sc_longer_rows.nd rfl (Or.inl rfl))
        (pss_one (ps_for PassesOwn.never rfl (pi_range2 rfl T.range (pa_cons (pe_op op_add (pe_ix ix_list (pv 3) pe_int (fun _ _ => rfl)) pe_int) (pa_cons (pe_callB call_len_seq (by rfl) T.len (by decide +kernel) (pa_cons (pv 0) pa_nil)) pa_nil))) (pg_name (i := 4) sc_longer_rows.nd rfl (Or.inl rfl))
        (pss_one (ps_if (PW.pt (pw_and (pt_cmpR op_eq (pe_ix ix_list (pe_ix ix_list (pv 0) (pe_ix ix_list (pv 3) (pe_un un_neg pe_int) (fun _ _ => rfl)) (fun _ _ => rfl)) (pv 4) (fun _ _ => rfl)) pe_int (nomark _)) (pw_and1 (pt_cmpR op_notIn_seq (pv 4) (pv 3) (by rfl))))) (pss_one (ps_expr (pe_bm PySem.F.plainAttrs_list PySem.F.slot_list_append PySem.F.type_list_append mt_append (pv 2) (pa_cons (pe_op op_cat (pv 3) (pe_lst (pa_cons (pv 4) pa_nil))) pa_nil)))) pss_nil)))))
        (pss_one (ps_ret (pv 2))))), ?_⟩)
  · obtain ⟨_, _, _, _, _, rfl, _⟩ := h
    rfl
  · obtain ⟨p, r, n, f, rs, rfl, hM, hR, hn, hok, hz, k⟩ := h
    refine q_nil fun l H1 hl e1 h1 => ?_
    refine q_forR (os := RowsO rs) (v0 1 rfl) hR e1 (fun i σ' H' => ∃ v u, σ' = [some (.ref p), some (.ref r), some (.ref l), v, u] ∧ Ex H H' ∧ Refs H' l (RowsO (longer f n (rs.take i)))) (fun H2 e2 => ⟨none, none, rfl, e1.trans e2, (Refs.nil h1).mono e2⟩) (fun i σ' H' ⟨_, _, _, e, _⟩ => e) ?_ ?_
    · rintro i a o σ' H' ho ha ⟨v, u, rfl, e, hacc⟩
      obtain ⟨q, hq, rfl⟩ := rowsO_at ho
      obtain ⟨okq, hql⟩ := hok q (List.mem_of_getElem? hq)
      have hlt := (List.getElem?_eq_some_iff.mp hq).1
      refine s_R2 (ev_op (e_head (v0 3 rfl) (SqL.of (e _ _ ha)) okq.1) (e_n (a := 1) rfl) r_add) (e_lenM (v0 0 rfl) (hM.mono e)) (by have := okq.head; omega) (by omega)
        (fun j σ' H' => ∃ u, σ' = [some (.ref p), some (.ref r), some (.ref l), some (.ref a), u] ∧ Ex H H' ∧ Refs H' l (RowsO (longer f n (rs.take i) ++ extend f q (List.range' (q.headD 0 + 1) j))))
        (fun H2 e2 => ⟨u, rfl, e.trans e2, by rw [show extend f q (List.range' (q.headD 0 + 1) 0) = [] from rfl, List.append_nil]; exact hacc.mono e2⟩) ?_ ?_
      · rintro j σ2 H2 hj ⟨u2, rfl, e2, hacc2⟩
        have hx : q.headD 0 + 1 + j < n := hj
        have hs := longer_len f hn (rs.take i)
        have hs2 := extend_len f q (List.range' (q.headD 0 + 1) j)
        rw [List.length_range'] at hs2
        rw [List.length_take] at hs
        refine s_when (et_and (et_test (ev_op (e_mx (v0 0 rfl) (hM.mono e2) (e_last (v0 3 rfl) (SqL.of (e2 _ _ ha)) okq.1) (v0 4 rfl) okq.last hx) (e_n (a := 1) rfl) r_eq)) (fun _ => et_test (e_notin (v0 4 rfl) (v0 3 rfl) (SqL.of (e2 _ _ ha))))) (fun hb H3 e3 => ?_) (fun hb H3 e3 => ?_)
        · refine s_appR (hacc2.mono e3) (v0 2 rfl) (p_cat (p_var rfl (e3 _ _ (e2 _ _ ha))) (p_new (el_lst (ea_cons (v0 4 rfl) ea_nil) (by show 1 ≤ 100000; decide))) ?_) ?_ fun H4 up hr => ⟨_, rfl, up H (e2.trans e3) hl, ?_⟩
          · rw [nL_len, sizeLine_is]
            show q.length + 1 ≤ _
            omega
          · rw [rowsO_len, List.length_append, sizeLine_is]
            omega
          · rw [List.range'_1_concat, extend_yes hb, ← List.append_assoc, rowsO_app]
            rw [nL_app] at hr
            exact hr
        · refine ⟨_, rfl, e2.trans e3, ?_⟩
          rw [List.range'_1_concat, extend_no hb]
          exact hacc2.mono e3
      · rintro σ2 H2 ⟨u2, rfl, e2, hacc2⟩
        refine ⟨_, _, rfl, e2, ?_⟩
        rw [take_snoc hq, longer_snoc]
        exact hacc2
    · rintro σ' H' ⟨v, u, rfl, e, hacc⟩
      rw [rowsO_len, List.take_length] at hacc
      exact p_ret (p_of (P := IsR _) (v0 2 rfl) fun H1 e1 => ⟨l, rfl, hacc.mono e1⟩) fun v H2 e2 hv => k v H2 (e.trans e2) hv
theorem longer_row {f : Mx} {n m : Nat} {rs : List (List Nat)} (h : ∀ r ∈ rs, r.length = m) : ∀ r ∈ longer f n rs, r.length = m + 1 := fun r hr => by
  obtain ⟨q, hq, h2⟩ := List.mem_flatMap.mp hr
  obtain ⟨x, _, rfl⟩ := List.mem_map.mp h2
  rw [List.length_append, h q hq]
  rfl
theorem rowsAt_row (f : Mx) (n : Nat) : ∀ k, ∀ r ∈ rowsAt f n k, r.length = k + 1
  | 0, r, h => by
    obtain ⟨s, _, rfl⟩ := List.mem_map.mp h
    rfl
  | k + 1, r, h => longer_row (rowsAt_row f n k) r h
theorem sc_shortest_ring : FnScope ["said", "rows", "more", "row", "sample"] ["said"] (defScope s_shortest_ring) := ⟨rfl, rfl, rfl, by decide +kernel, rfl, by decide +kernel, by decide +kernel⟩
def sp_shortest_ring (_ : PySem.W.Frag) : Sp := fun vs H Q _ => ∃ (p : Addr) (n : Nat) (f : Mx), vs = [.ref p] ∧ Mat H p n f ∧ n ≤ 8 ∧ RetP (IsN (ring f n)) H Q
theorem sv_shortest_ring {H : Hp} {p : Addr} {n : Nat} {f : Mx} (hM : Mat H p n f) (hn : n ≤ 8) : SpP (sp_shortest_ring K) [.ref p] H (IsN (ring f n)) := fun _ e _ q _ => ⟨p, n, f, rfl, hM.mono e, hn, q⟩
theorem ok_shortest_ring {f : Addr} {fd : FuncData} (F : Fun K "shortest_ring" "shortest_ring" s_shortest_ring f fd) (T : Txt K mg) (D_longer_rows : DefK P w K mg base "longer_rows" 1 ["said", "rows"] (sp_longer_rows K))  : FnOk P w K mg base CX0 2 f fd ["said"] (sp_shortest_ring K) := by
  refine F.ok sc_shortest_ring (fun vs H Q E h => ?_) (fun cdv A outer s H vs Q E hr h => ⟨_, (pss_cons (ps_setLc (i := 1) (own := [("sample", 4)]) (g := gName 4) (tt := tYes) rfl sc_shortest_ring.nd rfl rfl (sw_true rfl rfl rfl (by decide +kernel)) (pi_range1 rfl T.range (pa_cons (pe_callB call_len_seq (by rfl) T.len (by decide +kernel) (pa_cons (pv 0) pa_nil)) pa_nil)) (blkOk_by (N := ["said", "rows", "more", "row", "sample"]) (sc := defScope s_shortest_ring) (by decide +kernel)) (fun _ _ _ _ _ => pg_name (i := 4) sc_shortest_ring.nd rfl (Or.inl rfl)) (fun _ _ _ _ _ => pts_nil) (fun _ _ _ _ _ => (pe_lst (pa_cons (pv 4) pa_nil))))
        (pss_cons (ps_for PassesOwn.never rfl (pi_range2 rfl T.range (pa_cons pe_int (pa_cons (pe_callB call_len_seq (by rfl) T.len (by decide +kernel) (pa_cons (pv 0) pa_nil)) pa_nil))) (pg_name (i := 2) sc_shortest_ring.nd rfl (Or.inl rfl))
        (pss_cons (ps_set (i := 1) sc_shortest_ring.nd rfl (Or.inl rfl) (pe_def D_longer_rows hr (pa_cons (pv 0) (pa_cons (pv 1) pa_nil))))
        (pss_one (ps_for PassesOwn.never rfl (pi_list (pv 1)) (pg_name (i := 3) sc_shortest_ring.nd rfl (Or.inl rfl))
        (pss_one (ps_if (pt_cmpR op_eq (pe_ix ix_list (pe_ix ix_list (pv 0) (pe_ix ix_list (pv 3) (pe_un un_neg pe_int) (fun _ _ => rfl)) (fun _ _ => rfl)) (pe_ix ix_list (pv 3) pe_int (fun _ _ => rfl)) (fun _ _ => rfl)) pe_int (nomark _)) (pss_one (ps_ret (pv 3))) pss_nil))))))
        (pss_one (ps_ret (pe_lst pa_nil))))), ?_⟩)
  · obtain ⟨_, _, _, rfl, _⟩ := h
    rfl
  · obtain ⟨p, n, f, rfl, hM, hn, k⟩ := h
    refine pq_asg (p_lcR (m := n) (fun i => nL [i]) (ea_cons (e_lenM (v0 0 rfl) hM) ea_nil) (by omega) (fun x => rfl) (fun i H1 e hi => el_lst (ea_cons (v0 4 rfl) ea_nil) (by show 1 ≤ 100000; decide))) ?_
    rintro _ H1 e1 ⟨d, rfl, hd⟩
    have hd : Refs H1 d (RowsO (rowsAt f n 0)) := by
      have e : RowsO (rowsAt f n 0) = (List.range n).map fun i => HO.lst (nL [i]) := by
        unfold RowsO
        rw [show rowsAt f n 0 = (List.range n).map fun s => [s] from rfl, List.map_map]
        rfl
      rw [e]
      exact hd
    refine q_R2 (lo := 1) (m := n) (e_n rfl) (e_lenM (v0 0 rfl) (hM.mono e1)) (by decide) (by omega) (fun i σ' H' => ∃ d v u z, σ' = [some (.ref p), some (.ref d), v, u, z] ∧ Ex H H' ∧ Refs H' d (RowsO (rowsAt f n i)) ∧ ∀ j, j < i → ringAt f n j = none)
      (fun H2 e2 => ⟨d, _, _, _, rfl, e1.trans e2, hd.mono e2, fun j hj => absurd hj (Nat.not_lt_zero _)⟩) ?_ ?_
    · rintro i σ' H' hi ⟨d, v, u, z, rfl, e, hr, hno⟩
      refine pq_asg (p_v2 (v0 0 rfl) (v0 1 rfl) (sv_longer_rows (hM.mono e) hr hn (fun q hq => ⟨rowsAt_ok f n i q hq, by rw [rowsAt_row f n i q hq]; omega⟩) (rowsAt_small f hn (by omega)))) ?_
      rintro _ H2 e2 ⟨d2, rfl, hr2⟩
      have hr2 : Refs H2 d2 (RowsO (rowsAt f n (i + 1))) := hr2
      refine s_forR (os := RowsO (rowsAt f n (i + 1))) (v0 1 rfl) hr2 (Ex.refl H2) (fun j σ' H' => ∃ u, σ' = [some (.ref p), some (.ref d2), some (nV (1 + i)), u, z] ∧ Ex H2 H' ∧ ∀ r ∈ (rowsAt f n (i + 1)).take j, closing f r = false)
        (fun H3 e3 => ⟨u, rfl, e3, fun r hr => by rw [List.take_zero] at hr; cases hr⟩) (fun j σ' H' ⟨_, _, e, _⟩ => e) ?_ ?_
      · rintro j a o σ' H' ho ha ⟨u2, rfl, e3, hc⟩
        obtain ⟨q, hq, rfl⟩ := rowsO_at ho
        have okq := rowsAt_ok f n (i + 1) q (List.mem_of_getElem? hq)
        have ha3 := e3 _ _ ha
        have hM3 := hM.mono ((e.trans e2).trans e3)
        refine s_when (et_test (ev_op (e_mx (v0 0 rfl) hM3 (e_last (v0 3 rfl) (SqL.of ha3) okq.1) (e_head (v0 3 rfl) (SqL.of ha3) okq.1) okq.last okq.head) (e_n (a := 1) rfl) r_eq)) (fun hb H4 e4 => ?_) (fun hb H4 e4 => ?_)
        · refine p_ret (p_of (P := IsN (ring f n)) (v0 3 rfl) fun H5 e5 => ⟨a, rfl, ?_⟩) fun v H5 e5 hv => k v H5 (((e.trans e2).trans e3).trans (e4.trans e5)) hv
          have e6 : ring f n = q := by
            have g : ringAt f n i = some q := by
              unfold ringAt
              rw [List.find?_eq_some_iff_getElem]
              obtain ⟨hlt, hget⟩ := List.getElem?_eq_some_iff.mp hq
              refine ⟨hb, j, hlt, hget, fun j' hj' => ?_⟩
              rw [hc _ (List.mem_take_iff_getElem.mpr ⟨j', by omega, rfl⟩)]
              rfl
            unfold ring
            rw [some_range (by omega) g hno]
            rfl
          rw [e6]
          exact e5 _ _ (e4 _ _ ha3)
        · refine ⟨_, rfl, e3.trans e4, fun r hr => ?_⟩
          rw [take_snoc hq] at hr
          rcases List.mem_append.mp hr with z | z
          · exact hc r z
          · rw [List.mem_singleton.mp z]
            exact hb
      · rintro σ' H' ⟨u2, rfl, e3, hc⟩
        rw [rowsO_len, List.take_length] at hc
        refine ⟨d2, _, _, _, rfl, (e.trans e2).trans e3, hr2.mono e3, fun j hj => ?_⟩
        by_cases h : j = i
        · subst h
          unfold ringAt
          exact List.find?_eq_none.mpr fun r hr => by rw [hc r hr]; exact Bool.false_ne_true
        · exact hno j (by omega)
    · rintro σ' H' ⟨d, v, u, z, rfl, e, hr, hno⟩
      have e2 : ring f n = [] := by
        unfold ring
        rw [some_range_none hno]
        rfl
      refine p_ret (p_new (el_lst ea_nil (by decide))) fun v H2 e3 hv => k v H2 (e.trans e3) ?_
      rw [e2]
      exact hv
theorem sc_is_sound : FnScope ["said"] ["said"] (defScope s_is_sound) := ⟨rfl, rfl, rfl, by decide +kernel, rfl, by decide +kernel, by decide +kernel⟩
def sp_is_sound (_ : PySem.W.Frag) : Sp := fun vs H Q _ => ∃ (p : Addr) (n : Nat) (f : Mx), vs = [.ref p] ∧ Mat H p n f ∧ n ≤ 8 ∧ RetV (.bl (isSound f n)) H Q
theorem sv_is_sound {H : Hp} {p : Addr} {n : Nat} {f : Mx} (hM : Mat H p n f) (hn : n ≤ 8) : SpV (sp_is_sound K) [.ref p] H (.bl (isSound f n)) := fun _ e _ q _ => ⟨p, n, f, rfl, hM.mono e, hn, q⟩
theorem ok_is_sound {f : Addr} {fd : FuncData} (F : Fun K "is_sound" "is_sound" s_is_sound f fd) (T : Txt K mg) (D_shortest_ring : DefK P w K mg base "shortest_ring" 2 ["said"] (sp_shortest_ring K))  : FnOk P w K mg base CX0 3 f fd ["said"] (sp_is_sound K) := by
  refine F.ok sc_is_sound (fun vs H Q E h => ?_) (fun cdv A outer s H vs Q E hr h => ⟨_, (pss_one (ps_ret (pe_cmpR op_eq (pe_callB call_len_seq (by rfl) T.len (by decide +kernel) (pa_cons (pe_def D_shortest_ring hr (pa_cons (pv 0) pa_nil)) pa_nil)) pe_int (nomark _)))), ?_⟩)
  · obtain ⟨_, _, _, rfl, _⟩ := h
    rfl
  · obtain ⟨p, n, f, rfl, hM, hn, k⟩ := h
    exact s_ret (ev_op (p_lenN (p_v1 (v0 0 rfl) (sv_shortest_ring hM hn))) (e_n (a := 0) rfl) r_eq) k
/-! ### orders -/
theorem sc_first_free : FnScope ["needed", "have", "sample"] ["needed", "have"] (defScope s_first_free) := ⟨rfl, rfl, rfl, by decide +kernel, rfl, by decide +kernel, by decide +kernel⟩
def sp_first_free (_ : PySem.W.Frag) : Sp := fun vs H Q _ => ∃ (p : Addr) (m : Nat) (nd : List Nat), vs = [.ref p, nV m] ∧ H p = some (.lst (nL nd)) ∧ nd.length ≤ 8 ∧ RetV (nV (firstFree nd m)) H Q
theorem sv_first_free {H : Hp} {p : Addr} {m : Nat} {nd : List Nat} (hp : H p = some (.lst (nL nd))) (hn : nd.length ≤ 8) : SpV (sp_first_free K) [.ref p, nV m] H (nV (firstFree nd m)) := fun _ e _ q _ => ⟨p, m, nd, rfl, e _ _ hp, hn, q⟩
theorem ok_first_free {f : Addr} {fd : FuncData} (F : Fun K "first_free" "first_free" s_first_free f fd) (T : Txt K mg) (D_may_follow : DefK P w K mg base "may_follow" 2 ["needed", "have", "sample"] (sp_may_follow K))  : FnOk P w K mg base CX0 3 f fd ["needed", "have"] (sp_first_free K) := by
  refine F.ok sc_first_free (fun vs H Q E h => ?_) (fun cdv A outer s H vs Q E hr h => ⟨_, (pss_cons (ps_for PassesOwn.never rfl (pi_range1 rfl T.range (pa_cons (pe_callB call_len_seq (by rfl) T.len (by decide +kernel) (pa_cons (pv 0) pa_nil)) pa_nil)) (pg_name (i := 2) sc_first_free.nd rfl (Or.inl rfl))
        (pss_one (ps_if (pt_val (pe_def D_may_follow hr (pa_cons (pv 0) (pa_cons (pv 1) (pa_cons (pv 2) pa_nil))))) (pss_one (ps_ret (pv 2))) pss_nil)))
        (pss_one (ps_ret (pe_callB call_len_seq (by rfl) T.len (by decide +kernel) (pa_cons (pv 0) pa_nil))))), ?_⟩)
  · obtain ⟨_, _, _, rfl, _⟩ := h
    rfl
  · obtain ⟨p, m, nd, rfl, hp, hn, k⟩ := h
    refine q_R1 (e_lenL (v0 0 rfl) (SqL.of hp)) (by omega) (fun i σ' H' => ∃ v, σ' = [some (.ref p), some (nV m), v] ∧ Ex H H' ∧ ∀ j, j < i → mayF nd m j = false) (fun H1 e1 => ⟨none, rfl, e1, fun j hj => absurd hj (Nat.not_lt_zero _)⟩) ?_ ?_
    · rintro i σ' H' hi ⟨v, rfl, e, hno⟩
      refine s_when (et_B (c3 (v0 0 rfl) (v0 1 rfl) (v0 2 rfl) (sv_may_follow (e _ _ hp) hi hn))) (fun hb H2 e2 => ?_) (fun hb H2 e2 => ?_)
      · refine s_ret (v0 2 rfl) fun H3 e3 => ?_
        have e4 : firstFree nd m = i := by
          unfold firstFree
          rw [find_range hi hb hno]
          rfl
        rw [e4] at k
        exact k H3 ((e.trans e2).trans e3)
      · refine ⟨_, rfl, e.trans e2, fun j hj => ?_⟩
        by_cases h : j = i
        · rw [h, hb]
        · exact hno j (by omega)
    · rintro σ' H' ⟨v, rfl, e, hno⟩
      have e4 : firstFree nd m = nd.length := by
        unfold firstFree
        rw [find_range_none hno]
        rfl
      rw [e4] at k
      exact s_ret (e_lenL (v0 0 rfl) (SqL.of (e _ _ hp))) fun H3 e3 => k H3 (e.trans e3)
theorem firstFree_le (nd : List Nat) (m : Nat) : firstFree nd m ≤ nd.length := by
  unfold firstFree
  cases h : (List.range nd.length).find? (mayF nd m) with
  | none => exact Nat.le_refl _
  | some x => exact Nat.le_of_lt (List.mem_range.mp (List.mem_of_find?_eq_some h))
theorem firstAt_len (nd : List Nat) : ∀ i, (firstAt nd i).1.length = i
  | 0 => rfl
  | i + 1 => by
    show ((firstAt nd i).1 ++ [_]).length = _
    rw [List.length_append, firstAt_len nd i]
    rfl
theorem sc_first_order : FnScope ["needed", "order", "have", "turn", "sample"] ["needed"] (defScope s_first_order) := ⟨rfl, rfl, rfl, by decide +kernel, rfl, by decide +kernel, by decide +kernel⟩
def sp_first_order (_ : PySem.W.Frag) : Sp := fun vs H Q _ => ∃ (p : Addr) (nd : List Nat), vs = [.ref p] ∧ H p = some (.lst (nL nd)) ∧ nd.length ≤ 8 ∧ RetP (IsN (firstOrder nd)) H Q
theorem sv_first_order {H : Hp} {p : Addr} {nd : List Nat} (hp : H p = some (.lst (nL nd))) (hn : nd.length ≤ 8) : SpP (sp_first_order K) [.ref p] H (IsN (firstOrder nd)) := fun _ e _ q _ => ⟨p, nd, rfl, e _ _ hp, hn, q⟩
theorem ok_first_order {f : Addr} {fd : FuncData} (F : Fun K "first_order" "first_order" s_first_order f fd) (T : Txt K mg) (D_first_free : DefK P w K mg base "first_free" 3 ["needed", "have"] (sp_first_free K)) (D_grown : DefK P w K mg base "grown" 1 ["group", "sample"] (sp_grown K))  : FnOk P w K mg base CX0 4 f fd ["needed"] (sp_first_order K) := by
  refine F.ok sc_first_order (fun vs H Q E h => ?_) (fun cdv A outer s H vs Q E hr h => ⟨_, (pss_cons (ps_set (i := 1) sc_first_order.nd rfl (Or.inl rfl) (pe_lst pa_nil))
        (pss_cons (ps_set (i := 2) sc_first_order.nd rfl (Or.inl rfl) pe_int)
        (pss_cons (ps_for PassesOwn.never rfl (pi_range1 rfl T.range (pa_cons (pe_callB call_len_seq (by rfl) T.len (by decide +kernel) (pa_cons (pv 0) pa_nil)) pa_nil)) (pg_name (i := 3) sc_first_order.nd rfl (Or.inl rfl))
        (pss_cons (ps_set (i := 4) sc_first_order.nd rfl (Or.inl rfl) (pe_def D_first_free hr (pa_cons (pv 0) (pa_cons (pv 2) pa_nil))))
        (pss_cons (ps_expr (pe_bm PySem.F.plainAttrs_list PySem.F.slot_list_append PySem.F.type_list_append mt_append (pv 1) (pa_cons (pv 4) pa_nil)))
        (pss_one (ps_set (i := 2) sc_first_order.nd rfl (Or.inl rfl) (pe_def D_grown hr (pa_cons (pv 2) (pa_cons (pv 4) pa_nil))))))))
        (pss_one (ps_ret (pv 1)))))), ?_⟩)
  · obtain ⟨_, _, rfl, _⟩ := h
    rfl
  · obtain ⟨p, nd, rfl, hp, hn, k⟩ := h
    refine q_nil fun l H1 hl e1 h1 => ?_
    refine q_asg (e_n (a := 0) rfl) fun H2 e2 => ?_
    refine q_R1 (e_lenL (v0 0 rfl) (SqL.of (e2 _ _ (e1 _ _ hp)))) (by omega) (fun i σ' H' => ∃ v u, σ' = [some (.ref p), some (.ref l), some (nV (firstAt nd i).2), v, u] ∧ Ex H H' ∧ H' l = some (.lst (nL (firstAt nd i).1)))
      (fun H3 e3 => ⟨none, none, rfl, (e1.trans e2).trans e3, e3 _ _ (e2 _ _ h1)⟩) ?_ ?_
    · rintro i σ' H' hi ⟨v, u, rfl, e, hl2⟩
      refine q_asg (c2 (v0 0 rfl) (v0 2 rfl) (sv_first_free (e _ _ hp) hn)) fun H3 e3 => ?_
      refine q_appN (e3 _ _ hl2) (v0 1 rfl) (v0 4 rfl) (by rw [firstAt_len]; omega) fun H4 up h4 => ?_
      refine s_asg (c2 (v0 2 rfl) (v0 4 rfl) (sv_grown (by have := firstFree_le nd (firstAt nd i).2; omega))) fun H5 e5 => ?_
      exact ⟨_, _, rfl, (up H (e.trans e3) hl).trans e5, e5 _ _ h4⟩
    · rintro σ' H' ⟨v, u, rfl, e, hl2⟩
      exact p_ret (p_of (P := IsN (firstOrder nd)) (v0 1 rfl) fun H1 e1 => ⟨l, rfl, e1 _ _ hl2⟩) fun v H2 e2 hv => k v H2 (e.trans e2) hv
theorem waysIn_len (nd : List Nat) (m : Nat) (w : List Nat) : ∀ i, (waysIn nd m w i).length = w.length
  | 0 => rfl
  | i + 1 => by
    have ih := waysIn_len nd m w i
    show (if mayF nd m i = true then (waysIn nd m w i).set _ _ else waysIn nd m w i).length = _
    split
    · rw [List.length_set, ih]
    · exact ih
theorem ways_len (nd : List Nat) : ∀ k, (ways nd k).length = 2 ^ nd.length
  | 0 => by
    show ((List.replicate (2 ^ nd.length) 0).set 0 1).length = _
    rw [List.length_set, List.length_replicate]
  | k + 1 => by
    show (waysIn nd k (ways nd k) nd.length).length = _
    rw [waysIn_len, ways_len nd k]
theorem every_succ (n : Nat) : every n + 1 = 2 ^ n := by
  have := Nat.two_pow_pos n
  unfold every
  omega
theorem grown_lt {m x n : Nat} (hm : m < 2 ^ n) (hx : x < n) : grown m x < 2 ^ n := Nat.or_lt_two_pow hm (Nat.pow_lt_pow_right (by decide) hx)
theorem two_pow_8 {n : Nat} (h : n ≤ 8) : 2 ^ n ≤ 256 := Nat.pow_le_pow_right (by decide) h
theorem sc_count_orders : FnScope ["needed", "samples", "every", "ways", "have", "sample"] ["needed"] (defScope s_count_orders) := ⟨rfl, rfl, rfl, by decide +kernel, rfl, by decide +kernel, by decide +kernel⟩
def sp_count_orders (_ : PySem.W.Frag) : Sp := fun vs H Q _ => ∃ (p : Addr) (nd : List Nat), vs = [.ref p] ∧ H p = some (.lst (nL nd)) ∧ nd.length ≤ 8 ∧ RetV (nV (cnt nd)) H Q
theorem sv_count_orders {H : Hp} {p : Addr} {nd : List Nat} (hp : H p = some (.lst (nL nd))) (hn : nd.length ≤ 8) : SpV (sp_count_orders K) [.ref p] H (nV (cnt nd)) := fun _ e _ q _ => ⟨p, nd, rfl, e _ _ hp, hn, q⟩
theorem ok_count_orders {f : Addr} {fd : FuncData} (F : Fun K "count_orders" "count_orders" s_count_orders f fd) (T : Txt K mg) (D_may_follow : DefK P w K mg base "may_follow" 2 ["needed", "have", "sample"] (sp_may_follow K)) (D_grown : DefK P w K mg base "grown" 1 ["group", "sample"] (sp_grown K))  : FnOk P w K mg base CX0 3 f fd ["needed"] (sp_count_orders K) := by
  refine F.ok sc_count_orders (fun vs H Q E h => ?_) (fun cdv A outer s H vs Q E hr h => ⟨_, (pss_cons (ps_set (i := 1) sc_count_orders.nd rfl (Or.inl rfl) (pe_callB call_len_seq (by rfl) T.len (by decide +kernel) (pa_cons (pv 0) pa_nil)))
        (pss_cons (ps_set (i := 2) sc_count_orders.nd rfl (Or.inl rfl) (pe_op op_sub (pe_op op_shl pe_int (pv 1)) pe_int))
        (pss_cons (ps_set (i := 3) sc_count_orders.nd rfl (Or.inl rfl) (pe_op op_rep (pe_lst (pa_cons pe_int pa_nil)) (pe_op op_add (pv 2) pe_int)))
        (pss_cons (ps_asg pe_int (pg_sub (pv 3) pe_int set_list))
        (pss_cons (ps_for PassesOwn.never rfl (pi_range1 rfl T.range (pa_cons (pv 2) pa_nil)) (pg_name (i := 4) sc_count_orders.nd rfl (Or.inl rfl))
        (pss_one (ps_for PassesOwn.never rfl (pi_range1 rfl T.range (pa_cons (pv 1) pa_nil)) (pg_name (i := 5) sc_count_orders.nd rfl (Or.inl rfl))
        (pss_one (ps_if (pt_val (pe_def D_may_follow hr (pa_cons (pv 0) (pa_cons (pv 4) (pa_cons (pv 5) pa_nil))))) (pss_one (ps_augS (pv 3) (pe_def D_grown hr (pa_cons (pv 4) (pa_cons (pv 5) pa_nil))) get_list (pe_ix ix_list (pv 3) (pv 4) (fun _ _ => rfl)) ip_add set_list)) pss_nil)))))
        (pss_one (ps_ret (pe_ix ix_list (pv 3) (pv 2) (fun _ _ => rfl))))))))), ?_⟩)
  · obtain ⟨_, _, rfl, _⟩ := h
    rfl
  · obtain ⟨p, nd, rfl, hp, hn, k⟩ := h
    have h8 := two_pow_8 hn
    have h0 := Nat.two_pow_pos nd.length
    have hev := every_succ nd.length
    refine q_asg (e_lenL (v0 0 rfl) (SqL.of hp)) fun H1 e1 => ?_
    refine q_asg (ev_op (ev_op ev_c (v0 1 rfl) (r_shl (by omega))) (e_n (a := 1) rfl) (r_sub h0)) fun H2 e2 => ?_
    refine q_asgL (el_rep (k := 0) (n := every nd.length + 1) (ev_op (v0 2 rfl) (e_n (a := 1) rfl) r_add) (by omega)) fun l H3 hl e3 h3 => ?_
    rw [hev] at h3
    have e13 := (e1.trans e2).trans e3
    have hl0 : H l = none := fresh_back (e1.trans e2) hl
    refine q_setN h3 (e_n (a := 1) rfl) (v0 3 rfl) (e_n (a := 0) rfl) (by rw [List.length_replicate]; exact h0) fun H4 up h4 => ?_
    have e14 := up H e13 hl0
    refine q_R1 (v0 2 rfl) (by unfold every at hev; omega) (fun i σ' H' => ∃ v u, σ' = [some (.ref p), some (nV nd.length), some (nV (every nd.length)), some (.ref l), v, u] ∧ Ex H H' ∧ H' l = some (.lst (nL (ways nd i))))
      (fun H5 e5 => ⟨none, none, rfl, e14.trans e5, e5 _ _ h4⟩) ?_ ?_
    · rintro m σ' H' hm ⟨v, u, rfl, e, hw⟩
      have hm : m < every nd.length := hm
      refine s_R1 (v0 1 rfl) (by omega) (fun i σ' H' => ∃ u, σ' = [some (.ref p), some (nV nd.length), some (nV (every nd.length)), some (.ref l), some (nV m), u] ∧ Ex H H' ∧ H' l = some (.lst (nL (waysIn nd m (ways nd m) i))))
        (fun H5 e5 => ⟨u, rfl, e.trans e5, e5 _ _ hw⟩) ?_ ?_
      · rintro i σ2 H5 hi ⟨u2, rfl, e5, hw5⟩
        have hlen : (waysIn nd m (ways nd m) i).length = 2 ^ nd.length := by rw [waysIn_len, ways_len]
        refine s_when (et_B (c3 (v0 0 rfl) (v0 4 rfl) (v0 5 rfl) (sv_may_follow (e5 _ _ hp) hi hn))) (fun hb H6 e6 => ?_) (fun hb H6 e6 => ?_)
        · refine s_augL (e6 _ _ hw5) (v0 3 rfl) (c2 (v0 4 rfl) (v0 5 rfl) (sv_grown (by omega))) (by rw [hlen]; exact grown_lt (by omega) hi) (e_ix (v0 3 rfl) (SqL.of (e6 _ _ hw5)) (v0 4 rfl) (by rw [hlen]; omega)) fun H7 up7 h7 => ?_
          have e7 : waysIn nd m (ways nd m) (i + 1) = (waysIn nd m (ways nd m) i).set (grown m i) ((waysIn nd m (ways nd m) i).getD (grown m i) 0 + (waysIn nd m (ways nd m) i).getD m 0) := if_pos hb
          rw [← e7] at h7
          exact ⟨_, rfl, up7 H (e5.trans e6) hl0, h7⟩
        · have e7 : waysIn nd m (ways nd m) (i + 1) = waysIn nd m (ways nd m) i := if_neg (by rw [hb]; decide)
          exact ⟨_, rfl, e5.trans e6, by rw [e7]; exact e6 _ _ hw5⟩
      · rintro σ2 H5 ⟨u2, rfl, e5, hw5⟩
        exact ⟨_, _, rfl, e5, hw5⟩
    · rintro σ' H' ⟨v, u, rfl, e, hw⟩
      exact s_ret (e_ix (v0 3 rfl) (SqL.of hw) (v0 2 rfl) (by rw [ways_len]; omega)) fun H5 e5 => k H5 (e.trans e5)
theorem sc_count_before : FnScope ["needed", "a", "b", "more"] ["needed", "a", "b"] (defScope s_count_before) := ⟨rfl, rfl, rfl, by decide +kernel, rfl, by decide +kernel, by decide +kernel⟩
def sp_count_before (_ : PySem.W.Frag) : Sp := fun vs H Q _ => ∃ (p : Addr) (a b : Nat) (nd : List Nat), vs = [.ref p, nV a, nV b] ∧ H p = some (.lst (nL nd)) ∧ nd.length ≤ 8 ∧ a < nd.length ∧ b < nd.length ∧ RetV (nV (cntB nd a b)) H Q
theorem sv_count_before {H : Hp} {p : Addr} {a b : Nat} {nd : List Nat} (hp : H p = some (.lst (nL nd))) (hn : nd.length ≤ 8) (ha : a < nd.length) (hb : b < nd.length) : SpV (sp_count_before K) [.ref p, nV a, nV b] H (nV (cntB nd a b)) := fun _ e _ q _ => ⟨p, a, b, nd, rfl, e _ _ hp, hn, ha, hb, q⟩
theorem ok_count_before {f : Addr} {fd : FuncData} (F : Fun K "count_before" "count_before" s_count_before f fd) (T : Txt K mg) (D_grown : DefK P w K mg base "grown" 1 ["group", "sample"] (sp_grown K)) (D_count_orders : DefK P w K mg base "count_orders" 3 ["needed"] (sp_count_orders K))  : FnOk P w K mg base CX0 4 f fd ["needed", "a", "b"] (sp_count_before K) := by
  refine F.ok sc_count_before (fun vs H Q E h => ?_) (fun cdv A outer s H vs Q E hr h => ⟨_, (pss_cons (ps_set (i := 3) sc_count_before.nd rfl (Or.inl rfl) (pe_callTy call_list_of (by rfl) T.list (by decide +kernel) (pa_cons (pv 0) pa_nil)))
        (pss_cons (ps_asg (pe_def D_grown hr (pa_cons (pe_ix ix_list (pv 3) (pv 2) (fun _ _ => rfl)) (pa_cons (pv 1) pa_nil))) (pg_sub (pv 3) (pv 2) set_list))
        (pss_one (ps_ret (pe_def D_count_orders hr (pa_cons (pv 3) pa_nil)))))), ?_⟩)
  · obtain ⟨_, _, _, _, rfl, _⟩ := h
    rfl
  · obtain ⟨p, a, b, nd, rfl, hp, hn, ha, hb, k⟩ := h
    refine q_asgL (el_list (v0 0 rfl) (SqL.of hp)) fun l H1 hl e1 h1 => ?_
    refine q_setN h1 (c2 (e_ix (v0 3 rfl) (SqL.of h1) (v0 2 rfl) hb) (v0 1 rfl) (sv_grown (by omega))) (v0 3 rfl) (v0 2 rfl) hb fun H2 up h2 => ?_
    exact s_ret (c1 (v0 3 rfl) (sv_count_orders h2 (by rw [List.length_set]; exact hn))) fun H3 e3 => k H3 ((up H e1 hl).trans e3)
end
end Np
set_option Elab.async false
set_option maxRecDepth 100000
set_option maxHeartbeats 0
namespace Np
open PySem PySem.Spec PyProof.Rows L2
def d_has : He.DefD := ⟨("has", none), "has", "has", defArgs s_has, defBody s_has, defScope s_has, [], []⟩
def d_grown : He.DefD := ⟨("grown", none), "grown", "grown", defArgs s_grown, defBody s_grown, defScope s_grown, [], []⟩
def d_set_over : He.DefD := ⟨("set_over", none), "set_over", "set_over", defArgs s_set_over, defBody s_set_over, defScope s_set_over, [], []⟩
def d_needed_sets : He.DefD := ⟨("needed_sets", none), "needed_sets", "needed_sets", defArgs s_needed_sets, defBody s_needed_sets, defScope s_needed_sets, [], []⟩
def d_nothing_needed : He.DefD := ⟨("nothing_needed", none), "nothing_needed", "nothing_needed", defArgs s_nothing_needed, defBody s_nothing_needed, defScope s_nothing_needed, [], []⟩
def d_may_follow : He.DefD := ⟨("may_follow", none), "may_follow", "may_follow", defArgs s_may_follow, defBody s_may_follow, defScope s_may_follow, [], []⟩
def d_longer_rows : He.DefD := ⟨("longer_rows", none), "longer_rows", "longer_rows", defArgs s_longer_rows, defBody s_longer_rows, defScope s_longer_rows, [], []⟩
def d_shortest_ring : He.DefD := ⟨("shortest_ring", none), "shortest_ring", "shortest_ring", defArgs s_shortest_ring, defBody s_shortest_ring, defScope s_shortest_ring, [], []⟩
def d_is_sound : He.DefD := ⟨("is_sound", none), "is_sound", "is_sound", defArgs s_is_sound, defBody s_is_sound, defScope s_is_sound, [], []⟩
def d_first_free : He.DefD := ⟨("first_free", none), "first_free", "first_free", defArgs s_first_free, defBody s_first_free, defScope s_first_free, [], []⟩
def d_first_order : He.DefD := ⟨("first_order", none), "first_order", "first_order", defArgs s_first_order, defBody s_first_order, defScope s_first_order, [], []⟩
def d_count_orders : He.DefD := ⟨("count_orders", none), "count_orders", "count_orders", defArgs s_count_orders, defBody s_count_orders, defScope s_count_orders, [], []⟩
def d_count_before : He.DefD := ⟨("count_before", none), "count_before", "count_before", defArgs s_count_before, defBody s_count_before, defScope s_count_before, [], []⟩
def d_said_against : He.DefD := ⟨("said_against", none), "said_against", "said_against", defArgs s_said_against, defBody s_said_against, defScope s_said_against, [], []⟩
def d_cost_of_next : He.DefD := ⟨("cost_of_next", none), "cost_of_next", "cost_of_next", defArgs s_cost_of_next, defBody s_cost_of_next, defScope s_cost_of_next, [], []⟩
def d_cost_from : He.DefD := ⟨("cost_from", none), "cost_from", "cost_from", defArgs s_cost_from, defBody s_cost_from, defScope s_cost_from, [], []⟩
def d_least_from : He.DefD := ⟨("least_from", none), "least_from", "least_from", defArgs s_least_from, defBody s_least_from, defScope s_least_from, [], []⟩
def d_least_rests : He.DefD := ⟨("least_rests", none), "least_rests", "least_rests", defArgs s_least_rests, defBody s_least_rests, defScope s_least_rests, [], []⟩
def d_next_of_best : He.DefD := ⟨("next_of_best", none), "next_of_best", "next_of_best", defArgs s_next_of_best, defBody s_next_of_best, defScope s_next_of_best, [], []⟩
def d_best_order : He.DefD := ⟨("best_order", none), "best_order", "best_order", defArgs s_best_order, defBody s_best_order, defScope s_best_order, [], []⟩
def d_pairs_against : He.DefD := ⟨("pairs_against", none), "pairs_against", "pairs_against", defArgs s_pairs_against, defBody s_pairs_against, defScope s_pairs_against, [], []⟩
def d_common_divisor : He.DefD := ⟨("common_divisor", none), "common_divisor", "common_divisor", defArgs s_common_divisor, defBody s_common_divisor, defScope s_common_divisor, [], []⟩
def d_fraction : He.DefD := ⟨("fraction", none), "fraction", "fraction", defArgs s_fraction, defBody s_fraction, defScope s_fraction, [], []⟩
def d_power : He.DefD := ⟨("power", none), "power", "power", defArgs s_power, defBody s_power, defScope s_power, [], []⟩
def d_choices : He.DefD := ⟨("choices", none), "choices", "choices", defArgs s_choices, defBody s_choices, defScope s_choices, [], []⟩
def d_lucky_ways : He.DefD := ⟨("lucky_ways", none), "lucky_ways", "lucky_ways", defArgs s_lucky_ways, defBody s_lucky_ways, defScope s_lucky_ways, [], []⟩
def d_luck : He.DefD := ⟨("luck", none), "luck", "luck", defArgs s_luck, defBody s_luck, defScope s_luck, [], []⟩
def d_least_needed : He.DefD := ⟨("least_needed", none), "least_needed", "least_needed", defArgs s_least_needed, defBody s_least_needed, defScope s_least_needed, [], []⟩
def d_chance_before : He.DefD := ⟨("chance_before", none), "chance_before", "chance_before", defArgs s_chance_before, defBody s_chance_before, defScope s_chance_before, [], []⟩
def d_places : He.DefD := ⟨("places", none), "places", "places", defArgs s_places, defBody s_places, defScope s_places, [], []⟩
def d_open_pairs : He.DefD := ⟨("open_pairs", none), "open_pairs", "open_pairs", defArgs s_open_pairs, defBody s_open_pairs, defScope s_open_pairs, [], []⟩
def d_pair_to_ask : He.DefD := ⟨("pair_to_ask", none), "pair_to_ask", "pair_to_ask", defArgs s_pair_to_ask, defBody s_pair_to_ask, defScope s_pair_to_ask, [], []⟩
def d_within : He.DefD := ⟨("within", none), "within", "within", defArgs s_within, defBody s_within, defScope s_within, [], []⟩
def d_refused : He.DefD := ⟨("refused", none), "refused", "refused", defArgs s_refused, defBody s_refused, defScope s_refused, [], []⟩
def d_answered : He.DefD := ⟨("answered", none), "answered", "answered", defArgs s_answered, defBody s_answered, defScope s_answered, [], []⟩
def d_Nose_init : He.DefD := ⟨("Nose", some "__init__"), "__init__", "Nose.__init__", defArgs s_Nose_init, defBody s_Nose_init, defScope s_Nose_init, [], []⟩
def d_Nose_say : He.DefD := ⟨("Nose", some "say"), "say", "Nose.say", defArgs s_Nose_say, defBody s_Nose_say, defScope s_Nose_say, [], []⟩
def d_Nose_unsay : He.DefD := ⟨("Nose", some "unsay"), "unsay", "Nose.unsay", defArgs s_Nose_unsay, defBody s_Nose_unsay, defScope s_Nose_unsay, [], []⟩
def d_Nose_weigh : He.DefD := ⟨("Nose", some "weigh"), "weigh", "Nose.weigh", defArgs s_Nose_weigh, defBody s_Nose_weigh, defScope s_Nose_weigh, [], []⟩
def d_Panel_init : He.DefD := ⟨("Panel", some "__init__"), "__init__", "Panel.__init__", defArgs s_Panel_init, defBody s_Panel_init, defScope s_Panel_init, [], []⟩
def d_Panel_set_up : He.DefD := ⟨("Panel", some "set_up"), "set_up", "Panel.set_up", defArgs s_Panel_set_up, defBody s_Panel_set_up, defScope s_Panel_set_up, [], []⟩
def d_Panel_keep_trial : He.DefD := ⟨("Panel", some "keep_trial"), "keep_trial", "Panel.keep_trial", defArgs s_Panel_keep_trial, defBody s_Panel_keep_trial, defScope s_Panel_keep_trial, [], []⟩
def d_Panel_drop_trial : He.DefD := ⟨("Panel", some "drop_trial"), "drop_trial", "Panel.drop_trial", defArgs s_Panel_drop_trial, defBody s_Panel_drop_trial, defScope s_Panel_drop_trial, [], []⟩
def d_nose_refusal : He.DefD := ⟨("nose_refusal", none), "nose_refusal", "nose_refusal", defArgs s_nose_refusal, defBody s_nose_refusal, defScope s_nose_refusal, [], []⟩
def d_pair_refusal : He.DefD := ⟨("pair_refusal", none), "pair_refusal", "pair_refusal", defArgs s_pair_refusal, defBody s_pair_refusal, defScope s_pair_refusal, [], []⟩
def d_nose_pair_refusal : He.DefD := ⟨("nose_pair_refusal", none), "nose_pair_refusal", "nose_pair_refusal", defArgs s_nose_pair_refusal, defBody s_nose_pair_refusal, defScope s_nose_pair_refusal, [], []⟩
def d_has_said : He.DefD := ⟨("has_said", none), "has_said", "has_said", defArgs s_has_said, defBody s_has_said, defScope s_has_said, [], []⟩
def d_pairs_said : He.DefD := ⟨("pairs_said", none), "pairs_said", "pairs_said", defArgs s_pairs_said, defBody s_pairs_said, defScope s_pairs_said, [], []⟩
def d_weight_over : He.DefD := ⟨("weight_over", none), "weight_over", "weight_over", defArgs s_weight_over, defBody s_weight_over, defScope s_weight_over, [], []⟩
def d_weights_of_row : He.DefD := ⟨("weights_of_row", none), "weights_of_row", "weights_of_row", defArgs s_weights_of_row, defBody s_weights_of_row, defScope s_weights_of_row, [], []⟩
def d_weight_table : He.DefD := ⟨("weight_table", none), "weight_table", "weight_table", defArgs s_weight_table, defBody s_weight_table, defScope s_weight_table, [], []⟩
def d_first_plan_row : He.DefD := ⟨("first_plan_row", none), "first_plan_row", "first_plan_row", defArgs s_first_plan_row, defBody s_first_plan_row, defScope s_first_plan_row, [], []⟩
def d_plan_rows : He.DefD := ⟨("plan_rows", none), "plan_rows", "plan_rows", defArgs s_plan_rows, defBody s_plan_rows, defScope s_plan_rows, [], []⟩
def d_plan_row : He.DefD := ⟨("plan_row", none), "plan_row", "plan_row", defArgs s_plan_row, defBody s_plan_row, defScope s_plan_row, [], []⟩
def d_sound_refusal : He.DefD := ⟨("sound_refusal", none), "sound_refusal", "sound_refusal", defArgs s_sound_refusal, defBody s_sound_refusal, defScope s_sound_refusal, [], []⟩
def d_sound_pair_refusal : He.DefD := ⟨("sound_pair_refusal", none), "sound_pair_refusal", "sound_pair_refusal", defArgs s_sound_pair_refusal, defBody s_sound_pair_refusal, defScope s_sound_pair_refusal, [], []⟩
def d_needs_of : He.DefD := ⟨("needs_of", none), "needs_of", "needs_of", defArgs s_needs_of, defBody s_needs_of, defScope s_needs_of, [], []⟩
def d_answer_ring : He.DefD := ⟨("answer_ring", none), "answer_ring", "answer_ring", defArgs s_answer_ring, defBody s_answer_ring, defScope s_answer_ring, [], []⟩
def d_answer_mend : He.DefD := ⟨("answer_mend", none), "answer_mend", "answer_mend", defArgs s_answer_mend, defBody s_answer_mend, defScope s_answer_mend, [], []⟩
def d_answer_follows : He.DefD := ⟨("answer_follows", none), "answer_follows", "answer_follows", defArgs s_answer_follows, defBody s_answer_follows, defScope s_answer_follows, [], []⟩
def d_answer_first : He.DefD := ⟨("answer_first", none), "answer_first", "answer_first", defArgs s_answer_first, defBody s_answer_first, defScope s_answer_first, [], []⟩
def d_answer_many : He.DefD := ⟨("answer_many", none), "answer_many", "answer_many", defArgs s_answer_many, defBody s_answer_many, defScope s_answer_many, [], []⟩
def d_answer_chance : He.DefD := ⟨("answer_chance", none), "answer_chance", "answer_chance", defArgs s_answer_chance, defBody s_answer_chance, defScope s_answer_chance, [], []⟩
def d_answer_place : He.DefD := ⟨("answer_place", none), "answer_place", "answer_place", defArgs s_answer_place, defBody s_answer_place, defScope s_answer_place, [], []⟩
def d_answer_ask : He.DefD := ⟨("answer_ask", none), "answer_ask", "answer_ask", defArgs s_answer_ask, defBody s_answer_ask, defScope s_answer_ask, [], []⟩
def d_answer_against : He.DefD := ⟨("answer_against", none), "answer_against", "answer_against", defArgs s_answer_against, defBody s_answer_against, defScope s_answer_against, [], []⟩
def d_told_best : He.DefD := ⟨("told_best", none), "told_best", "told_best", defArgs s_told_best, defBody s_told_best, defScope s_told_best, [], []⟩
def d_answer_best : He.DefD := ⟨("answer_best", none), "answer_best", "answer_best", defArgs s_answer_best, defBody s_answer_best, defScope s_answer_best, [], []⟩
def d_answer_near : He.DefD := ⟨("answer_near", none), "answer_near", "answer_near", defArgs s_answer_near, defBody s_answer_near, defScope s_answer_near, [], []⟩
def d_answer_panel : He.DefD := ⟨("answer_panel", none), "answer_panel", "answer_panel", defArgs s_answer_panel, defBody s_answer_panel, defScope s_answer_panel, [], []⟩
def d_answer_say : He.DefD := ⟨("answer_say", none), "answer_say", "answer_say", defArgs s_answer_say, defBody s_answer_say, defScope s_answer_say, [], []⟩
def d_answer_unsay : He.DefD := ⟨("answer_unsay", none), "answer_unsay", "answer_unsay", defArgs s_answer_unsay, defBody s_answer_unsay, defScope s_answer_unsay, [], []⟩
def d_answer_weigh : He.DefD := ⟨("answer_weigh", none), "answer_weigh", "answer_weigh", defArgs s_answer_weigh, defBody s_answer_weigh, defScope s_answer_weigh, [], []⟩
def d_pairs_of_both : He.DefD := ⟨("pairs_of_both", none), "pairs_of_both", "pairs_of_both", defArgs s_pairs_of_both, defBody s_pairs_of_both, defScope s_pairs_of_both, [], []⟩
def d_answer_agree : He.DefD := ⟨("answer_agree", none), "answer_agree", "answer_agree", defArgs s_answer_agree, defBody s_answer_agree, defScope s_answer_agree, [], []⟩
def d_answer_over : He.DefD := ⟨("answer_over", none), "answer_over", "answer_over", defArgs s_answer_over, defBody s_answer_over, defScope s_answer_over, [], []⟩
def d_beats_all : He.DefD := ⟨("beats_all", none), "beats_all", "beats_all", defArgs s_beats_all, defBody s_beats_all, defScope s_beats_all, [], []⟩
def d_answer_king : He.DefD := ⟨("answer_king", none), "answer_king", "answer_king", defArgs s_answer_king, defBody s_answer_king, defScope s_answer_king, [], []⟩
def d_answer_trial : He.DefD := ⟨("answer_trial", none), "answer_trial", "answer_trial", defArgs s_answer_trial, defBody s_answer_trial, defScope s_answer_trial, [], []⟩
def d_answer_untry : He.DefD := ⟨("answer_untry", none), "answer_untry", "answer_untry", defArgs s_answer_untry, defBody s_answer_untry, defScope s_answer_untry, [], []⟩
def d_how_many_right : He.DefD := ⟨("how_many_right", none), "how_many_right", "how_many_right", defArgs s_how_many_right, defBody s_how_many_right, defScope s_how_many_right, [], []⟩
def d_answer_score : He.DefD := ⟨("answer_score", none), "answer_score", "answer_score", defArgs s_answer_score, defBody s_answer_score, defScope s_answer_score, [], []⟩
def d_trials_with : He.DefD := ⟨("trials_with", none), "trials_with", "trials_with", defArgs s_trials_with, defBody s_trials_with, defScope s_trials_with, [], []⟩
def d_answer_apart : He.DefD := ⟨("answer_apart", none), "answer_apart", "answer_apart", defArgs s_answer_apart, defBody s_answer_apart, defScope s_answer_apart, [], []⟩
def d_answer_luck : He.DefD := ⟨("answer_luck", none), "answer_luck", "answer_luck", defArgs s_answer_luck, defBody s_answer_luck, defScope s_answer_luck, [], []⟩
def d_answer_need : He.DefD := ⟨("answer_need", none), "answer_need", "answer_need", defArgs s_answer_need, defBody s_answer_need, defScope s_answer_need, [], []⟩
def d_answer_sheet : He.DefD := ⟨("answer_sheet", none), "answer_sheet", "answer_sheet", defArgs s_answer_sheet, defBody s_answer_sheet, defScope s_answer_sheet, [], []⟩
def d_answer_told : He.DefD := ⟨("answer_told", none), "answer_told", "answer_told", defArgs s_answer_told, defBody s_answer_told, defScope s_answer_told, [], []⟩
def d_read_call : He.DefD := ⟨("read_call", none), "read_call", "read_call", defArgs s_read_call, defBody s_read_call, defScope s_read_call, [], []⟩
def d_answer_call : He.DefD := ⟨("answer_call", none), "answer_call", "answer_call", defArgs s_answer_call, defBody s_answer_call, defScope s_answer_call, [], []⟩
def d_answers : He.DefD := ⟨("answers", none), "answers", "answers", defArgs s_answers, defBody s_answers, defScope s_answers, [], []⟩
def fn : List He.DefD := ([d_has, d_grown, d_set_over, d_needed_sets, d_nothing_needed, d_may_follow, d_longer_rows, d_shortest_ring, d_is_sound, d_first_free, d_first_order, d_count_orders, d_count_before, d_said_against, d_cost_of_next, d_cost_from, d_least_from, d_least_rests, d_next_of_best, d_best_order, d_pairs_against, d_common_divisor, d_fraction, d_power, d_choices, d_lucky_ways, d_luck, d_least_needed, d_chance_before, d_places] : List He.DefD) ++ ([d_open_pairs, d_pair_to_ask, d_within, d_refused, d_answered, d_Nose_init, d_Nose_say, d_Nose_unsay, d_Nose_weigh, d_Panel_init, d_Panel_set_up, d_Panel_keep_trial, d_Panel_drop_trial, d_nose_refusal, d_pair_refusal, d_nose_pair_refusal, d_has_said, d_pairs_said, d_weight_over, d_weights_of_row, d_weight_table, d_first_plan_row, d_plan_rows, d_plan_row, d_sound_refusal, d_sound_pair_refusal, d_needs_of, d_answer_ring, d_answer_mend, d_answer_follows] : List He.DefD) ++ ([d_answer_first, d_answer_many, d_answer_chance, d_answer_place, d_answer_ask, d_answer_against, d_told_best, d_answer_best, d_answer_near, d_answer_panel, d_answer_say, d_answer_unsay, d_answer_weigh, d_pairs_of_both, d_answer_agree, d_answer_over, d_beats_all, d_answer_king, d_answer_trial, d_answer_untry, d_how_many_right, d_answer_score, d_trials_with, d_answer_apart, d_answer_luck, d_answer_need, d_answer_sheet, d_answer_told, d_read_call, d_answer_call] : List He.DefD) ++ ([d_answers] : List He.DefD)
def fa : List He.Fa := ([.glo "has", .glo "grown", .glo "set_over", .glo "needed_sets", .glo "nothing_needed", .glo "may_follow", .glo "longer_rows", .glo "shortest_ring", .glo "is_sound", .glo "first_free", .glo "first_order", .glo "count_orders", .glo "count_before", .glo "said_against", .glo "cost_of_next", .glo "cost_from", .glo "least_from", .glo "least_rests", .glo "next_of_best", .glo "best_order", .glo "pairs_against", .glo "common_divisor", .glo "fraction", .glo "power", .glo "choices", .glo "lucky_ways", .glo "luck", .glo "least_needed", .glo "chance_before", .glo "places"] : List He.Fa) ++ ([.glo "open_pairs", .glo "pair_to_ask", .glo "within", .glo "refused", .glo "answered", .glo "nose_refusal", .glo "pair_refusal", .glo "nose_pair_refusal", .glo "has_said", .glo "pairs_said", .glo "weight_over", .glo "weights_of_row", .glo "weight_table", .glo "first_plan_row", .glo "plan_rows", .glo "plan_row", .glo "sound_refusal", .glo "sound_pair_refusal", .glo "needs_of", .glo "answer_ring", .glo "answer_mend", .glo "answer_follows", .glo "answer_first", .glo "answer_many", .glo "answer_chance", .glo "answer_place", .glo "answer_ask", .glo "answer_against", .glo "told_best", .glo "answer_best"] : List He.Fa) ++ ([.glo "answer_near", .glo "answer_panel", .glo "answer_say", .glo "answer_unsay", .glo "answer_weigh", .glo "pairs_of_both", .glo "answer_agree", .glo "answer_over", .glo "beats_all", .glo "answer_king", .glo "answer_trial", .glo "answer_untry", .glo "how_many_right", .glo "answer_score", .glo "trials_with", .glo "answer_apart", .glo "answer_luck", .glo "answer_need", .glo "answer_sheet", .glo "answer_told", .glo "read_call", .glo "answer_call", .glo "answers", .glo "Nose", .cls "Nose", .mkr "Nose", .noat "Nose" "said", .noat "Nose" "weight", .meth "Nose" "say", .meth "Nose" "unsay"] : List He.Fa) ++ ([.meth "Nose" "weigh", .glo "Panel", .cls "Panel", .mkr "Panel", .noat "Panel" "samples", .noat "Panel" "noses", .noat "Panel" "trials", .meth "Panel" "set_up", .meth "Panel" "keep_trial", .meth "Panel" "drop_trial", .int "NO_WAY" (-1), .int "LEAST_SAMPLES" (2), .int "MOST_SAMPLES" (8), .int "LEAST_NOSES" (1), .int "MOST_NOSES" (8), .int "MOST_WEIGHT" (9), .int "MOST_TRIALS" (36), .int "MOST_GUESSES" (30), .int "MOST_ODDS" (1000000), .int "ALL_WELL" (0), .int "OUT_OF_RANGE" (-1), .int "NOT_THERE" (-3), .int "CANNOT_BE" (-4), .int "FULL" (-9), .int "BEFORE" (1), .int "BEHIND" (0), .int "EITHER" (2), .int "AGAINST" (15), .free "range", .free "len"] : List He.Fa) ++ ([.free "sum", .free "abs", .free "sorted", .free "list", .glo "MANY_NUMBERS", .glo "DEEDS"] : List He.Fa)
def loose : List PySem.Str := (["has", "grown", "set_over", "needed_sets", "nothing_needed", "may_follow", "longer_rows", "shortest_ring", "is_sound", "first_free", "first_order", "count_orders", "count_before", "said_against", "cost_of_next", "cost_from", "least_from", "least_rests", "next_of_best", "best_order", "pairs_against", "common_divisor", "fraction", "power", "choices", "lucky_ways", "luck", "least_needed", "chance_before", "places"] : List PySem.Str) ++ (["open_pairs", "pair_to_ask", "within", "refused", "answered", "nose_refusal", "pair_refusal", "nose_pair_refusal", "has_said", "pairs_said", "weight_over", "weights_of_row", "weight_table", "first_plan_row", "plan_rows", "plan_row", "sound_refusal", "sound_pair_refusal", "needs_of", "answer_ring", "answer_mend", "answer_follows", "answer_first", "answer_many", "answer_chance", "answer_place", "answer_ask", "answer_against", "told_best", "answer_best"] : List PySem.Str) ++ (["answer_near", "answer_panel", "answer_say", "answer_unsay", "answer_weigh", "pairs_of_both", "answer_agree", "answer_over", "beats_all", "answer_king", "answer_trial", "answer_untry", "how_many_right", "answer_score", "trials_with", "answer_apart", "answer_luck", "answer_need", "answer_sheet", "answer_told", "read_call", "answer_call", "Nose", "Panel", "NO_WAY", "LEAST_SAMPLES", "MOST_SAMPLES", "LEAST_NOSES", "MOST_NOSES", "MOST_WEIGHT"] : List PySem.Str) ++ (["MOST_TRIALS", "MOST_GUESSES", "MOST_ODDS", "ALL_WELL", "OUT_OF_RANGE", "NOT_THERE", "CANNOT_BE", "FULL", "BEFORE", "BEHIND", "EITHER", "AGAINST", "MANY_NUMBERS", "DEEDS"] : List PySem.Str)

/-! ### a written dict with the keys 0, 1, .. -/
def entB (K : PySem.W.Frag) : List DictEntry → Nat → List He.Dv → Bool
  | [], _, [] => true
  | e :: r, i, v :: vs => (match e.key with
    | .int j _ => decide (j = (i : Int)) && decide (e.hash = hashInt (i : Int))
    | _ => false) && (He.relB (v.v K) e.val && entB K r (i + 1) vs)
  | _, _, _ => false
def intDB (K : PySem.W.Frag) (a : Addr) (vs : List He.Dv) : Bool := match K.lookup a with
  | some ⟨.type c, none, .dict es _, sl⟩ => decide (c = "dict") && (sl.isEmpty && (!(a == sysModules) && entB K es.toList 0 vs))
  | _ => false
def deeds : List PySem.Str := ["answer_panel", "answer_say", "answer_unsay", "answer_weigh", "answer_ring", "answer_mend", "answer_follows", "answer_first", "answer_many", "answer_chance", "answer_place", "answer_ask", "answer_agree", "answer_over", "answer_king", "answer_against", "answer_best", "answer_near", "answer_trial", "answer_untry", "answer_score", "answer_apart", "answer_luck", "answer_need", "answer_sheet", "answer_told"]
def numsList : List Nat := [2, 3, 3, 2, 1, 1, 3, 1, 1, 3, 2, 1, 2, 2, 0, 0, 0, 1, 4, 0, 1, 2, 2, 2, 1, 0]
def ex (K : PySem.W.Frag) : Bool := intDB K (He.ga K "MANY_NUMBERS") (numsList.map fun (n : Nat) => He.Dv.int (n : Int)) && intDB K (He.ga K "DEEDS") (deeds.map He.Dv.glo)
/-- what the module's names name, the defs' code, the classes' own names and these -/
def kidC (g : Addr → Option Obj) (a : Addr) : List Addr := match g a with
  | some ⟨_, _, .func fd, _⟩ => He.refV fd.code
  | _ => []
def kidN (g : Addr → Option Obj) (a : Addr) : List Addr := match g a with
  | some ⟨_, _, .dict es _, _⟩ => es.toList.flatMap fun e => He.refV e.val
  | _ => []
def kidA (g : Addr → Option Obj) (a : Addr) : List Addr := match g a with
  | some ⟨_, _, .func fd, _⟩ => He.refV fd.code
  | some ⟨_, _, .cls cd, _⟩ => cd.ns :: ((kidN g cd.ns) ++ (kidN g cd.ns).flatMap (kidC g))
  | _ => []
def asN (g : Addr → Option Obj) : List Addr := mainGlobals :: (kidN g mainGlobals ++ (kidN g mainGlobals).flatMap (kidA g))
def hkN (fa : List He.Fa) (fn : List He.DefD) (ex : PySem.W.Frag → Bool) : PySem.W.Hook where
  α := He.AlD × Bool
  obs := fun s => (He.obsD fa fn (He.frG s.heap.get? (asN s.heap.get?)), ex (He.frG s.heap.get? (asN s.heap.get?)))
  val := fun _ => (He.valD fn, true)
  says := fun _ h => ∃ K : PySem.W.Frag, K.In h ∧ He.SaysD fa fn K ∧ ex K = true
  of := fun _ _ e => ⟨_, He.frG_in, congrArg (fun z : He.AlD × Bool => z.1) e, congrArg (fun z : He.AlD × Bool => z.2) e⟩
  keeps := fun _ _ _ ⟨K, hK, c⟩ k => ⟨K, PySem.W.Frag.In.keeps hK k, c⟩
abbrev R : PySem.W.OpenSpec := PySem.Challenge.rw_nosepanel_s01_answers
abbrev hk : PySem.W.Hook := hkN fa fn ex
def ob (s : PySem.W.SharedT) : He.AlD × Bool := (He.obsD fa fn (He.frG (HandSHeadRun.getT s) (asN (HandSHeadRun.getT s))), ex (He.frG (HandSHeadRun.getT s) (asN (HandSHeadRun.getT s))))
theorem ob_eq (s : PySem.W.SharedT) : ob s = hk.obs s.abs := by
  have e : HandSHeadRun.getT s = s.abs.heap.get? := funext (HandSHeadRun.getT_eq s)
  unfold ob
  rw [e]
  rfl
theorem run_f (w : World) : HandSHeadRun.RunEqS R (PySem.W.view R.prog [113]) hk ob 6000 loose (w.withFollow "special-get-raises" false) := by
  intro os
  kernel_rfl
theorem run_t (w : World) : HandSHeadRun.RunEqS R (PySem.W.view R.prog [113]) hk ob 6000 loose (w.withFollow "special-get-raises" true) := by
  intro os
  kernel_rfl
theorem run (w : World) : HandSHeadRun.RunEqS R (PySem.W.view R.prog [113]) hk ob 6000 loose w :=
  PySem.W.byRow2 "special-get-raises" (P := fun w => HandSHeadRun.RunEqS R (PySem.W.view R.prog [113]) hk ob 6000 loose w) run_f run_t w
end Np
set_option Elab.async false
set_option linter.all false
set_option maxRecDepth 100000
set_option maxHeartbeats 4000000
namespace Np
open PySem PySem.Spec PyProof.Rows L2 Evl
section
variable {P : Program} {w : World} {K : PySem.W.Frag} {mg : Str → Option Value} {base : Heap}
theorem getD_mem {l : List Nat} {i : Nat} (h : i < l.length) : l.getD i 0 ∈ l := by
  rw [List.getD_eq_getElem?_getD, List.getElem?_eq_getElem h]
  exact List.getElem_mem h
theorem sc_said_against : FnScope ["table", "order", "together", "at", "later"] ["table", "order"] (defScope s_said_against) := ⟨rfl, rfl, rfl, by decide +kernel, rfl, by decide +kernel, by decide +kernel⟩
def sp_said_against (_ : PySem.W.Frag) : Sp := fun vs H Q _ => ∃ (t o : Addr) (n : Nat) (f : Mx) (ol : List Nat), vs = [.ref t, .ref o] ∧ Mat H t n f ∧ H o = some (.lst (nL ol)) ∧ (∀ x ∈ ol, x < n) ∧ ol.length ≤ 100 ∧ RetV (nV (saidAgainst f ol ol.length)) H Q
theorem sv_said_against {H : Hp} {t o : Addr} {n : Nat} {f : Mx} {ol : List Nat} (hM : Mat H t n f) (ho : H o = some (.lst (nL ol))) (hx : ∀ x ∈ ol, x < n) (hl : ol.length ≤ 100) : SpV (sp_said_against K) [.ref t, .ref o] H (nV (saidAgainst f ol ol.length)) :=
  fun _ e _ q _ => ⟨t, o, n, f, ol, rfl, hM.mono e, e _ _ ho, hx, hl, q⟩
theorem ok_said_against {f : Addr} {fd : FuncData} (F : Fun K "said_against" "said_against" s_said_against f fd) (T : Txt K mg)   : FnOk P w K mg base CX0 1 f fd ["table", "order"] (sp_said_against K) := by
  refine F.ok sc_said_against (fun vs H Q E h => ?_) (fun cdv A outer s H vs Q E hr h => ⟨_, (pss_cons (ps_set (i := 2) sc_said_against.nd rfl (Or.inl rfl) pe_int)
        (pss_cons (ps_for PassesOwn.never rfl (pi_range1 rfl T.range (pa_cons (pe_callB call_len_seq (by rfl) T.len (by decide +kernel) (pa_cons (pv 1) pa_nil)) pa_nil)) (pg_name (i := 3) sc_said_against.nd rfl (Or.inl rfl))
        (pss_one (ps_for PassesOwn.never rfl (pi_range2 rfl T.range (pa_cons (pe_op op_add (pv 3) pe_int) (pa_cons (pe_callB call_len_seq (by rfl) T.len (by decide +kernel) (pa_cons (pv 1) pa_nil)) pa_nil))) (pg_name (i := 4) sc_said_against.nd rfl (Or.inl rfl))
        (pss_one (ps_aug (i := 2) sc_said_against.nd rfl (Or.inl rfl) (pe_ix ix_list (pe_ix ix_list (pv 0) (pe_ix ix_list (pv 1) (pv 4) (fun _ _ => rfl)) (fun _ _ => rfl)) (pe_ix ix_list (pv 1) (pv 3) (fun _ _ => rfl)) (fun _ _ => rfl)) ip_add)))))
        (pss_one (ps_ret (pv 2))))), ?_⟩)
  · obtain ⟨_, _, _, _, _, rfl, _⟩ := h
    rfl
  · obtain ⟨t, o, n, f, ol, rfl, hM, ho, hx, hl, k⟩ := h
    refine q_asg (e_n (a := 0) rfl) fun H1 e1 => ?_
    refine q_R1 (e_lenL (v0 1 rfl) (SqL.of (e1 _ _ ho))) (by omega) (fun i σ' H' => ∃ v u, σ' = [some (.ref t), some (.ref o), some (nV (saidAgainst f ol i)), v, u] ∧ Ex H H') (fun H2 e2 => ⟨none, none, rfl, e1.trans e2⟩) ?_ ?_
    · rintro i σ' H' hi ⟨v, u, rfl, e⟩
      refine s_R2 (lo := i + 1) (ev_op (v0 3 rfl) (e_n (a := 1) rfl) r_add) (e_lenL (v0 1 rfl) (SqL.of (e _ _ ho))) (by omega) (by omega)
        (fun j σ' H' => ∃ u, σ' = [some (.ref t), some (.ref o), some (nV (againstIn f ol i (saidAgainst f ol i) j)), some (nV i), u] ∧ Ex H H') (fun H2 e2 => ⟨u, rfl, e.trans e2⟩) ?_ ?_
      · rintro j σ2 H2 hj ⟨u2, rfl, e2⟩
        exact s_augN rfl (e_mx (v0 0 rfl) (hM.mono e2) (e_ix (v0 1 rfl) (SqL.of (e2 _ _ ho)) (v0 4 rfl) hj) (e_ix (v0 1 rfl) (SqL.of (e2 _ _ ho)) (v0 3 rfl) hi) (hx _ (getD_mem hj)) (hx _ (getD_mem hi))) fun H3 e3 => ⟨_, rfl, e2.trans e3⟩
      · rintro σ2 H2 ⟨u2, rfl, e2⟩
        exact ⟨_, _, rfl, e2⟩
    · rintro σ' H' ⟨v, u, rfl, e⟩
      exact s_ret (v0 2 rfl) fun H2 e2 => k H2 (e.trans e2)
theorem sc_cost_of_next : FnScope ["table", "have", "sample", "together", "other"] ["table", "have", "sample"] (defScope s_cost_of_next) := ⟨rfl, rfl, rfl, by decide +kernel, rfl, by decide +kernel, by decide +kernel⟩
def sp_cost_of_next (_ : PySem.W.Frag) : Sp := fun vs H Q _ => ∃ (t : Addr) (m x n : Nat) (f : Mx), vs = [.ref t, nV m, nV x] ∧ Mat H t n f ∧ x < n ∧ n ≤ 8 ∧ RetV (nV (costNext f m x n)) H Q
theorem sv_cost_of_next {H : Hp} {t : Addr} {m x n : Nat} {f : Mx} (hM : Mat H t n f) (hx : x < n) (hn : n ≤ 8) : SpV (sp_cost_of_next K) [.ref t, nV m, nV x] H (nV (costNext f m x n)) := fun _ e _ q _ => ⟨t, m, x, n, f, rfl, hM.mono e, hx, hn, q⟩
theorem ok_cost_of_next {f : Addr} {fd : FuncData} (F : Fun K "cost_of_next" "cost_of_next" s_cost_of_next f fd) (T : Txt K mg) (D_has : DefK P w K mg base "has" 1 ["group", "sample"] (sp_has K))  : FnOk P w K mg base CX0 2 f fd ["table", "have", "sample"] (sp_cost_of_next K) := by
  refine F.ok sc_cost_of_next (fun vs H Q E h => ?_) (fun cdv A outer s H vs Q E hr h => ⟨_, (pss_cons (ps_set (i := 3) sc_cost_of_next.nd rfl (Or.inl rfl) pe_int)
        (pss_cons (ps_for PassesOwn.never rfl (pi_range1 rfl T.range (pa_cons (pe_callB call_len_seq (by rfl) T.len (by decide +kernel) (pa_cons (pv 0) pa_nil)) pa_nil)) (pg_name (i := 4) sc_cost_of_next.nd rfl (Or.inl rfl))
        (pss_one (ps_if (PW.pt (pw_and (pt_cmpR op_ne (pv 4) (pv 2) (nomark _)) (pw_and1 (pt_not (pt_val (pe_def D_has hr (pa_cons (pv 1) (pa_cons (pv 4) pa_nil)))))))) (pss_one (ps_aug (i := 3) sc_cost_of_next.nd rfl (Or.inl rfl) (pe_ix ix_list (pe_ix ix_list (pv 0) (pv 4) (fun _ _ => rfl)) (pv 2) (fun _ _ => rfl)) ip_add)) pss_nil)))
        (pss_one (ps_ret (pv 3))))), ?_⟩)
  · obtain ⟨_, _, _, _, _, rfl, _⟩ := h
    rfl
  · obtain ⟨t, m, x, n, f, rfl, hM, hx, hn, k⟩ := h
    refine q_asg (e_n (a := 0) rfl) fun H1 e1 => ?_
    refine q_R1 (e_lenM (v0 0 rfl) (hM.mono e1)) (by omega) (fun i σ' H' => ∃ v, σ' = [some (.ref t), some (nV m), some (nV x), some (nV (costNext f m x i)), v] ∧ Ex H H') (fun H2 e2 => ⟨none, rfl, e1.trans e2⟩) ?_ ?_
    · rintro i σ' H' hi ⟨v, rfl, e⟩
      refine s_when (et_and (et_test (ev_op (v0 4 rfl) (v0 2 rfl) r_ne)) fun _ => et_not (et_B (c2 (v0 1 rfl) (v0 4 rfl) (sv_has (by omega))))) (fun hb H2 e2 => ?_) (fun hb H2 e2 => ?_)
      · refine s_augN rfl (e_mx (v0 0 rfl) (hM.mono (e.trans e2)) (v0 4 rfl) (v0 2 rfl) hi hx) fun H3 e3 => ?_
        have e4 : costNext f m x (i + 1) = costNext f m x i + f i x := if_pos hb
        exact ⟨_, by rw [e4]; rfl, (e.trans e2).trans e3⟩
      · have e4 : costNext f m x (i + 1) = costNext f m x i := if_neg (by rw [hb]; decide)
        exact ⟨_, by rw [e4]; rfl, e.trans e2⟩
    · rintro σ' H' ⟨v, rfl, e⟩
      exact s_ret (v0 3 rfl) fun H2 e2 => k H2 (e.trans e2)
theorem sc_cost_from : FnScope ["table", "needed", "rest", "have", "sample", "behind"] ["table", "needed", "rest", "have", "sample"] (defScope s_cost_from) := ⟨rfl, rfl, rfl, by decide +kernel, rfl, by decide +kernel, by decide +kernel⟩
def sp_cost_from (_ : PySem.W.Frag) : Sp := fun vs H Q _ => ∃ (t p r : Addr) (m x : Nat) (f : Mx) (nd : List Nat) (rs : List Int), vs = [.ref t, .ref p, .ref r, nV m, nV x] ∧ Mat H t nd.length f ∧ H p = some (.lst (nL nd)) ∧ H r = some (.lst (iL rs)) ∧
  x < nd.length ∧ nd.length ≤ 8 ∧ m < 2 ^ nd.length ∧ rs.length = 2 ^ nd.length ∧ RetV (.int (costFrom f nd rs m x)) H Q
theorem sv_cost_from {H : Hp} {t p r : Addr} {m x : Nat} {f : Mx} {nd : List Nat} {rs : List Int} (hM : Mat H t nd.length f) (hp : H p = some (.lst (nL nd))) (hr : H r = some (.lst (iL rs))) (hx : x < nd.length) (hn : nd.length ≤ 8) (hm : m < 2 ^ nd.length) (hl : rs.length = 2 ^ nd.length) :
    SpV (sp_cost_from K) [.ref t, .ref p, .ref r, nV m, nV x] H (.int (costFrom f nd rs m x)) := fun _ e _ q _ => ⟨t, p, r, m, x, f, nd, rs, rfl, hM.mono e, e _ _ hp, e _ _ hr, hx, hn, hm, hl, q⟩
theorem c5 {σ : L2.St} {H : Hp} {ta tb tc td te : TE} {x y z u v r : V} {sp : Sp} {E : XK} (h : Ev ta σ H x) (h2 : Ev tb σ H y) (h3 : Ev tc σ H z) (h4 : Ev td σ H u) (h5 : Ev te σ H v) (s : SpV sp [x, y, z, u, v] H r) :
    Ev (tCall sp [] E (tCons ta (tCons tb (tCons tc (tCons td (tCons te tNil)))))) σ H r := ev_call (ea_cons h (ea_cons h2 (ea_cons h3 (ea_cons h4 (ea_cons h5 ea_nil))))) s
theorem c4 {σ : L2.St} {H : Hp} {ta tb tc td : TE} {x y z u r : V} {sp : Sp} {E : XK} (h : Ev ta σ H x) (h2 : Ev tb σ H y) (h3 : Ev tc σ H z) (h4 : Ev td σ H u) (s : SpV sp [x, y, z, u] H r) :
    Ev (tCall sp [] E (tCons ta (tCons tb (tCons tc (tCons td tNil))))) σ H r := ev_call (ea_cons h (ea_cons h2 (ea_cons h3 (ea_cons h4 ea_nil)))) s
theorem ok_cost_from {f : Addr} {fd : FuncData} (F : Fun K "cost_from" "cost_from" s_cost_from f fd) (T : Txt K mg) (D_may_follow : DefK P w K mg base "may_follow" 2 ["needed", "have", "sample"] (sp_may_follow K)) (D_grown : DefK P w K mg base "grown" 1 ["group", "sample"] (sp_grown K)) (D_cost_of_next : DefK P w K mg base "cost_of_next" 2 ["table", "have", "sample"] (sp_cost_of_next K))  : FnOk P w K mg base CX0 3 f fd ["table", "needed", "rest", "have", "sample"] (sp_cost_from K) := by
  refine F.ok sc_cost_from (fun vs H Q E h => ?_) (fun cdv A outer s H vs Q E hr h => ⟨_, (pss_cons (ps_if (pt_not (pt_val (pe_def D_may_follow hr (pa_cons (pv 1) (pa_cons (pv 3) (pa_cons (pv 4) pa_nil)))))) (pss_one (ps_ret (pe_const T.c_NO_WAY))) pss_nil)
        (pss_cons (ps_set (i := 5) sc_cost_from.nd rfl (Or.inl rfl) (pe_ix ix_list (pv 2) (pe_def D_grown hr (pa_cons (pv 3) (pa_cons (pv 4) pa_nil))) (fun _ _ => rfl)))
        (pss_cons (ps_if (pt_cmpR op_eq (pv 5) (pe_const T.c_NO_WAY) (nomark _)) (pss_one (ps_ret (pe_const T.c_NO_WAY))) pss_nil)
        (pss_one (ps_ret (pe_op op_add (pe_def D_cost_of_next hr (pa_cons (pv 0) (pa_cons (pv 3) (pa_cons (pv 4) pa_nil)))) (pv 5))))))), ?_⟩)
  · obtain ⟨_, _, _, _, _, _, _, _, rfl, _⟩ := h
    rfl
  · obtain ⟨t, p, r, m, x, f, nd, rs, rfl, hM, hp, hr, hx, hn, hm, hl, k⟩ := h
    refine q_when (et_not (et_B (c3 (v0 1 rfl) (v0 3 rfl) (v0 4 rfl) (sv_may_follow hp hx hn)))) (fun hb H1 e1 => ?_) (fun hb H1 e1 => ?_)
    · have e4 : costFrom f nd rs m x = -1 := if_neg (by
        intro z
        rw [z] at hb
        cases hb)
      rw [e4] at k
      exact s_ret ev_c fun H2 e2 => k H2 (e1.trans e2)
    · have hb2 : mayF nd m x = true := by
        cases z : mayF nd m x with
        | true => rfl
        | false =>
          rw [z] at hb
          cases hb
      refine q_asg (e_ixI (v0 2 rfl) (SqL.of (e1 _ _ hr)) (c2 (v0 3 rfl) (v0 4 rfl) (sv_grown (by omega))) (by rw [hl]; exact grown_lt hm hx)) fun H2 e2 => ?_
      refine q_when (et_test (ev_op (v0 5 rfl) ev_c r_eqI)) (fun hc H3 e3 => ?_) (fun hc H3 e3 => ?_)
      · have e4 : costFrom f nd rs m x = -1 := by
          unfold costFrom
          rw [if_pos hb2, if_pos (of_decide_eq_true hc)]
        rw [e4] at k
        exact s_ret ev_c fun H4 e4 => k H4 ((e1.trans e2).trans (e3.trans e4))
      · have e4 : costFrom f nd rs m x = (costNext f m x nd.length : Int) + rs.getD (grown m x) 0 := by
          unfold costFrom
          rw [if_pos hb2, if_neg (of_decide_eq_false hc)]
        rw [e4] at k
        exact s_ret (ev_op (c3 (v0 0 rfl) (v0 3 rfl) (v0 4 rfl) (sv_cost_of_next (hM.mono ((e1.trans e2).trans e3)) hx hn)) (v0 5 rfl) rv_I0) fun H4 e4 => k H4 ((e1.trans e2).trans (e3.trans e4))
theorem sc_least_from : FnScope ["table", "needed", "rest", "have", "least", "sample", "cost"] ["table", "needed", "rest", "have"] (defScope s_least_from) := ⟨rfl, rfl, rfl, by decide +kernel, rfl, by decide +kernel, by decide +kernel⟩
def sp_least_from (_ : PySem.W.Frag) : Sp := fun vs H Q _ => ∃ (t p r : Addr) (m : Nat) (f : Mx) (nd : List Nat) (rs : List Int), vs = [.ref t, .ref p, .ref r, nV m] ∧ Mat H t nd.length f ∧ H p = some (.lst (nL nd)) ∧ H r = some (.lst (iL rs)) ∧
  nd.length ≤ 8 ∧ m < 2 ^ nd.length ∧ rs.length = 2 ^ nd.length ∧ RetV (.int (leastFrom f nd rs m nd.length)) H Q
theorem sv_least_from {H : Hp} {t p r : Addr} {m : Nat} {f : Mx} {nd : List Nat} {rs : List Int} (hM : Mat H t nd.length f) (hp : H p = some (.lst (nL nd))) (hr : H r = some (.lst (iL rs))) (hn : nd.length ≤ 8) (hm : m < 2 ^ nd.length) (hl : rs.length = 2 ^ nd.length) :
    SpV (sp_least_from K) [.ref t, .ref p, .ref r, nV m] H (.int (leastFrom f nd rs m nd.length)) := fun _ e _ q _ => ⟨t, p, r, m, f, nd, rs, rfl, hM.mono e, e _ _ hp, e _ _ hr, hn, hm, hl, q⟩
theorem leastStep_if (c l : Int) : (!decide (c = -1) && (decide (l = -1) || decide (c < l))) = true ↔ (c ≠ -1 ∧ (l = -1 ∨ c < l)) := by
  simp
theorem ok_least_from {f : Addr} {fd : FuncData} (F : Fun K "least_from" "least_from" s_least_from f fd) (T : Txt K mg) (D_cost_from : DefK P w K mg base "cost_from" 3 ["table", "needed", "rest", "have", "sample"] (sp_cost_from K))  : FnOk P w K mg base CX0 4 f fd ["table", "needed", "rest", "have"] (sp_least_from K) := by
  refine F.ok sc_least_from (fun vs H Q E h => ?_) (fun cdv A outer s H vs Q E hr h => ⟨_, (pss_cons (ps_set (i := 4) sc_least_from.nd rfl (Or.inl rfl) (pe_const T.c_NO_WAY))
        (pss_cons (ps_for PassesOwn.never rfl (pi_range1 rfl T.range (pa_cons (pe_callB call_len_seq (by rfl) T.len (by decide +kernel) (pa_cons (pv 0) pa_nil)) pa_nil)) (pg_name (i := 5) sc_least_from.nd rfl (Or.inl rfl))
        (pss_cons (ps_set (i := 6) sc_least_from.nd rfl (Or.inl rfl) (pe_def D_cost_from hr (pa_cons (pv 0) (pa_cons (pv 1) (pa_cons (pv 2) (pa_cons (pv 3) (pa_cons (pv 5) pa_nil)))))))
        (pss_one (ps_if (PW.pt (pw_and (pt_cmpR op_ne (pv 6) (pe_const T.c_NO_WAY) (nomark _)) (pw_and1 (PW.pt (pw_or (pt_cmpR op_eq (pv 4) (pe_const T.c_NO_WAY) (nomark _)) (pw_or1 (pt_cmpR op_lt (pv 6) (pv 4) (nomark _)))))))) (pss_one (ps_set (i := 4) sc_least_from.nd rfl (Or.inl rfl) (pv 6))) pss_nil))))
        (pss_one (ps_ret (pv 4))))), ?_⟩)
  · obtain ⟨_, _, _, _, _, _, _, rfl, _⟩ := h
    rfl
  · obtain ⟨t, p, r, m, f, nd, rs, rfl, hM, hp, hr, hn, hm, hl, k⟩ := h
    refine q_asg ev_c fun H1 e1 => ?_
    refine q_R1 (e_lenM (v0 0 rfl) (hM.mono e1)) (by omega) (fun i σ' H' => ∃ v u, σ' = [some (.ref t), some (.ref p), some (.ref r), some (nV m), some (.int (leastFrom f nd rs m i)), v, u] ∧ Ex H H') (fun H2 e2 => ⟨none, none, rfl, e1.trans e2⟩) ?_ ?_
    · rintro i σ' H' hi ⟨v, u, rfl, e⟩
      refine q_asg (c5 (v0 0 rfl) (v0 1 rfl) (v0 2 rfl) (v0 3 rfl) (v0 5 rfl) (sv_cost_from (hM.mono e) (e _ _ hp) (e _ _ hr) hi hn hm hl)) fun H2 e2 => ?_
      refine s_when (et_and (et_test (ev_op (v0 6 rfl) ev_c r_neI)) fun _ => et_or (et_test (ev_op (v0 4 rfl) ev_c r_eqI)) fun _ => et_test (ev_op (v0 6 rfl) (v0 4 rfl) rv_I0)) (fun hb H3 e3 => ?_) (fun hb H3 e3 => ?_)
      · refine s_asg (v0 6 rfl) fun H4 e4 => ?_
        have e5 : leastFrom f nd rs m (i + 1) = costFrom f nd rs m i := if_pos ((leastStep_if _ _).mp hb)
        exact ⟨_, _, by rw [e5]; rfl, (e.trans e2).trans (e3.trans e4)⟩
      · have e5 : leastFrom f nd rs m (i + 1) = leastFrom f nd rs m i := if_neg fun z => by
          have z2 : (!decide (costFrom f nd rs m i = -1) && (decide (leastFrom f nd rs m i = -1) || decide (costFrom f nd rs m i < leastFrom f nd rs m i))) = true := (leastStep_if _ _).mpr z
          rw [hb] at z2
          cases z2
        exact ⟨_, _, by rw [e5]; rfl, (e.trans e2).trans e3⟩
    · rintro σ' H' ⟨v, u, rfl, e⟩
      exact s_ret (v0 4 rfl) fun H2 e2 => k H2 (e.trans e2)
theorem rests_len (f : Mx) (nd : List Nat) : ∀ i, (rests f nd i).length = 2 ^ nd.length
  | 0 => List.length_replicate ..
  | i + 1 => by
    show ((rests f nd i).set _ _).length = _
    rw [List.length_set, rests_len f nd i]
theorem sc_least_rests : FnScope ["table", "needed", "every", "rest", "have"] ["table", "needed"] (defScope s_least_rests) := ⟨rfl, rfl, rfl, by decide +kernel, rfl, by decide +kernel, by decide +kernel⟩
def sp_least_rests (_ : PySem.W.Frag) : Sp := fun vs H Q _ => ∃ (t p : Addr) (f : Mx) (nd : List Nat), vs = [.ref t, .ref p] ∧ Mat H t nd.length f ∧ H p = some (.lst (nL nd)) ∧ nd.length ≤ 8 ∧ RetP (IsL (iL (restOf f nd))) H Q
theorem sv_least_rests {H : Hp} {t p : Addr} {f : Mx} {nd : List Nat} (hM : Mat H t nd.length f) (hp : H p = some (.lst (nL nd))) (hn : nd.length ≤ 8) : SpP (sp_least_rests K) [.ref t, .ref p] H (IsL (iL (restOf f nd))) := fun _ e _ q _ => ⟨t, p, f, nd, rfl, hM.mono e, e _ _ hp, hn, q⟩
theorem ok_least_rests {f : Addr} {fd : FuncData} (F : Fun K "least_rests" "least_rests" s_least_rests f fd) (T : Txt K mg) (D_least_from : DefK P w K mg base "least_from" 4 ["table", "needed", "rest", "have"] (sp_least_from K))  : FnOk P w K mg base CX0 5 f fd ["table", "needed"] (sp_least_rests K) := by
  refine F.ok sc_least_rests (fun vs H Q E h => ?_) (fun cdv A outer s H vs Q E hr h => ⟨_, (pss_cons (ps_set (i := 2) sc_least_rests.nd rfl (Or.inl rfl) (pe_op op_sub (pe_op op_shl pe_int (pe_callB call_len_seq (by rfl) T.len (by decide +kernel) (pa_cons (pv 0) pa_nil))) pe_int))
        (pss_cons (ps_set (i := 3) sc_least_rests.nd rfl (Or.inl rfl) (pe_op op_rep (pe_lst (pa_cons pe_int pa_nil)) (pe_op op_add (pv 2) pe_int)))
        (pss_cons (ps_for PassesOwn.never rfl (pi_range3 rfl T.range (pa_cons (pe_op op_sub (pv 2) pe_int) (pa_cons (pe_un un_neg pe_int) (pa_cons (pe_un un_neg pe_int) pa_nil)))) (pg_name (i := 4) sc_least_rests.nd rfl (Or.inl rfl))
        (pss_one (ps_asg (pe_def D_least_from hr (pa_cons (pv 0) (pa_cons (pv 1) (pa_cons (pv 3) (pa_cons (pv 4) pa_nil))))) (pg_sub (pv 3) (pv 4) set_list))))
        (pss_one (ps_ret (pv 3)))))), ?_⟩)
  · obtain ⟨_, _, _, _, rfl, _⟩ := h
    rfl
  · obtain ⟨t, p, f, nd, rfl, hM, hp, hn, k⟩ := h
    have h8 := two_pow_8 hn
    have h0 := Nat.two_pow_pos nd.length
    have hev := every_succ nd.length
    refine q_asg (ev_op (ev_op ev_c (e_lenM (v0 0 rfl) hM) (r_shl (by omega))) (e_n (a := 1) rfl) (r_sub h0)) fun H1 e1 => ?_
    refine q_asgL (el_rep (k := 0) (n := every nd.length + 1) (ev_op (v0 2 rfl) (e_n (a := 1) rfl) r_add) (by omega)) fun l H2 hl e2 h2 => ?_
    rw [hev, iL_rep] at h2
    have hl0 : H l = none := fresh_back e1 hl
    refine q_down (n := every nd.length) (ev_op (v0 2 rfl) (e_n (a := 1) rfl) rv_I0) (by omega) (fun i σ' H' => ∃ v, σ' = [some (.ref t), some (.ref p), some (nV (every nd.length)), some (.ref l), v] ∧ Ex H H' ∧ H' l = some (.lst (iL (rests f nd i))))
      (fun H3 e3 => ⟨none, rfl, (e1.trans e2).trans e3, e3 _ _ h2⟩) ?_ ?_
    · rintro i σ' H' hi ⟨v, rfl, e, hr⟩
      refine s_setI hr (c4 (v0 0 rfl) (v0 1 rfl) (v0 3 rfl) (v0 4 rfl) (sv_least_from (hM.mono e) (e _ _ hp) hr hn (by omega) (rests_len f nd i))) (v0 3 rfl) (v0 4 rfl) (by rw [rests_len]; omega) fun H3 up h3 => ?_
      exact ⟨_, rfl, up H e hl0, h3⟩
    · rintro σ' H' ⟨v, rfl, e, hr⟩
      exact p_ret (p_of (P := IsL (iL (restOf f nd))) (v0 3 rfl) fun H1 e1 => ⟨l, rfl, e1 _ _ hr⟩) fun v H2 e2 hv => k v H2 (e.trans e2) hv
theorem restOf_len (f : Mx) (nd : List Nat) : (restOf f nd).length = 2 ^ nd.length := rests_len f nd _
theorem sc_next_of_best : FnScope ["table", "needed", "rest", "have", "sample"] ["table", "needed", "rest", "have"] (defScope s_next_of_best) := ⟨rfl, rfl, rfl, by decide +kernel, rfl, by decide +kernel, by decide +kernel⟩
def sp_next_of_best (_ : PySem.W.Frag) : Sp := fun vs H Q _ => ∃ (t p r : Addr) (m : Nat) (f : Mx) (nd : List Nat) (rs : List Int), vs = [.ref t, .ref p, .ref r, nV m] ∧ Mat H t nd.length f ∧ H p = some (.lst (nL nd)) ∧ H r = some (.lst (iL rs)) ∧
  nd.length ≤ 8 ∧ m < 2 ^ nd.length ∧ rs.length = 2 ^ nd.length ∧ RetV (nV (nextBest f nd rs m)) H Q
theorem sv_next_of_best {H : Hp} {t p r : Addr} {m : Nat} {f : Mx} {nd : List Nat} {rs : List Int} (hM : Mat H t nd.length f) (hp : H p = some (.lst (nL nd))) (hr : H r = some (.lst (iL rs))) (hn : nd.length ≤ 8) (hm : m < 2 ^ nd.length) (hl : rs.length = 2 ^ nd.length) :
    SpV (sp_next_of_best K) [.ref t, .ref p, .ref r, nV m] H (nV (nextBest f nd rs m)) := fun _ e _ q _ => ⟨t, p, r, m, f, nd, rs, rfl, hM.mono e, e _ _ hp, e _ _ hr, hn, hm, hl, q⟩
theorem ok_next_of_best {f : Addr} {fd : FuncData} (F : Fun K "next_of_best" "next_of_best" s_next_of_best f fd) (T : Txt K mg) (D_cost_from : DefK P w K mg base "cost_from" 3 ["table", "needed", "rest", "have", "sample"] (sp_cost_from K))  : FnOk P w K mg base CX0 4 f fd ["table", "needed", "rest", "have"] (sp_next_of_best K) := by
  refine F.ok sc_next_of_best (fun vs H Q E h => ?_) (fun cdv A outer s H vs Q E hr h => ⟨_, (pss_cons (ps_for PassesOwn.never rfl (pi_range1 rfl T.range (pa_cons (pe_callB call_len_seq (by rfl) T.len (by decide +kernel) (pa_cons (pv 0) pa_nil)) pa_nil)) (pg_name (i := 4) sc_next_of_best.nd rfl (Or.inl rfl))
        (pss_one (ps_if (pt_cmpR op_eq (pe_def D_cost_from hr (pa_cons (pv 0) (pa_cons (pv 1) (pa_cons (pv 2) (pa_cons (pv 3) (pa_cons (pv 4) pa_nil)))))) (pe_ix ix_list (pv 2) (pv 3) (fun _ _ => rfl)) (nomark _)) (pss_one (ps_ret (pv 4))) pss_nil)))
        (pss_one (ps_ret (pe_callB call_len_seq (by rfl) T.len (by decide +kernel) (pa_cons (pv 0) pa_nil))))), ?_⟩)
  · obtain ⟨_, _, _, _, _, _, _, rfl, _⟩ := h
    rfl
  · obtain ⟨t, p, r, m, f, nd, rs, rfl, hM, hp, hr, hn, hm, hl, k⟩ := h
    refine q_R1 (e_lenM (v0 0 rfl) hM) (by omega) (fun i σ' H' => ∃ v, σ' = [some (.ref t), some (.ref p), some (.ref r), some (nV m), v] ∧ Ex H H' ∧ ∀ j, j < i → decide (costFrom f nd rs m j = rs.getD m 0) = false) (fun H1 e1 => ⟨none, rfl, e1, fun j hj => absurd hj (Nat.not_lt_zero _)⟩) ?_ ?_
    · rintro i σ' H' hi ⟨v, rfl, e, hno⟩
      refine s_when (et_test (ev_op (c5 (v0 0 rfl) (v0 1 rfl) (v0 2 rfl) (v0 3 rfl) (v0 4 rfl) (sv_cost_from (hM.mono e) (e _ _ hp) (e _ _ hr) hi hn hm hl)) (e_ixI (v0 2 rfl) (SqL.of (e _ _ hr)) (v0 3 rfl) (by omega)) r_eqI)) (fun hb H2 e2 => ?_) (fun hb H2 e2 => ?_)
      · refine s_ret (v0 4 rfl) fun H3 e3 => ?_
        have e4 : nextBest f nd rs m = i := by
          unfold nextBest
          rw [find_range hi hb hno]
          rfl
        rw [e4] at k
        exact k H3 ((e.trans e2).trans e3)
      · refine ⟨_, rfl, e.trans e2, fun j hj => ?_⟩
        by_cases h : j = i
        · rw [h, hb]
        · exact hno j (by omega)
    · rintro σ' H' ⟨v, rfl, e, hno⟩
      have e4 : nextBest f nd rs m = nd.length := by
        unfold nextBest
        rw [find_range_none hno]
        rfl
      rw [e4] at k
      exact s_ret (e_lenM (v0 0 rfl) (hM.mono e)) fun H3 e3 => k H3 (e.trans e3)
theorem nextBest_le (f : Mx) (nd : List Nat) (rs : List Int) (m : Nat) : nextBest f nd rs m ≤ nd.length := by
  unfold nextBest
  cases h : (List.range nd.length).find? fun x => decide (costFrom f nd rs m x = rs.getD m 0) with
  | none => exact Nat.le_refl _
  | some x => exact Nat.le_of_lt (List.mem_range.mp (List.mem_of_find?_eq_some h))
theorem bestAt_len (f : Mx) (nd : List Nat) (rs : List Int) : ∀ i, (bestAt f nd rs i).1.length = i
  | 0 => rfl
  | i + 1 => by
    show ((bestAt f nd rs i).1 ++ [_]).length = _
    rw [List.length_append, bestAt_len f nd rs i]
    rfl
/-- the best order is come to without a set that is none -/
def BestOk (f : Mx) (nd : List Nat) : Prop := ∀ i, i < nd.length → (bestAt f nd (restOf f nd) i).2 < 2 ^ nd.length
theorem sc_best_order : FnScope ["table", "needed", "rest", "order", "have", "turn", "sample"] ["table", "needed"] (defScope s_best_order) := ⟨rfl, rfl, rfl, by decide +kernel, rfl, by decide +kernel, by decide +kernel⟩
def sp_best_order (_ : PySem.W.Frag) : Sp := fun vs H Q _ => ∃ (t p : Addr) (f : Mx) (nd : List Nat), vs = [.ref t, .ref p] ∧ Mat H t nd.length f ∧ H p = some (.lst (nL nd)) ∧ nd.length ≤ 8 ∧ BestOk f nd ∧ RetP (IsN (bestOrder f nd)) H Q
theorem sv_best_order {H : Hp} {t p : Addr} {f : Mx} {nd : List Nat} (hM : Mat H t nd.length f) (hp : H p = some (.lst (nL nd))) (hn : nd.length ≤ 8) (ok : BestOk f nd) : SpP (sp_best_order K) [.ref t, .ref p] H (IsN (bestOrder f nd)) := fun _ e _ q _ => ⟨t, p, f, nd, rfl, hM.mono e, e _ _ hp, hn, ok, q⟩
theorem ok_best_order {f : Addr} {fd : FuncData} (F : Fun K "best_order" "best_order" s_best_order f fd) (T : Txt K mg) (D_least_rests : DefK P w K mg base "least_rests" 5 ["table", "needed"] (sp_least_rests K)) (D_next_of_best : DefK P w K mg base "next_of_best" 4 ["table", "needed", "rest", "have"] (sp_next_of_best K)) (D_grown : DefK P w K mg base "grown" 1 ["group", "sample"] (sp_grown K))  : FnOk P w K mg base CX0 6 f fd ["table", "needed"] (sp_best_order K) := by
  refine F.ok sc_best_order (fun vs H Q E h => ?_) (fun cdv A outer s H vs Q E hr h => ⟨_, (pss_cons (ps_set (i := 2) sc_best_order.nd rfl (Or.inl rfl) (pe_def D_least_rests hr (pa_cons (pv 0) (pa_cons (pv 1) pa_nil))))
        (pss_cons (ps_set (i := 3) sc_best_order.nd rfl (Or.inl rfl) (pe_lst pa_nil))
        (pss_cons (ps_set (i := 4) sc_best_order.nd rfl (Or.inl rfl) pe_int)
        (pss_cons (ps_for PassesOwn.never rfl (pi_range1 rfl T.range (pa_cons (pe_callB call_len_seq (by rfl) T.len (by decide +kernel) (pa_cons (pv 0) pa_nil)) pa_nil)) (pg_name (i := 5) sc_best_order.nd rfl (Or.inl rfl))
        (pss_cons (ps_set (i := 6) sc_best_order.nd rfl (Or.inl rfl) (pe_def D_next_of_best hr (pa_cons (pv 0) (pa_cons (pv 1) (pa_cons (pv 2) (pa_cons (pv 4) pa_nil))))))
        (pss_cons (ps_expr (pe_bm PySem.F.plainAttrs_list PySem.F.slot_list_append PySem.F.type_list_append mt_append (pv 3) (pa_cons (pv 6) pa_nil)))
        (pss_one (ps_set (i := 4) sc_best_order.nd rfl (Or.inl rfl) (pe_def D_grown hr (pa_cons (pv 4) (pa_cons (pv 6) pa_nil))))))))
        (pss_one (ps_ret (pv 3))))))), ?_⟩)
  · obtain ⟨_, _, _, _, rfl, _⟩ := h
    rfl
  · obtain ⟨t, p, f, nd, rfl, hM, hp, hn, ok, k⟩ := h
    refine pq_asg (p_v2 (v0 0 rfl) (v0 1 rfl) (sv_least_rests hM hp hn)) ?_
    rintro _ H1 e1 ⟨r, rfl, hr⟩
    refine q_nil fun l H2 hl e2 h2 => ?_
    refine q_asg (e_n (a := 0) rfl) fun H3 e3 => ?_
    have e13 := (e1.trans e2).trans e3
    refine q_R1 (e_lenM (v0 0 rfl) (hM.mono e13)) (by omega) (fun i σ' H' => ∃ v u, σ' = [some (.ref t), some (.ref p), some (.ref r), some (.ref l), some (nV (bestAt f nd (restOf f nd) i).2), v, u] ∧ Ex H1 H' ∧ H' l = some (.lst (nL (bestAt f nd (restOf f nd) i).1)))
      (fun H4 e4 => ⟨none, none, rfl, e2.trans (e3.trans e4), e4 _ _ (e3 _ _ h2)⟩) ?_ ?_
    · rintro i σ' H' hi ⟨v, u, rfl, e, hl2⟩
      have e' := e1.trans e
      refine q_asg (c4 (v0 0 rfl) (v0 1 rfl) (v0 2 rfl) (v0 4 rfl) (sv_next_of_best (hM.mono e') (e' _ _ hp) (e _ _ hr) hn (ok i hi) (restOf_len f nd))) fun H5 e5 => ?_
      refine q_appN (e5 _ _ hl2) (v0 3 rfl) (v0 6 rfl) (by rw [bestAt_len]; omega) fun H6 up h6 => ?_
      refine s_asg (c2 (v0 4 rfl) (v0 6 rfl) (sv_grown (by have := nextBest_le f nd (restOf f nd) (bestAt f nd (restOf f nd) i).2; omega))) fun H7 e7 => ?_
      exact ⟨_, _, rfl, (up H1 (e.trans e5) hl).trans e7, e7 _ _ h6⟩
    · rintro σ' H' ⟨v, u, rfl, e, hl2⟩
      exact p_ret (p_of (P := IsN (bestOrder f nd)) (v0 3 rfl) fun H4 e4 => ⟨l, rfl, e4 _ _ hl2⟩) fun v H5 e5 hv => k v H5 ((e1.trans e).trans e5) hv
theorem sc_pairs_against : FnScope ["said", "order", "pairs", "over", "under"] ["said", "order"] (defScope s_pairs_against) := ⟨rfl, rfl, rfl, by decide +kernel, rfl, by decide +kernel, by decide +kernel⟩
def sp_pairs_against (_ : PySem.W.Frag) : Sp := fun vs H Q _ => ∃ (p o : Addr) (n : Nat) (f : Mx) (ol : List Nat), vs = [.ref p, .ref o] ∧ Mat H p n f ∧ H o = some (.lst (nL ol)) ∧ (∀ x, x < n → x ∈ ol) ∧ n ≤ 8 ∧ RetP (IsR (PairsO (pairsAgainst f n ol n))) H Q
theorem sv_pairs_against {H : Hp} {p o : Addr} {n : Nat} {f : Mx} {ol : List Nat} (hM : Mat H p n f) (ho : H o = some (.lst (nL ol))) (hx : ∀ x, x < n → x ∈ ol) (hn : n ≤ 8) : SpP (sp_pairs_against K) [.ref p, .ref o] H (IsR (PairsO (pairsAgainst f n ol n))) :=
  fun _ e _ q _ => ⟨p, o, n, f, ol, rfl, hM.mono e, e _ _ ho, hx, hn, q⟩
def againstRow (f : Mx) (o : List Nat) (a j : Nat) : List (Nat × Nat) := ((List.range j).filter fun b => isAgainst f o a b).map fun b => (a, b)
theorem againstRow_len (f : Mx) (o : List Nat) (a j : Nat) : (againstRow f o a j).length ≤ j := by
  unfold againstRow
  have h := List.length_filter_le (fun b => isAgainst f o a b) (List.range j)
  rw [List.length_range] at h
  rw [List.length_map]
  exact h
theorem pairsAgainst_succ (f : Mx) (n : Nat) (o : List Nat) (i : Nat) : pairsAgainst f n o (i + 1) = pairsAgainst f n o i ++ againstRow f o i n := by
  unfold pairsAgainst
  rw [List.range_succ, List.flatMap_append, List.flatMap_singleton]
  rfl
theorem pairsAgainst_len (f : Mx) (n : Nat) (o : List Nat) : ∀ i, (pairsAgainst f n o i).length ≤ i * n
  | 0 => Nat.zero_le _
  | i + 1 => by
    rw [pairsAgainst_succ, List.length_append]
    have h1 := pairsAgainst_len f n o i
    have h2 := againstRow_len f o i n
    rw [Nat.succ_mul]
    omega
theorem ok_pairs_against {f : Addr} {fd : FuncData} (F : Fun K "pairs_against" "pairs_against" s_pairs_against f fd) (T : Txt K mg)   : FnOk P w K mg base CX0 1 f fd ["said", "order"] (sp_pairs_against K) := by
  refine F.ok sc_pairs_against (fun vs H Q E h => ?_) (fun cdv A outer s H vs Q E hr h => ⟨_, (pss_cons (ps_set (i := 2) sc_pairs_against.nd rfl (Or.inl rfl) (pe_lst pa_nil))
        (pss_cons (ps_for PassesOwn.never rfl (pi_range1 rfl T.range (pa_cons (pe_callB call_len_seq (by rfl) T.len (by decide +kernel) (pa_cons (pv 0) pa_nil)) pa_nil)) (pg_name (i := 3) sc_pairs_against.nd rfl (Or.inl rfl))
        (pss_one (ps_for PassesOwn.never rfl (pi_range1 rfl T.range (pa_cons (pe_callB call_len_seq (by rfl) T.len (by decide +kernel) (pa_cons (pv 0) pa_nil)) pa_nil)) (pg_name (i := 4) sc_pairs_against.nd rfl (Or.inl rfl))
        (pss_one (ps_if (PW.pt (pw_and (pt_cmpR op_eq (pe_ix ix_list (pe_ix ix_list (pv 0) (pv 3) (fun _ _ => rfl)) (pv 4) (fun _ _ => rfl)) pe_int (nomark _)) (pw_and1 (pt_cmpR op_lt (pe_bm PySem.F.plainAttrs_list PySem.F.slot_list_index PySem.F.type_list_index mt_index (pv 1) (pa_cons (pv 4) pa_nil)) (pe_bm PySem.F.plainAttrs_list PySem.F.slot_list_index PySem.F.type_list_index mt_index (pv 1) (pa_cons (pv 3) pa_nil)) (nomark _))))) (pss_one (ps_expr (pe_bm PySem.F.plainAttrs_list PySem.F.slot_list_append PySem.F.type_list_append mt_append (pv 2) (pa_cons (pe_tup (pa_cons (pv 3) (pa_cons (pv 4) pa_nil))) pa_nil)))) pss_nil)))))
        (pss_one (ps_ret (pv 2))))), ?_⟩)
  · obtain ⟨_, _, _, _, _, rfl, _⟩ := h
    rfl
  · obtain ⟨p, o, n, f, ol, rfl, hM, ho, hx, hn, k⟩ := h
    refine q_nil fun l H1 hl e1 h1 => ?_
    refine q_R1 (e_lenM (v0 0 rfl) (hM.mono e1)) (by omega) (fun i σ' H' => ∃ v u, σ' = [some (.ref p), some (.ref o), some (.ref l), v, u] ∧ Ex H H' ∧ Refs H' l (PairsO (pairsAgainst f n ol i))) (fun H2 e2 => ⟨none, none, rfl, e1.trans e2, (Refs.nil h1).mono e2⟩) ?_ ?_
    · rintro i σ' H' hi ⟨v, u, rfl, e, hp⟩
      refine s_R1 (e_lenM (v0 0 rfl) (hM.mono e)) (by omega) (fun j σ' H' => ∃ u, σ' = [some (.ref p), some (.ref o), some (.ref l), some (nV i), u] ∧ Ex H H' ∧ Refs H' l (PairsO (pairsAgainst f n ol i ++ againstRow f ol i j)))
        (fun H2 e2 => ⟨u, rfl, e.trans e2, by rw [show againstRow f ol i 0 = [] from rfl, List.append_nil]; exact hp.mono e2⟩) ?_ ?_
      · rintro j σ2 H2 hj ⟨u2, rfl, e2, hp2⟩
        have hz := pairsAgainst_len f n ol i
        have hz2 := againstRow_len f ol i j
        have hz3 : i * n ≤ 8 * 8 := Nat.mul_le_mul (by omega) hn
        have es : againstRow f ol i (j + 1) = if isAgainst f ol i j = true then againstRow f ol i j ++ [(i, j)] else againstRow f ol i j := by
          unfold againstRow
          rw [List.range_succ, List.filter_append, List.map_append, List.filter_cons]
          split
          · rfl
          · exact List.append_nil _
        refine s_when (et_and (et_test (ev_op (e_mx (v0 0 rfl) (hM.mono e2) (v0 3 rfl) (v0 4 rfl) hi hj) (e_n (a := 1) rfl) r_eq)) fun _ => et_test (ev_op (e_index (v0 1 rfl) (SqL.of (e2 _ _ ho)) (v0 4 rfl) (hx j hj)) (e_index (v0 1 rfl) (SqL.of (e2 _ _ ho)) (v0 3 rfl) (hx i hi)) r_lt)) (fun hb H3 e3 => ?_) (fun hb H3 e3 => ?_)
        · refine s_appT (hp2.mono e3) (v0 2 rfl) (eu_tup (ea_cons (v0 3 rfl) (ea_cons (v0 4 rfl) ea_nil)) (by show 2 ≤ 100000; decide)) (by rw [pairsO_len, List.length_append, sizeLine_is]; omega) fun H4 up hr => ⟨_, rfl, up H (e2.trans e3) hl, ?_⟩
          rw [es, if_pos (show isAgainst f ol i j = true from hb), ← List.append_assoc, pairsO_app]
          exact hr
        · refine ⟨_, rfl, e2.trans e3, ?_⟩
          rw [es, if_neg (by rw [show isAgainst f ol i j = false from hb]; decide)]
          exact hp2.mono e3
      · rintro σ2 H2 ⟨u2, rfl, e2, hp2⟩
        rw [← pairsAgainst_succ] at hp2
        exact ⟨_, _, rfl, e2, hp2⟩
    · rintro σ' H' ⟨v, u, rfl, e, hp⟩
      exact p_ret (p_of (P := IsR _) (v0 2 rfl) fun H1 e1 => ⟨l, rfl, hp.mono e1⟩) fun v H2 e2 hv => k v H2 (e.trans e2) hv
end
end Np
set_option Elab.async false
set_option linter.all false
set_option maxRecDepth 100000
set_option maxHeartbeats 4000000
namespace Np
open PySem PySem.Spec PyProof.Rows L2 Evl
section
variable {P : Program} {w : World} {K : PySem.W.Frag} {mg : Str → Option Value} {base : Heap}
theorem sc_common_divisor : FnScope ["a", "b"] ["a", "b"] (defScope s_common_divisor) := ⟨rfl, rfl, rfl, by decide +kernel, rfl, by decide +kernel, by decide +kernel⟩
def sp_common_divisor (_ : PySem.W.Frag) : Sp := fun vs H Q _ => ∃ a b : Nat, vs = [nV a, nV b] ∧ RetV (nV (Nat.gcd a b)) H Q
theorem sv_common_divisor {H : Hp} {a b : Nat} : SpV (sp_common_divisor K) [nV a, nV b] H (nV (Nat.gcd a b)) := fun _ _ _ q _ => ⟨a, b, rfl, q⟩
theorem ok_common_divisor {f : Addr} {fd : FuncData} (F : Fun K "common_divisor" "common_divisor" s_common_divisor f fd) (T : Txt K mg)   : FnOk P w K mg base CX0 1 f fd ["a", "b"] (sp_common_divisor K) := by
  refine F.ok sc_common_divisor (fun vs H Q E h => ?_) (fun cdv A outer s H vs Q E hr h => ⟨_, (pss_cons (ps_while PassesOwn.never (pt_cmpR op_gt (pv 1) pe_int (nomark _)) (pss_one (ps_par (i := 0) (j := 1) (by rfl) sc_common_divisor.nd rfl rfl (by decide) rfl rfl (pa_cons (pv 1) (pa_cons (pe_op op_mod (pv 0) (pv 1)) pa_nil)) (by rfl))))
        (pss_one (ps_ret (pv 0)))), ?_⟩)
  · obtain ⟨_, _, rfl, _⟩ := h
    rfl
  · obtain ⟨a, b, rfl, k⟩ := h
    refine q_while (fun m σ' H' => ∃ x y : Nat, m = y ∧ σ' = [some (nV x), some (nV y)] ∧ Ex H H' ∧ Nat.gcd x y = Nat.gcd a b) b ⟨a, b, rfl, rfl, Ex.refl H, rfl⟩ ?_
    rintro y σ' H' ⟨x, _, rfl, rfl, e, hg⟩
    refine ⟨_, et_test (ev_op (v0 1 rfl) (e_n (a := 0) rfl) r_gt), fun hb H1 e1 => ?_, fun hb H1 e1 => ?_⟩
    · have hy : 0 < y := of_decide_eq_true hb
      refine ⟨fun σ' H' => σ' = [some (nV y), some (nV (x % y))] ∧ Ex H H', fun σ2 H2 ⟨e2, e3⟩ => ⟨x % y, Nat.mod_lt _ hy, y, x % y, rfl, e2, e3, ?_⟩, ?_⟩
      · rw [← hg, Nat.gcd_comm y, ← Nat.gcd_rec, Nat.gcd_comm]
      · exact ea_cons (v0 1 rfl) (ea_cons (ev_op (v0 0 rfl) (v0 1 rfl) (r_mod hy)) ea_nil) H1 (Ex.refl H1) _ fun H2 e2 => ⟨_, _, rfl, rfl, (e.trans e1).trans e2⟩
    · have hy : y = 0 := by
        have := of_decide_eq_false hb
        omega
      subst hy
      rw [Nat.gcd_zero_right] at hg
      rw [← hg] at k
      exact s_ret (v0 0 rfl) fun H2 e2 => k H2 ((e.trans e1).trans e2)
theorem sc_fraction : FnScope ["top", "bottom", "divisor"] ["top", "bottom"] (defScope s_fraction) := ⟨rfl, rfl, rfl, by decide +kernel, rfl, by decide +kernel, by decide +kernel⟩
def sp_fraction (_ : PySem.W.Frag) : Sp := fun vs H Q _ => ∃ a b : Nat, vs = [nV a, nV b] ∧ 0 < b ∧ b < 2 ^ 100 ∧ RetP (IsN (fraction a b)) H Q
theorem sv_fraction {H : Hp} {a b : Nat} (h : 0 < b) (hb : b < 2 ^ 100) : SpP (sp_fraction K) [nV a, nV b] H (IsN (fraction a b)) := fun _ _ _ q _ => ⟨a, b, rfl, h, hb, q⟩
theorem ok_fraction {f : Addr} {fd : FuncData} (F : Fun K "fraction" "fraction" s_fraction f fd) (T : Txt K mg) (D_common_divisor : DefK P w K mg base "common_divisor" 1 ["a", "b"] (sp_common_divisor K))  : FnOk P w K mg base CX0 2 f fd ["top", "bottom"] (sp_fraction K) := by
  refine F.ok sc_fraction (fun vs H Q E h => ?_) (fun cdv A outer s H vs Q E hr h => ⟨_, (pss_cons (ps_set (i := 2) sc_fraction.nd rfl (Or.inl rfl) (pe_def D_common_divisor hr (pa_cons (pv 0) (pa_cons (pv 1) pa_nil))))
        (pss_one (ps_ret (pe_lst (pa_cons (pe_op op_fdivW (pv 0) (pv 2)) (pa_cons (pe_op op_fdivW (pv 1) (pv 2)) pa_nil)))))), ?_⟩)
  · obtain ⟨_, _, rfl, _⟩ := h
    rfl
  · obtain ⟨a, b, rfl, h0, hb, k⟩ := h
    have hg : 0 < Nat.gcd a b := Nat.gcd_pos_of_pos_right _ h0
    have hg2 : Nat.gcd a b < 2 ^ 100 := Nat.lt_of_le_of_lt (Nat.gcd_le_right _ h0) hb
    refine q_asg (c2 (v0 0 rfl) (v0 1 rfl) sv_common_divisor) fun H1 e1 => ?_
    exact p_ret (p_new (el_lst (ea_cons (ev_op (v0 0 rfl) (v0 2 rfl) (r_divW hg hg2)) (ea_cons (ev_op (v0 1 rfl) (v0 2 rfl) (r_divW hg hg2)) ea_nil)) (by show 2 ≤ 100000; decide))) fun v H2 e2 hv => k v H2 (e1.trans e2) hv
theorem sc_power : FnScope ["base", "times", "product", "turn"] ["base", "times"] (defScope s_power) := ⟨rfl, rfl, rfl, by decide +kernel, rfl, by decide +kernel, by decide +kernel⟩
def sp_power (_ : PySem.W.Frag) : Sp := fun vs H Q _ => ∃ b t : Nat, vs = [nV b, nV t] ∧ b ≤ 3 ∧ t ≤ 40 ∧ RetV (nV (b ^ t)) H Q
theorem sv_power {H : Hp} {b t : Nat} (hb : b ≤ 3) (ht : t ≤ 40) : SpV (sp_power K) [nV b, nV t] H (nV (b ^ t)) := fun _ _ _ q _ => ⟨b, t, rfl, hb, ht, q⟩
theorem ok_power {f : Addr} {fd : FuncData} (F : Fun K "power" "power" s_power f fd) (T : Txt K mg)   : FnOk P w K mg base CX0 1 f fd ["base", "times"] (sp_power K) := by
  refine F.ok sc_power (fun vs H Q E h => ?_) (fun cdv A outer s H vs Q E hr h => ⟨_, (pss_cons (ps_set (i := 2) sc_power.nd rfl (Or.inl rfl) pe_int)
        (pss_cons (ps_for PassesOwn.never rfl (pi_range1 rfl T.range (pa_cons (pv 1) pa_nil)) (pg_name (i := 3) sc_power.nd rfl (Or.inl rfl))
        (pss_one (ps_set (i := 2) sc_power.nd rfl (Or.inl rfl) (pe_op op_mul (pv 2) (pv 0)))))
        (pss_one (ps_ret (pv 2))))), ?_⟩)
  · obtain ⟨_, _, rfl, _⟩ := h
    rfl
  · obtain ⟨b, t, rfl, hb, ht, k⟩ := h
    refine q_asg (e_n (a := 1) rfl) fun H1 e1 => ?_
    refine q_R1 (v0 1 rfl) (by omega) (fun i σ' H' => ∃ v, σ' = [some (nV b), some (nV t), some (nV (b ^ i)), v] ∧ Ex H H') (fun H2 e2 => ⟨none, rfl, e1.trans e2⟩) ?_ ?_
    · rintro i σ' H' hi ⟨v, rfl, e⟩
      exact s_asg (ev_op (v0 2 rfl) (v0 0 rfl) (r_mul (Or.inr (by omega)))) fun H2 e2 => ⟨_, rfl, e.trans e2⟩
    · rintro σ' H' ⟨v, rfl, e⟩
      exact s_ret (v0 2 rfl) fun H2 e2 => k H2 (e.trans e2)
theorem sc_choices : FnScope ["many", "few", "sets", "turn"] ["many", "few"] (defScope s_choices) := ⟨rfl, rfl, rfl, by decide +kernel, rfl, by decide +kernel, by decide +kernel⟩
def sp_choices (_ : PySem.W.Frag) : Sp := fun vs H Q _ => ∃ m r : Nat, vs = [nV m, nV r] ∧ r ≤ m ∧ m ≤ 40 ∧ RetV (nV (choices m r)) H Q
theorem sv_choices {H : Hp} {m r : Nat} (h : r ≤ m) (hm : m ≤ 40) : SpV (sp_choices K) [nV m, nV r] H (nV (choices m r)) := fun _ _ _ q _ => ⟨m, r, rfl, h, hm, q⟩
theorem ok_choices {f : Addr} {fd : FuncData} (F : Fun K "choices" "choices" s_choices f fd) (T : Txt K mg)   : FnOk P w K mg base CX0 1 f fd ["many", "few"] (sp_choices K) := by
  refine F.ok sc_choices (fun vs H Q E h => ?_) (fun cdv A outer s H vs Q E hr h => ⟨_, (pss_cons (ps_set (i := 2) sc_choices.nd rfl (Or.inl rfl) pe_int)
        (pss_cons (ps_for PassesOwn.never rfl (pi_range1 rfl T.range (pa_cons (pv 1) pa_nil)) (pg_name (i := 3) sc_choices.nd rfl (Or.inl rfl))
        (pss_one (ps_set (i := 2) sc_choices.nd rfl (Or.inl rfl) (pe_op op_fdiv (pe_op op_mul (pv 2) (pe_op op_sub (pv 0) (pv 3))) (pe_op op_add (pv 3) pe_int)))))
        (pss_one (ps_ret (pv 2))))), ?_⟩)
  · obtain ⟨_, _, rfl, _⟩ := h
    rfl
  · obtain ⟨m, r, rfl, hr', hm, k⟩ := h
    refine q_asg (e_n (a := 1) rfl) fun H1 e1 => ?_
    refine q_R1 (v0 1 rfl) (by omega) (fun i σ' H' => ∃ v, σ' = [some (nV m), some (nV r), some (nV (choices m i)), v] ∧ Ex H H') (fun H2 e2 => ⟨none, rfl, e1.trans e2⟩) ?_ ?_
    · rintro i σ' H' hi ⟨v, rfl, e⟩
      exact s_asg (ev_op (ev_op (v0 2 rfl) (ev_op (v0 0 rfl) (v0 3 rfl) (r_sub (by omega))) (r_mul (Or.inr (by omega)))) (ev_op (v0 3 rfl) (e_n (a := 1) rfl) r_add) (r_div (by omega) (by omega))) fun H2 e2 => ⟨_, rfl, e.trans e2⟩
    · rintro σ' H' ⟨v, rfl, e⟩
      exact s_ret (v0 2 rfl) fun H2 e2 => k H2 (e.trans e2)
theorem pow_small {b t : Nat} (hb : b ≤ 3) (ht : t ≤ 40) (h0 : 0 < b) : b ^ t < 18446744073709551616 := Nat.lt_of_le_of_lt (Nat.le_trans (Nat.pow_le_pow_left hb t) (Nat.pow_le_pow_right (by decide) ht)) (by decide)
theorem sc_lucky_ways : FnScope ["guesses", "right", "ways", "found"] ["guesses", "right"] (defScope s_lucky_ways) := ⟨rfl, rfl, rfl, by decide +kernel, rfl, by decide +kernel, by decide +kernel⟩
def sp_lucky_ways (_ : PySem.W.Frag) : Sp := fun vs H Q _ => ∃ g r : Nat, vs = [nV g, nV r] ∧ g ≤ 40 ∧ r ≤ 100 ∧ RetV (nV (lucky g r)) H Q
theorem sv_lucky_ways {H : Hp} {g r : Nat} (hg : g ≤ 40) (hr : r ≤ 100) : SpV (sp_lucky_ways K) [nV g, nV r] H (nV (lucky g r)) := fun _ _ _ q _ => ⟨g, r, rfl, hg, hr, q⟩
theorem ok_lucky_ways {f : Addr} {fd : FuncData} (F : Fun K "lucky_ways" "lucky_ways" s_lucky_ways f fd) (T : Txt K mg) (D_choices : DefK P w K mg base "choices" 1 ["many", "few"] (sp_choices K)) (D_power : DefK P w K mg base "power" 1 ["base", "times"] (sp_power K))  : FnOk P w K mg base CX0 2 f fd ["guesses", "right"] (sp_lucky_ways K) := by
  refine F.ok sc_lucky_ways (fun vs H Q E h => ?_) (fun cdv A outer s H vs Q E hr h => ⟨_, (pss_cons (ps_set (i := 2) sc_lucky_ways.nd rfl (Or.inl rfl) pe_int)
        (pss_cons (ps_for PassesOwn.never rfl (pi_range2 rfl T.range (pa_cons (pv 1) (pa_cons (pe_op op_add (pv 0) pe_int) pa_nil))) (pg_name (i := 3) sc_lucky_ways.nd rfl (Or.inl rfl))
        (pss_one (ps_aug (i := 2) sc_lucky_ways.nd rfl (Or.inl rfl) (pe_op op_mul (pe_def D_choices hr (pa_cons (pv 0) (pa_cons (pv 3) pa_nil))) (pe_def D_power hr (pa_cons pe_int (pa_cons (pe_op op_sub (pv 0) (pv 3)) pa_nil)))) ip_add)))
        (pss_one (ps_ret (pv 2))))), ?_⟩)
  · obtain ⟨_, _, rfl, _⟩ := h
    rfl
  · obtain ⟨g, r, rfl, hg, hr', k⟩ := h
    refine q_asg (e_n (a := 0) rfl) fun H1 e1 => ?_
    refine q_R2 (v0 1 rfl) (ev_op (v0 0 rfl) (e_n (a := 1) rfl) r_add) (by omega) (by omega) (fun i σ' H' => ∃ v, σ' = [some (nV g), some (nV r), some (nV (luckyWays g r i)), v] ∧ Ex H H') (fun H2 e2 => ⟨none, rfl, e1.trans e2⟩) ?_ ?_
    · rintro i σ' H' hi ⟨v, rfl, e⟩
      exact s_augN rfl (ev_op (c2 (v0 0 rfl) (v0 3 rfl) (sv_choices (by omega) hg)) (c2 (e_n (a := 2) rfl) (ev_op (v0 0 rfl) (v0 3 rfl) (r_sub (by omega))) (sv_power (by decide) (by omega))) (r_mul (Or.inr (pow_small (by decide) (by omega) (by decide))))) fun H2 e2 => ⟨_, rfl, e.trans e2⟩
    · rintro σ' H' ⟨v, rfl, e⟩
      exact s_ret (v0 2 rfl) fun H2 e2 => k H2 (e.trans e2)
theorem sc_luck : FnScope ["guesses", "right"] ["guesses", "right"] (defScope s_luck) := ⟨rfl, rfl, rfl, by decide +kernel, rfl, by decide +kernel, by decide +kernel⟩
def sp_luck (_ : PySem.W.Frag) : Sp := fun vs H Q _ => ∃ g r : Nat, vs = [nV g, nV r] ∧ g ≤ 40 ∧ r ≤ 100 ∧ RetP (IsN (luck g r)) H Q
theorem sv_luck {H : Hp} {g r : Nat} (hg : g ≤ 40) (hr : r ≤ 100) : SpP (sp_luck K) [nV g, nV r] H (IsN (luck g r)) := fun _ _ _ q _ => ⟨g, r, rfl, hg, hr, q⟩
theorem pow3_small {g : Nat} (h : g ≤ 40) : 3 ^ g < 2 ^ 100 := Nat.lt_of_le_of_lt (Nat.pow_le_pow_right (by decide) h) (by decide)
theorem ok_luck {f : Addr} {fd : FuncData} (F : Fun K "luck" "luck" s_luck f fd) (T : Txt K mg) (D_fraction : DefK P w K mg base "fraction" 2 ["top", "bottom"] (sp_fraction K)) (D_lucky_ways : DefK P w K mg base "lucky_ways" 2 ["guesses", "right"] (sp_lucky_ways K)) (D_power : DefK P w K mg base "power" 1 ["base", "times"] (sp_power K))  : FnOk P w K mg base CX0 3 f fd ["guesses", "right"] (sp_luck K) := by
  refine F.ok sc_luck (fun vs H Q E h => ?_) (fun cdv A outer s H vs Q E hr h => ⟨_, (pss_one (ps_ret (pe_def D_fraction hr (pa_cons (pe_def D_lucky_ways hr (pa_cons (pv 0) (pa_cons (pv 1) pa_nil))) (pa_cons (pe_def D_power hr (pa_cons pe_int (pa_cons (pv 0) pa_nil))) pa_nil))))), ?_⟩)
  · obtain ⟨_, _, rfl, _⟩ := h
    rfl
  · obtain ⟨g, r, rfl, hg, hr', k⟩ := h
    exact p_ret (p_v2 (c2 (v0 0 rfl) (v0 1 rfl) (sv_lucky_ways hg hr')) (c2 (e_n (a := 3) rfl) (v0 0 rfl) (sv_power (by decide) hg)) (sv_fraction (Nat.pow_pos (by decide)) (pow3_small hg))) k
def optL (o : Option Nat) : List Nat := match o with
  | some r => [r]
  | none => []
theorem sc_least_needed : FnScope ["guesses", "odds", "right"] ["guesses", "odds"] (defScope s_least_needed) := ⟨rfl, rfl, rfl, by decide +kernel, rfl, by decide +kernel, by decide +kernel⟩
def sp_least_needed (_ : PySem.W.Frag) : Sp := fun vs H Q _ => ∃ g q : Nat, vs = [nV g, nV q] ∧ g ≤ 40 ∧ q ≤ 1000000 ∧ RetP (IsN (optL (leastNeeded g q))) H Q
theorem sv_least_needed {H : Hp} {g r : Nat} (hg : g ≤ 40) (hr : r ≤ 1000000) : SpP (sp_least_needed K) [nV g, nV r] H (IsN (optL (leastNeeded g r))) := fun _ _ _ q _ => ⟨g, r, rfl, hg, hr, q⟩
theorem ok_least_needed {f : Addr} {fd : FuncData} (F : Fun K "least_needed" "least_needed" s_least_needed f fd) (T : Txt K mg) (D_power : DefK P w K mg base "power" 1 ["base", "times"] (sp_power K)) (D_lucky_ways : DefK P w K mg base "lucky_ways" 2 ["guesses", "right"] (sp_lucky_ways K))  : FnOk P w K mg base CX0 3 f fd ["guesses", "odds"] (sp_least_needed K) := by
  refine F.ok sc_least_needed (fun vs H Q E h => ?_) (fun cdv A outer s H vs Q E hr h => ⟨_, (pss_cons (ps_for PassesOwn.never rfl (pi_range1 rfl T.range (pa_cons (pe_op op_add (pv 0) pe_int) pa_nil)) (pg_name (i := 2) sc_least_needed.nd rfl (Or.inl rfl))
        (pss_one (ps_if (pt_cmpR op_le (pe_op op_mul (pe_def D_lucky_ways hr (pa_cons (pv 0) (pa_cons (pv 2) pa_nil))) (pv 1)) (pe_def D_power hr (pa_cons pe_int (pa_cons (pv 0) pa_nil))) (nomark _)) (pss_one (ps_ret (pe_lst (pa_cons (pv 2) pa_nil)))) pss_nil)))
        (pss_one (ps_ret (pe_lst pa_nil)))), ?_⟩)
  · obtain ⟨_, _, rfl, _⟩ := h
    rfl
  · obtain ⟨g, q, rfl, hg, hq, k⟩ := h
    refine q_R1 (ev_op (v0 0 rfl) (e_n (a := 1) rfl) r_add) (by omega) (fun i σ' H' => ∃ v, σ' = [some (nV g), some (nV q), v] ∧ Ex H H' ∧ ∀ j, j < i → decide (lucky g j * q ≤ 3 ^ g) = false) (fun H1 e1 => ⟨none, rfl, e1, fun j hj => absurd hj (Nat.not_lt_zero _)⟩) ?_ ?_
    · rintro i σ' H' hi ⟨v, rfl, e, hno⟩
      refine s_when (et_test (ev_op (ev_op (c2 (v0 0 rfl) (v0 2 rfl) (sv_lucky_ways hg (by omega))) (v0 1 rfl) (r_mul (Or.inr (by omega)))) (c2 (e_n (a := 3) rfl) (v0 0 rfl) (sv_power (by decide) hg)) r_le)) (fun hb H2 e2 => ?_) (fun hb H2 e2 => ?_)
      · have e4 : leastNeeded g q = some i := find_range hi hb hno
        rw [e4] at k
        exact p_ret (p_new (el_lst (ea_cons (v0 2 rfl) ea_nil) (by show 1 ≤ 100000; decide))) fun v H3 e3 hv => k v H3 ((e.trans e2).trans e3) hv
      · refine ⟨_, rfl, e.trans e2, fun j hj => ?_⟩
        by_cases h : j = i
        · rw [h, hb]
        · exact hno j (by omega)
    · rintro σ' H' ⟨v, rfl, e, hno⟩
      have e4 : leastNeeded g q = none := find_range_none hno
      rw [e4] at k
      exact p_ret (p_new (el_lst ea_nil (by decide))) fun v H3 e3 hv => k v H3 (e.trans e3) hv
/-- the bounds that the fractions ask; the mathematics gives them -/
def CntOk (nd : List Nat) : Prop := 0 < cnt nd ∧ cnt nd < 2 ^ 100
theorem sc_chance_before : FnScope ["needed", "a", "b"] ["needed", "a", "b"] (defScope s_chance_before) := ⟨rfl, rfl, rfl, by decide +kernel, rfl, by decide +kernel, by decide +kernel⟩
def sp_chance_before (_ : PySem.W.Frag) : Sp := fun vs H Q _ => ∃ (p : Addr) (a b : Nat) (nd : List Nat), vs = [.ref p, nV a, nV b] ∧ H p = some (.lst (nL nd)) ∧ nd.length ≤ 8 ∧ a < nd.length ∧ b < nd.length ∧ CntOk nd ∧ RetP (IsN (fraction (cntB nd a b) (cnt nd))) H Q
theorem sv_chance_before {H : Hp} {p : Addr} {a b : Nat} {nd : List Nat} (hp : H p = some (.lst (nL nd))) (hn : nd.length ≤ 8) (ha : a < nd.length) (hb : b < nd.length) (ok : CntOk nd) : SpP (sp_chance_before K) [.ref p, nV a, nV b] H (IsN (fraction (cntB nd a b) (cnt nd))) :=
  fun _ e _ q _ => ⟨p, a, b, nd, rfl, e _ _ hp, hn, ha, hb, ok, q⟩
theorem ok_chance_before {f : Addr} {fd : FuncData} (F : Fun K "chance_before" "chance_before" s_chance_before f fd) (T : Txt K mg) (D_fraction : DefK P w K mg base "fraction" 2 ["top", "bottom"] (sp_fraction K)) (D_count_before : DefK P w K mg base "count_before" 4 ["needed", "a", "b"] (sp_count_before K)) (D_count_orders : DefK P w K mg base "count_orders" 3 ["needed"] (sp_count_orders K))  : FnOk P w K mg base CX0 5 f fd ["needed", "a", "b"] (sp_chance_before K) := by
  refine F.ok sc_chance_before (fun vs H Q E h => ?_) (fun cdv A outer s H vs Q E hr h => ⟨_, (pss_one (ps_ret (pe_def D_fraction hr (pa_cons (pe_def D_count_before hr (pa_cons (pv 0) (pa_cons (pv 1) (pa_cons (pv 2) pa_nil)))) (pa_cons (pe_def D_count_orders hr (pa_cons (pv 0) pa_nil)) pa_nil))))), ?_⟩)
  · obtain ⟨_, _, _, _, rfl, _⟩ := h
    rfl
  · obtain ⟨p, a, b, nd, rfl, hp, hn, ha, hb, ok, k⟩ := h
    exact p_ret (p_v2 (c3 (v0 0 rfl) (v0 1 rfl) (v0 2 rfl) (sv_count_before hp hn ha hb)) (c1 (v0 0 rfl) (sv_count_orders hp hn)) (sv_fraction ok.1 ok.2)) k
theorem placesAt_less (nd : List Nat) (x : Nat) : ∀ i, (placesAt nd x i).less ≤ i
  | 0 => Nat.le_refl _
  | i + 1 => by
    have ih := placesAt_less nd x i
    show (placeStep nd x i (placesAt nd x i)).less ≤ i + 1
    unfold placeStep
    split
    · omega
    · dsimp only
      split <;> omega
theorem sc_places : FnScope ["needed", "sample", "every", "least", "greatest", "together", "other", "before"] ["needed", "sample"] (defScope s_places) := ⟨rfl, rfl, rfl, by decide +kernel, rfl, by decide +kernel, by decide +kernel⟩
def sp_places (_ : PySem.W.Frag) : Sp := fun vs H Q _ => ∃ (p : Addr) (x : Nat) (nd : List Nat), vs = [.ref p, nV x] ∧ H p = some (.lst (nL nd)) ∧ nd.length ≤ 8 ∧ x < nd.length ∧ CntOk nd ∧ RetP (IsN (places nd x)) H Q
theorem sv_places {H : Hp} {p : Addr} {x : Nat} {nd : List Nat} (hp : H p = some (.lst (nL nd))) (hn : nd.length ≤ 8) (hx : x < nd.length) (ok : CntOk nd) : SpP (sp_places K) [.ref p, nV x] H (IsN (places nd x)) := fun _ e _ q _ => ⟨p, x, nd, rfl, e _ _ hp, hn, hx, ok, q⟩
theorem ok_places {f : Addr} {fd : FuncData} (F : Fun K "places" "places" s_places f fd) (T : Txt K mg) (D_count_orders : DefK P w K mg base "count_orders" 3 ["needed"] (sp_count_orders K)) (D_fraction : DefK P w K mg base "fraction" 2 ["top", "bottom"] (sp_fraction K)) (D_count_before : DefK P w K mg base "count_before" 4 ["needed", "a", "b"] (sp_count_before K))  : FnOk P w K mg base CX0 5 f fd ["needed", "sample"] (sp_places K) := by
  refine F.ok sc_places (fun vs H Q E h => ?_) (fun cdv A outer s H vs Q E hr h => ⟨_, (pss_cons (ps_set (i := 2) sc_places.nd rfl (Or.inl rfl) (pe_def D_count_orders hr (pa_cons (pv 0) pa_nil)))
        (pss_cons (ps_set (i := 3) sc_places.nd rfl (Or.inl rfl) pe_int)
        (pss_cons (ps_set (i := 4) sc_places.nd rfl (Or.inl rfl) (pe_callB call_len_seq (by rfl) T.len (by decide +kernel) (pa_cons (pv 0) pa_nil)))
        (pss_cons (ps_set (i := 5) sc_places.nd rfl (Or.inl rfl) (pv 2))
        (pss_cons (ps_for PassesOwn.never rfl (pi_range1 rfl T.range (pa_cons (pe_callB call_len_seq (by rfl) T.len (by decide +kernel) (pa_cons (pv 0) pa_nil)) pa_nil)) (pg_name (i := 6) sc_places.nd rfl (Or.inl rfl))
        (pss_one (ps_if (pt_cmpR op_ne (pv 6) (pv 1) (nomark _)) (pss_cons (ps_set (i := 7) sc_places.nd rfl (Or.inl rfl) (pe_def D_count_before hr (pa_cons (pv 0) (pa_cons (pv 6) (pa_cons (pv 1) pa_nil)))))
        (pss_cons (ps_aug (i := 5) sc_places.nd rfl (Or.inl rfl) (pv 7) ip_add)
        (pss_cons (ps_if (pt_cmpR op_eq (pv 7) (pv 2) (nomark _)) (pss_one (ps_aug (i := 3) sc_places.nd rfl (Or.inl rfl) pe_int ip_add)) pss_nil)
        (pss_one (ps_if (pt_cmpR op_eq (pv 7) pe_int (nomark _)) (pss_one (ps_aug (i := 4) sc_places.nd rfl (Or.inl rfl) pe_int ip_sub)) pss_nil))))) pss_nil)))
        (pss_one (ps_ret (pe_op op_cat (pe_lst (pa_cons (pv 3) (pa_cons (pv 4) pa_nil))) (pe_def D_fraction hr (pa_cons (pv 5) (pa_cons (pv 2) pa_nil))))))))))), ?_⟩)
  · obtain ⟨_, _, _, rfl, _⟩ := h
    rfl
  · obtain ⟨p, x, nd, rfl, hp, hn, hx, ok, k⟩ := h
    refine q_asg (c1 (v0 0 rfl) (sv_count_orders hp hn)) fun H1 e1 => ?_
    refine q_asg (e_n (a := 1) rfl) fun H2 e2 => ?_
    have e12 := e1.trans e2
    refine q_asg (e_lenL (v0 0 rfl) (SqL.of (e12 _ _ hp))) fun H3 e3 => ?_
    refine q_asg (v0 2 rfl) fun H4 e4 => ?_
    have e14 := e12.trans (e3.trans e4)
    refine q_R1 (e_lenL (v0 0 rfl) (SqL.of (e14 _ _ hp))) (by omega) (fun i σ' H' => ∃ v u, σ' = [some (.ref p), some (nV x), some (nV (cnt nd)), some (nV (placesAt nd x i).least), some (nV (nd.length - (placesAt nd x i).less)), some (nV (placesAt nd x i).together), v, u] ∧ Ex H H')
      (fun H5 e5 => ⟨none, none, rfl, e14.trans e5⟩) ?_ ?_
    · rintro i σ' H' hi ⟨v, u, rfl, e⟩
      have hless := placesAt_less nd x i
      refine s_when (et_test (ev_op (v0 6 rfl) (v0 1 rfl) r_ne)) (fun hb H5 e5 => ?_) (fun hb H5 e5 => ?_)
      · have hix : ¬ i = x := by
          intro z
          rw [decide_eq_true z] at hb
          cases hb
        refine q_asg (c3 (v0 0 rfl) (v0 6 rfl) (v0 1 rfl) (sv_count_before ((e.trans e5) _ _ hp) hn hi hx)) fun H6 e6 => ?_
        refine q_augN rfl (v0 7 rfl) fun H7 e7 => ?_
        have e57 := (e.trans e5).trans (e6.trans e7)
        have st : placesAt nd x (i + 1) = ⟨if cntB nd i x = cnt nd then (placesAt nd x i).least + 1 else (placesAt nd x i).least, if cntB nd i x = 0 then (placesAt nd x i).less + 1 else (placesAt nd x i).less, (placesAt nd x i).together + cntB nd i x⟩ := if_neg hix
        refine q_when (et_test (ev_op (v0 7 rfl) (v0 2 rfl) r_eq)) (fun hc H8 e8 => ?_) (fun hc H8 e8 => ?_)
        · have hc := of_decide_eq_true hc
          refine s_augN rfl (e_n (a := 1) rfl) fun H9 e9 => ?_
          refine s_when (et_test (ev_op (v0 7 rfl) (e_n (a := 0) rfl) r_eq)) (fun hd HA eA => ?_) (fun hd HA eA => ?_)
          · have hd := of_decide_eq_true hd
            refine s_aug rfl (e_n (a := 1) rfl) fun HB eB => ?_
            have ez : ((nd.length - (placesAt nd x i).less : Nat) : Int) - ((1 : Nat) : Int) = ((nd.length - ((placesAt nd x i).less + 1) : Nat) : Int) := by omega
            exact ⟨_, _, by rw [st, if_pos hc, if_pos hd, ez]; rfl, ((e57.trans e8).trans e9).trans (eA.trans eB)⟩
          · have hd := of_decide_eq_false hd
            exact ⟨_, _, by rw [st, if_pos hc, if_neg hd]; rfl, ((e57.trans e8).trans e9).trans eA⟩
        · have hc := of_decide_eq_false hc
          refine s_when (et_test (ev_op (v0 7 rfl) (e_n (a := 0) rfl) r_eq)) (fun hd HA eA => ?_) (fun hd HA eA => ?_)
          · have hd := of_decide_eq_true hd
            refine s_aug rfl (e_n (a := 1) rfl) fun HB eB => ?_
            have ez : ((nd.length - (placesAt nd x i).less : Nat) : Int) - ((1 : Nat) : Int) = ((nd.length - ((placesAt nd x i).less + 1) : Nat) : Int) := by omega
            exact ⟨_, _, by rw [st, if_neg hc, if_pos hd, ez]; rfl, (e57.trans e8).trans (eA.trans eB)⟩
          · have hd := of_decide_eq_false hd
            exact ⟨_, _, by rw [st, if_neg hc, if_neg hd]; rfl, (e57.trans e8).trans eA⟩
      · have hix : i = x := by
          have hb : (!decide (i = x)) = false := hb
          rw [Bool.not_eq_false'] at hb
          exact of_decide_eq_true hb
        have st : placesAt nd x (i + 1) = placesAt nd x i := if_pos hix
        exact ⟨_, _, by rw [st]; rfl, e.trans e5⟩
    · rintro σ' H' ⟨v, u, rfl, e⟩
      refine p_ret (p_new (p_cat (p_new (el_lst (ea_cons (v0 3 rfl) (ea_cons (v0 4 rfl) ea_nil)) (by show 2 ≤ 100000; decide))) (p_v2 (v0 5 rfl) (v0 2 rfl) (sv_fraction ok.1 ok.2)) (by show 2 + 2 ≤ sizeLine; decide))) fun v H5 e5 hv => k v H5 (e.trans e5) hv
/-! ### pairs that stay open -/
def TripO (ps : List (Nat × Nat × Nat)) : List HO := ps.map fun p => .tup [nV p.1, nV p.2.1, nV p.2.2]
theorem tripO_app (ps : List (Nat × Nat × Nat)) (p : Nat × Nat × Nat) : TripO (ps ++ [p]) = TripO ps ++ [.tup [nV p.1, nV p.2.1, nV p.2.2]] := by
  unfold TripO
  rw [List.map_append]
  rfl
theorem tripO_len (ps : List (Nat × Nat × Nat)) : (TripO ps).length = ps.length := List.length_map ..
theorem tripO_at {ps : List (Nat × Nat × Nat)} {i : Nat} {o : HO} (h : (TripO ps)[i]? = some o) : ∃ p, ps[i]? = some p ∧ o = .tup [nV p.1, nV p.2.1, nV p.2.2] := by
  unfold TripO at h
  rw [List.getElem?_map] at h
  cases e : ps[i]? with
  | none =>
    rw [e] at h
    cases h
  | some r =>
    rw [e] at h
    exact ⟨r, rfl, (Option.some.inj h).symm⟩
theorem openRow_len (nd : List Nat) (e a : Nat) (bs : List Nat) : (openRow nd e a bs).length ≤ bs.length := by
  unfold openRow
  rw [List.length_map]
  exact List.length_filter_le _ _
theorem openRow_snoc (nd : List Nat) (e a : Nat) (bs : List Nat) (b : Nat) : openRow nd e a (bs ++ [b]) = if isOpen nd e a b = true then openRow nd e a bs ++ [(a, b, cntB nd a b)] else openRow nd e a bs := by
  unfold openRow
  rw [List.filter_append, List.map_append, List.filter_cons]
  split
  · rfl
  · exact List.append_nil _
theorem openPairs_succ (nd : List Nat) (e i : Nat) : openPairs nd e (i + 1) = openPairs nd e i ++ openRow nd e i (above nd.length i) := by
  unfold openPairs
  rw [List.range_succ, List.flatMap_append, List.flatMap_singleton]
theorem openPairs_len {nd : List Nat} (e : Nat) (hn : nd.length ≤ 8) : ∀ i, (openPairs nd e i).length ≤ i * 8
  | 0 => Nat.zero_le _
  | i + 1 => by
    have h1 := openPairs_len e hn i
    have h2 := openRow_len nd e i (above nd.length i)
    unfold above at h2
    rw [List.length_range'] at h2
    rw [openPairs_succ, List.length_append]
    unfold above
    omega
theorem sc_open_pairs : FnScope ["needed", "every", "pairs", "a", "b", "before"] ["needed", "every"] (defScope s_open_pairs) := ⟨rfl, rfl, rfl, by decide +kernel, rfl, by decide +kernel, by decide +kernel⟩
def sp_open_pairs (_ : PySem.W.Frag) : Sp := fun vs H Q _ => ∃ (p : Addr) (ev : Nat) (nd : List Nat), vs = [.ref p, nV ev] ∧ H p = some (.lst (nL nd)) ∧ nd.length ≤ 8 ∧ RetP (IsR (TripO (openPairs nd ev nd.length))) H Q
theorem sv_open_pairs {H : Hp} {p : Addr} {ev : Nat} {nd : List Nat} (hp : H p = some (.lst (nL nd))) (hn : nd.length ≤ 8) : SpP (sp_open_pairs K) [.ref p, nV ev] H (IsR (TripO (openPairs nd ev nd.length))) := fun _ e _ q _ => ⟨p, ev, nd, rfl, e _ _ hp, hn, q⟩
theorem ok_open_pairs {f : Addr} {fd : FuncData} (F : Fun K "open_pairs" "open_pairs" s_open_pairs f fd) (T : Txt K mg) (D_count_before : DefK P w K mg base "count_before" 4 ["needed", "a", "b"] (sp_count_before K))  : FnOk P w K mg base CX0 5 f fd ["needed", "every"] (sp_open_pairs K) := by
  refine F.ok sc_open_pairs (fun vs H Q E h => ?_) (fun cdv A outer s H vs Q E hr h => ⟨_, (pss_cons (ps_set (i := 2) sc_open_pairs.nd rfl (Or.inl rfl) (pe_lst pa_nil))
        (pss_cons (ps_for PassesOwn.never rfl (pi_range1 rfl T.range (pa_cons (pe_callB call_len_seq (by rfl) T.len (by decide +kernel) (pa_cons (pv 0) pa_nil)) pa_nil)) (pg_name (i := 3) sc_open_pairs.nd rfl (Or.inl rfl))
        (pss_one (ps_for PassesOwn.never rfl (pi_range2 rfl T.range (pa_cons (pe_op op_add (pv 3) pe_int) (pa_cons (pe_callB call_len_seq (by rfl) T.len (by decide +kernel) (pa_cons (pv 0) pa_nil)) pa_nil))) (pg_name (i := 4) sc_open_pairs.nd rfl (Or.inl rfl))
        (pss_cons (ps_set (i := 5) sc_open_pairs.nd rfl (Or.inl rfl) (pe_def D_count_before hr (pa_cons (pv 0) (pa_cons (pv 3) (pa_cons (pv 4) pa_nil)))))
        (pss_one (ps_if (PW.pt (pw_and (pt_cmpR op_lt pe_int (pv 5) (nomark _)) (pw_and1 (pt_cmpR op_lt (pv 5) (pv 1) (nomark _))))) (pss_one (ps_expr (pe_bm PySem.F.plainAttrs_list PySem.F.slot_list_append PySem.F.type_list_append mt_append (pv 2) (pa_cons (pe_tup (pa_cons (pv 3) (pa_cons (pv 4) (pa_cons (pv 5) pa_nil)))) pa_nil)))) pss_nil))))))
        (pss_one (ps_ret (pv 2))))), ?_⟩)
  · obtain ⟨_, _, _, rfl, _⟩ := h
    rfl
  · obtain ⟨p, ev, nd, rfl, hp, hn, k⟩ := h
    refine q_nil fun l H1 hl e1 h1 => ?_
    refine q_R1 (e_lenL (v0 0 rfl) (SqL.of (e1 _ _ hp))) (by omega) (fun i σ' H' => ∃ v u z, σ' = [some (.ref p), some (nV ev), some (.ref l), v, u, z] ∧ Ex H H' ∧ Refs H' l (TripO (openPairs nd ev i))) (fun H2 e2 => ⟨none, none, none, rfl, e1.trans e2, (Refs.nil h1).mono e2⟩) ?_ ?_
    · rintro i σ' H' hi ⟨v, u, z, rfl, e, hacc⟩
      refine s_R2 (lo := i + 1) (ev_op (v0 3 rfl) (e_n (a := 1) rfl) r_add) (e_lenL (v0 0 rfl) (SqL.of (e _ _ hp))) (by omega) (by omega)
        (fun j σ' H' => ∃ u z, σ' = [some (.ref p), some (nV ev), some (.ref l), some (nV i), u, z] ∧ Ex H H' ∧ Refs H' l (TripO (openPairs nd ev i ++ openRow nd ev i (List.range' (i + 1) j))))
        (fun H2 e2 => ⟨u, z, rfl, e.trans e2, by rw [show openRow nd ev i (List.range' (i + 1) 0) = [] from rfl, List.append_nil]; exact hacc.mono e2⟩) ?_ ?_
      · rintro j σ2 H2 hj ⟨u2, z2, rfl, e2, hacc2⟩
        have hz := openPairs_len ev hn i
        have hz2 := openRow_len nd ev i (List.range' (i + 1) j)
        rw [List.length_range'] at hz2
        refine q_asg (c3 (v0 0 rfl) (v0 3 rfl) (v0 4 rfl) (sv_count_before (e2 _ _ hp) hn hi hj)) fun H3 e3 => ?_
        refine s_when (et_and (et_test (ev_op (e_n (a := 0) rfl) (v0 5 rfl) r_lt)) fun _ => et_test (ev_op (v0 5 rfl) (v0 1 rfl) r_lt)) (fun hb H4 e4 => ?_) (fun hb H4 e4 => ?_)
        · refine s_appT (hacc2.mono (e3.trans e4)) (v0 2 rfl) (eu_tup (ea_cons (v0 3 rfl) (ea_cons (v0 4 rfl) (ea_cons (v0 5 rfl) ea_nil))) (by show 3 ≤ 100000; decide)) (by rw [tripO_len, List.length_append, sizeLine_is]; omega) fun H5 up hr => ⟨_, _, rfl, up H (e2.trans (e3.trans e4)) hl, ?_⟩
          rw [List.range'_1_concat, openRow_snoc, if_pos (show isOpen nd ev i (i + 1 + j) = true from hb), ← List.append_assoc, tripO_app]
          exact hr
        · refine ⟨_, _, rfl, e2.trans (e3.trans e4), ?_⟩
          rw [List.range'_1_concat, openRow_snoc, if_neg (by rw [show isOpen nd ev i (i + 1 + j) = false from hb]; decide)]
          exact hacc2.mono (e3.trans e4)
      · rintro σ2 H2 ⟨u2, z2, rfl, e2, hacc2⟩
        refine ⟨_, _, _, rfl, e2, ?_⟩
        rw [openPairs_succ]
        exact hacc2
    · rintro σ' H' ⟨v, u, z, rfl, e, hacc⟩
      exact p_ret (p_of (P := IsR _) (v0 2 rfl) fun H1 e1 => ⟨l, rfl, hacc.mono e1⟩) fun v H2 e2 hv => k v H2 (e.trans e2) hv
/-- a walk over the list of objects that an expression gives -/
theorem s_forP {σ : L2.St} {H : Hp} {tl : TE} {g : TG} {tu : TS} {D : Ends} {os : List HO} (h : EvP tl σ H (IsR os)) (Pv : Hp → Nat → L2.St → Hp → Prop) (h0 : ∀ H1, Ex H H1 → Pv H1 0 σ H1) (hl : ∀ H1 i σ' H', Pv H1 i σ' H' → Ex H1 H')
    (hs : ∀ H1 (i : Nat) (a : Addr) (o : HO) σ' H', Ex H H1 → os[i]? = some o → H1 a = some o → Pv H1 i σ' H' → g (.ref a) σ' H' fun σ2 H2 => tu { D with nx := Pv H1 (i + 1), ct := Pv H1 (i + 1), bk := D.nx } σ2 H2) (hd : ∀ H1 σ' H', Ex H H1 → Pv H1 os.length σ' H' → D.nx σ' H') : tFor (iList K tl) g tu D σ H :=
  h H (Ex.refl H) _ fun v H1 e1 ⟨p, ev, hr⟩ => by
    obtain ⟨as, h1, _, h2, h3⟩ := id hr
    refine ⟨p, ev, ⟨as.map V.ref, SqL.of h2⟩, ?_⟩
    refine for_list (xs := as.map V.ref) (Pv H1) (h0 H1 e1) (fun i σ' H' _ q => SqL.of (hl H1 i σ' H' q _ _ h2)) (fun i x σ' H' hi q => ?_) (fun σ' H' q => hd H1 σ' H' e1 (by rw [List.length_map, h1] at q; exact q))
    rw [List.getElem?_map] at hi
    cases ha : as[i]? with
    | none =>
      rw [ha] at hi
      cases hi
    | some a =>
      rw [ha] at hi
      cases hi
      have hlt := (List.getElem?_eq_some_iff.mp ha).1
      have ho : os[i]? = some os[i] := List.getElem?_eq_getElem (by omega)
      exact hs H1 i a _ σ' H' e1 ho (h3 i a _ ha ho) q
theorem q_forP {σ : L2.St} {H : Hp} {tl : TE} {g : TG} {tu tz : TS} {D : Ends} {os : List HO} (h : EvP tl σ H (IsR os)) (Pv : Hp → Nat → L2.St → Hp → Prop) (h0 : ∀ H1, Ex H H1 → Pv H1 0 σ H1) (hl : ∀ H1 i σ' H', Pv H1 i σ' H' → Ex H1 H')
    (hs : ∀ H1 (i : Nat) (a : Addr) (o : HO) σ' H', Ex H H1 → os[i]? = some o → H1 a = some o → Pv H1 i σ' H' → g (.ref a) σ' H' fun σ2 H2 => tu { D with nx := Pv H1 (i + 1), ct := Pv H1 (i + 1), bk := tz D } σ2 H2) (hd : ∀ H1 σ' H', Ex H H1 → Pv H1 os.length σ' H' → tz D σ' H') : tSeq (tFor (iList K tl) g tu) tz D σ H :=
  s_forP (D := { D with nx := tz D }) h Pv h0 hl hs hd
def askAt (nd : List Nat) (i : Nat) : List Nat × Nat := ((openPairs nd (cnt nd) nd.length).take i).foldl (askStep (cnt nd)) ([], cnt nd)
theorem askAt_succ {nd : List Nat} {i : Nat} {x : Nat × Nat × Nat} (h : (openPairs nd (cnt nd) nd.length)[i]? = some x) : askAt nd (i + 1) = askStep (cnt nd) (askAt nd i) x := by
  unfold askAt
  rw [take_snoc h, List.foldl_append]
  rfl
theorem e_abs {σ : L2.St} {H : Hp} {te : TE} {i : Int} (h : Ev te σ H (.int i)) : Ev (tCB (fun xs H Q => ∃ i, xs = [.int i] ∧ Q (.int (if i < 0 then -i else i)) H) (tCons te tNil)) σ H (nV i.natAbs) := fun H1 e Q q =>
  h H1 e _ fun H2 e2 => ⟨i, rfl, by
    have ez : (if i < 0 then -i else i) = ((i.natAbs : Nat) : Int) := by split <;> omega
    show Q (.int (if i < 0 then -i else i)) H2
    rw [ez]
    exact q H2 e2⟩
theorem sc_pair_to_ask : FnScope ["needed", "every", "told", "nearest", "a", "b", "before", "off"] ["needed"] (defScope s_pair_to_ask) := ⟨rfl, rfl, rfl, by decide +kernel, rfl, by decide +kernel, by decide +kernel⟩
def sp_pair_to_ask (_ : PySem.W.Frag) : Sp := fun vs H Q _ => ∃ (p : Addr) (nd : List Nat), vs = [.ref p] ∧ H p = some (.lst (nL nd)) ∧ nd.length ≤ 8 ∧ CntOk nd ∧ RetP (IsN (pairToAsk nd)) H Q
theorem sv_pair_to_ask {H : Hp} {p : Addr} {nd : List Nat} (hp : H p = some (.lst (nL nd))) (hn : nd.length ≤ 8) (ok : CntOk nd) : SpP (sp_pair_to_ask K) [.ref p] H (IsN (pairToAsk nd)) := fun _ e _ q _ => ⟨p, nd, rfl, e _ _ hp, hn, ok, q⟩
theorem ok_pair_to_ask {f : Addr} {fd : FuncData} (F : Fun K "pair_to_ask" "pair_to_ask" s_pair_to_ask f fd) (T : Txt K mg) (D_count_orders : DefK P w K mg base "count_orders" 3 ["needed"] (sp_count_orders K)) (D_open_pairs : DefK P w K mg base "open_pairs" 5 ["needed", "every"] (sp_open_pairs K)) (D_fraction : DefK P w K mg base "fraction" 2 ["top", "bottom"] (sp_fraction K))  : FnOk P w K mg base CX0 6 f fd ["needed"] (sp_pair_to_ask K) := by
  refine F.ok sc_pair_to_ask (fun vs H Q E h => ?_) (fun cdv A outer s H vs Q E hr h => ⟨_, (pss_cons (ps_set (i := 1) sc_pair_to_ask.nd rfl (Or.inl rfl) (pe_def D_count_orders hr (pa_cons (pv 0) pa_nil)))
        (pss_cons (ps_set (i := 2) sc_pair_to_ask.nd rfl (Or.inl rfl) (pe_lst pa_nil))
        (pss_cons (ps_set (i := 3) sc_pair_to_ask.nd rfl (Or.inl rfl) (pv 1))
        (pss_cons (ps_for PassesOwn.never rfl (pi_list (pe_def D_open_pairs hr (pa_cons (pv 0) (pa_cons (pv 1) pa_nil)))) (pg_tup rfl (pgs_cons (pg_name (i := 4) sc_pair_to_ask.nd rfl (Or.inl rfl)) (pgs_cons (pg_name (i := 5) sc_pair_to_ask.nd rfl (Or.inl rfl)) (pgs_cons (pg_name (i := 6) sc_pair_to_ask.nd rfl (Or.inl rfl)) pgs_nil))))
        (pss_cons (ps_set (i := 7) sc_pair_to_ask.nd rfl (Or.inl rfl) (pe_callB call_abs (by rfl) T.abs (by decide +kernel) (pa_cons (pe_op op_sub (pe_op op_mul pe_int (pv 6)) (pv 1)) pa_nil)))
        (pss_one (ps_if (pt_cmpR op_lt (pv 7) (pv 3) (nomark _)) (pss_cons (ps_set (i := 3) sc_pair_to_ask.nd rfl (Or.inl rfl) (pv 7))
        (pss_one (ps_set (i := 2) sc_pair_to_ask.nd rfl (Or.inl rfl) (pe_op op_cat (pe_lst (pa_cons (pv 4) (pa_cons (pv 5) pa_nil))) (pe_def D_fraction hr (pa_cons (pv 6) (pa_cons (pv 1) pa_nil))))))) pss_nil))))
        (pss_one (ps_ret (pv 2))))))), ?_⟩)
  · obtain ⟨_, _, rfl, _⟩ := h
    rfl
  · obtain ⟨p, nd, rfl, hp, hn, ok, k⟩ := h
    refine q_asg (c1 (v0 0 rfl) (sv_count_orders hp hn)) fun H1 e1 => ?_
    refine q_nil fun l H2 hl e2 h2 => ?_
    refine q_asg (v0 1 rfl) fun H3 e3 => ?_
    have e13 := (e1.trans e2).trans e3
    refine q_forP (p_v2 (v0 0 rfl) (v0 1 rfl) (sv_open_pairs (e13 _ _ hp) hn)) (fun Hb i σ' H' => ∃ t v u z y, σ' = [some (.ref p), some (nV (cnt nd)), some (.ref t), some (nV (askAt nd i).2), v, u, z, y] ∧ Ex Hb H' ∧ H' t = some (.lst (nL (askAt nd i).1)))
      (fun H4 e4 => ⟨l, none, none, none, none, rfl, Ex.refl _, e4 _ _ (e3 _ _ h2)⟩) (fun Hb i σ' H' ⟨_, _, _, _, _, _, e, _⟩ => e) ?_ ?_
    · rintro Hb i a o σ' H' eb ho ha ⟨t, v, u, z, y, rfl, e, ht⟩
      obtain ⟨x, hx, rfl⟩ := tripO_at ho
      refine ⟨a, _, rfl, SqT.of (e _ _ ha), rfl, _, _, rfl, _, _, rfl, _, _, rfl, rfl, ?_⟩
      have st := askAt_succ hx
      refine q_asg (e_abs (ev_op (ev_op (ev_is (v := nV 2) (e_n (a := 2) rfl) rfl) (v0 6 rfl) (r_mul (Or.inl (by decide)))) (v0 1 rfl) rv_I0)) fun H5 e5 => ?_
      have ez : (((2 * x.2.2 : Nat) : Int) - ((cnt nd : Nat) : Int)).natAbs = offOf x.2.2 (cnt nd) := by
        unfold offOf
        omega
      rw [ez]
      refine s_when (et_test (ev_op (v0 7 rfl) (v0 3 rfl) r_lt)) (fun hb H6 e6 => ?_) (fun hb H6 e6 => ?_)
      · have hb := of_decide_eq_true hb
        refine q_asg (v0 7 rfl) fun H7 e7 => ?_
        refine p_asg (p_new (p_cat (p_new (el_lst (ea_cons (v0 4 rfl) (ea_cons (v0 5 rfl) ea_nil)) (by show 2 ≤ 100000; decide))) (p_v2 (v0 6 rfl) (v0 1 rfl) (sv_fraction ok.1 ok.2)) (by show 2 + 2 ≤ sizeLine; decide))) ?_
        rintro _ H8 e8 ⟨t2, rfl, h8⟩
        have st2 : askAt nd (i + 1) = ([x.1, x.2.1] ++ fraction x.2.2 (cnt nd), offOf x.2.2 (cnt nd)) := st.trans (if_pos hb)
        refine ⟨t2, _, _, _, _, by rw [st2]; rfl, (e.trans e5).trans (e6.trans (e7.trans e8)), ?_⟩
        rw [st2]
        exact h8
      · have hb := of_decide_eq_false hb
        have st2 : askAt nd (i + 1) = askAt nd i := st.trans (if_neg hb)
        refine ⟨t, _, _, _, _, by rw [st2]; rfl, (e.trans e5).trans e6, ?_⟩
        rw [st2]
        exact e6 _ _ (e5 _ _ ht)
    · rintro Hb σ' H' eb ⟨t, v, u, z, y, rfl, e, ht⟩
      have ez : (askAt nd (TripO (openPairs nd (cnt nd) nd.length)).length).1 = pairToAsk nd := by
        unfold askAt pairToAsk
        rw [tripO_len, List.take_length]
      rw [ez] at ht
      exact p_ret (p_of (P := IsN (pairToAsk nd)) (v0 2 rfl) fun H4 e4 => ⟨t, rfl, e4 _ _ ht⟩) fun v H5 e5 hv => k v H5 (e13.trans (eb.trans (e.trans e5))) hv
end
end Np
set_option Elab.async false
set_option linter.all false
set_option maxRecDepth 100000
set_option maxHeartbeats 4000000
namespace Np
open PySem PySem.Spec PyProof.Rows L2 Evl
/-! ### the panel as it lies in the heap -/
structure NS where
  a : Addr
  l : Addr
  rows : List Addr
structure SK where
  ln : Addr
  lt : Addr
  ns : List NS
  ts : List Addr
def nF (l : Addr) (w : V) : List (Str × V) := [("said", .ref l), ("weight", w)]
def pF (n : V) (ln lt : Addr) : List (Str × V) := [("samples", n), ("noses", .ref ln), ("trials", .ref lt)]
theorem lk1 {k : Str} {v : V} {r : List (Str × V)} : List.lookup k ((k, v) :: r) = some v := by
  have e : (k == k) = true := beq_self_eq_true k
  simp only [List.lookup, e]
theorem lk2 {k g : Str} {v : V} {r : List (Str × V)} (h : (k == g) = false) : List.lookup k ((g, v) :: r) = List.lookup k r := by
  simp only [List.lookup, h]
theorem nF_said (l : Addr) (w : V) : (nF l w).lookup ("said" : Str) = some (.ref l) := lk1
theorem nF_weight (l : Addr) (w : V) : (nF l w).lookup ("weight" : Str) = some w := (lk2 (by decide +kernel)).trans lk1
theorem pF_samples (n : V) (ln lt : Addr) : (pF n ln lt).lookup ("samples" : Str) = some n := lk1
theorem pF_noses (n : V) (ln lt : Addr) : (pF n ln lt).lookup ("noses" : Str) = some (.ref ln) := (lk2 (by decide +kernel)).trans lk1
theorem pF_trials (n : V) (ln lt : Addr) : (pF n ln lt).lookup ("trials" : Str) = some (.ref lt) := (lk2 (by decide +kernel)).trans ((lk2 (by decide +kernel)).trans lk1)
structure NoseAt (K : PySem.W.Frag) (H : Hp) (q : NS) (n : Nat) (x : MN) : Prop where
  ob : ∃ dx, H q.a = some (.ins (CNose K) dx (nF q.l (nV x.weight)))
  li : H q.l = some (.lst (q.rows.map V.ref))
  len : q.rows.length = n
  rw_ : ∀ (i : Nat) (r : Addr), q.rows[i]? = some r → H r = some (.lst (row n (x.said i)))
  out : q.l ∉ q.rows
def MTup (t : MT) : HO := .tup [nV t.nose, nV t.a, nV t.b, nV t.right]
structure PanelAt (K : PySem.W.Frag) (H : Hp) (p : Addr) (s : MS) (k : SK) : Prop where
  ob : ∃ dx, H p = some (.ins (CPanel K) dx (pF (nV s.n) k.ln k.lt))
  hn : H k.ln = some (.lst (k.ns.map fun q => V.ref q.a))
  ln : k.ns.length = s.noses.length
  nose : ∀ (i : Nat) (q : NS) (x : MN), k.ns[i]? = some q → s.noses[i]? = some x → NoseAt K H q s.n x
  ht : H k.lt = some (.lst (k.ts.map V.ref))
  lt : k.ts.length = s.trials.length
  trial : ∀ (i : Nat) (a : Addr) (t : MT), k.ts[i]? = some a → s.trials[i]? = some t → H a = some (MTup t)
  dis : ∀ (i j : Nat) (q r : NS), k.ns[i]? = some q → k.ns[j]? = some r → i ≠ j → q.a ≠ r.a ∧ ∀ b ∈ q.l :: q.rows, b ∉ r.l :: r.rows
  own : ∀ (i : Nat) (q : NS), k.ns[i]? = some q → q.rows.Nodup ∧ k.ln ∉ q.l :: q.rows ∧ k.lt ∉ q.l :: q.rows ∧ p ≠ q.a
  lls : k.ln ≠ k.lt
structure MOk (s : MS) : Prop where
  n : s.n ≤ 8
  noses : s.noses.length ≤ 8
  weight : ∀ x ∈ s.noses, x.weight ≤ 9
  trials : s.trials.length ≤ 36
  right : ∀ t ∈ s.trials, t.right ≤ 1
theorem NoseAt.mono {K : PySem.W.Frag} {H H' : Hp} {q : NS} {n : Nat} {x : MN} (e : Ex H H') (h : NoseAt K H q n x) : NoseAt K H' q n x :=
  ⟨let ⟨dx, a⟩ := h.ob; ⟨dx, e _ _ a⟩, e _ _ h.li, h.len, fun i r a => e _ _ (h.rw_ i r a), h.out⟩
theorem PanelAt.mono {K : PySem.W.Frag} {H H' : Hp} {p : Addr} {s : MS} {k : SK} (e : Ex H H') (h : PanelAt K H p s k) : PanelAt K H' p s k :=
  ⟨let ⟨dx, a⟩ := h.ob; ⟨dx, e _ _ a⟩, e _ _ h.hn, h.ln, fun i q x a b => (h.nose i q x a b).mono e, e _ _ h.ht, h.lt, fun i a t x y => e _ _ (h.trial i a t x y), h.dis, h.own, h.lls⟩
theorem NoseAt.mat {K : PySem.W.Frag} {H : Hp} {q : NS} {n : Nat} {x : MN} (h : NoseAt K H q n x) : Mat H q.l n x.said := by
  refine ⟨q.rows, by rw [matO_len, h.len], h.out, h.li, fun i a o ha ho => ?_⟩
  have hi : i < n := by
    have := (List.getElem?_eq_some_iff.mp ho).1
    rw [matO_len] at this
    exact this
  rw [matO_at hi] at ho
  cases ho
  exact h.rw_ i a ha
theorem PanelAt.at_ {K : PySem.W.Frag} {H : Hp} {p : Addr} {s : MS} {k : SK} (h : PanelAt K H p s k) {i : Nat} (hi : i < s.noses.length) : ∃ q, k.ns[i]? = some q ∧ (k.ns.map fun q => V.ref q.a)[i]? = some (.ref q.a) ∧ s.noses[i]? = some (noseAt s i) ∧ NoseAt K H q s.n (noseAt s i) := by
  have hk : i < k.ns.length := by rw [h.ln]; exact hi
  have e : s.noses[i]? = some (noseAt s i) := by
    unfold noseAt
    rw [List.getD_eq_getElem?_getD, List.getElem?_eq_getElem hi]
    rfl
  exact ⟨k.ns[i], List.getElem?_eq_getElem hk, by rw [List.getElem?_map, List.getElem?_eq_getElem hk]; rfl, e, h.nose i _ _ (List.getElem?_eq_getElem hk) e⟩
section
variable {K : PySem.W.Frag} {mg : Str → Option Value} {σ : L2.St} {H H' : Hp} {ta tb tc td te : TE} {p : Addr} {s : MS} {k : SK} {q : NS} {n : Nat} {x : MN}
theorem e_fld {a C dx : Addr} {fs : List (Str × V)} {f : Str} {v : V} (ha : Ev ta σ H (.ref a)) (h : H a = some (.ins C dx fs)) (c : Cls K C) (m : NoAttr K C f) (l : fs.lookup f = some v) : Ev (tFld K ta f) σ H v := fun H1 e Q g =>
  ha H1 e _ fun H2 e2 => ⟨a, C, dx, fs, v, rfl, e2 _ _ (e _ _ h), c, m, l, g H2 e2⟩
theorem e_said (T : Txt K mg) (ha : Ev ta σ H (.ref q.a)) (h : NoseAt K H q n x) : Ev (tFld K ta "said") σ H (.ref q.l) := let ⟨_, o⟩ := h.ob; e_fld ha o T.k_Nose T.a_said (nF_said _ _)
theorem e_weight (T : Txt K mg) (ha : Ev ta σ H (.ref q.a)) (h : NoseAt K H q n x) : Ev (tFld K ta "weight") σ H (nV x.weight) := let ⟨_, o⟩ := h.ob; e_fld ha o T.k_Nose T.a_weight (nF_weight _ _)
theorem e_samples (T : Txt K mg) (ha : Ev ta σ H (.ref p)) (h : PanelAt K H p s k) : Ev (tFld K ta "samples") σ H (nV s.n) := let ⟨_, o⟩ := h.ob; e_fld ha o T.k_Panel T.a_samples (pF_samples _ _ _)
theorem e_noses (T : Txt K mg) (ha : Ev ta σ H (.ref p)) (h : PanelAt K H p s k) : Ev (tFld K ta "noses") σ H (.ref k.ln) := let ⟨_, o⟩ := h.ob; e_fld ha o T.k_Panel T.a_noses (pF_noses _ _ _)
theorem e_trials (T : Txt K mg) (ha : Ev ta σ H (.ref p)) (h : PanelAt K H p s k) : Ev (tFld K ta "trials") σ H (.ref k.lt) := let ⟨_, o⟩ := h.ob; e_fld ha o T.k_Panel T.a_trials (pF_trials _ _ _)
/-- nose.said[a][b] -/
theorem e_saidAt (T : Txt K mg) {i j : Nat} (ha : Ev ta σ H (.ref q.a)) (h : NoseAt K H q n x) (hb : Ev tb σ H (nV i)) (hc : Ev tc σ H (nV j)) (hi : i < n) (hj : j < n) : Ev (tOp (rIxL K) (tOp (rIxL K) (tFld K ta "said") tb) tc) σ H (nV (x.said i j)) :=
  e_mx (e_said T ha h) h.mat hb hc hi hj
theorem e_lenNoses (T : Txt K mg) (ha : Ev ta σ H (.ref p)) (h : PanelAt K H p s k) : Ev (tCB (rLenS K) (tCons (tFld K ta "noses") tNil)) σ H (nV s.noses.length) := e_len (e_noses T ha h) (SqL.of h.hn) (by rw [List.length_map, h.ln])
theorem e_lenTrials (T : Txt K mg) (ha : Ev ta σ H (.ref p)) (h : PanelAt K H p s k) : Ev (tCB (rLenS K) (tCons (tFld K ta "trials") tNil)) σ H (nV s.trials.length) := e_len (e_trials T ha h) (SqL.of h.ht) (by rw [List.length_map, h.lt])
/-- panel.noses[i] -/
theorem e_nose (T : Txt K mg) {i : Nat} (ha : Ev ta σ H (.ref p)) (h : PanelAt K H p s k) (hb : Ev tb σ H (nV i)) (hq : (k.ns.map fun q => V.ref q.a)[i]? = some (.ref q.a)) : Ev (tOp (rIxL K) (tFld K ta "noses") tb) σ H (.ref q.a) :=
  ev_op (e_noses T ha h) hb (rv_ixL (SqL.of h.hn) (atI_nat hq))
end
section
variable {P : Program} {w : World} {K : PySem.W.Frag} {mg : Str → Option Value} {base : Heap}
theorem sc_within : FnScope ["number", "least", "most"] ["number", "least", "most"] (defScope s_within) := ⟨rfl, rfl, rfl, by decide +kernel, rfl, by decide +kernel, by decide +kernel⟩
def sp_within (_ : PySem.W.Frag) : Sp := fun vs H Q _ => ∃ x lo hi : Nat, vs = [nV x, nV lo, nV hi] ∧ RetV (.bl (decide (lo ≤ x) && decide (x ≤ hi))) H Q
theorem sv_within {H : Hp} {x lo hi : Nat} : SpV (sp_within K) [nV x, nV lo, nV hi] H (.bl (decide (lo ≤ x) && decide (x ≤ hi))) := fun _ _ _ q _ => ⟨x, lo, hi, rfl, q⟩
theorem ok_within {f : Addr} {fd : FuncData} (F : Fun K "within" "within" s_within f fd) (T : Txt K mg)   : FnOk P w K mg base CX0 1 f fd ["number", "least", "most"] (sp_within K) := by
  refine F.ok sc_within (fun vs H Q E h => ?_) (fun cdv A outer s H vs Q E hr h => ⟨_, (pss_one (ps_ret (pe_and (pe_cmpR op_le (pv 1) (pv 0) (nomark _)) (pe_one (pe_cmpR op_le (pv 0) (pv 2) (nomark _)))))), ?_⟩)
  · obtain ⟨_, _, _, rfl, _⟩ := h
    rfl
  · obtain ⟨x, lo, hi, rfl, k⟩ := h
    exact s_ret (ev_andV (ev_op (v0 1 rfl) (v0 0 rfl) r_le) fun _ => ev_op (v0 0 rfl) (v0 2 rfl) r_le) k
/-- an answer -/
def IsF (H : Hp) (l : List Int) : VP := fun v H1 => ∃ p, v = .ref p ∧ H p = none ∧ H1 p = some (.lst (iL l))
theorem IsF.back {H Hc H1 : Hp} {l : List Int} {v : V} (h : IsF Hc l v H1) (e : Ex H Hc) : IsF H l v H1 := let ⟨p, a, b, c⟩ := h; ⟨p, a, fresh_back e b, c⟩
theorem p_newF {σ : L2.St} {H : Hp} {te : TE} {l : List Int} (h : EvL te σ H (iL l)) : EvP te σ H (IsF H l) := fun H1 e Q q => h H1 e Q fun p H2 hp e2 h2 => q _ H2 e2 ⟨p, rfl, fresh_back e hp, h2⟩
theorem SpP.back {sp : Sp} {vs : List V} {H Hc : Hp} {l : List Int} (h : SpP sp vs Hc (IsF Hc l)) (e : Ex H Hc) : SpP sp vs Hc (IsF H l) := fun H1 e1 Q q E => h H1 e1 Q (fun v H2 e2 hv => q v H2 e2 (hv.back e)) E
theorem sc_refused : FnScope ["why"] ["why"] (defScope s_refused) := ⟨rfl, rfl, rfl, by decide +kernel, rfl, by decide +kernel, by decide +kernel⟩
def sp_refused (_ : PySem.W.Frag) : Sp := fun vs H Q _ => ∃ z : Int, vs = [.int z] ∧ RetP (IsF H (no z)) H Q
theorem sv_refused {H : Hp} {z : Int} : SpP (sp_refused K) [.int z] H (IsF H (no z)) := fun _ e _ q _ => ⟨z, rfl, fun v H2 e2 hv => q v H2 e2 (hv.back e)⟩
theorem ok_refused {f : Addr} {fd : FuncData} (F : Fun K "refused" "refused" s_refused f fd) (T : Txt K mg)   : FnOk P w K mg base CX0 1 f fd ["why"] (sp_refused K) := by
  refine F.ok sc_refused (fun vs H Q E h => ?_) (fun cdv A outer s H vs Q E hr h => ⟨_, (pss_one (ps_ret (pe_lst (pa_cons (pv 0) pa_nil)))), ?_⟩)
  · obtain ⟨_, rfl, _⟩ := h
    rfl
  · obtain ⟨z, rfl, k⟩ := h
    exact p_ret (p_newF (l := no z) (el_lst (ea_cons (v0 0 rfl) ea_nil) (by show 1 ≤ 100000; decide))) k
theorem yes_iL (l : List Nat) : nL [0] ++ nL l = iL (yes l) := by
  show nV 0 :: l.map nV = V.int 0 :: (l.map fun (n : Nat) => (n : Int)).map V.int
  rw [List.map_map]
  rfl
theorem sc_answered : FnScope ["numbers"] ["numbers"] (defScope s_answered) := ⟨rfl, rfl, rfl, by decide +kernel, rfl, by decide +kernel, by decide +kernel⟩
def sp_answered (_ : PySem.W.Frag) : Sp := fun vs H Q _ => ∃ (p : Addr) (l : List Nat), vs = [.ref p] ∧ H p = some (.lst (nL l)) ∧ l.length ≤ 1000 ∧ RetP (IsF H (yes l)) H Q
theorem sv_answered {H : Hp} {p : Addr} {l : List Nat} (h : H p = some (.lst (nL l))) (hl : l.length ≤ 1000) : SpP (sp_answered K) [.ref p] H (IsF H (yes l)) := fun _ e _ q _ => ⟨p, l, rfl, e _ _ h, hl, fun v H2 e2 hv => q v H2 e2 (hv.back e)⟩
theorem ok_answered {f : Addr} {fd : FuncData} (F : Fun K "answered" "answered" s_answered f fd) (T : Txt K mg)   : FnOk P w K mg base CX0 1 f fd ["numbers"] (sp_answered K) := by
  refine F.ok sc_answered (fun vs H Q E h => ?_) (fun cdv A outer s H vs Q E hr h => ⟨_, (pss_one (ps_ret (pe_op op_cat (pe_lst (pa_cons pe_int pa_nil)) (pv 0)))), ?_⟩)
  · obtain ⟨_, _, rfl, _⟩ := h
    rfl
  · obtain ⟨p, l, rfl, hp, hl, k⟩ := h
    exact p_ret (p_newF (l := yes l) (by rw [← yes_iL]; exact p_cat (p_new (el_lst (ea_cons (e_n (a := 0) rfl) ea_nil) (by show 1 ≤ 100000; decide))) (p_var rfl hp) (by rw [nL_len, nL_len, sizeLine_is]; show 1 + l.length ≤ _; omega))) k
/-- answered(..) of a list by what is true of it -/
theorem p_answered {σ : L2.St} {H : Hp} {ta : TE} {E : XK} {l : List Nat} (h : EvP ta σ H (IsN l)) (hl : l.length ≤ 1000) : EvP (tCall (sp_answered K) [] E (tCons ta tNil)) σ H (IsF H (yes l)) :=
  p_c1 h fun v H1 e ⟨p, ev, hp⟩ => by
    rw [ev]
    exact (sv_answered hp hl).back e
/-! ### the panel's own questions -/
theorem sc_nose_refusal : FnScope ["panel", "nose"] ["panel", "nose"] (defScope s_nose_refusal) := ⟨rfl, rfl, rfl, by decide +kernel, rfl, by decide +kernel, by decide +kernel⟩
def sp_nose_refusal (K : PySem.W.Frag) : Sp := fun vs H Q _ => ∃ (p : Addr) (h : Nat) (s : MS) (k : SK), vs = [.ref p, nV h] ∧ PanelAt K H p s k ∧ RetV (.int (noseNo s h)) H Q
theorem sv_nose_refusal {H : Hp} {p : Addr} {h : Nat} {s : MS} {k : SK} (hP : PanelAt K H p s k) : SpV (sp_nose_refusal K) [.ref p, nV h] H (.int (noseNo s h)) := fun _ e _ q _ => ⟨p, h, s, k, rfl, hP.mono e, q⟩
theorem ok_nose_refusal {f : Addr} {fd : FuncData} (F : Fun K "nose_refusal" "nose_refusal" s_nose_refusal f fd) (T : Txt K mg)   : FnOk P w K mg base CX0 1 f fd ["panel", "nose"] (sp_nose_refusal K) := by
  refine F.ok sc_nose_refusal (fun vs H Q E h => ?_) (fun cdv A outer s H vs Q E hr h => ⟨_, (pss_cons (ps_if (pt_cmpR op_ge (pv 1) (pe_callB call_len_seq (by rfl) T.len (by decide +kernel) (pa_cons (pe_fld (pv 0) rfl) pa_nil)) (nomark _)) (pss_one (ps_ret (pe_const T.c_NOT_THERE))) pss_nil)
        (pss_one (ps_ret (pe_const T.c_ALL_WELL)))), ?_⟩)
  · obtain ⟨_, _, _, _, rfl, _⟩ := h
    rfl
  · obtain ⟨p, h, s, k, rfl, hP, r⟩ := h
    refine q_when (et_test (ev_op (v0 1 rfl) (e_lenNoses T (v0 0 rfl) hP) r_ge)) (fun hb H1 e1 => ?_) (fun hb H1 e1 => ?_)
    · rw [show noseNo s h = -3 from if_pos (of_decide_eq_true hb)] at r
      exact s_ret ev_c fun H2 e2 => r H2 (e1.trans e2)
    · rw [show noseNo s h = 0 from if_neg (of_decide_eq_false hb)] at r
      exact s_ret ev_c fun H2 e2 => r H2 (e1.trans e2)
theorem sc_pair_refusal : FnScope ["panel", "a", "b"] ["panel", "a", "b"] (defScope s_pair_refusal) := ⟨rfl, rfl, rfl, by decide +kernel, rfl, by decide +kernel, by decide +kernel⟩
def sp_pair_refusal (K : PySem.W.Frag) : Sp := fun vs H Q _ => ∃ (p : Addr) (a b : Nat) (s : MS) (k : SK), vs = [.ref p, nV a, nV b] ∧ PanelAt K H p s k ∧ RetV (.int (pairNo s a b)) H Q
theorem sv_pair_refusal {H : Hp} {p : Addr} {a b : Nat} {s : MS} {k : SK} (hP : PanelAt K H p s k) : SpV (sp_pair_refusal K) [.ref p, nV a, nV b] H (.int (pairNo s a b)) := fun _ e _ q _ => ⟨p, a, b, s, k, rfl, hP.mono e, q⟩
theorem ok_pair_refusal {f : Addr} {fd : FuncData} (F : Fun K "pair_refusal" "pair_refusal" s_pair_refusal f fd) (T : Txt K mg)   : FnOk P w K mg base CX0 1 f fd ["panel", "a", "b"] (sp_pair_refusal K) := by
  refine F.ok sc_pair_refusal (fun vs H Q E h => ?_) (fun cdv A outer s H vs Q E hr h => ⟨_, (pss_cons (ps_if (PW.pt (pw_or (pt_cmpR op_ge (pv 1) (pe_fld (pv 0) rfl) (nomark _)) (pw_or1 (pt_cmpR op_ge (pv 2) (pe_fld (pv 0) rfl) (nomark _))))) (pss_one (ps_ret (pe_const T.c_NOT_THERE))) pss_nil)
        (pss_cons (ps_if (pt_cmpR op_eq (pv 1) (pv 2) (nomark _)) (pss_one (ps_ret (pe_const T.c_CANNOT_BE))) pss_nil)
        (pss_one (ps_ret (pe_const T.c_ALL_WELL))))), ?_⟩)
  · obtain ⟨_, _, _, _, _, rfl, _⟩ := h
    rfl
  · obtain ⟨p, a, b, s, k, rfl, hP, r⟩ := h
    refine q_when (et_or (et_test (ev_op (v0 1 rfl) (e_samples T (v0 0 rfl) hP) r_ge)) fun _ => et_test (ev_op (v0 2 rfl) (e_samples T (v0 0 rfl) hP) r_ge)) (fun hb H1 e1 => ?_) (fun hb H1 e1 => ?_)
    · have hb2 : s.n ≤ a ∨ s.n ≤ b := by simpa using hb
      rw [show pairNo s a b = -3 from if_pos hb2] at r
      exact s_ret ev_c fun H2 e2 => r H2 (e1.trans e2)
    · have hb2 : ¬ (s.n ≤ a ∨ s.n ≤ b) := fun z => by
        have z2 : (decide (s.n ≤ a) || decide (s.n ≤ b)) = true := by simpa using z
        rw [z2] at hb
        cases hb
      refine q_when (et_test (ev_op (v0 1 rfl) (v0 2 rfl) r_eq)) (fun hc H2 e2 => ?_) (fun hc H2 e2 => ?_)
      · rw [show pairNo s a b = -4 from (if_neg hb2).trans (if_pos (of_decide_eq_true hc))] at r
        exact s_ret ev_c fun H3 e3 => r H3 (e1.trans (e2.trans e3))
      · rw [show pairNo s a b = 0 from (if_neg hb2).trans (if_neg (of_decide_eq_false hc))] at r
        exact s_ret ev_c fun H3 e3 => r H3 (e1.trans (e2.trans e3))
theorem sc_nose_pair_refusal : FnScope ["panel", "nose", "a", "b"] ["panel", "nose", "a", "b"] (defScope s_nose_pair_refusal) := ⟨rfl, rfl, rfl, by decide +kernel, rfl, by decide +kernel, by decide +kernel⟩
def sp_nose_pair_refusal (K : PySem.W.Frag) : Sp := fun vs H Q _ => ∃ (p : Addr) (h a b : Nat) (s : MS) (k : SK), vs = [.ref p, nV h, nV a, nV b] ∧ PanelAt K H p s k ∧ RetV (.int (nosePairNo s h a b)) H Q
theorem sv_nose_pair_refusal {H : Hp} {p : Addr} {h a b : Nat} {s : MS} {k : SK} (hP : PanelAt K H p s k) : SpV (sp_nose_pair_refusal K) [.ref p, nV h, nV a, nV b] H (.int (nosePairNo s h a b)) := fun _ e _ q _ => ⟨p, h, a, b, s, k, rfl, hP.mono e, q⟩
theorem ok_nose_pair_refusal {f : Addr} {fd : FuncData} (F : Fun K "nose_pair_refusal" "nose_pair_refusal" s_nose_pair_refusal f fd) (T : Txt K mg) (D_pair_refusal : DefK P w K mg base "pair_refusal" 1 ["panel", "a", "b"] (sp_pair_refusal K))  : FnOk P w K mg base CX0 2 f fd ["panel", "nose", "a", "b"] (sp_nose_pair_refusal K) := by
  refine F.ok sc_nose_pair_refusal (fun vs H Q E h => ?_) (fun cdv A outer s H vs Q E hr h => ⟨_, (pss_cons (ps_if (pt_cmpR op_ge (pv 1) (pe_callB call_len_seq (by rfl) T.len (by decide +kernel) (pa_cons (pe_fld (pv 0) rfl) pa_nil)) (nomark _)) (pss_one (ps_ret (pe_const T.c_NOT_THERE))) pss_nil)
        (pss_one (ps_ret (pe_def D_pair_refusal hr (pa_cons (pv 0) (pa_cons (pv 2) (pa_cons (pv 3) pa_nil))))))), ?_⟩)
  · obtain ⟨_, _, _, _, _, _, rfl, _⟩ := h
    rfl
  · obtain ⟨p, h, a, b, s, k, rfl, hP, r⟩ := h
    refine q_when (et_test (ev_op (v0 1 rfl) (e_lenNoses T (v0 0 rfl) hP) r_ge)) (fun hb H1 e1 => ?_) (fun hb H1 e1 => ?_)
    · rw [show nosePairNo s h a b = -3 from if_pos (of_decide_eq_true hb)] at r
      exact s_ret ev_c fun H2 e2 => r H2 (e1.trans e2)
    · rw [show nosePairNo s h a b = pairNo s a b from if_neg (of_decide_eq_false hb)] at r
      exact s_ret (c3 (v0 0 rfl) (v0 2 rfl) (v0 3 rfl) (sv_pair_refusal (hP.mono e1))) fun H2 e2 => r H2 (e1.trans e2)
theorem sc_has_said : FnScope ["nose", "a", "b"] ["nose", "a", "b"] (defScope s_has_said) := ⟨rfl, rfl, rfl, by decide +kernel, rfl, by decide +kernel, by decide +kernel⟩
def sp_has_said (K : PySem.W.Frag) : Sp := fun vs H Q _ => ∃ (q : NS) (a b n : Nat) (x : MN), vs = [.ref q.a, nV a, nV b] ∧ NoseAt K H q n x ∧ a < n ∧ b < n ∧ RetV (.bl (hasSaid x a b)) H Q
theorem sv_has_said {H : Hp} {q : NS} {a b n : Nat} {x : MN} (hN : NoseAt K H q n x) (ha : a < n) (hb : b < n) : SpV (sp_has_said K) [.ref q.a, nV a, nV b] H (.bl (hasSaid x a b)) := fun _ e _ r _ => ⟨q, a, b, n, x, rfl, hN.mono e, ha, hb, r⟩
theorem ok_has_said {f : Addr} {fd : FuncData} (F : Fun K "has_said" "has_said" s_has_said f fd) (T : Txt K mg)   : FnOk P w K mg base CX0 1 f fd ["nose", "a", "b"] (sp_has_said K) := by
  refine F.ok sc_has_said (fun vs H Q E h => ?_) (fun cdv A outer s H vs Q E hr h => ⟨_, (pss_one (ps_ret (pe_cmpR op_gt (pe_op op_add (pe_ix ix_list (pe_ix ix_list (pe_fld (pv 0) rfl) (pv 1) (fun _ _ => rfl)) (pv 2) (fun _ _ => rfl)) (pe_ix ix_list (pe_ix ix_list (pe_fld (pv 0) rfl) (pv 2) (fun _ _ => rfl)) (pv 1) (fun _ _ => rfl))) pe_int (nomark _)))), ?_⟩)
  · obtain ⟨_, _, _, _, _, rfl, _⟩ := h
    rfl
  · obtain ⟨q, a, b, n, x, rfl, hN, ha, hb, r⟩ := h
    exact s_ret (ev_op (ev_op (e_saidAt T (v0 0 rfl) hN (v0 1 rfl) (v0 2 rfl) ha hb) (e_saidAt T (v0 0 rfl) hN (v0 2 rfl) (v0 1 rfl) hb ha) r_add) (e_n (a := 0) rfl) r_gt) r
theorem sum_nL : ∀ l : List Nat, (l.map fun (n : Nat) => (n : Int)).sum = ((l.sum : Nat) : Int)
  | [] => rfl
  | n :: r => by
    rw [List.map_cons, List.sum_cons, List.sum_cons, sum_nL r]
    omega
theorem r_sum {K : PySem.W.Frag} {H : Hp} {p : Addr} {l : List Nat} (h : SqL K H p (nL l)) : RC (rSum K) [.ref p] H (nV l.sum) := fun H1 e Q q => ⟨p, l.map fun (n : Nat) => (n : Int), rfl, by
  rw [List.map_map]
  exact ex_l e h, by
  rw [sum_nL]
  exact q H1 (Ex.refl H1)⟩
theorem row_nL (n : Nat) (g : Nat → Nat) : row n g = nL ((List.range n).map g) := by
  unfold row nL
  rw [List.map_map]
  rfl
theorem e_sumL {σ : L2.St} {H : Hp} {ta : TE} {l : List Nat} (h : EvL ta σ H (nL l)) : Ev (tCB (rSum K) (tCons ta tNil)) σ H (nV l.sum) := fun H1 e Q q =>
  h H1 e _ fun p H2 _ e2 h2 => r_sum (SqL.of h2) H2 (Ex.refl H2) Q fun H3 e3 => q H3 (e2.trans e3)
theorem el_is {σ : L2.St} {H : Hp} {te : TE} {xs ys : List V} (h : EvL te σ H xs) (e : xs = ys) : EvL te σ H ys := e ▸ h
theorem sc_pairs_said : FnScope ["nose", "row"] ["nose"] (defScope s_pairs_said) := ⟨rfl, rfl, rfl, by decide +kernel, rfl, by decide +kernel, by decide +kernel⟩
def sp_pairs_said (K : PySem.W.Frag) : Sp := fun vs H Q _ => ∃ (q : NS) (n : Nat) (x : MN), vs = [.ref q.a] ∧ NoseAt K H q n x ∧ n ≤ 8 ∧ RetV (nV (pairsSaid n x)) H Q
theorem sv_pairs_said {H : Hp} {q : NS} {n : Nat} {x : MN} (hN : NoseAt K H q n x) (hn : n ≤ 8) : SpV (sp_pairs_said K) [.ref q.a] H (nV (pairsSaid n x)) := fun _ e _ r _ => ⟨q, n, x, rfl, hN.mono e, hn, r⟩
theorem ok_pairs_said {f : Addr} {fd : FuncData} (F : Fun K "pairs_said" "pairs_said" s_pairs_said f fd) (T : Txt K mg)   : FnOk P w K mg base CX0 1 f fd ["nose"] (sp_pairs_said K) := by
  refine F.ok sc_pairs_said (fun vs H Q E h => ?_) (fun cdv A outer s H vs Q E hr h => ⟨_, (pss_one (ps_ret (pe_callB (cr_sumK (K := K) rfl rfl) (by rfl) T.sum (by decide +kernel) (pa_cons (pe_lc (own := [("row", 1)]) (g := gName 1) (tt := tYes) rfl sc_pairs_said.nd (pi_list (pe_fld (pv 0) rfl)) (blkOk_by (N := ["nose", "row"]) (sc := defScope s_pairs_said) (by decide +kernel)) (fun _ _ _ _ _ => pg_name (i := 1) sc_pairs_said.nd rfl (Or.inl rfl)) (fun _ _ _ _ _ => pts_nil) (fun _ _ _ _ _ => (pe_callB (cr_sumK (K := K) rfl rfl) (by rfl) T.sum (by decide +kernel) (pa_cons (pv 1) pa_nil)))) pa_nil)))), ?_⟩)
  · obtain ⟨_, _, _, rfl, _⟩ := h
    rfl
  · obtain ⟨q, n, x, rfl, hN, hn, r⟩ := h
    refine s_ret (e_sumL (l := (List.range n).map fun i => ((List.range n).map (x.said i)).sum) (el_is (el_lcL (K := K) (fun _ => true) (fun i => nV ((List.range n).map (x.said i)).sum) (e_said T (v0 0 rfl) hN) (SqL.of hN.li) (by rw [List.length_map, hN.len]; omega) (fun y => rfl) (fun i y H2 e2 hi => fun H3 e3 _ g => g H3 (Ex.refl H3)) (fun i y H2 e2 hi _ => ?_)) ?_)) r
    · rw [List.getElem?_map] at hi
      cases hr : q.rows[i]? with
      | none =>
        rw [hr] at hi
        cases hi
      | some a =>
        rw [hr] at hi
        cases hi
        have h3 := e2 _ _ (hN.rw_ i a hr)
        rw [row_nL] at h3
        exact ev_cb (ea_cons (v0 1 rfl) ea_nil) (r_sum (SqL.of h3))
    · rw [List.length_map, hN.len, given_all]
theorem sc_weight_over : FnScope ["panel", "a", "b", "together", "nose"] ["panel", "a", "b"] (defScope s_weight_over) := ⟨rfl, rfl, rfl, by decide +kernel, rfl, by decide +kernel, by decide +kernel⟩
def sp_weight_over (K : PySem.W.Frag) : Sp := fun vs H Q _ => ∃ (p : Addr) (a b : Nat) (s : MS) (k : SK), vs = [.ref p, nV a, nV b] ∧ PanelAt K H p s k ∧ MOk s ∧ a < s.n ∧ b < s.n ∧ RetV (nV (weightOver s.noses a b)) H Q
theorem sv_weight_over {H : Hp} {p : Addr} {a b : Nat} {s : MS} {k : SK} (hP : PanelAt K H p s k) (ok : MOk s) (ha : a < s.n) (hb : b < s.n) : SpV (sp_weight_over K) [.ref p, nV a, nV b] H (nV (weightOver s.noses a b)) := fun _ e _ r _ => ⟨p, a, b, s, k, rfl, hP.mono e, ok, ha, hb, r⟩
theorem weightOver_snoc (l : List MN) (x : MN) (a b : Nat) : weightOver (l ++ [x]) a b = weightOver l a b + x.weight * x.said a b := by
  unfold weightOver
  rw [List.map_append, List.sum_append]
  rfl
theorem ok_weight_over {f : Addr} {fd : FuncData} (F : Fun K "weight_over" "weight_over" s_weight_over f fd) (T : Txt K mg)   : FnOk P w K mg base CX0 1 f fd ["panel", "a", "b"] (sp_weight_over K) := by
  refine F.ok sc_weight_over (fun vs H Q E h => ?_) (fun cdv A outer s H vs Q E hr h => ⟨_, (pss_cons (ps_set (i := 3) sc_weight_over.nd rfl (Or.inl rfl) pe_int)
        (pss_cons (ps_for PassesOwn.never rfl (pi_list (pe_fld (pv 0) rfl)) (pg_name (i := 4) sc_weight_over.nd rfl (Or.inl rfl))
        (pss_one (ps_aug (i := 3) sc_weight_over.nd rfl (Or.inl rfl) (pe_op op_mul (pe_fld (pv 4) rfl) (pe_ix ix_list (pe_ix ix_list (pe_fld (pv 4) rfl) (pv 1) (fun _ _ => rfl)) (pv 2) (fun _ _ => rfl))) ip_add)))
        (pss_one (ps_ret (pv 3))))), ?_⟩)
  · obtain ⟨_, _, _, _, _, rfl, _⟩ := h
    rfl
  · obtain ⟨p, a, b, s, k, rfl, hP, ok, ha, hb, r⟩ := h
    refine q_asg (e_n (a := 0) rfl) fun H1 e1 => ?_
    refine q_forLn (xs := k.ns.map fun q => V.ref q.a) (e_noses T (v0 0 rfl) (hP.mono e1)) (SqL.of (hP.mono e1).hn) (fun i σ' H' => ∃ v, σ' = [some (.ref p), some (nV a), some (nV b), some (nV (weightOver (s.noses.take i) a b)), v] ∧ Ex H H') (fun H2 e2 => ⟨none, rfl, e1.trans e2⟩) (fun i σ' H' _ ⟨_, _, e⟩ => SqL.of (hP.mono e).hn) ?_ ?_
    · rintro i y σ' H' hi ⟨v, rfl, e⟩
      have hlt : i < s.noses.length := by
        have := (List.getElem?_eq_some_iff.mp hi).1
        rw [List.length_map, hP.ln] at this
        exact this
      obtain ⟨q, hq, hv, hx, hN⟩ := (hP.mono e).at_ hlt
      rw [hv] at hi
      cases hi
      have hw := ok.weight _ (List.mem_of_getElem? hx)
      refine s_augN rfl (ev_op (e_weight T (v0 4 rfl) hN) (e_saidAt T (v0 4 rfl) hN (v0 1 rfl) (v0 2 rfl) ha hb) (r_mul (Or.inl (by omega)))) fun H2 e2 => ⟨_, by rw [take_snoc hx, weightOver_snoc]; rfl, e.trans e2⟩
    · rintro σ' H' ⟨v, rfl, e⟩
      rw [List.length_map, hP.ln, List.take_length]
      exact s_ret (v0 3 rfl) fun H2 e2 => r H2 (e.trans e2)
theorem sc_weights_of_row : FnScope ["panel", "a", "b"] ["panel", "a"] (defScope s_weights_of_row) := ⟨rfl, rfl, rfl, by decide +kernel, rfl, by decide +kernel, by decide +kernel⟩
def sp_weights_of_row (K : PySem.W.Frag) : Sp := fun vs H Q _ => ∃ (p : Addr) (a : Nat) (s : MS) (k : SK), vs = [.ref p, nV a] ∧ PanelAt K H p s k ∧ MOk s ∧ a < s.n ∧ RetL (row s.n (weightOver s.noses a)) H Q
theorem sv_weights_of_row {H : Hp} {p : Addr} {a : Nat} {s : MS} {k : SK} (hP : PanelAt K H p s k) (ok : MOk s) (ha : a < s.n) : SpL (sp_weights_of_row K) [.ref p, nV a] H (row s.n (weightOver s.noses a)) := fun _ e _ r _ => ⟨p, a, s, k, rfl, hP.mono e, ok, ha, r⟩
theorem ok_weights_of_row {f : Addr} {fd : FuncData} (F : Fun K "weights_of_row" "weights_of_row" s_weights_of_row f fd) (T : Txt K mg) (D_weight_over : DefK P w K mg base "weight_over" 1 ["panel", "a", "b"] (sp_weight_over K))  : FnOk P w K mg base CX0 2 f fd ["panel", "a"] (sp_weights_of_row K) := by
  refine F.ok sc_weights_of_row (fun vs H Q E h => ?_) (fun cdv A outer s H vs Q E hr h => ⟨_, (pss_one (ps_ret (pe_lc (own := [("b", 2)]) (g := gName 2) (tt := tYes) rfl sc_weights_of_row.nd (pi_range1 rfl T.range (pa_cons (pe_fld (pv 0) rfl) pa_nil)) (blkOk_by (N := ["panel", "a", "b"]) (sc := defScope s_weights_of_row) (by decide +kernel)) (fun _ _ _ _ _ => pg_name (i := 2) sc_weights_of_row.nd rfl (Or.inl rfl)) (fun _ _ _ _ _ => pts_nil) (fun _ _ _ _ _ => (pe_def D_weight_over hr (pa_cons (pv 0) (pa_cons (pv 1) (pa_cons (pv 2) pa_nil)))))))), ?_⟩)
  · obtain ⟨_, _, _, _, rfl, _⟩ := h
    rfl
  · obtain ⟨p, a, s, k, rfl, hP, ok, ha, r⟩ := h
    have hn := ok.n
    rw [row_nL, ← given_all] at r
    exact s_retL (el_lcR1 (n := (s.n : Int)) (fun _ => true) (fun i => nV (weightOver s.noses a i)) (ea_cons (e_samples T (v0 0 rfl) hP) ea_nil) ⟨by omega, by omega⟩ (fun x => rfl) (fun i H1 e hi => fun H2 e2 _ g => g H2 (Ex.refl H2))
      (fun i H1 e hi _ => c3 (v0 0 rfl) (v0 1 rfl) (v0 2 rfl) (sv_weight_over (hP.mono e) ok ha (by omega)))) r
theorem sc_weight_table : FnScope ["panel", "a"] ["panel"] (defScope s_weight_table) := ⟨rfl, rfl, rfl, by decide +kernel, rfl, by decide +kernel, by decide +kernel⟩
def sp_weight_table (K : PySem.W.Frag) : Sp := fun vs H Q _ => ∃ (p : Addr) (s : MS) (k : SK), vs = [.ref p] ∧ PanelAt K H p s k ∧ MOk s ∧ RetP (IsR (MatO s.n (weightOver s.noses))) H Q
theorem sv_weight_table {H : Hp} {p : Addr} {s : MS} {k : SK} (hP : PanelAt K H p s k) (ok : MOk s) : SpP (sp_weight_table K) [.ref p] H (IsR (MatO s.n (weightOver s.noses))) := fun _ e _ r _ => ⟨p, s, k, rfl, hP.mono e, ok, r⟩
theorem ok_weight_table {f : Addr} {fd : FuncData} (F : Fun K "weight_table" "weight_table" s_weight_table f fd) (T : Txt K mg) (D_weights_of_row : DefK P w K mg base "weights_of_row" 2 ["panel", "a"] (sp_weights_of_row K))  : FnOk P w K mg base CX0 3 f fd ["panel"] (sp_weight_table K) := by
  refine F.ok sc_weight_table (fun vs H Q E h => ?_) (fun cdv A outer s H vs Q E hr h => ⟨_, (pss_one (ps_ret (pe_lc (own := [("a", 1)]) (g := gName 1) (tt := tYes) rfl sc_weight_table.nd (pi_range1 rfl T.range (pa_cons (pe_fld (pv 0) rfl) pa_nil)) (blkOk_by (N := ["panel", "a"]) (sc := defScope s_weight_table) (by decide +kernel)) (fun _ _ _ _ _ => pg_name (i := 1) sc_weight_table.nd rfl (Or.inl rfl)) (fun _ _ _ _ _ => pts_nil) (fun _ _ _ _ _ => (pe_def D_weights_of_row hr (pa_cons (pv 0) (pa_cons (pv 1) pa_nil))))))), ?_⟩)
  · obtain ⟨_, _, _, rfl, _⟩ := h
    rfl
  · obtain ⟨p, s, k, rfl, hP, ok, r⟩ := h
    have hn := ok.n
    exact p_ret (p_lcR (m := s.n) (fun i => row s.n (weightOver s.noses i)) (ea_cons (e_samples T (v0 0 rfl) hP) ea_nil) (by omega) (fun x => rfl) (fun i H1 e hi => el_call (ea_cons (v0 0 rfl) (ea_cons (v0 1 rfl) ea_nil)) (sv_weights_of_row (hP.mono e) ok hi))) r
/-! ### the plan -/
theorem s_retRev {σ : L2.St} {H : Hp} {te : TE} {D : Ends} {a : Addr} {xs : List V} (h : Ev te σ H (.ref a)) (ha : H a = some (.lst xs)) (k : ∀ p H2, Ex H H2 → H2 p = some (.lst xs.reverse) → D.rt (.ref p) H2) : tRet (tRevL K te) D σ H :=
  h H (Ex.refl H) _ fun H1 e1 => ⟨a, xs, rfl, SqL.of (e1 _ _ ha), fun p hp => k p _ (e1.trans (Ex.new hp)) upd_same⟩
theorem sc_first_plan_row : FnScope ["samples", "row", "step"] ["samples"] (defScope s_first_plan_row) := ⟨rfl, rfl, rfl, by decide +kernel, rfl, by decide +kernel, by decide +kernel⟩
def sp_first_plan_row (_ : PySem.W.Frag) : Sp := fun vs H Q _ => ∃ n : Nat, vs = [nV n] ∧ 1 ≤ n ∧ n ≤ 8 ∧ RetL (nL ((List.range n).map (zOf n))) H Q
theorem sv_first_plan_row {H : Hp} {n : Nat} (h1 : 1 ≤ n) (hn : n ≤ 8) : SpL (sp_first_plan_row K) [nV n] H (nL ((List.range n).map (zOf n))) := fun _ _ _ r _ => ⟨n, rfl, h1, hn, r⟩
theorem ok_first_plan_row {f : Addr} {fd : FuncData} (F : Fun K "first_plan_row" "first_plan_row" s_first_plan_row f fd) (T : Txt K mg)   : FnOk P w K mg base CX0 1 f fd ["samples"] (sp_first_plan_row K) := by
  refine F.ok sc_first_plan_row (fun vs H Q E h => ?_) (fun cdv A outer s H vs Q E hr h => ⟨_, (pss_cons (ps_set (i := 1) sc_first_plan_row.nd rfl (Or.inl rfl) (pe_lst (pa_cons pe_int pa_nil)))
        (pss_cons (ps_for PassesOwn.never rfl (pi_range2 rfl T.range (pa_cons pe_int (pa_cons (pv 0) pa_nil))) (pg_name (i := 2) sc_first_plan_row.nd rfl (Or.inl rfl))
        (pss_one (ps_if (pt_cmpR op_eq (pe_op op_mod (pv 2) pe_int) pe_int (nomark _)) (pss_one (ps_expr (pe_bm PySem.F.plainAttrs_list PySem.F.slot_list_append PySem.F.type_list_append mt_append (pv 1) (pa_cons (pe_op op_fdiv (pe_op op_add (pv 2) pe_int) pe_int) pa_nil)))) (pss_one (ps_expr (pe_bm PySem.F.plainAttrs_list PySem.F.slot_list_append PySem.F.type_list_append mt_append (pv 1) (pa_cons (pe_op op_sub (pv 0) (pe_op op_fdiv (pv 2) pe_int)) pa_nil)))))))
        (pss_one (ps_ret (pv 1))))), ?_⟩)
  · obtain ⟨_, rfl, _⟩ := h
    rfl
  · obtain ⟨n, rfl, h1, hn, r⟩ := h
    refine q_asgL (xs := nL ((List.range (1 + 0)).map (zOf n))) (el_lst (ea_cons (e_n (a := 0) rfl) ea_nil) (by show 1 ≤ 100000; decide)) fun l H1 hl e1 h1' => ?_
    refine q_R2 (lo := 1) (e_n rfl) (v0 0 rfl) (by decide) (by omega) (fun i σ' H' => ∃ v, σ' = [some (nV n), some (.ref l), v] ∧ Ex H H' ∧ H' l = some (.lst (nL ((List.range (1 + i)).map (zOf n))))) (fun H2 e2 => ⟨none, rfl, e1.trans e2, e2 _ _ h1'⟩) ?_ ?_
    · rintro i σ' H' hi ⟨v, rfl, e, hw⟩
      have es : (List.range (1 + (i + 1))).map (zOf n) = (List.range (1 + i)).map (zOf n) ++ [zOf n (1 + i)] := by
        rw [← Nat.add_assoc, List.range_succ, List.map_append]
        rfl
      refine s_if (et_test (ev_op (ev_op (v0 2 rfl) (e_n (a := 2) rfl) (r_mod (by decide))) (e_n (a := 1) rfl) r_eq)) (fun hb H2 e2 => ?_) (fun hb H2 e2 => ?_)
      · refine s_appN (e2 _ _ hw) (v0 1 rfl) (ev_op (ev_op (v0 2 rfl) (e_n (a := 1) rfl) r_add) (e_n (a := 2) rfl) (r_div (by decide) (by decide))) (by rw [List.length_map, List.length_range]; omega) fun H3 up h3 => ⟨_, rfl, up H (e.trans e2) hl, ?_⟩
        rw [es, show zOf n (1 + i) = (1 + i + 1) / 2 from (if_neg (by omega)).trans (if_pos (of_decide_eq_true hb))]
        exact h3
      · refine s_appN (e2 _ _ hw) (v0 1 rfl) (ev_op (v0 0 rfl) (ev_op (v0 2 rfl) (e_n (a := 2) rfl) (r_div (by decide) (by decide))) (r_sub (by omega))) (by rw [List.length_map, List.length_range]; omega) fun H3 up h3 => ⟨_, rfl, up H (e.trans e2) hl, ?_⟩
        rw [es, show zOf n (1 + i) = n - (1 + i) / 2 from (if_neg (by omega)).trans (if_neg (of_decide_eq_false hb))]
        exact h3
    · rintro σ' H' ⟨v, rfl, e, hw⟩
      rw [show 1 + (n - 1) = n by omega] at hw
      exact s_ret (v0 1 rfl) fun H2 e2 => r l H2 hl (e.trans e2) (e2 _ _ hw)
theorem sc_plan_rows : FnScope ["samples"] ["samples"] (defScope s_plan_rows) := ⟨rfl, rfl, rfl, by decide +kernel, rfl, by decide +kernel, by decide +kernel⟩
def sp_plan_rows (_ : PySem.W.Frag) : Sp := fun vs H Q _ => ∃ n : Nat, vs = [nV n] ∧ RetV (nV (planRows n)) H Q
theorem sv_plan_rows {H : Hp} {n : Nat} : SpV (sp_plan_rows K) [nV n] H (nV (planRows n)) := fun _ _ _ r _ => ⟨n, rfl, r⟩
theorem ok_plan_rows {f : Addr} {fd : FuncData} (F : Fun K "plan_rows" "plan_rows" s_plan_rows f fd) (T : Txt K mg)   : FnOk P w K mg base CX0 1 f fd ["samples"] (sp_plan_rows K) := by
  refine F.ok sc_plan_rows (fun vs H Q E h => ?_) (fun cdv A outer s H vs Q E hr h => ⟨_, (pss_cons (ps_if (pt_cmpR op_eq (pe_op op_mod (pv 0) pe_int) pe_int (nomark _)) (pss_one (ps_ret (pe_op op_mul pe_int (pv 0)))) pss_nil)
        (pss_one (ps_ret (pv 0)))), ?_⟩)
  · obtain ⟨_, rfl, _⟩ := h
    rfl
  · obtain ⟨n, rfl, r⟩ := h
    refine q_when (et_test (ev_op (ev_op (v0 0 rfl) (e_n (a := 2) rfl) (r_mod (by decide))) (e_n (a := 1) rfl) r_eq)) (fun hb H1 e1 => ?_) (fun hb H1 e1 => ?_)
    · rw [show planRows n = 2 * n from if_pos (of_decide_eq_true hb)] at r
      exact s_ret (ev_op (e_n (a := 2) rfl) (v0 0 rfl) (r_mul (Or.inl (by decide)))) fun H2 e2 => r H2 (e1.trans e2)
    · rw [show planRows n = n from if_neg (of_decide_eq_false hb)] at r
      exact s_ret (v0 0 rfl) fun H2 e2 => r H2 (e1.trans e2)
theorem sc_plan_row : FnScope ["samples", "number", "row", "sample"] ["samples", "number"] (defScope s_plan_row) := ⟨rfl, rfl, rfl, by decide +kernel, rfl, by decide +kernel, by decide +kernel⟩
def sp_plan_row (_ : PySem.W.Frag) : Sp := fun vs H Q _ => ∃ n i : Nat, vs = [nV n, nV i] ∧ 1 ≤ n ∧ n ≤ 8 ∧ RetP (IsN (planRow n i)) H Q
theorem sv_plan_row {H : Hp} {n i : Nat} (h1 : 1 ≤ n) (hn : n ≤ 8) : SpP (sp_plan_row K) [nV n, nV i] H (IsN (planRow n i)) := fun _ _ _ r _ => ⟨n, i, rfl, h1, hn, r⟩
theorem ok_plan_row {f : Addr} {fd : FuncData} (F : Fun K "plan_row" "plan_row" s_plan_row f fd) (T : Txt K mg) (D_first_plan_row : DefK P w K mg base "first_plan_row" 1 ["samples"] (sp_first_plan_row K))  : FnOk P w K mg base CX0 2 f fd ["samples", "number"] (sp_plan_row K) := by
  refine F.ok sc_plan_row (fun vs H Q E h => ?_) (fun cdv A outer s H vs Q E hr h => ⟨_, (pss_cons (ps_setLc (i := 2) (own := [("sample", 3)]) (g := gName 3) (tt := tYes) rfl sc_plan_row.nd rfl rfl (sw_true rfl rfl rfl (by decide +kernel)) (pi_list (pe_def D_first_plan_row hr (pa_cons (pv 0) pa_nil))) (blkOk_by (N := ["samples", "number", "row", "sample"]) (sc := defScope s_plan_row) (by decide +kernel)) (fun _ _ _ _ _ => pg_name (i := 3) sc_plan_row.nd rfl (Or.inl rfl)) (fun _ _ _ _ _ => pts_nil) (fun _ _ _ _ _ => (pe_op op_mod (pe_op op_add (pv 3) (pv 1)) (pv 0))))
        (pss_cons (ps_if (pt_cmpR op_ge (pv 1) (pv 0) (nomark _)) (pss_one (ps_ret (pe_revL (pv 2)))) pss_nil)
        (pss_one (ps_ret (pv 2))))), ?_⟩)
  · obtain ⟨_, _, rfl, _⟩ := h
    rfl
  · obtain ⟨n, i, rfl, h1, hn, r⟩ := h
    refine q_asgL (el_lcNL (K := K) (xs := nL ((List.range n).map (zOf n))) (fun _ => true) (fun j => nV ((zOf n j + i) % n)) (el_call (ea_cons (v0 0 rfl) ea_nil) (sv_first_plan_row h1 hn)) (by rw [nL_len, List.length_map, List.length_range]; omega) (fun x => rfl) (fun j x H1 e hj => fun H2 e2 _ g => g H2 (Ex.refl H2)) (fun j x H1 e hj _ => ?_)) fun l H1 hl e1 h1' => ?_
    · have hjn : j < n := by
        have := (List.getElem?_eq_some_iff.mp hj).1
        rw [nL_len, List.length_map, List.length_range] at this
        exact this
      rw [List.getElem?_map, List.getElem?_map, List.getElem?_range hjn] at hj
      cases hj
      exact ev_op (ev_op (v0 3 rfl) (v0 1 rfl) r_add) (v0 0 rfl) (r_mod h1)
    · rw [nL_len, List.length_map, List.length_range, given_all] at h1'
      refine q_when (et_test (ev_op (v0 1 rfl) (v0 0 rfl) r_ge)) (fun hb H2 e2 => ?_) (fun hb H2 e2 => ?_)
      · have ez : planRow n i = ((List.range n).map fun j => (zOf n j + i) % n).reverse := if_pos (of_decide_eq_true hb)
        refine s_retRev (v0 2 rfl) (e2 _ _ h1') fun d H3 e3 h3 => r _ _ ((e1.trans e2).trans e3) ⟨d, rfl, ?_⟩
        rw [h3, ez]
        unfold nL
        rw [List.map_reverse]
      · have ez : planRow n i = (List.range n).map fun j => (zOf n j + i) % n := if_neg (of_decide_eq_false hb)
        exact p_ret (p_of (P := IsN (planRow n i)) (v0 2 rfl) fun H3 e3 => ⟨l, rfl, by rw [ez]; exact e3 _ _ (e2 _ _ h1')⟩) fun v H3 e3 hv => r v H3 ((e1.trans e2).trans e3) hv
end
end Np
set_option Elab.async false
set_option linter.all false
set_option maxRecDepth 100000
set_option maxHeartbeats 4000000
namespace Np
open PySem PySem.Spec PyProof.Rows L2 Evl
/-- the best order is come to, and it holds each sample -/
structure BestFull (f : Mx) (nd : List Nat) : Prop where
  ok : BestOk f nd
  lt : ∀ x ∈ bestOrder f nd, x < nd.length
  all : ∀ x, x < nd.length → x ∈ bestOrder f nd
/-- what the mathematics gives of a state -/
structure Ready (s : MS) : Prop where
  ok : MOk s
  sound : ∀ h, h < s.noses.length → isSound (noseAt s h).said s.n = true → CntOk (ndOf s h) ∧ BestFull (weightOver s.noses) (ndOf s h)
  mend : ∀ h, h < s.noses.length → BestFull (noseAt s h).said (nothing s.n)
  best : BestFull (weightOver s.noses) (nothing s.n)
theorem noseNo_ok {s : MS} {h : Nat} (e : noseNo s h = 0) : h < s.noses.length := by
  unfold noseNo at e
  split at e
  · cases e
  · omega
theorem soundNo_ok {s : MS} {h : Nat} (e : soundNo s h = 0) : h < s.noses.length ∧ isSound (noseAt s h).said s.n = true := by
  unfold soundNo at e
  split at e
  · rename_i h0
    refine ⟨noseNo_ok h0, ?_⟩
    split at e
    · assumption
    · cases e
  · rename_i h0
    exact absurd e h0
theorem nosePairNo_ok {s : MS} {h a b : Nat} (e : nosePairNo s h a b = 0) : h < s.noses.length ∧ a < s.n ∧ b < s.n ∧ a ≠ b := by
  unfold nosePairNo pairNo at e
  split at e
  · cases e
  · split at e
    · cases e
    · split at e
      · cases e
      · omega
theorem pairNo_ok {s : MS} {a b : Nat} (e : pairNo s a b = 0) : a < s.n ∧ b < s.n ∧ a ≠ b := by
  unfold pairNo at e
  split at e
  · cases e
  · split at e
    · cases e
    · omega
theorem soundPairNo_ok {s : MS} {h a b : Nat} (e : soundPairNo s h a b = 0) : h < s.noses.length ∧ isSound (noseAt s h).said s.n = true ∧ a < s.n ∧ b < s.n ∧ a ≠ b := by
  unfold soundPairNo at e
  split at e
  · rename_i h0
    have z := nosePairNo_ok h0
    have z2 := soundNo_ok e
    exact ⟨z.1, z2.2, z.2⟩
  · rename_i h0
    exact absurd e h0
theorem ndOf_len (s : MS) (h : Nat) : (ndOf s h).length = s.n := by
  unfold ndOf needs
  rw [List.length_map, List.length_range]
theorem nothing_len (n : Nat) : (nothing n).length = n := List.length_replicate ..
theorem ringAt_len {f : Mx} {n k : Nat} {r : List Nat} (h : ringAt f n k = some r) : r.length = k + 2 := rowsAt_row f n (k + 1) r (List.mem_of_find?_eq_some h)
theorem ring_len (f : Mx) {n : Nat} (hn : n ≤ 8) : (ring f n).length ≤ 9 := by
  unfold ring
  cases h : (List.range (n - 1)).findSome? (ringAt f n) with
  | none => exact Nat.zero_le _
  | some r =>
    obtain ⟨k, hk, e⟩ := List.exists_of_findSome?_eq_some h
    have hk := List.mem_range.mp hk
    show r.length ≤ 9
    rw [ringAt_len e]
    omega
theorem bestOrder_len (f : Mx) (nd : List Nat) : (bestOrder f nd).length = nd.length := bestAt_len f nd _ _
theorem firstOrder_len (nd : List Nat) : (firstOrder nd).length = nd.length := firstAt_len nd _
theorem askStep_len (e : Nat) (p : List Nat × Nat) (x : Nat × Nat × Nat) (h : p.1.length ≤ 4) : (askStep e p x).1.length ≤ 4 := by
  unfold askStep
  split
  · exact Nat.le_refl 4
  · exact h
theorem pairToAsk_len (nd : List Nat) : (pairToAsk nd).length ≤ 4 := by
  unfold pairToAsk
  have g : ∀ (l : List (Nat × Nat × Nat)) (p : List Nat × Nat), p.1.length ≤ 4 → (l.foldl (askStep (cnt nd)) p).1.length ≤ 4 := by
    intro l
    induction l with
    | nil => exact fun _ h => h
    | cons x r ih => exact fun p h => ih _ (askStep_len _ p x h)
  exact g _ _ (Nat.zero_le _)
section
variable {P : Program} {w : World} {K : PySem.W.Frag} {mg : Str → Option Value} {base : Heap}
section
variable {σ : L2.St} {H H0 : Hp} {te tl : TE} {D : Ends} {tz : TS} {i j l m : Nat} {u : Addr} {x y z v : V}
theorem q_unl2 (h : Ev te σ H (.ref u)) (hu : H u = some (.lst [x, y])) (k : ∀ H1, Ex H H1 → tz D ((σ.set i (some x)).set j (some y)) H1) : tSeq (tAsg te (gUnl K 2 (gCons (gName i) (gCons (gName j) gNil)))) tz D σ H :=
  h H (Ex.refl H) _ fun H1 e1 => ⟨u, _, rfl, SqL.of (e1 _ _ hu), rfl, _, _, rfl, _, _, rfl, rfl, k H1 e1⟩
theorem q_unl3 (h : Ev te σ H (.ref u)) (hu : H u = some (.lst [x, y, z])) (k : ∀ H1, Ex H H1 → tz D (((σ.set i (some x)).set j (some y)).set l (some z)) H1) : tSeq (tAsg te (gUnl K 3 (gCons (gName i) (gCons (gName j) (gCons (gName l) gNil))))) tz D σ H :=
  h H (Ex.refl H) _ fun H1 e1 => ⟨u, _, rfl, SqL.of (e1 _ _ hu), rfl, _, _, rfl, _, _, rfl, _, _, rfl, rfl, k H1 e1⟩
theorem q_unl4 (h : Ev te σ H (.ref u)) (hu : H u = some (.lst [x, y, z, v])) (k : ∀ H1, Ex H H1 → tz D ((((σ.set i (some x)).set j (some y)).set l (some z)).set m (some v)) H1) : tSeq (tAsg te (gUnl K 4 (gCons (gName i) (gCons (gName j) (gCons (gName l) (gCons (gName m) gNil)))))) tz D σ H :=
  h H (Ex.refl H) _ fun H1 e1 => ⟨u, _, rfl, SqL.of (e1 _ _ hu), rfl, _, _, rfl, _, _, rfl, _, _, rfl, _, _, rfl, rfl, k H1 e1⟩
/-- why != ALL_WELL: return refused(why) -/
theorem q_gate {c : Int} {a : List Int} {Q : VK} (hw : σ[i]? = some (some (.int c))) (k : RetP (IsF H0 (gate c a)) H0 Q) (e : Ex H0 H) (hQ : D.rt = Q) (cont : c = 0 → RetP (IsF H0 a) H0 Q → ∀ H1, Ex H H1 → tz D σ H1) :
    tSeq (tIfS (tTest (tOp rNe (tVar i) (tC (.int 0)))) (tRet (tCall (sp_refused K) [] E0 (tCons (tVar i) tNil))) tNext) tz D σ H := by
  refine q_when (et_test (ev_op (v0 i hw) ev_c r_neI)) (fun hb H1 e1 => ?_) (fun hb H1 e1 => ?_)
  · have hc : ¬ c = 0 := fun z => by
      rw [decide_eq_true z] at hb
      cases hb
    rw [show gate c a = no c from if_neg hc] at k
    refine p_ret (p_v1 (v0 i hw) sv_refused) fun v H2 e2 hv => ?_
    show D.rt v H2
    rw [hQ]
    exact k v H2 (e.trans (e1.trans e2)) (hv.back (e.trans e1))
  · have hc : c = 0 := by
      rw [Bool.not_eq_false'] at hb
      exact of_decide_eq_true hb
    rw [show gate c a = a from if_pos hc] at k
    exact cont hc k H1 e1
theorem e_at0 {a : Nat} {r : List Nat} (h : Ev te σ H (.ref u)) (hu : H u = some (.lst (nL (a :: r)))) : Ev (tOp (rIxL K) te (tC (.int 0))) σ H (nV a) := e_ix (l := a :: r) h (SqL.of hu) (e_n (a := 0) rfl) (Nat.zero_lt_succ _)
end
theorem sc_sound_refusal : FnScope ["panel", "number", "why"] ["panel", "number"] (defScope s_sound_refusal) := ⟨rfl, rfl, rfl, by decide +kernel, rfl, by decide +kernel, by decide +kernel⟩
def sp_sound_refusal (K : PySem.W.Frag) : Sp := fun vs H Q _ => ∃ (p : Addr) (h : Nat) (s : MS) (k : SK), vs = [.ref p, nV h] ∧ PanelAt K H p s k ∧ MOk s ∧ RetV (.int (soundNo s h)) H Q
theorem sv_sound_refusal {H : Hp} {p : Addr} {h : Nat} {s : MS} {k : SK} (hP : PanelAt K H p s k) (ok : MOk s) : SpV (sp_sound_refusal K) [.ref p, nV h] H (.int (soundNo s h)) := fun _ e _ q _ => ⟨p, h, s, k, rfl, hP.mono e, ok, q⟩
theorem ok_sound_refusal {f : Addr} {fd : FuncData} (F : Fun K "sound_refusal" "sound_refusal" s_sound_refusal f fd) (T : Txt K mg) (D_nose_refusal : DefK P w K mg base "nose_refusal" 1 ["panel", "nose"] (sp_nose_refusal K)) (D_is_sound : DefK P w K mg base "is_sound" 3 ["said"] (sp_is_sound K))  : FnOk P w K mg base CX0 4 f fd ["panel", "number"] (sp_sound_refusal K) := by
  refine F.ok sc_sound_refusal (fun vs H Q E h => ?_) (fun cdv A outer s H vs Q E hr h => ⟨_, (pss_cons (ps_set (i := 2) sc_sound_refusal.nd rfl (Or.inl rfl) (pe_def D_nose_refusal hr (pa_cons (pv 0) (pa_cons (pv 1) pa_nil))))
        (pss_cons (ps_if (PW.pt (pw_and (pt_cmpR op_eq (pv 2) (pe_const T.c_ALL_WELL) (nomark _)) (pw_and1 (pt_not (pt_val (pe_def D_is_sound hr (pa_cons (pe_fld (pe_ix ix_list (pe_fld (pv 0) rfl) (pv 1) (fun _ _ => rfl)) rfl) pa_nil))))))) (pss_one (ps_ret (pe_const T.c_CANNOT_BE))) pss_nil)
        (pss_one (ps_ret (pv 2))))), ?_⟩)
  · obtain ⟨_, _, _, _, rfl, _⟩ := h
    rfl
  · obtain ⟨p, h, s, k, rfl, hP, ok, r⟩ := h
    refine q_asg (c2 (v0 0 rfl) (v0 1 rfl) (sv_nose_refusal hP)) fun H1 e1 => ?_
    by_cases h0 : noseNo s h = 0
    · obtain ⟨q, hq, hv, hx, hN⟩ := (hP.mono e1).at_ (noseNo_ok h0)
      refine q_when (et_and (et_test (ev_op (v0 2 rfl) ev_c r_eqI)) fun _ => et_not (et_B (c1 (e_said T (e_nose T (v0 0 rfl) (hP.mono e1) (v0 1 rfl) hv) hN) (sv_is_sound hN.mat ok.n)))) (fun hb H2 e2 => ?_) (fun hb H2 e2 => ?_)
      · rw [decide_eq_true h0] at hb
        have hb : (!isSound (noseAt s h).said s.n) = true := hb
        rw [Bool.not_eq_true'] at hb
        rw [show soundNo s h = -4 from (if_pos h0).trans (if_neg (by rw [hb]; decide))] at r
        exact s_ret ev_c fun H3 e3 => r H3 (e1.trans (e2.trans e3))
      · rw [decide_eq_true h0] at hb
        have hb : (!isSound (noseAt s h).said s.n) = false := hb
        rw [Bool.not_eq_false'] at hb
        rw [show soundNo s h = noseNo s h from (if_pos h0).trans ((if_pos hb).trans h0.symm)] at r
        exact s_ret (v0 2 rfl) fun H3 e3 => r H3 (e1.trans (e2.trans e3))
    · refine q_when (b := false) (et_is (et_and (b := false) (et_test (ev_op (v0 2 rfl) ev_c r_eqI)) fun hb => absurd (of_decide_eq_true hb) h0) (by rw [decide_eq_false h0]; rfl)) (fun hb => nomatch hb) (fun hb H2 e2 => ?_)
      rw [show soundNo s h = noseNo s h from if_neg h0] at r
      exact s_ret (v0 2 rfl) fun H3 e3 => r H3 (e1.trans (e2.trans e3))
theorem sc_sound_pair_refusal : FnScope ["panel", "number", "a", "b", "why"] ["panel", "number", "a", "b"] (defScope s_sound_pair_refusal) := ⟨rfl, rfl, rfl, by decide +kernel, rfl, by decide +kernel, by decide +kernel⟩
def sp_sound_pair_refusal (K : PySem.W.Frag) : Sp := fun vs H Q _ => ∃ (p : Addr) (h a b : Nat) (s : MS) (k : SK), vs = [.ref p, nV h, nV a, nV b] ∧ PanelAt K H p s k ∧ MOk s ∧ RetV (.int (soundPairNo s h a b)) H Q
theorem sv_sound_pair_refusal {H : Hp} {p : Addr} {h a b : Nat} {s : MS} {k : SK} (hP : PanelAt K H p s k) (ok : MOk s) : SpV (sp_sound_pair_refusal K) [.ref p, nV h, nV a, nV b] H (.int (soundPairNo s h a b)) := fun _ e _ q _ => ⟨p, h, a, b, s, k, rfl, hP.mono e, ok, q⟩
theorem ok_sound_pair_refusal {f : Addr} {fd : FuncData} (F : Fun K "sound_pair_refusal" "sound_pair_refusal" s_sound_pair_refusal f fd) (T : Txt K mg) (D_nose_pair_refusal : DefK P w K mg base "nose_pair_refusal" 2 ["panel", "nose", "a", "b"] (sp_nose_pair_refusal K)) (D_sound_refusal : DefK P w K mg base "sound_refusal" 4 ["panel", "number"] (sp_sound_refusal K))  : FnOk P w K mg base CX0 5 f fd ["panel", "number", "a", "b"] (sp_sound_pair_refusal K) := by
  refine F.ok sc_sound_pair_refusal (fun vs H Q E h => ?_) (fun cdv A outer s H vs Q E hr h => ⟨_, (pss_cons (ps_set (i := 4) sc_sound_pair_refusal.nd rfl (Or.inl rfl) (pe_def D_nose_pair_refusal hr (pa_cons (pv 0) (pa_cons (pv 1) (pa_cons (pv 2) (pa_cons (pv 3) pa_nil))))))
        (pss_cons (ps_if (pt_cmpR op_eq (pv 4) (pe_const T.c_ALL_WELL) (nomark _)) (pss_one (ps_ret (pe_def D_sound_refusal hr (pa_cons (pv 0) (pa_cons (pv 1) pa_nil))))) pss_nil)
        (pss_one (ps_ret (pv 4))))), ?_⟩)
  · obtain ⟨_, _, _, _, _, _, rfl, _⟩ := h
    rfl
  · obtain ⟨p, h, a, b, s, k, rfl, hP, ok, r⟩ := h
    refine q_asg (c4 (v0 0 rfl) (v0 1 rfl) (v0 2 rfl) (v0 3 rfl) (sv_nose_pair_refusal hP)) fun H1 e1 => ?_
    refine q_when (et_test (ev_op (v0 4 rfl) ev_c r_eqI)) (fun hb H2 e2 => ?_) (fun hb H2 e2 => ?_)
    · rw [show soundPairNo s h a b = soundNo s h from if_pos (of_decide_eq_true hb)] at r
      exact s_ret (c2 (v0 0 rfl) (v0 1 rfl) (sv_sound_refusal ((hP.mono e1).mono e2) ok)) fun H3 e3 => r H3 (e1.trans (e2.trans e3))
    · rw [show soundPairNo s h a b = nosePairNo s h a b from if_neg (of_decide_eq_false hb)] at r
      exact s_ret (v0 4 rfl) fun H3 e3 => r H3 (e1.trans (e2.trans e3))
theorem sc_needs_of : FnScope ["panel", "number"] ["panel", "number"] (defScope s_needs_of) := ⟨rfl, rfl, rfl, by decide +kernel, rfl, by decide +kernel, by decide +kernel⟩
def sp_needs_of (K : PySem.W.Frag) : Sp := fun vs H Q _ => ∃ (p : Addr) (h : Nat) (s : MS) (k : SK), vs = [.ref p, nV h] ∧ PanelAt K H p s k ∧ MOk s ∧ h < s.noses.length ∧ RetP (IsN (ndOf s h)) H Q
theorem sv_needs_of {H : Hp} {p : Addr} {h : Nat} {s : MS} {k : SK} (hP : PanelAt K H p s k) (ok : MOk s) (hh : h < s.noses.length) : SpP (sp_needs_of K) [.ref p, nV h] H (IsN (ndOf s h)) := fun _ e _ q _ => ⟨p, h, s, k, rfl, hP.mono e, ok, hh, q⟩
theorem ok_needs_of {f : Addr} {fd : FuncData} (F : Fun K "needs_of" "needs_of" s_needs_of f fd) (T : Txt K mg) (D_needed_sets : DefK P w K mg base "needed_sets" 3 ["said"] (sp_needed_sets K))  : FnOk P w K mg base CX0 4 f fd ["panel", "number"] (sp_needs_of K) := by
  refine F.ok sc_needs_of (fun vs H Q E h => ?_) (fun cdv A outer s H vs Q E hr h => ⟨_, (pss_one (ps_ret (pe_def D_needed_sets hr (pa_cons (pe_fld (pe_ix ix_list (pe_fld (pv 0) rfl) (pv 1) (fun _ _ => rfl)) rfl) pa_nil)))), ?_⟩)
  · obtain ⟨_, _, _, _, rfl, _⟩ := h
    rfl
  · obtain ⟨p, h, s, k, rfl, hP, ok, hh, r⟩ := h
    obtain ⟨q, hq, hv, hx, hN⟩ := hP.at_ hh
    exact p_ret (p_v1 (e_said T (e_nose T (v0 0 rfl) hP (v0 1 rfl) hv) hN) (sv_needed_sets hN.mat ok.n)) r
/-- needs_of(panel, number) as an argument -/
theorem p_needs {σ : L2.St} {H : Hp} {ta tb : TE} {E : XK} {p : Addr} {h : Nat} {s : MS} {k : SK} (ha : Ev ta σ H (.ref p)) (hb : Ev tb σ H (nV h)) (hP : PanelAt K H p s k) (ok : MOk s) (hh : h < s.noses.length) : EvP (tCall (sp_needs_of K) [] E (tCons ta (tCons tb tNil))) σ H (IsN (ndOf s h)) :=
  p_v2 ha hb (sv_needs_of hP ok hh)
theorem sc_answer_ring : FnScope ["panel", "numbers", "rows", "number", "why", "ring"] ["panel", "numbers", "rows"] (defScope s_answer_ring) := ⟨rfl, rfl, rfl, by decide +kernel, rfl, by decide +kernel, by decide +kernel⟩
def sp_answer_ring (K : PySem.W.Frag) : Sp := fun vs H Q _ => ∃ (p u : Addr) (r : V) (h : Nat) (s : MS) (k : SK), vs = [.ref p, .ref u, r] ∧ PanelAt K H p s k ∧ Ready s ∧ H u = some (.lst (nL [h])) ∧ RetP (IsF H (aRing s h)) H Q
theorem ok_answer_ring {f : Addr} {fd : FuncData} (F : Fun K "answer_ring" "answer_ring" s_answer_ring f fd) (T : Txt K mg) (D_nose_refusal : DefK P w K mg base "nose_refusal" 1 ["panel", "nose"] (sp_nose_refusal K)) (D_shortest_ring : DefK P w K mg base "shortest_ring" 2 ["said"] (sp_shortest_ring K)) (D_answered : DefK P w K mg base "answered" 1 ["numbers"] (sp_answered K)) (D_refused : DefK P w K mg base "refused" 1 ["why"] (sp_refused K))  : FnOk P w K mg base CX0 3 f fd ["panel", "numbers", "rows"] (sp_answer_ring K) := by
  refine F.ok sc_answer_ring (fun vs H Q E h => ?_) (fun cdv A outer s H vs Q E hr h => ⟨_, (pss_cons (ps_set (i := 3) sc_answer_ring.nd rfl (Or.inl rfl) (pe_ix ix_list (pv 1) pe_int (fun _ _ => rfl)))
        (pss_cons (ps_set (i := 4) sc_answer_ring.nd rfl (Or.inl rfl) (pe_def D_nose_refusal hr (pa_cons (pv 0) (pa_cons (pv 3) pa_nil))))
        (pss_cons (ps_if (pt_cmpR op_ne (pv 4) (pe_const T.c_ALL_WELL) (nomark _)) (pss_one (ps_ret (pe_def D_refused hr (pa_cons (pv 4) pa_nil)))) pss_nil)
        (pss_cons (ps_set (i := 5) sc_answer_ring.nd rfl (Or.inl rfl) (pe_def D_shortest_ring hr (pa_cons (pe_fld (pe_ix ix_list (pe_fld (pv 0) rfl) (pv 3) (fun _ _ => rfl)) rfl) pa_nil)))
        (pss_one (ps_ret (pe_def D_answered hr (pa_cons (pe_op op_cat (pe_lst (pa_cons (pe_callB call_len_seq (by rfl) T.len (by decide +kernel) (pa_cons (pv 5) pa_nil)) pa_nil)) (pv 5)) pa_nil)))))))), ?_⟩)
  · obtain ⟨_, _, _, _, _, _, rfl, _⟩ := h
    rfl
  · obtain ⟨p, u, r, h, s, k, rfl, hP, R, hu, g⟩ := h
    refine q_asg (e_at0 (v0 1 rfl) hu) fun H1 e1 => ?_
    refine q_asg (c2 (v0 0 rfl) (v0 3 rfl) (sv_nose_refusal (hP.mono e1))) fun H2 e2 => ?_
    refine q_gate rfl g (e1.trans e2) rfl fun h0 g H3 e3 => ?_
    have e13 := (e1.trans e2).trans e3
    obtain ⟨q, hq, hv, hx, hN⟩ := (hP.mono e13).at_ (noseNo_ok h0)
    have hl := ring_len (noseAt s h).said R.ok.n
    refine pq_asg (p_v1 (e_said T (e_nose T (v0 0 rfl) (hP.mono e13) (v0 3 rfl) hv) hN) (sv_shortest_ring hN.mat R.ok.n)) ?_
    rintro _ H4 e4 ⟨d, rfl, hd⟩
    exact p_ret (p_answered (l := (ring (noseAt s h).said s.n).length :: ring (noseAt s h).said s.n) (p_new (p_cat (xs := [nV (ring (noseAt s h).said s.n).length]) (ys := nL (ring (noseAt s h).said s.n)) (p_new (el_lst (ea_cons (e_lenL (v0 5 rfl) (SqL.of hd)) ea_nil) (by show 1 ≤ 100000; decide))) (p_var rfl hd) (by rw [nL_len, sizeLine_is]; show 1 + _ ≤ _; omega))) (by rw [List.length_cons]; omega)) fun v H5 e5 hv => g v H5 (e13.trans (e4.trans e5)) (hv.back (e13.trans (e4.trans (Ex.refl _))))
theorem sc_answer_many : FnScope ["panel", "numbers", "rows", "number", "why"] ["panel", "numbers", "rows"] (defScope s_answer_many) := ⟨rfl, rfl, rfl, by decide +kernel, rfl, by decide +kernel, by decide +kernel⟩
def sp_answer_many (K : PySem.W.Frag) : Sp := fun vs H Q _ => ∃ (p u : Addr) (r : V) (h : Nat) (s : MS) (k : SK), vs = [.ref p, .ref u, r] ∧ PanelAt K H p s k ∧ Ready s ∧ H u = some (.lst (nL [h])) ∧ RetP (IsF H (aMany s h)) H Q
theorem ok_answer_many {f : Addr} {fd : FuncData} (F : Fun K "answer_many" "answer_many" s_answer_many f fd) (T : Txt K mg) (D_nose_refusal : DefK P w K mg base "nose_refusal" 1 ["panel", "nose"] (sp_nose_refusal K)) (D_answered : DefK P w K mg base "answered" 1 ["numbers"] (sp_answered K)) (D_refused : DefK P w K mg base "refused" 1 ["why"] (sp_refused K)) (D_count_orders : DefK P w K mg base "count_orders" 3 ["needed"] (sp_count_orders K)) (D_needs_of : DefK P w K mg base "needs_of" 4 ["panel", "number"] (sp_needs_of K))  : FnOk P w K mg base CX0 5 f fd ["panel", "numbers", "rows"] (sp_answer_many K) := by
  refine F.ok sc_answer_many (fun vs H Q E h => ?_) (fun cdv A outer s H vs Q E hr h => ⟨_, (pss_cons (ps_set (i := 3) sc_answer_many.nd rfl (Or.inl rfl) (pe_ix ix_list (pv 1) pe_int (fun _ _ => rfl)))
        (pss_cons (ps_set (i := 4) sc_answer_many.nd rfl (Or.inl rfl) (pe_def D_nose_refusal hr (pa_cons (pv 0) (pa_cons (pv 3) pa_nil))))
        (pss_cons (ps_if (pt_cmpR op_ne (pv 4) (pe_const T.c_ALL_WELL) (nomark _)) (pss_one (ps_ret (pe_def D_refused hr (pa_cons (pv 4) pa_nil)))) pss_nil)
        (pss_one (ps_ret (pe_def D_answered hr (pa_cons (pe_lst (pa_cons (pe_def D_count_orders hr (pa_cons (pe_def D_needs_of hr (pa_cons (pv 0) (pa_cons (pv 3) pa_nil))) pa_nil)) pa_nil)) pa_nil))))))), ?_⟩)
  · obtain ⟨_, _, _, _, _, _, rfl, _⟩ := h
    rfl
  · obtain ⟨p, u, r, h, s, k, rfl, hP, R, hu, g⟩ := h
    refine q_asg (e_at0 (v0 1 rfl) hu) fun H1 e1 => ?_
    refine q_asg (c2 (v0 0 rfl) (v0 3 rfl) (sv_nose_refusal (hP.mono e1))) fun H2 e2 => ?_
    refine q_gate rfl g (e1.trans e2) rfl fun h0 g H3 e3 => ?_
    have e13 := (e1.trans e2).trans e3
    refine p_ret (p_answered (l := [cnt (ndOf s h)]) (p_new (el_lst (ea_cons (p_c1v (p_needs (v0 0 rfl) (v0 3 rfl) (hP.mono e13) R.ok (noseNo_ok h0)) fun v H4 e4 ⟨d, ev, hd⟩ => ?_) ea_nil) (by show 1 ≤ 100000; decide))) (by show 1 ≤ 1000; decide)) fun v H5 e5 hv => g v H5 (e13.trans e5) (hv.back (e13.trans (Ex.refl _)))
    rw [ev]
    exact sv_count_orders hd (by rw [ndOf_len]; exact R.ok.n)
theorem sc_answer_first : FnScope ["panel", "numbers", "rows", "number", "why"] ["panel", "numbers", "rows"] (defScope s_answer_first) := ⟨rfl, rfl, rfl, by decide +kernel, rfl, by decide +kernel, by decide +kernel⟩
def sp_answer_first (K : PySem.W.Frag) : Sp := fun vs H Q _ => ∃ (p u : Addr) (r : V) (h : Nat) (s : MS) (k : SK), vs = [.ref p, .ref u, r] ∧ PanelAt K H p s k ∧ Ready s ∧ H u = some (.lst (nL [h])) ∧ RetP (IsF H (aFirst s h)) H Q
theorem ok_answer_first {f : Addr} {fd : FuncData} (F : Fun K "answer_first" "answer_first" s_answer_first f fd) (T : Txt K mg) (D_sound_refusal : DefK P w K mg base "sound_refusal" 4 ["panel", "number"] (sp_sound_refusal K)) (D_answered : DefK P w K mg base "answered" 1 ["numbers"] (sp_answered K)) (D_refused : DefK P w K mg base "refused" 1 ["why"] (sp_refused K)) (D_first_order : DefK P w K mg base "first_order" 4 ["needed"] (sp_first_order K)) (D_needs_of : DefK P w K mg base "needs_of" 4 ["panel", "number"] (sp_needs_of K))  : FnOk P w K mg base CX0 5 f fd ["panel", "numbers", "rows"] (sp_answer_first K) := by
  refine F.ok sc_answer_first (fun vs H Q E h => ?_) (fun cdv A outer s H vs Q E hr h => ⟨_, (pss_cons (ps_set (i := 3) sc_answer_first.nd rfl (Or.inl rfl) (pe_ix ix_list (pv 1) pe_int (fun _ _ => rfl)))
        (pss_cons (ps_set (i := 4) sc_answer_first.nd rfl (Or.inl rfl) (pe_def D_sound_refusal hr (pa_cons (pv 0) (pa_cons (pv 3) pa_nil))))
        (pss_cons (ps_if (pt_cmpR op_ne (pv 4) (pe_const T.c_ALL_WELL) (nomark _)) (pss_one (ps_ret (pe_def D_refused hr (pa_cons (pv 4) pa_nil)))) pss_nil)
        (pss_one (ps_ret (pe_def D_answered hr (pa_cons (pe_def D_first_order hr (pa_cons (pe_def D_needs_of hr (pa_cons (pv 0) (pa_cons (pv 3) pa_nil))) pa_nil)) pa_nil))))))), ?_⟩)
  · obtain ⟨_, _, _, _, _, _, rfl, _⟩ := h
    rfl
  · obtain ⟨p, u, r, h, s, k, rfl, hP, R, hu, g⟩ := h
    have hn := R.ok.n
    refine q_asg (e_at0 (v0 1 rfl) hu) fun H1 e1 => ?_
    refine q_asg (c2 (v0 0 rfl) (v0 3 rfl) (sv_sound_refusal (hP.mono e1) R.ok)) fun H2 e2 => ?_
    refine q_gate rfl g (e1.trans e2) rfl fun h0 g H3 e3 => ?_
    have e13 := (e1.trans e2).trans e3
    refine p_ret (p_answered (l := firstOrder (ndOf s h)) (p_c1 (p_needs (v0 0 rfl) (v0 3 rfl) (hP.mono e13) R.ok (soundNo_ok h0).1) fun v H4 e4 ⟨d, ev, hd⟩ => ?_) (by rw [firstOrder_len, ndOf_len]; omega)) fun v H5 e5 hv => g v H5 (e13.trans e5) (hv.back (e13.trans (Ex.refl _)))
    rw [ev]
    exact sv_first_order hd (by rw [ndOf_len]; exact hn)
theorem sc_answer_ask : FnScope ["panel", "numbers", "rows", "number", "why", "told"] ["panel", "numbers", "rows"] (defScope s_answer_ask) := ⟨rfl, rfl, rfl, by decide +kernel, rfl, by decide +kernel, by decide +kernel⟩
def sp_answer_ask (K : PySem.W.Frag) : Sp := fun vs H Q _ => ∃ (p u : Addr) (r : V) (h : Nat) (s : MS) (k : SK), vs = [.ref p, .ref u, r] ∧ PanelAt K H p s k ∧ Ready s ∧ H u = some (.lst (nL [h])) ∧ RetP (IsF H (aAsk s h)) H Q
theorem ok_answer_ask {f : Addr} {fd : FuncData} (F : Fun K "answer_ask" "answer_ask" s_answer_ask f fd) (T : Txt K mg) (D_sound_refusal : DefK P w K mg base "sound_refusal" 4 ["panel", "number"] (sp_sound_refusal K)) (D_pair_to_ask : DefK P w K mg base "pair_to_ask" 6 ["needed"] (sp_pair_to_ask K)) (D_answered : DefK P w K mg base "answered" 1 ["numbers"] (sp_answered K)) (D_refused : DefK P w K mg base "refused" 1 ["why"] (sp_refused K)) (D_needs_of : DefK P w K mg base "needs_of" 4 ["panel", "number"] (sp_needs_of K))  : FnOk P w K mg base CX0 7 f fd ["panel", "numbers", "rows"] (sp_answer_ask K) := by
  refine F.ok sc_answer_ask (fun vs H Q E h => ?_) (fun cdv A outer s H vs Q E hr h => ⟨_, (pss_cons (ps_set (i := 3) sc_answer_ask.nd rfl (Or.inl rfl) (pe_ix ix_list (pv 1) pe_int (fun _ _ => rfl)))
        (pss_cons (ps_set (i := 4) sc_answer_ask.nd rfl (Or.inl rfl) (pe_def D_sound_refusal hr (pa_cons (pv 0) (pa_cons (pv 3) pa_nil))))
        (pss_cons (ps_if (pt_cmpR op_ne (pv 4) (pe_const T.c_ALL_WELL) (nomark _)) (pss_one (ps_ret (pe_def D_refused hr (pa_cons (pv 4) pa_nil)))) pss_nil)
        (pss_cons (ps_set (i := 5) sc_answer_ask.nd rfl (Or.inl rfl) (pe_def D_pair_to_ask hr (pa_cons (pe_def D_needs_of hr (pa_cons (pv 0) (pa_cons (pv 3) pa_nil))) pa_nil)))
        (pss_cons (ps_if (pt_cmpR op_eq (pe_callB call_len_seq (by rfl) T.len (by decide +kernel) (pa_cons (pv 5) pa_nil)) pe_int (nomark _)) (pss_one (ps_ret (pe_def D_refused hr (pa_cons (pe_const T.c_CANNOT_BE) pa_nil)))) pss_nil)
        (pss_one (ps_ret (pe_def D_answered hr (pa_cons (pv 5) pa_nil))))))))), ?_⟩)
  · obtain ⟨_, _, _, _, _, _, rfl, _⟩ := h
    rfl
  · obtain ⟨p, u, r, h, s, k, rfl, hP, R, hu, g⟩ := h
    have hn := R.ok.n
    refine q_asg (e_at0 (v0 1 rfl) hu) fun H1 e1 => ?_
    refine q_asg (c2 (v0 0 rfl) (v0 3 rfl) (sv_sound_refusal (hP.mono e1) R.ok)) fun H2 e2 => ?_
    refine q_gate rfl g (e1.trans e2) rfl fun h0 g H3 e3 => ?_
    have e13 := (e1.trans e2).trans e3
    obtain ⟨hh, hs⟩ := soundNo_ok h0
    refine pq_asg (p_c1 (R := IsN (pairToAsk (ndOf s h))) (p_needs (v0 0 rfl) (v0 3 rfl) (hP.mono e13) R.ok hh) fun v H4 e4 ⟨d, ev, hd⟩ => ?_) ?_
    · rw [ev]
      exact sv_pair_to_ask hd (by rw [ndOf_len]; exact hn) (R.sound h hh hs).1
    · rintro _ H4 e4 ⟨d, rfl, hd⟩
      refine q_when (et_test (ev_op (e_lenL (v0 5 rfl) (SqL.of hd)) (e_n (a := 0) rfl) r_eq)) (fun hb H5 e5 => ?_) (fun hb H5 e5 => ?_)
      · rw [if_pos (of_decide_eq_true hb)] at g
        exact p_ret (p_v1 ev_c sv_refused) fun v H6 e6 hv => g v H6 (e13.trans (e4.trans (e5.trans e6))) (hv.back (e13.trans (e4.trans (e5.trans (Ex.refl _)))))
      · rw [if_neg (of_decide_eq_false hb)] at g
        exact p_ret (p_answered (p_var rfl (e5 _ _ hd)) (by have := pairToAsk_len (ndOf s h); omega)) fun v H6 e6 hv => g v H6 (e13.trans (e4.trans (e5.trans e6))) (hv.back (e13.trans (e4.trans (e5.trans (Ex.refl _)))))
theorem sc_answer_place : FnScope ["panel", "numbers", "rows", "number", "sample", "why"] ["panel", "numbers", "rows"] (defScope s_answer_place) := ⟨rfl, rfl, rfl, by decide +kernel, rfl, by decide +kernel, by decide +kernel⟩
def sp_answer_place (K : PySem.W.Frag) : Sp := fun vs H Q _ => ∃ (p u : Addr) (r : V) (h a : Nat) (s : MS) (k : SK), vs = [.ref p, .ref u, r] ∧ PanelAt K H p s k ∧ Ready s ∧ H u = some (.lst (nL [h, a])) ∧ RetP (IsF H (aPlace s h a)) H Q
theorem ok_answer_place {f : Addr} {fd : FuncData} (F : Fun K "answer_place" "answer_place" s_answer_place f fd) (T : Txt K mg) (D_nose_refusal : DefK P w K mg base "nose_refusal" 1 ["panel", "nose"] (sp_nose_refusal K)) (D_sound_refusal : DefK P w K mg base "sound_refusal" 4 ["panel", "number"] (sp_sound_refusal K)) (D_answered : DefK P w K mg base "answered" 1 ["numbers"] (sp_answered K)) (D_refused : DefK P w K mg base "refused" 1 ["why"] (sp_refused K)) (D_places : DefK P w K mg base "places" 5 ["needed", "sample"] (sp_places K)) (D_needs_of : DefK P w K mg base "needs_of" 4 ["panel", "number"] (sp_needs_of K))  : FnOk P w K mg base CX0 6 f fd ["panel", "numbers", "rows"] (sp_answer_place K) := by
  refine F.ok sc_answer_place (fun vs H Q E h => ?_) (fun cdv A outer s H vs Q E hr h => ⟨_, (pss_cons (ps_asg (pv 1) (pg_unl rfl (pgs_cons (pg_name (i := 3) sc_answer_place.nd rfl (Or.inl rfl)) (pgs_cons (pg_name (i := 4) sc_answer_place.nd rfl (Or.inl rfl)) pgs_nil))))
        (pss_cons (ps_set (i := 5) sc_answer_place.nd rfl (Or.inl rfl) (pe_def D_nose_refusal hr (pa_cons (pv 0) (pa_cons (pv 3) pa_nil))))
        (pss_cons (ps_if (pt_cmpR op_ne (pv 5) (pe_const T.c_ALL_WELL) (nomark _)) (pss_one (ps_ret (pe_def D_refused hr (pa_cons (pv 5) pa_nil)))) pss_nil)
        (pss_cons (ps_if (pt_cmpR op_ge (pv 4) (pe_fld (pv 0) rfl) (nomark _)) (pss_one (ps_ret (pe_def D_refused hr (pa_cons (pe_const T.c_NOT_THERE) pa_nil)))) pss_nil)
        (pss_cons (ps_set (i := 5) sc_answer_place.nd rfl (Or.inl rfl) (pe_def D_sound_refusal hr (pa_cons (pv 0) (pa_cons (pv 3) pa_nil))))
        (pss_cons (ps_if (pt_cmpR op_ne (pv 5) (pe_const T.c_ALL_WELL) (nomark _)) (pss_one (ps_ret (pe_def D_refused hr (pa_cons (pv 5) pa_nil)))) pss_nil)
        (pss_one (ps_ret (pe_def D_answered hr (pa_cons (pe_def D_places hr (pa_cons (pe_def D_needs_of hr (pa_cons (pv 0) (pa_cons (pv 3) pa_nil))) (pa_cons (pv 4) pa_nil))) pa_nil)))))))))), ?_⟩)
  · obtain ⟨_, _, _, _, _, _, _, rfl, _⟩ := h
    rfl
  · obtain ⟨p, u, r, h, a, s, k, rfl, hP, R, hu, g⟩ := h
    have hn := R.ok.n
    refine q_unl2 (v0 1 rfl) hu fun H1 e1 => ?_
    refine q_asg (c2 (v0 0 rfl) (v0 3 rfl) (sv_nose_refusal (hP.mono e1))) fun H2 e2 => ?_
    refine q_gate rfl g (e1.trans e2) rfl fun h0 g H3 e3 => ?_
    have e13 := (e1.trans e2).trans e3
    refine q_when (et_test (ev_op (v0 4 rfl) (e_samples T (v0 0 rfl) (hP.mono e13)) r_ge)) (fun hb H4 e4 => ?_) (fun hb H4 e4 => ?_)
    · rw [if_pos (of_decide_eq_true hb)] at g
      exact p_ret (p_v1 ev_c sv_refused) fun v H5 e5 hv => g v H5 (e13.trans (e4.trans e5)) (hv.back (e13.trans (e4.trans (Ex.refl _))))
    · have ha := of_decide_eq_false hb
      rw [if_neg ha] at g
      have e14 := e13.trans e4
      refine q_asg (c2 (v0 0 rfl) (v0 3 rfl) (sv_sound_refusal (hP.mono e14) R.ok)) fun H5 e5 => ?_
      refine q_gate rfl g (e14.trans e5) rfl fun h1 g H6 e6 => ?_
      have e16 := (e14.trans e5).trans e6
      obtain ⟨hh, hs⟩ := soundNo_ok h1
      refine p_ret (p_answered (l := places (ndOf s h) a) (p_c12 (R := IsN (places (ndOf s h) a)) (p_needs (v0 0 rfl) (v0 3 rfl) (hP.mono e16) R.ok hh) (fun H7 e7 => v0 4 rfl) (fun v H7 e7 ⟨d, ev, hd⟩ => ?_) (fun v Ha Hb e hv => hv.mono e)) (by show 4 ≤ 1000; decide)) fun v H8 e8 hv => g v H8 (e16.trans e8) (hv.back (e16.trans (Ex.refl _)))
      rw [ev]
      exact sv_places hd (by rw [ndOf_len]; exact hn) (by rw [ndOf_len]; omega) (R.sound h hh hs).1
theorem sc_answer_chance : FnScope ["panel", "numbers", "rows", "number", "a", "b", "why"] ["panel", "numbers", "rows"] (defScope s_answer_chance) := ⟨rfl, rfl, rfl, by decide +kernel, rfl, by decide +kernel, by decide +kernel⟩
def sp_answer_chance (K : PySem.W.Frag) : Sp := fun vs H Q _ => ∃ (p u : Addr) (r : V) (h a b : Nat) (s : MS) (k : SK), vs = [.ref p, .ref u, r] ∧ PanelAt K H p s k ∧ Ready s ∧ H u = some (.lst (nL [h, a, b])) ∧ RetP (IsF H (aChance s h a b)) H Q
theorem p_c123 {σ : L2.St} {H : Hp} {ta tb tc : TE} {sp : Sp} {E : XK} {P R : VP} {y z : V} (h : EvP ta σ H P) (h2 : ∀ H1, Ex H H1 → Ev tb σ H1 y) (h3 : ∀ H1, Ex H H1 → Ev tc σ H1 z) (s : ∀ v H1, Ex H H1 → P v H1 → SpP sp [v, y, z] H1 R) (hm : ∀ v H1 H2, Ex H1 H2 → P v H1 → P v H2) : EvP (tCall sp [] E (tCons ta (tCons tb (tCons tc tNil)))) σ H R := fun H1 e Q q =>
  h H1 e _ fun v H2 e2 p => h2 H2 (e.trans e2) H2 (Ex.refl H2) _ fun H3 e3 => h3 H3 ((e.trans e2).trans e3) H3 (Ex.refl H3) _ fun H4 e4 => s v H4 (((e.trans e2).trans e3).trans e4) (hm v H2 H4 (e3.trans e4) p) H4 (Ex.refl H4) Q (fun z H5 e5 r => q z H5 (((e2.trans e3).trans e4).trans e5) r) E
theorem ok_answer_chance {f : Addr} {fd : FuncData} (F : Fun K "answer_chance" "answer_chance" s_answer_chance f fd) (T : Txt K mg) (D_sound_pair_refusal : DefK P w K mg base "sound_pair_refusal" 5 ["panel", "number", "a", "b"] (sp_sound_pair_refusal K)) (D_answered : DefK P w K mg base "answered" 1 ["numbers"] (sp_answered K)) (D_refused : DefK P w K mg base "refused" 1 ["why"] (sp_refused K)) (D_chance_before : DefK P w K mg base "chance_before" 5 ["needed", "a", "b"] (sp_chance_before K)) (D_needs_of : DefK P w K mg base "needs_of" 4 ["panel", "number"] (sp_needs_of K))  : FnOk P w K mg base CX0 6 f fd ["panel", "numbers", "rows"] (sp_answer_chance K) := by
  refine F.ok sc_answer_chance (fun vs H Q E h => ?_) (fun cdv A outer s H vs Q E hr h => ⟨_, (pss_cons (ps_asg (pv 1) (pg_unl rfl (pgs_cons (pg_name (i := 3) sc_answer_chance.nd rfl (Or.inl rfl)) (pgs_cons (pg_name (i := 4) sc_answer_chance.nd rfl (Or.inl rfl)) (pgs_cons (pg_name (i := 5) sc_answer_chance.nd rfl (Or.inl rfl)) pgs_nil)))))
        (pss_cons (ps_set (i := 6) sc_answer_chance.nd rfl (Or.inl rfl) (pe_def D_sound_pair_refusal hr (pa_cons (pv 0) (pa_cons (pv 3) (pa_cons (pv 4) (pa_cons (pv 5) pa_nil))))))
        (pss_cons (ps_if (pt_cmpR op_ne (pv 6) (pe_const T.c_ALL_WELL) (nomark _)) (pss_one (ps_ret (pe_def D_refused hr (pa_cons (pv 6) pa_nil)))) pss_nil)
        (pss_one (ps_ret (pe_def D_answered hr (pa_cons (pe_def D_chance_before hr (pa_cons (pe_def D_needs_of hr (pa_cons (pv 0) (pa_cons (pv 3) pa_nil))) (pa_cons (pv 4) (pa_cons (pv 5) pa_nil)))) pa_nil))))))), ?_⟩)
  · obtain ⟨_, _, _, _, _, _, _, _, rfl, _⟩ := h
    rfl
  · obtain ⟨p, u, r, h, a, b, s, k, rfl, hP, R, hu, g⟩ := h
    have hn := R.ok.n
    refine q_unl3 (v0 1 rfl) hu fun H1 e1 => ?_
    refine q_asg (c4 (v0 0 rfl) (v0 3 rfl) (v0 4 rfl) (v0 5 rfl) (sv_sound_pair_refusal (hP.mono e1) R.ok)) fun H2 e2 => ?_
    refine q_gate rfl g (e1.trans e2) rfl fun h0 g H3 e3 => ?_
    have e13 := (e1.trans e2).trans e3
    obtain ⟨hh, hs, ha, hb, hab⟩ := soundPairNo_ok h0
    refine p_ret (p_answered (l := fraction (cntB (ndOf s h) a b) (cnt (ndOf s h))) (p_c123 (R := IsN (fraction (cntB (ndOf s h) a b) (cnt (ndOf s h)))) (p_needs (v0 0 rfl) (v0 3 rfl) (hP.mono e13) R.ok hh) (fun H7 e7 => v0 4 rfl) (fun H7 e7 => v0 5 rfl) (fun v H7 e7 ⟨d, ev, hd⟩ => ?_) (fun v Ha Hb e hv => hv.mono e)) (by show 2 ≤ 1000; decide)) fun v H8 e8 hv => g v H8 (e13.trans e8) (hv.back (e13.trans (Ex.refl _)))
    rw [ev]
    exact sv_chance_before hd (by rw [ndOf_len]; exact hn) (by rw [ndOf_len]; omega) (by rw [ndOf_len]; omega) (R.sound h hh hs).1
theorem sc_answer_follows : FnScope ["panel", "numbers", "rows", "number", "a", "b", "why", "needed", "before"] ["panel", "numbers", "rows"] (defScope s_answer_follows) := ⟨rfl, rfl, rfl, by decide +kernel, rfl, by decide +kernel, by decide +kernel⟩
def sp_answer_follows (K : PySem.W.Frag) : Sp := fun vs H Q _ => ∃ (p u : Addr) (r : V) (h a b : Nat) (s : MS) (k : SK), vs = [.ref p, .ref u, r] ∧ PanelAt K H p s k ∧ Ready s ∧ H u = some (.lst (nL [h, a, b])) ∧ RetP (IsF H (aFollows s h a b)) H Q
theorem ok_answer_follows {f : Addr} {fd : FuncData} (F : Fun K "answer_follows" "answer_follows" s_answer_follows f fd) (T : Txt K mg) (D_sound_pair_refusal : DefK P w K mg base "sound_pair_refusal" 5 ["panel", "number", "a", "b"] (sp_sound_pair_refusal K)) (D_needs_of : DefK P w K mg base "needs_of" 4 ["panel", "number"] (sp_needs_of K)) (D_count_before : DefK P w K mg base "count_before" 4 ["needed", "a", "b"] (sp_count_before K)) (D_answered : DefK P w K mg base "answered" 1 ["numbers"] (sp_answered K)) (D_refused : DefK P w K mg base "refused" 1 ["why"] (sp_refused K)) (D_count_orders : DefK P w K mg base "count_orders" 3 ["needed"] (sp_count_orders K))  : FnOk P w K mg base CX0 6 f fd ["panel", "numbers", "rows"] (sp_answer_follows K) := by
  refine F.ok sc_answer_follows (fun vs H Q E h => ?_) (fun cdv A outer s H vs Q E hr h => ⟨_, (pss_cons (ps_asg (pv 1) (pg_unl rfl (pgs_cons (pg_name (i := 3) sc_answer_follows.nd rfl (Or.inl rfl)) (pgs_cons (pg_name (i := 4) sc_answer_follows.nd rfl (Or.inl rfl)) (pgs_cons (pg_name (i := 5) sc_answer_follows.nd rfl (Or.inl rfl)) pgs_nil)))))
        (pss_cons (ps_set (i := 6) sc_answer_follows.nd rfl (Or.inl rfl) (pe_def D_sound_pair_refusal hr (pa_cons (pv 0) (pa_cons (pv 3) (pa_cons (pv 4) (pa_cons (pv 5) pa_nil))))))
        (pss_cons (ps_if (pt_cmpR op_ne (pv 6) (pe_const T.c_ALL_WELL) (nomark _)) (pss_one (ps_ret (pe_def D_refused hr (pa_cons (pv 6) pa_nil)))) pss_nil)
        (pss_cons (ps_set (i := 7) sc_answer_follows.nd rfl (Or.inl rfl) (pe_def D_needs_of hr (pa_cons (pv 0) (pa_cons (pv 3) pa_nil))))
        (pss_cons (ps_set (i := 8) sc_answer_follows.nd rfl (Or.inl rfl) (pe_def D_count_before hr (pa_cons (pv 7) (pa_cons (pv 4) (pa_cons (pv 5) pa_nil)))))
        (pss_cons (ps_if (pt_cmpR op_eq (pv 8) (pe_def D_count_orders hr (pa_cons (pv 7) pa_nil)) (nomark _)) (pss_one (ps_ret (pe_def D_answered hr (pa_cons (pe_lst (pa_cons (pe_const T.c_BEFORE) pa_nil)) pa_nil)))) pss_nil)
        (pss_cons (ps_if (pt_cmpR op_eq (pv 8) pe_int (nomark _)) (pss_one (ps_ret (pe_def D_answered hr (pa_cons (pe_lst (pa_cons (pe_const T.c_BEHIND) pa_nil)) pa_nil)))) pss_nil)
        (pss_one (ps_ret (pe_def D_answered hr (pa_cons (pe_lst (pa_cons (pe_const T.c_EITHER) pa_nil)) pa_nil))))))))))), ?_⟩)
  · obtain ⟨_, _, _, _, _, _, _, _, rfl, _⟩ := h
    rfl
  · obtain ⟨p, u, r, h, a, b, s, k, rfl, hP, R, hu, g⟩ := h
    have hn := R.ok.n
    refine q_unl3 (v0 1 rfl) hu fun H1 e1 => ?_
    refine q_asg (c4 (v0 0 rfl) (v0 3 rfl) (v0 4 rfl) (v0 5 rfl) (sv_sound_pair_refusal (hP.mono e1) R.ok)) fun H2 e2 => ?_
    refine q_gate rfl g (e1.trans e2) rfl fun h0 g H3 e3 => ?_
    have e13 := (e1.trans e2).trans e3
    obtain ⟨hh, hs, ha, hb, hab⟩ := soundPairNo_ok h0
    have hl : (ndOf s h).length ≤ 8 := by rw [ndOf_len]; exact hn
    refine pq_asg (p_needs (v0 0 rfl) (v0 3 rfl) (hP.mono e13) R.ok hh) ?_
    rintro _ H4 e4 ⟨d, rfl, hd⟩
    refine q_asg (c3 (v0 7 rfl) (v0 4 rfl) (v0 5 rfl) (sv_count_before hd hl (by rw [ndOf_len]; omega) (by rw [ndOf_len]; omega))) fun H5 e5 => ?_
    refine q_when (et_test (ev_op (v0 8 rfl) (c1 (v0 7 rfl) (sv_count_orders (e5 _ _ hd) hl)) r_eq)) (fun hc H6 e6 => ?_) (fun hc H6 e6 => ?_)
    · have ez : followsOf (ndOf s h) a b = 1 := if_pos (of_decide_eq_true hc)
      rw [ez] at g
      exact p_ret (p_answered (l := [1]) (p_new (el_lst (ea_cons (e_n (a := 1) rfl) ea_nil) (by show 1 ≤ 100000; decide))) (by show 1 ≤ 1000; decide)) fun v H7 e7 hv => g v H7 (e13.trans (e4.trans (e5.trans (e6.trans e7)))) (hv.back (e13.trans (e4.trans (e5.trans (e6.trans (Ex.refl _))))))
    · refine q_when (et_test (ev_op (v0 8 rfl) (e_n (a := 0) rfl) r_eq)) (fun hd2 H7 e7 => ?_) (fun hd2 H7 e7 => ?_)
      · have ez : followsOf (ndOf s h) a b = 0 := (if_neg (of_decide_eq_false hc)).trans (if_pos (of_decide_eq_true hd2))
        rw [ez] at g
        exact p_ret (p_answered (l := [0]) (p_new (el_lst (ea_cons (e_n (a := 0) rfl) ea_nil) (by show 1 ≤ 100000; decide))) (by show 1 ≤ 1000; decide)) fun v H8 e8 hv => g v H8 (e13.trans (e4.trans (e5.trans (e6.trans (e7.trans e8))))) (hv.back (e13.trans (e4.trans (e5.trans (e6.trans (e7.trans (Ex.refl _)))))))
      · have ez : followsOf (ndOf s h) a b = 2 := (if_neg (of_decide_eq_false hc)).trans (if_neg (of_decide_eq_false hd2))
        rw [ez] at g
        exact p_ret (p_answered (l := [2]) (p_new (el_lst (ea_cons (e_n (a := 2) rfl) ea_nil) (by show 1 ≤ 100000; decide))) (by show 1 ≤ 1000; decide)) fun v H8 e8 hv => g v H8 (e13.trans (e4.trans (e5.trans (e6.trans (e7.trans e8))))) (hv.back (e13.trans (e4.trans (e5.trans (e6.trans (e7.trans (Ex.refl _)))))))
theorem flat2_len (l : List (Nat × Nat)) : (flat2 l).length = 2 * l.length := by
  induction l with
  | nil => rfl
  | cons x r ih =>
    show (x.1 :: x.2 :: flat2 r).length = _
    rw [List.length_cons, List.length_cons, ih, List.length_cons]
    omega
theorem flat2_snoc (l : List (Nat × Nat)) (x : Nat × Nat) : flat2 (l ++ [x]) = flat2 l ++ [x.1] ++ [x.2] := by
  unfold flat2
  rw [List.flatMap_append, List.flatMap_singleton, List.append_assoc]
  rfl
theorem sc_answer_mend : FnScope ["panel", "numbers", "rows", "number", "why", "said", "pairs", "told", "over", "under"] ["panel", "numbers", "rows"] (defScope s_answer_mend) := ⟨rfl, rfl, rfl, by decide +kernel, rfl, by decide +kernel, by decide +kernel⟩
def sp_answer_mend (K : PySem.W.Frag) : Sp := fun vs H Q _ => ∃ (p u : Addr) (r : V) (h : Nat) (s : MS) (k : SK), vs = [.ref p, .ref u, r] ∧ PanelAt K H p s k ∧ Ready s ∧ H u = some (.lst (nL [h])) ∧ RetP (IsF H (aMend s h)) H Q
theorem ok_answer_mend {f : Addr} {fd : FuncData} (F : Fun K "answer_mend" "answer_mend" s_answer_mend f fd) (T : Txt K mg) (D_nose_refusal : DefK P w K mg base "nose_refusal" 1 ["panel", "nose"] (sp_nose_refusal K)) (D_pairs_against : DefK P w K mg base "pairs_against" 1 ["said", "order"] (sp_pairs_against K)) (D_answered : DefK P w K mg base "answered" 1 ["numbers"] (sp_answered K)) (D_refused : DefK P w K mg base "refused" 1 ["why"] (sp_refused K)) (D_best_order : DefK P w K mg base "best_order" 6 ["table", "needed"] (sp_best_order K)) (D_nothing_needed : DefK P w K mg base "nothing_needed" 1 ["samples"] (sp_nothing_needed K))  : FnOk P w K mg base CX0 7 f fd ["panel", "numbers", "rows"] (sp_answer_mend K) := by
  refine F.ok sc_answer_mend (fun vs H Q E h => ?_) (fun cdv A outer s H vs Q E hr h => ⟨_, (pss_cons (ps_set (i := 3) sc_answer_mend.nd rfl (Or.inl rfl) (pe_ix ix_list (pv 1) pe_int (fun _ _ => rfl)))
        (pss_cons (ps_set (i := 4) sc_answer_mend.nd rfl (Or.inl rfl) (pe_def D_nose_refusal hr (pa_cons (pv 0) (pa_cons (pv 3) pa_nil))))
        (pss_cons (ps_if (pt_cmpR op_ne (pv 4) (pe_const T.c_ALL_WELL) (nomark _)) (pss_one (ps_ret (pe_def D_refused hr (pa_cons (pv 4) pa_nil)))) pss_nil)
        (pss_cons (ps_set (i := 5) sc_answer_mend.nd rfl (Or.inl rfl) (pe_fld (pe_ix ix_list (pe_fld (pv 0) rfl) (pv 3) (fun _ _ => rfl)) rfl))
        (pss_cons (ps_set (i := 6) sc_answer_mend.nd rfl (Or.inl rfl) (pe_def D_pairs_against hr (pa_cons (pv 5) (pa_cons (pe_def D_best_order hr (pa_cons (pv 5) (pa_cons (pe_def D_nothing_needed hr (pa_cons (pe_fld (pv 0) rfl) pa_nil)) pa_nil))) pa_nil))))
        (pss_cons (ps_set (i := 7) sc_answer_mend.nd rfl (Or.inl rfl) (pe_lst (pa_cons (pe_callB call_len_seq (by rfl) T.len (by decide +kernel) (pa_cons (pv 6) pa_nil)) pa_nil)))
        (pss_cons (ps_for PassesOwn.never rfl (pi_list (pv 6)) (pg_tup rfl (pgs_cons (pg_name (i := 8) sc_answer_mend.nd rfl (Or.inl rfl)) (pgs_cons (pg_name (i := 9) sc_answer_mend.nd rfl (Or.inl rfl)) pgs_nil)))
        (pss_cons (ps_expr (pe_bm PySem.F.plainAttrs_list PySem.F.slot_list_append PySem.F.type_list_append mt_append (pv 7) (pa_cons (pv 8) pa_nil)))
        (pss_one (ps_expr (pe_bm PySem.F.plainAttrs_list PySem.F.slot_list_append PySem.F.type_list_append mt_append (pv 7) (pa_cons (pv 9) pa_nil))))))
        (pss_one (ps_ret (pe_def D_answered hr (pa_cons (pv 7) pa_nil))))))))))), ?_⟩)
  · obtain ⟨_, _, _, _, _, _, rfl, _⟩ := h
    rfl
  · obtain ⟨p, u, r, h, s, k, rfl, hP, R, hu, g⟩ := h
    have hn := R.ok.n
    refine q_asg (e_at0 (v0 1 rfl) hu) fun H1 e1 => ?_
    refine q_asg (c2 (v0 0 rfl) (v0 3 rfl) (sv_nose_refusal (hP.mono e1))) fun H2 e2 => ?_
    refine q_gate rfl g (e1.trans e2) rfl fun h0 g H3 e3 => ?_
    have e13 := (e1.trans e2).trans e3
    have hh := noseNo_ok h0
    obtain ⟨q, hq, hv, hx, hN⟩ := (hP.mono e13).at_ hh
    have B := R.mend h hh
    have hz : (mendPairs s h).length ≤ s.n * s.n := pairsAgainst_len _ _ _ _
    have hz2 : s.n * s.n ≤ 8 * 8 := Nat.mul_le_mul hn hn
    refine q_asg (e_said T (e_nose T (v0 0 rfl) (hP.mono e13) (v0 3 rfl) hv) hN) fun H4 e4 => ?_
    have hM : Mat H4 q.l s.n (noseAt s h).said := hN.mat.mono e4
    refine pq_asg (p_c2 (R := IsR (PairsO (mendPairs s h))) (v0 5 rfl) (p_c2 (R := IsN (bestOrder (noseAt s h).said (nothing s.n))) (v0 5 rfl) (p_v1 (e_samples T (v0 0 rfl) (hP.mono (e13.trans e4))) (sv_nothing_needed hn)) fun v H5 e5 ⟨d, ev, hd⟩ => ?_) fun v H5 e5 ⟨d, ev, hd⟩ => ?_) ?_
    · rw [ev]
      exact sv_best_order (by rw [nothing_len]; exact hM.mono e5) hd (by rw [nothing_len]; exact hn) B.ok
    · rw [ev]
      exact sv_pairs_against (hM.mono e5) hd (fun x hx => B.all x (by rw [nothing_len]; exact hx)) hn
    · rintro _ H5 e5 ⟨d, rfl, hd⟩
      have e15 := e13.trans (e4.trans e5)
      obtain ⟨xs, hxs, hxl⟩ := hd.list
      rw [pairsO_len] at hxl
      refine q_asgL (xs := nL [(mendPairs s h).length]) (el_lst (ea_cons (e_len (v0 6 rfl) (SqL.of hxs) hxl) ea_nil) (by show 1 ≤ 100000; decide)) fun t H6 ht e6 h6 => ?_
      refine q_forR (os := PairsO (mendPairs s h)) (v0 6 rfl) hd e6 (fun i σ' H' => ∃ y z, σ' = [some (.ref p), some (.ref u), some r, some (nV h), some (.int (noseNo s h)), some (.ref q.l), some (.ref d), some (.ref t), y, z] ∧ Ex H5 H' ∧ H' t = some (.lst (nL ((mendPairs s h).length :: flat2 ((mendPairs s h).take i)))))
        (fun H7 e7 => ⟨none, none, rfl, e6.trans e7, e7 _ _ h6⟩) (fun i σ' H' ⟨_, _, _, e, _⟩ => e) ?_ ?_
      · rintro i a o σ' H' ho ha ⟨y, z, rfl, e, ht2⟩
        obtain ⟨x, hx, rfl⟩ := pairsO_at ho
        have hil : (flat2 ((mendPairs s h).take i)).length ≤ 128 := by
          rw [flat2_len, List.length_take]
          omega
        refine ⟨a, _, rfl, SqT.of (e _ _ ha), rfl, _, _, rfl, _, _, rfl, rfl, ?_⟩
        refine q_appN ht2 (v0 7 rfl) (v0 8 rfl) (by rw [List.length_cons]; omega) fun H7 up h7 => ?_
        refine s_appN h7 (v0 7 rfl) (v0 9 rfl) (by rw [List.length_append, List.length_cons]; show _ + 1 + 1 < _; omega) fun H8 up8 h8 => ?_
        refine ⟨_, _, rfl, up8 H5 (up H5 e ht) ht, ?_⟩
        rw [take_snoc hx, flat2_snoc]
        exact h8
      · rintro σ' H' ⟨y, z, rfl, e, ht2⟩
        rw [pairsO_len, List.take_length] at ht2
        exact p_ret (p_answered (p_var rfl ht2) (by rw [List.length_cons, flat2_len]; omega)) fun v H7 e7 hv => g v H7 (e15.trans (e.trans e7)) (hv.back (e15.trans (e.trans (Ex.refl _))))
theorem sc_told_best : FnScope ["panel", "needed", "table", "order"] ["panel", "needed"] (defScope s_told_best) := ⟨rfl, rfl, rfl, by decide +kernel, rfl, by decide +kernel, by decide +kernel⟩
def sp_told_best (K : PySem.W.Frag) : Sp := fun vs H Q _ => ∃ (p d : Addr) (nd : List Nat) (s : MS) (k : SK), vs = [.ref p, .ref d] ∧ PanelAt K H p s k ∧ MOk s ∧ H d = some (.lst (nL nd)) ∧ nd.length = s.n ∧ BestFull (weightOver s.noses) nd ∧ RetP (IsF H (told s nd)) H Q
theorem sv_told_best {H : Hp} {p d : Addr} {nd : List Nat} {s : MS} {k : SK} (hP : PanelAt K H p s k) (ok : MOk s) (hd : H d = some (.lst (nL nd))) (hl : nd.length = s.n) (B : BestFull (weightOver s.noses) nd) : SpP (sp_told_best K) [.ref p, .ref d] H (IsF H (told s nd)) :=
  fun _ e _ q _ => ⟨p, d, nd, s, k, rfl, hP.mono e, ok, e _ _ hd, hl, B, fun v H2 e2 hv => q v H2 e2 (hv.back e)⟩
theorem ok_told_best {f : Addr} {fd : FuncData} (F : Fun K "told_best" "told_best" s_told_best f fd) (T : Txt K mg) (D_weight_table : DefK P w K mg base "weight_table" 3 ["panel"] (sp_weight_table K)) (D_best_order : DefK P w K mg base "best_order" 6 ["table", "needed"] (sp_best_order K)) (D_answered : DefK P w K mg base "answered" 1 ["numbers"] (sp_answered K)) (D_said_against : DefK P w K mg base "said_against" 1 ["table", "order"] (sp_said_against K))  : FnOk P w K mg base CX0 7 f fd ["panel", "needed"] (sp_told_best K) := by
  refine F.ok sc_told_best (fun vs H Q E h => ?_) (fun cdv A outer s H vs Q E hr h => ⟨_, (pss_cons (ps_set (i := 2) sc_told_best.nd rfl (Or.inl rfl) (pe_def D_weight_table hr (pa_cons (pv 0) pa_nil)))
        (pss_cons (ps_set (i := 3) sc_told_best.nd rfl (Or.inl rfl) (pe_def D_best_order hr (pa_cons (pv 2) (pa_cons (pv 1) pa_nil))))
        (pss_one (ps_ret (pe_def D_answered hr (pa_cons (pe_op op_cat (pe_lst (pa_cons (pe_def D_said_against hr (pa_cons (pv 2) (pa_cons (pv 3) pa_nil))) pa_nil)) (pv 3)) pa_nil)))))), ?_⟩)
  · obtain ⟨_, _, _, _, _, rfl, _⟩ := h
    rfl
  · obtain ⟨p, d, nd, s, k, rfl, hP, ok, hd, hl, B, g⟩ := h
    have hn := ok.n
    have hol : (bestOrder (weightOver s.noses) nd).length = s.n := (bestOrder_len _ _).trans hl
    refine pq_asg (p_v1 (v0 0 rfl) (sv_weight_table hP ok)) ?_
    rintro _ H1 e1 ⟨t, rfl, ht⟩
    have hM : Mat H1 t nd.length (weightOver s.noses) := by rw [hl]; exact ht
    refine pq_asg (p_v2 (v0 2 rfl) (v0 1 rfl) (sv_best_order hM (e1 _ _ hd) (by omega) B.ok)) ?_
    rintro _ H2 e2 ⟨o, rfl, ho⟩
    exact p_ret (p_answered (l := saidAgainst (weightOver s.noses) (bestOrder (weightOver s.noses) nd) (bestOrder (weightOver s.noses) nd).length :: bestOrder (weightOver s.noses) nd) (p_new (p_cat (xs := [nV _]) (ys := nL _) (p_new (el_lst (ea_cons (c2 (v0 2 rfl) (v0 3 rfl) (sv_said_against (hM.mono e2) ho B.lt (by omega))) ea_nil) (by show 1 ≤ 100000; decide))) (p_var rfl ho) (by rw [nL_len, sizeLine_is]; show 1 + _ ≤ _; omega))) (by rw [List.length_cons]; omega)) fun v H3 e3 hv => g v H3 (e1.trans (e2.trans e3)) (hv.back (e1.trans (e2.trans (Ex.refl _))))
theorem sc_answer_best : FnScope ["panel", "numbers", "rows"] ["panel", "numbers", "rows"] (defScope s_answer_best) := ⟨rfl, rfl, rfl, by decide +kernel, rfl, by decide +kernel, by decide +kernel⟩
def sp_answer_best (K : PySem.W.Frag) : Sp := fun vs H Q _ => ∃ (p : Addr) (u r : V) (s : MS) (k : SK), vs = [.ref p, u, r] ∧ PanelAt K H p s k ∧ Ready s ∧ RetP (IsF H (aBest s)) H Q
theorem ok_answer_best {f : Addr} {fd : FuncData} (F : Fun K "answer_best" "answer_best" s_answer_best f fd) (T : Txt K mg) (D_told_best : DefK P w K mg base "told_best" 7 ["panel", "needed"] (sp_told_best K)) (D_nothing_needed : DefK P w K mg base "nothing_needed" 1 ["samples"] (sp_nothing_needed K))  : FnOk P w K mg base CX0 8 f fd ["panel", "numbers", "rows"] (sp_answer_best K) := by
  refine F.ok sc_answer_best (fun vs H Q E h => ?_) (fun cdv A outer s H vs Q E hr h => ⟨_, (pss_one (ps_ret (pe_def D_told_best hr (pa_cons (pv 0) (pa_cons (pe_def D_nothing_needed hr (pa_cons (pe_fld (pv 0) rfl) pa_nil)) pa_nil))))), ?_⟩)
  · obtain ⟨_, _, _, _, _, rfl, _⟩ := h
    rfl
  · obtain ⟨p, u, r, s, k, rfl, hP, R, g⟩ := h
    refine p_ret (p_c2 (R := IsF H (aBest s)) (v0 0 rfl) (p_v1 (e_samples T (v0 0 rfl) hP) (sv_nothing_needed R.ok.n)) fun v H1 e1 ⟨d, ev, hd⟩ => ?_) g
    rw [ev]
    exact (sv_told_best (hP.mono e1) R.ok hd (nothing_len _) R.best).back e1
theorem sc_answer_near : FnScope ["panel", "numbers", "rows", "number", "why"] ["panel", "numbers", "rows"] (defScope s_answer_near) := ⟨rfl, rfl, rfl, by decide +kernel, rfl, by decide +kernel, by decide +kernel⟩
def sp_answer_near (K : PySem.W.Frag) : Sp := fun vs H Q _ => ∃ (p u : Addr) (r : V) (h : Nat) (s : MS) (k : SK), vs = [.ref p, .ref u, r] ∧ PanelAt K H p s k ∧ Ready s ∧ H u = some (.lst (nL [h])) ∧ RetP (IsF H (aNear s h)) H Q
theorem ok_answer_near {f : Addr} {fd : FuncData} (F : Fun K "answer_near" "answer_near" s_answer_near f fd) (T : Txt K mg) (D_sound_refusal : DefK P w K mg base "sound_refusal" 4 ["panel", "number"] (sp_sound_refusal K)) (D_told_best : DefK P w K mg base "told_best" 7 ["panel", "needed"] (sp_told_best K)) (D_refused : DefK P w K mg base "refused" 1 ["why"] (sp_refused K)) (D_needs_of : DefK P w K mg base "needs_of" 4 ["panel", "number"] (sp_needs_of K))  : FnOk P w K mg base CX0 8 f fd ["panel", "numbers", "rows"] (sp_answer_near K) := by
  refine F.ok sc_answer_near (fun vs H Q E h => ?_) (fun cdv A outer s H vs Q E hr h => ⟨_, (pss_cons (ps_set (i := 3) sc_answer_near.nd rfl (Or.inl rfl) (pe_ix ix_list (pv 1) pe_int (fun _ _ => rfl)))
        (pss_cons (ps_set (i := 4) sc_answer_near.nd rfl (Or.inl rfl) (pe_def D_sound_refusal hr (pa_cons (pv 0) (pa_cons (pv 3) pa_nil))))
        (pss_cons (ps_if (pt_cmpR op_ne (pv 4) (pe_const T.c_ALL_WELL) (nomark _)) (pss_one (ps_ret (pe_def D_refused hr (pa_cons (pv 4) pa_nil)))) pss_nil)
        (pss_one (ps_ret (pe_def D_told_best hr (pa_cons (pv 0) (pa_cons (pe_def D_needs_of hr (pa_cons (pv 0) (pa_cons (pv 3) pa_nil))) pa_nil)))))))), ?_⟩)
  · obtain ⟨_, _, _, _, _, _, rfl, _⟩ := h
    rfl
  · obtain ⟨p, u, r, h, s, k, rfl, hP, R, hu, g⟩ := h
    refine q_asg (e_at0 (v0 1 rfl) hu) fun H1 e1 => ?_
    refine q_asg (c2 (v0 0 rfl) (v0 3 rfl) (sv_sound_refusal (hP.mono e1) R.ok)) fun H2 e2 => ?_
    refine q_gate rfl g (e1.trans e2) rfl fun h0 g H3 e3 => ?_
    have e13 := (e1.trans e2).trans e3
    obtain ⟨hh, hs⟩ := soundNo_ok h0
    refine p_ret (p_c2 (R := IsF H3 (told s (ndOf s h))) (v0 0 rfl) (p_needs (v0 0 rfl) (v0 3 rfl) (hP.mono e13) R.ok hh) fun v H4 e4 ⟨d, ev, hd⟩ => ?_) fun v H5 e5 hv => g v H5 (e13.trans e5) (hv.back (e13.trans (Ex.refl _)))
    rw [ev]
    exact (sv_told_best (hP.mono (e13.trans e4)) R.ok hd (ndOf_len s h) (R.sound h hh hs).2).back e4
end
end Np
set_option Elab.async false
set_option linter.all false
set_option maxRecDepth 100000
set_option maxHeartbeats 4000000
namespace Np
open PySem PySem.Spec PyProof.Rows L2 Evl
/-! ### what a call may change of the heap -/
def SK.fp (p : Addr) (k : SK) (b : Addr) : Prop := b = p ∨ b = k.ln ∨ b = k.lt ∨ (∃ q ∈ k.ns, b = q.a ∨ b = q.l ∨ b ∈ q.rows) ∨ b ∈ k.ts
/-- all but these stands -/
def Frm (F : Addr → Prop) (H H' : Hp) : Prop := ∀ b o, H b = some o → ¬ F b → H' b = some o
theorem Frm.of {F : Addr → Prop} {H H' : Hp} (e : Ex H H') : Frm F H H' := fun b o h _ => e b o h
theorem Frm.trans {F G : Addr → Prop} {H H1 H2 : Hp} (a : Frm F H H1) (b : Frm G H1 H2) (h : ∀ x, G x → F x ∨ H x = none) : Frm F H H2 := fun x o e n => b x o (a x o e n) fun g => by
  rcases h x g with z | z
  · exact n z
  · rw [z] at e
    cases e
/-- the heap behind a call: the panel's new state, all else as it was -/
def RetM (K : PySem.W.Frag) (p : Addr) (k : SK) (s : MS) (ans : List Int) (H : Hp) (Q : VK) : Prop :=
  ∀ v H' k', PanelAt K H' p s k' → Frm (k.fp p) H H' → (∀ b, k'.fp p b → k.fp p b ∨ H b = none) → (∀ b o, H b = some o → ¬ k.fp p b → v ≠ .ref b) → (∃ d, v = .ref d ∧ H' d = some (.lst (iL ans))) → Q v H'
theorem RetM.q {K : PySem.W.Frag} {p : Addr} {k : SK} {s : MS} {ans : List Int} {H : Hp} {Q : VK} (h : RetM K p k s ans H Q) (hP : PanelAt K H p s k) : RetP (IsF H ans) H Q := fun v H2 e ⟨d, hv, hd, h2⟩ => h v H2 k (hP.mono e) (Frm.of e) (fun b z => .inl z) (fun b o hb _ z => by
  rw [hv] at z
  cases z
  rw [hb] at hd
  cases hd) ⟨d, hv, h2⟩
theorem IsF.off {F : Addr → Prop} {H Hc H1 : Hp} {l : List Int} {v : V} (h : IsF Hc l v H1) (fr : Frm F H Hc) : ∀ b o, H b = some o → ¬ F b → v ≠ .ref b := fun b o hb nf z => by
  obtain ⟨d, hv, hd, _⟩ := h
  rw [hv] at z
  cases z
  rw [fr b o hb nf] at hd
  cases hd
theorem IsF.li {Hc H1 : Hp} {l : List Int} {v : V} (h : IsF Hc l v H1) : ∃ d, v = .ref d ∧ H1 d = some (.lst (iL l)) := let ⟨d, a, _, b⟩ := h; ⟨d, a, b⟩
/-! ### one row of a nose is changed -/
def up2 (f : Mx) (a b v : Nat) : Mx := fun i j => if i = a ∧ j = b then v else f i j
theorem row_set {n j v : Nat} {g : Nat → Nat} : (row n g).set j (nV v) = row n fun i => if i = j then v else g i := by
  refine List.ext_getElem? fun i => ?_
  unfold row
  rw [List.getElem?_set]
  by_cases h : j = i
  · subst h
    rw [if_pos rfl]
    by_cases hj : j < n
    · rw [if_pos (by rw [List.length_map, List.length_range]; exact hj), List.getElem?_map, List.getElem?_range hj]
      simp
    · rw [if_neg (by rw [List.length_map, List.length_range]; exact hj), List.getElem?_map, List.getElem?_eq_none (by rw [List.length_range]; omega)]
      rfl
  · rw [if_neg h, List.getElem?_map, List.getElem?_map]
    by_cases hi : i < n
    · rw [List.getElem?_range hi]
      show some (nV (g i)) = some (nV (if i = j then v else g i))
      rw [if_neg fun z => h z.symm]
    · rw [List.getElem?_eq_none (by rw [List.length_range]; omega)]
      rfl
theorem NoseAt.setRow {K : PySem.W.Frag} {H : Hp} {q : NS} {n i j v : Nat} {x : MN} {r : Addr} (h : NoseAt K H q n x) (nd : q.rows.Nodup) (hr : q.rows[i]? = some r) : NoseAt K (upd H r (.lst ((row n (x.said i)).set j (nV v)))) q n { x with said := up2 x.said i j v } := by
  obtain ⟨⟨dx, o⟩, li, len, rws, out⟩ := h
  have hrr := rws i r hr
  have hm : r ∈ q.rows := List.mem_of_getElem? hr
  refine ⟨⟨dx, ?_⟩, ?_, len, fun i2 r2 h2 => ?_, out⟩
  · rw [upd_ne (ne_of o hrr (by intro z; cases z))]
    exact o
  · rw [upd_ne fun z => out (by rw [z]; exact hm)]
    exact li
  · by_cases e : i2 = i
    · subst e
      rw [hr] at h2
      cases h2
      rw [upd_same, row_set]
      congr 2
      unfold row
      refine List.map_congr_left fun y _ => ?_
      show nV (if y = j then v else x.said i2 y) = nV (if i2 = i2 ∧ y = j then v else x.said i2 y)
      by_cases c : y = j
      · rw [if_pos c, if_pos ⟨rfl, c⟩]
      · rw [if_neg c, if_neg fun z => c z.2]
    · have hne : r2 ≠ r := fun z => by
        rw [z] at h2
        exact e (nd_ix nd h2 hr)
      rw [upd_ne hne, rws i2 r2 h2]
      congr 2
      unfold row
      refine List.map_congr_left fun y _ => ?_
      show nV (x.said i2 y) = nV (if i2 = i ∧ y = j then v else x.said i2 y)
      rw [if_neg fun z => e z.1]
theorem PanelAt.setNose {K : PySem.W.Frag} {H H' : Hp} {p : Addr} {s : MS} {k : SK} {h : Nat} {q : NS} {x : MN} (hP : PanelAt K H p s k) (hh : h < s.noses.length) (hq : k.ns[h]? = some q) (hN : NoseAt K H' q s.n x) (fr : ∀ b o, H b = some o → b ≠ q.a → b ∉ q.rows → H' b = some o) : PanelAt K H' p (putNose s h x) k := by
  obtain ⟨hnd, hln, hlt, hpa⟩ := hP.own h q hq
  obtain ⟨q', hq', _, hx0, hN0⟩ := hP.at_ hh
  rw [hq] at hq'
  cases hq'
  obtain ⟨dxq, oq⟩ := hN0.ob
  -- what is no list is none of the rows; what is no nose is not the nose
  have nrow : ∀ b o, H b = some o → (∀ xs, o ≠ .lst xs) → b ∉ q.rows := fun b o hb hno hm => by
    obtain ⟨i, hi⟩ := List.getElem?_of_mem hm
    have := hN0.rw_ i b hi
    rw [hb] at this
    exact hno _ (Option.some.inj this)
  have nobj : ∀ b o, H b = some o → (∀ C dx fs, o ≠ .ins C dx fs) → b ≠ q.a := fun b o hb hno z => by
    rw [z, oq] at hb
    exact hno _ _ _ (Option.some.inj hb).symm
  refine ⟨?_, ?_, ?_, fun i r y hr hy => ?_, ?_, hP.lt, fun i a t ha ht => ?_, hP.dis, hP.own, hP.lls⟩
  · obtain ⟨dx, o⟩ := hP.ob
    exact ⟨dx, fr _ _ o hpa (nrow _ _ o fun xs z => by cases z)⟩
  · exact fr _ _ hP.hn (nobj _ _ hP.hn fun _ _ _ z => by cases z) fun z => hln (List.mem_cons_of_mem _ z)
  · show k.ns.length = (s.noses.set h x).length
    rw [List.length_set]
    exact hP.ln
  · by_cases e : i = h
    · subst e
      rw [hq] at hr
      cases hr
      have hy : (s.noses.set i x)[i]? = some y := hy
      rw [List.getElem?_set_self hh] at hy
      cases hy
      exact hN
    · have hy : (s.noses.set h x)[i]? = some y := hy
      rw [List.getElem?_set_ne (Ne.symm e)] at hy
      have hN2 := hP.nose i r y hr hy
      obtain ⟨da, dl⟩ := hP.dis i h r q hr hq e
      obtain ⟨dx2, o2⟩ := hN2.ob
      refine ⟨⟨dx2, fr _ _ o2 da (nrow _ _ o2 fun xs z => by cases z)⟩, fr _ _ hN2.li (nobj _ _ hN2.li fun _ _ _ z => by cases z) fun z => dl _ List.mem_cons_self (List.mem_cons_of_mem _ z), hN2.len, fun j a ha => ?_, hN2.out⟩
      have h3 := hN2.rw_ j a ha
      exact fr _ _ h3 (nobj _ _ h3 fun _ _ _ z => by cases z) fun z => dl _ (List.mem_cons_of_mem _ (List.mem_of_getElem? ha)) (List.mem_cons_of_mem _ z)
  · exact fr _ _ hP.ht (nobj _ _ hP.ht fun _ _ _ z => by cases z) fun z => hlt (List.mem_cons_of_mem _ z)
  · have h3 := hP.trial i a t ha ht
    exact fr _ _ h3 (nobj _ _ h3 fun _ _ _ z => by cases z) (nrow _ _ h3 fun xs z => by cases z)
section
variable {P : Program} {w : World} {K : PySem.W.Frag} {mg : Str → Option Value} {base : Heap}
/-- behind a nose's method -/
def RetN (K : PySem.W.Frag) (q : NS) (n : Nat) (x : MN) (H : Hp) (Q : VK) : Prop := ∀ H', NoseAt K H' q n x → (∀ b o, H b = some o → b ≠ q.a → b ∉ q.rows → H' b = some o) → Q .non H'
theorem e_row {σ : L2.St} {H : Hp} {ta tb : TE} {q : NS} {n i : Nat} {x : MN} {r : Addr} (T : Txt K mg) (ha : Ev ta σ H (.ref q.a)) (h : NoseAt K H q n x) (hb : Ev tb σ H (nV i)) (hr : q.rows[i]? = some r) : Ev (tOp (rIxL K) (tFld K ta "said") tb) σ H (.ref r) :=
  ev_op (e_said T ha h) hb (rv_ixL (SqL.of h.li) (atI_nat (by rw [List.getElem?_map, hr]; rfl)))
theorem sc_Nose_say : FnScope ["self", "a", "b"] ["self", "a", "b"] (defScope s_Nose_say) := ⟨rfl, rfl, rfl, by decide +kernel, rfl, by decide +kernel, by decide +kernel⟩
def sp_Nose_say (K : PySem.W.Frag) : Sp := fun vs H Q _ => ∃ (q : NS) (a b n : Nat) (x : MN), vs = [.ref q.a, nV a, nV b] ∧ NoseAt K H q n x ∧ q.rows.Nodup ∧ a < n ∧ b < n ∧ RetN K q n (x.put a b 1 0) H Q
theorem two_sets {σ : L2.St} {H : Hp} {D : Ends} {q : NS} {a b n u v : Nat} {x : MN} {tu tv : TE} (T : Txt K mg) (hN : NoseAt K H q n x) (nd : q.rows.Nodup) (ha : a < n) (hb : b < n) (h0 : σ[0]? = some (some (.ref q.a))) (h1 : σ[1]? = some (some (nV a))) (h2 : σ[2]? = some (some (nV b)))
    (hu : ∀ H1, Ev tu σ H1 (nV u)) (hv : ∀ H1, Ev tv σ H1 (nV v)) (g : ∀ H', NoseAt K H' q n (x.put a b u v) → (∀ c o, H c = some o → c ≠ q.a → c ∉ q.rows → H' c = some o) → D.nx σ H') :
    tSeq (tAsg tu (gSub (tOp (rIxL K) (tFld K (tVar 0) "said") (tVar 1)) (tVar 2) rSetL)) (tAsg tv (gSub (tOp (rIxL K) (tFld K (tVar 0) "said") (tVar 2)) (tVar 1) rSetL)) D σ H := by
  have hra : q.rows[a]? = some (q.rows[a]'(by rw [hN.len]; exact ha)) := List.getElem?_eq_getElem _
  have hrb : q.rows[b]? = some (q.rows[b]'(by rw [hN.len]; exact hb)) := List.getElem?_eq_getElem _
  generalize q.rows[a]'(by rw [hN.len]; exact ha) = ra at hra
  generalize q.rows[b]'(by rw [hN.len]; exact hb) = rb at hrb
  refine q_setL (hN.rw_ a ra hra) (hu H) (e_row T (v0 0 h0) hN (v0 1 h1) hra) (v0 2 h2) (by rw [row_len]; exact hb) fun H1 e1 => ?_
  have hN1 := (hN.mono e1).setRow (j := b) (v := u) nd hra
  refine s_setL (hN1.rw_ b rb hrb) (hv _) (e_row T (v0 0 h0) hN1 (v0 2 h2) hrb) (v0 1 h1) (by rw [row_len]; exact ha) fun H2 e2 => ?_
  have hN2 := (hN1.mono e2).setRow (j := a) (v := v) nd hrb
  refine g _ hN2 fun c o hc hca hcr => ?_
  rw [upd_ne fun z => hcr (by rw [z]; exact List.mem_of_getElem? hrb)]
  refine e2 _ _ ?_
  rw [upd_ne fun z => hcr (by rw [z]; exact List.mem_of_getElem? hra)]
  exact e1 _ _ hc
theorem ok_Nose_say {f : Addr} {fd : FuncData} (F : Fun K "say" "Nose.say" s_Nose_say f fd) (T : Txt K mg)   : FnOk P w K mg base CX0 1 f fd ["self", "a", "b"] (sp_Nose_say K) := by
  refine F.ok sc_Nose_say (fun vs H Q E h => ?_) (fun cdv A outer s H vs Q E hr h => ⟨_, (pss_cons (ps_asg pe_int (pg_sub (pe_ix ix_list (pe_fld (pv 0) rfl) (pv 1) (fun _ _ => rfl)) (pv 2) set_list))
        (pss_one (ps_asg pe_int (pg_sub (pe_ix ix_list (pe_fld (pv 0) rfl) (pv 2) (fun _ _ => rfl)) (pv 1) set_list)))), ?_⟩)
  · obtain ⟨_, _, _, _, _, rfl, _⟩ := h
    rfl
  · obtain ⟨q, a, b, n, x, rfl, hN, nd, ha, hb, g⟩ := h
    exact two_sets T hN nd ha hb rfl rfl rfl (fun _ => e_n (a := 1) rfl) (fun _ => e_n (a := 0) rfl) g
theorem sc_Nose_unsay : FnScope ["self", "a", "b"] ["self", "a", "b"] (defScope s_Nose_unsay) := ⟨rfl, rfl, rfl, by decide +kernel, rfl, by decide +kernel, by decide +kernel⟩
def sp_Nose_unsay (K : PySem.W.Frag) : Sp := fun vs H Q _ => ∃ (q : NS) (a b n : Nat) (x : MN), vs = [.ref q.a, nV a, nV b] ∧ NoseAt K H q n x ∧ q.rows.Nodup ∧ a < n ∧ b < n ∧ RetN K q n (x.put a b 0 0) H Q
theorem ok_Nose_unsay {f : Addr} {fd : FuncData} (F : Fun K "unsay" "Nose.unsay" s_Nose_unsay f fd) (T : Txt K mg)   : FnOk P w K mg base CX0 1 f fd ["self", "a", "b"] (sp_Nose_unsay K) := by
  refine F.ok sc_Nose_unsay (fun vs H Q E h => ?_) (fun cdv A outer s H vs Q E hr h => ⟨_, (pss_cons (ps_asg pe_int (pg_sub (pe_ix ix_list (pe_fld (pv 0) rfl) (pv 1) (fun _ _ => rfl)) (pv 2) set_list))
        (pss_one (ps_asg pe_int (pg_sub (pe_ix ix_list (pe_fld (pv 0) rfl) (pv 2) (fun _ _ => rfl)) (pv 1) set_list)))), ?_⟩)
  · obtain ⟨_, _, _, _, _, rfl, _⟩ := h
    rfl
  · obtain ⟨q, a, b, n, x, rfl, hN, nd, ha, hb, g⟩ := h
    exact two_sets T hN nd ha hb rfl rfl rfl (fun _ => e_n (a := 0) rfl) (fun _ => e_n (a := 0) rfl) g
theorem pu1 {f : Str} {v x : V} {r : List (Str × V)} : putF f v ((f, x) :: r) = (f, v) :: r := by
  unfold putF
  rw [if_pos rfl]
theorem pu2 {f g : Str} {v x : V} {r : List (Str × V)} (h : ¬ g = f) : putF f v ((g, x) :: r) = (g, x) :: putF f v r := by
  conv => lhs; unfold putF
  rw [if_neg h]
theorem nF_putW (l : Addr) (u v : V) : putF "weight" v (nF l u) = nF l v := (pu2 (by decide +kernel)).trans (congrArg _ pu1)
/-- o.f = e, o in a slot -/
theorem s_fldV {σ : L2.St} {H : Hp} {tv : TE} {D : Ends} {i : Nat} {f : Str} {a C dx : Addr} {fs : List (Str × V)} {R : VP} (hv : ∀ Q : VK, (∀ v H1, Ex H H1 → R v H1 → Q v H1) → tv σ H Q) (hs : σ[i]? = some (some (.ref a))) (hx : H a = some (.ins C dx fs)) (c : Cls K C) (m : NoAttr K C f) (hl : fs.length < 1000)
    (g : ∀ v H1, Ex H H1 → R v H1 → D.nx σ (upd H1 a (.ins C dx (putF f v fs)))) : sFld K (tVar i) tv f D σ H := hv _ fun v H1 e r => ⟨.ref a, hs, a, C, dx, fs, rfl, e _ _ hx, c, m, hl, g v H1 e r⟩
theorem q_fldV {σ : L2.St} {H : Hp} {tv : TE} {D : Ends} {tz : TS} {i : Nat} {f : Str} {a C dx : Addr} {fs : List (Str × V)} {R : VP} (hv : ∀ Q : VK, (∀ v H1, Ex H H1 → R v H1 → Q v H1) → tv σ H Q) (hs : σ[i]? = some (some (.ref a))) (hx : H a = some (.ins C dx fs)) (c : Cls K C) (m : NoAttr K C f) (hl : fs.length < 1000)
    (g : ∀ v H1, Ex H H1 → R v H1 → tz D σ (upd H1 a (.ins C dx (putF f v fs)))) : tSeq (sFld K (tVar i) tv f) tz D σ H := s_fldV (D := { D with nx := tz D }) hv hs hx c m hl g
theorem v_of {σ : L2.St} {H : Hp} {te : TE} {v : V} (h : Ev te σ H v) : ∀ Q : VK, (∀ u H1, Ex H H1 → u = v → Q u H1) → te σ H Q := fun _ q => h H (Ex.refl H) _ fun H1 e => q v H1 e rfl
/-- a new empty list -/
def NewNil (H : Hp) : VP := fun v H1 => ∃ l, v = .ref l ∧ H l = none ∧ H1 l = some (.lst [])
theorem v_nil {σ : L2.St} {H : Hp} : ∀ Q : VK, (∀ u H1, Ex H H1 → NewNil H u H1 → Q u H1) → tLst tNil σ H Q := fun _ q => (el_lst ea_nil (by decide) : EvL (tLst tNil) σ H []) H (Ex.refl H) _ fun p H2 hp e h2 => q _ H2 e ⟨p, rfl, hp, h2⟩
theorem sc_Nose_weigh : FnScope ["self", "weight"] ["self", "weight"] (defScope s_Nose_weigh) := ⟨rfl, rfl, rfl, by decide +kernel, rfl, by decide +kernel, by decide +kernel⟩
def sp_Nose_weigh (K : PySem.W.Frag) : Sp := fun vs H Q _ => ∃ (q : NS) (v n : Nat) (x : MN), vs = [.ref q.a, nV v] ∧ NoseAt K H q n x ∧ RetN K q n { x with weight := v } H Q
theorem ok_Nose_weigh {f : Addr} {fd : FuncData} (F : Fun K "weigh" "Nose.weigh" s_Nose_weigh f fd) (T : Txt K mg)   : FnOk P w K mg base CX0 1 f fd ["self", "weight"] (sp_Nose_weigh K) := by
  refine F.ok sc_Nose_weigh (fun vs H Q E h => ?_) (fun cdv A outer s H vs Q E hr h => ⟨_, (pss_one (ps_fld (pv 0) (pv 1) rfl)), ?_⟩)
  · obtain ⟨_, _, _, _, rfl, _⟩ := h
    rfl
  · obtain ⟨q, v, n, x, rfl, hN, g⟩ := h
    obtain ⟨dx, o⟩ := hN.ob
    refine s_fldV (v_of (v0 1 rfl)) rfl o T.k_Nose T.a_weight (by show 2 < 1000; decide) ?_
    rintro _ H2 e2 rfl
    have hN2 := hN.mono e2
    refine g _ ⟨⟨dx, by rw [upd_same, nF_putW]⟩, ?_, hN2.len, fun i r hr => ?_, hN2.out⟩ fun b u hb hba _ => ?_
    · rw [upd_ne (ne_of hN2.li (e2 _ _ o) (by intro z; cases z))]
      exact hN2.li
    · rw [upd_ne (ne_of (hN2.rw_ i r hr) (e2 _ _ o) (by intro z; cases z))]
      exact hN2.rw_ i r hr
    · rw [upd_ne hba]
      exact e2 _ _ hb
/-! ### new lists in a new list, all new and each another -/
theorem er_new {σ : L2.St} {H : Hp} {te : TE} {ta : TA} {j m : Nat} {vs : List Nat} (xs : List V) (h : EvA ta σ H [nV m]) (hm : m ≤ 40000) (hw : ∀ x, wipe ((wipe σ vs).set j (some x)) vs = wipe σ vs)
    (he : ∀ (i : Nat) H1, Ex H H1 → i < m → EvL te ((wipe σ vs).set j (some (nV i))) H1 xs) : ∀ H1, Ex H H1 → ∀ Q : VK, (∀ d (as : List Addr) H2, Ex H1 H2 → H1 d = none → as.length = m → as.Nodup → d ∉ as → (∀ a ∈ as, H1 a = none ∧ H2 a = some (.lst xs)) → H2 d = some (.lst (as.map V.ref)) → Q (.ref d) H2) → tLc (iRng1 ta) (gName j) tYes te vs σ H1 Q := fun H0 e Q q =>
  h H0 e _ fun H1 e1 => ⟨(m : Int), rfl, by omega, by omega, fun Dl hD => by
    rw [Int.toNat_natCast]
    refine lc_range (lo := 0) (n := m) (fun i H' => H1 Dl = none ∧ Ex H1 H' ∧ ∃ as : List Addr, as.length = i ∧ as.Nodup ∧ Dl ∉ as ∧ (∀ a ∈ as, H1 a = none ∧ H' a = some (.lst xs)) ∧ H' Dl = some (.lst (as.map V.ref))) ⟨hD, Ex.new hD, [], rfl, List.nodup_nil, by simp, fun a z => by simp at z, upd_same⟩ (fun i H' hi p => ?_) (fun H' ⟨p1, p2, as, q1, q2, q3, q4, q5⟩ => q Dl as H' (e1.trans p2) (fresh_back e1 p1) q1 q2 q3 (fun a z => ⟨fresh_back e1 (q4 a z).1, (q4 a z).2⟩) q5)
    obtain ⟨p1, p2, as, q1, q2, q3, q4, q5⟩ := p
    have e0 : (0 : Int) + (i : Int) = (i : Int) := Int.zero_add _
    show wipe ((wipe σ vs).set j (some (.int ((0 : Int) + (i : Int))))) vs = wipe σ vs ∧ (te ((wipe σ vs).set j (some (.int ((0 : Int) + (i : Int))))) H' fun y H4 => ∃ acc, H4 Dl = some (.lst acc) ∧ acc.length < sizeLine ∧ _)
    rw [e0]
    refine ⟨hw _, he i H' ((e.trans e1).trans p2) hi H' (Ex.refl H') _ fun a H4 ha e4 h4 => ?_⟩
    have hne : a ≠ Dl := by
      rintro rfl
      rw [q5] at ha
      cases ha
    have hna : a ∉ as := fun z => by
      rw [(q4 a z).2] at ha
      cases ha
    have hb : ∀ b ∈ as, b ≠ Dl := fun b z y => q3 (by rw [← y]; exact z)
    refine ⟨as.map V.ref, e4 _ _ q5, ?_, p1, Ex.mut (p2.trans e4) p1, as ++ [a], ?_, ?_, ?_, ?_, ?_⟩
    · rw [List.length_map]
      exact Nat.lt_of_le_of_lt (by omega : as.length ≤ 40000) (by decide)
    · rw [List.length_append, q1]
      rfl
    · exact List.nodup_append.mpr ⟨q2, by simp, fun b hb2 c hc => by
        rw [List.mem_singleton.mp hc]
        rintro rfl
        exact hna hb2⟩
    · intro z
      rcases List.mem_append.mp z with z | z
      · exact q3 z
      · exact hne (List.mem_singleton.mp z).symm
    · intro b z
      rcases List.mem_append.mp z with z | z
      · refine ⟨(q4 b z).1, ?_⟩
        rw [upd_ne (hb b z)]
        exact e4 _ _ (q4 b z).2
      · rw [List.mem_singleton.mp z, upd_ne hne]
        exact ⟨fresh_back p2 ha, h4⟩
    · rw [upd_same, List.map_append]
      rfl⟩
/-- what such a comprehension gives -/
def NewRows (H : Hp) (m : Nat) (xs : List V) : VP := fun v H1 => ∃ (d : Addr) (as : List Addr), v = .ref d ∧ H d = none ∧ as.length = m ∧ as.Nodup ∧ d ∉ as ∧ (∀ a ∈ as, H a = none ∧ H1 a = some (.lst xs)) ∧ H1 d = some (.lst (as.map V.ref))
theorem v_new {σ : L2.St} {H : Hp} {te : TE} {ta : TA} {j m : Nat} {vs : List Nat} (xs : List V) (h : EvA ta σ H [nV m]) (hm : m ≤ 40000) (hw : ∀ x, wipe ((wipe σ vs).set j (some x)) vs = wipe σ vs)
    (he : ∀ (i : Nat) H1, Ex H H1 → i < m → EvL te ((wipe σ vs).set j (some (nV i))) H1 xs) : ∀ Q : VK, (∀ u H1, Ex H H1 → NewRows H m xs u H1 → Q u H1) → tLc (iRng1 ta) (gName j) tYes te vs σ H Q := fun Q q =>
  er_new xs h hm hw he H (Ex.refl H) Q fun d as H2 e2 h0 h1 h2 h3 h4 h5 => q _ H2 e2 ⟨d, as, rfl, h0, h1, h2, h3, h4, h5⟩
theorem row0 (n i : Nat) : nL (List.replicate n 0) = row n (freshN.said i) := by
  rw [row_nL]
  show nL _ = nL ((List.range n).map fun _ => 0)
  rw [List.map_const', List.length_range]
theorem nF_new (l : Addr) (v : V) : putF "weight" v (putF "said" (.ref l) []) = nF l v := pu2 (by decide +kernel)
theorem sc_Nose_init : FnScope ["self", "samples", "sample"] ["self", "samples"] (defScope s_Nose_init) := ⟨rfl, rfl, rfl, by decide +kernel, rfl, by decide +kernel, by decide +kernel⟩
def sp_Nose_init (K : PySem.W.Frag) : Sp := fun vs H Q _ => ∃ (x dx : Addr) (n : Nat), vs = [.ref x, nV n] ∧ H x = some (.ins (CNose K) dx []) ∧ n ≤ 8 ∧
  ∀ (q : NS) H', q.a = x → NoseAt K H' q n freshN → (∀ b o, H b = some o → b ≠ x → H' b = some o) → (∀ b ∈ q.l :: q.rows, H b = none) → q.rows.Nodup → Q .non H'
theorem ok_Nose_init {f : Addr} {fd : FuncData} (F : Fun K "__init__" "Nose.__init__" s_Nose_init f fd) (T : Txt K mg)   : FnOk P w K mg base CX0 1 f fd ["self", "samples"] (sp_Nose_init K) := by
  refine F.ok sc_Nose_init (fun vs H Q E h => ?_) (fun cdv A outer s H vs Q E hr h => ⟨_, (pss_cons (ps_fld (pv 0) (pe_lc (own := [("sample", 2)]) (g := gName 2) (tt := tYes) rfl sc_Nose_init.nd (pi_range1 rfl T.range (pa_cons (pv 1) pa_nil)) (blkOk_by (N := ["self", "samples", "sample"]) (sc := defScope s_Nose_init) (by decide +kernel)) (fun _ _ _ _ _ => pg_name (i := 2) sc_Nose_init.nd rfl (Or.inl rfl)) (fun _ _ _ _ _ => pts_nil) (fun _ _ _ _ _ => (pe_op op_rep (pe_lst (pa_cons pe_int pa_nil)) (pv 1)))) rfl)
        (pss_one (ps_fld (pv 0) pe_int rfl))), ?_⟩)
  · obtain ⟨_, _, _, rfl, _⟩ := h
    rfl
  · obtain ⟨x, dx, n, rfl, hx, hn, g⟩ := h
    refine q_fldV (v_new (m := n) (nL (List.replicate n 0)) (ea_cons (v0 1 rfl) ea_nil) (by omega) (fun y => rfl) (fun i H1 e hi => el_rep (v0 1 rfl) (by omega))) rfl hx T.k_Nose T.a_said (by show 0 < 1000; decide) ?_
    rintro _ H2 e2 ⟨d, as, rfl, hd, h1, h2, h3, h4, h5⟩
    have hdx : d ≠ x := (ne_of_none hx hd).symm
    have hasx : ∀ a ∈ as, a ≠ x := fun a ha => (ne_of_none hx (h4 a ha).1).symm
    refine s_fldV (v_of (e_n (a := 1) rfl)) rfl upd_same T.k_Nose T.a_weight (by show 1 < 1000; decide) ?_
    rintro _ H4 e4 rfl
    have keep : ∀ b o, H2 b = some o → b ≠ x → (upd H4 x (.ins (CNose K) dx (putF "weight" (nV 1) (putF "said" (.ref d) [])))) b = some o := fun b o hb hbx => by
      rw [upd_ne hbx]
      refine e4 _ _ ?_
      rw [upd_ne hbx]
      exact hb
    refine g ⟨x, d, as⟩ _ rfl ⟨⟨dx, ?_⟩, keep _ _ h5 hdx, h1, fun i r hr => ?_, h3⟩ (fun b o hb hbx => keep b o (e2 _ _ hb) hbx) (fun b hb => ?_) h2
    · rw [upd_same, nF_new]
      rfl
    · have hm := List.mem_of_getElem? hr
      have := keep _ _ (h4 r hm).2 (hasx r hm)
      rw [row0 n i] at this
      exact this
    · rcases List.mem_cons.mp hb with z | z
      · rw [z]
        exact hd
      · exact (h4 b z).1
theorem pF_samplesPut (m v : V) (ln lt : Addr) : putF "samples" v (pF m ln lt) = pF v ln lt := pu1
theorem pF_nosesPut (m : V) (ln lt l2 : Addr) : putF "noses" (.ref l2) (pF m ln lt) = pF m l2 lt := (pu2 (by decide +kernel)).trans (congrArg _ pu1)
theorem pF_trialsPut (m : V) (ln lt l2 : Addr) : putF "trials" (.ref l2) (pF m ln lt) = pF m ln l2 := (pu2 (by decide +kernel)).trans (congrArg _ ((pu2 (by decide +kernel)).trans (congrArg _ pu1)))
theorem pF_new2 (v : V) (ln : Addr) : putF "noses" (.ref ln) (putF "samples" v []) = (("samples" : Str), v) :: putF "noses" (.ref ln) [] := pu2 (by decide +kernel)
theorem pF_new (v : V) (ln lt : Addr) : putF "trials" (.ref lt) (putF "noses" (.ref ln) (putF "samples" v [])) = pF v ln lt := by
  rw [pF_new2]
  exact (pu2 (by decide +kernel)).trans (congrArg _ (pu2 (by decide +kernel)))
theorem sc_Panel_init : FnScope ["self"] ["self"] (defScope s_Panel_init) := ⟨rfl, rfl, rfl, by decide +kernel, rfl, by decide +kernel, by decide +kernel⟩
def sp_Panel_init (K : PySem.W.Frag) : Sp := fun vs H Q _ => ∃ (x dx : Addr), vs = [.ref x] ∧ H x = some (.ins (CPanel K) dx []) ∧
  ∀ (k : SK) H', PanelAt K H' x start k → (∀ b o, H b = some o → b ≠ x → H' b = some o) → (∀ b, k.fp x b → b = x ∨ H b = none) → Q .non H'
theorem ok_Panel_init {f : Addr} {fd : FuncData} (F : Fun K "__init__" "Panel.__init__" s_Panel_init f fd) (T : Txt K mg)   : FnOk P w K mg base CX0 1 f fd ["self"] (sp_Panel_init K) := by
  refine F.ok sc_Panel_init (fun vs H Q E h => ?_) (fun cdv A outer s H vs Q E hr h => ⟨_, (pss_cons (ps_fld (pv 0) pe_int rfl)
        (pss_cons (ps_fld (pv 0) (pe_lst pa_nil) rfl)
        (pss_one (ps_fld (pv 0) (pe_lst pa_nil) rfl)))), ?_⟩)
  · obtain ⟨_, _, rfl, _⟩ := h
    rfl
  · obtain ⟨x, dx, rfl, hx, g⟩ := h
    refine q_fldV (v_of (e_n (a := 0) rfl)) rfl hx T.k_Panel T.a_samples (by show 0 < 1000; decide) ?_
    rintro _ H2 e2 rfl
    refine q_fldV v_nil rfl upd_same T.k_Panel T.a_noses (by show 1 < 1000; decide) ?_
    rintro _ H4 e4 ⟨ln, rfl, hln, h4⟩
    have lnx : ln ≠ x := by
      rintro rfl
      rw [upd_same] at hln
      cases hln
    refine s_fldV v_nil rfl upd_same T.k_Panel T.a_trials (by show 2 < 1000; decide) ?_
    rintro _ H6 e6 ⟨lt, rfl, hlt, h6⟩
    have ltx : lt ≠ x := by
      rintro rfl
      rw [upd_same] at hlt
      cases hlt
    have h4ln : (upd H4 x (.ins (CPanel K) dx (putF "noses" (.ref ln) (putF "samples" (nV 0) [])))) ln = some (.lst []) := by
      rw [upd_ne lnx]
      exact h4
    have lls : ln ≠ lt := by
      rintro rfl
      rw [h4ln] at hlt
      cases hlt
    have keep : ∀ b o, H b = some o → b ≠ x → (upd H6 x (.ins (CPanel K) dx (putF "trials" (.ref lt) (putF "noses" (.ref ln) (putF "samples" (nV 0) []))))) b = some o := fun b o hb hbx => by
      rw [upd_ne hbx]
      refine e6 _ _ ?_
      rw [upd_ne hbx]
      refine e4 _ _ ?_
      rw [upd_ne hbx]
      exact e2 _ _ hb
    have fresh : ∀ b, b ≠ x → (upd H2 x (.ins (CPanel K) dx (putF "samples" (nV 0) []))) b = none → H b = none := fun b hbx hb => by
      rw [upd_ne hbx] at hb
      exact fresh_back e2 hb
    refine g ⟨ln, lt, [], []⟩ _ ⟨⟨dx, ?_⟩, ?_, rfl, fun i q y hq => by simp at hq, ?_, rfl, fun i a t ha => by simp at ha, fun i j q r hq => by simp at hq, fun i q hq => by simp at hq, lls⟩ keep fun b hb => ?_
    · rw [upd_same, pF_new]
      rfl
    · rw [upd_ne lnx]
      exact e6 _ _ h4ln
    · rw [upd_ne ltx]
      exact h6
    · rcases hb with z | z | z | ⟨q, hq, _⟩ | z
      · exact .inl z
      · exact .inr (by rw [z]; exact fresh ln lnx hln)
      · refine .inr ?_
        rw [z]
        refine fresh lt ltx (fresh_back e4 ?_)
        rw [upd_ne ltx] at hlt
        exact hlt
      · cases hq
      · cases z
end
end Np
set_option Elab.async false
set_option linter.all false
set_option maxRecDepth 100000
set_option maxHeartbeats 4000000
namespace Np
open PySem PySem.Spec PyProof.Rows L2 Evl
theorem NoseAt.off {K : PySem.W.Frag} {H : Hp} {q : NS} {n : Nat} {x : MN} {d : Addr} {o : HO} (h : NoseAt K H q n x) (hd : d ∉ q.a :: q.l :: q.rows) : NoseAt K (upd H d o) q n x := by
  have ha : q.a ≠ d := fun z => hd (by rw [z]; exact List.mem_cons_self)
  have hl : q.l ≠ d := fun z => hd (by rw [z]; exact List.mem_cons_of_mem _ List.mem_cons_self)
  refine ⟨let ⟨dx, a⟩ := h.ob; ⟨dx, by rw [upd_ne ha]; exact a⟩, by rw [upd_ne hl]; exact h.li, h.len, fun i r hr => ?_, h.out⟩
  rw [upd_ne fun z => hd (by rw [← z]; exact List.mem_cons_of_mem _ (List.mem_cons_of_mem _ (List.mem_of_getElem? hr)))]
  exact h.rw_ i r hr
theorem NoseAt.tracked {K : PySem.W.Frag} {H : Hp} {q : NS} {n : Nat} {x : MN} (h : NoseAt K H q n x) {b : Addr} (hb : b ∈ q.a :: q.l :: q.rows) : ∃ o, H b = some o := by
  rcases List.mem_cons.mp hb with z | z
  · obtain ⟨dx, a⟩ := h.ob
    rw [z]
    exact ⟨_, a⟩
  · rcases List.mem_cons.mp z with z | z
    · rw [z]
      exact ⟨_, h.li⟩
    · obtain ⟨i, hi⟩ := List.getElem?_of_mem z
      exact ⟨_, h.rw_ i b hi⟩
theorem PanelAt.setTrials {K : PySem.W.Frag} {H H' : Hp} {p : Addr} {s : MS} {k : SK} {ts : List Addr} {tr : List MT} (hP : PanelAt K H p s k) (fr : ∀ b o, H b = some o → b ≠ k.lt → H' b = some o) (ht : H' k.lt = some (.lst (ts.map V.ref))) (hl : ts.length = tr.length)
    (hT : ∀ (i : Nat) (a : Addr) (t : MT), ts[i]? = some a → tr[i]? = some t → H' a = some (MTup t)) : PanelAt K H' p { s with trials := tr } { k with ts := ts } := by
  obtain ⟨dx, o⟩ := hP.ob
  have np : p ≠ k.lt := ne_of o hP.ht (by intro z; cases z)
  refine ⟨⟨dx, fr _ _ o np⟩, fr _ _ hP.hn hP.lls, hP.ln, fun i q x hq hx => ?_, ht, hl, hT, hP.dis, hP.own, hP.lls⟩
  have hN := hP.nose i q x hq hx
  obtain ⟨_, _, h3, _⟩ := hP.own i q hq
  obtain ⟨dx2, o2⟩ := hN.ob
  refine ⟨⟨dx2, fr _ _ o2 (ne_of o2 hP.ht (by intro z; cases z))⟩, fr _ _ hN.li fun z => h3 (by rw [← z]; exact List.mem_cons_self), hN.len, fun j r hr => fr _ _ (hN.rw_ j r hr) fun z => h3 (by rw [← z]; exact List.mem_cons_of_mem _ (List.mem_of_getElem? hr)), hN.out⟩
section
variable {P : Program} {w : World} {K : PySem.W.Frag} {mg : Str → Option Value} {base : Heap}
/-- what the comprehension over new noses gives -/
def NewNoses (K : PySem.W.Frag) (H : Hp) (n m : Nat) : VP := fun v H1 => ∃ (d : Addr) (ns : List NS), v = .ref d ∧ H d = none ∧ ns.length = m ∧ (∀ (i : Nat) (q : NS), ns[i]? = some q → NoseAt K H1 q n freshN ∧ q.rows.Nodup ∧ ∀ b ∈ q.a :: q.l :: q.rows, H b = none ∧ b ≠ d) ∧
  (∀ (i j : Nat) (q r : NS), ns[i]? = some q → ns[j]? = some r → i ≠ j → ∀ b ∈ q.a :: q.l :: q.rows, b ∉ r.a :: r.l :: r.rows) ∧ H1 d = some (.lst (ns.map fun q => V.ref q.a))
theorem v_noses {σ : L2.St} {H : Hp} {ta' : TA} {te : TE} {E : XK} {n m : Nat} {i1 : Nat} (hte : te = tMake (CNose K) (sp_Nose_init K) [] E (tCons (tVar i1) tNil)) (hA : EvA ta' σ H [nV m]) (hm : m ≤ 40000) (hn : n ≤ 8) (hw : ∀ x, wipe ((wipe σ [3]).set 3 (some x)) [3] = wipe σ [3]) (h1 : ∀ x, ((wipe σ [3]).set 3 (some x))[i1]? = some (some (nV n))) :
    ∀ Q : VK, (∀ u H1, Ex H H1 → NewNoses K H n m u H1 → Q u H1) → tLc (iRng1 ta') (gName 3) tYes te [3] σ H Q := fun Q qq =>
  hA H (Ex.refl H) _ fun H1 e1 => ⟨(m : Int), rfl, by omega, by omega, fun Dl hD => by
    rw [Int.toNat_natCast]
    refine lc_range (lo := 0) (n := m) (fun i H' => Ex H1 H' ∧ ∃ ns : List NS, ns.length = i ∧ (∀ (j : Nat) (q : NS), ns[j]? = some q → NoseAt K H' q n freshN ∧ q.rows.Nodup ∧ ∀ b ∈ q.a :: q.l :: q.rows, H1 b = none ∧ b ≠ Dl) ∧
      (∀ (i j : Nat) (q r : NS), ns[i]? = some q → ns[j]? = some r → i ≠ j → ∀ b ∈ q.a :: q.l :: q.rows, b ∉ r.a :: r.l :: r.rows) ∧ H' Dl = some (.lst (ns.map fun q => V.ref q.a))) ⟨Ex.new hD, [], rfl, fun j q hq => by simp at hq, fun i j q r hq => by simp at hq, upd_same⟩ (fun i H' hi p => ?_)
      (fun H' ⟨p2, ns, q1, q2, q3, q4⟩ => qq _ H' (e1.trans p2) ⟨Dl, ns, rfl, fresh_back e1 hD, q1, fun j q hq => ⟨(q2 j q hq).1, (q2 j q hq).2.1, fun b hb => ⟨fresh_back e1 ((q2 j q hq).2.2 b hb).1, ((q2 j q hq).2.2 b hb).2⟩⟩, q3, q4⟩)
    obtain ⟨p2, ns, q1, q2, q3, q4⟩ := p
    have e0 : (0 : Int) + (i : Int) = (i : Int) := Int.zero_add _
    show wipe ((wipe σ [3]).set 3 (some (.int ((0 : Int) + (i : Int))))) [3] = wipe σ [3] ∧ (te ((wipe σ [3]).set 3 (some (.int ((0 : Int) + (i : Int))))) H' fun y H4 => ∃ acc, H4 Dl = some (.lst acc) ∧ acc.length < sizeLine ∧ _)
    rw [e0]
    refine ⟨hw _, ?_⟩
    rw [hte]
    refine ⟨_, h1 _, ?_⟩
    intro x dx hx hdx ne
    refine ⟨x, dx, n, rfl, upd_same, hn, fun q H3 hqa hN fr hfree hnd => ⟨rfl, ?_⟩⟩
    have stay : Ex H' H3 := fun b o hb => fr b o (by rw [upd_ne (ne_of_none hb hx), upd_ne (ne_of_none hb hdx)]; exact hb) (ne_of_none hb hx)
    have new : ∀ b ∈ q.a :: q.l :: q.rows, H' b = none := fun b hb => by
      rcases List.mem_cons.mp hb with z | z
      · rw [z, hqa]
        exact hx
      · have h2 := hfree b z
        by_cases hbx : b = x
        · rw [hbx]
          exact hx
        · rw [upd_ne hbx] at h2
          by_cases hbd : b = dx
          · rw [hbd]
            exact hdx
          · rw [upd_ne hbd] at h2
            exact h2
    have newD : ∀ b ∈ q.a :: q.l :: q.rows, b ≠ Dl := fun b hb z => by
      have := new b hb
      rw [z, q4] at this
      cases this
    have newO : ∀ (j : Nat) (r : NS), ns[j]? = some r → ∀ b ∈ q.a :: q.l :: q.rows, b ∉ r.a :: r.l :: r.rows := fun j r hr b hb hb2 => by
      obtain ⟨o, ho⟩ := (q2 j r hr).1.tracked hb2
      rw [new b hb] at ho
      cases ho
    have split : ∀ (j : Nat) (r : NS), (ns ++ [q])[j]? = some r → (ns[j]? = some r ∧ j < i) ∨ (r = q ∧ j = i) := fun j r hr => by
      by_cases hj : j < ns.length
      · rw [List.getElem?_append_left hj] at hr
        exact .inl ⟨hr, by omega⟩
      · rw [List.getElem?_append_right (by omega)] at hr
        have e : j - ns.length = 0 := by
          have := (List.getElem?_eq_some_iff.mp hr).1
          simp at this
          omega
        rw [e] at hr
        cases hr
        exact .inr ⟨rfl, by omega⟩
    refine ⟨_, stay _ _ q4, ?_, ?_, ns ++ [q], by rw [List.length_append, q1]; rfl, fun j r hr => ?_, fun i2 j2 q2' r2 ha hb hne => ?_, by rw [upd_same, List.map_append, ← hqa]; rfl⟩
    · rw [List.length_map]
      exact Nat.lt_of_le_of_lt (by omega : ns.length ≤ 40000) (by decide)
    · intro b o hb
      rw [upd_ne fun z => by rw [z, hD] at hb; cases hb]
      exact stay _ _ (p2 b o hb)
    · rcases split j r hr with ⟨hr, _⟩ | ⟨rfl, _⟩
      · obtain ⟨g1, g2, g3⟩ := q2 j r hr
        exact ⟨(g1.mono stay).off fun z => (g3 _ z).2 rfl, g2, g3⟩
      · exact ⟨hN.off fun z => newD _ z rfl, hnd, fun b hb => ⟨fresh_back p2 (new b hb), newD b hb⟩⟩
    · rcases split i2 q2' ha with ⟨ha2, l1⟩ | ⟨z1, l1⟩
      · rcases split j2 r2 hb with ⟨hb2, l2⟩ | ⟨z2, l2⟩
        · exact q3 i2 j2 q2' r2 ha2 hb2 hne
        · rw [z2]
          exact fun b h1 h2 => newO i2 q2' ha2 b h2 h1
      · rcases split j2 r2 hb with ⟨hb2, l2⟩ | ⟨z2, l2⟩
        · rw [z1]
          exact newO j2 r2 hb2
        · exact absurd (l1.trans l2.symm) hne⟩
theorem sc_Panel_set_up : FnScope ["self", "samples", "noses", "nose"] ["self", "samples", "noses"] (defScope s_Panel_set_up) := ⟨rfl, rfl, rfl, by decide +kernel, rfl, by decide +kernel, by decide +kernel⟩
def sp_Panel_set_up (K : PySem.W.Frag) : Sp := fun vs H Q _ => ∃ (p : Addr) (n m : Nat) (s : MS) (k : SK), vs = [.ref p, nV n, nV m] ∧ PanelAt K H p s k ∧ n ≤ 8 ∧ m ≤ 8 ∧
  ∀ k' H', PanelAt K H' p ⟨n, List.replicate m freshN, []⟩ k' → (∀ b o, H b = some o → b ≠ p → H' b = some o) → (∀ b, k'.fp p b → b = p ∨ H b = none) → Q .non H'
theorem ok_Panel_set_up {f : Addr} {fd : FuncData} (F : Fun K "set_up" "Panel.set_up" s_Panel_set_up f fd) (T : Txt K mg) (D_Nose_init : MakeK P w K mg base (CNose K) 1 ["self", "samples"] (sp_Nose_init K))  : FnOk P w K mg base CX0 3 f fd ["self", "samples", "noses"] (sp_Panel_set_up K) := by
  refine F.ok sc_Panel_set_up (fun vs H Q E h => ?_) (fun cdv A outer s H vs Q E hr h => ⟨_, (pss_cons (ps_fld (pv 0) (pv 1) rfl)
        (pss_cons (ps_fld (pv 0) (pe_lc (own := [("nose", 3)]) (g := gName 3) (tt := tYes) rfl sc_Panel_set_up.nd (pi_range1 rfl T.range (pa_cons (pv 2) pa_nil)) (blkOk_by (N := ["self", "samples", "noses", "nose"]) (sc := defScope s_Panel_set_up) (by decide +kernel)) (fun _ _ _ _ _ => pg_name (i := 3) sc_Panel_set_up.nd rfl (Or.inl rfl)) (fun _ _ _ _ _ => pts_nil) (fun _ _ _ _ _ => (pe_mk D_Nose_init hr T.g_Nose (pa_cons (pv 1) pa_nil)))) rfl)
        (pss_one (ps_fld (pv 0) (pe_lst pa_nil) rfl)))), ?_⟩)
  · obtain ⟨_, _, _, _, _, rfl, _⟩ := h
    rfl
  · obtain ⟨p, n, m, s, k, rfl, hP, hn, hm, g⟩ := h
    obtain ⟨dx, o⟩ := hP.ob
    refine q_fldV (v_of (v0 1 rfl)) rfl o T.k_Panel T.a_samples (by show 3 < 1000; decide) ?_
    rintro _ H2 e2 rfl
    rw [pF_samplesPut]
    refine q_fldV (v_noses (m := m) rfl (ea_cons (v0 2 rfl) ea_nil) (by omega) hn (fun x => rfl) (fun x => rfl)) rfl upd_same T.k_Panel T.a_noses (by show 3 < 1000; decide) ?_
    rintro _ H4 e4 ⟨d, ns, rfl, hd, n1, n2, n3, n4⟩
    rw [pF_nosesPut]
    have pt : (upd H2 p (.ins (CPanel K) dx (pF (nV n) k.ln k.lt))) p = some (.ins (CPanel K) dx (pF (nV n) k.ln k.lt)) := upd_same
    have dp : d ≠ p := (ne_of_none pt hd).symm
    have np : ∀ (j : Nat) (q : NS), ns[j]? = some q → p ∉ q.a :: q.l :: q.rows := fun j q hq z => by
      have := ((n2 j q hq).2.2 p z).1
      rw [pt] at this
      cases this
    refine s_fldV v_nil rfl upd_same T.k_Panel T.a_trials (by show 3 < 1000; decide) ?_
    rintro _ H6 e6 ⟨lt, rfl, hlt, h6⟩
    rw [pF_trialsPut]
    have ltp : lt ≠ p := by
      rintro rfl
      rw [upd_same] at hlt
      cases hlt
    have lt4 : H4 lt = none := by
      rw [upd_ne ltp] at hlt
      exact hlt
    have keep4 : ∀ b o, H4 b = some o → b ≠ p → (upd H6 p (.ins (CPanel K) dx (pF (nV n) d lt))) b = some o := fun b o hb hbp => by
      rw [upd_ne hbp]
      refine e6 _ _ ?_
      rw [upd_ne hbp]
      exact hb
    have keep : ∀ b o, H b = some o → b ≠ p → (upd H6 p (.ins (CPanel K) dx (pF (nV n) d lt))) b = some o := fun b o hb hbp => by
      refine keep4 b o (e4 _ _ ?_) hbp
      rw [upd_ne hbp]
      exact e2 _ _ hb
    have fresh : ∀ b, b ≠ p → (upd H2 p (.ins (CPanel K) dx (pF (nV n) k.ln k.lt))) b = none → H b = none := fun b hbp hb => by
      rw [upd_ne hbp] at hb
      exact fresh_back e2 hb
    have nose : ∀ (i : Nat) (q : NS), ns[i]? = some q → NoseAt K (upd H6 p (.ins (CPanel K) dx (pF (nV n) d lt))) q n freshN := fun i q hq => by
      have h1 := (n2 i q hq).1
      have hnp := np i q hq
      obtain ⟨dx2, o2⟩ := h1.ob
      refine ⟨⟨dx2, keep4 _ _ o2 fun z => hnp (by rw [z]; exact List.mem_cons_self)⟩, keep4 _ _ h1.li fun z => hnp (by rw [z]; exact List.mem_cons_of_mem _ List.mem_cons_self), h1.len, fun j r hr => keep4 _ _ (h1.rw_ j r hr) fun z => hnp (by rw [← z]; exact List.mem_cons_of_mem _ (List.mem_cons_of_mem _ (List.mem_of_getElem? hr))), h1.out⟩
    refine g ⟨d, lt, ns, []⟩ _ ⟨⟨dx, upd_same⟩, keep4 _ _ n4 dp, ?_, fun i q x hq hx => ?_, ?_, rfl, fun i a t ha => by simp at ha, fun i j q r hq hr hne => ⟨?_, ?_⟩, fun i q hq => ⟨(n2 i q hq).2.1, ?_, ?_, ?_⟩, ?_⟩ keep fun b hb => ?_
    · show ns.length = (List.replicate m freshN).length
      rw [n1, List.length_replicate]
    · have hx : (List.replicate m freshN)[i]? = some x := hx
      have hi : i < m := by
        have := (List.getElem?_eq_some_iff.mp hq).1
        show i < m
        have h5 : i < ns.length := this
        omega
      rw [List.getElem?_replicate, if_pos hi] at hx
      cases hx
      exact nose i q hq
    · show (upd H6 p (.ins (CPanel K) dx (pF (nV n) d lt))) lt = some (.lst [])
      rw [upd_ne ltp]
      exact h6
    · exact fun z => n3 i j q r hq hr hne q.a List.mem_cons_self (by rw [z]; exact List.mem_cons_self)
    · exact fun b hb hb2 => n3 i j q r hq hr hne b (List.mem_cons_of_mem _ hb) (List.mem_cons_of_mem _ hb2)
    · exact fun z => ((n2 i q hq).2.2 d (List.mem_cons_of_mem _ z)).2 rfl
    · intro z
      obtain ⟨o3, h3⟩ := (n2 i q hq).1.tracked (List.mem_cons_of_mem _ z)
      have h3 : H4 lt = some o3 := h3
      rw [lt4] at h3
      cases h3
    · exact fun z => np i q hq (by rw [z]; exact List.mem_cons_self)
    · show d ≠ lt
      exact ne_of_none n4 lt4
    · rcases hb with z | z | z | ⟨q, hq, z⟩ | z
      · exact .inl z
      · exact .inr (by rw [z]; exact fresh d dp hd)
      · refine .inr ?_
        rw [z]
        exact fresh lt ltp (fresh_back e4 lt4)
      · obtain ⟨i, hi⟩ := List.getElem?_of_mem hq
        have hm : b ∈ q.a :: q.l :: q.rows := by
          rcases z with z | z | z
          · rw [z]
            exact List.mem_cons_self
          · rw [z]
            exact List.mem_cons_of_mem _ List.mem_cons_self
          · exact List.mem_cons_of_mem _ (List.mem_cons_of_mem _ z)
        exact .inr (fresh b (fun y => np i q hi (by rw [← y]; exact hm)) ((n2 i q hi).2.2 b hm).1)
      · cases z
theorem sc_Panel_keep_trial : FnScope ["self", "nose", "a", "b", "right"] ["self", "nose", "a", "b", "right"] (defScope s_Panel_keep_trial) := ⟨rfl, rfl, rfl, by decide +kernel, rfl, by decide +kernel, by decide +kernel⟩
def sp_Panel_keep_trial (K : PySem.W.Frag) : Sp := fun vs H Q _ => ∃ (p : Addr) (t : MT) (s : MS) (k : SK), vs = [.ref p, nV t.nose, nV t.a, nV t.b, nV t.right] ∧ PanelAt K H p s k ∧ s.trials.length ≤ 36 ∧
  ∀ a H', PanelAt K H' p { s with trials := s.trials ++ [t] } { k with ts := k.ts ++ [a] } → H a = none → (∀ b o, H b = some o → b ≠ k.lt → H' b = some o) → Q .non H'
theorem ok_Panel_keep_trial {f : Addr} {fd : FuncData} (F : Fun K "keep_trial" "Panel.keep_trial" s_Panel_keep_trial f fd) (T : Txt K mg)   : FnOk P w K mg base CX0 1 f fd ["self", "nose", "a", "b", "right"] (sp_Panel_keep_trial K) := by
  refine F.ok sc_Panel_keep_trial (fun vs H Q E h => ?_) (fun cdv A outer s H vs Q E hr h => ⟨_, (pss_one (ps_expr (pe_bm PySem.F.plainAttrs_list PySem.F.slot_list_append PySem.F.type_list_append mt_append (pe_fld (pv 0) rfl) (pa_cons (pe_tup (pa_cons (pv 1) (pa_cons (pv 2) (pa_cons (pv 3) (pa_cons (pv 4) pa_nil))))) pa_nil)))), ?_⟩)
  · obtain ⟨_, _, _, _, rfl, _⟩ := h
    rfl
  · obtain ⟨p, t, s, k, rfl, hP, hl, g⟩ := h
    refine s_appU hP.ht (e_trials T (v0 0 rfl) hP) (eu_tup (ea_cons (v0 1 rfl) (ea_cons (v0 2 rfl) (ea_cons (v0 3 rfl) (ea_cons (v0 4 rfl) ea_nil)))) (by show 4 ≤ 100000; decide)) (by rw [List.length_map, hP.lt]; omega) fun a H1 ha e1 h1 => ?_
    have hlt := e1 _ _ hP.ht
    have hne : ∀ b o, H b = some o → b ≠ k.lt → (upd H1 k.lt (.lst (k.ts.map V.ref ++ [.ref a]))) b = some o := fun b o hb hbl => by
      rw [upd_ne hbl]
      exact e1 _ _ hb
    have hal : a ≠ k.lt := (ne_of_none hP.ht ha).symm
    refine g a _ (hP.setTrials hne (by rw [upd_same, List.map_append]; rfl) (by rw [List.length_append, List.length_append, hP.lt]; rfl) fun i b t2 hb ht2 => ?_) ha hne
    by_cases hi : i < k.ts.length
    · rw [List.getElem?_append_left hi] at hb
      rw [List.getElem?_append_left (by rw [← hP.lt]; exact hi)] at ht2
      have h3 := hP.trial i b t2 hb ht2
      exact hne _ _ h3 (ne_of h3 hP.ht (by intro z; cases z))
    · rw [List.getElem?_append_right (by omega)] at hb
      rw [List.getElem?_append_right (by rw [← hP.lt]; omega)] at ht2
      have e : i - k.ts.length = 0 := by
        have := (List.getElem?_eq_some_iff.mp hb).1
        simp at this
        omega
      rw [e] at hb
      rw [← hP.lt, e] at ht2
      cases hb
      cases ht2
      rw [upd_ne hal]
      exact h1
theorem s_popX {σ : L2.St} {H : Hp} {D : Ends} {l : Addr} {r : V → List V → Hp → VK → Prop} {ta : TE} (ha : Ev ta σ H (.ref l)) (h : ∀ H1, Ex H H1 → tyV K "list" (.ref l) H1 ∧ r (.ref l) [] H1 fun _ H2 => D.nx σ H2) : tDrop (tBM0 K "list" r ta) D σ H :=
  ha H (Ex.refl H) _ fun H1 e1 => h H1 e1
theorem sc_Panel_drop_trial : FnScope ["self"] ["self"] (defScope s_Panel_drop_trial) := ⟨rfl, rfl, rfl, by decide +kernel, rfl, by decide +kernel, by decide +kernel⟩
def sp_Panel_drop_trial (K : PySem.W.Frag) : Sp := fun vs H Q _ => ∃ (p : Addr) (s : MS) (k : SK), vs = [.ref p] ∧ PanelAt K H p s k ∧ 0 < s.trials.length ∧
  ∀ H', PanelAt K H' p { s with trials := s.trials.dropLast } { k with ts := k.ts.dropLast } → (∀ b o, H b = some o → b ≠ k.lt → H' b = some o) → Q .non H'
theorem ok_Panel_drop_trial {f : Addr} {fd : FuncData} (F : Fun K "drop_trial" "Panel.drop_trial" s_Panel_drop_trial f fd) (T : Txt K mg)   : FnOk P w K mg base CX0 1 f fd ["self"] (sp_Panel_drop_trial K) := by
  refine F.ok sc_Panel_drop_trial (fun vs H Q E h => ?_) (fun cdv A outer s H vs Q E hr h => ⟨_, (pss_one (ps_expr (pe_bm0 PySem.F.plainAttrs_list PySem.F.slot_list_pop PySem.F.type_list_pop mt_pop (pe_fld (pv 0) rfl)))), ?_⟩)
  · obtain ⟨_, _, _, rfl, _⟩ := h
    rfl
  · obtain ⟨p, s, k, rfl, hP, hl, g⟩ := h
    have hk : 0 < k.ts.length := by rw [hP.lt]; exact hl
    refine s_popX (e_trials T (v0 0 rfl) hP) fun H1 e1 => ?_
    have hlt := e1 _ _ hP.ht
    refine ⟨Or.inl ⟨rfl, _, SqL.of hlt⟩, k.lt, _, V.ref (k.ts[k.ts.length - 1]'(by omega)), rfl, rfl, hlt, ?_, ?_⟩
    · rw [List.length_map, List.getElem?_map, List.getElem?_eq_getElem (by omega)]
      rfl
    · have hne : ∀ b o, H b = some o → b ≠ k.lt → (upd H1 k.lt (.lst (k.ts.map V.ref).dropLast)) b = some o := fun b o hb hbl => by
        rw [upd_ne hbl]
        exact e1 _ _ hb
      refine g _ (hP.setTrials hne (by rw [upd_same, ← List.map_dropLast]) (by rw [List.length_dropLast, List.length_dropLast, hP.lt]) fun i b t2 hb ht2 => ?_) hne
      rw [List.getElem?_dropLast] at hb ht2
      split at hb
      · split at ht2
        · have h3 := hP.trial i b t2 hb ht2
          exact hne _ _ h3 (ne_of h3 hP.ht (by intro z; cases z))
        · cases ht2
      · cases hb
end
end Np
set_option Elab.async false
set_option linter.all false
set_option maxRecDepth 100000
set_option maxHeartbeats 4000000
namespace Np
open PySem PySem.Spec PyProof.Rows L2 Evl
/-- what a call that leaves the panel as it is gets -/
def Que (K : PySem.W.Frag) (l : List Nat) (ans : MS → List Int) (vs : List V) (H : Hp) (Q : VK) : Prop := ∃ (p u : Addr) (r : V) (s : MS) (k : SK), vs = [.ref p, .ref u, r] ∧ PanelAt K H p s k ∧ Ready s ∧ H u = some (.lst (nL l)) ∧ RetP (IsF H (ans s)) H Q
section
variable {P : Program} {w : World} {K : PySem.W.Frag} {mg : Str → Option Value} {base : Heap}
theorem sc_answer_over : FnScope ["panel", "numbers", "rows", "a", "b", "why"] ["panel", "numbers", "rows"] (defScope s_answer_over) := ⟨rfl, rfl, rfl, by decide +kernel, rfl, by decide +kernel, by decide +kernel⟩
def sp_answer_over (K : PySem.W.Frag) : Sp := fun vs H Q _ => ∃ (p u : Addr) (r : V) (a b : Nat) (s : MS) (k : SK), vs = [.ref p, .ref u, r] ∧ PanelAt K H p s k ∧ Ready s ∧ H u = some (.lst (nL [a, b])) ∧ RetP (IsF H (aOver s a b)) H Q
theorem ok_answer_over {f : Addr} {fd : FuncData} (F : Fun K "answer_over" "answer_over" s_answer_over f fd) (T : Txt K mg) (D_pair_refusal : DefK P w K mg base "pair_refusal" 1 ["panel", "a", "b"] (sp_pair_refusal K)) (D_answered : DefK P w K mg base "answered" 1 ["numbers"] (sp_answered K)) (D_refused : DefK P w K mg base "refused" 1 ["why"] (sp_refused K)) (D_weight_over : DefK P w K mg base "weight_over" 1 ["panel", "a", "b"] (sp_weight_over K))  : FnOk P w K mg base CX0 2 f fd ["panel", "numbers", "rows"] (sp_answer_over K) := by
  refine F.ok sc_answer_over (fun vs H Q E h => ?_) (fun cdv A outer s H vs Q E hr h => ⟨_, (pss_cons (ps_asg (pv 1) (pg_unl rfl (pgs_cons (pg_name (i := 3) sc_answer_over.nd rfl (Or.inl rfl)) (pgs_cons (pg_name (i := 4) sc_answer_over.nd rfl (Or.inl rfl)) pgs_nil))))
        (pss_cons (ps_set (i := 5) sc_answer_over.nd rfl (Or.inl rfl) (pe_def D_pair_refusal hr (pa_cons (pv 0) (pa_cons (pv 3) (pa_cons (pv 4) pa_nil)))))
        (pss_cons (ps_if (pt_cmpR op_ne (pv 5) (pe_const T.c_ALL_WELL) (nomark _)) (pss_one (ps_ret (pe_def D_refused hr (pa_cons (pv 5) pa_nil)))) pss_nil)
        (pss_one (ps_ret (pe_def D_answered hr (pa_cons (pe_lst (pa_cons (pe_def D_weight_over hr (pa_cons (pv 0) (pa_cons (pv 3) (pa_cons (pv 4) pa_nil)))) (pa_cons (pe_def D_weight_over hr (pa_cons (pv 0) (pa_cons (pv 4) (pa_cons (pv 3) pa_nil)))) pa_nil))) pa_nil))))))), ?_⟩)
  · obtain ⟨_, _, _, _, _, _, _, rfl, _⟩ := h
    rfl
  · obtain ⟨p, u, r, a, b, s, k, rfl, hP, R, hu, g⟩ := h
    refine q_unl2 (v0 1 rfl) hu fun H1 e1 => ?_
    refine q_asg (c3 (v0 0 rfl) (v0 3 rfl) (v0 4 rfl) (sv_pair_refusal (hP.mono e1))) fun H2 e2 => ?_
    refine q_gate rfl g (e1.trans e2) rfl fun h0 g H3 e3 => ?_
    have e13 := (e1.trans e2).trans e3
    obtain ⟨ha, hb, _⟩ := pairNo_ok h0
    have hP3 := hP.mono e13
    exact p_ret (p_answered (l := [weightOver s.noses a b, weightOver s.noses b a]) (p_new (el_lst (ea_cons (c3 (v0 0 rfl) (v0 3 rfl) (v0 4 rfl) (sv_weight_over hP3 R.ok ha hb)) (ea_cons (c3 (v0 0 rfl) (v0 4 rfl) (v0 3 rfl) (sv_weight_over hP3 R.ok hb ha)) ea_nil)) (by show 2 ≤ 100000; decide))) (by show 2 ≤ 1000; decide)) fun v H5 e5 hv => g v H5 (e13.trans e5) (hv.back (e13.trans (Ex.refl _)))
theorem sc_beats_all : FnScope ["table", "sample", "other"] ["table", "sample"] (defScope s_beats_all) := ⟨rfl, rfl, rfl, by decide +kernel, rfl, by decide +kernel, by decide +kernel⟩
def sp_beats_all (_ : PySem.W.Frag) : Sp := fun vs H Q _ => ∃ (t : Addr) (x n : Nat) (f : Mx), vs = [.ref t, nV x] ∧ Mat H t n f ∧ x < n ∧ n ≤ 8 ∧ RetV (.bl (beatsAll f n x)) H Q
theorem sv_beats_all {H : Hp} {t : Addr} {x n : Nat} {f : Mx} (hM : Mat H t n f) (hx : x < n) (hn : n ≤ 8) : SpV (sp_beats_all K) [.ref t, nV x] H (.bl (beatsAll f n x)) := fun _ e _ q _ => ⟨t, x, n, f, rfl, hM.mono e, hx, hn, q⟩
theorem ok_beats_all {f : Addr} {fd : FuncData} (F : Fun K "beats_all" "beats_all" s_beats_all f fd) (T : Txt K mg)   : FnOk P w K mg base CX0 1 f fd ["table", "sample"] (sp_beats_all K) := by
  refine F.ok sc_beats_all (fun vs H Q E h => ?_) (fun cdv A outer s H vs Q E hr h => ⟨_, (pss_cons (ps_for PassesOwn.never rfl (pi_range1 rfl T.range (pa_cons (pe_callB call_len_seq (by rfl) T.len (by decide +kernel) (pa_cons (pv 0) pa_nil)) pa_nil)) (pg_name (i := 2) sc_beats_all.nd rfl (Or.inl rfl))
        (pss_one (ps_if (PW.pt (pw_and (pt_cmpR op_ne (pv 2) (pv 1) (nomark _)) (pw_and1 (pt_cmpR op_le (pe_ix ix_list (pe_ix ix_list (pv 0) (pv 1) (fun _ _ => rfl)) (pv 2) (fun _ _ => rfl)) (pe_ix ix_list (pe_ix ix_list (pv 0) (pv 2) (fun _ _ => rfl)) (pv 1) (fun _ _ => rfl)) (nomark _))))) (pss_one (ps_ret pe_bl)) pss_nil)))
        (pss_one (ps_ret pe_bl))), ?_⟩)
  · obtain ⟨_, _, _, _, rfl, _⟩ := h
    rfl
  · obtain ⟨t, x, n, f, rfl, hM, hx, hn, k⟩ := h
    refine q_R1 (e_lenM (v0 0 rfl) hM) (by omega) (fun i σ' H' => ∃ v, σ' = [some (.ref t), some (nV x), v] ∧ Ex H H' ∧ ∀ y, y < i → (decide (y = x) || decide (f y x < f x y)) = true) (fun H1 e1 => ⟨none, rfl, e1, fun j hj => absurd hj (Nat.not_lt_zero _)⟩) ?_ ?_
    · rintro i σ' H' hi ⟨v, rfl, e, hall⟩
      refine s_when (et_and (et_test (ev_op (v0 2 rfl) (v0 1 rfl) r_ne)) fun _ => et_test (ev_op (e_mx (v0 0 rfl) (hM.mono e) (v0 1 rfl) (v0 2 rfl) hx hi) (e_mx (v0 0 rfl) (hM.mono e) (v0 2 rfl) (v0 1 rfl) hi hx) r_le)) (fun hb H2 e2 => ?_) (fun hb H2 e2 => ?_)
      · refine s_ret ev_c fun H3 e3 => ?_
        have hb2 : ¬ i = x ∧ f x i ≤ f i x := by simpa using hb
        have e4 : beatsAll f n x = false := by
          unfold beatsAll
          rw [List.all_eq_false]
          exact ⟨i, List.mem_range.mpr hi, by simp [hb2.1, hb2.2]⟩
        rw [e4] at k
        exact k H3 ((e.trans e2).trans e3)
      · refine ⟨_, rfl, e.trans e2, fun y hy => ?_⟩
        by_cases h : y = i
        · subst h
          by_cases hyx : y = x
          · rw [decide_eq_true hyx, Bool.true_or]
          · have : ¬ (f x y ≤ f y x) := fun z => by
              rw [decide_eq_false hyx, decide_eq_true z] at hb
              cases hb
            rw [decide_eq_true (show f y x < f x y by omega), Bool.or_true]
        · exact hall y (by omega)
    · rintro σ' H' ⟨v, rfl, e, hall⟩
      have e4 : beatsAll f n x = true := List.all_eq_true.mpr fun y hy => hall y (List.mem_range.mp hy)
      rw [e4] at k
      exact s_ret ev_c fun H3 e3 => k H3 (e.trans e3)
theorem sc_answer_king : FnScope ["panel", "numbers", "rows", "table", "sample"] ["panel", "numbers", "rows"] (defScope s_answer_king) := ⟨rfl, rfl, rfl, by decide +kernel, rfl, by decide +kernel, by decide +kernel⟩
def sp_answer_king (K : PySem.W.Frag) : Sp := fun vs H Q _ => ∃ (p : Addr) (u r : V) (s : MS) (k : SK), vs = [.ref p, u, r] ∧ PanelAt K H p s k ∧ Ready s ∧ RetP (IsF H (aKing s)) H Q
theorem ok_answer_king {f : Addr} {fd : FuncData} (F : Fun K "answer_king" "answer_king" s_answer_king f fd) (T : Txt K mg) (D_weight_table : DefK P w K mg base "weight_table" 3 ["panel"] (sp_weight_table K)) (D_answered : DefK P w K mg base "answered" 1 ["numbers"] (sp_answered K)) (D_beats_all : DefK P w K mg base "beats_all" 1 ["table", "sample"] (sp_beats_all K))  : FnOk P w K mg base CX0 4 f fd ["panel", "numbers", "rows"] (sp_answer_king K) := by
  refine F.ok sc_answer_king (fun vs H Q E h => ?_) (fun cdv A outer s H vs Q E hr h => ⟨_, (pss_cons (ps_set (i := 3) sc_answer_king.nd rfl (Or.inl rfl) (pe_def D_weight_table hr (pa_cons (pv 0) pa_nil)))
        (pss_cons (ps_for PassesOwn.never rfl (pi_range1 rfl T.range (pa_cons (pe_callB call_len_seq (by rfl) T.len (by decide +kernel) (pa_cons (pv 3) pa_nil)) pa_nil)) (pg_name (i := 4) sc_answer_king.nd rfl (Or.inl rfl))
        (pss_one (ps_if (pt_val (pe_def D_beats_all hr (pa_cons (pv 3) (pa_cons (pv 4) pa_nil)))) (pss_one (ps_ret (pe_def D_answered hr (pa_cons (pe_lst (pa_cons (pe_op op_add (pv 4) pe_int) pa_nil)) pa_nil)))) pss_nil)))
        (pss_one (ps_ret (pe_def D_answered hr (pa_cons (pe_lst (pa_cons pe_int pa_nil)) pa_nil)))))), ?_⟩)
  · obtain ⟨_, _, _, _, _, rfl, _⟩ := h
    rfl
  · obtain ⟨p, u, r, s, k, rfl, hP, R, g⟩ := h
    have hn := R.ok.n
    refine pq_asg (p_v1 (v0 0 rfl) (sv_weight_table hP R.ok)) ?_
    rintro _ H1 e1 ⟨t, rfl, ht⟩
    have hM : Mat H1 t s.n (weightOver s.noses) := ht
    refine q_R1 (e_lenM (v0 3 rfl) hM) (by omega) (fun i σ' H' => ∃ v, σ' = [some (.ref p), some u, some r, some (.ref t), v] ∧ Ex H1 H' ∧ ∀ y, y < i → beatsAll (weightOver s.noses) s.n y = false) (fun H1 e1 => ⟨none, rfl, e1, fun j hj => absurd hj (Nat.not_lt_zero _)⟩) ?_ ?_
    · rintro i σ' H' hi ⟨v, rfl, e, hno⟩
      refine s_when (et_B (c2 (v0 3 rfl) (v0 4 rfl) (sv_beats_all (hM.mono e) hi hn))) (fun hb H2 e2 => ?_) (fun hb H2 e2 => ?_)
      · have e4 : aKing s = yes [i + 1] := by
          unfold aKing
          rw [find_range hi hb hno]
        rw [e4] at g
        exact p_ret (p_answered (l := [i + 1]) (p_new (el_lst (ea_cons (ev_op (v0 4 rfl) (e_n (a := 1) rfl) r_add) ea_nil) (by show 1 ≤ 100000; decide))) (by show 1 ≤ 1000; decide)) fun v H5 e5 hv => g v H5 ((e1.trans e).trans (e2.trans e5)) (hv.back ((e1.trans e).trans (e2.trans (Ex.refl _))))
      · refine ⟨_, rfl, e.trans e2, fun y hy => ?_⟩
        by_cases h : y = i
        · rw [h, hb]
        · exact hno y (by omega)
    · rintro σ' H' ⟨v, rfl, e, hno⟩
      have e4 : aKing s = yes [0] := by
        unfold aKing
        rw [find_range_none hno]
      rw [e4] at g
      exact p_ret (p_answered (l := [0]) (p_new (el_lst (ea_cons (e_n (a := 0) rfl) ea_nil) (by show 1 ≤ 100000; decide))) (by show 1 ≤ 1000; decide)) fun v H5 e5 hv => g v H5 ((e1.trans e).trans e5) (hv.back ((e1.trans e).trans (Ex.refl _)))
/-! ### agree -/
def bothRow (x y : MN) (a : Nat) (bs : List Nat) : List (Nat × Nat) := (bs.filter fun b => hasSaid x a b && hasSaid y a b).map fun b => (a, b)
theorem pairsOfBoth_succ (n : Nat) (x y : MN) (i : Nat) : pairsOfBoth n x y (i + 1) = pairsOfBoth n x y i ++ bothRow x y i (above n i) := by
  unfold pairsOfBoth
  rw [List.range_succ, List.flatMap_append, List.flatMap_cons, List.flatMap_nil, List.append_nil]
  rfl
theorem bothRow_len (x y : MN) (a : Nat) (bs : List Nat) : (bothRow x y a bs).length ≤ bs.length := by
  unfold bothRow
  rw [List.length_map]
  exact List.length_filter_le _ _
theorem pairsOfBoth_len (n : Nat) (x y : MN) : ∀ i, (pairsOfBoth n x y i).length ≤ i * n
  | 0 => Nat.zero_le _
  | i + 1 => by
    rw [pairsOfBoth_succ, List.length_append]
    have h1 := pairsOfBoth_len n x y i
    have h2 := bothRow_len x y i (above n i)
    have h3 : (above n i).length = n - (i + 1) := List.length_range' ..
    rw [Nat.succ_mul]
    omega
theorem mem_pairsOfBoth {n i : Nat} {x y : MN} {z : Nat × Nat} (h : z ∈ pairsOfBoth n x y i) (hi : i ≤ n) : z.1 < n ∧ z.2 < n := by
  unfold pairsOfBoth at h
  obtain ⟨a, ha, hz⟩ := List.mem_flatMap.mp h
  obtain ⟨b, hb, rfl⟩ := List.mem_map.mp hz
  have h1 := List.mem_range.mp ha
  have h2 := (List.mem_filter.mp hb).1
  unfold above at h2
  rw [List.mem_range'_1] at h2
  refine ⟨?_, ?_⟩
  · show a < n
    omega
  · show b < n
    omega
theorem sc_pairs_of_both : FnScope ["panel", "first", "second", "pairs", "a", "b"] ["panel", "first", "second"] (defScope s_pairs_of_both) := ⟨rfl, rfl, rfl, by decide +kernel, rfl, by decide +kernel, by decide +kernel⟩
def sp_pairs_of_both (K : PySem.W.Frag) : Sp := fun vs H Q _ => ∃ (p : Addr) (q q' : NS) (n : Nat) (x y : MN) (s : MS) (k : SK), vs = [.ref p, .ref q.a, .ref q'.a] ∧ PanelAt K H p s k ∧ s.n = n ∧ n ≤ 8 ∧ NoseAt K H q n x ∧ NoseAt K H q' n y ∧ RetP (IsR (PairsO (pairsOfBoth n x y n))) H Q
theorem sv_pairs_of_both {H : Hp} {p : Addr} {q q' : NS} {n : Nat} {x y : MN} {s : MS} {k : SK} (hP : PanelAt K H p s k) (hs : s.n = n) (hn : n ≤ 8) (hx : NoseAt K H q n x) (hy : NoseAt K H q' n y) : SpP (sp_pairs_of_both K) [.ref p, .ref q.a, .ref q'.a] H (IsR (PairsO (pairsOfBoth n x y n))) :=
  fun _ e _ g _ => ⟨p, q, q', n, x, y, s, k, rfl, hP.mono e, hs, hn, hx.mono e, hy.mono e, g⟩
theorem ok_pairs_of_both {f : Addr} {fd : FuncData} (F : Fun K "pairs_of_both" "pairs_of_both" s_pairs_of_both f fd) (T : Txt K mg) (D_has_said : DefK P w K mg base "has_said" 1 ["nose", "a", "b"] (sp_has_said K))  : FnOk P w K mg base CX0 2 f fd ["panel", "first", "second"] (sp_pairs_of_both K) := by
  refine F.ok sc_pairs_of_both (fun vs H Q E h => ?_) (fun cdv A outer s H vs Q E hr h => ⟨_, (pss_cons (ps_set (i := 3) sc_pairs_of_both.nd rfl (Or.inl rfl) (pe_lst pa_nil))
        (pss_cons (ps_for PassesOwn.never rfl (pi_range1 rfl T.range (pa_cons (pe_fld (pv 0) rfl) pa_nil)) (pg_name (i := 4) sc_pairs_of_both.nd rfl (Or.inl rfl))
        (pss_one (ps_for PassesOwn.never rfl (pi_range2 rfl T.range (pa_cons (pe_op op_add (pv 4) pe_int) (pa_cons (pe_fld (pv 0) rfl) pa_nil))) (pg_name (i := 5) sc_pairs_of_both.nd rfl (Or.inl rfl))
        (pss_one (ps_if (PW.pt (pw_and (pt_val (pe_def D_has_said hr (pa_cons (pv 1) (pa_cons (pv 4) (pa_cons (pv 5) pa_nil))))) (pw_and1 (pt_val (pe_def D_has_said hr (pa_cons (pv 2) (pa_cons (pv 4) (pa_cons (pv 5) pa_nil)))))))) (pss_one (ps_expr (pe_bm PySem.F.plainAttrs_list PySem.F.slot_list_append PySem.F.type_list_append mt_append (pv 3) (pa_cons (pe_tup (pa_cons (pv 4) (pa_cons (pv 5) pa_nil))) pa_nil)))) pss_nil)))))
        (pss_one (ps_ret (pv 3))))), ?_⟩)
  · obtain ⟨_, _, _, _, _, _, _, _, rfl, _⟩ := h
    rfl
  · obtain ⟨p, q, q', n, x, y, s, k, rfl, hP, rfl, hn, hx, hy, g⟩ := h
    refine q_nil fun l H1 hl e1 h1 => ?_
    refine q_R1 (e_samples T (v0 0 rfl) (hP.mono e1)) (by omega) (fun i σ' H' => ∃ v u, σ' = [some (.ref p), some (.ref q.a), some (.ref q'.a), some (.ref l), v, u] ∧ Ex H H' ∧ Refs H' l (PairsO (pairsOfBoth s.n x y i))) (fun H2 e2 => ⟨none, none, rfl, e1.trans e2, (Refs.nil h1).mono e2⟩) ?_ ?_
    · rintro i σ' H' hi ⟨v, u, rfl, e, hp⟩
      refine s_R2 (lo := i + 1) (ev_op (v0 4 rfl) (e_n (a := 1) rfl) r_add) (e_samples T (v0 0 rfl) (hP.mono e)) (by omega) (by omega) (fun j σ' H' => ∃ u, σ' = [some (.ref p), some (.ref q.a), some (.ref q'.a), some (.ref l), some (nV i), u] ∧ Ex H H' ∧ Refs H' l (PairsO (pairsOfBoth s.n x y i ++ bothRow x y i (List.range' (i + 1) j))))
        (fun H2 e2 => ⟨u, rfl, e.trans e2, by rw [show bothRow x y i (List.range' (i + 1) 0) = [] from rfl, List.append_nil]; exact hp.mono e2⟩) ?_ ?_
      · rintro j σ2 H2 hj ⟨u2, rfl, e2, hp2⟩
        have hz := pairsOfBoth_len s.n x y i
        have hz2 := bothRow_len x y i (List.range' (i + 1) j)
        rw [List.length_range'] at hz2
        have hz3 : i * s.n ≤ 8 * 8 := Nat.mul_le_mul (by omega) hn
        have es : bothRow x y i (List.range' (i + 1) (j + 1)) = if (hasSaid x i (i + 1 + j) && hasSaid y i (i + 1 + j)) = true then bothRow x y i (List.range' (i + 1) j) ++ [(i, i + 1 + j)] else bothRow x y i (List.range' (i + 1) j) := by
          unfold bothRow
          rw [List.range'_concat, List.filter_append, List.map_append, List.filter_cons, Nat.one_mul]
          split
          · rfl
          · exact List.append_nil _
        refine s_when (et_and (et_B (c3 (v0 1 rfl) (v0 4 rfl) (v0 5 rfl) (sv_has_said (hx.mono e2) hi hj))) fun _ => et_B (c3 (v0 2 rfl) (v0 4 rfl) (v0 5 rfl) (sv_has_said (hy.mono e2) hi hj))) (fun hb H3 e3 => ?_) (fun hb H3 e3 => ?_)
        · refine s_appT (hp2.mono e3) (v0 3 rfl) (eu_tup (ea_cons (v0 4 rfl) (ea_cons (v0 5 rfl) ea_nil)) (by show 2 ≤ 100000; decide)) (by rw [pairsO_len, List.length_append, sizeLine_is]; omega) fun H4 up hr => ⟨_, rfl, up H (e2.trans e3) hl, ?_⟩
          rw [es, if_pos hb, ← List.append_assoc, pairsO_app]
          exact hr
        · refine ⟨_, rfl, e2.trans e3, ?_⟩
          rw [es, if_neg (by rw [hb]; decide)]
          exact hp2.mono e3
      · rintro σ2 H2 ⟨u2, rfl, e2, hp2⟩
        rw [show bothRow x y i (List.range' (i + 1) (s.n - (i + 1))) = bothRow x y i (above s.n i) from rfl, ← pairsOfBoth_succ] at hp2
        exact ⟨_, _, rfl, e2, hp2⟩
    · rintro σ' H' ⟨v, u, rfl, e, hp⟩
      exact p_ret (p_of (P := IsR _) (v0 3 rfl) fun H1 e1 => ⟨l, rfl, hp.mono e1⟩) fun v H2 e2 hv => g v H2 (e.trans e2) hv
theorem sameIn_snoc (x y : MN) (l : List (Nat × Nat)) (z : Nat × Nat) : sameIn x y (l ++ [z]) = if x.said z.1 z.2 = y.said z.1 z.2 then sameIn x y l + 1 else sameIn x y l := by
  unfold sameIn
  rw [List.filter_append, List.length_append, List.filter_cons]
  by_cases h : x.said z.1 z.2 = y.said z.1 z.2
  · rw [if_pos (decide_eq_true h), if_pos h]
    rfl
  · rw [if_neg (by rw [decide_eq_false h]; decide), if_neg h]
    rfl
theorem sc_answer_agree : FnScope ["panel", "numbers", "rows", "number", "why", "first", "second", "pairs", "same", "a", "b"] ["panel", "numbers", "rows"] (defScope s_answer_agree) := ⟨rfl, rfl, rfl, by decide +kernel, rfl, by decide +kernel, by decide +kernel⟩
def sp_answer_agree (K : PySem.W.Frag) : Sp := fun vs H Q _ => ∃ (p u : Addr) (r : V) (a b : Nat) (s : MS) (k : SK), vs = [.ref p, .ref u, r] ∧ PanelAt K H p s k ∧ Ready s ∧ H u = some (.lst (nL [a, b])) ∧ RetP (IsF H (aAgree s a b)) H Q
theorem ok_answer_agree {f : Addr} {fd : FuncData} (F : Fun K "answer_agree" "answer_agree" s_answer_agree f fd) (T : Txt K mg) (D_pairs_of_both : DefK P w K mg base "pairs_of_both" 2 ["panel", "first", "second"] (sp_pairs_of_both K)) (D_answered : DefK P w K mg base "answered" 1 ["numbers"] (sp_answered K)) (D_nose_refusal : DefK P w K mg base "nose_refusal" 1 ["panel", "nose"] (sp_nose_refusal K)) (D_refused : DefK P w K mg base "refused" 1 ["why"] (sp_refused K))  : FnOk P w K mg base CX0 3 f fd ["panel", "numbers", "rows"] (sp_answer_agree K) := by
  refine F.ok sc_answer_agree (fun vs H Q E h => ?_) (fun cdv A outer s H vs Q E hr h => ⟨_, (pss_cons (ps_for PassesOwn.never rfl (pi_list (pv 1)) (pg_name (i := 3) sc_answer_agree.nd rfl (Or.inl rfl))
        (pss_cons (ps_set (i := 4) sc_answer_agree.nd rfl (Or.inl rfl) (pe_def D_nose_refusal hr (pa_cons (pv 0) (pa_cons (pv 3) pa_nil))))
        (pss_one (ps_if (pt_cmpR op_ne (pv 4) (pe_const T.c_ALL_WELL) (nomark _)) (pss_one (ps_ret (pe_def D_refused hr (pa_cons (pv 4) pa_nil)))) pss_nil))))
        (pss_cons (ps_set (i := 5) sc_answer_agree.nd rfl (Or.inl rfl) (pe_ix ix_list (pe_fld (pv 0) rfl) (pe_ix ix_list (pv 1) pe_int (fun _ _ => rfl)) (fun _ _ => rfl)))
        (pss_cons (ps_set (i := 6) sc_answer_agree.nd rfl (Or.inl rfl) (pe_ix ix_list (pe_fld (pv 0) rfl) (pe_ix ix_list (pv 1) pe_int (fun _ _ => rfl)) (fun _ _ => rfl)))
        (pss_cons (ps_set (i := 7) sc_answer_agree.nd rfl (Or.inl rfl) (pe_def D_pairs_of_both hr (pa_cons (pv 0) (pa_cons (pv 5) (pa_cons (pv 6) pa_nil)))))
        (pss_cons (ps_set (i := 8) sc_answer_agree.nd rfl (Or.inl rfl) pe_int)
        (pss_cons (ps_for PassesOwn.never rfl (pi_list (pv 7)) (pg_tup rfl (pgs_cons (pg_name (i := 9) sc_answer_agree.nd rfl (Or.inl rfl)) (pgs_cons (pg_name (i := 10) sc_answer_agree.nd rfl (Or.inl rfl)) pgs_nil)))
        (pss_one (ps_if (pt_cmpR op_eq (pe_ix ix_list (pe_ix ix_list (pe_fld (pv 5) rfl) (pv 9) (fun _ _ => rfl)) (pv 10) (fun _ _ => rfl)) (pe_ix ix_list (pe_ix ix_list (pe_fld (pv 6) rfl) (pv 9) (fun _ _ => rfl)) (pv 10) (fun _ _ => rfl)) (nomark _)) (pss_one (ps_aug (i := 8) sc_answer_agree.nd rfl (Or.inl rfl) pe_int ip_add)) pss_nil)))
        (pss_one (ps_ret (pe_def D_answered hr (pa_cons (pe_lst (pa_cons (pe_callB call_len_seq (by rfl) T.len (by decide +kernel) (pa_cons (pv 7) pa_nil)) (pa_cons (pv 8) pa_nil))) pa_nil)))))))))), ?_⟩)
  · obtain ⟨_, _, _, _, _, _, _, rfl, _⟩ := h
    rfl
  · obtain ⟨p, u, r, a, b, s, k, rfl, hP, R, hu, g⟩ := h
    have hn := R.ok.n
    refine q_forLn (xs := [nV a, nV b]) (v0 1 rfl) (SqL.of hu) (fun i σ' H' => ∃ v w, σ' = [some (.ref p), some (.ref u), some r, v, w, none, none, none, none, none, none] ∧ Ex H H' ∧ (1 ≤ i → noseNo s a = 0) ∧ (2 ≤ i → noseNo s b = 0)) (fun H1 e1 => ⟨none, none, rfl, e1, fun z => absurd z (by omega), fun z => absurd z (by omega)⟩) (fun i σ' H' _ ⟨_, _, _, e, _⟩ => SqL.of (e _ _ hu)) ?_ ?_
    · rintro i x σ' H' hx ⟨v, w, rfl, e, h1, h2⟩
      have hz : ∃ z, x = nV z ∧ ((i = 0 ∧ z = a) ∨ (i = 1 ∧ z = b)) := by
        match i, hx with
        | 0, hx => exact ⟨a, (Option.some.inj hx).symm, .inl ⟨rfl, rfl⟩⟩
        | 1, hx => exact ⟨b, (Option.some.inj hx).symm, .inr ⟨rfl, rfl⟩⟩
      obtain ⟨z, rfl, hz⟩ := hz
      refine q_asg (c2 (v0 0 rfl) (v0 3 rfl) (sv_nose_refusal (hP.mono e))) fun H2 e2 => ?_
      have hg : noseNo s z ≠ 0 → aAgree s a b = no (noseNo s z) := fun hne => by
        rcases hz with ⟨_, rfl⟩ | ⟨hi, rfl⟩
        · exact if_neg hne
        · exact (if_pos (h1 (by omega))).trans (if_neg hne)
      refine s_when (et_test (ev_op (v0 4 rfl) ev_c r_neI)) (fun hb H3 e3 => ?_) (fun hb H3 e3 => ?_)
      · have hne : noseNo s z ≠ 0 := fun y => by
          rw [decide_eq_true y] at hb
          cases hb
        rw [hg hne] at g
        exact p_ret (p_v1 (v0 4 rfl) sv_refused) fun v H4 e4 hv => g v H4 (e.trans (e2.trans (e3.trans e4))) (hv.back (e.trans (e2.trans (e3.trans (Ex.refl _)))))
      · have h0 : noseNo s z = 0 := by
          rw [Bool.not_eq_false'] at hb
          exact of_decide_eq_true hb
        refine ⟨_, _, rfl, e.trans (e2.trans e3), fun _ => ?_, fun hi => ?_⟩
        · rcases hz with ⟨_, rfl⟩ | ⟨hi, rfl⟩
          · exact h0
          · exact h1 (by omega)
        · rcases hz with ⟨_, rfl⟩ | ⟨_, rfl⟩
          · omega
          · exact h0
    · rintro σ' H' ⟨v, w, rfl, e, h1, h2⟩
      have ha := h1 (by show 1 ≤ 2; decide)
      have hb := h2 (by show 2 ≤ 2; decide)
      have g : RetP (IsF H (yes [(pairsOfBoth s.n (noseAt s a) (noseAt s b) s.n).length, sameIn (noseAt s a) (noseAt s b) (pairsOfBoth s.n (noseAt s a) (noseAt s b) s.n)])) H Q := by
        rw [show aAgree s a b = _ from (if_pos ha).trans (if_pos hb)] at g
        exact g
      obtain ⟨q, hq, hv, hx, hN⟩ := (hP.mono e).at_ (noseNo_ok ha)
      obtain ⟨q', hq', hv', hx', hN'⟩ := (hP.mono e).at_ (noseNo_ok hb)
      have hu' := e _ _ hu
      refine q_asg (e_nose T (v0 0 rfl) (hP.mono e) (e_ix (l := [a, b]) (v0 1 rfl) (SqL.of hu') (e_n (a := 0) rfl) (by show 0 < 2; decide)) hv) fun H2 e2 => ?_
      refine q_asg (e_nose T (v0 0 rfl) ((hP.mono e).mono e2) (e_ix (l := [a, b]) (v0 1 rfl) (SqL.of (e2 _ _ hu')) (e_n (a := 1) rfl) (by show 1 < 2; decide)) hv') fun H3 e3 => ?_
      have e23 := e2.trans e3
      refine pq_asg (p_v3 (v0 0 rfl) (v0 5 rfl) (v0 6 rfl) (sv_pairs_of_both ((hP.mono e).mono e23) rfl hn (hN.mono e23) (hN'.mono e23))) ?_
      rintro _ H4 e4 ⟨d, rfl, hd⟩
      refine q_asg (e_n (a := 0) rfl) fun H5 e5 => ?_
      have hz := pairsOfBoth_len s.n (noseAt s a) (noseAt s b) s.n
      refine q_forR (os := PairsO (pairsOfBoth s.n (noseAt s a) (noseAt s b) s.n)) (v0 7 rfl) hd e5 (fun i σ' H' => ∃ y z, σ' = [some (.ref p), some (.ref u), some r, v, w, some (.ref q.a), some (.ref q'.a), some (.ref d), some (nV (sameIn (noseAt s a) (noseAt s b) ((pairsOfBoth s.n (noseAt s a) (noseAt s b) s.n).take i))), y, z] ∧ Ex H4 H')
        (fun H7 e7 => ⟨none, none, rfl, e5.trans e7⟩) (fun i σ' H' ⟨_, _, _, e⟩ => e) ?_ ?_
      · rintro i ad o σ' H' ho hao ⟨y, z, rfl, e6⟩
        obtain ⟨x, hx2, rfl⟩ := pairsO_at ho
        obtain ⟨l1, l2⟩ := mem_pairsOfBoth (List.mem_of_getElem? hx2) (Nat.le_refl _)
        refine ⟨ad, _, rfl, SqT.of (e6 _ _ hao), rfl, _, _, rfl, _, _, rfl, rfl, ?_⟩
        have e46 := (e23.trans e4).trans e6
        have st := sameIn_snoc (noseAt s a) (noseAt s b) ((pairsOfBoth s.n (noseAt s a) (noseAt s b) s.n).take i) x
        rw [← take_snoc hx2] at st
        refine s_when (et_test (ev_op (e_saidAt T (v0 5 rfl) (hN.mono e46) (v0 9 rfl) (v0 10 rfl) l1 l2) (e_saidAt T (v0 6 rfl) (hN'.mono e46) (v0 9 rfl) (v0 10 rfl) l1 l2) r_eq)) (fun hb H7 e7 => ?_) (fun hb H7 e7 => ?_)
        · refine s_augN rfl (e_n (a := 1) rfl) fun H8 e8 => ?_
          rw [if_pos (of_decide_eq_true hb)] at st
          refine ⟨_, _, by rw [st]; rfl, e6.trans (e7.trans e8)⟩
        · rw [if_neg (of_decide_eq_false hb)] at st
          refine ⟨_, _, by rw [st]; rfl, e6.trans e7⟩
      · rintro σ' H' ⟨y, z, rfl, e6⟩
        rw [pairsO_len, List.take_length]
        obtain ⟨xs, hxs, hxl⟩ := hd.list
        rw [pairsO_len] at hxl
        exact p_ret (p_answered (l := [_, _]) (p_new (el_lst (ea_cons (e_len (v0 7 rfl) (SqL.of (e6 _ _ hxs)) hxl) (ea_cons (v0 8 rfl) ea_nil)) (by show 2 ≤ 100000; decide))) (by show 2 ≤ 1000; decide)) fun v H7 e7 hv => g v H7 (e.trans (e23.trans (e4.trans (e6.trans e7)))) (hv.back (e.trans (e23.trans (e4.trans (e6.trans (Ex.refl _))))))
/-! ### trials -/
def TriO (l : List MT) : List HO := l.map MTup
theorem triO_len (l : List MT) : (TriO l).length = l.length := List.length_map ..
theorem triO_at {l : List MT} {i : Nat} {o : HO} (h : (TriO l)[i]? = some o) : ∃ t, l[i]? = some t ∧ o = MTup t := by
  unfold TriO at h
  rw [List.getElem?_map] at h
  cases e : l[i]? with
  | none =>
    rw [e] at h
    cases h
  | some r =>
    rw [e] at h
    exact ⟨r, rfl, (Option.some.inj h).symm⟩
theorem triO_app (l : List MT) (t : MT) : TriO (l ++ [t]) = TriO l ++ [MTup t] := by
  unfold TriO
  rw [List.map_append]
  rfl
theorem PanelAt.tri {H : Hp} {p : Addr} {s : MS} {k : SK} (h : PanelAt K H p s k) : Refs H k.lt (TriO s.trials) := by
  refine ⟨k.ts, by rw [triO_len, h.lt], fun z => ?_, h.ht, fun i a o ha ho => ?_⟩
  · obtain ⟨i, hi⟩ := List.getElem?_of_mem z
    have hlt : i < s.trials.length := by
      rw [← h.lt]
      exact (List.getElem?_eq_some_iff.mp hi).1
    have h1 := h.trial i _ _ hi (List.getElem?_eq_getElem hlt)
    rw [h.ht] at h1
    cases h1
  · obtain ⟨t, ht, rfl⟩ := triO_at ho
    exact h.trial i a t ha ht
theorem rights_snoc (l : List MT) (t : MT) : rightsOf (l ++ [t]) = rightsOf l + t.right := by
  unfold rightsOf
  rw [List.map_append, List.sum_append]
  rfl
/-- a comprehension over a list of tuples of four, the fourth of each -/
theorem el_fourth {σ : L2.St} {H : Hp} {tl : TE} {p : Addr} {l : List MT} (h : Ev tl σ H (.ref p)) (hp : Refs H p (TriO l)) (hz : l.length ≤ 1000) (hw : wipe (((((wipe σ [1, 2, 3, 4]).set 1 (some .non)).set 2 (some .non)).set 3 (some .non)).set 4 (some .non)) [1, 2, 3, 4] = wipe σ [1, 2, 3, 4])
    (hw2 : ∀ a b c d : V, wipe (((((wipe σ [1, 2, 3, 4]).set 1 (some a)).set 2 (some b)).set 3 (some c)).set 4 (some d)) [1, 2, 3, 4] = wipe σ [1, 2, 3, 4])
    (h4 : ∀ a b c d : V, (((((wipe σ [1, 2, 3, 4]).set 1 (some a)).set 2 (some b)).set 3 (some c)).set 4 (some d))[4]? = some (some d)) :
    EvL (tLc (iList K tl) (gTup K 4 (gCons (gName 1) (gCons (gName 2) (gCons (gName 3) (gCons (gName 4) gNil))))) tYes (tVar 4) [1, 2, 3, 4]) σ H (nL (l.map MT.right)) := fun H0 e Q q => h H0 e _ fun H1 e1 => by
  obtain ⟨as, g1, _, g2, g3⟩ := hp.mono (e.trans e1)
  rw [triO_len] at g1
  refine ⟨p, rfl, ⟨as.map V.ref, SqL.of g2⟩, fun Dl hD => ?_⟩
  refine lc_list (xs := as.map V.ref) (fun i H' => Ex H1 H' ∧ H' Dl = some (.lst (nL ((l.take i).map MT.right)))) ⟨Ex.new hD, by rw [upd_same]; rfl⟩ (fun i H' _ p => SqL.of (p.1 _ _ g2)) (fun i x H' hi pv => ?_) (fun H' pv => ?_)
  · obtain ⟨p1, p2⟩ := pv
    rw [List.getElem?_map] at hi
    cases ha : as[i]? with
    | none =>
      rw [ha] at hi
      cases hi
    | some a =>
      rw [ha] at hi
      cases hi
      have hlt := (List.getElem?_eq_some_iff.mp ha).1
      have ht : l[i]? = some l[i] := List.getElem?_eq_getElem (by omega)
      have ho := g3 i a (MTup l[i]) ha (by unfold TriO; rw [List.getElem?_map, ht]; rfl)
      refine ⟨a, _, rfl, SqT.of (p1 _ _ ho), rfl, _, _, rfl, _, _, rfl, _, _, rfl, _, _, rfl, rfl, hw2 _ _ _ _, ?_⟩
      refine ⟨_, h4 _ _ _ _, _, p2, ?_, ?_, ?_⟩
      · rw [nL_len, List.length_map, List.length_take, sizeLine_is]
        omega
      · intro b o hb
        rw [upd_ne fun z => by rw [z, hD] at hb; cases hb]
        exact p1 b o hb
      · rw [upd_same, take_snoc ht, List.map_append]
        unfold nL
        rw [List.map_append]
        rfl
  · obtain ⟨p1, p2⟩ := pv
    rw [List.length_map, g1, List.take_length] at p2
    exact q Dl H' (fresh_back e1 hD) (e1.trans p1) p2
theorem sc_how_many_right : FnScope ["trials", "nose", "a", "b", "right"] ["trials"] (defScope s_how_many_right) := ⟨rfl, rfl, rfl, by decide +kernel, rfl, by decide +kernel, by decide +kernel⟩
def sp_how_many_right (_ : PySem.W.Frag) : Sp := fun vs H Q _ => ∃ (p : Addr) (l : List MT), vs = [.ref p] ∧ Refs H p (TriO l) ∧ l.length ≤ 1000 ∧ RetV (nV (rightsOf l)) H Q
theorem sv_how_many_right {H : Hp} {p : Addr} {l : List MT} (hp : Refs H p (TriO l)) (hl : l.length ≤ 1000) : SpV (sp_how_many_right K) [.ref p] H (nV (rightsOf l)) := fun _ e _ q _ => ⟨p, l, rfl, hp.mono e, hl, q⟩
theorem ok_how_many_right {f : Addr} {fd : FuncData} (F : Fun K "how_many_right" "how_many_right" s_how_many_right f fd) (T : Txt K mg)   : FnOk P w K mg base CX0 1 f fd ["trials"] (sp_how_many_right K) := by
  refine F.ok sc_how_many_right (fun vs H Q E h => ?_) (fun cdv A outer s H vs Q E hr h => ⟨_, (pss_one (ps_ret (pe_callB (cr_sumK (K := K) rfl rfl) (by rfl) T.sum (by decide +kernel) (pa_cons (pe_lc (own := [("nose", 1), ("a", 2), ("b", 3), ("right", 4)]) (g := gTup K 4 (gCons (gName 1) (gCons (gName 2) (gCons (gName 3) (gCons (gName 4) gNil))))) (tt := tYes) rfl sc_how_many_right.nd (pi_list (pv 0)) (blkOk_by (N := ["trials", "nose", "a", "b", "right"]) (sc := defScope s_how_many_right) (by decide +kernel)) (fun _ _ _ _ _ => (pg_tup rfl (pgs_cons (pg_name (i := 1) sc_how_many_right.nd rfl (Or.inl rfl)) (pgs_cons (pg_name (i := 2) sc_how_many_right.nd rfl (Or.inl rfl)) (pgs_cons (pg_name (i := 3) sc_how_many_right.nd rfl (Or.inl rfl)) (pgs_cons (pg_name (i := 4) sc_how_many_right.nd rfl (Or.inl rfl)) pgs_nil)))))) (fun _ _ _ _ _ => pts_nil) (fun _ _ _ _ _ => (pv 4))) pa_nil)))), ?_⟩)
  · obtain ⟨_, _, rfl, _⟩ := h
    rfl
  · obtain ⟨p, l, rfl, hp, hl, k⟩ := h
    exact s_ret (e_sumL (el_fourth (v0 0 rfl) hp hl rfl (fun _ _ _ _ => rfl) (fun _ _ _ _ => rfl))) k
/-- a comprehension of some of a list's objects -/
theorem er_lcF {σ : L2.St} {H : Hp} {tl : TE} {t : TT} {te : TE} {j : Nat} {vs : List Nat} {p : Addr} {l : List MT} (f : MT → Bool) (h : Ev tl σ H (.ref p)) (hp : Refs H p (TriO l)) (hz : l.length ≤ 1000) (hw : ∀ x, wipe ((wipe σ vs).set j (some x)) vs = wipe σ vs)
    (ht : ∀ (x : MT) (a : Addr) H1, Ex H H1 → H1 a = some (MTup x) → EvT t ((wipe σ vs).set j (some (.ref a))) H1 (f x)) (he : ∀ (a : Addr) H1, Ev te ((wipe σ vs).set j (some (.ref a))) H1 (.ref a)) :
    ∀ Q : VK, (∀ d H2, H d = none → Ex H H2 → Refs H2 d (TriO (l.filter f)) → Q (.ref d) H2) → tLc (iList K tl) (gName j) t te vs σ H Q := fun Q q => h H (Ex.refl H) _ fun H1 e1 => by
  obtain ⟨as, g1, _, g2, g3⟩ := hp.mono e1
  rw [triO_len] at g1
  refine ⟨p, rfl, ⟨as.map V.ref, SqL.of g2⟩, fun Dl hD => ?_⟩
  refine lc_list (xs := as.map V.ref) (fun i H' => Ex H1 H' ∧ Refs H' Dl (TriO ((l.take i).filter f))) ⟨Ex.new hD, Refs.nil upd_same⟩ (fun i H' _ p => SqL.of (p.1 _ _ g2)) (fun i x H' hi pv => ?_) (fun H' pv => ?_)
  · obtain ⟨p1, p2⟩ := pv
    rw [List.getElem?_map] at hi
    cases ha : as[i]? with
    | none =>
      rw [ha] at hi
      cases hi
    | some a =>
      rw [ha] at hi
      cases hi
      have hlt := (List.getElem?_eq_some_iff.mp ha).1
      have ht2 : l[i]? = some l[i] := List.getElem?_eq_getElem (by omega)
      have ho := g3 i a (MTup l[i]) ha (by unfold TriO; rw [List.getElem?_map, ht2]; rfl)
      have st : (l.take (i + 1)).filter f = if f l[i] = true then (l.take i).filter f ++ [l[i]] else (l.take i).filter f := by
        rw [take_snoc ht2, List.filter_append, List.filter_cons]
        split
        · rfl
        · exact List.append_nil _
      refine ⟨hw _, ht l[i] a H' (e1.trans p1) (p1 _ _ ho) H' (Ex.refl H') _ fun H2 e2 => ?_⟩
      cases hf : f l[i] with
      | true =>
        rw [hf, if_pos rfl] at st
        refine he a H2 H2 (Ex.refl H2) _ fun H3 e3 => ?_
        have hao := e3 _ _ (e2 _ _ (p1 _ _ ho))
        have p3 := (p2.mono e2).mono e3
        have hne : a ≠ Dl := by
          rintro rfl
          obtain ⟨zs, hz, _⟩ := p3.list
          rw [hao] at hz
          cases hz
        obtain ⟨xs2, k1, k2, k3⟩ := p3.app hao hne
        refine ⟨xs2, k1, ?_, ?_, ?_⟩
        · rw [k2, triO_len, sizeLine_is]
          have := List.length_filter_le f (l.take i)
          rw [List.length_take] at this
          omega
        · intro b o hb
          rw [upd_ne fun z => by rw [z, hD] at hb; cases hb]
          exact e3 _ _ (e2 _ _ (p1 b o hb))
        · rw [st, triO_app]
          exact k3
      | false =>
        rw [hf, if_neg (by decide)] at st
        refine ⟨p1.trans e2, ?_⟩
        rw [st]
        exact p2.mono e2
  · obtain ⟨p1, p2⟩ := pv
    rw [List.length_map, g1, List.take_length] at p2
    exact q Dl H' (fresh_back e1 hD) (e1.trans p1) p2
theorem e_lenT {σ : L2.St} {H : Hp} {ta : TE} {p : Addr} {l : List MT} (ha : Ev ta σ H (.ref p)) (h : Refs H p (TriO l)) : Ev (tCB (rLenS K) (tCons ta tNil)) σ H (nV l.length) := by
  obtain ⟨xs, h1, h2⟩ := h.list
  exact e_len ha (SqL.of h1) (by rw [h2, triO_len])
theorem sc_answer_score : FnScope ["panel", "numbers", "rows", "number", "why", "trials", "trial"] ["panel", "numbers", "rows"] (defScope s_answer_score) := ⟨rfl, rfl, rfl, by decide +kernel, rfl, by decide +kernel, by decide +kernel⟩
def sp_answer_score (K : PySem.W.Frag) : Sp := fun vs H Q _ => ∃ (p u : Addr) (r : V) (h : Nat) (s : MS) (k : SK), vs = [.ref p, .ref u, r] ∧ PanelAt K H p s k ∧ Ready s ∧ H u = some (.lst (nL [h])) ∧ RetP (IsF H (aScore s h)) H Q
theorem s_lcF {σ : L2.St} {H : Hp} {tl te : TE} {t : TT} {j i : Nat} {vs : List Nat} {D : Ends} {tz : TS} {R : VP} (h : ∀ Q : VK, (∀ v H2, Ex H H2 → R v H2 → Q v H2) → tLc (iList K tl) (gName j) t te vs σ H Q) (k : ∀ v H2, Ex H H2 → R v H2 → tz D (σ.set i (some v)) H2) : tSeq (tAsg (tLc (iList K tl) (gName j) t te vs) (gName i)) tz D σ H :=
  h _ fun v H2 e r => k v H2 e r
theorem ok_answer_score {f : Addr} {fd : FuncData} (F : Fun K "answer_score" "answer_score" s_answer_score f fd) (T : Txt K mg) (D_nose_refusal : DefK P w K mg base "nose_refusal" 1 ["panel", "nose"] (sp_nose_refusal K)) (D_answered : DefK P w K mg base "answered" 1 ["numbers"] (sp_answered K)) (D_refused : DefK P w K mg base "refused" 1 ["why"] (sp_refused K)) (D_how_many_right : DefK P w K mg base "how_many_right" 1 ["trials"] (sp_how_many_right K))  : FnOk P w K mg base CX0 2 f fd ["panel", "numbers", "rows"] (sp_answer_score K) := by
  refine F.ok sc_answer_score (fun vs H Q E h => ?_) (fun cdv A outer s H vs Q E hr h => ⟨_, (pss_cons (ps_set (i := 3) sc_answer_score.nd rfl (Or.inr rfl) (pe_ix ix_list (pv 1) pe_int (fun _ _ => rfl)))
        (pss_cons (ps_set (i := 4) sc_answer_score.nd rfl (Or.inl rfl) (pe_def D_nose_refusal hr (pa_cons (pv 0) (pa_cons (pv 3) pa_nil))))
        (pss_cons (ps_if (pt_cmpR op_ne (pv 4) (pe_const T.c_ALL_WELL) (nomark _)) (pss_one (ps_ret (pe_def D_refused hr (pa_cons (pv 4) pa_nil)))) pss_nil)
        (pss_cons (ps_setLc (i := 5) (own := [("trial", 6)]) (g := gName 6) rfl sc_answer_score.nd rfl rfl (sw_true rfl rfl rfl (by decide +kernel)) (pi_list (pe_fld (pv 0) rfl)) (blkOk_by (N := ["panel", "numbers", "rows", "number", "why", "trials", "trial"]) (sc := defScope s_answer_score) (by decide +kernel)) (fun _ _ _ _ _ => pg_name (i := 6) sc_answer_score.nd rfl (Or.inl rfl)) (fun _ _ _ _ _ => pts_one (pt_cmpR op_eq (pe_ix (ix_tupK (K := K) rfl) (pv 6) pe_int (fun _ _ => rfl)) (pv 3) (nomark _))) (fun _ _ _ _ _ => (pv 6)))
        (pss_one (ps_ret (pe_def D_answered hr (pa_cons (pe_lst (pa_cons (pe_callB call_len_seq (by rfl) T.len (by decide +kernel) (pa_cons (pv 5) pa_nil)) (pa_cons (pe_def D_how_many_right hr (pa_cons (pv 5) pa_nil)) pa_nil))) pa_nil)))))))), ?_⟩)
  · obtain ⟨_, _, _, _, _, _, rfl, _⟩ := h
    rfl
  · obtain ⟨p, u, r, h, s, k, rfl, hP, R, hu, g⟩ := h
    refine q_asg (e_at0 (v0 1 rfl) hu) fun H1 e1 => ?_
    refine q_asg (c2 (v0 0 rfl) (v0 3 rfl) (sv_nose_refusal (hP.mono e1))) fun H2 e2 => ?_
    refine q_gate rfl g (e1.trans e2) rfl fun h0 g H3 e3 => ?_
    have e13 := (e1.trans e2).trans e3
    have hP3 := hP.mono e13
    have hl := R.ok.trials
    have hl2 : (trialsOf s h).length ≤ s.trials.length := List.length_filter_le _ _
    refine s_lcF (R := fun v H4 => ∃ d, v = .ref d ∧ Refs H4 d (TriO (trialsOf s h))) (fun Q q => er_lcF (fun t => decide (t.nose = h)) (e_trials T (v0 0 rfl) hP3) hP3.tri (by omega) (fun x => rfl) (fun x a H4 e4 hx => et_test (ev_op (ev_op (v0 6 rfl) (e_n (a := 0) rfl) (rv_ixT (SqT.of hx) (atI_nat rfl))) (v0 3 rfl) r_eq)) (fun a H4 => v0 6 rfl) Q fun d H4 hd e4 h4 => q _ H4 e4 ⟨d, rfl, h4⟩) ?_
    rintro _ H4 e4 ⟨d, rfl, h4⟩
    exact p_ret (p_answered (l := [_, _]) (p_new (el_lst (ea_cons (e_lenT (v0 5 rfl) h4) (ea_cons (c1 (v0 5 rfl) (sv_how_many_right h4 (by omega))) ea_nil)) (by show 2 ≤ 100000; decide))) (by show 2 ≤ 1000; decide)) fun v H5 e5 hv => g v H5 (e13.trans (e4.trans e5)) (hv.back (e13.trans (e4.trans (Ex.refl _))))
theorem s_appO {σ : L2.St} {H : Hp} {D : Ends} {ta te : TE} {l a : Addr} {os : List HO} {o : HO} (hl : Refs H l os) (ha : Ev ta σ H (.ref l)) (h : Ev te σ H (.ref a)) (ho : H a = some o) (hno : ∀ xs, o ≠ .lst xs) (hz : os.length < sizeLine) (k : ∀ H2, Up l H H2 → Refs H2 l (os ++ [o]) → D.nx σ H2) :
    tDrop (tBM K "list" rAppend ta (tCons te tNil)) D σ H := ha H (Ex.refl H) _ fun H1 e1 => by
  have hl1 := hl.mono e1
  obtain ⟨xs, h1, _⟩ := hl1.list
  refine ⟨Or.inl ⟨rfl, xs, SqL.of h1⟩, h H1 e1 _ fun H2 e2 => ?_⟩
  have hl2 := hl1.mono e2
  have ho2 := e2 _ _ (e1 _ _ ho)
  have hne : a ≠ l := by
    rintro rfl
    obtain ⟨zs, hz, _⟩ := hl2.list
    rw [ho2] at hz
    exact hno _ (Option.some.inj hz)
  obtain ⟨xs2, g1, g2, g3⟩ := hl2.app ho2 hne
  exact ⟨l, xs2, .ref a, rfl, rfl, g1, by omega, k _ (up_of (e1.trans e2)) g3⟩
theorem q_unt4 {σ : L2.St} {H : Hp} {te : TE} {D : Ends} {tz : TS} {i j l m : Nat} {u : Addr} {x y z v : V} (h : Ev te σ H (.ref u)) (hu : H u = some (.tup [x, y, z, v])) (k : ∀ H1, Ex H H1 → tz D ((((σ.set i (some x)).set j (some y)).set l (some z)).set m (some v)) H1) : tSeq (tAsg te (gTup K 4 (gCons (gName i) (gCons (gName j) (gCons (gName l) (gCons (gName m) gNil)))))) tz D σ H :=
  h H (Ex.refl H) _ fun H1 e1 => ⟨u, _, rfl, SqT.of (e1 _ _ hu), rfl, _, _, rfl, _, _, rfl, _, _, rfl, _, _, rfl, rfl, k H1 e1⟩
theorem p_cat' {σ : L2.St} {H : Hp} {ta tb : TE} {xs ys zs : List V} (h : EvP ta σ H (IsL xs)) (h2 : EvP tb σ H (IsL ys)) (e : zs = xs ++ ys) (hz : xs.length + ys.length ≤ 1000) : EvL (tOp rCat ta tb) σ H zs := by
  rw [e]
  exact p_cat h h2 (by rw [sizeLine_is]; omega)
theorem sc_trials_with : FnScope ["panel", "a", "b", "trials", "trial", "nose", "first", "second", "right"] ["panel", "a", "b"] (defScope s_trials_with) := ⟨rfl, rfl, rfl, by decide +kernel, rfl, by decide +kernel, by decide +kernel⟩
def sp_trials_with (K : PySem.W.Frag) : Sp := fun vs H Q _ => ∃ (p : Addr) (a b : Nat) (s : MS) (k : SK), vs = [.ref p, nV a, nV b] ∧ PanelAt K H p s k ∧ s.trials.length ≤ 36 ∧ RetP (IsR (TriO (trialsWith s a b))) H Q
theorem sv_trials_with {H : Hp} {p : Addr} {a b : Nat} {s : MS} {k : SK} (hP : PanelAt K H p s k) (hl : s.trials.length ≤ 36) : SpP (sp_trials_with K) [.ref p, nV a, nV b] H (IsR (TriO (trialsWith s a b))) := fun _ e _ q _ => ⟨p, a, b, s, k, rfl, hP.mono e, hl, q⟩
theorem ok_trials_with {f : Addr} {fd : FuncData} (F : Fun K "trials_with" "trials_with" s_trials_with f fd) (T : Txt K mg)   : FnOk P w K mg base CX0 1 f fd ["panel", "a", "b"] (sp_trials_with K) := by
  refine F.ok sc_trials_with (fun vs H Q E h => ?_) (fun cdv A outer s H vs Q E hr h => ⟨_, (pss_cons (ps_set (i := 3) sc_trials_with.nd rfl (Or.inl rfl) (pe_lst pa_nil))
        (pss_cons (ps_for PassesOwn.never rfl (pi_list (pe_fld (pv 0) rfl)) (pg_name (i := 4) sc_trials_with.nd rfl (Or.inl rfl))
        (pss_cons (ps_asg (pv 4) (pg_tup rfl (pgs_cons (pg_name (i := 5) sc_trials_with.nd rfl (Or.inl rfl)) (pgs_cons (pg_name (i := 6) sc_trials_with.nd rfl (Or.inl rfl)) (pgs_cons (pg_name (i := 7) sc_trials_with.nd rfl (Or.inl rfl)) (pgs_cons (pg_name (i := 8) sc_trials_with.nd rfl (Or.inl rfl)) pgs_nil))))))
        (pss_one (ps_if (PW.pt (pw_or (PW.pt (pw_and (pt_cmpR op_eq (pv 6) (pv 1) (nomark _)) (pw_and1 (pt_cmpR op_eq (pv 7) (pv 2) (nomark _))))) (pw_or1 (PW.pt (pw_and (pt_cmpR op_eq (pv 6) (pv 2) (nomark _)) (pw_and1 (pt_cmpR op_eq (pv 7) (pv 1) (nomark _)))))))) (pss_one (ps_expr (pe_bm PySem.F.plainAttrs_list PySem.F.slot_list_append PySem.F.type_list_append mt_append (pv 3) (pa_cons (pv 4) pa_nil)))) pss_nil))))
        (pss_one (ps_ret (pv 3))))), ?_⟩)
  · obtain ⟨_, _, _, _, _, rfl, _⟩ := h
    rfl
  · obtain ⟨p, a, b, s, k, rfl, hP, hl, g⟩ := h
    refine q_nil fun d H1 hd e1 h1 => ?_
    have hP1 := hP.mono e1
    refine q_forR (os := TriO s.trials) (e_trials T (v0 0 rfl) hP1) hP.tri e1 (fun i σ' H' => ∃ v x1 x2 x3 x4, σ' = [some (.ref p), some (nV a), some (nV b), some (.ref d), v, x1, x2, x3, x4] ∧ Ex H H' ∧ Refs H' d (TriO ((s.trials.take i).filter (isWith a b)))) (fun H2 e2 => ⟨none, none, none, none, none, rfl, e1.trans e2, (Refs.nil h1).mono e2⟩) (fun i σ' H' ⟨_, _, _, _, _, _, e, _⟩ => e) ?_ ?_
    · rintro i ad o σ' H' ho hao ⟨v, x1, x2, x3, x4, rfl, e, hr⟩
      obtain ⟨t, ht, rfl⟩ := triO_at ho
      have st : (s.trials.take (i + 1)).filter (isWith a b) = if isWith a b t = true then (s.trials.take i).filter (isWith a b) ++ [t] else (s.trials.take i).filter (isWith a b) := by
        rw [take_snoc ht, List.filter_append, List.filter_cons]
        split
        · rfl
        · exact List.append_nil _
      refine q_unt4 (v0 4 rfl) (e _ _ hao) fun H2 e2 => ?_
      refine s_when (b := isWith a b t) (et_or (et_and (et_test (ev_op (v0 6 rfl) (v0 1 rfl) r_eq)) fun _ => et_test (ev_op (v0 7 rfl) (v0 2 rfl) r_eq)) fun _ => et_and (et_test (ev_op (v0 6 rfl) (v0 2 rfl) r_eq)) fun _ => et_test (ev_op (v0 7 rfl) (v0 1 rfl) r_eq)) (fun hb H3 e3 => ?_) (fun hb H3 e3 => ?_)
      · have hf := List.length_filter_le (isWith a b) (s.trials.take i)
        rw [List.length_take] at hf
        refine s_appO (hr.mono (e2.trans e3)) (v0 3 rfl) (v0 4 rfl) (e3 _ _ (e2 _ _ (e _ _ hao))) (fun xs z => by cases z) (by rw [triO_len, sizeLine_is]; omega) fun H4 up hr4 => ⟨_, _, _, _, _, rfl, up H (e.trans (e2.trans e3)) hd, ?_⟩
        rw [st, if_pos hb, triO_app]
        exact hr4
      · rw [if_neg (by rw [hb]; decide)] at st
        refine ⟨_, _, _, _, _, rfl, e.trans (e2.trans e3), ?_⟩
        rw [st]
        exact hr.mono (e2.trans e3)
    · rintro σ' H' ⟨v, x1, x2, x3, x4, rfl, e, hr⟩
      rw [triO_len, List.take_length] at hr
      exact p_ret (p_of (P := IsR _) (v0 3 rfl) fun H1 e1 => ⟨d, rfl, hr.mono e1⟩) fun v H2 e2 hv => g v H2 (e.trans e2) hv
theorem sc_answer_apart : FnScope ["panel", "numbers", "rows", "a", "b", "why", "trials", "right"] ["panel", "numbers", "rows"] (defScope s_answer_apart) := ⟨rfl, rfl, rfl, by decide +kernel, rfl, by decide +kernel, by decide +kernel⟩
def sp_answer_apart (K : PySem.W.Frag) : Sp := fun vs H Q _ => ∃ (p u : Addr) (r : V) (a b : Nat) (s : MS) (k : SK), vs = [.ref p, .ref u, r] ∧ PanelAt K H p s k ∧ Ready s ∧ H u = some (.lst (nL [a, b])) ∧ RetP (IsF H (aApart s a b)) H Q
theorem rights_le : ∀ l : List MT, (∀ t ∈ l, t.right ≤ 1) → rightsOf l ≤ l.length
  | [], _ => Nat.le_refl 0
  | t :: l, h => by
    have h1 := rights_le l fun x hx => h x (List.mem_cons_of_mem _ hx)
    have h2 := h t List.mem_cons_self
    unfold rightsOf at h1 ⊢
    rw [List.map_cons, List.sum_cons, List.length_cons]
    omega
theorem luck_len (a b : Nat) : (luck a b).length = 2 := rfl
theorem ok_answer_apart {f : Addr} {fd : FuncData} (F : Fun K "answer_apart" "answer_apart" s_answer_apart f fd) (T : Txt K mg) (D_pair_refusal : DefK P w K mg base "pair_refusal" 1 ["panel", "a", "b"] (sp_pair_refusal K)) (D_trials_with : DefK P w K mg base "trials_with" 1 ["panel", "a", "b"] (sp_trials_with K)) (D_how_many_right : DefK P w K mg base "how_many_right" 1 ["trials"] (sp_how_many_right K)) (D_answered : DefK P w K mg base "answered" 1 ["numbers"] (sp_answered K)) (D_refused : DefK P w K mg base "refused" 1 ["why"] (sp_refused K)) (D_luck : DefK P w K mg base "luck" 3 ["guesses", "right"] (sp_luck K))  : FnOk P w K mg base CX0 4 f fd ["panel", "numbers", "rows"] (sp_answer_apart K) := by
  refine F.ok sc_answer_apart (fun vs H Q E h => ?_) (fun cdv A outer s H vs Q E hr h => ⟨_, (pss_cons (ps_asg (pv 1) (pg_unl rfl (pgs_cons (pg_name (i := 3) sc_answer_apart.nd rfl (Or.inl rfl)) (pgs_cons (pg_name (i := 4) sc_answer_apart.nd rfl (Or.inl rfl)) pgs_nil))))
        (pss_cons (ps_set (i := 5) sc_answer_apart.nd rfl (Or.inl rfl) (pe_def D_pair_refusal hr (pa_cons (pv 0) (pa_cons (pv 3) (pa_cons (pv 4) pa_nil)))))
        (pss_cons (ps_if (pt_cmpR op_ne (pv 5) (pe_const T.c_ALL_WELL) (nomark _)) (pss_one (ps_ret (pe_def D_refused hr (pa_cons (pv 5) pa_nil)))) pss_nil)
        (pss_cons (ps_set (i := 6) sc_answer_apart.nd rfl (Or.inl rfl) (pe_def D_trials_with hr (pa_cons (pv 0) (pa_cons (pv 3) (pa_cons (pv 4) pa_nil)))))
        (pss_cons (ps_set (i := 7) sc_answer_apart.nd rfl (Or.inl rfl) (pe_def D_how_many_right hr (pa_cons (pv 6) pa_nil)))
        (pss_one (ps_ret (pe_def D_answered hr (pa_cons (pe_op op_cat (pe_lst (pa_cons (pe_callB call_len_seq (by rfl) T.len (by decide +kernel) (pa_cons (pv 6) pa_nil)) (pa_cons (pv 7) pa_nil))) (pe_def D_luck hr (pa_cons (pe_callB call_len_seq (by rfl) T.len (by decide +kernel) (pa_cons (pv 6) pa_nil)) (pa_cons (pv 7) pa_nil)))) pa_nil))))))))), ?_⟩)
  · obtain ⟨_, _, _, _, _, _, _, rfl, _⟩ := h
    rfl
  · obtain ⟨p, u, r, a, b, s, k, rfl, hP, R, hu, g⟩ := h
    refine q_unl2 (v0 1 rfl) hu fun H1 e1 => ?_
    refine q_asg (c3 (v0 0 rfl) (v0 3 rfl) (v0 4 rfl) (sv_pair_refusal (hP.mono e1))) fun H2 e2 => ?_
    refine q_gate rfl g (e1.trans e2) rfl fun h0 g H3 e3 => ?_
    have e13 := (e1.trans e2).trans e3
    have hl := R.ok.trials
    have hl2 : (trialsWith s a b).length ≤ s.trials.length := List.length_filter_le _ _
    have hr : rightsOf (trialsWith s a b) ≤ (trialsWith s a b).length := rights_le _ fun t ht => R.ok.right t (List.mem_filter.mp ht).1
    refine pq_asg (p_v3 (v0 0 rfl) (v0 3 rfl) (v0 4 rfl) (sv_trials_with (hP.mono e13) hl)) ?_
    rintro _ H4 e4 ⟨d, rfl, h4⟩
    refine q_asg (c1 (v0 6 rfl) (sv_how_many_right h4 (by omega))) fun H5 e5 => ?_
    refine p_ret (p_answered (l := [(trialsWith s a b).length, rightsOf (trialsWith s a b)] ++ luck (trialsWith s a b).length (rightsOf (trialsWith s a b))) (p_new (p_cat' (p_new (el_lst (ea_cons (e_lenT (v0 6 rfl) (h4.mono e5)) (ea_cons (v0 7 rfl) ea_nil)) (by show 2 ≤ 100000; decide))) (p_v2 (e_lenT (v0 6 rfl) (h4.mono e5)) (v0 7 rfl) (sv_luck (by omega) (by omega))) rfl (by rw [nL_len, luck_len]; show 2 + 2 ≤ 1000; decide))) ?_) fun v H6 e6 hv => g v H6 (e13.trans (e4.trans (e5.trans e6))) (hv.back (e13.trans (e4.trans (e5.trans (Ex.refl _)))))
    rw [List.length_append, luck_len]
    show 2 + 2 ≤ 1000
    decide
theorem sc_answer_luck : FnScope ["panel", "numbers", "rows", "guesses", "right"] ["panel", "numbers", "rows"] (defScope s_answer_luck) := ⟨rfl, rfl, rfl, by decide +kernel, rfl, by decide +kernel, by decide +kernel⟩
def sp_answer_luck (K : PySem.W.Frag) : Sp := fun vs H Q _ => ∃ (p u : Addr) (r : V) (a b : Nat) (s : MS) (k : SK), vs = [.ref p, .ref u, r] ∧ PanelAt K H p s k ∧ Ready s ∧ H u = some (.lst (nL [a, b])) ∧ RetP (IsF H (aLuck a b)) H Q
theorem ok_answer_luck {f : Addr} {fd : FuncData} (F : Fun K "answer_luck" "answer_luck" s_answer_luck f fd) (T : Txt K mg) (D_answered : DefK P w K mg base "answered" 1 ["numbers"] (sp_answered K)) (D_refused : DefK P w K mg base "refused" 1 ["why"] (sp_refused K)) (D_luck : DefK P w K mg base "luck" 3 ["guesses", "right"] (sp_luck K)) (D_within : DefK P w K mg base "within" 1 ["number", "least", "most"] (sp_within K))  : FnOk P w K mg base CX0 4 f fd ["panel", "numbers", "rows"] (sp_answer_luck K) := by
  refine F.ok sc_answer_luck (fun vs H Q E h => ?_) (fun cdv A outer s H vs Q E hr h => ⟨_, (pss_cons (ps_asg (pv 1) (pg_unl rfl (pgs_cons (pg_name (i := 3) sc_answer_luck.nd rfl (Or.inl rfl)) (pgs_cons (pg_name (i := 4) sc_answer_luck.nd rfl (Or.inl rfl)) pgs_nil))))
        (pss_cons (ps_if (PW.pt (pw_or (pt_not (pt_val (pe_def D_within hr (pa_cons (pv 3) (pa_cons pe_int (pa_cons (pe_const T.c_MOST_GUESSES) pa_nil)))))) (pw_or1 (pt_not (pt_val (pe_def D_within hr (pa_cons (pv 4) (pa_cons pe_int (pa_cons (pv 3) pa_nil))))))))) (pss_one (ps_ret (pe_def D_refused hr (pa_cons (pe_const T.c_OUT_OF_RANGE) pa_nil)))) pss_nil)
        (pss_one (ps_ret (pe_def D_answered hr (pa_cons (pe_def D_luck hr (pa_cons (pv 3) (pa_cons (pv 4) pa_nil))) pa_nil)))))), ?_⟩)
  · obtain ⟨_, _, _, _, _, _, _, rfl, _⟩ := h
    rfl
  · obtain ⟨p, u, r, a, b, s, k, rfl, hP, R, hu, g⟩ := h
    refine q_unl2 (v0 1 rfl) hu fun H1 e1 => ?_
    refine q_when (et_or (et_not (et_B (c3 (v0 3 rfl) (e_n (a := 0) rfl) (e_n (a := 30) rfl) sv_within))) fun _ => et_not (et_B (c3 (v0 4 rfl) (e_n (a := 0) rfl) (v0 3 rfl) sv_within))) (fun hb H2 e2 => ?_) (fun hb H2 e2 => ?_)
    · have h1 : ¬ (a ≤ 30 ∧ b ≤ a) := by simpa [Nat.not_le, Decidable.imp_iff_not_or] using hb
      rw [show aLuck a b = no (-1) from if_neg h1] at g
      exact p_ret (p_v1 ev_c sv_refused) fun v H6 e6 hv => g v H6 (e1.trans (e2.trans e6)) (hv.back (e1.trans (e2.trans (Ex.refl _))))
    · have h1 : a ≤ 30 ∧ b ≤ a := by simpa using hb
      rw [show aLuck a b = yes (luck a b) from if_pos h1] at g
      exact p_ret (p_answered (p_v2 (v0 3 rfl) (v0 4 rfl) (sv_luck (by omega) (by omega))) (by rw [luck_len]; decide)) fun v H6 e6 hv => g v H6 (e1.trans (e2.trans e6)) (hv.back (e1.trans (e2.trans (Ex.refl _))))
theorem sc_answer_need : FnScope ["panel", "numbers", "rows", "guesses", "odds", "least"] ["panel", "numbers", "rows"] (defScope s_answer_need) := ⟨rfl, rfl, rfl, by decide +kernel, rfl, by decide +kernel, by decide +kernel⟩
def sp_answer_need (K : PySem.W.Frag) : Sp := fun vs H Q _ => ∃ (p u : Addr) (r : V) (a b : Nat) (s : MS) (k : SK), vs = [.ref p, .ref u, r] ∧ PanelAt K H p s k ∧ Ready s ∧ H u = some (.lst (nL [a, b])) ∧ RetP (IsF H (aNeed a b)) H Q
theorem ok_answer_need {f : Addr} {fd : FuncData} (F : Fun K "answer_need" "answer_need" s_answer_need f fd) (T : Txt K mg) (D_least_needed : DefK P w K mg base "least_needed" 3 ["guesses", "odds"] (sp_least_needed K)) (D_answered : DefK P w K mg base "answered" 1 ["numbers"] (sp_answered K)) (D_refused : DefK P w K mg base "refused" 1 ["why"] (sp_refused K)) (D_within : DefK P w K mg base "within" 1 ["number", "least", "most"] (sp_within K))  : FnOk P w K mg base CX0 4 f fd ["panel", "numbers", "rows"] (sp_answer_need K) := by
  refine F.ok sc_answer_need (fun vs H Q E h => ?_) (fun cdv A outer s H vs Q E hr h => ⟨_, (pss_cons (ps_asg (pv 1) (pg_unl rfl (pgs_cons (pg_name (i := 3) sc_answer_need.nd rfl (Or.inl rfl)) (pgs_cons (pg_name (i := 4) sc_answer_need.nd rfl (Or.inl rfl)) pgs_nil))))
        (pss_cons (ps_if (PW.pt (pw_or (pt_not (pt_val (pe_def D_within hr (pa_cons (pv 3) (pa_cons pe_int (pa_cons (pe_const T.c_MOST_GUESSES) pa_nil)))))) (pw_or1 (pt_not (pt_val (pe_def D_within hr (pa_cons (pv 4) (pa_cons pe_int (pa_cons (pe_const T.c_MOST_ODDS) pa_nil))))))))) (pss_one (ps_ret (pe_def D_refused hr (pa_cons (pe_const T.c_OUT_OF_RANGE) pa_nil)))) pss_nil)
        (pss_cons (ps_set (i := 5) sc_answer_need.nd rfl (Or.inl rfl) (pe_def D_least_needed hr (pa_cons (pv 3) (pa_cons (pv 4) pa_nil))))
        (pss_cons (ps_if (pt_cmpR op_eq (pe_callB call_len_seq (by rfl) T.len (by decide +kernel) (pa_cons (pv 5) pa_nil)) pe_int (nomark _)) (pss_one (ps_ret (pe_def D_refused hr (pa_cons (pe_const T.c_CANNOT_BE) pa_nil)))) pss_nil)
        (pss_one (ps_ret (pe_def D_answered hr (pa_cons (pv 5) pa_nil)))))))), ?_⟩)
  · obtain ⟨_, _, _, _, _, _, _, rfl, _⟩ := h
    rfl
  · obtain ⟨p, u, r, a, b, s, k, rfl, hP, R, hu, g⟩ := h
    refine q_unl2 (v0 1 rfl) hu fun H1 e1 => ?_
    refine q_when (et_or (et_not (et_B (c3 (v0 3 rfl) (e_n (a := 0) rfl) (e_n (a := 30) rfl) sv_within))) fun _ => et_not (et_B (c3 (v0 4 rfl) (e_n (a := 1) rfl) (e_n (a := 1000000) rfl) sv_within))) (fun hb H2 e2 => ?_) (fun hb H2 e2 => ?_)
    · have h1 : ¬ (a ≤ 30 ∧ 1 ≤ b ∧ b ≤ 1000000) := fun ⟨z1, z2, z3⟩ => by
        rw [decide_eq_true z1, decide_eq_true z2, decide_eq_true z3, decide_eq_true (Nat.zero_le a)] at hb
        cases hb
      rw [show aNeed a b = no (-1) from if_neg h1] at g
      exact p_ret (p_v1 ev_c sv_refused) fun v H6 e6 hv => g v H6 (e1.trans (e2.trans e6)) (hv.back (e1.trans (e2.trans (Ex.refl _))))
    · have h1 : a ≤ 30 ∧ 1 ≤ b ∧ b ≤ 1000000 := by simpa using hb
      rw [show aNeed a b = _ from if_pos h1] at g
      refine pq_asg (p_v2 (v0 3 rfl) (v0 4 rfl) (sv_least_needed (by omega) (by omega))) ?_
      rintro _ H3 e3 ⟨d, rfl, hd⟩
      refine q_when (et_test (ev_op (e_lenL (v0 5 rfl) (SqL.of hd)) (e_n (a := 0) rfl) r_eq)) (fun hb H5 e5 => ?_) (fun hb H5 e5 => ?_)
      · have e4 : leastNeeded a b = none := by
          cases h : leastNeeded a b with
          | none => rfl
          | some x =>
            rw [h] at hb
            exact absurd (of_decide_eq_true hb) (by show ¬ (1 = 0); decide)
        rw [e4] at g
        exact p_ret (p_v1 ev_c sv_refused) fun v H6 e6 hv => g v H6 (e1.trans (e2.trans (e3.trans (e5.trans e6)))) (hv.back (e1.trans (e2.trans (e3.trans (e5.trans (Ex.refl _))))))
      · cases h : leastNeeded a b with
        | none =>
          rw [h] at hb
          exact absurd (show ([] : List Nat).length = 0 from rfl) (of_decide_eq_false hb)
        | some x =>
          rw [h] at g hd
          exact p_ret (p_answered (l := [x]) (p_var rfl (e5 _ _ hd)) (by show 1 ≤ 1000; decide)) fun v H6 e6 hv => g v H6 (e1.trans (e2.trans (e3.trans (e5.trans e6)))) (hv.back (e1.trans (e2.trans (e3.trans (e5.trans (Ex.refl _))))))
theorem sc_answer_sheet : FnScope ["panel", "numbers", "rows", "number"] ["panel", "numbers", "rows"] (defScope s_answer_sheet) := ⟨rfl, rfl, rfl, by decide +kernel, rfl, by decide +kernel, by decide +kernel⟩
def sp_answer_sheet (K : PySem.W.Frag) : Sp := fun vs H Q _ => ∃ (p u : Addr) (r : V) (a : Nat) (s : MS) (k : SK), vs = [.ref p, .ref u, r] ∧ PanelAt K H p s k ∧ Ready s ∧ H u = some (.lst (nL [a])) ∧ RetP (IsF H (aSheet s a)) H Q
theorem planRow_len (n i : Nat) : (planRow n i).length = n := by
  unfold planRow
  show (if n ≤ i then _ else _ : List Nat).length = n
  split <;> simp
theorem ok_answer_sheet {f : Addr} {fd : FuncData} (F : Fun K "answer_sheet" "answer_sheet" s_answer_sheet f fd) (T : Txt K mg) (D_answered : DefK P w K mg base "answered" 1 ["numbers"] (sp_answered K)) (D_plan_rows : DefK P w K mg base "plan_rows" 1 ["samples"] (sp_plan_rows K)) (D_refused : DefK P w K mg base "refused" 1 ["why"] (sp_refused K)) (D_plan_row : DefK P w K mg base "plan_row" 2 ["samples", "number"] (sp_plan_row K))  : FnOk P w K mg base CX0 3 f fd ["panel", "numbers", "rows"] (sp_answer_sheet K) := by
  refine F.ok sc_answer_sheet (fun vs H Q E h => ?_) (fun cdv A outer s H vs Q E hr h => ⟨_, (pss_cons (ps_set (i := 3) sc_answer_sheet.nd rfl (Or.inl rfl) (pe_ix ix_list (pv 1) pe_int (fun _ _ => rfl)))
        (pss_cons (ps_if (pt_cmpR op_ge (pv 3) (pe_def D_plan_rows hr (pa_cons (pe_fld (pv 0) rfl) pa_nil)) (nomark _)) (pss_one (ps_ret (pe_def D_refused hr (pa_cons (pe_const T.c_OUT_OF_RANGE) pa_nil)))) pss_nil)
        (pss_one (ps_ret (pe_def D_answered hr (pa_cons (pe_def D_plan_row hr (pa_cons (pe_fld (pv 0) rfl) (pa_cons (pv 3) pa_nil))) pa_nil)))))), ?_⟩)
  · obtain ⟨_, _, _, _, _, _, rfl, _⟩ := h
    rfl
  · obtain ⟨p, u, r, a, s, k, rfl, hP, R, hu, g⟩ := h
    have hn := R.ok.n
    refine q_asg (e_at0 (v0 1 rfl) hu) fun H1 e1 => ?_
    refine q_when (et_test (ev_op (v0 3 rfl) (c1 (e_samples T (v0 0 rfl) (hP.mono e1)) sv_plan_rows) r_ge)) (fun hb H2 e2 => ?_) (fun hb H2 e2 => ?_)
    · rw [show aSheet s a = no (-1) from if_pos (of_decide_eq_true hb)] at g
      exact p_ret (p_v1 ev_c sv_refused) fun v H6 e6 hv => g v H6 (e1.trans (e2.trans e6)) (hv.back (e1.trans (e2.trans (Ex.refl _))))
    · have h1 := of_decide_eq_false hb
      rw [show aSheet s a = yes (planRow s.n a) from if_neg h1] at g
      have hn1 : 1 ≤ s.n := by
        apply Nat.pos_of_ne_zero
        intro z
        apply h1
        rw [z]
        exact Nat.zero_le _
      exact p_ret (p_answered (p_v2 (e_samples T (v0 0 rfl) ((hP.mono e1).mono e2)) (v0 3 rfl) (sv_plan_row hn1 hn)) (by rw [planRow_len]; omega)) fun v H6 e6 hv => g v H6 (e1.trans (e2.trans e6)) (hv.back (e1.trans (e2.trans (Ex.refl _))))
theorem sc_answer_told : FnScope ["panel", "numbers", "rows", "told", "nose"] ["panel", "numbers", "rows"] (defScope s_answer_told) := ⟨rfl, rfl, rfl, by decide +kernel, rfl, by decide +kernel, by decide +kernel⟩
def sp_answer_told (K : PySem.W.Frag) : Sp := fun vs H Q _ => ∃ (p : Addr) (u r : V) (s : MS) (k : SK), vs = [.ref p, u, r] ∧ PanelAt K H p s k ∧ Ready s ∧ RetP (IsF H (aTold s)) H Q
def toldOf (s : MS) (l : List MN) : List Nat := [s.n, s.noses.length, s.trials.length] ++ l.flatMap fun x => [pairsSaid s.n x, x.weight]
theorem toldOf_snoc (s : MS) (l : List MN) (x : MN) : toldOf s (l ++ [x]) = toldOf s l ++ [pairsSaid s.n x] ++ [x.weight] := by
  unfold toldOf
  rw [List.flatMap_append, List.flatMap_cons, List.flatMap_nil, List.append_nil, List.append_assoc, List.append_assoc]
  rfl
theorem toldOf_len (s : MS) : ∀ l : List MN, (toldOf s l).length = 3 + 2 * l.length
  | [] => rfl
  | x :: l => by
    have h1 := toldOf_len s l
    unfold toldOf at h1 ⊢
    rw [List.flatMap_cons]
    simp only [List.length_append, List.length_cons, List.length_nil] at h1 ⊢
    omega
theorem ok_answer_told {f : Addr} {fd : FuncData} (F : Fun K "answer_told" "answer_told" s_answer_told f fd) (T : Txt K mg) (D_answered : DefK P w K mg base "answered" 1 ["numbers"] (sp_answered K)) (D_pairs_said : DefK P w K mg base "pairs_said" 1 ["nose"] (sp_pairs_said K))  : FnOk P w K mg base CX0 2 f fd ["panel", "numbers", "rows"] (sp_answer_told K) := by
  refine F.ok sc_answer_told (fun vs H Q E h => ?_) (fun cdv A outer s H vs Q E hr h => ⟨_, (pss_cons (ps_set (i := 3) sc_answer_told.nd rfl (Or.inl rfl) (pe_lst (pa_cons (pe_fld (pv 0) rfl) (pa_cons (pe_callB call_len_seq (by rfl) T.len (by decide +kernel) (pa_cons (pe_fld (pv 0) rfl) pa_nil)) (pa_cons (pe_callB call_len_seq (by rfl) T.len (by decide +kernel) (pa_cons (pe_fld (pv 0) rfl) pa_nil)) pa_nil)))))
        (pss_cons (ps_for PassesOwn.never rfl (pi_list (pe_fld (pv 0) rfl)) (pg_name (i := 4) sc_answer_told.nd rfl (Or.inl rfl))
        (pss_cons (ps_expr (pe_bm PySem.F.plainAttrs_list PySem.F.slot_list_append PySem.F.type_list_append mt_append (pv 3) (pa_cons (pe_def D_pairs_said hr (pa_cons (pv 4) pa_nil)) pa_nil)))
        (pss_one (ps_expr (pe_bm PySem.F.plainAttrs_list PySem.F.slot_list_append PySem.F.type_list_append mt_append (pv 3) (pa_cons (pe_fld (pv 4) rfl) pa_nil))))))
        (pss_one (ps_ret (pe_def D_answered hr (pa_cons (pv 3) pa_nil)))))), ?_⟩)
  · obtain ⟨_, _, _, _, _, rfl, _⟩ := h
    rfl
  · obtain ⟨p, u, r, s, k, rfl, hP, R, g⟩ := h
    have hn := R.ok.n
    have hm := R.ok.noses
    refine q_asgL (xs := nL [s.n, s.noses.length, s.trials.length]) (el_lst (ea_cons (e_samples T (v0 0 rfl) hP) (ea_cons (e_lenNoses T (v0 0 rfl) hP) (ea_cons (e_lenTrials T (v0 0 rfl) hP) ea_nil))) (by show 3 ≤ 100000; decide)) fun d H1 hd e1 h1 => ?_
    have hP1 := hP.mono e1
    refine q_forLn (xs := k.ns.map fun q => V.ref q.a) (e_noses T (v0 0 rfl) hP1) (SqL.of hP1.hn) (fun i σ' H' => ∃ v, σ' = [some (.ref p), some u, some r, some (.ref d), v] ∧ Ex H H' ∧ H' d = some (.lst (nL (toldOf s (s.noses.take i))))) (fun H2 e2 => ⟨none, rfl, e1.trans e2, e2 _ _ h1⟩) (fun i σ' H' _ ⟨_, _, e, _⟩ => SqL.of (e _ _ hP.hn)) ?_ ?_
    · rintro i x σ' H' hx ⟨v, rfl, e, hr⟩
      rw [List.getElem?_map] at hx
      cases hq : k.ns[i]? with
      | none =>
        rw [hq] at hx
        cases hx
      | some q =>
        rw [hq] at hx
        cases hx
        have hi : i < s.noses.length := by
          rw [← hP.ln]
          exact (List.getElem?_eq_some_iff.mp hq).1
        have hs : s.noses[i]? = some s.noses[i] := List.getElem?_eq_getElem hi
        have hN := hP.nose i q _ hq hs
        have hz := toldOf_len s (s.noses.take i)
        rw [List.length_take] at hz
        refine q_appN hr (v0 3 rfl) (c1 (v0 4 rfl) (sv_pairs_said (hN.mono e) hn)) (by omega) fun H2 up2 h2 => ?_
        have e2 := up2 H e hd
        refine s_appN h2 (v0 3 rfl) (e_weight T (v0 4 rfl) (hN.mono e2)) (by rw [List.length_append]; show _ + 1 < _; omega) fun H3 up3 h3 => ?_
        refine ⟨_, rfl, up3 H e2 hd, ?_⟩
        rw [take_snoc hs, toldOf_snoc]
        exact h3
    · rintro σ' H' ⟨v, rfl, e, hr⟩
      rw [List.length_map, hP.ln, List.take_length] at hr
      have hz := toldOf_len s s.noses
      exact p_ret (p_answered (p_var rfl hr) (by omega)) fun v H6 e6 hv => g v H6 (e.trans e6) (hv.back (e.trans (Ex.refl _)))
end
end Np
set_option Elab.async false
set_option linter.all false
set_option maxRecDepth 100000
set_option maxHeartbeats 4000000
namespace Np
open PySem PySem.Spec PyProof.Rows L2 Evl
theorem perm_of_mem : ∀ (l o : List Nat), l.Nodup → l.length = o.length → (∀ x ∈ l, x ∈ o) → l.Perm o
  | [], o, _, h, _ => by
    rw [List.length_eq_zero_iff.mp h.symm]
  | x :: l, o, nd, h, hm => by
    have hx := hm x List.mem_cons_self
    obtain ⟨hx2, nd2⟩ := List.nodup_cons.mp nd
    have p := List.perm_cons_erase hx
    have hl := p.length_eq
    rw [List.length_cons] at hl h
    refine List.Perm.trans (List.Perm.cons x (perm_of_mem l (o.erase x) nd2 (by omega) fun y hy => ?_)) p.symm
    exact (List.mem_erase_of_ne fun z => hx2 (by rw [← z]; exact hy)).mpr (hm y (List.mem_cons_of_mem _ hy))
theorem ord_perm {n : Nat} {o : List Nat} : isOrd n o = true ↔ (List.range n).Perm o := by
  unfold isOrd
  rw [Bool.and_eq_true, decide_eq_true_iff, List.all_eq_true]
  constructor
  · rintro ⟨h1, h2⟩
    exact perm_of_mem _ _ List.nodup_range (by rw [List.length_range, h1]) fun x hx => List.contains_iff_mem.mp (h2 x hx)
  · intro p
    refine ⟨by rw [← p.length_eq, List.length_range], fun x hx => List.contains_iff_mem.mpr (p.mem_iff.mp hx)⟩
def toI (l : List Nat) : List Int := l.map fun n : Nat => (n : Int)
theorem nL_toI (l : List Nat) : nL l = (toI l).map V.int := by
  unfold nL toI
  rw [List.map_map]
  rfl
theorem toI_range_sorted (n : Nat) : (toI (List.range n)).Pairwise (· ≤ ·) := by
  unfold toI
  rw [List.pairwise_map]
  exact List.Pairwise.imp (fun h => by omega) (List.pairwise_lt_range (n := n))
theorem toI_perm {a b : List Nat} : (toI a).Perm (toI b) ↔ a.Perm b := by
  constructor
  · intro h
    have h2 := h.map Int.toNat
    unfold toI at h2
    rw [List.map_map, List.map_map] at h2
    have e : (Int.toNat ∘ fun n : Nat => (n : Int)) = id := by
      funext n
      exact Int.toNat_natCast n
    rw [e, List.map_id, List.map_id] at h2
    exact h2
  · exact fun h => h.map _
theorem ord_sorted {n : Nat} {o : List Nat} {ns : List Int} (p : ns.Perm (toI o)) (s : ns.Pairwise (· ≤ ·)) : decide (ns = toI (List.range n)) = isOrd n o := by
  rw [Bool.eq_iff_iff, decide_eq_true_iff, ord_perm]
  constructor
  · intro h
    rw [h] at p
    exact toI_perm.mp p
  · intro h
    refine List.Perm.eq_of_pairwise (le := (· ≤ ·)) (fun a b _ _ h1 h2 => Int.le_antisymm h1 h2) s (toI_range_sorted n) (p.trans (toI_perm.mpr h.symm))
section
variable {P : Program} {w : World} {K : PySem.W.Frag} {mg : Str → Option Value} {base : Heap}
theorem dp_ints (H : Hp) : ∀ ns : List Int, DpAll K H (ns.map V.int) (ns.map PyData.int)
  | [] => .nil
  | i :: r => .cons (.int i) (dp_ints H r)
theorem rg_toI (n : Nat) : rgV 0 (n : Int) = (toI (List.range n)).map V.int := by
  unfold rgV toI
  rw [Int.sub_zero, Int.toNat_natCast, List.map_map]
  refine List.map_congr_left fun i _ => ?_
  show V.int (0 + (i : Int)) = V.int (i : Int)
  rw [Int.zero_add]
/-- sorted(xs) != list(range(n)) -/
theorem et_sortNe {σ : L2.St} {H : Hp} {ta : TA} {tb : TE} {o : Addr} {ol : List Nat} {n : Nat} (hA : EvA ta σ H [.ref o]) (ho : H o = some (.lst (nL ol))) (hl : ol.length ≤ 50) (hb : Ev tb σ H (nV n)) (hn : n ≤ 100) :
    EvT (tTest (tOp (rNeD K) (tCB (rSorted K) ta) (tLstRg (tRg1 tb)))) σ H (!isOrd n ol) := fun H1 e Q q =>
  hA H1 e _ fun H2 e2 => ⟨o, toI ol, rfl, SqL.of (by rw [← nL_toI]; exact e2 _ _ (e _ _ ho)), by unfold toI; rw [List.length_map]; omega, fun ns p hp hs hf =>
    hb _ ((e.trans e2).trans (Ex.new hf)) _ fun H3 e3 => ⟨(n : Int), rfl, RgOk.of_le (Int.le_refl 0) (by omega) (by omega) (by omega), fun q' hq' => by
      have h3 : H3 p = some (.lst (ns.map V.int)) := e3 _ _ upd_same
      have hne : p ≠ q' := by
        rintro rfl
        rw [h3] at hq'
        cases hq'
      refine ⟨.list (ns.map .int), .list ((toI (List.range n)).map .int), .lst (SqL.of (by rw [upd_ne hne]; exact h3)) (dp_ints _ _), .lst (SqL.of (by rw [upd_same, rg_toI])) (dp_ints _ _), PySem.W.ke_shaped_ints _, PySem.W.ke_shaped_ints _, _, rfl, ?_⟩
      have e4 : PyData.eqv (.list (ns.map .int)) (.list ((toI (List.range n)).map .int)) = isOrd n ol := by
        rw [← ord_sorted hp hs]
        show PyData.eqvAll _ _ = _
        exact PySem.W.ked_eqvAll _ _
      rw [e4]
      exact q _ ((e2.trans (Ex.new hf)).trans (e3.trans (Ex.new hq')))⟩⟩
/-- a def of two values, the first by what is true of it -/
theorem p_c12v {σ : L2.St} {H : Hp} {ta tb : TE} {sp : Sp} {E : XK} {os : List HO} {y z : V} (h : EvP ta σ H (IsR os)) (h2 : ∀ H1, Ex H H1 → Ev tb σ H1 y) (s : ∀ v H1, Ex H H1 → IsR os v H1 → SpV sp [v, y] H1 z) : Ev (tCall sp [] E (tCons ta (tCons tb tNil))) σ H z := fun H1 e Q q =>
  h H1 e _ fun v H2 e2 p => h2 H2 (e.trans e2) H2 (Ex.refl H2) _ fun H3 e3 => s v H3 ((e.trans e2).trans e3) (p.mono e3) H3 (Ex.refl H3) Q (fun H4 e4 => q H4 ((e2.trans e3).trans e4)) E
theorem sc_answer_against : FnScope ["panel", "numbers", "rows", "order"] ["panel", "numbers", "rows"] (defScope s_answer_against) := ⟨rfl, rfl, rfl, by decide +kernel, rfl, by decide +kernel, by decide +kernel⟩
def sp_answer_against (K : PySem.W.Frag) : Sp := fun vs H Q _ => ∃ (p r o : Addr) (u : V) (ol : List Nat) (s : MS) (k : SK), vs = [.ref p, u, .ref r] ∧ PanelAt K H p s k ∧ Ready s ∧ H r = some (.lst [.ref o]) ∧ H o = some (.lst (nL ol)) ∧ ol.length ≤ 50 ∧ RetP (IsF H (aAgainst s ol)) H Q
theorem ok_answer_against {f : Addr} {fd : FuncData} (F : Fun K "answer_against" "answer_against" s_answer_against f fd) (T : Txt K mg) (D_answered : DefK P w K mg base "answered" 1 ["numbers"] (sp_answered K)) (D_refused : DefK P w K mg base "refused" 1 ["why"] (sp_refused K)) (D_said_against : DefK P w K mg base "said_against" 1 ["table", "order"] (sp_said_against K)) (D_weight_table : DefK P w K mg base "weight_table" 3 ["panel"] (sp_weight_table K))  : FnOk P w K mg base CX0 4 f fd ["panel", "numbers", "rows"] (sp_answer_against K) := by
  refine F.ok sc_answer_against (fun vs H Q E h => ?_) (fun cdv A outer s H vs Q E hr h => ⟨_, (pss_cons (ps_set (i := 3) sc_answer_against.nd rfl (Or.inl rfl) (pe_ix ix_list (pv 2) pe_int (fun _ _ => rfl)))
        (pss_cons (ps_if (pt_cmpR (op_neD hr.units) (pe_callB cr_sorted (by rfl) T.sorted (by decide +kernel) (pa_cons (pv 3) pa_nil)) (pe_listRg rfl rfl T.list (prg_1 rfl T.range (pe_fld (pv 0) rfl))) (nomark _)) (pss_one (ps_ret (pe_def D_refused hr (pa_cons (pe_const T.c_OUT_OF_RANGE) pa_nil)))) pss_nil)
        (pss_one (ps_ret (pe_def D_answered hr (pa_cons (pe_lst (pa_cons (pe_def D_said_against hr (pa_cons (pe_def D_weight_table hr (pa_cons (pv 0) pa_nil)) (pa_cons (pv 3) pa_nil))) pa_nil)) pa_nil)))))), ?_⟩)
  · obtain ⟨_, _, _, _, _, _, _, rfl, _⟩ := h
    rfl
  · obtain ⟨p, r, o, u, ol, s, k, rfl, hP, R, hr, ho, hl, g⟩ := h
    have hn := R.ok.n
    refine q_asg (ev_op (v0 2 rfl) (e_n (a := 0) rfl) (rv_ixL (SqL.of hr) (atI_nat rfl))) fun H1 e1 => ?_
    have hP1 := hP.mono e1
    refine q_when (et_sortNe (ea_cons (v0 3 rfl) ea_nil) (e1 _ _ ho) hl (e_samples T (v0 0 rfl) hP1) (by omega)) (fun hb H2 e2 => ?_) (fun hb H2 e2 => ?_)
    · rw [Bool.not_eq_true'] at hb
      rw [show aAgainst s ol = no (-1) from if_neg (by rw [hb]; decide)] at g
      exact p_ret (p_v1 ev_c sv_refused) fun v H6 e6 hv => g v H6 (e1.trans (e2.trans e6)) (hv.back (e1.trans (e2.trans (Ex.refl _))))
    · rw [Bool.not_eq_false'] at hb
      rw [show aAgainst s ol = _ from if_pos hb] at g
      have hx : ∀ x ∈ ol, x < s.n := fun x hx => List.mem_range.mp ((ord_perm.mp hb).mem_iff.mpr hx)
      refine p_ret (p_answered (l := [saidAgainst (weightOver s.noses) ol ol.length]) (p_new (el_lst (ea_cons (p_c12v (p_v1 (v0 0 rfl) (sv_weight_table (hP1.mono e2) R.ok)) (fun H3 e3 => v0 3 rfl) fun v H3 e3 ⟨t, ev, ht⟩ => ?_) ea_nil) (by show 1 ≤ 100000; decide))) (by show 1 ≤ 1000; decide)) fun v H6 e6 hv => g v H6 (e1.trans (e2.trans e6)) (hv.back (e1.trans (e2.trans (Ex.refl _))))
      rw [ev]
      exact sv_said_against ht (e3 _ _ (e2 _ _ (e1 _ _ ho))) hx (by omega)
end
end Np
set_option Elab.async false
set_option linter.all false
set_option maxRecDepth 100000
set_option maxHeartbeats 4000000
namespace Np
open PySem PySem.Spec PyProof.Rows L2 Evl
section
variable {P : Program} {w : World} {K : PySem.W.Frag} {mg : Str → Option Value} {base : Heap}
section
variable {σ : L2.St} {H H0 : Hp} {ta te : TE} {t : TA} {D : Ends} {tz : TS} {i : Nat} {a C dx : Addr} {fs : List (Str × V)} {m : Str} {sp : Sp} {E : XK} {vs : List V}
/-- a method called for its doing alone -/
theorem q_mth (ha : Ev ta σ H (.ref a)) (ho : H a = some (.ins C dx fs)) (hl : fs.lookup m = none) (hA : EvA t σ H vs) (hs : ∀ H1, Ex H H1 → sp (.ref a :: (vs ++ [])) H1 (fun _ H2 => tz D σ H2) E) : tSeq (tDrop (tMeth C m sp [] E ta t)) tz D σ H :=
  ha H (Ex.refl H) _ fun H1 e1 => ⟨a, dx, fs, rfl, e1 _ _ ho, hl, hA H1 e1 _ fun H2 e2 => hs H2 (e1.trans e2)⟩
/-- why != ALL_WELL: return refused(why), for a call that changes the panel -/
theorem q_gateM {c : Int} {Q : VK} (hw : σ[i]? = some (some (.int c))) (k : c ≠ 0 → RetP (IsF H0 (no c)) H0 Q) (e : Ex H0 H) (hQ : D.rt = Q) (cont : c = 0 → ∀ H1, Ex H H1 → tz D σ H1) :
    tSeq (tIfS (tTest (tOp rNe (tVar i) (tC (.int 0)))) (tRet (tCall (sp_refused K) [] E0 (tCons (tVar i) tNil))) tNext) tz D σ H := by
  refine q_when (et_test (ev_op (v0 i hw) ev_c r_neI)) (fun hb H1 e1 => ?_) (fun hb H1 e1 => ?_)
  · have hc : ¬ c = 0 := fun z => by
      rw [decide_eq_true z] at hb
      cases hb
    refine p_ret (p_v1 (v0 i hw) sv_refused) fun v H2 e2 hv => ?_
    show D.rt v H2
    rw [hQ]
    exact k hc v H2 (e.trans (e1.trans e2)) (hv.back (e.trans e1))
  · have hc : c = 0 := by
      rw [Bool.not_eq_false'] at hb
      exact of_decide_eq_true hb
    exact cont hc H1 e1
end
theorem pF_none (n : V) (ln lt : Addr) {f : Str} (h1 : (f == ("samples" : Str)) = false) (h2 : (f == ("noses" : Str)) = false) (h3 : (f == ("trials" : Str)) = false) : (pF n ln lt).lookup f = none := (lk2 h1).trans ((lk2 h2).trans ((lk2 h3).trans rfl))
theorem nF_none (l : Addr) (v : V) {f : Str} (h1 : (f == ("said" : Str)) = false) (h2 : (f == ("weight" : Str)) = false) : (nF l v).lookup f = none := (lk2 h1).trans ((lk2 h2).trans rfl)
/-- behind a change of one nose -/
theorem frm_nose {H H1 H2 H6 : Hp} {p : Addr} {k : SK} {h : Nat} {q : NS} (hq : k.ns[h]? = some q) (e : Ex H H1) (fr : ∀ b o, H1 b = some o → b ≠ q.a → b ∉ q.rows → H2 b = some o) (e6 : Ex H2 H6) : Frm (k.fp p) H H6 := fun b o hb nf =>
  e6 _ _ (fr b o (e _ _ hb) (fun z => nf (.inr (.inr (.inr (.inl ⟨q, List.mem_of_getElem? hq, .inl z⟩))))) (fun z => nf (.inr (.inr (.inr (.inl ⟨q, List.mem_of_getElem? hq, .inr (.inr z)⟩))))))
theorem sc_answer_panel : FnScope ["panel", "numbers", "rows", "samples", "noses"] ["panel", "numbers", "rows"] (defScope s_answer_panel) := ⟨rfl, rfl, rfl, by decide +kernel, rfl, by decide +kernel, by decide +kernel⟩
def sp_answer_panel (K : PySem.W.Frag) : Sp := fun vs H Q _ => ∃ (p u : Addr) (r : V) (a b : Nat) (s : MS) (k : SK), vs = [.ref p, .ref u, r] ∧ PanelAt K H p s k ∧ Ready s ∧ H u = some (.lst (nL [a, b])) ∧ RetM K p k (aPanel s a b).1 (aPanel s a b).2 H Q
theorem ok_answer_panel {f : Addr} {fd : FuncData} (F : Fun K "answer_panel" "answer_panel" s_answer_panel f fd) (T : Txt K mg) (D_Panel_set_up : MethK P w K mg base (CPanel K) "set_up" 3 ["self", "samples", "noses"] (sp_Panel_set_up K)) (D_answered : DefK P w K mg base "answered" 1 ["numbers"] (sp_answered K)) (D_refused : DefK P w K mg base "refused" 1 ["why"] (sp_refused K)) (D_within : DefK P w K mg base "within" 1 ["number", "least", "most"] (sp_within K))  : FnOk P w K mg base CX0 4 f fd ["panel", "numbers", "rows"] (sp_answer_panel K) := by
  refine F.ok sc_answer_panel (fun vs H Q E h => ?_) (fun cdv A outer s H vs Q E hr h => ⟨_, (pss_cons (ps_asg (pv 1) (pg_unl rfl (pgs_cons (pg_name (i := 3) sc_answer_panel.nd rfl (Or.inl rfl)) (pgs_cons (pg_name (i := 4) sc_answer_panel.nd rfl (Or.inl rfl)) pgs_nil))))
        (pss_cons (ps_if (PW.pt (pw_or (pt_not (pt_val (pe_def D_within hr (pa_cons (pv 3) (pa_cons (pe_const T.c_LEAST_SAMPLES) (pa_cons (pe_const T.c_MOST_SAMPLES) pa_nil)))))) (pw_or1 (pt_not (pt_val (pe_def D_within hr (pa_cons (pv 4) (pa_cons (pe_const T.c_LEAST_NOSES) (pa_cons (pe_const T.c_MOST_NOSES) pa_nil))))))))) (pss_one (ps_ret (pe_def D_refused hr (pa_cons (pe_const T.c_OUT_OF_RANGE) pa_nil)))) pss_nil)
        (pss_cons (ps_expr (pe_mth D_Panel_set_up hr (pv 0) T.k_Panel (pa_cons (pv 3) (pa_cons (pv 4) pa_nil))))
        (pss_one (ps_ret (pe_def D_answered hr (pa_cons (pe_lst pa_nil) pa_nil))))))), ?_⟩)
  · obtain ⟨_, _, _, _, _, _, _, rfl, _⟩ := h
    rfl
  · obtain ⟨p, u, r, a, b, s, k, rfl, hP, R, hu, g⟩ := h
    refine q_unl2 (v0 1 rfl) hu fun H1 e1 => ?_
    refine q_when (et_or (et_not (et_B (c3 (v0 3 rfl) (e_n (a := 2) rfl) (e_n (a := 8) rfl) sv_within))) fun _ => et_not (et_B (c3 (v0 4 rfl) (e_n (a := 1) rfl) (e_n (a := 8) rfl) sv_within))) (fun hb H2 e2 => ?_) (fun hb H2 e2 => ?_)
    · have h1 : ¬ ((2 ≤ a ∧ a ≤ 8) ∧ (1 ≤ b ∧ b ≤ 8)) := fun ⟨⟨z1, z2⟩, z3, z4⟩ => by
        rw [decide_eq_true z1, decide_eq_true z2, decide_eq_true z3, decide_eq_true z4] at hb
        cases hb
      rw [show aPanel s a b = (s, no (-1)) from if_neg h1] at g
      have g := g.q hP
      exact p_ret (p_v1 ev_c sv_refused) fun v H6 e6 hv => g v H6 (e1.trans (e2.trans e6)) (hv.back (e1.trans (e2.trans (Ex.refl _))))
    · have h1 : (2 ≤ a ∧ a ≤ 8) ∧ (1 ≤ b ∧ b ≤ 8) := by simpa using hb
      rw [show aPanel s a b = _ from if_pos h1] at g
      have hP2 := (hP.mono e1).mono e2
      obtain ⟨dx, o⟩ := hP2.ob
      refine q_mth (v0 0 rfl) o (pF_none _ _ _ (by decide +kernel) (by decide +kernel) (by decide +kernel)) (ea_cons (v0 3 rfl) (ea_cons (v0 4 rfl) ea_nil)) fun H3 e3 => ?_
      have e13 := e1.trans (e2.trans e3)
      refine ⟨p, a, b, s, k, rfl, hP2.mono e3, h1.1.2, h1.2.2, fun k' H4 hP4 fr fp => ?_⟩
      exact p_ret (p_answered (l := []) (p_new (el_lst ea_nil (by show 0 ≤ 100000; decide))) (by show 0 ≤ 1000; decide)) fun v H6 e6 hv => g v H6 k' (hP4.mono e6) (fun b o hb nf => e6 _ _ (fr b o (e13 _ _ hb) fun z => nf (.inl z))) (fun b z => (fp b z).elim (fun y => .inl (.inl y)) fun y => .inr (fresh_back e13 y)) (hv.off fun b o hb nf => fr b o (e13 _ _ hb) fun z => nf (.inl z)) hv.li
theorem sc_answer_say : FnScope ["panel", "numbers", "rows", "number", "a", "b", "why", "nose"] ["panel", "numbers", "rows"] (defScope s_answer_say) := ⟨rfl, rfl, rfl, by decide +kernel, rfl, by decide +kernel, by decide +kernel⟩
def sp_answer_say (K : PySem.W.Frag) : Sp := fun vs H Q _ => ∃ (p u : Addr) (r : V) (h a b : Nat) (s : MS) (k : SK), vs = [.ref p, .ref u, r] ∧ PanelAt K H p s k ∧ Ready s ∧ H u = some (.lst (nL [h, a, b])) ∧ RetM K p k (aSay s h a b).1 (aSay s h a b).2 H Q
theorem ok_answer_say {f : Addr} {fd : FuncData} (F : Fun K "answer_say" "answer_say" s_answer_say f fd) (T : Txt K mg) (D_nose_pair_refusal : DefK P w K mg base "nose_pair_refusal" 2 ["panel", "nose", "a", "b"] (sp_nose_pair_refusal K)) (D_Nose_say : MethK P w K mg base (CNose K) "say" 1 ["self", "a", "b"] (sp_Nose_say K)) (D_answered : DefK P w K mg base "answered" 1 ["numbers"] (sp_answered K)) (D_refused : DefK P w K mg base "refused" 1 ["why"] (sp_refused K)) (D_pairs_said : DefK P w K mg base "pairs_said" 1 ["nose"] (sp_pairs_said K))  : FnOk P w K mg base CX0 3 f fd ["panel", "numbers", "rows"] (sp_answer_say K) := by
  refine F.ok sc_answer_say (fun vs H Q E h => ?_) (fun cdv A outer s H vs Q E hr h => ⟨_, (pss_cons (ps_asg (pv 1) (pg_unl rfl (pgs_cons (pg_name (i := 3) sc_answer_say.nd rfl (Or.inl rfl)) (pgs_cons (pg_name (i := 4) sc_answer_say.nd rfl (Or.inl rfl)) (pgs_cons (pg_name (i := 5) sc_answer_say.nd rfl (Or.inl rfl)) pgs_nil)))))
        (pss_cons (ps_set (i := 6) sc_answer_say.nd rfl (Or.inl rfl) (pe_def D_nose_pair_refusal hr (pa_cons (pv 0) (pa_cons (pv 3) (pa_cons (pv 4) (pa_cons (pv 5) pa_nil))))))
        (pss_cons (ps_if (pt_cmpR op_ne (pv 6) (pe_const T.c_ALL_WELL) (nomark _)) (pss_one (ps_ret (pe_def D_refused hr (pa_cons (pv 6) pa_nil)))) pss_nil)
        (pss_cons (ps_set (i := 7) sc_answer_say.nd rfl (Or.inl rfl) (pe_ix ix_list (pe_fld (pv 0) rfl) (pv 3) (fun _ _ => rfl)))
        (pss_cons (ps_expr (pe_mth D_Nose_say hr (pv 7) T.k_Nose (pa_cons (pv 4) (pa_cons (pv 5) pa_nil))))
        (pss_one (ps_ret (pe_def D_answered hr (pa_cons (pe_lst (pa_cons (pe_def D_pairs_said hr (pa_cons (pv 7) pa_nil)) pa_nil)) pa_nil))))))))), ?_⟩)
  · obtain ⟨_, _, _, _, _, _, _, _, rfl, _⟩ := h
    rfl
  · obtain ⟨p, u, r, h, a, b, s, k, rfl, hP, R, hu, g⟩ := h
    have hn := R.ok.n
    refine q_unl3 (v0 1 rfl) hu fun H1 e1 => ?_
    refine q_asg (c4 (v0 0 rfl) (v0 3 rfl) (v0 4 rfl) (v0 5 rfl) (sv_nose_pair_refusal (hP.mono e1))) fun H2 e2 => ?_
    refine q_gateM rfl (fun hne => ?_) (e1.trans e2) rfl fun h0 H3 e3 => ?_
    · rw [show aSay s h a b = (s, no (nosePairNo s h a b)) from if_neg hne] at g
      exact g.q hP
    · have g2 : RetM K p k (putNose s h ((noseAt s h).put a b 1 0)) (yes [pairsSaid s.n ((noseAt s h).put a b 1 0)]) H Q := by
        rw [show aSay s h a b = (putNose s h ((noseAt s h).put a b 1 0), yes [pairsSaid s.n ((noseAt s h).put a b 1 0)]) from if_pos h0] at g
        exact g
      obtain ⟨hh, ha, hb, _⟩ := nosePairNo_ok h0
      have e13 := (e1.trans e2).trans e3
      have hP3 := hP.mono e13
      obtain ⟨q, hq, hv, hx, hN⟩ := hP3.at_ hh
      refine q_asg (e_nose T (v0 0 rfl) hP3 (v0 3 rfl) hv) fun H4 e4 => ?_
      obtain ⟨dx, o⟩ := (hN.mono e4).ob
      refine q_mth (v0 7 rfl) o (nF_none _ _ (by decide +kernel) (by decide +kernel)) (ea_cons (v0 4 rfl) (ea_cons (v0 5 rfl) ea_nil)) fun H5 e5 => ?_
      have e15 := e13.trans (e4.trans e5)
      refine ⟨q, a, b, s.n, noseAt s h, rfl, (hN.mono e4).mono e5, (hP3.own h q hq).1, ha, hb, fun H6 hN6 fr => ?_⟩
      have hP6 := (hP.mono e15).setNose hh hq hN6 fr
      exact p_ret (p_answered (l := [_]) (p_new (el_lst (ea_cons (c1 (v0 7 rfl) (sv_pairs_said hN6 hn)) ea_nil) (by show 1 ≤ 100000; decide))) (by show 1 ≤ 1000; decide)) fun v H7 e7 hv => g2 v H7 k (hP6.mono e7) (frm_nose hq e15 fr e7) (fun b z => .inl z) (hv.off (frm_nose hq e15 fr (Ex.refl _))) hv.li
theorem sc_answer_unsay : FnScope ["panel", "numbers", "rows", "number", "a", "b", "why", "nose"] ["panel", "numbers", "rows"] (defScope s_answer_unsay) := ⟨rfl, rfl, rfl, by decide +kernel, rfl, by decide +kernel, by decide +kernel⟩
def sp_answer_unsay (K : PySem.W.Frag) : Sp := fun vs H Q _ => ∃ (p u : Addr) (r : V) (h a b : Nat) (s : MS) (k : SK), vs = [.ref p, .ref u, r] ∧ PanelAt K H p s k ∧ Ready s ∧ H u = some (.lst (nL [h, a, b])) ∧ RetM K p k (aUnsay s h a b).1 (aUnsay s h a b).2 H Q
theorem ok_answer_unsay {f : Addr} {fd : FuncData} (F : Fun K "answer_unsay" "answer_unsay" s_answer_unsay f fd) (T : Txt K mg) (D_nose_pair_refusal : DefK P w K mg base "nose_pair_refusal" 2 ["panel", "nose", "a", "b"] (sp_nose_pair_refusal K)) (D_Nose_unsay : MethK P w K mg base (CNose K) "unsay" 1 ["self", "a", "b"] (sp_Nose_unsay K)) (D_answered : DefK P w K mg base "answered" 1 ["numbers"] (sp_answered K)) (D_refused : DefK P w K mg base "refused" 1 ["why"] (sp_refused K)) (D_has_said : DefK P w K mg base "has_said" 1 ["nose", "a", "b"] (sp_has_said K)) (D_pairs_said : DefK P w K mg base "pairs_said" 1 ["nose"] (sp_pairs_said K))  : FnOk P w K mg base CX0 3 f fd ["panel", "numbers", "rows"] (sp_answer_unsay K) := by
  refine F.ok sc_answer_unsay (fun vs H Q E h => ?_) (fun cdv A outer s H vs Q E hr h => ⟨_, (pss_cons (ps_asg (pv 1) (pg_unl rfl (pgs_cons (pg_name (i := 3) sc_answer_unsay.nd rfl (Or.inl rfl)) (pgs_cons (pg_name (i := 4) sc_answer_unsay.nd rfl (Or.inl rfl)) (pgs_cons (pg_name (i := 5) sc_answer_unsay.nd rfl (Or.inl rfl)) pgs_nil)))))
        (pss_cons (ps_set (i := 6) sc_answer_unsay.nd rfl (Or.inl rfl) (pe_def D_nose_pair_refusal hr (pa_cons (pv 0) (pa_cons (pv 3) (pa_cons (pv 4) (pa_cons (pv 5) pa_nil))))))
        (pss_cons (ps_if (pt_cmpR op_ne (pv 6) (pe_const T.c_ALL_WELL) (nomark _)) (pss_one (ps_ret (pe_def D_refused hr (pa_cons (pv 6) pa_nil)))) pss_nil)
        (pss_cons (ps_set (i := 7) sc_answer_unsay.nd rfl (Or.inl rfl) (pe_ix ix_list (pe_fld (pv 0) rfl) (pv 3) (fun _ _ => rfl)))
        (pss_cons (ps_if (pt_not (pt_val (pe_def D_has_said hr (pa_cons (pv 7) (pa_cons (pv 4) (pa_cons (pv 5) pa_nil)))))) (pss_one (ps_ret (pe_def D_refused hr (pa_cons (pe_const T.c_CANNOT_BE) pa_nil)))) pss_nil)
        (pss_cons (ps_expr (pe_mth D_Nose_unsay hr (pv 7) T.k_Nose (pa_cons (pv 4) (pa_cons (pv 5) pa_nil))))
        (pss_one (ps_ret (pe_def D_answered hr (pa_cons (pe_lst (pa_cons (pe_def D_pairs_said hr (pa_cons (pv 7) pa_nil)) pa_nil)) pa_nil)))))))))), ?_⟩)
  · obtain ⟨_, _, _, _, _, _, _, _, rfl, _⟩ := h
    rfl
  · obtain ⟨p, u, r, h, a, b, s, k, rfl, hP, R, hu, g⟩ := h
    have hn := R.ok.n
    refine q_unl3 (v0 1 rfl) hu fun H1 e1 => ?_
    refine q_asg (c4 (v0 0 rfl) (v0 3 rfl) (v0 4 rfl) (v0 5 rfl) (sv_nose_pair_refusal (hP.mono e1))) fun H2 e2 => ?_
    refine q_gateM rfl (fun hne => ?_) (e1.trans e2) rfl fun h0 H3 e3 => ?_
    · rw [show aUnsay s h a b = (s, no (nosePairNo s h a b)) from if_neg hne] at g
      exact g.q hP
    · obtain ⟨hh, ha, hb, _⟩ := nosePairNo_ok h0
      have e13 := (e1.trans e2).trans e3
      have hP3 := hP.mono e13
      obtain ⟨q, hq, hv, hx, hN⟩ := hP3.at_ hh
      refine q_asg (e_nose T (v0 0 rfl) hP3 (v0 3 rfl) hv) fun H4 e4 => ?_
      refine q_when (et_not (et_B (c3 (v0 7 rfl) (v0 4 rfl) (v0 5 rfl) (sv_has_said (hN.mono e4) ha hb)))) (fun hc H5 e5 => ?_) (fun hc H5 e5 => ?_)
      · rw [Bool.not_eq_true'] at hc
        rw [show aUnsay s h a b = (s, no (-4)) from (if_pos h0).trans (if_neg (by rw [hc]; decide))] at g
        have g := g.q hP
        exact p_ret (p_v1 ev_c sv_refused) fun v H6 e6 hv => g v H6 (e13.trans (e4.trans (e5.trans e6))) (hv.back (e13.trans (e4.trans (e5.trans (Ex.refl _)))))
      · rw [Bool.not_eq_false'] at hc
        have g2 : RetM K p k (putNose s h ((noseAt s h).put a b 0 0)) (yes [pairsSaid s.n ((noseAt s h).put a b 0 0)]) H Q := by
          rw [show aUnsay s h a b = (putNose s h ((noseAt s h).put a b 0 0), yes [pairsSaid s.n ((noseAt s h).put a b 0 0)]) from (if_pos h0).trans (if_pos hc)] at g
          exact g
        have hN5 := (hN.mono e4).mono e5
        obtain ⟨dx, o⟩ := hN5.ob
        refine q_mth (v0 7 rfl) o (nF_none _ _ (by decide +kernel) (by decide +kernel)) (ea_cons (v0 4 rfl) (ea_cons (v0 5 rfl) ea_nil)) fun H6 e6 => ?_
        have e16 := e13.trans (e4.trans (e5.trans e6))
        refine ⟨q, a, b, s.n, noseAt s h, rfl, hN5.mono e6, (hP3.own h q hq).1, ha, hb, fun H7 hN7 fr => ?_⟩
        have hP7 := (hP.mono e16).setNose hh hq hN7 fr
        exact p_ret (p_answered (l := [_]) (p_new (el_lst (ea_cons (c1 (v0 7 rfl) (sv_pairs_said hN7 hn)) ea_nil) (by show 1 ≤ 100000; decide))) (by show 1 ≤ 1000; decide)) fun v H8 e8 hv => g2 v H8 k (hP7.mono e8) (frm_nose hq e16 fr e8) (fun b z => .inl z) (hv.off (frm_nose hq e16 fr (Ex.refl _))) hv.li
theorem sc_answer_weigh : FnScope ["panel", "numbers", "rows", "number", "weight", "why"] ["panel", "numbers", "rows"] (defScope s_answer_weigh) := ⟨rfl, rfl, rfl, by decide +kernel, rfl, by decide +kernel, by decide +kernel⟩
def sp_answer_weigh (K : PySem.W.Frag) : Sp := fun vs H Q _ => ∃ (p u : Addr) (r : V) (h a : Nat) (s : MS) (k : SK), vs = [.ref p, .ref u, r] ∧ PanelAt K H p s k ∧ Ready s ∧ H u = some (.lst (nL [h, a])) ∧ RetM K p k (aWeigh s h a).1 (aWeigh s h a).2 H Q
theorem ok_answer_weigh {f : Addr} {fd : FuncData} (F : Fun K "answer_weigh" "answer_weigh" s_answer_weigh f fd) (T : Txt K mg) (D_nose_refusal : DefK P w K mg base "nose_refusal" 1 ["panel", "nose"] (sp_nose_refusal K)) (D_Nose_weigh : MethK P w K mg base (CNose K) "weigh" 1 ["self", "weight"] (sp_Nose_weigh K)) (D_answered : DefK P w K mg base "answered" 1 ["numbers"] (sp_answered K)) (D_within : DefK P w K mg base "within" 1 ["number", "least", "most"] (sp_within K)) (D_refused : DefK P w K mg base "refused" 1 ["why"] (sp_refused K))  : FnOk P w K mg base CX0 2 f fd ["panel", "numbers", "rows"] (sp_answer_weigh K) := by
  refine F.ok sc_answer_weigh (fun vs H Q E h => ?_) (fun cdv A outer s H vs Q E hr h => ⟨_, (pss_cons (ps_asg (pv 1) (pg_unl rfl (pgs_cons (pg_name (i := 3) sc_answer_weigh.nd rfl (Or.inl rfl)) (pgs_cons (pg_name (i := 4) sc_answer_weigh.nd rfl (Or.inl rfl)) pgs_nil))))
        (pss_cons (ps_if (pt_not (pt_val (pe_def D_within hr (pa_cons (pv 4) (pa_cons pe_int (pa_cons (pe_const T.c_MOST_WEIGHT) pa_nil)))))) (pss_one (ps_ret (pe_def D_refused hr (pa_cons (pe_const T.c_OUT_OF_RANGE) pa_nil)))) pss_nil)
        (pss_cons (ps_set (i := 5) sc_answer_weigh.nd rfl (Or.inl rfl) (pe_def D_nose_refusal hr (pa_cons (pv 0) (pa_cons (pv 3) pa_nil))))
        (pss_cons (ps_if (pt_cmpR op_ne (pv 5) (pe_const T.c_ALL_WELL) (nomark _)) (pss_one (ps_ret (pe_def D_refused hr (pa_cons (pv 5) pa_nil)))) pss_nil)
        (pss_cons (ps_expr (pe_mth D_Nose_weigh hr (pe_ix ix_list (pe_fld (pv 0) rfl) (pv 3) (fun _ _ => rfl)) T.k_Nose (pa_cons (pv 4) pa_nil)))
        (pss_one (ps_ret (pe_def D_answered hr (pa_cons (pe_lst pa_nil) pa_nil))))))))), ?_⟩)
  · obtain ⟨_, _, _, _, _, _, _, rfl, _⟩ := h
    rfl
  · obtain ⟨p, u, r, h, a, s, k, rfl, hP, R, hu, g⟩ := h
    refine q_unl2 (v0 1 rfl) hu fun H1 e1 => ?_
    refine q_when (et_not (et_B (c3 (v0 4 rfl) (e_n (a := 0) rfl) (e_n (a := 9) rfl) sv_within))) (fun hb H2 e2 => ?_) (fun hb H2 e2 => ?_)
    · have h1 : ¬ (a ≤ 9) := fun z1 => by
        rw [decide_eq_true z1, decide_eq_true (Nat.zero_le a)] at hb
        cases hb
      rw [show aWeigh s h a = (s, no (-1)) from if_neg h1] at g
      have g := g.q hP
      exact p_ret (p_v1 ev_c sv_refused) fun v H6 e6 hv => g v H6 (e1.trans (e2.trans e6)) (hv.back (e1.trans (e2.trans (Ex.refl _))))
    · have h1 : a ≤ 9 := by simpa using hb
      refine q_asg (c2 (v0 0 rfl) (v0 3 rfl) (sv_nose_refusal ((hP.mono e1).mono e2))) fun H3 e3 => ?_
      refine q_gateM rfl (fun hne => ?_) ((e1.trans e2).trans e3) rfl fun h0 H4 e4 => ?_
      · rw [show aWeigh s h a = (s, no (noseNo s h)) from (if_pos h1).trans (if_neg hne)] at g
        exact g.q hP
      · have g2 : RetM K p k (putNose s h { noseAt s h with weight := a }) (yes []) H Q := by
          rw [show aWeigh s h a = (putNose s h { noseAt s h with weight := a }, yes []) from (if_pos h1).trans (if_pos h0)] at g
          exact g
        have hh := noseNo_ok h0
        have e14 := ((e1.trans e2).trans e3).trans e4
        have hP4 := hP.mono e14
        obtain ⟨q, hq, hv, hx, hN⟩ := hP4.at_ hh
        obtain ⟨dx, o⟩ := hN.ob
        refine q_mth (e_nose T (v0 0 rfl) hP4 (v0 3 rfl) hv) o (nF_none _ _ (by decide +kernel) (by decide +kernel)) (ea_cons (v0 4 rfl) ea_nil) fun H5 e5 => ?_
        have e15 := e14.trans e5
        refine ⟨q, a, s.n, noseAt s h, rfl, hN.mono e5, fun H6 hN6 fr => ?_⟩
        have hP6 := (hP.mono e15).setNose hh hq hN6 fr
        exact p_ret (p_answered (l := []) (p_new (el_lst ea_nil (by show 0 ≤ 100000; decide))) (by show 0 ≤ 1000; decide)) fun v H7 e7 hv => g2 v H7 k (hP6.mono e7) (frm_nose hq e15 fr e7) (fun b z => .inl z) (hv.off (frm_nose hq e15 fr (Ex.refl _))) hv.li
theorem sc_answer_trial : FnScope ["panel", "numbers", "rows", "number", "a", "b", "right", "why"] ["panel", "numbers", "rows"] (defScope s_answer_trial) := ⟨rfl, rfl, rfl, by decide +kernel, rfl, by decide +kernel, by decide +kernel⟩
def sp_answer_trial (K : PySem.W.Frag) : Sp := fun vs H Q _ => ∃ (p u : Addr) (r : V) (h a b c : Nat) (s : MS) (k : SK), vs = [.ref p, .ref u, r] ∧ PanelAt K H p s k ∧ Ready s ∧ H u = some (.lst (nL [h, a, b, c])) ∧ RetM K p k (aTrial s h a b c).1 (aTrial s h a b c).2 H Q
/-- behind a change of the trials' list -/
theorem frm_trials {H H1 H2 H6 : Hp} {p : Addr} {k : SK} (e : Ex H H1) (fr : ∀ b o, H1 b = some o → b ≠ k.lt → H2 b = some o) (e6 : Ex H2 H6) : Frm (k.fp p) H H6 := fun b o hb nf => e6 _ _ (fr b o (e _ _ hb) fun z => nf (.inr (.inr (.inl z))))
theorem ok_answer_trial {f : Addr} {fd : FuncData} (F : Fun K "answer_trial" "answer_trial" s_answer_trial f fd) (T : Txt K mg) (D_nose_pair_refusal : DefK P w K mg base "nose_pair_refusal" 2 ["panel", "nose", "a", "b"] (sp_nose_pair_refusal K)) (D_Panel_keep_trial : MethK P w K mg base (CPanel K) "keep_trial" 1 ["self", "nose", "a", "b", "right"] (sp_Panel_keep_trial K)) (D_answered : DefK P w K mg base "answered" 1 ["numbers"] (sp_answered K)) (D_within : DefK P w K mg base "within" 1 ["number", "least", "most"] (sp_within K)) (D_refused : DefK P w K mg base "refused" 1 ["why"] (sp_refused K))  : FnOk P w K mg base CX0 3 f fd ["panel", "numbers", "rows"] (sp_answer_trial K) := by
  refine F.ok sc_answer_trial (fun vs H Q E h => ?_) (fun cdv A outer s H vs Q E hr h => ⟨_, (pss_cons (ps_asg (pv 1) (pg_unl rfl (pgs_cons (pg_name (i := 3) sc_answer_trial.nd rfl (Or.inl rfl)) (pgs_cons (pg_name (i := 4) sc_answer_trial.nd rfl (Or.inl rfl)) (pgs_cons (pg_name (i := 5) sc_answer_trial.nd rfl (Or.inl rfl)) (pgs_cons (pg_name (i := 6) sc_answer_trial.nd rfl (Or.inl rfl)) pgs_nil))))))
        (pss_cons (ps_if (pt_not (pt_val (pe_def D_within hr (pa_cons (pv 6) (pa_cons pe_int (pa_cons pe_int pa_nil)))))) (pss_one (ps_ret (pe_def D_refused hr (pa_cons (pe_const T.c_OUT_OF_RANGE) pa_nil)))) pss_nil)
        (pss_cons (ps_set (i := 7) sc_answer_trial.nd rfl (Or.inl rfl) (pe_def D_nose_pair_refusal hr (pa_cons (pv 0) (pa_cons (pv 3) (pa_cons (pv 4) (pa_cons (pv 5) pa_nil))))))
        (pss_cons (ps_if (pt_cmpR op_ne (pv 7) (pe_const T.c_ALL_WELL) (nomark _)) (pss_one (ps_ret (pe_def D_refused hr (pa_cons (pv 7) pa_nil)))) pss_nil)
        (pss_cons (ps_if (pt_cmpR op_eq (pe_callB call_len_seq (by rfl) T.len (by decide +kernel) (pa_cons (pe_fld (pv 0) rfl) pa_nil)) (pe_const T.c_MOST_TRIALS) (nomark _)) (pss_one (ps_ret (pe_def D_refused hr (pa_cons (pe_const T.c_FULL) pa_nil)))) pss_nil)
        (pss_cons (ps_expr (pe_mth D_Panel_keep_trial hr (pv 0) T.k_Panel (pa_cons (pv 3) (pa_cons (pv 4) (pa_cons (pv 5) (pa_cons (pv 6) pa_nil))))))
        (pss_one (ps_ret (pe_def D_answered hr (pa_cons (pe_lst (pa_cons (pe_callB call_len_seq (by rfl) T.len (by decide +kernel) (pa_cons (pe_fld (pv 0) rfl) pa_nil)) pa_nil)) pa_nil)))))))))), ?_⟩)
  · obtain ⟨_, _, _, _, _, _, _, _, _, rfl, _⟩ := h
    rfl
  · obtain ⟨p, u, r, h, a, b, c, s, k, rfl, hP, R, hu, g⟩ := h
    have hl := R.ok.trials
    refine q_unl4 (v0 1 rfl) hu fun H1 e1 => ?_
    refine q_when (et_not (et_B (c3 (v0 6 rfl) (e_n (a := 0) rfl) (e_n (a := 1) rfl) sv_within))) (fun hb H2 e2 => ?_) (fun hb H2 e2 => ?_)
    · have h1 : ¬ (c ≤ 1) := fun z1 => by
        rw [decide_eq_true z1, decide_eq_true (Nat.zero_le c)] at hb
        cases hb
      rw [show aTrial s h a b c = (s, no (-1)) from if_neg h1] at g
      have g := g.q hP
      exact p_ret (p_v1 ev_c sv_refused) fun v H6 e6 hv => g v H6 (e1.trans (e2.trans e6)) (hv.back (e1.trans (e2.trans (Ex.refl _))))
    · have h1 : c ≤ 1 := by simpa using hb
      refine q_asg (c4 (v0 0 rfl) (v0 3 rfl) (v0 4 rfl) (v0 5 rfl) (sv_nose_pair_refusal ((hP.mono e1).mono e2))) fun H3 e3 => ?_
      refine q_gateM rfl (fun hne => ?_) ((e1.trans e2).trans e3) rfl fun h0 H4 e4 => ?_
      · rw [show aTrial s h a b c = (s, no (nosePairNo s h a b)) from (if_pos h1).trans (if_neg hne)] at g
        exact g.q hP
      · have e14 := ((e1.trans e2).trans e3).trans e4
        have hP4 := hP.mono e14
        refine q_when (et_test (ev_op (e_lenTrials T (v0 0 rfl) hP4) (e_n (a := 36) rfl) r_eq)) (fun hc H5 e5 => ?_) (fun hc H5 e5 => ?_)
        · have hc := of_decide_eq_true hc
          rw [show aTrial s h a b c = (s, no (-9)) from (if_pos h1).trans ((if_pos h0).trans (if_pos hc))] at g
          have g := g.q hP
          exact p_ret (p_v1 ev_c sv_refused) fun v H6 e6 hv => g v H6 (e14.trans (e5.trans e6)) (hv.back (e14.trans (e5.trans (Ex.refl _))))
        · have hc := of_decide_eq_false hc
          have g2 : RetM K p k { s with trials := s.trials ++ [⟨h, a, b, c⟩] } (yes [s.trials.length + 1]) H Q := by
            rw [show aTrial s h a b c = ({ s with trials := s.trials ++ [⟨h, a, b, c⟩] }, yes [s.trials.length + 1]) from (if_pos h1).trans ((if_pos h0).trans (if_neg hc))] at g
            exact g
          have hP5 := hP4.mono e5
          obtain ⟨dx, o⟩ := hP5.ob
          refine q_mth (v0 0 rfl) o (pF_none _ _ _ (by decide +kernel) (by decide +kernel) (by decide +kernel)) (ea_cons (v0 3 rfl) (ea_cons (v0 4 rfl) (ea_cons (v0 5 rfl) (ea_cons (v0 6 rfl) ea_nil)))) fun H6 e6 => ?_
          have e16 := e14.trans (e5.trans e6)
          refine ⟨p, ⟨h, a, b, c⟩, s, k, rfl, hP5.mono e6, hl, fun ad H7 hP7 had fr => ?_⟩
          have e7 := e_lenTrials T (σ := [some (.ref p), some (.ref u), some r, some (nV h), some (nV a), some (nV b), some (nV c), some (.int (nosePairNo s h a b))]) (v0 0 rfl) hP7
          rw [show ({ s with trials := s.trials ++ [⟨h, a, b, c⟩] } : MS).trials.length = s.trials.length + 1 from List.length_append] at e7
          refine p_ret (p_answered (l := [_]) (p_new (el_lst (ea_cons e7 ea_nil) (by show 1 ≤ 100000; decide))) (by show 1 ≤ 1000; decide)) fun v H8 e8 hv => g2 v H8 _ (hP7.mono e8) (frm_trials e16 fr e8) (fun b z => ?_) (hv.off (frm_trials e16 fr (Ex.refl _))) hv.li
          rcases z with z | z | z | z | z
          · exact .inl (.inl z)
          · exact .inl (.inr (.inl z))
          · exact .inl (.inr (.inr (.inl z)))
          · exact .inl (.inr (.inr (.inr (.inl z))))
          · rcases List.mem_append.mp z with z | z
            · exact .inl (.inr (.inr (.inr (.inr z))))
            · rw [List.mem_singleton.mp z]
              exact .inr (fresh_back e16 had)
theorem sc_answer_untry : FnScope ["panel", "numbers", "rows"] ["panel", "numbers", "rows"] (defScope s_answer_untry) := ⟨rfl, rfl, rfl, by decide +kernel, rfl, by decide +kernel, by decide +kernel⟩
def sp_answer_untry (K : PySem.W.Frag) : Sp := fun vs H Q _ => ∃ (p : Addr) (u r : V) (s : MS) (k : SK), vs = [.ref p, u, r] ∧ PanelAt K H p s k ∧ Ready s ∧ RetM K p k (aUntry s).1 (aUntry s).2 H Q
theorem ok_answer_untry {f : Addr} {fd : FuncData} (F : Fun K "answer_untry" "answer_untry" s_answer_untry f fd) (T : Txt K mg) (D_Panel_drop_trial : MethK P w K mg base (CPanel K) "drop_trial" 1 ["self"] (sp_Panel_drop_trial K)) (D_answered : DefK P w K mg base "answered" 1 ["numbers"] (sp_answered K)) (D_refused : DefK P w K mg base "refused" 1 ["why"] (sp_refused K))  : FnOk P w K mg base CX0 2 f fd ["panel", "numbers", "rows"] (sp_answer_untry K) := by
  refine F.ok sc_answer_untry (fun vs H Q E h => ?_) (fun cdv A outer s H vs Q E hr h => ⟨_, (pss_cons (ps_if (pt_cmpR op_eq (pe_callB call_len_seq (by rfl) T.len (by decide +kernel) (pa_cons (pe_fld (pv 0) rfl) pa_nil)) pe_int (nomark _)) (pss_one (ps_ret (pe_def D_refused hr (pa_cons (pe_const T.c_CANNOT_BE) pa_nil)))) pss_nil)
        (pss_cons (ps_expr (pe_mth0 D_Panel_drop_trial hr (pv 0) T.k_Panel))
        (pss_one (ps_ret (pe_def D_answered hr (pa_cons (pe_lst (pa_cons (pe_callB call_len_seq (by rfl) T.len (by decide +kernel) (pa_cons (pe_fld (pv 0) rfl) pa_nil)) pa_nil)) pa_nil)))))), ?_⟩)
  · obtain ⟨_, _, _, _, _, rfl, _⟩ := h
    rfl
  · obtain ⟨p, u, r, s, k, rfl, hP, R, g⟩ := h
    refine q_when (et_test (ev_op (e_lenTrials T (v0 0 rfl) hP) (e_n (a := 0) rfl) r_eq)) (fun hc H5 e5 => ?_) (fun hc H5 e5 => ?_)
    · rw [show aUntry s = (s, no (-4)) from if_pos (of_decide_eq_true hc)] at g
      have g := g.q hP
      exact p_ret (p_v1 ev_c sv_refused) fun v H6 e6 hv => g v H6 (e5.trans e6) (hv.back (e5.trans (Ex.refl _)))
    · have hc := of_decide_eq_false hc
      have g2 : RetM K p k { s with trials := s.trials.dropLast } (yes [s.trials.length - 1]) H Q := by
        rw [show aUntry s = ({ s with trials := s.trials.dropLast }, yes [s.trials.length - 1]) from if_neg hc] at g
        exact g
      have hP5 := hP.mono e5
      obtain ⟨dx, o⟩ := hP5.ob
      refine q_mth (v0 0 rfl) o (pF_none _ _ _ (by decide +kernel) (by decide +kernel) (by decide +kernel)) ea_nil fun H6 e6 => ?_
      have e16 := e5.trans e6
      refine ⟨p, s, k, rfl, hP5.mono e6, by omega, fun H7 hP7 fr => ?_⟩
      have e7 := e_lenTrials T (σ := [some (.ref p), some u, some r]) (v0 0 rfl) hP7
      rw [show ({ s with trials := s.trials.dropLast } : MS).trials.length = s.trials.length - 1 from List.length_dropLast] at e7
      refine p_ret (p_answered (l := [_]) (p_new (el_lst (ea_cons e7 ea_nil) (by show 1 ≤ 100000; decide))) (by show 1 ≤ 1000; decide)) fun v H8 e8 hv => g2 v H8 _ (hP7.mono e8) (frm_trials e16 fr e8) (fun b z => ?_) (hv.off (frm_trials e16 fr (Ex.refl _))) hv.li
      rcases z with z | z | z | z | z
      · exact .inl (.inl z)
      · exact .inl (.inr (.inl z))
      · exact .inl (.inr (.inr (.inl z)))
      · exact .inl (.inr (.inr (.inr (.inl z))))
      · exact .inl (.inr (.inr (.inr (.inr (List.dropLast_subset _ z)))))
end
end Np
set_option Elab.async false
set_option linter.all false
set_option maxRecDepth 100000
set_option maxHeartbeats 4000000
namespace Np
open PySem PySem.Spec PyProof.Rows L2 Evl
/-! ### a call's place in the list -/
/-- m is a call's numbers, then m' -/
structure Cut (m : List Nat) (c : Nat) (l : List Nat) (rows : List (List Nat)) (m' : List Nat) : Prop where
  hc : c < 26
  hl : l.length = numsOf c
  sh : (c ≠ 15 ∧ rows = [] ∧ m = c :: (l ++ m')) ∨ (c = 15 ∧ ∃ ol, rows = [ol] ∧ ol.length ≤ 50 ∧ m = c :: (l ++ ol.length :: (ol ++ m')))
theorem drop_cons {cl m : List Nat} {i x : Nat} (h : cl.drop i = x :: m) : i < cl.length ∧ cl.getD i 0 = x ∧ cl.drop (i + 1) = m := by
  have hi : i < cl.length := by
    apply Nat.lt_of_not_le
    intro z
    rw [List.drop_eq_nil_of_le z] at h
    cases h
  rw [List.drop_eq_getElem_cons hi] at h
  injection h with h1 h2
  refine ⟨hi, ?_, h2⟩
  rw [List.getD_eq_getElem?_getD, List.getElem?_eq_getElem hi]
  exact h1
theorem drop_app {cl l m : List Nat} {i : Nat} (h : cl.drop i = l ++ m) : cl.drop (i + l.length) = m ∧ (cl.drop i).take l.length = l := by
  refine ⟨?_, by rw [h, List.take_left]⟩
  rw [← List.drop_drop, h, List.drop_left]
theorem cut_nL {cl : List Nat} {a b : Nat} (h1 : a ≤ b) (h2 : b ≤ cl.length) : cutV (nL cl) (some (a : Int)) (some (b : Int)) = nL ((cl.drop a).take (b - a)) := by
  unfold cutV
  rw [HT.sIx_nat, HT.sIx_nat, nL_len, Nat.min_eq_left (show a ≤ cl.length by omega), Nat.min_eq_left h2]
  unfold nL
  rw [List.map_take, List.map_drop]
section
variable {P : Program} {w : World} {K : PySem.W.Frag} {mg : Str → Option Value} {base : Heap}
section
variable {σ : L2.St} {H H0 : Hp} {ta tb tc te : TE} {t : TA} {D : Ends} {tz : TS} {g : TG} {i : Nat} {x z v : V} {sp : Sp} {E : XK} {vs : List V} {Pp : VP} {u : Addr}
/-- d[i] of a written dict -/
theorem e_ixK {a : Addr} {us : List V} (hb : Ev tb σ H (nV i)) (h : us[i]? = some v) : Ev (tOp (rIxK a us) (tC (.ref a)) tb) σ H v := ev_op ev_c hb fun H1 e Q q => ⟨i, v, rfl, rfl, h, q H1 (Ex.refl H1)⟩
theorem r_tup3 (ha : Ev ta σ H x) (hb : EvP tb σ H Pp) (hc : ∀ H1, Ex H H1 → Ev tc σ H1 z) (hm : ∀ y H1 H2, Ex H1 H2 → Pp y H1 → Pp y H2) (k : ∀ t y H3, Ex H H3 → Pp y H3 → H3 t = some (.tup [x, y, z]) → D.rt (.ref t) H3) :
    tRet (tTup (tCons ta (tCons tb (tCons tc tNil)))) D σ H := ha H (Ex.refl H) _ fun H1 e1 => hb H1 e1 _ fun y H2 e2 p => hc H2 (e1.trans e2) H2 (Ex.refl H2) _ fun H3 e3 =>
  ⟨by show 3 ≤ sizeLine; decide, fun t ht => k t y _ (((e1.trans e2).trans e3).trans (Ex.new ht)) (hm y _ _ (e3.trans (Ex.new ht)) p) upd_same⟩
/-- a list of one new list -/
def IsLL (xs : List V) : VP := fun v H1 => ∃ d o, v = .ref d ∧ H1 d = some (.lst [.ref o]) ∧ H1 o = some (.lst xs)
theorem p_lst1 {xs : List V} (h : EvL te σ H xs) : EvP (tLst (tCons te tNil)) σ H (IsLL xs) := fun H1 e Q q => h H1 e _ fun o H2 ho e2 h2 =>
  ⟨by show 1 ≤ sizeLine; decide, fun p hp => q _ _ (e2.trans (Ex.new hp)) ⟨p, o, rfl, upd_same, by rw [upd_ne (ne_of_none h2 hp)]; exact h2⟩⟩
theorem q_asgC (hA : EvA t σ H vs) (hs : ∀ H1, Ex H H1 → sp (vs ++ []) H1 (fun v H2 => g v σ H2 fun σ2 H3 => tz D σ2 H3) E) : tSeq (tAsg (tCall sp [] E t) g) tz D σ H := hA H (Ex.refl H) _ hs
/-- given_back.append(x), the list as long as there's room -/
theorem q_appV {l : Addr} {xs : List V} (hl : H l = some (.lst xs)) (ha : Ev ta σ H (.ref l)) (h : Ev te σ H v) (hz : xs.length < sizeLine) (k : ∀ H1, Ex H H1 → tz D σ (upd H1 l (.lst (xs ++ [v])))) :
    tSeq (tDrop (tBM K "list" rAppend ta (tCons te tNil))) tz D σ H := ha H (Ex.refl H) _ fun H1 e1 =>
  ⟨Or.inl ⟨rfl, xs, SqL.of (e1 l _ hl)⟩, h H1 e1 _ fun H2 e2 => ⟨l, xs, v, rfl, rfl, e2 l _ (e1 l _ hl), hz, k H2 (e1.trans e2)⟩⟩
theorem q_extV {l b : Addr} {xs zs : List V} (hl : H l = some (.lst xs)) (hb : H b = some (.lst zs)) (ha : Ev ta σ H (.ref l)) (h : Ev te σ H (.ref b)) (hz : xs.length + zs.length ≤ sizeLine) (k : ∀ H1, Ex H H1 → tz D σ (upd H1 l (.lst (xs ++ zs)))) :
    tSeq (tDrop (tBM K "list" rExtend ta (tCons te tNil))) tz D σ H := ha H (Ex.refl H) _ fun H1 e1 =>
  ⟨Or.inl ⟨rfl, xs, SqL.of (e1 l _ hl)⟩, h H1 e1 _ fun H2 e2 => ⟨l, b, xs, zs, rfl, rfl, e2 l _ (e1 l _ hl), e2 b _ (e1 b _ hb), hz, k H2 (e1.trans e2)⟩⟩
end
/-- what read_call gives of rows -/
def IsRw (rows : List (List Nat)) (r : Addr) (H : Hp) : Prop := ∀ ol, rows = [ol] → ∃ o, H r = some (.lst [.ref o]) ∧ H o = some (.lst (nL ol))
theorem sc_read_call : FnScope ["calls", "at", "end", "numbers", "start"] ["calls", "at"] (defScope s_read_call) := ⟨rfl, rfl, rfl, by decide +kernel, rfl, by decide +kernel, by decide +kernel⟩
def sp_read_call (K : PySem.W.Frag) : Sp := fun vs H Q _ => ∃ (q : Addr) (at_ : Nat) (cl : List Nat) (c : Nat) (l : List Nat) (rows : List (List Nat)) (m' : List Nat), vs = [.ref q, nV at_] ∧ SqL K H q (nL cl) ∧ cl.length ≤ 40000 ∧ Cut (cl.drop at_) c l rows m' ∧
  ∀ t u r e H', Ex H H' → cl.drop e = m' → e ≤ cl.length → at_ < e → H' t = some (.tup [.ref u, .ref r, nV e]) → H' u = some (.lst (nL l)) → IsRw rows r H' → Q (.ref t) H'
theorem nums_at {c : Nat} (h : c < 26) : (nL numsL)[c]? = some (nV (numsOf c)) := by
  have : ∀ c, c < 26 → (nL numsL)[c]? = some (nV (numsOf c)) := by
    intro c hc
    match c, hc with
    | 0, _ | 1, _ | 2, _ | 3, _ | 4, _ | 5, _ | 6, _ | 7, _ | 8, _ | 9, _ | 10, _ | 11, _ | 12, _ | 13, _ | 14, _ | 15, _ | 16, _ | 17, _ | 18, _ | 19, _ | 20, _ | 21, _ | 22, _ | 23, _ | 24, _ | 25, _ => rfl
    | n + 26, h => omega
  exact this c h
theorem ok_read_call {f : Addr} {fd : FuncData} (F : Fun K "read_call" "read_call" s_read_call f fd) (T : Txt K mg)   : FnOk P w K mg base CX0 1 f fd ["calls", "at"] (sp_read_call K) := by
  refine F.ok sc_read_call (fun vs H Q E h => ?_) (fun cdv A outer s H vs Q E hr h => ⟨_, (pss_cons (ps_set (i := 2) sc_read_call.nd rfl (Or.inl rfl) (pe_op op_add (pe_op op_add (pv 1) pe_int) (pe_ix (ix_kint T.t_MANY_NUMBERS) (pe_glob (v := .ref (He.ga K "MANY_NUMBERS")) rfl T.g_MANY_NUMBERS rfl) (pe_ix ix_list (pv 0) (pv 1) (fun _ _ => rfl)) (fun _ _ => rfl))))
        (pss_cons (ps_set (i := 3) sc_read_call.nd rfl (Or.inl rfl) (pe_slice sl_list (pv 0) (po_some (pe_op op_add (pv 1) pe_int)) (po_some (pv 2))))
        (pss_cons (ps_if (pt_cmpR op_ne (pe_ix ix_list (pv 0) (pv 1) (fun _ _ => rfl)) (pe_const T.c_AGAINST) (nomark _)) (pss_one (ps_ret (pe_tup (pa_cons (pv 3) (pa_cons (pe_lst pa_nil) (pa_cons (pv 2) pa_nil)))))) pss_nil)
        (pss_cons (ps_set (i := 4) sc_read_call.nd rfl (Or.inl rfl) (pe_op op_add (pv 2) pe_int))
        (pss_cons (ps_set (i := 2) sc_read_call.nd rfl (Or.inl rfl) (pe_op op_add (pv 4) (pe_ix ix_list (pv 0) (pe_op op_sub (pv 4) pe_int) (fun _ _ => rfl))))
        (pss_one (ps_ret (pe_tup (pa_cons (pv 3) (pa_cons (pe_lst (pa_cons (pe_slice sl_list (pv 0) (po_some (pv 4)) (po_some (pv 2))) pa_nil)) (pa_cons (pv 2) pa_nil))))))))))), ?_⟩)
  · obtain ⟨_, _, _, _, _, _, _, rfl, _⟩ := h
    rfl
  · obtain ⟨q, at_, cl, c, l, rows, m', rfl, hq, hcl, hcut, k⟩ := h
    obtain ⟨n1, h1⟩ : ∃ n1, cl.drop at_ = c :: (l ++ n1) := by
      rcases hcut.sh with ⟨_, _, h⟩ | ⟨_, ol, _, _, h⟩
      · exact ⟨_, h⟩
      · exact ⟨_, h⟩
    obtain ⟨hat, hg, hd⟩ := drop_cons h1
    obtain ⟨hd2, ht⟩ := drop_app hd
    have hlen : at_ + 1 + l.length ≤ cl.length := by
      have := congrArg List.length hd
      rw [List.length_drop, List.length_append] at this
      omega
    have ec : Ev (tOp (rIxL K) (tVar 0) (tVar 1)) [some (.ref q), some (nV at_), none, none, none] H (nV c) := by
      have := e_ix (K := K) (σ := [some (V.ref q), some (nV at_), none, none, none]) (v0 0 rfl) hq (v0 1 rfl) hat
      rw [hg] at this
      exact this
    refine q_asg (ev_op (ev_op (v0 1 rfl) (e_n (a := 1) rfl) r_add) (e_ixK ec (nums_at hcut.hc)) r_add) fun H1 e1 => ?_
    have hq1 := ex_l e1 hq
    have hsl : cutV (nL cl) (some ((at_ + 1 : Nat) : Int)) (some ((at_ + 1 + numsOf c : Nat) : Int)) = nL l := by
      rw [← hcut.hl, cut_nL (by omega) hlen, show at_ + 1 + l.length - (at_ + 1) = l.length by omega, ht]
    have hel : EvL _ _ H1 _ := el_sl (K := K) (σ := [some (V.ref q), some (nV at_), some (nV (at_ + 1 + numsOf c)), none, none]) (v0 0 rfl) (eo_some (ev_op (v0 1 rfl) (e_n (a := 1) rfl) r_add)) (eo_some (v0 2 rfl)) hq1
    rw [hsl] at hel
    refine q_asgL hel fun u H2 hu e2 h2 => ?_
    have e12 := e1.trans e2
    have hq2 := ex_l e12 hq
    have ec2 : Ev (tOp (rIxL K) (tVar 0) (tVar 1)) [some (.ref q), some (nV at_), some (nV (at_ + 1 + numsOf c)), some (.ref u), none] H2 (nV c) := by
      have := e_ix (K := K) (σ := [some (V.ref q), some (nV at_), some (nV (at_ + 1 + numsOf c)), some (.ref u), none]) (v0 0 rfl) hq2 (v0 1 rfl) hat
      rw [hg] at this
      exact this
    refine q_when (et_test (ev_op ec2 (e_n (a := 15) rfl) r_ne)) (fun hb H3 e3 => ?_) (fun hb H3 e3 => ?_)
    · have hne : c ≠ 15 := by simpa using hb
      rcases hcut.sh with ⟨_, hr, h⟩ | ⟨h15, _⟩
      · rw [h1] at h
        injection h with _ h
        have h := List.append_cancel_left h
        refine r_tup3 (x := .ref u) (v0 3 rfl) (p_new (el_lst ea_nil (by show 0 ≤ 100000; decide))) (fun H4 e4 => v0 2 rfl) (fun y H4 H5 e4 h => h.mono e4) fun t y H4 e4 ⟨r, ey, hr4⟩ h4 => ?_
        subst ey
        refine k t u r (at_ + 1 + numsOf c) H4 (e12.trans (e3.trans e4)) (by rw [← hcut.hl, hd2, h]) (by rw [← hcut.hl]; exact hlen) (by omega) h4 (e4 _ _ (e3 _ _ h2)) fun ol z => ?_
        rw [hr] at z
        cases z
      · exact absurd h15 hne
    · have h15 : c = 15 := by simpa using hb
      rcases hcut.sh with ⟨z, _⟩ | ⟨_, ol, hr, hol, h⟩
      · exact absurd h15 z
      · rw [h1] at h
        injection h with _ h
        have h := List.append_cancel_left h
        rw [h] at hd2
        have hnum : numsOf c = l.length := hcut.hl.symm
        obtain ⟨f1, f2, f3⟩ := drop_cons hd2
        obtain ⟨f4, f5⟩ := drop_app f3
        have hlen2 : at_ + 1 + l.length + 1 + ol.length ≤ cl.length := by
          have := congrArg List.length f3
          rw [List.length_drop, List.length_append] at this
          omega
        have hq3 := ex_l e3 hq2
        refine q_asg (ev_op (v0 2 rfl) (e_n (a := 1) rfl) r_add) fun H4 e4 => ?_
        have hq4 := ex_l e4 hq3
        have ei : Ev (tOp (rIxL K) (tVar 0) (tOp (rI0 fun i j => .int (i - j)) (tVar 4) (tC (.int 1)))) [some (.ref q), some (nV at_), some (nV (at_ + 1 + numsOf c)), some (.ref u), some (nV (at_ + 1 + numsOf c + 1))] H4 (nV ol.length) := by
          have := e_ix (K := K) (σ := [some (V.ref q), some (nV at_), some (nV (at_ + 1 + numsOf c)), some (.ref u), some (nV (at_ + 1 + numsOf c + 1))]) (v0 0 rfl) hq4 (ev_op (v0 4 rfl) (e_n (a := 1) rfl) (r_sub (by omega))) (by omega : at_ + 1 + numsOf c + 1 - 1 < cl.length)
          rw [show at_ + 1 + numsOf c + 1 - 1 = at_ + 1 + l.length by omega, f2] at this
          exact this
        refine q_asg (ev_op (v0 4 rfl) ei r_add) fun H5 e5 => ?_
        have hq5 := ex_l e5 hq4
        have hsl2 : cutV (nL cl) (some ((at_ + 1 + numsOf c + 1 : Nat) : Int)) (some ((at_ + 1 + numsOf c + 1 + ol.length : Nat) : Int)) = nL ol := by
          rw [hnum, cut_nL (by omega) hlen2, show at_ + 1 + l.length + 1 + ol.length - (at_ + 1 + l.length + 1) = ol.length by omega, f5]
        have hel2 : EvL _ _ H5 _ := el_sl (K := K) (σ := [some (V.ref q), some (nV at_), some (nV (at_ + 1 + numsOf c + 1 + ol.length)), some (.ref u), some (nV (at_ + 1 + numsOf c + 1))]) (v0 0 rfl) (eo_some (v0 4 rfl)) (eo_some (v0 2 rfl)) hq5
        rw [hsl2] at hel2
        refine r_tup3 (x := .ref u) (v0 3 rfl) (p_lst1 hel2) (fun H6 e6 => v0 2 rfl) (fun y H6 H7 e6 ⟨d, o, a, b, c⟩ => ⟨d, o, a, e6 _ _ b, e6 _ _ c⟩) fun t y H6 e6 ⟨r, o, ey, g1, g2⟩ h6 => ?_
        subst ey
        have e36 := e3.trans (e4.trans (e5.trans e6))
        refine k t u r (at_ + 1 + numsOf c + 1 + ol.length) H6 (e12.trans e36) (by rw [hnum]; exact f4) (by rw [hnum]; exact hlen2) (by omega) h6 (e36 _ _ h2) fun ol2 z => ?_
        rw [hr] at z
        cases z
        exact ⟨o, g1, g2⟩

/-! ### the deed by its number -/
def deedSp (K : PySem.W.Frag) (i : Nat) : Sp := match i with
  | 0 => sp_answer_panel K
  | 1 => sp_answer_say K
  | 2 => sp_answer_unsay K
  | 3 => sp_answer_weigh K
  | 4 => sp_answer_ring K
  | 5 => sp_answer_mend K
  | 6 => sp_answer_follows K
  | 7 => sp_answer_first K
  | 8 => sp_answer_many K
  | 9 => sp_answer_chance K
  | 10 => sp_answer_place K
  | 11 => sp_answer_ask K
  | 12 => sp_answer_agree K
  | 13 => sp_answer_over K
  | 14 => sp_answer_king K
  | 15 => sp_answer_against K
  | 16 => sp_answer_best K
  | 17 => sp_answer_near K
  | 18 => sp_answer_trial K
  | 19 => sp_answer_untry K
  | 20 => sp_answer_score K
  | 21 => sp_answer_apart K
  | 22 => sp_answer_luck K
  | 23 => sp_answer_need K
  | 24 => sp_answer_sheet K
  | 25 => sp_answer_told K
  | _ => fun _ _ _ _ => False
def deedBig (K : PySem.W.Frag) (f : Addr) : Sp := fun vs H Q E => ∃ i, i < 26 ∧ deedA K i = f ∧ deedSp K i vs H Q E
def deedS (K : PySem.W.Frag) (f : Addr) : Option Sp := if ((List.range 26).any fun i => decide (deedA K i = f)) = true then some (deedBig K f) else none
structure DeedK (P : Program) (w : World) (K : PySem.W.Frag) (mg : Str → Option Value) (base : Heap) (i : Nat) : Prop where
  ex : ∃ fd o, K.lookup (deedA K i) = some o ∧ o.data = .func fd ∧ FnOk P w K mg base CX0 8 (deedA K i) fd ["panel", "numbers", "rows"] (deedSp K i) ∧ PySem.W.keepIn K (.ref (deedA K i)) = true ∧ Binds K fd ["panel", "numbers", "rows"] []
theorem deeds_held (D : ∀ i, i < 26 → DeedK P w K mg base i) : ∀ f sp, deedS K f = some sp → Held P w K mg base 8 f sp := by
  intro f sp h
  unfold deedS at h
  split at h
  · rename_i ha
    obtain ⟨i, hi, hf⟩ := List.any_eq_true.mp ha
    have hi := List.mem_range.mp hi
    have hf := of_decide_eq_true hf
    cases h
    obtain ⟨fd, o, lk, ho, F, hk, hb⟩ := (D i hi).ex
    subst hf
    refine ⟨fd, ["panel", "numbers", "rows"], ⟨?_, ?_⟩, hk, hb⟩
    · rintro vs H Q E ⟨j, hj, hf, hs⟩
      obtain ⟨_, _, _, _, F2, _, _⟩ := (D j hj).ex
      exact F2.len vs H Q E hs
    · rintro A outer s H args us vs Q E hr he hbd hv ⟨j, hj, hf, hs⟩
      obtain ⟨fd2, o2, lk2, ho2, F2, _, _⟩ := (D j hj).ex
      rw [hf] at lk2 F2
      rw [lk] at lk2
      cases lk2
      rw [ho] at ho2
      cases ho2
      exact F2.run A outer s H args us vs Q E hr he hbd hv hs
  · cases h
theorem deedS_at {i : Nat} (h : i < 26) : deedS K (deedA K i) = some (deedBig K (deedA K i)) := if_pos (List.any_eq_true.mpr ⟨i, List.mem_range.mpr h, decide_eq_true rfl⟩)
theorem RetM.mono {p : Addr} {k : SK} {s : MS} {ans : List Int} {H H2 : Hp} {Q : VK} (g : RetM K p k s ans H Q) (e : Ex H H2) : RetM K p k s ans H2 Q := fun v H' k' hP fr fp nv hv =>
  g v H' k' hP (fun b o hb nf => fr b o (e _ _ hb) nf) (fun b z => (fp b z).imp id fun y => fresh_back e y) (fun b o hb nf => nv b o (e _ _ hb) nf) hv
theorem len_two {l : List Nat} (h : l.length = 2) : ∃ a b, l = [a, b] := by
  match l, h with
  | [a, b], _ => exact ⟨a, b, rfl⟩
theorem len_three {l : List Nat} (h : l.length = 3) : ∃ a b c, l = [a, b, c] := by
  match l, h with
  | [a, b, c], _ => exact ⟨a, b, c, rfl⟩
/-- four numbers -/
theorem len_four {l : List Nat} (h : l.length = 4) : ∃ a b c d, l = [a, b, c, d] := by
  match l, h with
  | [a, b, c, d], _ => exact ⟨a, b, c, d, rfl⟩
theorem deed_go {H : Hp} {p u r : Addr} {c : Nat} {l : List Nat} {rows : List (List Nat)} {s : MS} {k : SK} {Q : VK} {E : XK} (hP : PanelAt K H p s k) (R : Ready s) (hc : c < 26) (hl : l.length = numsOf c) (hu : H u = some (.lst (nL l)))
    (hr : c = 15 → ∃ ol, rows = [ol] ∧ ol.length ≤ 50) (hw : IsRw rows r H) (g : RetM K p k (act s c l rows).1 (act s c l rows).2 H Q) : deedSp K c [.ref p, .ref u, .ref r] H Q E := by
  match c, hc with
  | 0, _ =>
    obtain ⟨a, b, rfl⟩ := len_two hl
    exact ⟨p, u, .ref r, a, b, s, k, rfl, hP, R, hu, g⟩
  | 1, _ =>
    obtain ⟨a, b, d, rfl⟩ := len_three hl
    exact ⟨p, u, .ref r, a, b, d, s, k, rfl, hP, R, hu, g⟩
  | 2, _ =>
    obtain ⟨a, b, d, rfl⟩ := len_three hl
    exact ⟨p, u, .ref r, a, b, d, s, k, rfl, hP, R, hu, g⟩
  | 3, _ =>
    obtain ⟨a, b, rfl⟩ := len_two hl
    exact ⟨p, u, .ref r, a, b, s, k, rfl, hP, R, hu, g⟩
  | 4, _ =>
    obtain ⟨a, rfl⟩ := List.length_eq_one_iff.mp hl
    exact ⟨p, u, .ref r, a, s, k, rfl, hP, R, hu, g.q hP⟩
  | 5, _ =>
    obtain ⟨a, rfl⟩ := List.length_eq_one_iff.mp hl
    exact ⟨p, u, .ref r, a, s, k, rfl, hP, R, hu, g.q hP⟩
  | 6, _ =>
    obtain ⟨a, b, d, rfl⟩ := len_three hl
    exact ⟨p, u, .ref r, a, b, d, s, k, rfl, hP, R, hu, g.q hP⟩
  | 7, _ =>
    obtain ⟨a, rfl⟩ := List.length_eq_one_iff.mp hl
    exact ⟨p, u, .ref r, a, s, k, rfl, hP, R, hu, g.q hP⟩
  | 8, _ =>
    obtain ⟨a, rfl⟩ := List.length_eq_one_iff.mp hl
    exact ⟨p, u, .ref r, a, s, k, rfl, hP, R, hu, g.q hP⟩
  | 9, _ =>
    obtain ⟨a, b, d, rfl⟩ := len_three hl
    exact ⟨p, u, .ref r, a, b, d, s, k, rfl, hP, R, hu, g.q hP⟩
  | 10, _ =>
    obtain ⟨a, b, rfl⟩ := len_two hl
    exact ⟨p, u, .ref r, a, b, s, k, rfl, hP, R, hu, g.q hP⟩
  | 11, _ =>
    obtain ⟨a, rfl⟩ := List.length_eq_one_iff.mp hl
    exact ⟨p, u, .ref r, a, s, k, rfl, hP, R, hu, g.q hP⟩
  | 12, _ =>
    obtain ⟨a, b, rfl⟩ := len_two hl
    exact ⟨p, u, .ref r, a, b, s, k, rfl, hP, R, hu, g.q hP⟩
  | 13, _ =>
    obtain ⟨a, b, rfl⟩ := len_two hl
    exact ⟨p, u, .ref r, a, b, s, k, rfl, hP, R, hu, g.q hP⟩
  | 14, _ => exact ⟨p, .ref u, .ref r, s, k, rfl, hP, R, g.q hP⟩
  | 15, _ =>
    obtain ⟨ol, rfl, hol⟩ := hr rfl
    obtain ⟨o, h1, h2⟩ := hw ol rfl
    exact ⟨p, r, o, .ref u, ol, s, k, rfl, hP, R, h1, h2, hol, g.q hP⟩
  | 16, _ => exact ⟨p, .ref u, .ref r, s, k, rfl, hP, R, g.q hP⟩
  | 17, _ =>
    obtain ⟨a, rfl⟩ := List.length_eq_one_iff.mp hl
    exact ⟨p, u, .ref r, a, s, k, rfl, hP, R, hu, g.q hP⟩
  | 18, _ =>
    obtain ⟨a, b, d, f, rfl⟩ := len_four hl
    exact ⟨p, u, .ref r, a, b, d, f, s, k, rfl, hP, R, hu, g⟩
  | 19, _ => exact ⟨p, .ref u, .ref r, s, k, rfl, hP, R, g⟩
  | 20, _ =>
    obtain ⟨a, rfl⟩ := List.length_eq_one_iff.mp hl
    exact ⟨p, u, .ref r, a, s, k, rfl, hP, R, hu, g.q hP⟩
  | 21, _ =>
    obtain ⟨a, b, rfl⟩ := len_two hl
    exact ⟨p, u, .ref r, a, b, s, k, rfl, hP, R, hu, g.q hP⟩
  | 22, _ =>
    obtain ⟨a, b, rfl⟩ := len_two hl
    exact ⟨p, u, .ref r, a, b, s, k, rfl, hP, R, hu, g.q hP⟩
  | 23, _ =>
    obtain ⟨a, b, rfl⟩ := len_two hl
    exact ⟨p, u, .ref r, a, b, s, k, rfl, hP, R, hu, g.q hP⟩
  | 24, _ =>
    obtain ⟨a, rfl⟩ := List.length_eq_one_iff.mp hl
    exact ⟨p, u, .ref r, a, s, k, rfl, hP, R, hu, g.q hP⟩
  | 25, _ => exact ⟨p, .ref u, .ref r, s, k, rfl, hP, R, g.q hP⟩
  | n + 26, h => exact absurd h (by omega)
theorem sc_answer_call : FnScope ["panel", "call", "numbers", "rows", "deed"] ["panel", "call", "numbers", "rows"] (defScope s_answer_call) := ⟨rfl, rfl, rfl, by decide +kernel, rfl, by decide +kernel, by decide +kernel⟩
def sp_answer_call (K : PySem.W.Frag) : Sp := fun vs H Q _ => ∃ (p u r : Addr) (c : Nat) (l : List Nat) (rows : List (List Nat)) (s : MS) (k : SK), vs = [.ref p, nV c, .ref u, .ref r] ∧ PanelAt K H p s k ∧ Ready s ∧ c < 26 ∧ l.length = numsOf c ∧ H u = some (.lst (nL l)) ∧
  (c = 15 → ∃ ol, rows = [ol] ∧ ol.length ≤ 50) ∧ IsRw rows r H ∧ RetM K p k (act s c l rows).1 (act s c l rows).2 H Q
theorem s_retA {σ : L2.St} {H : Hp} {D : Ends} {i : Nat} {S : Addr → Option Sp} {t : TA} {f : Addr} {sp : Sp} {vs : List V} (h : σ[i]? = some (some (.ref f))) (hs : S f = some sp) (hA : EvA t σ H vs) (k : ∀ H1, Ex H H1 → sp vs H1 D.rt fun _ _ _ => False) : tRet (tCallA i S t) D σ H :=
  ⟨f, sp, h, hs, hA H (Ex.refl H) _ k⟩
theorem ok_answer_call {f : Addr} {fd : FuncData} (F : Fun K "answer_call" "answer_call" s_answer_call f fd) (T : Txt K mg)  (HA : ∀ f sp, deedS K f = some sp → Held P w K mg base 8 f sp) : FnOk P w K mg base CX0 9 f fd ["panel", "call", "numbers", "rows"] (sp_answer_call K) := by
  refine F.ok sc_answer_call (fun vs H Q E h => ?_) (fun cdv A outer s H vs Q E hr h => ⟨_, (pss_cons (ps_set (i := 4) sc_answer_call.nd rfl (Or.inl rfl) (pe_ix (ix_kint T.t_DEEDS) (pe_glob (v := .ref (He.ga K "DEEDS")) rfl T.g_DEEDS rfl) (pv 1) (fun _ _ => rfl)))
        (pss_one (ps_ret (pe_callA (i := 4) HA hr rfl (Or.inl rfl) (pa_cons (pv 0) (pa_cons (pv 2) (pa_cons (pv 3) pa_nil))))))), ?_⟩)
  · obtain ⟨_, _, _, _, _, _, _, _, rfl, _⟩ := h
    rfl
  · obtain ⟨p, u, r, c, l, rows, s, k, rfl, hP, R, hc, hl, hu, hr, hw, g⟩ := h
    refine q_asg (e_ixK (v0 1 rfl) (by rw [List.getElem?_map, List.getElem?_range hc]; rfl)) fun H1 e1 => ?_
    refine s_retA (i := 4) rfl (deedS_at hc) (ea_cons (v0 0 rfl) (ea_cons (v0 2 rfl) (ea_cons (v0 3 rfl) ea_nil))) fun H2 e2 => ⟨c, hc, rfl, ?_⟩
    have e := e1.trans e2
    exact deed_go (hP.mono e) R hc hl (e _ _ hu) hr (fun ol z => let ⟨o, a, b⟩ := hw ol z; ⟨o, e _ _ a, e _ _ b⟩) (g.mono e)
end
end Np
set_option Elab.async false
set_option linter.all false
set_option maxRecDepth 100000
set_option maxHeartbeats 4000000
namespace Np
open PySem PySem.Spec PyProof.Rows L2 Evl
abbrev Call := Nat × List Nat × List (List Nat)
/-- a list as calls -/
def Parse : List Nat → List Call → Prop
  | m, [] => m = []
  | m, x :: cs => ∃ m', Cut m x.1 x.2.1 x.2.2 m' ∧ Parse m' cs
def playM : MS → List Call → List (List Int)
  | _, [] => []
  | s, x :: cs => (act s x.1 x.2.1 x.2.2).2 :: playM (act s x.1 x.2.1 x.2.2).1 cs
def toldM (l : List (List Int)) : List Int := l.flatMap fun a => (a.length : Int) :: a
def ReadyA : MS → List Call → Prop
  | _, [] => True
  | s, x :: cs => Ready s ∧ ReadyA (act s x.1 x.2.1 x.2.2).1 cs
theorem PanelAt.tracked {K : PySem.W.Frag} {H : Hp} {p : Addr} {s : MS} {k : SK} (h : PanelAt K H p s k) {b : Addr} (hb : k.fp p b) : ∃ o, H b = some o := by
  rcases hb with z | z | z | ⟨q, hq, z⟩ | z
  · obtain ⟨dx, o⟩ := h.ob
    rw [z]
    exact ⟨_, o⟩
  · rw [z]
    exact ⟨_, h.hn⟩
  · rw [z]
    exact ⟨_, h.ht⟩
  · obtain ⟨i, hi⟩ := List.getElem?_of_mem hq
    have hlt : i < s.noses.length := by
      rw [← h.ln]
      exact (List.getElem?_eq_some_iff.mp hi).1
    refine (h.nose i q _ hi (List.getElem?_eq_getElem hlt)).tracked ?_
    rcases z with z | z | z
    · rw [z]
      exact List.mem_cons_self
    · rw [z]
      exact List.mem_cons_of_mem _ List.mem_cons_self
    · exact List.mem_cons_of_mem _ (List.mem_cons_of_mem _ z)
  · obtain ⟨i, hi⟩ := List.getElem?_of_mem z
    have hlt : i < s.trials.length := by
      rw [← h.lt]
      exact (List.getElem?_eq_some_iff.mp hi).1
    exact ⟨_, h.trial i b _ hi (List.getElem?_eq_getElem hlt)⟩
theorem PanelAt.frame {K : PySem.W.Frag} {H H' : Hp} {p : Addr} {s : MS} {k : SK} (h : PanelAt K H p s k) (e : ∀ b o, k.fp p b → H b = some o → H' b = some o) : PanelAt K H' p s k :=
  ⟨let ⟨dx, a⟩ := h.ob; ⟨dx, e _ _ (.inl rfl) a⟩, e _ _ (.inr (.inl rfl)) h.hn, h.ln, fun i q x a b => by
    have N := h.nose i q x a b
    have m := List.mem_of_getElem? a
    exact ⟨let ⟨dx, o⟩ := N.ob; ⟨dx, e _ _ (.inr (.inr (.inr (.inl ⟨q, m, .inl rfl⟩)))) o⟩, e _ _ (.inr (.inr (.inr (.inl ⟨q, m, .inr (.inl rfl)⟩)))) N.li, N.len, fun j r hr => e _ _ (.inr (.inr (.inr (.inl ⟨q, m, .inr (.inr (List.mem_of_getElem? hr))⟩)))) (N.rw_ j r hr), N.out⟩,
   e _ _ (.inr (.inr (.inl rfl))) h.ht, h.lt, fun i a t x y => e _ _ (.inr (.inr (.inr (.inr (List.mem_of_getElem? x))))) (h.trial i a t x y), h.dis, h.own, h.lls⟩
section
variable {P : Program} {w : World} {K : PySem.W.Frag} {mg : Str → Option Value} {base : Heap}
section
variable {σ : L2.St} {H : Hp} {t : TA} {D : Ends} {tz : TS} {i : Nat} {sp : Sp} {E : XK} {vs : List V} {C : Addr}
theorem q_asgN (hA : EvA t σ H vs) (hs : ∀ H1, Ex H H1 → sp (vs ++ []) H1 (fun v H2 => tz D (σ.set i (some v)) H2) E) : tSeq (tAsg (tCall sp [] E t) (gName i)) tz D σ H := hA H (Ex.refl H) _ hs
theorem q_mk0 (hs : ∀ x dx, H x = none → H dx = none → dx ≠ x → sp [.ref x] (upd (upd H dx (.own x)) x (.ins C dx [])) (fun v H2 => v = .non ∧ tz D (σ.set i (some (.ref x))) H2) E) : tSeq (tAsg (tMake C sp [] E tNil) (gName i)) tz D σ H := hs
end
theorem sc_answers : FnScope ["calls", "panel", "given_back", "at", "numbers", "rows", "behind", "answer"] ["calls"] (defScope s_answers) := ⟨rfl, rfl, rfl, by decide +kernel, rfl, by decide +kernel, by decide +kernel⟩
def sp_answers (K : PySem.W.Frag) : Sp := fun vs H Q _ => ∃ (q : Addr) (cl : List Nat) (cs : List Call), vs = [.ref q] ∧ SqL K H q (nL cl) ∧ cl.length ≤ 40000 ∧ Parse cl cs ∧ ReadyA start cs ∧ (toldM (playM start cs)).length ≤ 10000000 ∧
  ∀ g H', Ex H H' → H' g = some (.lst (iL (toldM (playM start cs)))) → Q (.ref g) H'
theorem ok_answers {f : Addr} {fd : FuncData} (F : Fun K "answers" "answers" s_answers f fd) (T : Txt K mg) (D_Panel_init : MakeK P w K mg base (CPanel K) 1 ["self"] (sp_Panel_init K)) (D_read_call : DefK P w K mg base "read_call" 1 ["calls", "at"] (sp_read_call K)) (D_answer_call : DefK P w K mg base "answer_call" 9 ["panel", "call", "numbers", "rows"] (sp_answer_call K))  : FnOk P w K mg base CX0 10 f fd ["calls"] (sp_answers K) := by
  refine F.ok sc_answers (fun vs H Q E h => ?_) (fun cdv A outer s H vs Q E hr h => ⟨_, (pss_cons (ps_set (i := 1) sc_answers.nd rfl (Or.inl rfl) (pe_mk0 D_Panel_init hr T.g_Panel))
        (pss_cons (ps_set (i := 2) sc_answers.nd rfl (Or.inl rfl) (pe_lst pa_nil))
        (pss_cons (ps_set (i := 3) sc_answers.nd rfl (Or.inl rfl) pe_int)
        (pss_cons (ps_while PassesOwn.never (pt_cmpR op_lt (pv 3) (pe_callB call_len_seq (by rfl) T.len (by decide +kernel) (pa_cons (pv 0) pa_nil)) (nomark _)) (pss_cons (ps_asg (pe_def D_read_call hr (pa_cons (pv 0) (pa_cons (pv 3) pa_nil))) (pg_tup rfl (pgs_cons (pg_name (i := 4) sc_answers.nd rfl (Or.inl rfl)) (pgs_cons (pg_name (i := 5) sc_answers.nd rfl (Or.inl rfl)) (pgs_cons (pg_name (i := 6) sc_answers.nd rfl (Or.inl rfl)) pgs_nil)))))
        (pss_cons (ps_set (i := 7) sc_answers.nd rfl (Or.inl rfl) (pe_def D_answer_call hr (pa_cons (pv 1) (pa_cons (pe_ix ix_list (pv 0) (pv 3) (fun _ _ => rfl)) (pa_cons (pv 4) (pa_cons (pv 5) pa_nil))))))
        (pss_cons (ps_expr (pe_bm PySem.F.plainAttrs_list PySem.F.slot_list_append PySem.F.type_list_append mt_append (pv 2) (pa_cons (pe_callB call_len_seq (by rfl) T.len (by decide +kernel) (pa_cons (pv 7) pa_nil)) pa_nil)))
        (pss_cons (ps_expr (pe_bm PySem.F.plainAttrs_list PySem.F.slot_list_extend PySem.F.type_list_extend mt_extend (pv 2) (pa_cons (pv 7) pa_nil)))
        (pss_one (ps_set (i := 3) sc_answers.nd rfl (Or.inl rfl) (pv 6))))))))
        (pss_one (ps_ret (pv 2))))))), ?_⟩)
  · obtain ⟨_, _, _, rfl, _⟩ := h
    rfl
  · obtain ⟨q, cl, cs, rfl, hq, hcl, hpar, hra, hz, k0⟩ := h
    refine q_mk0 fun p dx hpn hdn hne => ⟨p, dx, rfl, upd_same, fun ks Hp hP fr fp => ⟨rfl, ?_⟩⟩
    have e0 : Ex H Hp := fun b o hb => fr b o (by rw [upd_ne (ne_of_none hb hpn), upd_ne (ne_of_none hb hdn)]; exact hb) (ne_of_none hb hpn)
    have fp0 : ∀ b, ks.fp p b → H b = none := fun b hb => by
      by_cases hbp : b = p
      · rw [hbp]
        exact hpn
      · rcases fp b hb with z | z
        · exact absurd z hbp
        · rw [upd_ne hbp] at z
          by_cases hbd : b = dx
          · rw [hbd]
            exact hdn
          · rw [upd_ne hbd] at z
            exact z
    refine q_nil fun g H1 hg e1 h1 => ?_
    refine q_asg (e_n (a := 0) rfl) fun H2 e2 => ?_
    have hgH : H g = none := fresh_back e0 hg
    have hgf : ¬ ks.fp p g := fun z => by
      obtain ⟨o, ho⟩ := hP.tracked z
      rw [hg] at ho
      cases ho
    refine q_while (fun m σ' H' => ∃ (at_ : Nat) (cs1 : List Call) (s : MS) (ks : SK) (out : List Int) (v4 v5 v6 v7 : Option V), m = cl.length - at_ ∧ σ' = [some (.ref q), some (.ref p), some (.ref g), some (nV at_), v4, v5, v6, v7] ∧ at_ ≤ cl.length ∧ Parse (cl.drop at_) cs1 ∧ ReadyA s cs1 ∧ PanelAt K H' p s ks ∧ Ex H H' ∧
      (∀ b, ks.fp p b → H b = none) ∧ ¬ ks.fp p g ∧ H' g = some (.lst (iL out)) ∧ out ++ toldM (playM s cs1) = toldM (playM start cs)) (cl.length - 0)
      ⟨0, cs, start, ks, [], none, none, none, none, rfl, rfl, Nat.zero_le _, hpar, hra, (hP.mono e1).mono e2, e0.trans (e1.trans e2), fp0, hgf, e2 _ _ h1, rfl⟩ ?_
    rintro m σ' H' ⟨at_, cs1, s, ks, out, v4, v5, v6, v7, rfl, rfl, hle, hpar, hra, hP, eH, fpH, hgf, hout, htot⟩
    have hq' := ex_l eH hq
    refine ⟨_, et_test (ev_op (v0 3 rfl) (e_lenL (v0 0 rfl) hq') r_lt), fun hb H3 e3 => ⟨fun σ2 H2 => ∃ m', m' < cl.length - at_ ∧ _, fun _ _ z => z, ?_⟩, fun hb H3 e3 => ?_⟩
    · have hlt := of_decide_eq_true hb
      cases cs1 with
      | nil =>
        have hz := congrArg List.length (show cl.drop at_ = [] from hpar)
        rw [List.length_drop, List.length_nil] at hz
        omega
      | cons x cs' =>
        obtain ⟨m', hcut, hpar'⟩ := hpar
        obtain ⟨R, hra'⟩ := hra
        refine q_asgC (ea_cons (v0 0 rfl) (ea_cons (v0 3 rfl) ea_nil)) fun H4 e4 => ⟨q, at_, cl, x.1, x.2.1, x.2.2, m', rfl, ex_l (e3.trans e4) hq', hcl, hcut, fun t u r e H5 e5 hd hle2 hlt2 ht hu hw => ?_⟩
        refine ⟨t, _, rfl, SqT.of ht, rfl, _, _, rfl, _, _, rfl, _, _, rfl, rfl, ?_⟩
        have e35 := e3.trans (e4.trans e5)
        have hq5 := ex_l e35 hq'
        obtain ⟨n1, hn1⟩ : ∃ n1, cl.drop at_ = x.1 :: n1 := by
          rcases hcut.sh with ⟨_, _, h⟩ | ⟨_, ol, _, _, h⟩
          · exact ⟨_, h⟩
          · exact ⟨_, h⟩
        have hgx := (drop_cons hn1).2.1
        have ec : Ev (tOp (rIxL K) (tVar 0) (tVar 3)) [some (.ref q), some (.ref p), some (.ref g), some (nV at_), some (.ref u), some (.ref r), some (nV e), v7] H5 (nV x.1) := by
          have := e_ix (K := K) (σ := [some (V.ref q), some (.ref p), some (.ref g), some (nV at_), some (.ref u), some (.ref r), some (nV e), v7]) (v0 0 rfl) hq5 (v0 3 rfl) hlt
          rw [hgx] at this
          exact this
        refine q_asgN (ea_cons (v0 1 rfl) (ea_cons ec (ea_cons (v0 4 rfl) (ea_cons (v0 5 rfl) ea_nil)))) fun H6 e6 => ?_
        have e36 := e35.trans e6
        have eH6 := eH.trans e36
        have hg6 := e36 _ _ hout
        refine ⟨p, u, r, x.1, x.2.1, x.2.2, s, ks, rfl, hP.mono e36, R, hcut.hc, hcut.hl, e6 _ _ hu, fun z => ?_, fun ol z => let ⟨o, a, b⟩ := hw ol z; ⟨o, e6 _ _ a, e6 _ _ b⟩, fun v H7 k' hP7 fr7 fp7 nv hv => ?_⟩
        · rcases hcut.sh with ⟨h, _⟩ | ⟨_, ol, h1, h2, _⟩
          · exact absurd z h
          · exact ⟨ol, h1, h2⟩
        obtain ⟨d, rfl, hd7⟩ := hv
        have hdg : d ≠ g := fun z => nv g _ hg6 hgf (by rw [z])
        have hg7 := fr7 _ _ hg6 hgf
        have hlen : out.length + (1 + (act s x.1 x.2.1 x.2.2).2.length) ≤ 10000000 := by
          have h1 := congrArg List.length htot
          rw [List.length_append] at h1
          have h2 : (toldM (playM s (x :: cs'))).length = 1 + (act s x.1 x.2.1 x.2.2).2.length + (toldM (playM (act s x.1 x.2.1 x.2.2).1 cs')).length := by
            show (((_ : List Int).length : Int) :: _ ++ toldM _).length = _
            rw [List.length_append, List.length_cons]
            omega
          omega
        refine q_appV (xs := iL out) hg7 (v0 2 rfl) (e_len (m := (act s x.1 x.2.1 x.2.2).2.length) (v0 7 rfl) (SqL.of hd7) (List.length_map ..)) (by unfold iL; rw [List.length_map, sizeLine_is]; omega) fun H8 e8 => ?_
        refine q_extV upd_same (by rw [upd_ne hdg]; exact e8 _ _ hd7) (v0 2 rfl) (v0 7 rfl) (by unfold iL; rw [List.length_append, List.length_map, List.length_map, sizeLine_is]; show out.length + 1 + _ ≤ _; omega) fun H9 e9 => ?_
        refine s_asg (v0 6 rfl) fun H10 e10 => ?_
        have off : ∀ b o, b ≠ g → H7 b = some o → H10 b = some o := fun b o hbg hb => e10 _ _ (by
          rw [upd_ne hbg]
          refine e9 _ _ ?_
          rw [upd_ne hbg]
          exact e8 _ _ hb)
        have hgf' : ¬ k'.fp p g := fun z => by
          rcases fp7 g z with z | z
          · exact hgf z
          · rw [hg6] at z
            cases z
        refine ⟨cl.length - e, by omega, e, cs', (act s x.1 x.2.1 x.2.2).1, k', out ++ ((act s x.1 x.2.1 x.2.2).2.length : Int) :: (act s x.1 x.2.1 x.2.2).2, _, _, _, _, rfl, rfl, hle2, by rw [hd]; exact hpar', hra', ?_, ?_, ?_, hgf', ?_, ?_⟩
        · exact hP7.frame fun b o hf hb => off b o (fun z => hgf' (by rw [← z]; exact hf)) hb
        · refine fun b o hb => off b o (fun z => by rw [z, hgH] at hb; cases hb) (fr7 b o (eH6 _ _ hb) fun z => ?_)
          rw [fpH b z] at hb
          cases hb
        · intro b z
          rcases fp7 b z with z | z
          · exact fpH b z
          · exact fresh_back eH6 z
        · refine e10 _ _ ?_
          rw [upd_same]
          unfold iL
          rw [List.append_assoc, List.map_append]
          rfl
        · rw [List.append_assoc]
          exact htot
    · have hge := of_decide_eq_false hb
      have hnil : cl.drop at_ = [] := List.drop_eq_nil_of_le (by omega)
      cases cs1 with
      | nil =>
        rw [show playM s [] = [] from rfl, show toldM [] = [] from rfl, List.append_nil] at htot
        refine s_ret (v0 2 rfl) fun H4 e4 => k0 g H4 (eH.trans (e3.trans e4)) ?_
        rw [← htot]
        exact e4 _ _ (e3 _ _ hout)
      | cons x cs' =>
        obtain ⟨m', hcut, _⟩ := hpar
        rw [hnil] at hcut
        rcases hcut.sh with ⟨_, _, h⟩ | ⟨_, ol, _, _, h⟩
        · cases h
        · cases h
end
end Np
set_option Elab.async false
set_option linter.all false
set_option maxRecDepth 100000
set_option maxHeartbeats 4000000
namespace Np
open PySem PySem.Spec PyProof.Rows L2
/-! ### what the top has left -/
structure AllF (K : PySem.W.Frag) (mg : Str → Option Value) : Prop where
  h : ∃ h : Heap, K.In h ∧ h.Ns mainGlobals mg
  c : He.SaysD fa fn K
  ex : ex K = true
theorem fun_of {K : PySem.W.Frag} {x qual : Str} {st : Stmt} {f : Addr} {fd : FuncData} {kws : List (Str × V)} (F : FunD K x qual (defArgs st) (defBody st) (defScope st) [] kws f fd) : Fun K x qual st f fd := He5.fun_of F
theorem ent_of {K : PySem.W.Frag} : ∀ (es : List DictEntry) (k : Nat) (dvs : List He.Dv), entB K es k dvs = true → es.length = dvs.length ∧ ∀ (i : Nat) (e : DictEntry) (v : V), es[i]? = some e → (dvs.map (He.Dv.v K))[i]? = some v → (∃ t, e.key = .int ((k + i : Nat) : Int) t) ∧ e.hash = hashInt ((k + i : Nat) : Int) ∧ RelV v e.val
  | [], _, [], _ => ⟨rfl, fun i e v h => by simp at h⟩
  | [], _, _ :: _, h => by cases h
  | _ :: _, _, [], h => by simp [entB] at h
  | e :: r, k, d :: ds, h => by
    have h2 : ((match e.key with
      | .int j _ => decide (j = (k : Int)) && decide (e.hash = hashInt (k : Int))
      | _ => false) && (He.relB (d.v K) e.val && entB K r (k + 1) ds)) = true := h
    obtain ⟨a, b⟩ := Bool.and_eq_true_iff.mp h2
    obtain ⟨b, c⟩ := Bool.and_eq_true_iff.mp b
    obtain ⟨l, ih⟩ := ent_of r (k + 1) ds c
    refine ⟨by rw [List.length_cons, List.length_cons, l], fun i e' v he hv => ?_⟩
    cases i with
    | zero =>
      cases he
      cases hv
      rw [Nat.add_zero]
      cases hk : e.key with
      | int j t =>
        rw [hk] at a
        obtain ⟨a1, a2⟩ := Bool.and_eq_true_iff.mp a
        have a1 := of_decide_eq_true a1
        subst a1
        exact ⟨⟨t, rfl⟩, of_decide_eq_true a2, He.relB_ok b⟩
      | _ =>
        rw [hk] at a
        cases a
    | succ i =>
      have z := ih i e' v he hv
      rw [show k + 1 + i = k + (i + 1) by omega] at z
      exact z
theorem kints_of {K : PySem.W.Frag} {a : Addr} {vs : List V} {dvs : List He.Dv} (h : intDB K a dvs = true) (e : dvs.map (He.Dv.v K) = vs) : KInts K a vs := by
  unfold intDB at h
  cases q : K.lookup a with
  | none =>
    rw [q] at h
    cases h
  | some o =>
    rw [q] at h
    obtain ⟨oc, od, dt, sl⟩ := o
    cases oc with
    | type c =>
      cases od with
      | none =>
        cases dt with
        | dict es n =>
          obtain ⟨h1, h⟩ := Bool.and_eq_true_iff.mp (show (decide (c = "dict") && (sl.isEmpty && (!(a == sysModules) && entB K es.toList 0 dvs))) = true from h)
          obtain ⟨h2, h⟩ := Bool.and_eq_true_iff.mp h
          obtain ⟨h3, h4⟩ := Bool.and_eq_true_iff.mp h
          have h1 := of_decide_eq_true h1
          subst h1
          have h2 : sl = #[] := Array.isEmpty_iff.mp h2
          subst h2
          obtain ⟨l, he⟩ := ent_of _ _ _ h4
          subst e
          refine ⟨by simpa using h3, es, n, q, by rw [List.length_map, ← l, Array.length_toList], fun i e v hi hv => ?_⟩
          have z := he i e v (by rw [Array.getElem?_toList]; exact hi) hv
          rw [Nat.zero_add] at z
          exact z
        | _ => cases h
      | some d => cases dt <;> cases h
    | _ => cases od <;> cases dt <;> cases h
section
variable {P : Program} {w : World} {K : PySem.W.Frag} {mg : Str → Option Value} {base : Heap}
theorem txt_of (A : AllF K mg) : Txt K mg := by
  obtain ⟨h, X, G⟩ := A.h
  exact ⟨He.free_ok X G (A.c.fact 118 (f := .free "range") rfl), He.free_ok X G (A.c.fact 119 (f := .free "len") rfl), He.free_ok X G (A.c.fact 120 (f := .free "sum") rfl), He.free_ok X G (A.c.fact 121 (f := .free "abs") rfl), He.free_ok X G (A.c.fact 122 (f := .free "sorted") rfl), He.free_ok X G (A.c.fact 123 (f := .free "list") rfl), He.int_ok X G (A.c.fact 100 (f := .int "NO_WAY" (-1)) rfl), He.int_ok X G (A.c.fact 101 (f := .int "LEAST_SAMPLES" (2)) rfl), He.int_ok X G (A.c.fact 102 (f := .int "MOST_SAMPLES" (8)) rfl), He.int_ok X G (A.c.fact 103 (f := .int "LEAST_NOSES" (1)) rfl), He.int_ok X G (A.c.fact 104 (f := .int "MOST_NOSES" (8)) rfl), He.int_ok X G (A.c.fact 105 (f := .int "MOST_WEIGHT" (9)) rfl), He.int_ok X G (A.c.fact 106 (f := .int "MOST_TRIALS" (36)) rfl), He.int_ok X G (A.c.fact 107 (f := .int "MOST_GUESSES" (30)) rfl), He.int_ok X G (A.c.fact 108 (f := .int "MOST_ODDS" (1000000)) rfl), He.int_ok X G (A.c.fact 109 (f := .int "ALL_WELL" (0)) rfl), He.int_ok X G (A.c.fact 110 (f := .int "OUT_OF_RANGE" (-1)) rfl), He.int_ok X G (A.c.fact 111 (f := .int "NOT_THERE" (-3)) rfl), He.int_ok X G (A.c.fact 112 (f := .int "CANNOT_BE" (-4)) rfl), He.int_ok X G (A.c.fact 113 (f := .int "FULL" (-9)) rfl), He.int_ok X G (A.c.fact 114 (f := .int "BEFORE" (1)) rfl), He.int_ok X G (A.c.fact 115 (f := .int "BEHIND" (0)) rfl), He.int_ok X G (A.c.fact 116 (f := .int "EITHER" (2)) rfl), He.int_ok X G (A.c.fact 117 (f := .int "AGAINST" (15)) rfl), He.glo_ok X G (A.c.fact 83 (f := .glo "Nose") rfl), He.glo_ok X G (A.c.fact 91 (f := .glo "Panel") rfl), He.cls_ok (A.c.fact 84 (f := .cls "Nose") rfl), He.cls_ok (A.c.fact 92 (f := .cls "Panel") rfl), He.noat_ok (A.c.fact 86 (f := .noat "Nose" "said") rfl), He.noat_ok (A.c.fact 87 (f := .noat "Nose" "weight") rfl), He.noat_ok (A.c.fact 94 (f := .noat "Panel" "samples") rfl), He.noat_ok (A.c.fact 95 (f := .noat "Panel" "noses") rfl), He.noat_ok (A.c.fact 96 (f := .noat "Panel" "trials") rfl), He.glo_ok X G (A.c.fact 124 (f := .glo "MANY_NUMBERS") rfl), kints_of (Bool.and_eq_true_iff.mp A.ex).1 rfl, He.glo_ok X G (A.c.fact 125 (f := .glo "DEEDS") rfl), kints_of (Bool.and_eq_true_iff.mp A.ex).2 rfl⟩
theorem deed_of {x : Str} {st : Stmt} {fd : FuncData} {i j : Nat} (F : Fun K x x st (deedA K i) fd) (ok : FnOk P w K mg base CX0 j (deedA K i) fd ["panel", "numbers", "rows"] (deedSp K i)) (h : j ≤ 8) (b : Binds K fd ["panel", "numbers", "rows"] []) : DeedK P w K mg base i := by
  obtain ⟨oc, od, kV, doc, pm, an, cdv, ct, osl, _, l, _⟩ := F.ex
  exact ⟨fd, _, l, rfl, ok.mono h, F.kp, b⟩

theorem k_has (A : AllF K mg) : DefK P w K mg base "has" 1 ["group", "sample"] (sp_has K) := by
  obtain ⟨h, X, G⟩ := A.h
  obtain ⟨fd, F⟩ := A.c.def_ 0 (d := d_has) rfl
  exact ⟨He.ga K "has", fd, He.glo_ok X G (A.c.fact 0 (f := .glo "has") rfl), ok_has (fun_of F) (txt_of A) , F.kp, F.bindsN fun _ _ _ _ _ _ us hl => match us, hl with | [_, _], _ => rfl⟩
theorem k_grown (A : AllF K mg) : DefK P w K mg base "grown" 1 ["group", "sample"] (sp_grown K) := by
  obtain ⟨h, X, G⟩ := A.h
  obtain ⟨fd, F⟩ := A.c.def_ 1 (d := d_grown) rfl
  exact ⟨He.ga K "grown", fd, He.glo_ok X G (A.c.fact 1 (f := .glo "grown") rfl), ok_grown (fun_of F) (txt_of A) , F.kp, F.bindsN fun _ _ _ _ _ _ us hl => match us, hl with | [_, _], _ => rfl⟩
theorem k_set_over (A : AllF K mg) : DefK P w K mg base "set_over" 2 ["said", "sample"] (sp_set_over K) := by
  obtain ⟨h, X, G⟩ := A.h
  obtain ⟨fd, F⟩ := A.c.def_ 2 (d := d_set_over) rfl
  exact ⟨He.ga K "set_over", fd, He.glo_ok X G (A.c.fact 2 (f := .glo "set_over") rfl), ok_set_over (fun_of F) (txt_of A) (k_grown A), F.kp, F.bindsN fun _ _ _ _ _ _ us hl => match us, hl with | [_, _], _ => rfl⟩
theorem k_needed_sets (A : AllF K mg) : DefK P w K mg base "needed_sets" 3 ["said"] (sp_needed_sets K) := by
  obtain ⟨h, X, G⟩ := A.h
  obtain ⟨fd, F⟩ := A.c.def_ 3 (d := d_needed_sets) rfl
  exact ⟨He.ga K "needed_sets", fd, He.glo_ok X G (A.c.fact 3 (f := .glo "needed_sets") rfl), ok_needed_sets (fun_of F) (txt_of A) (k_set_over A), F.kp, F.bindsN fun _ _ _ _ _ _ us hl => match us, hl with | [_], _ => rfl⟩
theorem k_nothing_needed (A : AllF K mg) : DefK P w K mg base "nothing_needed" 1 ["samples"] (sp_nothing_needed K) := by
  obtain ⟨h, X, G⟩ := A.h
  obtain ⟨fd, F⟩ := A.c.def_ 4 (d := d_nothing_needed) rfl
  exact ⟨He.ga K "nothing_needed", fd, He.glo_ok X G (A.c.fact 4 (f := .glo "nothing_needed") rfl), ok_nothing_needed (fun_of F) (txt_of A) , F.kp, F.bindsN fun _ _ _ _ _ _ us hl => match us, hl with | [_], _ => rfl⟩
theorem k_may_follow (A : AllF K mg) : DefK P w K mg base "may_follow" 2 ["needed", "have", "sample"] (sp_may_follow K) := by
  obtain ⟨h, X, G⟩ := A.h
  obtain ⟨fd, F⟩ := A.c.def_ 5 (d := d_may_follow) rfl
  exact ⟨He.ga K "may_follow", fd, He.glo_ok X G (A.c.fact 5 (f := .glo "may_follow") rfl), ok_may_follow (fun_of F) (txt_of A) (k_has A), F.kp, F.bindsN fun _ _ _ _ _ _ us hl => match us, hl with | [_, _, _], _ => rfl⟩
theorem k_longer_rows (A : AllF K mg) : DefK P w K mg base "longer_rows" 1 ["said", "rows"] (sp_longer_rows K) := by
  obtain ⟨h, X, G⟩ := A.h
  obtain ⟨fd, F⟩ := A.c.def_ 6 (d := d_longer_rows) rfl
  exact ⟨He.ga K "longer_rows", fd, He.glo_ok X G (A.c.fact 6 (f := .glo "longer_rows") rfl), ok_longer_rows (fun_of F) (txt_of A) , F.kp, F.bindsN fun _ _ _ _ _ _ us hl => match us, hl with | [_, _], _ => rfl⟩
theorem k_shortest_ring (A : AllF K mg) : DefK P w K mg base "shortest_ring" 2 ["said"] (sp_shortest_ring K) := by
  obtain ⟨h, X, G⟩ := A.h
  obtain ⟨fd, F⟩ := A.c.def_ 7 (d := d_shortest_ring) rfl
  exact ⟨He.ga K "shortest_ring", fd, He.glo_ok X G (A.c.fact 7 (f := .glo "shortest_ring") rfl), ok_shortest_ring (fun_of F) (txt_of A) (k_longer_rows A), F.kp, F.bindsN fun _ _ _ _ _ _ us hl => match us, hl with | [_], _ => rfl⟩
theorem k_is_sound (A : AllF K mg) : DefK P w K mg base "is_sound" 3 ["said"] (sp_is_sound K) := by
  obtain ⟨h, X, G⟩ := A.h
  obtain ⟨fd, F⟩ := A.c.def_ 8 (d := d_is_sound) rfl
  exact ⟨He.ga K "is_sound", fd, He.glo_ok X G (A.c.fact 8 (f := .glo "is_sound") rfl), ok_is_sound (fun_of F) (txt_of A) (k_shortest_ring A), F.kp, F.bindsN fun _ _ _ _ _ _ us hl => match us, hl with | [_], _ => rfl⟩
theorem k_first_free (A : AllF K mg) : DefK P w K mg base "first_free" 3 ["needed", "have"] (sp_first_free K) := by
  obtain ⟨h, X, G⟩ := A.h
  obtain ⟨fd, F⟩ := A.c.def_ 9 (d := d_first_free) rfl
  exact ⟨He.ga K "first_free", fd, He.glo_ok X G (A.c.fact 9 (f := .glo "first_free") rfl), ok_first_free (fun_of F) (txt_of A) (k_may_follow A), F.kp, F.bindsN fun _ _ _ _ _ _ us hl => match us, hl with | [_, _], _ => rfl⟩
theorem k_first_order (A : AllF K mg) : DefK P w K mg base "first_order" 4 ["needed"] (sp_first_order K) := by
  obtain ⟨h, X, G⟩ := A.h
  obtain ⟨fd, F⟩ := A.c.def_ 10 (d := d_first_order) rfl
  exact ⟨He.ga K "first_order", fd, He.glo_ok X G (A.c.fact 10 (f := .glo "first_order") rfl), ok_first_order (fun_of F) (txt_of A) (k_first_free A) (k_grown A), F.kp, F.bindsN fun _ _ _ _ _ _ us hl => match us, hl with | [_], _ => rfl⟩
theorem k_count_orders (A : AllF K mg) : DefK P w K mg base "count_orders" 3 ["needed"] (sp_count_orders K) := by
  obtain ⟨h, X, G⟩ := A.h
  obtain ⟨fd, F⟩ := A.c.def_ 11 (d := d_count_orders) rfl
  exact ⟨He.ga K "count_orders", fd, He.glo_ok X G (A.c.fact 11 (f := .glo "count_orders") rfl), ok_count_orders (fun_of F) (txt_of A) (k_may_follow A) (k_grown A), F.kp, F.bindsN fun _ _ _ _ _ _ us hl => match us, hl with | [_], _ => rfl⟩
theorem k_count_before (A : AllF K mg) : DefK P w K mg base "count_before" 4 ["needed", "a", "b"] (sp_count_before K) := by
  obtain ⟨h, X, G⟩ := A.h
  obtain ⟨fd, F⟩ := A.c.def_ 12 (d := d_count_before) rfl
  exact ⟨He.ga K "count_before", fd, He.glo_ok X G (A.c.fact 12 (f := .glo "count_before") rfl), ok_count_before (fun_of F) (txt_of A) (k_grown A) (k_count_orders A), F.kp, F.bindsN fun _ _ _ _ _ _ us hl => match us, hl with | [_, _, _], _ => rfl⟩
theorem k_said_against (A : AllF K mg) : DefK P w K mg base "said_against" 1 ["table", "order"] (sp_said_against K) := by
  obtain ⟨h, X, G⟩ := A.h
  obtain ⟨fd, F⟩ := A.c.def_ 13 (d := d_said_against) rfl
  exact ⟨He.ga K "said_against", fd, He.glo_ok X G (A.c.fact 13 (f := .glo "said_against") rfl), ok_said_against (fun_of F) (txt_of A) , F.kp, F.bindsN fun _ _ _ _ _ _ us hl => match us, hl with | [_, _], _ => rfl⟩
theorem k_cost_of_next (A : AllF K mg) : DefK P w K mg base "cost_of_next" 2 ["table", "have", "sample"] (sp_cost_of_next K) := by
  obtain ⟨h, X, G⟩ := A.h
  obtain ⟨fd, F⟩ := A.c.def_ 14 (d := d_cost_of_next) rfl
  exact ⟨He.ga K "cost_of_next", fd, He.glo_ok X G (A.c.fact 14 (f := .glo "cost_of_next") rfl), ok_cost_of_next (fun_of F) (txt_of A) (k_has A), F.kp, F.bindsN fun _ _ _ _ _ _ us hl => match us, hl with | [_, _, _], _ => rfl⟩
theorem k_cost_from (A : AllF K mg) : DefK P w K mg base "cost_from" 3 ["table", "needed", "rest", "have", "sample"] (sp_cost_from K) := by
  obtain ⟨h, X, G⟩ := A.h
  obtain ⟨fd, F⟩ := A.c.def_ 15 (d := d_cost_from) rfl
  exact ⟨He.ga K "cost_from", fd, He.glo_ok X G (A.c.fact 15 (f := .glo "cost_from") rfl), ok_cost_from (fun_of F) (txt_of A) (k_may_follow A) (k_grown A) (k_cost_of_next A), F.kp, F.bindsN fun _ _ _ _ _ _ us hl => match us, hl with | [_, _, _, _, _], _ => rfl⟩
theorem k_least_from (A : AllF K mg) : DefK P w K mg base "least_from" 4 ["table", "needed", "rest", "have"] (sp_least_from K) := by
  obtain ⟨h, X, G⟩ := A.h
  obtain ⟨fd, F⟩ := A.c.def_ 16 (d := d_least_from) rfl
  exact ⟨He.ga K "least_from", fd, He.glo_ok X G (A.c.fact 16 (f := .glo "least_from") rfl), ok_least_from (fun_of F) (txt_of A) (k_cost_from A), F.kp, F.bindsN fun _ _ _ _ _ _ us hl => match us, hl with | [_, _, _, _], _ => rfl⟩
theorem k_least_rests (A : AllF K mg) : DefK P w K mg base "least_rests" 5 ["table", "needed"] (sp_least_rests K) := by
  obtain ⟨h, X, G⟩ := A.h
  obtain ⟨fd, F⟩ := A.c.def_ 17 (d := d_least_rests) rfl
  exact ⟨He.ga K "least_rests", fd, He.glo_ok X G (A.c.fact 17 (f := .glo "least_rests") rfl), ok_least_rests (fun_of F) (txt_of A) (k_least_from A), F.kp, F.bindsN fun _ _ _ _ _ _ us hl => match us, hl with | [_, _], _ => rfl⟩
theorem k_next_of_best (A : AllF K mg) : DefK P w K mg base "next_of_best" 4 ["table", "needed", "rest", "have"] (sp_next_of_best K) := by
  obtain ⟨h, X, G⟩ := A.h
  obtain ⟨fd, F⟩ := A.c.def_ 18 (d := d_next_of_best) rfl
  exact ⟨He.ga K "next_of_best", fd, He.glo_ok X G (A.c.fact 18 (f := .glo "next_of_best") rfl), ok_next_of_best (fun_of F) (txt_of A) (k_cost_from A), F.kp, F.bindsN fun _ _ _ _ _ _ us hl => match us, hl with | [_, _, _, _], _ => rfl⟩
theorem k_best_order (A : AllF K mg) : DefK P w K mg base "best_order" 6 ["table", "needed"] (sp_best_order K) := by
  obtain ⟨h, X, G⟩ := A.h
  obtain ⟨fd, F⟩ := A.c.def_ 19 (d := d_best_order) rfl
  exact ⟨He.ga K "best_order", fd, He.glo_ok X G (A.c.fact 19 (f := .glo "best_order") rfl), ok_best_order (fun_of F) (txt_of A) (k_least_rests A) (k_next_of_best A) (k_grown A), F.kp, F.bindsN fun _ _ _ _ _ _ us hl => match us, hl with | [_, _], _ => rfl⟩
theorem k_pairs_against (A : AllF K mg) : DefK P w K mg base "pairs_against" 1 ["said", "order"] (sp_pairs_against K) := by
  obtain ⟨h, X, G⟩ := A.h
  obtain ⟨fd, F⟩ := A.c.def_ 20 (d := d_pairs_against) rfl
  exact ⟨He.ga K "pairs_against", fd, He.glo_ok X G (A.c.fact 20 (f := .glo "pairs_against") rfl), ok_pairs_against (fun_of F) (txt_of A) , F.kp, F.bindsN fun _ _ _ _ _ _ us hl => match us, hl with | [_, _], _ => rfl⟩
theorem k_common_divisor (A : AllF K mg) : DefK P w K mg base "common_divisor" 1 ["a", "b"] (sp_common_divisor K) := by
  obtain ⟨h, X, G⟩ := A.h
  obtain ⟨fd, F⟩ := A.c.def_ 21 (d := d_common_divisor) rfl
  exact ⟨He.ga K "common_divisor", fd, He.glo_ok X G (A.c.fact 21 (f := .glo "common_divisor") rfl), ok_common_divisor (fun_of F) (txt_of A) , F.kp, F.bindsN fun _ _ _ _ _ _ us hl => match us, hl with | [_, _], _ => rfl⟩
theorem k_fraction (A : AllF K mg) : DefK P w K mg base "fraction" 2 ["top", "bottom"] (sp_fraction K) := by
  obtain ⟨h, X, G⟩ := A.h
  obtain ⟨fd, F⟩ := A.c.def_ 22 (d := d_fraction) rfl
  exact ⟨He.ga K "fraction", fd, He.glo_ok X G (A.c.fact 22 (f := .glo "fraction") rfl), ok_fraction (fun_of F) (txt_of A) (k_common_divisor A), F.kp, F.bindsN fun _ _ _ _ _ _ us hl => match us, hl with | [_, _], _ => rfl⟩
theorem k_power (A : AllF K mg) : DefK P w K mg base "power" 1 ["base", "times"] (sp_power K) := by
  obtain ⟨h, X, G⟩ := A.h
  obtain ⟨fd, F⟩ := A.c.def_ 23 (d := d_power) rfl
  exact ⟨He.ga K "power", fd, He.glo_ok X G (A.c.fact 23 (f := .glo "power") rfl), ok_power (fun_of F) (txt_of A) , F.kp, F.bindsN fun _ _ _ _ _ _ us hl => match us, hl with | [_, _], _ => rfl⟩
theorem k_choices (A : AllF K mg) : DefK P w K mg base "choices" 1 ["many", "few"] (sp_choices K) := by
  obtain ⟨h, X, G⟩ := A.h
  obtain ⟨fd, F⟩ := A.c.def_ 24 (d := d_choices) rfl
  exact ⟨He.ga K "choices", fd, He.glo_ok X G (A.c.fact 24 (f := .glo "choices") rfl), ok_choices (fun_of F) (txt_of A) , F.kp, F.bindsN fun _ _ _ _ _ _ us hl => match us, hl with | [_, _], _ => rfl⟩
theorem k_lucky_ways (A : AllF K mg) : DefK P w K mg base "lucky_ways" 2 ["guesses", "right"] (sp_lucky_ways K) := by
  obtain ⟨h, X, G⟩ := A.h
  obtain ⟨fd, F⟩ := A.c.def_ 25 (d := d_lucky_ways) rfl
  exact ⟨He.ga K "lucky_ways", fd, He.glo_ok X G (A.c.fact 25 (f := .glo "lucky_ways") rfl), ok_lucky_ways (fun_of F) (txt_of A) (k_choices A) (k_power A), F.kp, F.bindsN fun _ _ _ _ _ _ us hl => match us, hl with | [_, _], _ => rfl⟩
theorem k_luck (A : AllF K mg) : DefK P w K mg base "luck" 3 ["guesses", "right"] (sp_luck K) := by
  obtain ⟨h, X, G⟩ := A.h
  obtain ⟨fd, F⟩ := A.c.def_ 26 (d := d_luck) rfl
  exact ⟨He.ga K "luck", fd, He.glo_ok X G (A.c.fact 26 (f := .glo "luck") rfl), ok_luck (fun_of F) (txt_of A) (k_fraction A) (k_lucky_ways A) (k_power A), F.kp, F.bindsN fun _ _ _ _ _ _ us hl => match us, hl with | [_, _], _ => rfl⟩
theorem k_least_needed (A : AllF K mg) : DefK P w K mg base "least_needed" 3 ["guesses", "odds"] (sp_least_needed K) := by
  obtain ⟨h, X, G⟩ := A.h
  obtain ⟨fd, F⟩ := A.c.def_ 27 (d := d_least_needed) rfl
  exact ⟨He.ga K "least_needed", fd, He.glo_ok X G (A.c.fact 27 (f := .glo "least_needed") rfl), ok_least_needed (fun_of F) (txt_of A) (k_power A) (k_lucky_ways A), F.kp, F.bindsN fun _ _ _ _ _ _ us hl => match us, hl with | [_, _], _ => rfl⟩
theorem k_chance_before (A : AllF K mg) : DefK P w K mg base "chance_before" 5 ["needed", "a", "b"] (sp_chance_before K) := by
  obtain ⟨h, X, G⟩ := A.h
  obtain ⟨fd, F⟩ := A.c.def_ 28 (d := d_chance_before) rfl
  exact ⟨He.ga K "chance_before", fd, He.glo_ok X G (A.c.fact 28 (f := .glo "chance_before") rfl), ok_chance_before (fun_of F) (txt_of A) (k_fraction A) (k_count_before A) (k_count_orders A), F.kp, F.bindsN fun _ _ _ _ _ _ us hl => match us, hl with | [_, _, _], _ => rfl⟩
theorem k_places (A : AllF K mg) : DefK P w K mg base "places" 5 ["needed", "sample"] (sp_places K) := by
  obtain ⟨h, X, G⟩ := A.h
  obtain ⟨fd, F⟩ := A.c.def_ 29 (d := d_places) rfl
  exact ⟨He.ga K "places", fd, He.glo_ok X G (A.c.fact 29 (f := .glo "places") rfl), ok_places (fun_of F) (txt_of A) (k_count_orders A) (k_fraction A) (k_count_before A), F.kp, F.bindsN fun _ _ _ _ _ _ us hl => match us, hl with | [_, _], _ => rfl⟩
theorem k_open_pairs (A : AllF K mg) : DefK P w K mg base "open_pairs" 5 ["needed", "every"] (sp_open_pairs K) := by
  obtain ⟨h, X, G⟩ := A.h
  obtain ⟨fd, F⟩ := A.c.def_ 30 (d := d_open_pairs) rfl
  exact ⟨He.ga K "open_pairs", fd, He.glo_ok X G (A.c.fact 30 (f := .glo "open_pairs") rfl), ok_open_pairs (fun_of F) (txt_of A) (k_count_before A), F.kp, F.bindsN fun _ _ _ _ _ _ us hl => match us, hl with | [_, _], _ => rfl⟩
theorem k_pair_to_ask (A : AllF K mg) : DefK P w K mg base "pair_to_ask" 6 ["needed"] (sp_pair_to_ask K) := by
  obtain ⟨h, X, G⟩ := A.h
  obtain ⟨fd, F⟩ := A.c.def_ 31 (d := d_pair_to_ask) rfl
  exact ⟨He.ga K "pair_to_ask", fd, He.glo_ok X G (A.c.fact 31 (f := .glo "pair_to_ask") rfl), ok_pair_to_ask (fun_of F) (txt_of A) (k_count_orders A) (k_open_pairs A) (k_fraction A), F.kp, F.bindsN fun _ _ _ _ _ _ us hl => match us, hl with | [_], _ => rfl⟩
theorem k_within (A : AllF K mg) : DefK P w K mg base "within" 1 ["number", "least", "most"] (sp_within K) := by
  obtain ⟨h, X, G⟩ := A.h
  obtain ⟨fd, F⟩ := A.c.def_ 32 (d := d_within) rfl
  exact ⟨He.ga K "within", fd, He.glo_ok X G (A.c.fact 32 (f := .glo "within") rfl), ok_within (fun_of F) (txt_of A) , F.kp, F.bindsN fun _ _ _ _ _ _ us hl => match us, hl with | [_, _, _], _ => rfl⟩
theorem k_refused (A : AllF K mg) : DefK P w K mg base "refused" 1 ["why"] (sp_refused K) := by
  obtain ⟨h, X, G⟩ := A.h
  obtain ⟨fd, F⟩ := A.c.def_ 33 (d := d_refused) rfl
  exact ⟨He.ga K "refused", fd, He.glo_ok X G (A.c.fact 33 (f := .glo "refused") rfl), ok_refused (fun_of F) (txt_of A) , F.kp, F.bindsN fun _ _ _ _ _ _ us hl => match us, hl with | [_], _ => rfl⟩
theorem k_answered (A : AllF K mg) : DefK P w K mg base "answered" 1 ["numbers"] (sp_answered K) := by
  obtain ⟨h, X, G⟩ := A.h
  obtain ⟨fd, F⟩ := A.c.def_ 34 (d := d_answered) rfl
  exact ⟨He.ga K "answered", fd, He.glo_ok X G (A.c.fact 34 (f := .glo "answered") rfl), ok_answered (fun_of F) (txt_of A) , F.kp, F.bindsN fun _ _ _ _ _ _ us hl => match us, hl with | [_], _ => rfl⟩
theorem k_Nose_init (A : AllF K mg) : MakeK P w K mg base (CNose K) 1 ["self", "samples"] (sp_Nose_init K) := by
  obtain ⟨h, X, G⟩ := A.h
  obtain ⟨fd, F⟩ := A.c.def_ 35 (d := d_Nose_init) rfl
  exact ⟨He.ma K (He.ga K "Nose") "__init__", fd, He.mkr_ok (A.c.fact 85 (f := .mkr "Nose") rfl), ok_Nose_init (fun_of F) (txt_of A) , F.bindsN fun _ _ _ _ _ _ us hl => match us, hl with | [_, _], _ => rfl⟩
theorem k_Nose_say (A : AllF K mg) : MethK P w K mg base (CNose K) "say" 1 ["self", "a", "b"] (sp_Nose_say K) := by
  obtain ⟨h, X, G⟩ := A.h
  obtain ⟨fd, F⟩ := A.c.def_ 36 (d := d_Nose_say) rfl
  exact ⟨He.ma K (He.ga K "Nose") "say", fd, He.meth_ok (A.c.fact 88 (f := .meth "Nose" "say") rfl), ok_Nose_say (fun_of F) (txt_of A) , F.bindsN fun _ _ _ _ _ _ us hl => match us, hl with | [_, _, _], _ => rfl⟩
theorem k_Nose_unsay (A : AllF K mg) : MethK P w K mg base (CNose K) "unsay" 1 ["self", "a", "b"] (sp_Nose_unsay K) := by
  obtain ⟨h, X, G⟩ := A.h
  obtain ⟨fd, F⟩ := A.c.def_ 37 (d := d_Nose_unsay) rfl
  exact ⟨He.ma K (He.ga K "Nose") "unsay", fd, He.meth_ok (A.c.fact 89 (f := .meth "Nose" "unsay") rfl), ok_Nose_unsay (fun_of F) (txt_of A) , F.bindsN fun _ _ _ _ _ _ us hl => match us, hl with | [_, _, _], _ => rfl⟩
theorem k_Nose_weigh (A : AllF K mg) : MethK P w K mg base (CNose K) "weigh" 1 ["self", "weight"] (sp_Nose_weigh K) := by
  obtain ⟨h, X, G⟩ := A.h
  obtain ⟨fd, F⟩ := A.c.def_ 38 (d := d_Nose_weigh) rfl
  exact ⟨He.ma K (He.ga K "Nose") "weigh", fd, He.meth_ok (A.c.fact 90 (f := .meth "Nose" "weigh") rfl), ok_Nose_weigh (fun_of F) (txt_of A) , F.bindsN fun _ _ _ _ _ _ us hl => match us, hl with | [_, _], _ => rfl⟩
theorem k_Panel_init (A : AllF K mg) : MakeK P w K mg base (CPanel K) 1 ["self"] (sp_Panel_init K) := by
  obtain ⟨h, X, G⟩ := A.h
  obtain ⟨fd, F⟩ := A.c.def_ 39 (d := d_Panel_init) rfl
  exact ⟨He.ma K (He.ga K "Panel") "__init__", fd, He.mkr_ok (A.c.fact 93 (f := .mkr "Panel") rfl), ok_Panel_init (fun_of F) (txt_of A) , F.bindsN fun _ _ _ _ _ _ us hl => match us, hl with | [_], _ => rfl⟩
theorem k_Panel_set_up (A : AllF K mg) : MethK P w K mg base (CPanel K) "set_up" 3 ["self", "samples", "noses"] (sp_Panel_set_up K) := by
  obtain ⟨h, X, G⟩ := A.h
  obtain ⟨fd, F⟩ := A.c.def_ 40 (d := d_Panel_set_up) rfl
  exact ⟨He.ma K (He.ga K "Panel") "set_up", fd, He.meth_ok (A.c.fact 97 (f := .meth "Panel" "set_up") rfl), ok_Panel_set_up (fun_of F) (txt_of A) (k_Nose_init A), F.bindsN fun _ _ _ _ _ _ us hl => match us, hl with | [_, _, _], _ => rfl⟩
theorem k_Panel_keep_trial (A : AllF K mg) : MethK P w K mg base (CPanel K) "keep_trial" 1 ["self", "nose", "a", "b", "right"] (sp_Panel_keep_trial K) := by
  obtain ⟨h, X, G⟩ := A.h
  obtain ⟨fd, F⟩ := A.c.def_ 41 (d := d_Panel_keep_trial) rfl
  exact ⟨He.ma K (He.ga K "Panel") "keep_trial", fd, He.meth_ok (A.c.fact 98 (f := .meth "Panel" "keep_trial") rfl), ok_Panel_keep_trial (fun_of F) (txt_of A) , F.bindsN fun _ _ _ _ _ _ us hl => match us, hl with | [_, _, _, _, _], _ => rfl⟩
theorem k_Panel_drop_trial (A : AllF K mg) : MethK P w K mg base (CPanel K) "drop_trial" 1 ["self"] (sp_Panel_drop_trial K) := by
  obtain ⟨h, X, G⟩ := A.h
  obtain ⟨fd, F⟩ := A.c.def_ 42 (d := d_Panel_drop_trial) rfl
  exact ⟨He.ma K (He.ga K "Panel") "drop_trial", fd, He.meth_ok (A.c.fact 99 (f := .meth "Panel" "drop_trial") rfl), ok_Panel_drop_trial (fun_of F) (txt_of A) , F.bindsN fun _ _ _ _ _ _ us hl => match us, hl with | [_], _ => rfl⟩
theorem k_nose_refusal (A : AllF K mg) : DefK P w K mg base "nose_refusal" 1 ["panel", "nose"] (sp_nose_refusal K) := by
  obtain ⟨h, X, G⟩ := A.h
  obtain ⟨fd, F⟩ := A.c.def_ 43 (d := d_nose_refusal) rfl
  exact ⟨He.ga K "nose_refusal", fd, He.glo_ok X G (A.c.fact 35 (f := .glo "nose_refusal") rfl), ok_nose_refusal (fun_of F) (txt_of A) , F.kp, F.bindsN fun _ _ _ _ _ _ us hl => match us, hl with | [_, _], _ => rfl⟩
theorem k_pair_refusal (A : AllF K mg) : DefK P w K mg base "pair_refusal" 1 ["panel", "a", "b"] (sp_pair_refusal K) := by
  obtain ⟨h, X, G⟩ := A.h
  obtain ⟨fd, F⟩ := A.c.def_ 44 (d := d_pair_refusal) rfl
  exact ⟨He.ga K "pair_refusal", fd, He.glo_ok X G (A.c.fact 36 (f := .glo "pair_refusal") rfl), ok_pair_refusal (fun_of F) (txt_of A) , F.kp, F.bindsN fun _ _ _ _ _ _ us hl => match us, hl with | [_, _, _], _ => rfl⟩
theorem k_nose_pair_refusal (A : AllF K mg) : DefK P w K mg base "nose_pair_refusal" 2 ["panel", "nose", "a", "b"] (sp_nose_pair_refusal K) := by
  obtain ⟨h, X, G⟩ := A.h
  obtain ⟨fd, F⟩ := A.c.def_ 45 (d := d_nose_pair_refusal) rfl
  exact ⟨He.ga K "nose_pair_refusal", fd, He.glo_ok X G (A.c.fact 37 (f := .glo "nose_pair_refusal") rfl), ok_nose_pair_refusal (fun_of F) (txt_of A) (k_pair_refusal A), F.kp, F.bindsN fun _ _ _ _ _ _ us hl => match us, hl with | [_, _, _, _], _ => rfl⟩
theorem k_has_said (A : AllF K mg) : DefK P w K mg base "has_said" 1 ["nose", "a", "b"] (sp_has_said K) := by
  obtain ⟨h, X, G⟩ := A.h
  obtain ⟨fd, F⟩ := A.c.def_ 46 (d := d_has_said) rfl
  exact ⟨He.ga K "has_said", fd, He.glo_ok X G (A.c.fact 38 (f := .glo "has_said") rfl), ok_has_said (fun_of F) (txt_of A) , F.kp, F.bindsN fun _ _ _ _ _ _ us hl => match us, hl with | [_, _, _], _ => rfl⟩
theorem k_pairs_said (A : AllF K mg) : DefK P w K mg base "pairs_said" 1 ["nose"] (sp_pairs_said K) := by
  obtain ⟨h, X, G⟩ := A.h
  obtain ⟨fd, F⟩ := A.c.def_ 47 (d := d_pairs_said) rfl
  exact ⟨He.ga K "pairs_said", fd, He.glo_ok X G (A.c.fact 39 (f := .glo "pairs_said") rfl), ok_pairs_said (fun_of F) (txt_of A) , F.kp, F.bindsN fun _ _ _ _ _ _ us hl => match us, hl with | [_], _ => rfl⟩
theorem k_weight_over (A : AllF K mg) : DefK P w K mg base "weight_over" 1 ["panel", "a", "b"] (sp_weight_over K) := by
  obtain ⟨h, X, G⟩ := A.h
  obtain ⟨fd, F⟩ := A.c.def_ 48 (d := d_weight_over) rfl
  exact ⟨He.ga K "weight_over", fd, He.glo_ok X G (A.c.fact 40 (f := .glo "weight_over") rfl), ok_weight_over (fun_of F) (txt_of A) , F.kp, F.bindsN fun _ _ _ _ _ _ us hl => match us, hl with | [_, _, _], _ => rfl⟩
theorem k_weights_of_row (A : AllF K mg) : DefK P w K mg base "weights_of_row" 2 ["panel", "a"] (sp_weights_of_row K) := by
  obtain ⟨h, X, G⟩ := A.h
  obtain ⟨fd, F⟩ := A.c.def_ 49 (d := d_weights_of_row) rfl
  exact ⟨He.ga K "weights_of_row", fd, He.glo_ok X G (A.c.fact 41 (f := .glo "weights_of_row") rfl), ok_weights_of_row (fun_of F) (txt_of A) (k_weight_over A), F.kp, F.bindsN fun _ _ _ _ _ _ us hl => match us, hl with | [_, _], _ => rfl⟩
theorem k_weight_table (A : AllF K mg) : DefK P w K mg base "weight_table" 3 ["panel"] (sp_weight_table K) := by
  obtain ⟨h, X, G⟩ := A.h
  obtain ⟨fd, F⟩ := A.c.def_ 50 (d := d_weight_table) rfl
  exact ⟨He.ga K "weight_table", fd, He.glo_ok X G (A.c.fact 42 (f := .glo "weight_table") rfl), ok_weight_table (fun_of F) (txt_of A) (k_weights_of_row A), F.kp, F.bindsN fun _ _ _ _ _ _ us hl => match us, hl with | [_], _ => rfl⟩
theorem k_first_plan_row (A : AllF K mg) : DefK P w K mg base "first_plan_row" 1 ["samples"] (sp_first_plan_row K) := by
  obtain ⟨h, X, G⟩ := A.h
  obtain ⟨fd, F⟩ := A.c.def_ 51 (d := d_first_plan_row) rfl
  exact ⟨He.ga K "first_plan_row", fd, He.glo_ok X G (A.c.fact 43 (f := .glo "first_plan_row") rfl), ok_first_plan_row (fun_of F) (txt_of A) , F.kp, F.bindsN fun _ _ _ _ _ _ us hl => match us, hl with | [_], _ => rfl⟩
theorem k_plan_rows (A : AllF K mg) : DefK P w K mg base "plan_rows" 1 ["samples"] (sp_plan_rows K) := by
  obtain ⟨h, X, G⟩ := A.h
  obtain ⟨fd, F⟩ := A.c.def_ 52 (d := d_plan_rows) rfl
  exact ⟨He.ga K "plan_rows", fd, He.glo_ok X G (A.c.fact 44 (f := .glo "plan_rows") rfl), ok_plan_rows (fun_of F) (txt_of A) , F.kp, F.bindsN fun _ _ _ _ _ _ us hl => match us, hl with | [_], _ => rfl⟩
theorem k_plan_row (A : AllF K mg) : DefK P w K mg base "plan_row" 2 ["samples", "number"] (sp_plan_row K) := by
  obtain ⟨h, X, G⟩ := A.h
  obtain ⟨fd, F⟩ := A.c.def_ 53 (d := d_plan_row) rfl
  exact ⟨He.ga K "plan_row", fd, He.glo_ok X G (A.c.fact 45 (f := .glo "plan_row") rfl), ok_plan_row (fun_of F) (txt_of A) (k_first_plan_row A), F.kp, F.bindsN fun _ _ _ _ _ _ us hl => match us, hl with | [_, _], _ => rfl⟩
theorem k_sound_refusal (A : AllF K mg) : DefK P w K mg base "sound_refusal" 4 ["panel", "number"] (sp_sound_refusal K) := by
  obtain ⟨h, X, G⟩ := A.h
  obtain ⟨fd, F⟩ := A.c.def_ 54 (d := d_sound_refusal) rfl
  exact ⟨He.ga K "sound_refusal", fd, He.glo_ok X G (A.c.fact 46 (f := .glo "sound_refusal") rfl), ok_sound_refusal (fun_of F) (txt_of A) (k_nose_refusal A) (k_is_sound A), F.kp, F.bindsN fun _ _ _ _ _ _ us hl => match us, hl with | [_, _], _ => rfl⟩
theorem k_sound_pair_refusal (A : AllF K mg) : DefK P w K mg base "sound_pair_refusal" 5 ["panel", "number", "a", "b"] (sp_sound_pair_refusal K) := by
  obtain ⟨h, X, G⟩ := A.h
  obtain ⟨fd, F⟩ := A.c.def_ 55 (d := d_sound_pair_refusal) rfl
  exact ⟨He.ga K "sound_pair_refusal", fd, He.glo_ok X G (A.c.fact 47 (f := .glo "sound_pair_refusal") rfl), ok_sound_pair_refusal (fun_of F) (txt_of A) (k_nose_pair_refusal A) (k_sound_refusal A), F.kp, F.bindsN fun _ _ _ _ _ _ us hl => match us, hl with | [_, _, _, _], _ => rfl⟩
theorem k_needs_of (A : AllF K mg) : DefK P w K mg base "needs_of" 4 ["panel", "number"] (sp_needs_of K) := by
  obtain ⟨h, X, G⟩ := A.h
  obtain ⟨fd, F⟩ := A.c.def_ 56 (d := d_needs_of) rfl
  exact ⟨He.ga K "needs_of", fd, He.glo_ok X G (A.c.fact 48 (f := .glo "needs_of") rfl), ok_needs_of (fun_of F) (txt_of A) (k_needed_sets A), F.kp, F.bindsN fun _ _ _ _ _ _ us hl => match us, hl with | [_, _], _ => rfl⟩
theorem k_answer_ring (A : AllF K mg) : DefK P w K mg base "answer_ring" 3 ["panel", "numbers", "rows"] (sp_answer_ring K) := by
  obtain ⟨h, X, G⟩ := A.h
  obtain ⟨fd, F⟩ := A.c.def_ 57 (d := d_answer_ring) rfl
  exact ⟨He.ga K "answer_ring", fd, He.glo_ok X G (A.c.fact 49 (f := .glo "answer_ring") rfl), ok_answer_ring (fun_of F) (txt_of A) (k_nose_refusal A) (k_shortest_ring A) (k_answered A) (k_refused A), F.kp, F.bindsN fun _ _ _ _ _ _ us hl => match us, hl with | [_, _, _], _ => rfl⟩
theorem k_answer_mend (A : AllF K mg) : DefK P w K mg base "answer_mend" 7 ["panel", "numbers", "rows"] (sp_answer_mend K) := by
  obtain ⟨h, X, G⟩ := A.h
  obtain ⟨fd, F⟩ := A.c.def_ 58 (d := d_answer_mend) rfl
  exact ⟨He.ga K "answer_mend", fd, He.glo_ok X G (A.c.fact 50 (f := .glo "answer_mend") rfl), ok_answer_mend (fun_of F) (txt_of A) (k_nose_refusal A) (k_pairs_against A) (k_answered A) (k_refused A) (k_best_order A) (k_nothing_needed A), F.kp, F.bindsN fun _ _ _ _ _ _ us hl => match us, hl with | [_, _, _], _ => rfl⟩
theorem k_answer_follows (A : AllF K mg) : DefK P w K mg base "answer_follows" 6 ["panel", "numbers", "rows"] (sp_answer_follows K) := by
  obtain ⟨h, X, G⟩ := A.h
  obtain ⟨fd, F⟩ := A.c.def_ 59 (d := d_answer_follows) rfl
  exact ⟨He.ga K "answer_follows", fd, He.glo_ok X G (A.c.fact 51 (f := .glo "answer_follows") rfl), ok_answer_follows (fun_of F) (txt_of A) (k_sound_pair_refusal A) (k_needs_of A) (k_count_before A) (k_answered A) (k_refused A) (k_count_orders A), F.kp, F.bindsN fun _ _ _ _ _ _ us hl => match us, hl with | [_, _, _], _ => rfl⟩
theorem k_answer_first (A : AllF K mg) : DefK P w K mg base "answer_first" 5 ["panel", "numbers", "rows"] (sp_answer_first K) := by
  obtain ⟨h, X, G⟩ := A.h
  obtain ⟨fd, F⟩ := A.c.def_ 60 (d := d_answer_first) rfl
  exact ⟨He.ga K "answer_first", fd, He.glo_ok X G (A.c.fact 52 (f := .glo "answer_first") rfl), ok_answer_first (fun_of F) (txt_of A) (k_sound_refusal A) (k_answered A) (k_refused A) (k_first_order A) (k_needs_of A), F.kp, F.bindsN fun _ _ _ _ _ _ us hl => match us, hl with | [_, _, _], _ => rfl⟩
theorem k_answer_many (A : AllF K mg) : DefK P w K mg base "answer_many" 5 ["panel", "numbers", "rows"] (sp_answer_many K) := by
  obtain ⟨h, X, G⟩ := A.h
  obtain ⟨fd, F⟩ := A.c.def_ 61 (d := d_answer_many) rfl
  exact ⟨He.ga K "answer_many", fd, He.glo_ok X G (A.c.fact 53 (f := .glo "answer_many") rfl), ok_answer_many (fun_of F) (txt_of A) (k_nose_refusal A) (k_answered A) (k_refused A) (k_count_orders A) (k_needs_of A), F.kp, F.bindsN fun _ _ _ _ _ _ us hl => match us, hl with | [_, _, _], _ => rfl⟩
theorem k_answer_chance (A : AllF K mg) : DefK P w K mg base "answer_chance" 6 ["panel", "numbers", "rows"] (sp_answer_chance K) := by
  obtain ⟨h, X, G⟩ := A.h
  obtain ⟨fd, F⟩ := A.c.def_ 62 (d := d_answer_chance) rfl
  exact ⟨He.ga K "answer_chance", fd, He.glo_ok X G (A.c.fact 54 (f := .glo "answer_chance") rfl), ok_answer_chance (fun_of F) (txt_of A) (k_sound_pair_refusal A) (k_answered A) (k_refused A) (k_chance_before A) (k_needs_of A), F.kp, F.bindsN fun _ _ _ _ _ _ us hl => match us, hl with | [_, _, _], _ => rfl⟩
theorem k_answer_place (A : AllF K mg) : DefK P w K mg base "answer_place" 6 ["panel", "numbers", "rows"] (sp_answer_place K) := by
  obtain ⟨h, X, G⟩ := A.h
  obtain ⟨fd, F⟩ := A.c.def_ 63 (d := d_answer_place) rfl
  exact ⟨He.ga K "answer_place", fd, He.glo_ok X G (A.c.fact 55 (f := .glo "answer_place") rfl), ok_answer_place (fun_of F) (txt_of A) (k_nose_refusal A) (k_sound_refusal A) (k_answered A) (k_refused A) (k_places A) (k_needs_of A), F.kp, F.bindsN fun _ _ _ _ _ _ us hl => match us, hl with | [_, _, _], _ => rfl⟩
theorem k_answer_ask (A : AllF K mg) : DefK P w K mg base "answer_ask" 7 ["panel", "numbers", "rows"] (sp_answer_ask K) := by
  obtain ⟨h, X, G⟩ := A.h
  obtain ⟨fd, F⟩ := A.c.def_ 64 (d := d_answer_ask) rfl
  exact ⟨He.ga K "answer_ask", fd, He.glo_ok X G (A.c.fact 56 (f := .glo "answer_ask") rfl), ok_answer_ask (fun_of F) (txt_of A) (k_sound_refusal A) (k_pair_to_ask A) (k_answered A) (k_refused A) (k_needs_of A), F.kp, F.bindsN fun _ _ _ _ _ _ us hl => match us, hl with | [_, _, _], _ => rfl⟩
theorem k_answer_against (A : AllF K mg) : DefK P w K mg base "answer_against" 4 ["panel", "numbers", "rows"] (sp_answer_against K) := by
  obtain ⟨h, X, G⟩ := A.h
  obtain ⟨fd, F⟩ := A.c.def_ 65 (d := d_answer_against) rfl
  exact ⟨He.ga K "answer_against", fd, He.glo_ok X G (A.c.fact 57 (f := .glo "answer_against") rfl), ok_answer_against (fun_of F) (txt_of A) (k_answered A) (k_refused A) (k_said_against A) (k_weight_table A), F.kp, F.bindsN fun _ _ _ _ _ _ us hl => match us, hl with | [_, _, _], _ => rfl⟩
theorem k_told_best (A : AllF K mg) : DefK P w K mg base "told_best" 7 ["panel", "needed"] (sp_told_best K) := by
  obtain ⟨h, X, G⟩ := A.h
  obtain ⟨fd, F⟩ := A.c.def_ 66 (d := d_told_best) rfl
  exact ⟨He.ga K "told_best", fd, He.glo_ok X G (A.c.fact 58 (f := .glo "told_best") rfl), ok_told_best (fun_of F) (txt_of A) (k_weight_table A) (k_best_order A) (k_answered A) (k_said_against A), F.kp, F.bindsN fun _ _ _ _ _ _ us hl => match us, hl with | [_, _], _ => rfl⟩
theorem k_answer_best (A : AllF K mg) : DefK P w K mg base "answer_best" 8 ["panel", "numbers", "rows"] (sp_answer_best K) := by
  obtain ⟨h, X, G⟩ := A.h
  obtain ⟨fd, F⟩ := A.c.def_ 67 (d := d_answer_best) rfl
  exact ⟨He.ga K "answer_best", fd, He.glo_ok X G (A.c.fact 59 (f := .glo "answer_best") rfl), ok_answer_best (fun_of F) (txt_of A) (k_told_best A) (k_nothing_needed A), F.kp, F.bindsN fun _ _ _ _ _ _ us hl => match us, hl with | [_, _, _], _ => rfl⟩
theorem k_answer_near (A : AllF K mg) : DefK P w K mg base "answer_near" 8 ["panel", "numbers", "rows"] (sp_answer_near K) := by
  obtain ⟨h, X, G⟩ := A.h
  obtain ⟨fd, F⟩ := A.c.def_ 68 (d := d_answer_near) rfl
  exact ⟨He.ga K "answer_near", fd, He.glo_ok X G (A.c.fact 60 (f := .glo "answer_near") rfl), ok_answer_near (fun_of F) (txt_of A) (k_sound_refusal A) (k_told_best A) (k_refused A) (k_needs_of A), F.kp, F.bindsN fun _ _ _ _ _ _ us hl => match us, hl with | [_, _, _], _ => rfl⟩
theorem k_answer_panel (A : AllF K mg) : DefK P w K mg base "answer_panel" 4 ["panel", "numbers", "rows"] (sp_answer_panel K) := by
  obtain ⟨h, X, G⟩ := A.h
  obtain ⟨fd, F⟩ := A.c.def_ 69 (d := d_answer_panel) rfl
  exact ⟨He.ga K "answer_panel", fd, He.glo_ok X G (A.c.fact 61 (f := .glo "answer_panel") rfl), ok_answer_panel (fun_of F) (txt_of A) (k_Panel_set_up A) (k_answered A) (k_refused A) (k_within A), F.kp, F.bindsN fun _ _ _ _ _ _ us hl => match us, hl with | [_, _, _], _ => rfl⟩
theorem k_answer_say (A : AllF K mg) : DefK P w K mg base "answer_say" 3 ["panel", "numbers", "rows"] (sp_answer_say K) := by
  obtain ⟨h, X, G⟩ := A.h
  obtain ⟨fd, F⟩ := A.c.def_ 70 (d := d_answer_say) rfl
  exact ⟨He.ga K "answer_say", fd, He.glo_ok X G (A.c.fact 62 (f := .glo "answer_say") rfl), ok_answer_say (fun_of F) (txt_of A) (k_nose_pair_refusal A) (k_Nose_say A) (k_answered A) (k_refused A) (k_pairs_said A), F.kp, F.bindsN fun _ _ _ _ _ _ us hl => match us, hl with | [_, _, _], _ => rfl⟩
theorem k_answer_unsay (A : AllF K mg) : DefK P w K mg base "answer_unsay" 3 ["panel", "numbers", "rows"] (sp_answer_unsay K) := by
  obtain ⟨h, X, G⟩ := A.h
  obtain ⟨fd, F⟩ := A.c.def_ 71 (d := d_answer_unsay) rfl
  exact ⟨He.ga K "answer_unsay", fd, He.glo_ok X G (A.c.fact 63 (f := .glo "answer_unsay") rfl), ok_answer_unsay (fun_of F) (txt_of A) (k_nose_pair_refusal A) (k_Nose_unsay A) (k_answered A) (k_refused A) (k_has_said A) (k_pairs_said A), F.kp, F.bindsN fun _ _ _ _ _ _ us hl => match us, hl with | [_, _, _], _ => rfl⟩
theorem k_answer_weigh (A : AllF K mg) : DefK P w K mg base "answer_weigh" 2 ["panel", "numbers", "rows"] (sp_answer_weigh K) := by
  obtain ⟨h, X, G⟩ := A.h
  obtain ⟨fd, F⟩ := A.c.def_ 72 (d := d_answer_weigh) rfl
  exact ⟨He.ga K "answer_weigh", fd, He.glo_ok X G (A.c.fact 64 (f := .glo "answer_weigh") rfl), ok_answer_weigh (fun_of F) (txt_of A) (k_nose_refusal A) (k_Nose_weigh A) (k_answered A) (k_within A) (k_refused A), F.kp, F.bindsN fun _ _ _ _ _ _ us hl => match us, hl with | [_, _, _], _ => rfl⟩
theorem k_pairs_of_both (A : AllF K mg) : DefK P w K mg base "pairs_of_both" 2 ["panel", "first", "second"] (sp_pairs_of_both K) := by
  obtain ⟨h, X, G⟩ := A.h
  obtain ⟨fd, F⟩ := A.c.def_ 73 (d := d_pairs_of_both) rfl
  exact ⟨He.ga K "pairs_of_both", fd, He.glo_ok X G (A.c.fact 65 (f := .glo "pairs_of_both") rfl), ok_pairs_of_both (fun_of F) (txt_of A) (k_has_said A), F.kp, F.bindsN fun _ _ _ _ _ _ us hl => match us, hl with | [_, _, _], _ => rfl⟩
theorem k_answer_agree (A : AllF K mg) : DefK P w K mg base "answer_agree" 3 ["panel", "numbers", "rows"] (sp_answer_agree K) := by
  obtain ⟨h, X, G⟩ := A.h
  obtain ⟨fd, F⟩ := A.c.def_ 74 (d := d_answer_agree) rfl
  exact ⟨He.ga K "answer_agree", fd, He.glo_ok X G (A.c.fact 66 (f := .glo "answer_agree") rfl), ok_answer_agree (fun_of F) (txt_of A) (k_pairs_of_both A) (k_answered A) (k_nose_refusal A) (k_refused A), F.kp, F.bindsN fun _ _ _ _ _ _ us hl => match us, hl with | [_, _, _], _ => rfl⟩
theorem k_answer_over (A : AllF K mg) : DefK P w K mg base "answer_over" 2 ["panel", "numbers", "rows"] (sp_answer_over K) := by
  obtain ⟨h, X, G⟩ := A.h
  obtain ⟨fd, F⟩ := A.c.def_ 75 (d := d_answer_over) rfl
  exact ⟨He.ga K "answer_over", fd, He.glo_ok X G (A.c.fact 67 (f := .glo "answer_over") rfl), ok_answer_over (fun_of F) (txt_of A) (k_pair_refusal A) (k_answered A) (k_refused A) (k_weight_over A), F.kp, F.bindsN fun _ _ _ _ _ _ us hl => match us, hl with | [_, _, _], _ => rfl⟩
theorem k_beats_all (A : AllF K mg) : DefK P w K mg base "beats_all" 1 ["table", "sample"] (sp_beats_all K) := by
  obtain ⟨h, X, G⟩ := A.h
  obtain ⟨fd, F⟩ := A.c.def_ 76 (d := d_beats_all) rfl
  exact ⟨He.ga K "beats_all", fd, He.glo_ok X G (A.c.fact 68 (f := .glo "beats_all") rfl), ok_beats_all (fun_of F) (txt_of A) , F.kp, F.bindsN fun _ _ _ _ _ _ us hl => match us, hl with | [_, _], _ => rfl⟩
theorem k_answer_king (A : AllF K mg) : DefK P w K mg base "answer_king" 4 ["panel", "numbers", "rows"] (sp_answer_king K) := by
  obtain ⟨h, X, G⟩ := A.h
  obtain ⟨fd, F⟩ := A.c.def_ 77 (d := d_answer_king) rfl
  exact ⟨He.ga K "answer_king", fd, He.glo_ok X G (A.c.fact 69 (f := .glo "answer_king") rfl), ok_answer_king (fun_of F) (txt_of A) (k_weight_table A) (k_answered A) (k_beats_all A), F.kp, F.bindsN fun _ _ _ _ _ _ us hl => match us, hl with | [_, _, _], _ => rfl⟩
theorem k_answer_trial (A : AllF K mg) : DefK P w K mg base "answer_trial" 3 ["panel", "numbers", "rows"] (sp_answer_trial K) := by
  obtain ⟨h, X, G⟩ := A.h
  obtain ⟨fd, F⟩ := A.c.def_ 78 (d := d_answer_trial) rfl
  exact ⟨He.ga K "answer_trial", fd, He.glo_ok X G (A.c.fact 70 (f := .glo "answer_trial") rfl), ok_answer_trial (fun_of F) (txt_of A) (k_nose_pair_refusal A) (k_Panel_keep_trial A) (k_answered A) (k_within A) (k_refused A), F.kp, F.bindsN fun _ _ _ _ _ _ us hl => match us, hl with | [_, _, _], _ => rfl⟩
theorem k_answer_untry (A : AllF K mg) : DefK P w K mg base "answer_untry" 2 ["panel", "numbers", "rows"] (sp_answer_untry K) := by
  obtain ⟨h, X, G⟩ := A.h
  obtain ⟨fd, F⟩ := A.c.def_ 79 (d := d_answer_untry) rfl
  exact ⟨He.ga K "answer_untry", fd, He.glo_ok X G (A.c.fact 71 (f := .glo "answer_untry") rfl), ok_answer_untry (fun_of F) (txt_of A) (k_Panel_drop_trial A) (k_answered A) (k_refused A), F.kp, F.bindsN fun _ _ _ _ _ _ us hl => match us, hl with | [_, _, _], _ => rfl⟩
theorem k_how_many_right (A : AllF K mg) : DefK P w K mg base "how_many_right" 1 ["trials"] (sp_how_many_right K) := by
  obtain ⟨h, X, G⟩ := A.h
  obtain ⟨fd, F⟩ := A.c.def_ 80 (d := d_how_many_right) rfl
  exact ⟨He.ga K "how_many_right", fd, He.glo_ok X G (A.c.fact 72 (f := .glo "how_many_right") rfl), ok_how_many_right (fun_of F) (txt_of A) , F.kp, F.bindsN fun _ _ _ _ _ _ us hl => match us, hl with | [_], _ => rfl⟩
theorem k_answer_score (A : AllF K mg) : DefK P w K mg base "answer_score" 2 ["panel", "numbers", "rows"] (sp_answer_score K) := by
  obtain ⟨h, X, G⟩ := A.h
  obtain ⟨fd, F⟩ := A.c.def_ 81 (d := d_answer_score) rfl
  exact ⟨He.ga K "answer_score", fd, He.glo_ok X G (A.c.fact 73 (f := .glo "answer_score") rfl), ok_answer_score (fun_of F) (txt_of A) (k_nose_refusal A) (k_answered A) (k_refused A) (k_how_many_right A), F.kp, F.bindsN fun _ _ _ _ _ _ us hl => match us, hl with | [_, _, _], _ => rfl⟩
theorem k_trials_with (A : AllF K mg) : DefK P w K mg base "trials_with" 1 ["panel", "a", "b"] (sp_trials_with K) := by
  obtain ⟨h, X, G⟩ := A.h
  obtain ⟨fd, F⟩ := A.c.def_ 82 (d := d_trials_with) rfl
  exact ⟨He.ga K "trials_with", fd, He.glo_ok X G (A.c.fact 74 (f := .glo "trials_with") rfl), ok_trials_with (fun_of F) (txt_of A) , F.kp, F.bindsN fun _ _ _ _ _ _ us hl => match us, hl with | [_, _, _], _ => rfl⟩
theorem k_answer_apart (A : AllF K mg) : DefK P w K mg base "answer_apart" 4 ["panel", "numbers", "rows"] (sp_answer_apart K) := by
  obtain ⟨h, X, G⟩ := A.h
  obtain ⟨fd, F⟩ := A.c.def_ 83 (d := d_answer_apart) rfl
  exact ⟨He.ga K "answer_apart", fd, He.glo_ok X G (A.c.fact 75 (f := .glo "answer_apart") rfl), ok_answer_apart (fun_of F) (txt_of A) (k_pair_refusal A) (k_trials_with A) (k_how_many_right A) (k_answered A) (k_refused A) (k_luck A), F.kp, F.bindsN fun _ _ _ _ _ _ us hl => match us, hl with | [_, _, _], _ => rfl⟩
theorem k_answer_luck (A : AllF K mg) : DefK P w K mg base "answer_luck" 4 ["panel", "numbers", "rows"] (sp_answer_luck K) := by
  obtain ⟨h, X, G⟩ := A.h
  obtain ⟨fd, F⟩ := A.c.def_ 84 (d := d_answer_luck) rfl
  exact ⟨He.ga K "answer_luck", fd, He.glo_ok X G (A.c.fact 76 (f := .glo "answer_luck") rfl), ok_answer_luck (fun_of F) (txt_of A) (k_answered A) (k_refused A) (k_luck A) (k_within A), F.kp, F.bindsN fun _ _ _ _ _ _ us hl => match us, hl with | [_, _, _], _ => rfl⟩
theorem k_answer_need (A : AllF K mg) : DefK P w K mg base "answer_need" 4 ["panel", "numbers", "rows"] (sp_answer_need K) := by
  obtain ⟨h, X, G⟩ := A.h
  obtain ⟨fd, F⟩ := A.c.def_ 85 (d := d_answer_need) rfl
  exact ⟨He.ga K "answer_need", fd, He.glo_ok X G (A.c.fact 77 (f := .glo "answer_need") rfl), ok_answer_need (fun_of F) (txt_of A) (k_least_needed A) (k_answered A) (k_refused A) (k_within A), F.kp, F.bindsN fun _ _ _ _ _ _ us hl => match us, hl with | [_, _, _], _ => rfl⟩
theorem k_answer_sheet (A : AllF K mg) : DefK P w K mg base "answer_sheet" 3 ["panel", "numbers", "rows"] (sp_answer_sheet K) := by
  obtain ⟨h, X, G⟩ := A.h
  obtain ⟨fd, F⟩ := A.c.def_ 86 (d := d_answer_sheet) rfl
  exact ⟨He.ga K "answer_sheet", fd, He.glo_ok X G (A.c.fact 78 (f := .glo "answer_sheet") rfl), ok_answer_sheet (fun_of F) (txt_of A) (k_answered A) (k_plan_rows A) (k_refused A) (k_plan_row A), F.kp, F.bindsN fun _ _ _ _ _ _ us hl => match us, hl with | [_, _, _], _ => rfl⟩
theorem k_answer_told (A : AllF K mg) : DefK P w K mg base "answer_told" 2 ["panel", "numbers", "rows"] (sp_answer_told K) := by
  obtain ⟨h, X, G⟩ := A.h
  obtain ⟨fd, F⟩ := A.c.def_ 87 (d := d_answer_told) rfl
  exact ⟨He.ga K "answer_told", fd, He.glo_ok X G (A.c.fact 79 (f := .glo "answer_told") rfl), ok_answer_told (fun_of F) (txt_of A) (k_answered A) (k_pairs_said A), F.kp, F.bindsN fun _ _ _ _ _ _ us hl => match us, hl with | [_, _, _], _ => rfl⟩
theorem k_read_call (A : AllF K mg) : DefK P w K mg base "read_call" 1 ["calls", "at"] (sp_read_call K) := by
  obtain ⟨h, X, G⟩ := A.h
  obtain ⟨fd, F⟩ := A.c.def_ 88 (d := d_read_call) rfl
  exact ⟨He.ga K "read_call", fd, He.glo_ok X G (A.c.fact 80 (f := .glo "read_call") rfl), ok_read_call (fun_of F) (txt_of A) , F.kp, F.bindsN fun _ _ _ _ _ _ us hl => match us, hl with | [_, _], _ => rfl⟩
theorem deed_answer_panel (A : AllF K mg) : DeedK P w K mg base 0 := by
  obtain ⟨fd, F⟩ := A.c.def_ 69 (d := d_answer_panel) rfl
  have F2 : Fun K "answer_panel" "answer_panel" s_answer_panel (deedA K 0) fd := fun_of F
  exact deed_of F2 (ok_answer_panel (P := P) (w := w) (mg := mg) (base := base) F2 (txt_of A) (k_Panel_set_up A) (k_answered A) (k_refused A) (k_within A)) (by decide) (F.bindsN fun _ _ _ _ _ _ us hl => match us, hl with | [_, _, _], _ => rfl)
theorem deed_answer_say (A : AllF K mg) : DeedK P w K mg base 1 := by
  obtain ⟨fd, F⟩ := A.c.def_ 70 (d := d_answer_say) rfl
  have F2 : Fun K "answer_say" "answer_say" s_answer_say (deedA K 1) fd := fun_of F
  exact deed_of F2 (ok_answer_say (P := P) (w := w) (mg := mg) (base := base) F2 (txt_of A) (k_nose_pair_refusal A) (k_Nose_say A) (k_answered A) (k_refused A) (k_pairs_said A)) (by decide) (F.bindsN fun _ _ _ _ _ _ us hl => match us, hl with | [_, _, _], _ => rfl)
theorem deed_answer_unsay (A : AllF K mg) : DeedK P w K mg base 2 := by
  obtain ⟨fd, F⟩ := A.c.def_ 71 (d := d_answer_unsay) rfl
  have F2 : Fun K "answer_unsay" "answer_unsay" s_answer_unsay (deedA K 2) fd := fun_of F
  exact deed_of F2 (ok_answer_unsay (P := P) (w := w) (mg := mg) (base := base) F2 (txt_of A) (k_nose_pair_refusal A) (k_Nose_unsay A) (k_answered A) (k_refused A) (k_has_said A) (k_pairs_said A)) (by decide) (F.bindsN fun _ _ _ _ _ _ us hl => match us, hl with | [_, _, _], _ => rfl)
theorem deed_answer_weigh (A : AllF K mg) : DeedK P w K mg base 3 := by
  obtain ⟨fd, F⟩ := A.c.def_ 72 (d := d_answer_weigh) rfl
  have F2 : Fun K "answer_weigh" "answer_weigh" s_answer_weigh (deedA K 3) fd := fun_of F
  exact deed_of F2 (ok_answer_weigh (P := P) (w := w) (mg := mg) (base := base) F2 (txt_of A) (k_nose_refusal A) (k_Nose_weigh A) (k_answered A) (k_within A) (k_refused A)) (by decide) (F.bindsN fun _ _ _ _ _ _ us hl => match us, hl with | [_, _, _], _ => rfl)
theorem deed_answer_ring (A : AllF K mg) : DeedK P w K mg base 4 := by
  obtain ⟨fd, F⟩ := A.c.def_ 57 (d := d_answer_ring) rfl
  have F2 : Fun K "answer_ring" "answer_ring" s_answer_ring (deedA K 4) fd := fun_of F
  exact deed_of F2 (ok_answer_ring (P := P) (w := w) (mg := mg) (base := base) F2 (txt_of A) (k_nose_refusal A) (k_shortest_ring A) (k_answered A) (k_refused A)) (by decide) (F.bindsN fun _ _ _ _ _ _ us hl => match us, hl with | [_, _, _], _ => rfl)
theorem deed_answer_mend (A : AllF K mg) : DeedK P w K mg base 5 := by
  obtain ⟨fd, F⟩ := A.c.def_ 58 (d := d_answer_mend) rfl
  have F2 : Fun K "answer_mend" "answer_mend" s_answer_mend (deedA K 5) fd := fun_of F
  exact deed_of F2 (ok_answer_mend (P := P) (w := w) (mg := mg) (base := base) F2 (txt_of A) (k_nose_refusal A) (k_pairs_against A) (k_answered A) (k_refused A) (k_best_order A) (k_nothing_needed A)) (by decide) (F.bindsN fun _ _ _ _ _ _ us hl => match us, hl with | [_, _, _], _ => rfl)
theorem deed_answer_follows (A : AllF K mg) : DeedK P w K mg base 6 := by
  obtain ⟨fd, F⟩ := A.c.def_ 59 (d := d_answer_follows) rfl
  have F2 : Fun K "answer_follows" "answer_follows" s_answer_follows (deedA K 6) fd := fun_of F
  exact deed_of F2 (ok_answer_follows (P := P) (w := w) (mg := mg) (base := base) F2 (txt_of A) (k_sound_pair_refusal A) (k_needs_of A) (k_count_before A) (k_answered A) (k_refused A) (k_count_orders A)) (by decide) (F.bindsN fun _ _ _ _ _ _ us hl => match us, hl with | [_, _, _], _ => rfl)
theorem deed_answer_first (A : AllF K mg) : DeedK P w K mg base 7 := by
  obtain ⟨fd, F⟩ := A.c.def_ 60 (d := d_answer_first) rfl
  have F2 : Fun K "answer_first" "answer_first" s_answer_first (deedA K 7) fd := fun_of F
  exact deed_of F2 (ok_answer_first (P := P) (w := w) (mg := mg) (base := base) F2 (txt_of A) (k_sound_refusal A) (k_answered A) (k_refused A) (k_first_order A) (k_needs_of A)) (by decide) (F.bindsN fun _ _ _ _ _ _ us hl => match us, hl with | [_, _, _], _ => rfl)
theorem deed_answer_many (A : AllF K mg) : DeedK P w K mg base 8 := by
  obtain ⟨fd, F⟩ := A.c.def_ 61 (d := d_answer_many) rfl
  have F2 : Fun K "answer_many" "answer_many" s_answer_many (deedA K 8) fd := fun_of F
  exact deed_of F2 (ok_answer_many (P := P) (w := w) (mg := mg) (base := base) F2 (txt_of A) (k_nose_refusal A) (k_answered A) (k_refused A) (k_count_orders A) (k_needs_of A)) (by decide) (F.bindsN fun _ _ _ _ _ _ us hl => match us, hl with | [_, _, _], _ => rfl)
theorem deed_answer_chance (A : AllF K mg) : DeedK P w K mg base 9 := by
  obtain ⟨fd, F⟩ := A.c.def_ 62 (d := d_answer_chance) rfl
  have F2 : Fun K "answer_chance" "answer_chance" s_answer_chance (deedA K 9) fd := fun_of F
  exact deed_of F2 (ok_answer_chance (P := P) (w := w) (mg := mg) (base := base) F2 (txt_of A) (k_sound_pair_refusal A) (k_answered A) (k_refused A) (k_chance_before A) (k_needs_of A)) (by decide) (F.bindsN fun _ _ _ _ _ _ us hl => match us, hl with | [_, _, _], _ => rfl)
theorem deed_answer_place (A : AllF K mg) : DeedK P w K mg base 10 := by
  obtain ⟨fd, F⟩ := A.c.def_ 63 (d := d_answer_place) rfl
  have F2 : Fun K "answer_place" "answer_place" s_answer_place (deedA K 10) fd := fun_of F
  exact deed_of F2 (ok_answer_place (P := P) (w := w) (mg := mg) (base := base) F2 (txt_of A) (k_nose_refusal A) (k_sound_refusal A) (k_answered A) (k_refused A) (k_places A) (k_needs_of A)) (by decide) (F.bindsN fun _ _ _ _ _ _ us hl => match us, hl with | [_, _, _], _ => rfl)
theorem deed_answer_ask (A : AllF K mg) : DeedK P w K mg base 11 := by
  obtain ⟨fd, F⟩ := A.c.def_ 64 (d := d_answer_ask) rfl
  have F2 : Fun K "answer_ask" "answer_ask" s_answer_ask (deedA K 11) fd := fun_of F
  exact deed_of F2 (ok_answer_ask (P := P) (w := w) (mg := mg) (base := base) F2 (txt_of A) (k_sound_refusal A) (k_pair_to_ask A) (k_answered A) (k_refused A) (k_needs_of A)) (by decide) (F.bindsN fun _ _ _ _ _ _ us hl => match us, hl with | [_, _, _], _ => rfl)
theorem deed_answer_agree (A : AllF K mg) : DeedK P w K mg base 12 := by
  obtain ⟨fd, F⟩ := A.c.def_ 74 (d := d_answer_agree) rfl
  have F2 : Fun K "answer_agree" "answer_agree" s_answer_agree (deedA K 12) fd := fun_of F
  exact deed_of F2 (ok_answer_agree (P := P) (w := w) (mg := mg) (base := base) F2 (txt_of A) (k_pairs_of_both A) (k_answered A) (k_nose_refusal A) (k_refused A)) (by decide) (F.bindsN fun _ _ _ _ _ _ us hl => match us, hl with | [_, _, _], _ => rfl)
theorem deed_answer_over (A : AllF K mg) : DeedK P w K mg base 13 := by
  obtain ⟨fd, F⟩ := A.c.def_ 75 (d := d_answer_over) rfl
  have F2 : Fun K "answer_over" "answer_over" s_answer_over (deedA K 13) fd := fun_of F
  exact deed_of F2 (ok_answer_over (P := P) (w := w) (mg := mg) (base := base) F2 (txt_of A) (k_pair_refusal A) (k_answered A) (k_refused A) (k_weight_over A)) (by decide) (F.bindsN fun _ _ _ _ _ _ us hl => match us, hl with | [_, _, _], _ => rfl)
theorem deed_answer_king (A : AllF K mg) : DeedK P w K mg base 14 := by
  obtain ⟨fd, F⟩ := A.c.def_ 77 (d := d_answer_king) rfl
  have F2 : Fun K "answer_king" "answer_king" s_answer_king (deedA K 14) fd := fun_of F
  exact deed_of F2 (ok_answer_king (P := P) (w := w) (mg := mg) (base := base) F2 (txt_of A) (k_weight_table A) (k_answered A) (k_beats_all A)) (by decide) (F.bindsN fun _ _ _ _ _ _ us hl => match us, hl with | [_, _, _], _ => rfl)
theorem deed_answer_against (A : AllF K mg) : DeedK P w K mg base 15 := by
  obtain ⟨fd, F⟩ := A.c.def_ 65 (d := d_answer_against) rfl
  have F2 : Fun K "answer_against" "answer_against" s_answer_against (deedA K 15) fd := fun_of F
  exact deed_of F2 (ok_answer_against (P := P) (w := w) (mg := mg) (base := base) F2 (txt_of A) (k_answered A) (k_refused A) (k_said_against A) (k_weight_table A)) (by decide) (F.bindsN fun _ _ _ _ _ _ us hl => match us, hl with | [_, _, _], _ => rfl)
theorem deed_answer_best (A : AllF K mg) : DeedK P w K mg base 16 := by
  obtain ⟨fd, F⟩ := A.c.def_ 67 (d := d_answer_best) rfl
  have F2 : Fun K "answer_best" "answer_best" s_answer_best (deedA K 16) fd := fun_of F
  exact deed_of F2 (ok_answer_best (P := P) (w := w) (mg := mg) (base := base) F2 (txt_of A) (k_told_best A) (k_nothing_needed A)) (by decide) (F.bindsN fun _ _ _ _ _ _ us hl => match us, hl with | [_, _, _], _ => rfl)
theorem deed_answer_near (A : AllF K mg) : DeedK P w K mg base 17 := by
  obtain ⟨fd, F⟩ := A.c.def_ 68 (d := d_answer_near) rfl
  have F2 : Fun K "answer_near" "answer_near" s_answer_near (deedA K 17) fd := fun_of F
  exact deed_of F2 (ok_answer_near (P := P) (w := w) (mg := mg) (base := base) F2 (txt_of A) (k_sound_refusal A) (k_told_best A) (k_refused A) (k_needs_of A)) (by decide) (F.bindsN fun _ _ _ _ _ _ us hl => match us, hl with | [_, _, _], _ => rfl)
theorem deed_answer_trial (A : AllF K mg) : DeedK P w K mg base 18 := by
  obtain ⟨fd, F⟩ := A.c.def_ 78 (d := d_answer_trial) rfl
  have F2 : Fun K "answer_trial" "answer_trial" s_answer_trial (deedA K 18) fd := fun_of F
  exact deed_of F2 (ok_answer_trial (P := P) (w := w) (mg := mg) (base := base) F2 (txt_of A) (k_nose_pair_refusal A) (k_Panel_keep_trial A) (k_answered A) (k_within A) (k_refused A)) (by decide) (F.bindsN fun _ _ _ _ _ _ us hl => match us, hl with | [_, _, _], _ => rfl)
theorem deed_answer_untry (A : AllF K mg) : DeedK P w K mg base 19 := by
  obtain ⟨fd, F⟩ := A.c.def_ 79 (d := d_answer_untry) rfl
  have F2 : Fun K "answer_untry" "answer_untry" s_answer_untry (deedA K 19) fd := fun_of F
  exact deed_of F2 (ok_answer_untry (P := P) (w := w) (mg := mg) (base := base) F2 (txt_of A) (k_Panel_drop_trial A) (k_answered A) (k_refused A)) (by decide) (F.bindsN fun _ _ _ _ _ _ us hl => match us, hl with | [_, _, _], _ => rfl)
theorem deed_answer_score (A : AllF K mg) : DeedK P w K mg base 20 := by
  obtain ⟨fd, F⟩ := A.c.def_ 81 (d := d_answer_score) rfl
  have F2 : Fun K "answer_score" "answer_score" s_answer_score (deedA K 20) fd := fun_of F
  exact deed_of F2 (ok_answer_score (P := P) (w := w) (mg := mg) (base := base) F2 (txt_of A) (k_nose_refusal A) (k_answered A) (k_refused A) (k_how_many_right A)) (by decide) (F.bindsN fun _ _ _ _ _ _ us hl => match us, hl with | [_, _, _], _ => rfl)
theorem deed_answer_apart (A : AllF K mg) : DeedK P w K mg base 21 := by
  obtain ⟨fd, F⟩ := A.c.def_ 83 (d := d_answer_apart) rfl
  have F2 : Fun K "answer_apart" "answer_apart" s_answer_apart (deedA K 21) fd := fun_of F
  exact deed_of F2 (ok_answer_apart (P := P) (w := w) (mg := mg) (base := base) F2 (txt_of A) (k_pair_refusal A) (k_trials_with A) (k_how_many_right A) (k_answered A) (k_refused A) (k_luck A)) (by decide) (F.bindsN fun _ _ _ _ _ _ us hl => match us, hl with | [_, _, _], _ => rfl)
theorem deed_answer_luck (A : AllF K mg) : DeedK P w K mg base 22 := by
  obtain ⟨fd, F⟩ := A.c.def_ 84 (d := d_answer_luck) rfl
  have F2 : Fun K "answer_luck" "answer_luck" s_answer_luck (deedA K 22) fd := fun_of F
  exact deed_of F2 (ok_answer_luck (P := P) (w := w) (mg := mg) (base := base) F2 (txt_of A) (k_answered A) (k_refused A) (k_luck A) (k_within A)) (by decide) (F.bindsN fun _ _ _ _ _ _ us hl => match us, hl with | [_, _, _], _ => rfl)
theorem deed_answer_need (A : AllF K mg) : DeedK P w K mg base 23 := by
  obtain ⟨fd, F⟩ := A.c.def_ 85 (d := d_answer_need) rfl
  have F2 : Fun K "answer_need" "answer_need" s_answer_need (deedA K 23) fd := fun_of F
  exact deed_of F2 (ok_answer_need (P := P) (w := w) (mg := mg) (base := base) F2 (txt_of A) (k_least_needed A) (k_answered A) (k_refused A) (k_within A)) (by decide) (F.bindsN fun _ _ _ _ _ _ us hl => match us, hl with | [_, _, _], _ => rfl)
theorem deed_answer_sheet (A : AllF K mg) : DeedK P w K mg base 24 := by
  obtain ⟨fd, F⟩ := A.c.def_ 86 (d := d_answer_sheet) rfl
  have F2 : Fun K "answer_sheet" "answer_sheet" s_answer_sheet (deedA K 24) fd := fun_of F
  exact deed_of F2 (ok_answer_sheet (P := P) (w := w) (mg := mg) (base := base) F2 (txt_of A) (k_answered A) (k_plan_rows A) (k_refused A) (k_plan_row A)) (by decide) (F.bindsN fun _ _ _ _ _ _ us hl => match us, hl with | [_, _, _], _ => rfl)
theorem deed_answer_told (A : AllF K mg) : DeedK P w K mg base 25 := by
  obtain ⟨fd, F⟩ := A.c.def_ 87 (d := d_answer_told) rfl
  have F2 : Fun K "answer_told" "answer_told" s_answer_told (deedA K 25) fd := fun_of F
  exact deed_of F2 (ok_answer_told (P := P) (w := w) (mg := mg) (base := base) F2 (txt_of A) (k_answered A) (k_pairs_said A)) (by decide) (F.bindsN fun _ _ _ _ _ _ us hl => match us, hl with | [_, _, _], _ => rfl)
theorem deeds_all (A : AllF K mg) : ∀ i, i < 26 → DeedK P w K mg base i
  | 0, _ => deed_answer_panel A
  | 1, _ => deed_answer_say A
  | 2, _ => deed_answer_unsay A
  | 3, _ => deed_answer_weigh A
  | 4, _ => deed_answer_ring A
  | 5, _ => deed_answer_mend A
  | 6, _ => deed_answer_follows A
  | 7, _ => deed_answer_first A
  | 8, _ => deed_answer_many A
  | 9, _ => deed_answer_chance A
  | 10, _ => deed_answer_place A
  | 11, _ => deed_answer_ask A
  | 12, _ => deed_answer_agree A
  | 13, _ => deed_answer_over A
  | 14, _ => deed_answer_king A
  | 15, _ => deed_answer_against A
  | 16, _ => deed_answer_best A
  | 17, _ => deed_answer_near A
  | 18, _ => deed_answer_trial A
  | 19, _ => deed_answer_untry A
  | 20, _ => deed_answer_score A
  | 21, _ => deed_answer_apart A
  | 22, _ => deed_answer_luck A
  | 23, _ => deed_answer_need A
  | 24, _ => deed_answer_sheet A
  | 25, _ => deed_answer_told A
  | n + 26, h => absurd h (by omega)
theorem k_answer_call (A : AllF K mg) : DefK P w K mg base "answer_call" 9 ["panel", "call", "numbers", "rows"] (sp_answer_call K) := by
  obtain ⟨h, X, G⟩ := A.h
  obtain ⟨fd, F⟩ := A.c.def_ 89 (d := d_answer_call) rfl
  exact ⟨He.ga K "answer_call", fd, He.glo_ok X G (A.c.fact 81 (f := .glo "answer_call") rfl), ok_answer_call (fun_of F) (txt_of A)  (deeds_held fun i hi => deeds_all A i hi), F.kp, F.bindsN fun _ _ _ _ _ _ us hl => match us, hl with | [_, _, _, _], _ => rfl⟩
theorem k_answers (A : AllF K mg) {f : Addr} (hf : mg "answers" = some (.ref f)) : ∃ fd : FuncData, (∀ (s : Shared) (us : List Value), us.length = (["calls"] : List Str).length → BindsTo s fd ⟨us, []⟩ ((["calls"] : List Str).zip us)) ∧
    ∀ (P : Program) (w : World) (base : Heap), FnOk P w K mg base CX0 10 f fd ["calls"] (sp_answers K) := by
  obtain ⟨h, X, G⟩ := A.h
  obtain ⟨fd, F⟩ := A.c.def_ 90 (d := d_answers) rfl
  have e := hf.symm.trans (He.glo_ok X G (A.c.fact 82 (f := .glo "answers") rfl))
  cases e
  exact ⟨fd, fun s us hl => F.bindsA (ps := ["calls"]) (fun _ _ _ _ _ _ us hl => match us, hl with | [_], _ => rfl) s us hl, fun P w base => ok_answers (fun_of F) (txt_of A) (k_Panel_init A) (k_read_call A) (k_answer_call A)⟩
end
end Np
set_option Elab.async false
set_option linter.all false
set_option maxRecDepth 100000
set_option maxHeartbeats 4000000
namespace Np
open PySem PySem.Spec PyProof.Rows L2
/-- what the mathematics gives of what is handed in -/
def Law : Prop := ∀ l : List Int, l.length ≤ 33800 → (∀ x ∈ l, 0 ≤ x ∧ x ≤ 1000000000) → PyWrsctt.answers_asked l = true →
  ∃ (cl : List Nat) (cs : List Call), l = toI cl ∧ Parse cl cs ∧ ReadyA start cs ∧ (toldM (playM start cs)).length ≤ 10000000 ∧ toldM (playM start cs) = PyWrsctt.answers l
theorem hsp (law : Law) (K : PySem.W.Frag) (H : Hp) (xs : List V) (a : PySem.W.Codec.denoteAll R.args) (hO : OnlyF H) (hwi : PySem.W.Codec.withinAll R.args a = true) (hask : PySem.W.Codec.app R.args R.asked a = true) (hx : DwAll K H xs (PySem.W.Codec.encAll R.args a)) :
    sp_answers K xs H (fun v H' => Dw K H' v (R.ret.enc (PySem.W.Codec.app R.args R.f a))) fun _ _ _ => False := by
  cases hx with
  | cons h1 h2 =>
    cases h2
    cases h1 with
    | lst hs ha =>
      have e := ints_dw a.1 _ ha
      subst e
      have q : ((PySem.W.Codec.inLen 0 33800 a.1 && a.1.all (PySem.W.Codec.inInt 0 1000000000)) && true) = true := hwi
      rw [Bool.and_eq_true, Bool.and_eq_true] at q
      have hl := (PySem.W.Codec.inNat_iff.mp q.1.1).2
      have hr : ∀ x ∈ a.1, 0 ≤ x ∧ x ≤ 1000000000 := fun x hx => by
        have z := List.all_eq_true.mp q.1.2 x hx
        unfold PySem.W.Codec.inInt at z
        simpa using z
      obtain ⟨cl, cs, e, hp, hra, hz, ht⟩ := law a.1 hl hr hask
      refine ⟨_, cl, cs, rfl, ?_, ?_, hp, hra, hz, fun g H' eH hg => ?_⟩
      · rw [nL_toI, ← e]
        exact hs
      · have h3 := congrArg List.length e
        unfold toI at h3
        rw [List.length_map] at h3
        have h4 : a.1.length ≤ 33800 := hl
        omega
      · rw [ht] at hg
        exact .lst (SqL.of hg) (dw_ints _)
theorem call_of (law : Law) {q : Program} {XP : (Str → Option Value) → Heap → Prop} {d : DefRec} (hname : d.name = "answers") (hdf : d.params.defaults = []) (hwell : R.wellSaid = true) (hlen : R.args.length = (["calls"] : List Str).length) (hroom : Room 10 callerA) :
    PySem.W.WalkOS q loose XP hk.says R d [] (fun f vs => PySem.call f vs) := by
  intro w s0 s1 mg mb G Y
  obtain ⟨K, KX, c, hex⟩ := Y
  refine walk_specK (r := R) (k := 10) (q := q) (loose := loose) (XP := XP) (YP := fun _ h => K.In h ∧ He.SaysD fa fn K ∧ ex K = true) (d := d) (K := fun _ => K) (CX := CX0) (ps := ["calls"]) (sp := sp_answers) hwell hdf hlen hroom (fun w h Y => Y.1) ?_ (hsp law) (fun _ _ _ _ z => z) w s0 s1 mg mb G ⟨KX, c, hex⟩
  intro w mg f h Y X Gn hmg
  rw [hname] at hmg
  obtain ⟨fd, b, F⟩ := k_answers ⟨⟨h, X, Gn⟩, Y.2.1, Y.2.2⟩ hmg
  exact ⟨fd, b, fun base _ _ => F _ _ base⟩
theorem row_of (law : Law) : R.Holds := by
  refine HandSHeadRun.head_spec (r := R) (q := PySem.W.view R.prog [113]) (H := hk) (ob := ob) (M := 6000) (loose := loose) (d := HandSHeadRun.topDef R.prog 113) (kwd := []) ob_eq
    (by kernel_rfl) (fun s => by kernel_rfl) run (by kernel_rfl) (by kernel_rfl) (by kernel_rfl) (fun as h => PySem.W.os_shapes as h) ?k1 ?ok ?hb ?hw ?hc
  case k1 => decide +kernel
  case ok => decide +kernel
  case hb => exact ⟨rfl, rfl, rfl, rfl, rfl, by decide +kernel⟩
  case hw => exact ⟨[.list [.int 25]], by decide +kernel, by decide +kernel⟩
  case hc => exact call_of law (by kernel_rfl) (by kernel_rfl) (by decide +kernel) rfl ⟨rfl, by decide, by decide⟩
end Np
set_option linter.all false
namespace Np
open SctPanel (says unsaid outside with_ mayCome table atSet waysOf many manyWith firstFrom Said)
/-! ### sets as numbers -/
theorem bits0 {m n : Nat} (hm : m < 2 ^ n) {i : Nat} (hi : n ≤ i) : m.testBit i = false := Nat.testBit_lt_two_pow (Nat.lt_of_lt_of_le hm (Nat.pow_le_pow_right (by decide) hi))
theorem testBit_grown (m x y : Nat) : (grown m x).testBit y = (m.testBit y || decide (x = y)) := by
  unfold grown
  rw [Nat.testBit_or, Nat.testBit_two_pow]
theorem grown_eq {m x : Nat} (h : m.testBit x = false) : grown m x = with_ m x := by
  unfold grown with_
  have hp := Nat.two_pow_pos (x + 1)
  have hm : m = 2 ^ (x + 1) * (m / 2 ^ (x + 1)) + m % 2 ^ (x + 1) := (Nat.div_add_mod m _).symm
  have hr := Nat.mod_lt m hp
  have hb : (m % 2 ^ (x + 1)).testBit x = false := by
    rw [Nat.testBit_mod_two_pow, h, Bool.and_false]
  generalize m % 2 ^ (x + 1) = r at hm hr hb
  generalize m / 2 ^ (x + 1) = q at hm
  have hr2 : r < 2 ^ x := by
    apply Nat.lt_pow_two_of_testBit
    intro i hi
    by_cases e : i = x
    · rw [e]
      exact hb
    · exact bits0 hr (by omega)
  have e1 : 2 ^ x * 1 + r = 2 ^ x * 1 ||| r := Nat.two_pow_add_eq_or_of_lt hr2 1
  rw [Nat.mul_one] at e1
  have e2 : 2 ^ (x + 1) * q + r = 2 ^ (x + 1) * q ||| r := Nat.two_pow_add_eq_or_of_lt hr q
  have e3 : 2 ^ (x + 1) * q + (2 ^ x + r) = 2 ^ (x + 1) * q ||| (2 ^ x + r) := Nat.two_pow_add_eq_or_of_lt (by rw [Nat.pow_succ]; omega) q
  rw [hm]
  rw [e2, Nat.or_assoc, Nat.or_comm r, ← e1, ← e3, ← e2]
  omega
theorem grown_gt {m x : Nat} (h : m.testBit x = false) : m < grown m x := by
  rw [grown_eq h]
  unfold with_
  have := Nat.two_pow_pos x
  omega
theorem grown_ltN {m x n : Nat} (hm : m < 2 ^ n) (hx : x < n) : grown m x < 2 ^ n := Nat.or_lt_two_pow hm (Nat.pow_lt_pow_right (by decide) hx)
theorem bits_lt {m n : Nat} (hm : m < 2 ^ n) {i : Nat} (hi : n ≤ i) : m.testBit i = false := Nat.testBit_lt_two_pow (Nat.lt_of_lt_of_le hm (Nat.pow_le_pow_right (by decide) hi))
/-- not the set of all: one is missing -/
theorem missing {m n : Nat} (hm : m < 2 ^ n) (hne : m ≠ 2 ^ n - 1) : ∃ x, x < n ∧ m.testBit x = false := by
  by_cases h : ∃ x, x < n ∧ m.testBit x = false
  · exact h
  · exfalso
    apply hne
    apply Nat.eq_of_testBit_eq
    intro i
    rw [Nat.testBit_two_pow_sub_one]
    by_cases hi : i < n
    · rw [decide_eq_true hi]
      cases e : m.testBit i with
      | true => rfl
      | false => exact absurd ⟨i, hi, e⟩ h
    · rw [decide_eq_false hi]
      exact bits_lt hm (by omega)
theorem full_bit {n x : Nat} (hx : x < n) : (2 ^ n - 1).testBit x = true := by
  rw [Nat.testBit_two_pow_sub_one, decide_eq_true hx]
/-- downward induction over sets -/
theorem down {n : Nat} {P : Nat → Prop} (h : ∀ m, m < 2 ^ n → (∀ k, m < k → k < 2 ^ n → P k) → P m) : ∀ m, m < 2 ^ n → P m := by
  have g : ∀ d m, 2 ^ n - m ≤ d → m < 2 ^ n → P m := by
    intro d
    induction d with
    | zero => exact fun m h1 h2 => by omega
    | succ d ih => exact fun m h1 h2 => h m h2 fun k h3 h4 => ih k (by omega) h4
  exact fun m hm => g _ m (Nat.le_refl _) hm
theorem mem_outside {n m x : Nat} : x ∈ outside n m ↔ x < n ∧ m.testBit x = false := by
  unfold outside
  rw [List.mem_filter, List.mem_range, Bool.not_eq_true']
/-! ### said -/
/-- pairs of samples below n, each once, none both ways -/
structure WfL (n : Nat) (l : Said) : Prop where
  lt : ∀ p ∈ l, p.1 < n ∧ p.2 < n ∧ p.1 ≠ p.2
  nd : l.Nodup
  anti : ∀ a b, (a, b) ∈ l → (b, a) ∉ l
theorem says_iff {l : Said} {a b : Nat} : says l a b = true ↔ (a, b) ∈ l := by
  unfold says
  rw [List.any_eq_true]
  constructor
  · rintro ⟨⟨x, y⟩, h, e⟩
    rw [Bool.and_eq_true, beq_iff_eq, beq_iff_eq] at e
    obtain ⟨rfl, rfl⟩ := e
    exact h
  · intro h
    exact ⟨(a, b), h, by simp⟩
def fOf (l : Said) : Mx := fun a b => b01 (says l a b)
theorem fOf_one {l : Said} {a b : Nat} : fOf l a b = 1 ↔ (a, b) ∈ l := by
  rw [← says_iff]
  unfold fOf b01
  cases says l a b <;> decide
theorem setOver_bit (f : Mx) (x y : Nat) : ∀ n, (setOver f n x).testBit y = (decide (y < n) && decide (f y x = 1))
  | 0 => by
    show (0 : Nat).testBit y = _
    rw [Nat.zero_testBit, decide_eq_false (Nat.not_lt_zero y)]
    rfl
  | n + 1 => by
    have ih := setOver_bit f x y n
    have e : setOver f (n + 1) x = if f n x = 1 then grown (setOver f n x) n else setOver f n x := rfl
    rw [e]
    by_cases h : f n x = 1
    · rw [if_pos h, testBit_grown, ih]
      by_cases hy : n = y
      · subst hy
        rw [decide_eq_true rfl, Bool.or_true, decide_eq_true (Nat.lt_succ_self n), decide_eq_true h]
        rfl
      · rw [decide_eq_false hy, Bool.or_false]
        congr 1
        exact decide_eq_decide.mpr (by omega)
    · rw [if_neg h, ih]
      by_cases hy : n = y
      · subst hy
        rw [decide_eq_false h, Bool.and_false, Bool.and_false]
      · congr 1
        exact decide_eq_decide.mpr (by omega)
/-- what may come, by the needs -/
structure NdL (nd : List Nat) (n : Nat) (l : Said) : Prop where
  len : nd.length = n
  bit : ∀ x, x < n → ∀ y, (nd.getD x 0).testBit y = decide ((y, x) ∈ l)
  lt : ∀ p ∈ l, p.1 < n ∧ p.2 < n
theorem ndl_needs {n : Nat} {l : Said} (h : ∀ p ∈ l, p.1 < n ∧ p.2 < n) : NdL (needs (fOf l) n) n l := by
  refine ⟨by unfold needs; rw [List.length_map, List.length_range], fun x hx y => ?_, h⟩
  have e : (needs (fOf l) n).getD x 0 = setOver (fOf l) n x := by
    unfold needs
    rw [List.getD_eq_getElem?_getD, List.getElem?_map, List.getElem?_range hx]
    rfl
  rw [e, setOver_bit]
  by_cases hm : (y, x) ∈ l
  · rw [decide_eq_true hm, decide_eq_true (h _ hm).1, decide_eq_true (fOf_one.mpr hm)]
    rfl
  · rw [decide_eq_false hm, decide_eq_false fun z => hm (fOf_one.mp z), Bool.and_false]
theorem ndl_nothing (n : Nat) : NdL (nothing n) n [] := by
  refine ⟨List.length_replicate .., fun x hx y => ?_, fun p hp => by simp at hp⟩
  unfold nothing
  rw [List.getD_eq_getElem?_getD, List.getElem?_replicate, if_pos hx]
  show (0 : Nat).testBit y = _
  rw [Nat.zero_testBit]
  exact (decide_eq_false (by simp)).symm
theorem sub_and {a m : Nat} : (a &&& m = a) ↔ ∀ y, a.testBit y = true → m.testBit y = true := by
  constructor
  · intro h y hy
    rw [← h, Nat.testBit_and, Bool.and_eq_true] at hy
    exact hy.2
  · intro h
    apply Nat.eq_of_testBit_eq
    intro y
    rw [Nat.testBit_and]
    cases e : a.testBit y with
    | false => rfl
    | true => rw [h y e]; rfl
theorem mayF_iff {nd : List Nat} {n : Nat} {l : Said} (N : NdL nd n l) {m x : Nat} (hx : x < n) : mayF nd m x = true ↔ m.testBit x = false ∧ ∀ y, (y, x) ∈ l → m.testBit y = true := by
  unfold mayF
  rw [Bool.and_eq_true, Bool.not_eq_true', decide_eq_true_iff, sub_and]
  refine and_congr Iff.rfl ⟨fun h y hy => h y (by rw [N.bit x hx]; exact decide_eq_true hy), fun h y hy => h y ?_⟩
  rw [N.bit x hx] at hy
  exact of_decide_eq_true hy
theorem mayCome_iff {l : Said} {m x : Nat} : mayCome l m x = true ↔ ∀ y, (y, x) ∈ l → m.testBit y = true := by
  unfold mayCome
  rw [List.all_eq_true]
  constructor
  · intro h y hy
    have z := h (y, x) hy
    simpa using z
  · rintro h ⟨y, z⟩ hy
    by_cases e : z = x
    · subst e
      rw [h y hy]
      simp
    · simp [e]
theorem mayF_eq {nd : List Nat} {n : Nat} {l : Said} (N : NdL nd n l) {m x : Nat} (hx : x < n) : mayF nd m x = (!m.testBit x && mayCome l m x) := by
  rw [Bool.eq_iff_iff, mayF_iff N hx, Bool.and_eq_true, Bool.not_eq_true', mayCome_iff]
/-! ### tables over sets -/
theorem table_size {α : Type} (n : Nat) (last : α) (f : (Nat → α) → Nat → α) : ∀ (k : Nat) (j : Nat), ((List.range' j k).foldr (fun (m : Nat) (r : Array α) => r.push (if m + 1 = 2 ^ n then last else f (fun (k : Nat) => r.getD (2 ^ n - 1 - k) last) m)) #[]).size = k
  | 0, j => rfl
  | k + 1, j => by
    rw [List.range'_succ, List.foldr_cons, Array.size_push, table_size n last f k (j + 1)]
theorem table_at {α : Type} {n : Nat} {last : α} {f : (Nat → α) → Nat → α} (F : Nat → α) (h0 : F (2 ^ n - 1) = last) (h1 : ∀ m, m + 1 < 2 ^ n → ∀ g : Nat → α, (∀ k, m < k → k < 2 ^ n → g k = F k) → f g m = F m) :
    ∀ m, m < 2 ^ n → atSet n last (table n last f) m = F m := by
  have g : ∀ (k j : Nat), j + k = 2 ^ n → ∀ m, j ≤ m → m < 2 ^ n → ((List.range' j k).foldr (fun (m : Nat) (r : Array α) => r.push (if m + 1 = 2 ^ n then last else f (fun (k : Nat) => r.getD (2 ^ n - 1 - k) last) m)) #[]).getD (2 ^ n - 1 - m) last = F m := by
    intro k
    induction k with
    | zero => exact fun j hj m h2 h3 => by omega
    | succ k ih =>
      intro j hj m h2 h3
      have ih := ih (j + 1) (by omega)
      have hs := table_size n last f k (j + 1)
      rw [List.range'_succ, List.foldr_cons]
      generalize hr : (List.range' (j + 1) k).foldr (fun (m : Nat) (r : Array α) => r.push (if m + 1 = 2 ^ n then last else f (fun (k : Nat) => r.getD (2 ^ n - 1 - k) last) m)) #[] = r at ih hs
      rw [Array.getD_eq_getD_getElem?, Array.getElem?_push]
      by_cases e : m = j
      · subst e
        rw [if_pos (by omega)]
        show (if m + 1 = 2 ^ n then last else f _ m) = F m
        by_cases hm : m + 1 = 2 ^ n
        · rw [if_pos hm, ← h0]
          congr 1
          omega
        · rw [if_neg hm]
          exact h1 m (by omega) _ fun k h4 h5 => ih k (by omega) h5
      · rw [if_neg (by omega), ← Array.getD_eq_getD_getElem?]
        exact ih m (by omega) h3
  intro m hm
  unfold atSet table
  rw [List.range_eq_range']
  exact g (2 ^ n) 0 (by omega) m (Nat.zero_le _) hm
end Np
set_option linter.all false
namespace Np
open SctPanel (says unsaid outside with_ mayCome table atSet waysOf many manyWith firstFrom Said)
/-! ### a table's equation -/
def tabF {α : Type} (n : Nat) (last : α) (f : (Nat → α) → Nat → α) (m : Nat) : α :=
  if h : m + 1 < 2 ^ n then f (fun k => if h2 : m < k ∧ k < 2 ^ n then tabF n last f k else last) m else last
termination_by 2 ^ n - m
decreasing_by omega
theorem table_rec {α : Type} {n : Nat} {last : α} {f : (Nat → α) → Nat → α} (h1 : ∀ m, m + 1 < 2 ^ n → ∀ g g' : Nat → α, (∀ k, m < k → k < 2 ^ n → g k = g' k) → f g m = f g' m) :
    atSet n last (table n last f) (2 ^ n - 1) = last ∧ ∀ m, m + 1 < 2 ^ n → atSet n last (table n last f) m = f (atSet n last (table n last f)) m := by
  have hp := Nat.two_pow_pos n
  have key := table_at (n := n) (last := last) (f := f) (tabF n last f) (by rw [tabF, dif_neg (by omega)]) fun m hm g hg => by
    rw [tabF, dif_pos hm]
    exact h1 m hm _ _ fun k h2 h3 => by
      rw [hg k h2 h3]
      show _ = dite _ _ _
      rw [dif_pos ⟨h2, h3⟩]
  refine ⟨by rw [key _ (by omega), tabF, dif_neg (by omega)], fun m hm => ?_⟩
  rw [key m (by omega), tabF, dif_pos hm]
  exact h1 m hm _ _ fun k h2 h3 => by
    rw [key k h3]
    show dite _ _ _ = _
    rw [dif_pos ⟨h2, h3⟩]
/-! ### sums -/
def S (n : Nat) (g : Nat → Nat) : Nat := ((List.range n).map g).sum
theorem S_succ (n : Nat) (g : Nat → Nat) : S (n + 1) g = S n g + g n := by
  unfold S
  rw [List.range_succ, List.map_append, List.sum_append]
  simp
theorem S_congr {n : Nat} {g h : Nat → Nat} (e : ∀ i, i < n → g i = h i) : S n g = S n h := by
  unfold S
  rw [List.map_congr_left fun i hi => e i (List.mem_range.mp hi)]
theorem S_add (n : Nat) (g h : Nat → Nat) : S n (fun i => g i + h i) = S n g + S n h := by
  induction n with
  | zero => rfl
  | succ n ih => rw [S_succ, S_succ, S_succ, ih]; omega
theorem S_mul (n c : Nat) (g : Nat → Nat) : S n (fun i => c * g i) = c * S n g := by
  induction n with
  | zero => rfl
  | succ n ih => rw [S_succ, S_succ, ih, Nat.mul_add]
theorem S_zero (n : Nat) : S n (fun _ => 0) = 0 := by
  induction n with
  | zero => rfl
  | succ n ih => rw [S_succ, ih]
theorem S_le {n : Nat} {g h : Nat → Nat} (e : ∀ i, i < n → g i ≤ h i) : S n g ≤ S n h := by
  induction n with
  | zero => exact Nat.le_refl _
  | succ n ih =>
    rw [S_succ, S_succ]
    exact Nat.add_le_add (ih fun i hi => e i (by omega)) (e n (by omega))
theorem S_const (n c : Nat) : S n (fun _ => c) = n * c := by
  induction n with
  | zero => simp [S]
  | succ n ih => rw [S_succ, ih, Nat.succ_mul]
theorem S_pos {n : Nat} {g : Nat → Nat} {i : Nat} (hi : i < n) (h : 0 < g i) : 0 < S n g := by
  induction n with
  | zero => omega
  | succ n ih =>
    rw [S_succ]
    by_cases e : i = n
    · subst e
      omega
    · have := ih (by omega)
      omega
/-- one place of many raised -/
theorem S_bump {n g c : Nat} {a : Nat → Nat} (h : g < n) : S n (fun m => if m = g then a m + c else a m) = S n a + c := by
  induction n with
  | zero => omega
  | succ n ih =>
    rw [S_succ, S_succ]
    by_cases e : g = n
    · subst e
      rw [if_pos rfl, S_congr (h := a) fun i hi => if_neg (by omega)]
      omega
    · rw [ih (by omega), if_neg (Ne.symm e)]
      omega
theorem sum_filter {l : List Nat} {p : Nat → Bool} {g : Nat → Nat} : ((l.filter p).map g).sum = (l.map fun x => if p x = true then g x else 0).sum := by
  induction l with
  | nil => rfl
  | cons x r ih =>
    rw [List.filter_cons, List.map_cons, List.sum_cons]
    by_cases h : p x = true
    · rw [if_pos h, if_pos h, List.map_cons, List.sum_cons, ih]
    · rw [if_neg h, if_neg h, ih]
      omega
/-! ### the ways behind a set -/
def Bw (l : Said) (n m : Nat) : Nat := atSet n 1 (waysOf l n) m
theorem Bw_rec (l : Said) (n : Nat) : Bw l n (2 ^ n - 1) = 1 ∧ ∀ m, m + 1 < 2 ^ n → Bw l n m = S n fun x => if m.testBit x = false ∧ mayCome l m x = true then Bw l n (grown m x) else 0 := by
  have t := table_rec (n := n) (last := 1) (f := fun (g : Nat → Nat) (m : Nat) => ((outside n m).map fun (x : Nat) => if mayCome l m x = true then g (with_ m x) else 0).sum) fun m hm g g' hg => by
    show (List.map _ _).sum = (List.map _ _).sum
    rw [List.map_congr_left fun x hx => ?_]
    obtain ⟨h1, h2⟩ := mem_outside.mp hx
    rw [hg (with_ m x) (by rw [← grown_eq h2]; exact grown_gt h2) (by rw [← grown_eq h2]; exact grown_ltN (by omega) h1)]
  refine ⟨t.1, fun m hm => (t.2 m hm).trans ?_⟩
  show ((outside n m).map fun (x : Nat) => if mayCome l m x = true then Bw l n (with_ m x) else 0).sum = _
  unfold outside
  rw [sum_filter]
  unfold S
  rw [List.map_congr_left fun x hx => ?_]
  cases hb : m.testBit x with
  | true => rw [if_neg (by decide), if_neg (by simp)]
  | false =>
    rw [if_pos (by decide)]
    by_cases hc : mayCome l m x = true
    · rw [if_pos hc, if_pos ⟨rfl, hc⟩, grown_eq hb]
    · rw [if_neg hc, if_neg fun z => hc z.2]
theorem many_eq (l : Said) (n : Nat) : many l n = Bw l n 0 := rfl
theorem Bw_mayF {nd : List Nat} {n : Nat} {l : Said} (N : NdL nd n l) {m : Nat} (hm : m + 1 < 2 ^ n) : Bw l n m = S n fun x => if mayF nd m x = true then Bw l n (grown m x) else 0 := by
  rw [(Bw_rec l n).2 m hm]
  refine S_congr fun x hx => ?_
  simp only [mayF_eq N hx, Bool.and_eq_true, Bool.not_eq_true']
/-! ### the count: what is summed stays -/
def Phi (n k : Nat) (w : List Nat) (B : Nat → Nat) : Nat := S (2 ^ n) fun m => if k ≤ m then w.getD m 0 * B m else 0
theorem getD_set {w : List Nat} {g m v : Nat} (h : g < w.length) : (w.set g v).getD m 0 = if m = g then v else w.getD m 0 := by
  rw [List.getD_eq_getElem?_getD, List.getD_eq_getElem?_getD]
  by_cases e : m = g
  · subst e
    rw [List.getElem?_set_self h, if_pos rfl]
    rfl
  · rw [List.getElem?_set_ne (Ne.symm e), if_neg e]
theorem Phi_set {n k g v : Nat} {w : List Nat} {B : Nat → Nat} (hw : w.length = 2 ^ n) (hg : g < 2 ^ n) (hk : k ≤ g) : Phi n k (w.set g (w.getD g 0 + v)) B = Phi n k w B + v * B g := by
  unfold Phi
  rw [← S_bump (a := fun m => if k ≤ m then w.getD m 0 * B m else 0) hg]
  refine S_congr fun m hm => ?_
  rw [getD_set (by omega)]
  by_cases e : m = g
  · subst e
    rw [if_pos rfl, if_pos hk, if_pos rfl, if_pos hk, Nat.add_mul]
  · rw [if_neg e, if_neg e]
theorem waysIn_ok {nd : List Nat} {n m : Nat} {l : Said} (N : NdL nd n l) (hm : m < 2 ^ n) (B : Nat → Nat) (w : List Nat) (hw : w.length = 2 ^ n) : ∀ i, i ≤ n → (waysIn nd m w i).length = 2 ^ n ∧ (waysIn nd m w i).getD m 0 = w.getD m 0 ∧
    Phi n (m + 1) (waysIn nd m w i) B = Phi n (m + 1) w B + w.getD m 0 * S i fun x => if mayF nd m x = true then B (grown m x) else 0
  | 0, _ => ⟨hw, rfl, by show Phi n (m + 1) w B = _; simp [S]⟩
  | i + 1, hi => by
    obtain ⟨h1, h2, h3⟩ := waysIn_ok N hm B w hw i (by omega)
    have e : waysIn nd m w (i + 1) = if mayF nd m i = true then (waysIn nd m w i).set (grown m i) ((waysIn nd m w i).getD (grown m i) 0 + (waysIn nd m w i).getD m 0) else waysIn nd m w i := rfl
    rw [e, S_succ]
    by_cases hf : mayF nd m i = true
    · rw [if_pos hf]
      have hb := ((mayF_iff N (by omega : i < n)).mp hf).1
      have hgt := grown_gt hb
      have hlt := grown_ltN hm (by omega : i < n)
      refine ⟨by rw [List.length_set, h1], ?_, ?_⟩
      · rw [getD_set (by omega), if_neg (by omega), h2]
      · rw [Phi_set h1 hlt (by omega), h3, h2, if_pos hf, Nat.mul_add]
        omega
    · rw [if_neg hf]
      refine ⟨h1, h2, ?_⟩
      rw [h3, if_neg hf]
      rfl
theorem Phi_split {n m : Nat} {w : List Nat} {B : Nat → Nat} (hm : m < 2 ^ n) : Phi n m w B = Phi n (m + 1) w B + w.getD m 0 * B m := by
  unfold Phi
  rw [← S_bump (a := fun k => if m + 1 ≤ k then w.getD k 0 * B k else 0) hm]
  refine S_congr fun k hk => ?_
  by_cases e : k = m
  · subst e
    rw [if_pos (Nat.le_refl _), if_pos rfl, if_neg (by omega), Nat.zero_add]
  · rw [if_neg e]
    by_cases h : m ≤ k
    · rw [if_pos h, if_pos (by omega)]
    · rw [if_neg h, if_neg (by omega)]
theorem ways_ok {nd : List Nat} {n : Nat} {l : Said} (N : NdL nd n l) : ∀ k, k + 1 ≤ 2 ^ n → (ways nd k).length = 2 ^ n ∧ Phi n k (ways nd k) (Bw l n) = Bw l n 0
  | 0, _ => by
    have hp := Nat.two_pow_pos n
    have e : ways nd 0 = (List.replicate (2 ^ n) 0).set 0 1 := by
      show ways0 nd.length = _
      unfold ways0
      rw [N.len]
    rw [e]
    refine ⟨by rw [List.length_set, List.length_replicate], ?_⟩
    unfold Phi
    have h := S_bump (n := 2 ^ n) (g := 0) (c := Bw l n 0) (a := fun _ => 0) hp
    rw [S_zero, Nat.zero_add] at h
    rw [← h]
    refine S_congr fun m hm => ?_
    rw [if_pos (Nat.zero_le _), getD_set (by rw [List.length_replicate]; exact hp)]
    by_cases e : m = 0
    · subst e
      rw [if_pos rfl, if_pos rfl, Nat.one_mul]
    · rw [if_neg e, if_neg e, List.getD_eq_getElem?_getD, List.getElem?_replicate, if_pos hm]
      exact Nat.zero_mul _
  | k + 1, hk => by
    obtain ⟨h1, h2⟩ := ways_ok N k (by omega)
    have e : ways nd (k + 1) = waysIn nd k (ways nd k) n := by
      show waysIn nd k (ways nd k) nd.length = _
      rw [N.len]
    obtain ⟨g1, _, g3⟩ := waysIn_ok N (by omega : k < 2 ^ n) (Bw l n) (ways nd k) h1 n (Nat.le_refl _)
    rw [e]
    refine ⟨g1, ?_⟩
    rw [g3, ← Bw_mayF N (by omega), ← Phi_split (by omega), h2]
/-- the program's count is the count of orders -/
theorem cnt_eq {nd : List Nat} {n : Nat} {l : Said} (N : NdL nd n l) : cnt nd = many l n := by
  have hp := Nat.two_pow_pos n
  obtain ⟨_, h⟩ := ways_ok N (2 ^ n - 1) (by omega)
  rw [many_eq, ← h, Phi_split (by omega), (Bw_rec l n).1]
  unfold Phi cnt every
  rw [N.len, S_congr (h := fun _ => 0) fun m hm => if_neg (by omega), S_zero, Nat.zero_add, Nat.mul_one]
end Np
set_option linter.all false
namespace Np
open SctPanel (says unsaid outside with_ mayCome table atSet waysOf many manyWith firstFrom Said)
/-! ### either way round -/
theorem Bw_extra {l : Said} {n a b : Nat} : ∀ m, m < 2 ^ n → (m.testBit a = true ∨ m.testBit b = true) → Bw ((a, b) :: l) n m = Bw l n m := by
  refine down fun m hm ih h => ?_
  by_cases hf : m + 1 < 2 ^ n
  · rw [(Bw_rec _ n).2 m hf, (Bw_rec _ n).2 m hf]
    refine S_congr fun x hx => ?_
    cases hb : m.testBit x with
    | true => rw [if_neg (by simp), if_neg (by simp)]
    | false =>
      have hc : mayCome ((a, b) :: l) m x = mayCome l m x := by
        rw [Bool.eq_iff_iff, mayCome_iff, mayCome_iff]
        constructor
        · exact fun z y hy => z y (List.mem_cons_of_mem _ hy)
        · intro z y hy
          rcases List.mem_cons.mp hy with e | e
          · injection e with e1 e2
            subst e1 e2
            rcases h with h | h
            · exact h
            · rw [hb] at h
              cases h
          · exact z y e
      rw [hc]
      by_cases hq : mayCome l m x = true
      · rw [if_pos ⟨rfl, hq⟩, if_pos ⟨rfl, hq⟩]
        refine ih _ (grown_gt hb) (grown_ltN hm hx) ?_
        rcases h with h | h
        · exact .inl (by rw [testBit_grown, h]; rfl)
        · exact .inr (by rw [testBit_grown, h]; rfl)
      · rw [if_neg fun z => hq z.2, if_neg fun z => hq z.2]
  · have e : m = 2 ^ n - 1 := by omega
    rw [e, (Bw_rec _ n).1, (Bw_rec _ n).1]
theorem Bw_split {l : Said} {n a b : Nat} (ha : a < n) (hb : b < n) (hne : a ≠ b) : ∀ m, m < 2 ^ n → m.testBit a = false → m.testBit b = false → Bw l n m = Bw ((a, b) :: l) n m + Bw ((b, a) :: l) n m := by
  refine down fun m hm ih h1 h2 => ?_
  have hf : m + 1 < 2 ^ n := by
    apply Nat.lt_of_not_le
    intro z
    have e : m = 2 ^ n - 1 := by omega
    rw [e, full_bit ha] at h1
    cases h1
  rw [(Bw_rec _ n).2 m hf, (Bw_rec _ n).2 m hf, (Bw_rec _ n).2 m hf, ← S_add]
  refine S_congr fun x hx => ?_
  cases hbx : m.testBit x with
  | true => rw [if_neg (by simp), if_neg (by simp), if_neg (by simp)]
  | false =>
    have other : ∀ a b : Nat, x ≠ b → mayCome ((a, b) :: l) m x = mayCome l m x := fun a b hxb => by
      rw [Bool.eq_iff_iff, mayCome_iff, mayCome_iff]
      constructor
      · exact fun z y hy => z y (List.mem_cons_of_mem _ hy)
      · intro z y hy
        rcases List.mem_cons.mp hy with e | e
        · injection e with e1 e2
          exact absurd e2 hxb
        · exact z y e
    have barred : ∀ a : Nat, m.testBit a = false → mayCome ((a, x) :: l) m x = false := fun a h => by
      cases e : mayCome ((a, x) :: l) m x with
      | false => rfl
      | true =>
        have := mayCome_iff.mp e a List.mem_cons_self
        rw [h] at this
        cases this
    have hg := grown_gt hbx
    have hl := grown_ltN hm hx
    by_cases hxa : x = a
    · subst hxa
      rw [other x b hne, barred b h2, if_neg (c := false = false ∧ false = true) (by simp), Nat.add_zero]
      by_cases hq : mayCome l m x = true
      · rw [if_pos ⟨rfl, hq⟩, if_pos ⟨rfl, hq⟩]
        exact (Bw_extra _ hl (.inl (by rw [testBit_grown, decide_eq_true rfl, Bool.or_true]))).symm
      · rw [if_neg fun z => hq z.2, if_neg fun z => hq z.2]
    · by_cases hxb : x = b
      · subst hxb
        rw [other x a hxa, barred a h1, if_neg (c := false = false ∧ false = true) (by simp), Nat.zero_add]
        by_cases hq : mayCome l m x = true
        · rw [if_pos ⟨rfl, hq⟩, if_pos ⟨rfl, hq⟩]
          exact (Bw_extra _ hl (.inl (by rw [testBit_grown, decide_eq_true rfl, Bool.or_true]))).symm
        · rw [if_neg fun z => hq z.2, if_neg fun z => hq z.2]
      · rw [other a b hxb, other b a hxa]
        by_cases hq : mayCome l m x = true
        · rw [if_pos ⟨rfl, hq⟩, if_pos ⟨rfl, hq⟩, if_pos ⟨rfl, hq⟩]
          exact ih _ hg hl (by rw [testBit_grown, h1, decide_eq_false hxa]; rfl) (by rw [testBit_grown, h2, decide_eq_false hxb]; rfl)
        · rw [if_neg fun z => hq z.2, if_neg fun z => hq z.2, if_neg fun z => hq z.2]
theorem many_split {l : Said} {n a b : Nat} (ha : a < n) (hb : b < n) (hne : a ≠ b) : many l n = manyWith l n a b + manyWith l n b a :=
  Bw_split ha hb hne 0 (Nat.two_pow_pos n) (Nat.zero_testBit _) (Nat.zero_testBit _)
theorem ndl_set {nd : List Nat} {n : Nat} {l : Said} (N : NdL nd n l) {a b : Nat} (ha : a < n) (hb : b < n) : NdL (nd.set b (grown (nd.getD b 0) a)) n ((a, b) :: l) := by
  refine ⟨by rw [List.length_set, N.len], fun x hx y => ?_, fun p hp => ?_⟩
  · rw [getD_set (by rw [N.len]; exact hb)]
    by_cases e : x = b
    · subst e
      rw [if_pos rfl, testBit_grown, N.bit x hx]
      by_cases h1 : (y, x) ∈ l
      · rw [decide_eq_true h1, decide_eq_true (List.mem_cons_of_mem _ h1)]
        rfl
      · by_cases h2 : a = y
        · subst h2
          rw [decide_eq_true rfl, Bool.or_true, decide_eq_true List.mem_cons_self]
        · rw [decide_eq_false h1, decide_eq_false h2, decide_eq_false]
          · rfl
          · intro z
            rcases List.mem_cons.mp z with z | z
            · injection z with z1 z2
              exact h2 z1.symm
            · exact h1 z
    · rw [if_neg e, N.bit x hx]
      refine decide_eq_decide.mpr ⟨fun z => List.mem_cons_of_mem _ z, fun z => ?_⟩
      rcases List.mem_cons.mp z with z | z
      · injection z with z1 z2
        exact absurd z2 e
      · exact z
  · rcases List.mem_cons.mp hp with z | z
    · rw [z]
      exact ⟨ha, hb⟩
    · exact N.lt p z
theorem cntB_eq {nd : List Nat} {n : Nat} {l : Said} (N : NdL nd n l) {a b : Nat} (ha : a < n) (hb : b < n) : cntB nd a b = manyWith l n a b := cnt_eq (ndl_set N ha hb)
/-! ### few enough -/
theorem filter_ne_len {x : Nat} : ∀ {l : List Nat}, l.Nodup → x ∈ l → (l.filter fun y => !decide (y = x)).length + 1 = l.length
  | [], _, h => by simp at h
  | y :: r, nd, h => by
    obtain ⟨h1, h2⟩ := List.nodup_cons.mp nd
    rw [List.filter_cons]
    by_cases e : y = x
    · subst e
      rw [decide_eq_true rfl, if_neg (by decide), List.length_cons, List.filter_eq_self.mpr]
      intro z hz
      rw [decide_eq_false fun q => h1 (by rw [← q]; exact hz)]
      rfl
    · rcases List.mem_cons.mp h with z | z
      · exact absurd z.symm e
      · rw [decide_eq_false e, if_pos (show (!false) = true from rfl), List.length_cons, List.length_cons, filter_ne_len h2 z]
theorem outside_nodup (n m : Nat) : (outside n m).Nodup := List.Pairwise.filter _ List.nodup_range
theorem outside_grown {n m x : Nat} (hx : x ∈ outside n m) : (outside n (grown m x)).length + 1 = (outside n m).length := by
  rw [← filter_ne_len (outside_nodup n m) hx]
  congr 2
  unfold outside
  rw [List.filter_filter]
  refine List.filter_congr fun y _ => ?_
  rw [testBit_grown]
  by_cases e : y = x
  · subst e
    rw [decide_eq_true rfl, Bool.or_true]
    rfl
  · rw [decide_eq_false e, decide_eq_false (Ne.symm e), Bool.or_false]
    rfl
theorem Bw_le {l : Said} {n : Nat} (hn : 0 < n) : ∀ m, m < 2 ^ n → Bw l n m ≤ n ^ (outside n m).length := by
  refine down fun m hm ih => ?_
  by_cases hf : m + 1 < 2 ^ n
  · rw [(Bw_rec _ n).2 m hf]
    obtain ⟨x0, h1, h2⟩ := missing hm (by omega)
    have h3 := outside_grown (mem_outside.mpr ⟨h1, h2⟩)
    have : S n (fun x => if m.testBit x = false ∧ mayCome l m x = true then Bw l n (grown m x) else 0) ≤ S n fun _ => n ^ (outside n (grown m x0)).length := by
      refine S_le fun x hx => ?_
      split
      · rename_i hq
        have h4 := outside_grown (mem_outside.mpr ⟨hx, hq.1⟩)
        rw [show (outside n (grown m x0)).length = (outside n (grown m x)).length by omega]
        exact ih _ (grown_gt hq.1) (grown_ltN hm hx)
      · exact Nat.zero_le _
    rw [S_const] at this
    rw [← h3, Nat.pow_succ, Nat.mul_comm]
    exact this
  · rw [show m = 2 ^ n - 1 by omega, (Bw_rec _ n).1]
    exact Nat.one_le_pow _ _ hn
theorem outside_len (n m : Nat) : (outside n m).length ≤ n := by
  unfold outside
  have := List.length_filter_le (fun x => !m.testBit x) (List.range n)
  rw [List.length_range] at this
  exact this
theorem many_lt {l : Said} {n : Nat} (hn : n ≤ 8) : many l n < 2 ^ 100 := by
  by_cases h0 : n = 0
  · subst h0
    have e : many l 0 = 1 := (Bw_rec l 0).1
    rw [e]
    decide
  · have h1 := Bw_le (l := l) (Nat.pos_of_ne_zero h0) 0 (Nat.two_pow_pos n)
    have h2 : n ^ (outside n 0).length ≤ 8 ^ (outside n 0).length := Nat.pow_le_pow_left hn _
    have h3 : 8 ^ (outside n 0).length ≤ 8 ^ 8 := Nat.pow_le_pow_right (by decide) (Nat.le_trans (outside_len n 0) hn)
    exact Nat.lt_of_le_of_lt (Nat.le_trans h1 (Nat.le_trans h2 h3)) (by decide)
/-! ### none, where some follow each other round -/
/-- samples of which each has another one of them said over it -/
structure Round (l : Said) (n : Nat) (C : Nat → Prop) : Prop where
  some_ : ∃ x, C x
  lt : ∀ x, C x → x < n
  pre : ∀ x, C x → ∃ y, C y ∧ (y, x) ∈ l
theorem Bw_round {l : Said} {n : Nat} {C : Nat → Prop} (R : Round l n C) : ∀ m, m < 2 ^ n → (∀ x, C x → m.testBit x = false) → Bw l n m = 0 := by
  refine down fun m hm ih h => ?_
  obtain ⟨x0, hx0⟩ := R.some_
  have hf : m + 1 < 2 ^ n := by
    apply Nat.lt_of_not_le
    intro z
    have e : m = 2 ^ n - 1 := by omega
    have := h x0 hx0
    rw [e, full_bit (R.lt x0 hx0)] at this
    cases this
  rw [(Bw_rec _ n).2 m hf]
  refine Eq.trans (S_congr (h := fun _ => 0) fun x hx => ?_) (S_zero n)
  by_cases hq : m.testBit x = false ∧ mayCome l m x = true
  · rw [if_pos hq]
    refine ih _ (grown_gt hq.1) (grown_ltN hm hx) fun y hy => ?_
    rw [testBit_grown, h y hy]
    by_cases e : x = y
    · subst e
      obtain ⟨z, hz, hzx⟩ := R.pre x hy
      have := mayCome_iff.mp hq.2 z hzx
      rw [h z hz] at this
      cases this
    · rw [decide_eq_false e]
      rfl
  · rw [if_neg hq]
theorem next_of {l : Said} {n : Nat} (hl : ∀ p ∈ l, p.1 < n ∧ p.2 < n) (h : ¬ ∃ C, Round l n C) {m : Nat} (hm : m < 2 ^ n) (hne : m ≠ 2 ^ n - 1) : ∃ x, x < n ∧ m.testBit x = false ∧ mayCome l m x = true := by
  apply Classical.byContradiction
  intro hno
  apply h
  refine ⟨fun x => x < n ∧ m.testBit x = false, missing hm hne, fun x hx => hx.1, fun x hx => ?_⟩
  apply Classical.byContradiction
  intro hn2
  apply hno
  refine ⟨x, hx.1, hx.2, mayCome_iff.mpr fun y hy => ?_⟩
  cases e : m.testBit y with
  | true => rfl
  | false => exact absurd ⟨y, ⟨(hl _ hy).1, e⟩, hy⟩ hn2
theorem Bw_pos {l : Said} {n : Nat} (hl : ∀ p ∈ l, p.1 < n ∧ p.2 < n) (h : ¬ ∃ C, Round l n C) : ∀ m, m < 2 ^ n → 0 < Bw l n m := by
  refine down fun m hm ih => ?_
  by_cases hf : m + 1 < 2 ^ n
  · rw [(Bw_rec _ n).2 m hf]
    obtain ⟨x, h1, h2, h3⟩ := next_of hl h hm (by omega)
    exact S_pos h1 (by rw [if_pos ⟨h2, h3⟩]; exact ih _ (grown_gt h2) (grown_ltN hm h1))
  · rw [show m = 2 ^ n - 1 by omega, (Bw_rec _ n).1]
    decide
theorem many_round {l : Said} {n : Nat} (hl : ∀ p ∈ l, p.1 < n ∧ p.2 < n) : many l n = 0 ↔ ∃ C, Round l n C := by
  constructor
  · intro h
    apply Classical.byContradiction
    intro hn
    have := Bw_pos hl hn 0 (Nat.two_pow_pos n)
    rw [many_eq] at h
    omega
  · rintro ⟨C, R⟩
    exact Bw_round R 0 (Nat.two_pow_pos n) fun x _ => Nat.zero_testBit x
end Np
set_option linter.all false
namespace Np
open SctPanel (says unsaid outside with_ mayCome table atSet waysOf many manyWith firstFrom Said ringFrom ringOf)
/-! ### rings: by breadth, by depth -/
def rowsD (f : Mx) (n s : Nat) : Nat → List Nat → List (List Nat)
  | 0, r => [r]
  | k + 1, r => ((above n s).filter (okNext f r)).flatMap fun x => rowsD f n s k (r ++ [x])
theorem find_flatMap {α β : Type} (g : α → List β) (p : β → Bool) : ∀ l : List α, (l.flatMap g).find? p = l.findSome? fun x => (g x).find? p
  | [] => rfl
  | x :: r => by
    rw [List.flatMap_cons, List.find?_append, List.findSome?_cons, find_flatMap g p r]
    cases (g x).find? p <;> rfl
theorem findSome_filter {α β : Type} (q : α → Bool) (g : α → Option β) : ∀ l : List α, (l.filter q).findSome? g = l.findSome? fun x => if q x = true then g x else none
  | [] => rfl
  | x :: r => by
    rw [List.filter_cons, List.findSome?_cons]
    by_cases h : q x = true
    · rw [if_pos h, if_pos h, List.findSome?_cons, findSome_filter q g r]
    · rw [if_neg h, if_neg h, findSome_filter q g r]
theorem findSome_congr {α β : Type} {g h : α → Option β} : ∀ {l : List α}, (∀ x ∈ l, g x = h x) → l.findSome? g = l.findSome? h
  | [], _ => rfl
  | x :: r, e => by
    rw [List.findSome?_cons, List.findSome?_cons, e x List.mem_cons_self, findSome_congr fun y hy => e y (List.mem_cons_of_mem _ hy)]
theorem rowsD_head (f : Mx) (n s : Nat) : ∀ (k : Nat) (r : List Nat), r ≠ [] → ∀ row ∈ rowsD f n s k r, row.headD 0 = r.headD 0 ∧ row ≠ []
  | 0, r, h, row, hr => by
    rw [List.mem_singleton.mp hr]
    exact ⟨rfl, h⟩
  | k + 1, r, h, row, hr => by
    obtain ⟨x, _, hx⟩ := List.mem_flatMap.mp hr
    obtain ⟨h1, h2⟩ := rowsD_head f n s k (r ++ [x]) (by simp) row hx
    refine ⟨h1.trans ?_, h2⟩
    cases r with
    | nil => exact absurd rfl h
    | cons a t => rfl
theorem flatMap_one {α β : Type} (g : α → β) : ∀ l : List α, l.flatMap (fun x => [g x]) = l.map g
  | [] => rfl
  | x :: r => by
    rw [List.flatMap_cons, List.map_cons, flatMap_one g r]
    rfl
theorem rowsD_succ (f : Mx) (n s : Nat) : ∀ (k : Nat) (r : List Nat), rowsD f n s (k + 1) r = (rowsD f n s k r).flatMap fun row => extend f row (above n s)
  | 0, r => by
    show ((above n s).filter (okNext f r)).flatMap (fun x => [r ++ [x]]) = ([r] : List (List Nat)).flatMap _
    rw [List.flatMap_cons, List.flatMap_nil, List.append_nil, flatMap_one]
    rfl
  | k + 1, r => by
    have e : rowsD f n s (k + 2) r = ((above n s).filter (okNext f r)).flatMap fun x => rowsD f n s (k + 1) (r ++ [x]) := rfl
    have e2 : rowsD f n s (k + 1) r = ((above n s).filter (okNext f r)).flatMap fun x => rowsD f n s k (r ++ [x]) := rfl
    rw [e, e2, List.flatMap_assoc]
    congr 1
    funext x
    exact rowsD_succ f n s k (r ++ [x])
theorem rowsAt_D (f : Mx) (n : Nat) : ∀ k, rowsAt f n k = (List.range n).flatMap fun s => rowsD f n s k [s]
  | 0 => by
    show (List.range n).map _ = _
    rw [← flatMap_one]
    rfl
  | k + 1 => by
    show longer f n (rowsAt f n k) = _
    unfold longer
    rw [rowsAt_D f n k, List.flatMap_assoc]
    congr 1
    funext s
    rw [rowsD_succ]
    rw [List.flatMap_def, List.flatMap_def, List.map_congr_left fun row hr => ?_]
    rw [(rowsD_head f n s k [s] (by simp) row hr).1]
    rfl
theorem range_above {n s : Nat} (h : s < n) : List.range n = List.range (s + 1) ++ above n s := by
  unfold above
  have e : n = (s + 1) + (n - (s + 1)) := by omega
  rw [List.range_eq_range', List.range_eq_range']
  conv => lhs; rw [e]
  rw [← List.range'_append_1, Nat.zero_add]
theorem says_f (l : Said) (a b : Nat) : decide (fOf l a b = 1) = says l a b := by
  unfold fOf b01
  cases says l a b <;> rfl
theorem ringFrom_D (l : Said) (n s : Nat) (hs : s < n) : ∀ (k : Nat) (r : List Nat), r ≠ [] → r.reverse.headD 0 = s → ringFrom l n s k r = (rowsD (fOf l) n s k r.reverse).find? (closing (fOf l))
  | 0, r, hr, hh => by
    show (if says l (r.headD 0) s = true then some r.reverse else none) = ([r.reverse] : List (List Nat)).find? (closing (fOf l))
    have e : closing (fOf l) r.reverse = says l (r.headD 0) s := by
      unfold closing
      rw [hh, says_f]
      congr 1
      cases r with
      | nil => exact absurd rfl hr
      | cons a t => simp
    rw [List.find?_cons, List.find?_nil, e]
    cases says l (r.headD 0) s <;> rfl
  | k + 1, r, hr, hh => by
    have ih := ringFrom_D l n s hs k
    show ((List.range n).findSome? fun (x : Nat) => if s < x ∧ r.contains x = false ∧ says l (r.headD 0) x = true then ringFrom l n s k (x :: r) else none) = (((above n s).filter (okNext (fOf l) r.reverse)).flatMap fun x => rowsD (fOf l) n s k (r.reverse ++ [x])).find? _
    rw [find_flatMap, findSome_filter, range_above hs, List.findSome?_append]
    rw [List.findSome?_eq_none_iff.mpr fun x hx => if_neg fun z => by
      have := List.mem_range.mp hx
      omega]
    show (List.findSome? _ _) = _
    refine findSome_congr fun x hx => ?_
    have hsx : s < x := by
      unfold above at hx
      rw [List.mem_range'_1] at hx
      omega
    have eo : okNext (fOf l) r.reverse x = (says l (r.headD 0) x && !r.contains x) := by
      unfold okNext
      rw [says_f]
      congr 2
      · cases r with
        | nil => exact absurd rfl hr
        | cons a t => simp
      · rw [Bool.eq_iff_iff, List.contains_iff_mem, List.contains_iff_mem, List.mem_reverse]
    rw [eo]
    by_cases h : r.contains x = false ∧ says l (r.headD 0) x = true
    · rw [if_pos ⟨hsx, h⟩, if_pos (by rw [h.1, h.2]; rfl), ih (x :: r) (by simp) (by
        rw [List.reverse_cons]
        cases hq : r.reverse with
        | nil => exact absurd (List.reverse_eq_nil_iff.mp hq) hr
        | cons a t =>
          rw [hq] at hh
          exact hh), List.reverse_cons]
    · rw [if_neg fun z => h z.2, if_neg]
      intro z
      rw [Bool.and_eq_true, Bool.not_eq_true'] at z
      exact h ⟨z.2, z.1⟩
theorem ringOf_D (l : Said) (n : Nat) : ringOf l n = (List.range n).findSome? fun k => if k < 2 then none else (rowsAt (fOf l) n k).find? (closing (fOf l)) := by
  unfold ringOf
  refine findSome_congr fun k _ => ?_
  by_cases h : k < 2
  · rw [if_pos h, if_pos h]
  · rw [if_neg h, if_neg h, rowsAt_D, find_flatMap]
    refine findSome_congr fun s hs => ?_
    exact ringFrom_D l n s (List.mem_range.mp hs) k [s] (by simp) rfl
/-- no two each over the other -/
theorem no_two {l : Said} {n : Nat} (W : WfL n l) : (rowsAt (fOf l) n 1).find? (closing (fOf l)) = none := by
  rw [List.find?_eq_none]
  intro row hr hc
  have hr : row ∈ longer (fOf l) n (rowsAt (fOf l) n 0) := hr
  unfold longer at hr
  obtain ⟨r0, h0, h1⟩ := List.mem_flatMap.mp hr
  obtain ⟨s, hs, rfl⟩ := List.mem_map.mp h0
  unfold extend at h1
  obtain ⟨x, hx, rfl⟩ := List.mem_map.mp h1
  have hx := (List.mem_filter.mp hx).2
  unfold okNext at hx
  rw [Bool.and_eq_true, decide_eq_true_iff] at hx
  have h2 : (s, x) ∈ l := fOf_one.mp hx.1
  unfold closing at hc
  rw [decide_eq_true_iff] at hc
  have h3 : (x, s) ∈ l := fOf_one.mp hc
  exact W.anti s x h2 h3
theorem ring_eq {l : Said} {n : Nat} (W : WfL n l) : ring (fOf l) n = (ringOf l n).getD [] := by
  unfold ring
  rw [ringOf_D]
  congr 1
  cases n with
  | zero => rfl
  | succ n =>
    rw [Nat.add_sub_cancel, List.range_succ_eq_map, List.findSome?_cons, if_pos (by decide), List.findSome?_map]
    refine findSome_congr fun k hk => ?_
    show ringAt (fOf l) (n + 1) k = if k + 1 < 2 then none else (rowsAt (fOf l) (n + 1) (k + 1)).find? (closing (fOf l))
    by_cases h : k + 1 < 2
    · rw [if_pos h, show k = 0 by omega]
      exact no_two W
    · rw [if_neg h]
      rfl
/-! ### what a row is -/
def path (f : Mx) : List Nat → Prop
  | x :: y :: t => f x y = 1 ∧ path f (y :: t)
  | _ => True
theorem path_snoc (f : Mx) : ∀ (r : List Nat) (x : Nat), r ≠ [] → (path f (r ++ [x]) ↔ path f r ∧ f (r.getLastD 0) x = 1)
  | [a], x, _ => ⟨fun h => ⟨trivial, h.1⟩, fun h => ⟨h.2, trivial⟩⟩
  | a :: b :: t, x, _ => by
    have ih := path_snoc f (b :: t) x (by simp)
    show (f a b = 1 ∧ path f (b :: t ++ [x])) ↔ (f a b = 1 ∧ path f (b :: t)) ∧ _
    rw [ih, and_assoc]
    rfl
theorem path_tail {f : Mx} {x : Nat} {t : List Nat} (h : path f (x :: t)) : path f t := by
  cases t with
  | nil => exact trivial
  | cons y t => exact h.2
theorem path_suffix {f : Mx} : ∀ {u v : List Nat}, path f (u ++ v) → path f v
  | [], _, h => h
  | x :: u, v, h => path_suffix (u := u) (path_tail h)
structure Row (f : Mx) (n : Nat) (r : List Nat) : Prop where
  p : path f r
  nd : r.Nodup
  lt : ∀ y ∈ r, y < n
  hd : ∀ y ∈ r.tail, r.headD 0 < y
theorem rowsAt_iff (f : Mx) (n : Nat) : ∀ (k : Nat) (r : List Nat), r ∈ rowsAt f n k ↔ r.length = k + 1 ∧ Row f n r
  | 0, r => by
    constructor
    · intro h
      obtain ⟨s, hs, rfl⟩ := List.mem_map.mp h
      exact ⟨rfl, trivial, by simp, fun y hy => by rw [List.mem_singleton.mp hy]; exact List.mem_range.mp hs, fun y hy => by simp at hy⟩
    · rintro ⟨h1, R⟩
      obtain ⟨s, rfl⟩ := List.length_eq_one_iff.mp h1
      exact List.mem_map.mpr ⟨s, List.mem_range.mpr (R.lt s List.mem_cons_self), rfl⟩
  | k + 1, r => by
    have ih := rowsAt_iff f n k
    show r ∈ (rowsAt f n k).flatMap (fun row => extend f row (above n (row.headD 0))) ↔ _
    rw [List.mem_flatMap]
    constructor
    · rintro ⟨row, hrow, hr⟩
      obtain ⟨h1, R⟩ := (ih row).mp hrow
      unfold extend at hr
      obtain ⟨x, hx, rfl⟩ := List.mem_map.mp hr
      obtain ⟨hx1, hx2⟩ := List.mem_filter.mp hx
      unfold above at hx1
      rw [List.mem_range'_1] at hx1
      unfold okNext at hx2
      rw [Bool.and_eq_true, decide_eq_true_iff, Bool.not_eq_true'] at hx2
      have hne : row ≠ [] := by
        rintro rfl
        simp at h1
      have hnm : x ∉ row := fun z => by
        rw [List.contains_iff_mem.mpr z] at hx2
        cases hx2.2
      refine ⟨by rw [List.length_append, h1]; rfl, (path_snoc f row x hne).mpr ⟨R.p, hx2.1⟩, ?_, ?_, ?_⟩
      · rw [List.nodup_append]
        exact ⟨R.nd, by simp, fun a ha b hb => by rw [List.mem_singleton.mp hb]; exact fun z => hnm (by rw [← z]; exact ha)⟩
      · intro y hy
        rcases List.mem_append.mp hy with z | z
        · exact R.lt y z
        · rw [List.mem_singleton.mp z]
          omega
      · intro y hy
        cases row with
        | nil => exact absurd rfl hne
        | cons a t =>
          have hy : y ∈ t ++ [x] := hy
          rcases List.mem_append.mp hy with z | z
          · exact R.hd y z
          · rw [List.mem_singleton.mp z]
            show a < x
            have : a + 1 ≤ x := hx1.1
            omega
    · rintro ⟨h1, R⟩
      have hne : r ≠ [] := by
        rintro rfl
        simp at h1
      have e := List.dropLast_concat_getLast hne
      have hl : r.dropLast.length = k + 1 := by
        rw [List.length_dropLast, h1]
        rfl
      have hdne : r.dropLast ≠ [] := fun z => by
        rw [z] at hl
        simp at hl
      generalize r.dropLast = row at e hl hdne
      generalize r.getLast hne = x at e
      subst e
      obtain ⟨p1, p2⟩ := (path_snoc f row x hdne).mp R.p
      have nd := List.nodup_append.mp R.nd
      have hnm : x ∉ row := fun z => nd.2.2 x z x (by simp) rfl
      refine ⟨row, (ih row).mpr ⟨hl, p1, nd.1, fun y hy => R.lt y (List.mem_append_left _ hy), fun y hy => ?_⟩, ?_⟩
      · cases row with
        | nil => exact absurd rfl hdne
        | cons a t => exact R.hd y (List.mem_append_left _ hy)
      · unfold extend
        refine List.mem_map.mpr ⟨x, List.mem_filter.mpr ⟨?_, ?_⟩, rfl⟩
        · unfold above
          rw [List.mem_range'_1]
          have h2 := R.lt x (by simp)
          cases row with
          | nil => exact absurd rfl hdne
          | cons a t =>
            have h3 : a < x := R.hd x (List.mem_append_right _ (by simp))
            show a + 1 ≤ x ∧ x < a + 1 + (n - (a + 1))
            omega
        · unfold okNext
          rw [decide_eq_true p2]
          cases hc : row.contains x with
          | true => exact absurd (List.contains_iff_mem.mp hc) hnm
          | false => rfl
theorem nodup_len : ∀ (n : Nat) (l : List Nat), l.Nodup → (∀ x ∈ l, x < n) → l.length ≤ n
  | 0, [], _, _ => Nat.le_refl 0
  | 0, x :: _, _, h => absurd (h x List.mem_cons_self) (Nat.not_lt_zero _)
  | n + 1, l, nd, h => by
    by_cases hm : n ∈ l
    · have p := List.perm_cons_erase hm
      have hl := p.length_eq
      have nd2 := (p.nodup_iff).mp nd
      obtain ⟨h1, h2⟩ := List.nodup_cons.mp nd2
      have := nodup_len n (l.erase n) h2 fun x hx => by
        have h3 := h x (List.mem_of_mem_erase hx)
        have h4 : x ≠ n := fun z => h1 (by rw [z] at hx; exact hx)
        omega
      rw [List.length_cons] at hl
      omega
    · have := nodup_len n l nd fun x hx => by
        have h3 := h x hx
        have h4 : x ≠ n := fun z => hm (by rw [← z]; exact hx)
        omega
      omega
theorem ring_nil {f : Mx} {n : Nat} : (ring f n).length = 0 ↔ ∀ k, k < n - 1 → ∀ r, r.length = k + 2 → Row f n r → closing f r = false := by
  have key : (ring f n).length = 0 ↔ ∀ k, k < n - 1 → (rowsAt f n (k + 1)).find? (closing f) = none := by
    unfold ring
    cases h : (List.range (n - 1)).findSome? (ringAt f n) with
    | none =>
      refine ⟨fun _ k hk => List.findSome?_eq_none_iff.mp h k (List.mem_range.mpr hk), fun _ => rfl⟩
    | some r =>
      obtain ⟨k, hk, e⟩ := List.exists_of_findSome?_eq_some h
      refine ⟨fun z => ?_, fun z => ?_⟩
      · have hz : r = [] := List.length_eq_zero_iff.mp z
        have hm := List.mem_of_find?_eq_some e
        have := ((rowsAt_iff f n (k + 1) r).mp hm).1
        rw [hz] at this
        simp at this
      · have z2 := z k (List.mem_range.mp hk)
        have e2 : (rowsAt f n (k + 1)).find? (closing f) = some r := e
        rw [z2] at e2
        cases e2
  rw [key]
  refine forall_congr' fun k => forall_congr' fun hk => ?_
  rw [List.find?_eq_none]
  constructor
  · intro h r h1 R
    exact Bool.eq_false_iff.mpr (h r ((rowsAt_iff f n (k + 1) r).mpr ⟨h1, R⟩))
  · intro h r hr
    obtain ⟨h1, R⟩ := (rowsAt_iff f n (k + 1) r).mp hr
    rw [h r h1 R]
    decide
end Np
set_option linter.all false
namespace Np
open SctPanel (says unsaid outside with_ mayCome table atSet waysOf many manyWith firstFrom Said ringFrom ringOf)
/-! ### sound: no ring, some order -/
theorem last_app (u v : List Nat) (z : Nat) : (u ++ z :: v).getLastD 0 = (z :: v).getLastD 0 := by
  rw [List.getLastD_eq_getLast?, List.getLastD_eq_getLast?, List.getLast?_append, List.getLast?_eq_some_getLast (by simp : z :: v ≠ [])]
  rfl
theorem round_row {l : Said} {n : Nat} (hi : ∀ p ∈ l, p.1 ≠ p.2) : ∀ d s, n - s ≤ d → ∀ C, Round l n C → (∀ x, C x → s ≤ x) → ∃ r, 2 ≤ r.length ∧ Row (fOf l) n r ∧ closing (fOf l) r = true
  | 0, s, hd, C, R, hs => by
    obtain ⟨x, hx⟩ := R.some_
    have h1 := R.lt x hx
    have h2 := hs x hx
    omega
  | d + 1, s, hd, C, R, hs => by
    by_cases h : ∃ C', Round l n C' ∧ ∀ x, C' x → s + 1 ≤ x
    · obtain ⟨C', R', hs'⟩ := h
      exact round_row hi d (s + 1) (by omega) C' R' hs'
    · have hsC : C s := by
        apply Classical.byContradiction
        intro hn
        apply h
        refine ⟨C, R, fun x hx => ?_⟩
        have h1 := hs x hx
        have h2 : x ≠ s := fun z => hn (by rw [← z]; exact hx)
        omega
      have hno : ∃ x, (C x ∧ ∃ t, path (fOf l) (x :: t) ∧ (x :: t).Nodup ∧ (∀ y ∈ x :: t, s < y ∧ y < n) ∧ ((x :: t).getLastD 0, s) ∈ l) ∧ ∀ z, (C z ∧ ∃ t, path (fOf l) (z :: t) ∧ (z :: t).Nodup ∧ (∀ y ∈ z :: t, s < y ∧ y < n) ∧ ((z :: t).getLastD 0, s) ∈ l) → (z, x) ∉ l := by
        apply Classical.byContradiction
        intro hn
        apply h
        refine ⟨fun x => C x ∧ ∃ t, path (fOf l) (x :: t) ∧ (x :: t).Nodup ∧ (∀ y ∈ x :: t, s < y ∧ y < n) ∧ ((x :: t).getLastD 0, s) ∈ l, ⟨?_, fun x hx => R.lt x hx.1, fun x hx => ?_⟩, fun x hx => ?_⟩
        · obtain ⟨y, hy, hys⟩ := R.pre s hsC
          have h1 := hs y hy
          have h2 : y ≠ s := hi _ hys
          exact ⟨y, hy, [], trivial, by simp, fun z hz => by rw [List.mem_singleton.mp hz]; exact ⟨by omega, R.lt y hy⟩, hys⟩
        · apply Classical.byContradiction
          intro hn2
          apply hn
          exact ⟨x, hx, fun z hz hzx => hn2 ⟨z, hz, hzx⟩⟩
        · obtain ⟨_, t, _, _, h3, _⟩ := hx
          exact (h3 x List.mem_cons_self).1
      obtain ⟨x, ⟨hxC, t, h1, h2, h3, h4⟩, hz⟩ := hno
      obtain ⟨z, hzC, hzx⟩ := R.pre x hxC
      by_cases e : z = s
      · subst e
        refine ⟨z :: x :: t, by simp, ⟨⟨fOf_one.mpr hzx, h1⟩, List.nodup_cons.mpr ⟨fun q => ?_, h2⟩, fun y hy => ?_, fun y hy => (h3 y hy).1⟩, ?_⟩
        · have := (h3 z q).1
          omega
        · rcases List.mem_cons.mp hy with q | q
          · rw [q]
            exact R.lt z hzC
          · exact (h3 y q).2
        · unfold closing
          rw [decide_eq_true_iff]
          exact fOf_one.mpr h4
      · have hzs : s < z ∧ z < n := by
          have := hs z hzC
          exact ⟨by omega, R.lt z hzC⟩
        exfalso
        by_cases hm : z ∈ x :: t
        · obtain ⟨u, v, huv⟩ := List.append_of_mem hm
          rw [huv] at h1 h2 h3 h4
          refine hz z ⟨hzC, v, path_suffix h1, (List.nodup_append.mp h2).2.1, fun y hy => h3 y (List.mem_append_right _ hy), ?_⟩ hzx
          rw [last_app] at h4
          exact h4
        · refine hz z ⟨hzC, x :: t, ⟨fOf_one.mpr hzx, h1⟩, List.nodup_cons.mpr ⟨hm, h2⟩, fun y hy => ?_, h4⟩ hzx
          rcases List.mem_cons.mp hy with q | q
          · rw [q]
            exact hzs
          · exact h3 y q
theorem path_pre {f : Mx} : ∀ {r : List Nat} {x : Nat}, path f r → x ∈ r.tail → ∃ y ∈ r, f y x = 1
  | [], _, _, h => by simp at h
  | [_], _, _, h => by simp at h
  | a :: b :: t, x, hp, h => by
    rcases List.mem_cons.mp h with e | e
    · subst e
      exact ⟨a, List.mem_cons_self, hp.1⟩
    · obtain ⟨y, hy, hyx⟩ := path_pre (r := b :: t) hp.2 e
      exact ⟨y, List.mem_cons_of_mem _ hy, hyx⟩
theorem sound_iff {l : Said} {n : Nat} (W : WfL n l) : isSound (fOf l) n = true ↔ many l n ≠ 0 := by
  have hl : ∀ p ∈ l, p.1 < n ∧ p.2 < n := fun p hp => ⟨(W.lt p hp).1, (W.lt p hp).2.1⟩
  have hi : ∀ p ∈ l, p.1 ≠ p.2 := fun p hp => (W.lt p hp).2.2
  show decide ((ring (fOf l) n).length = 0) = true ↔ _
  rw [decide_eq_true_iff, ring_nil, Ne, many_round hl]
  constructor
  · rintro h ⟨C, R⟩
    obtain ⟨r, h1, h2, h3⟩ := round_row hi n 0 (Nat.le_refl _) C R fun _ _ => Nat.zero_le _
    have h4 := nodup_len n r h2.nd h2.lt
    rw [h (r.length - 2) (by omega) r (by omega) h2] at h3
    cases h3
  · intro h k hk r h1 R
    cases hc : closing (fOf l) r with
    | false => rfl
    | true =>
      exfalso
      apply h
      refine ⟨fun x => x ∈ r, ?_, fun x hx => R.lt x hx, fun x hx => ?_⟩
      · cases r with
        | nil => simp at h1
        | cons a t => exact ⟨a, List.mem_cons_self⟩
      · cases r with
        | nil => simp at hx
        | cons a t =>
          rcases List.mem_cons.mp hx with e | e
          · subst e
            unfold closing at hc
            rw [decide_eq_true_iff] at hc
            refine ⟨(x :: t).getLastD 0, ?_, fOf_one.mp hc⟩
            rw [List.getLastD_eq_getLast?, List.getLast?_eq_some_getLast (by simp : x :: t ≠ [])]
            exact List.getLast_mem _
          · obtain ⟨y, hy, hyx⟩ := path_pre (r := a :: t) R.p e
            exact ⟨y, hy, fOf_one.mp hyx⟩
theorem no_round {l : Said} {n : Nat} (W : WfL n l) (h : many l n ≠ 0) : ¬ ∃ C, Round l n C := fun z => h ((many_round fun p hp => ⟨(W.lt p hp).1, (W.lt p hp).2.1⟩).mpr z)
theorem no_round_nil (n : Nat) : ¬ ∃ C, Round [] n C := fun ⟨C, R⟩ => by
  obtain ⟨x, hx⟩ := R.some_
  obtain ⟨y, _, h⟩ := R.pre x hx
  cases h
/-! ### an order, sample by sample -/
def greedyAt (pk : Nat → Nat) (i : Nat) : List Nat × Nat := lp (fun _ (p : List Nat × Nat) => (p.1 ++ [pk p.2], grown p.2 (pk p.2))) ([], 0) i
def greedyF (pk : Nat → Option Nat) : Nat → Nat → List Nat
  | 0, _ => []
  | f + 1, m => match pk m with
    | some x => x :: greedyF pk f (with_ m x)
    | none => []
theorem outside_zero (n : Nat) : (outside n 0).length = n := by
  unfold outside
  rw [List.filter_eq_self.mpr fun x _ => by rw [Nat.zero_testBit]; rfl, List.length_range]
theorem outside_full (n : Nat) : outside n (2 ^ n - 1) = [] := by
  unfold outside
  rw [List.filter_eq_nil_iff]
  intro x hx
  rw [full_bit (List.mem_range.mp hx)]
  decide
structure Picks (n : Nat) (pk : Nat → Nat) (po : Nat → Option Nat) : Prop where
  at_ : ∀ m, m < 2 ^ n → m ≠ 2 ^ n - 1 → po m = some (pk m) ∧ pk m < n ∧ m.testBit (pk m) = false
structure GOk (n i : Nat) (po : Nat → Option Nat) (o : List Nat) (m : Nat) : Prop where
  len : o.length = i
  lt : m < 2 ^ n
  left : (outside n m).length = n - i
  bit : ∀ x, x ∈ o ↔ m.testBit x = true
  nd : o.Nodup
  eq : greedyF po n 0 = o ++ greedyF po (n - i) m
theorem greedy_ok {n : Nat} {pk : Nat → Nat} {po : Nat → Option Nat} (P : Picks n pk po) : ∀ i, i ≤ n → GOk n i po (greedyAt pk i).1 (greedyAt pk i).2
  | 0, _ => ⟨rfl, Nat.two_pow_pos n, outside_zero n, fun x => by
      show x ∈ ([] : List Nat) ↔ (0 : Nat).testBit x = true
      rw [Nat.zero_testBit]
      simp, by show ([] : List Nat).Nodup; simp, rfl⟩
  | i + 1, hi => by
    have G := greedy_ok P i (by omega)
    have e : greedyAt pk (i + 1) = ((greedyAt pk i).1 ++ [pk (greedyAt pk i).2], grown (greedyAt pk i).2 (pk (greedyAt pk i).2)) := rfl
    rw [e]
    generalize (greedyAt pk i).1 = o at G
    generalize (greedyAt pk i).2 = m at G
    have hne : m ≠ 2 ^ n - 1 := fun z => by
      have := G.left
      rw [z, outside_full, List.length_nil] at this
      omega
    obtain ⟨h1, h2, h3⟩ := P.at_ m G.lt hne
    have h4 := outside_grown (mem_outside.mpr ⟨h2, h3⟩)
    refine ⟨by rw [List.length_append, G.len]; rfl, grown_ltN G.lt h2, by have := G.left; show (outside n (grown m (pk m))).length = n - (i + 1); omega, fun x => ?_, ?_, ?_⟩
    · rw [List.mem_append, List.mem_singleton, G.bit, testBit_grown, Bool.or_eq_true, decide_eq_true_iff]
      exact or_congr Iff.rfl eq_comm
    · rw [List.nodup_append]
      refine ⟨G.nd, by simp, fun a ha b hb => ?_⟩
      rw [List.mem_singleton.mp hb]
      intro z
      rw [z, G.bit, h3] at ha
      cases ha
    · rw [G.eq, show n - i = (n - (i + 1)) + 1 by omega]
      show o ++ (match po m with
        | some x => x :: greedyF po (n - (i + 1)) (with_ m x)
        | none => []) = _
      rw [h1, List.append_assoc, grown_eq h3]
      rfl
theorem greedy_end {n : Nat} {pk : Nat → Nat} {po : Nat → Option Nat} (P : Picks n pk po) : (greedyAt pk n).1 = greedyF po n 0 ∧ (greedyAt pk n).1.Nodup ∧ ∀ x, x ∈ (greedyAt pk n).1 ↔ x < n := by
  have G := greedy_ok P n (Nat.le_refl n)
  refine ⟨?_, G.nd, fun x => ?_⟩
  · rw [G.eq, Nat.sub_self]
    show _ = _ ++ []
    rw [List.append_nil]
  · rw [G.bit]
    have hl := G.left
    rw [Nat.sub_self] at hl
    constructor
    · intro h
      apply Nat.lt_of_not_le
      intro z
      rw [bits_lt G.lt z] at h
      cases h
    · intro h
      cases e : (greedyAt pk n).2.testBit x with
      | true => rfl
      | false =>
        have := mem_outside.mpr ⟨h, e⟩
        rw [List.length_eq_zero_iff.mp hl] at this
        cases this
theorem first_find {nd : List Nat} {n : Nat} {l : Said} (N : NdL nd n l) (m : Nat) : (outside n m).find? (mayCome l m) = (List.range n).find? (mayF nd m) := by
  unfold outside
  rw [List.find?_filter]
  have : ∀ xs : List Nat, (∀ x ∈ xs, x < n) → xs.find? (fun a => (!m.testBit a) && mayCome l m a) = xs.find? (mayF nd m) := by
    intro xs
    induction xs with
    | nil => exact fun _ => rfl
    | cons x r ih =>
      intro h
      rw [List.find?_cons, List.find?_cons, mayF_eq N (h x List.mem_cons_self), ih fun y hy => h y (List.mem_cons_of_mem _ hy)]
  refine Eq.trans ?_ (this (List.range n) fun x hx => List.mem_range.mp hx)
  congr 1
  funext a
  cases m.testBit a <;> cases mayCome l m a <;> rfl
theorem firstFrom_greedy (l : Said) (n : Nat) : ∀ f m, firstFrom l n f m = greedyF (fun m => (outside n m).find? (mayCome l m)) f m
  | 0, _ => rfl
  | f + 1, m => by
    show (match (outside n m).find? (mayCome l m) with
      | some x => x :: firstFrom l n f (with_ m x)
      | none => []) = (match (outside n m).find? (mayCome l m) with
      | some x => x :: greedyF (fun m => (outside n m).find? (mayCome l m)) f (with_ m x)
      | none => [])
    cases (outside n m).find? (mayCome l m) with
    | none => rfl
    | some x =>
      show _ :: _ = _ :: _
      rw [firstFrom_greedy l n f]
theorem first_eq {nd : List Nat} {n : Nat} {l : Said} (N : NdL nd n l) (h : ¬ ∃ C, Round l n C) : firstOrder nd = firstFrom l n n 0 := by
  have P : Picks n (firstFree nd) (fun m => (outside n m).find? (mayCome l m)) := by
    refine ⟨fun m hm hne => ?_⟩
    obtain ⟨x, h1, h2, h3⟩ := next_of N.lt h hm hne
    have hs : ((List.range n).find? (mayF nd m)).isSome = true := by
      rw [List.find?_isSome]
      exact ⟨x, List.mem_range.mpr h1, by rw [mayF_eq N h1, h2, h3]; rfl⟩
    obtain ⟨y, hy⟩ := Option.isSome_iff_exists.mp hs
    have e : firstFree nd m = y := by
      unfold firstFree
      rw [N.len, hy]
      rfl
    have hm := List.find?_some hy
    have hyn := List.mem_range.mp (List.mem_of_find?_eq_some hy)
    rw [e, first_find N, hy]
    exact ⟨rfl, hyn, ((mayF_iff N hyn).mp hm).1⟩
  rw [firstFrom_greedy, ← (greedy_end P).1]
  unfold firstOrder
  rw [N.len]
  rfl
end Np
set_option linter.all false
namespace Np
open SctPanel (says unsaid outside with_ mayCome table atSet waysOf many manyWith firstFrom Said Weighs counts nextCost leastOf costOf costs bestFrom bestOf)
/-! ### the least cost, some or none -/
def enc : Option Nat → Int
  | some a => (a : Int)
  | none => -1
theorem enc_inj {a b : Option Nat} (h : enc a = enc b) : a = b := by
  cases a with
  | none => cases b with
    | none => rfl
    | some b =>
      have h : (-1 : Int) = (b : Int) := h
      omega
  | some a => cases b with
    | none =>
      have h : (a : Int) = -1 := h
      omega
    | some b =>
      have h : (a : Int) = (b : Int) := h
      rw [show a = b by omega]
def lmin : Option Nat → Option Nat → Option Nat
  | none, b => b
  | some a, none => some a
  | some a, some b => some (min a b)
theorem leastOf_cons (x : Option Nat) (l : List (Option Nat)) : leastOf (x :: l) = lmin x (leastOf l) := by
  cases x with
  | none => rfl
  | some a =>
    show (match leastOf l with
      | some b => some (min a b)
      | none => some a) = _
    cases leastOf l <;> rfl
theorem lmin_assoc (a b c : Option Nat) : lmin (lmin a b) c = lmin a (lmin b c) := by
  cases a <;> cases b <;> cases c <;> simp [lmin, Nat.min_assoc]
theorem lmin_none (a : Option Nat) : lmin a none = a := by cases a <;> rfl
theorem leastOf_snoc (x : Option Nat) : ∀ l : List (Option Nat), leastOf (l ++ [x]) = lmin (leastOf l) x
  | [] => by
    rw [List.nil_append, leastOf_cons]
    exact lmin_none x
  | y :: l => by
    rw [List.cons_append, leastOf_cons, leastOf_snoc x l, leastOf_cons, lmin_assoc]
theorem leastOf_filter (p : Nat → Bool) (g : Nat → Option Nat) : ∀ l : List Nat, leastOf ((l.filter p).map g) = leastOf (l.map fun x => if p x = true then g x else none)
  | [] => rfl
  | x :: r => by
    rw [List.filter_cons, List.map_cons, leastOf_cons, ← leastOf_filter p g r]
    by_cases h : p x = true
    · rw [if_pos h, if_pos h, List.map_cons, leastOf_cons]
    · rw [if_neg h, if_neg h]
      rfl
theorem leastOf_none : ∀ {l : List (Option Nat)}, leastOf l = none → ∀ x ∈ l, x = none
  | [], _, _, h => by cases h
  | y :: l, h, x, hx => by
    rw [leastOf_cons] at h
    cases y with
    | none =>
      rcases List.mem_cons.mp hx with e | e
      · exact e
      · exact leastOf_none h x e
    | some a =>
      exfalso
      cases hq : leastOf l with
      | none => rw [hq] at h; cases h
      | some b => rw [hq] at h; cases h
theorem leastOf_mem : ∀ {l : List (Option Nat)} {c : Nat}, leastOf l = some c → some c ∈ l
  | [], _, h => by cases h
  | y :: l, c, h => by
    rw [leastOf_cons] at h
    cases y with
    | none => exact List.mem_cons_of_mem _ (leastOf_mem h)
    | some a =>
      cases hq : leastOf l with
      | none =>
        rw [hq] at h
        cases h
        exact List.mem_cons_self
      | some b =>
        rw [hq] at h
        have h : some (min a b) = some c := h
        injection h with h
        by_cases hab : a ≤ b
        · rw [Nat.min_eq_left hab] at h
          rw [h]
          exact List.mem_cons_self
        · rw [Nat.min_eq_right (by omega)] at h
          rw [h] at hq
          exact List.mem_cons_of_mem _ (leastOf_mem hq)
theorem leastStep_enc (a b : Option Nat) : leastStep (enc b) (enc a) = enc (lmin a b) := by
  unfold leastStep
  cases a with
  | none => cases b with
    | none => rfl
    | some b =>
      show (if ((b : Int) ≠ -1 ∧ ((-1 : Int) = -1 ∨ (b : Int) < -1)) then (b : Int) else -1) = (b : Int)
      rw [if_pos ⟨by omega, .inl rfl⟩]
  | some a => cases b with
    | none => rfl
    | some b =>
      show (if ((b : Int) ≠ -1 ∧ ((a : Int) = -1 ∨ (b : Int) < (a : Int))) then (b : Int) else (a : Int)) = ((min a b : Nat) : Int)
      by_cases h : b < a
      · rw [if_pos ⟨by omega, .inr (by omega)⟩]
        omega
      · rw [if_neg (by omega)]
        omega
theorem leastFrom_enc {t : Mx} {nd : List Nat} {r : List Int} {m : Nat} {g : Nat → Option Nat} : ∀ i, (∀ x, x < i → costFrom t nd r m x = enc (g x)) → leastFrom t nd r m i = enc (leastOf ((List.range i).map g))
  | 0, _ => rfl
  | i + 1, h => by
    show leastStep (costFrom t nd r m i) (leastFrom t nd r m i) = _
    rw [leastFrom_enc i fun x hx => h x (by omega), h i (by omega), List.range_succ, List.map_append, List.map_cons, List.map_nil, leastOf_snoc, leastStep_enc]
/-! ### the costs -/
theorem costNext_S (t : Mx) (m x : Nat) : ∀ i, costNext t m x i = S i fun y => if (!decide (y = x) && !m.testBit y) = true then t y x else 0
  | 0 => rfl
  | i + 1 => by
    rw [S_succ, ← costNext_S t m x i]
    show (if (!decide (i = x) && !m.testBit i) = true then costNext t m x i + t i x else costNext t m x i) = _
    by_cases h : (!decide (i = x) && !m.testBit i) = true
    · rw [if_pos h, if_pos h]
    · rw [if_neg h, if_neg h]
      rfl
theorem nextCost_S (w : Weighs) (n m x : Nat) : nextCost w n m x = S n fun y => if (!decide (y = x) && !m.testBit y) = true then counts w y x else 0 := by
  unfold nextCost outside
  rw [sum_filter]
  unfold S
  rw [List.map_congr_left fun y _ => ?_]
  by_cases h : y = x
  · subst h
    rw [if_pos rfl, decide_eq_true rfl]
    simp
  · rw [if_neg h, decide_eq_false h]
    simp
def Co (w : Weighs) (must : Said) (n m : Nat) : Option Nat := atSet n (some 0) (costs w must n) m
def go (w : Weighs) (must : Said) (n m x : Nat) : Option Nat := if m.testBit x = false ∧ mayCome must m x = true then (Co w must n (grown m x)).map fun c => nextCost w n m x + c else none
theorem Co_rec (w : Weighs) (must : Said) (n : Nat) : Co w must n (2 ^ n - 1) = some 0 ∧ ∀ m, m + 1 < 2 ^ n → Co w must n m = leastOf ((List.range n).map (go w must n m)) := by
  have t := table_rec (n := n) (last := some 0) (f := fun (g : Nat → Option Nat) (m : Nat) => leastOf ((outside n m).map fun (x : Nat) => costOf w must n g m x)) fun m hm g g' hg => by
    show leastOf (List.map _ _) = leastOf (List.map _ _)
    rw [List.map_congr_left fun x hx => ?_]
    obtain ⟨h1, h2⟩ := mem_outside.mp hx
    unfold costOf
    rw [hg (with_ m x) (by rw [← grown_eq h2]; exact grown_gt h2) (by rw [← grown_eq h2]; exact grown_ltN (by omega) h1)]
  refine ⟨t.1, fun m hm => (t.2 m hm).trans ?_⟩
  show leastOf ((outside n m).map fun (x : Nat) => costOf w must n (Co w must n) m x) = _
  unfold outside
  rw [leastOf_filter]
  rw [List.map_congr_left fun x hx => ?_]
  unfold go costOf
  cases hb : m.testBit x with
  | true => rw [if_neg (by decide), if_neg (by simp)]
  | false =>
    rw [if_pos (by decide)]
    by_cases hc : mayCome must m x = true
    · rw [if_pos hc, if_pos ⟨rfl, hc⟩, grown_eq hb]
    · rw [if_neg hc, if_neg fun z => hc z.2]
section
variable {w : Weighs} {must : Said} {n : Nat} {t : Mx} {nd : List Nat}
theorem costNext_eq (ht : ∀ a b, a < n → b < n → t a b = counts w a b) {m x : Nat} (hx : x < n) : costNext t m x n = nextCost w n m x := by
  rw [costNext_S, nextCost_S]
  refine S_congr fun y hy => ?_
  rw [ht y x hy hx]
theorem costFrom_enc (N : NdL nd n must) (ht : ∀ a b, a < n → b < n → t a b = counts w a b) {r : List Int} {m x : Nat} (hm : m < 2 ^ n) (hx : x < n) (hr : ∀ k, m < k → k < 2 ^ n → r.getD k 0 = enc (Co w must n k)) : costFrom t nd r m x = enc (go w must n m x) := by
  unfold costFrom go
  rw [N.len]
  by_cases h : m.testBit x = false ∧ mayCome must m x = true
  · rw [if_pos h, if_pos (by rw [mayF_eq N hx, h.1, h.2]; rfl), hr (grown m x) (grown_gt h.1) (grown_ltN hm hx), costNext_eq ht hx]
    cases Co w must n (grown m x) with
    | none => rfl
    | some c =>
      show (if ((c : Int)) = -1 then (-1 : Int) else (nextCost w n m x : Int) + (c : Int)) = ((nextCost w n m x + c : Nat) : Int)
      rw [if_neg (by omega)]
      omega
  · rw [if_neg h, if_neg]
    · rfl
    · intro z
      rw [mayF_eq N hx, Bool.and_eq_true, Bool.not_eq_true'] at z
      exact h z
theorem getD_setI {r : List Int} {g m : Nat} {v : Int} (h : g < r.length) : (r.set g v).getD m 0 = if m = g then v else r.getD m 0 := by
  rw [List.getD_eq_getElem?_getD, List.getD_eq_getElem?_getD]
  by_cases e : m = g
  · subst e
    rw [List.getElem?_set_self h, if_pos rfl]
    rfl
  · rw [List.getElem?_set_ne (Ne.symm e), if_neg e]
theorem rests_ok (N : NdL nd n must) (ht : ∀ a b, a < n → b < n → t a b = counts w a b) : ∀ i, i + 1 ≤ 2 ^ n → (rests t nd i).length = 2 ^ n ∧ ∀ m, 2 ^ n - 1 - i ≤ m → m < 2 ^ n → (rests t nd i).getD m 0 = enc (Co w must n m)
  | 0, _ => by
    have e : rests t nd 0 = List.replicate (2 ^ n) 0 := by
      show List.replicate (2 ^ nd.length) 0 = _
      rw [N.len]
    rw [e]
    refine ⟨List.length_replicate .., fun m h1 h2 => ?_⟩
    rw [show m = 2 ^ n - 1 by omega, (Co_rec w must n).1, List.getD_eq_getElem?_getD, List.getElem?_replicate, if_pos (by omega)]
    rfl
  | i + 1, hi => by
    obtain ⟨h1, h2⟩ := rests_ok N ht i (by omega)
    have e : rests t nd (i + 1) = (rests t nd i).set (2 ^ n - 1 - 1 - i) (leastFrom t nd (rests t nd i) (2 ^ n - 1 - 1 - i) n) := by
      show (rests t nd i).set (2 ^ nd.length - 1 - 1 - i) (leastFrom t nd (rests t nd i) (2 ^ nd.length - 1 - 1 - i) nd.length) = _
      rw [N.len]
    have hlt : 2 ^ n - 1 - 1 - i + 1 < 2 ^ n := by omega
    rw [e]
    refine ⟨by rw [List.length_set, h1], fun m h3 h4 => ?_⟩
    rw [getD_setI (by omega)]
    by_cases em : m = 2 ^ n - 1 - 1 - i
    · rw [if_pos em, em, (Co_rec w must n).2 _ hlt]
      exact leastFrom_enc n fun x hx => costFrom_enc N ht (by omega) hx fun k h5 h6 => h2 k (by omega) h6
    · rw [if_neg em]
      exact h2 m (by omega) h4
theorem restOf_ok (N : NdL nd n must) (ht : ∀ a b, a < n → b < n → t a b = counts w a b) : ∀ m, m < 2 ^ n → (restOf t nd).getD m 0 = enc (Co w must n m) := by
  have hp := Nat.two_pow_pos n
  intro m hm
  unfold restOf every
  rw [N.len]
  exact (rests_ok N ht (2 ^ n - 1) (by omega)).2 m (by omega) hm
theorem Co_some (N : NdL nd n must) (h : ¬ ∃ C, Round must n C) : ∀ m, m < 2 ^ n → ∃ c, Co w must n m = some c := by
  refine down fun m hm ih => ?_
  by_cases hf : m + 1 < 2 ^ n
  · rw [(Co_rec w must n).2 m hf]
    cases hq : leastOf ((List.range n).map (go w must n m)) with
    | some c => exact ⟨c, rfl⟩
    | none =>
      exfalso
      obtain ⟨x, h1, h2, h3⟩ := next_of N.lt h hm (by omega)
      have := leastOf_none hq _ (List.mem_map.mpr ⟨x, List.mem_range.mpr h1, rfl⟩)
      unfold go at this
      rw [if_pos ⟨h2, h3⟩] at this
      obtain ⟨c, hc⟩ := ih _ (grown_gt h2) (grown_ltN hm h1)
      rw [hc] at this
      cases this
  · rw [show m = 2 ^ n - 1 by omega]
    exact ⟨0, (Co_rec w must n).1⟩
def pob (w : Weighs) (must : Said) (n m : Nat) : Option Nat := (outside n m).find? fun (x : Nat) => (Co w must n m).isSome && costOf w must n (Co w must n) m x == Co w must n m
theorem go_cost {m x : Nat} (h : m.testBit x = false) : go w must n m x = costOf w must n (Co w must n) m x := by
  unfold go costOf
  by_cases hc : mayCome must m x = true
  · rw [if_pos ⟨h, hc⟩, if_pos hc, grown_eq h]
  · rw [if_neg fun z => hc z.2, if_neg hc]
theorem pob_eq {m c : Nat} (hc : Co w must n m = some c) : pob w must n m = (List.range n).find? fun x => decide (go w must n m x = some c) := by
  unfold pob outside
  rw [List.find?_filter]
  congr 1
  funext x
  rw [hc]
  cases hb : m.testBit x with
  | true =>
    have e : go w must n m x = none := if_neg (by rw [hb]; simp)
    rw [e]
    simp
  | false =>
    rw [← go_cost hb]
    by_cases hg : go w must n m x = some c
    · rw [hg]
      simp
    · rw [decide_eq_false hg, beq_eq_false_iff_ne.mpr hg]
      rfl
theorem best_picks (N : NdL nd n must) (ht : ∀ a b, a < n → b < n → t a b = counts w a b) (h : ¬ ∃ C, Round must n C) : Picks n (nextBest t nd (restOf t nd)) (pob w must n) := by
  have hr := restOf_ok N ht
  refine ⟨fun m hm hne => ?_⟩
  obtain ⟨c, hc⟩ := Co_some (w := w) N h m hm
  have e : nextBest t nd (restOf t nd) m = ((List.range n).find? fun x => decide (go w must n m x = some c)).getD n := by
    unfold nextBest
    rw [N.len]
    have : ∀ xs : List Nat, (∀ x ∈ xs, x < n) → xs.find? (fun x => decide (costFrom t nd (restOf t nd) m x = (restOf t nd).getD m 0)) = xs.find? fun x => decide (go w must n m x = some c) := by
      intro xs
      induction xs with
      | nil => exact fun _ => rfl
      | cons x r ih =>
        intro hx
        rw [List.find?_cons, List.find?_cons, ih fun y hy => hx y (List.mem_cons_of_mem _ hy), costFrom_enc N ht hm (hx x List.mem_cons_self) fun k _ h6 => hr k h6, hr m hm, hc]
        have : decide (enc (go w must n m x) = enc (some c)) = decide (go w must n m x = some c) := decide_eq_decide.mpr ⟨enc_inj, fun z => by rw [z]⟩
        rw [this]
    rw [this _ fun x hx => List.mem_range.mp hx]
  have hm1 : m + 1 < 2 ^ n := by omega
  have hmem := leastOf_mem (((Co_rec w must n).2 m hm1).symm.trans hc)
  obtain ⟨x, hx, hgx⟩ := List.mem_map.mp hmem
  have hs : ((List.range n).find? fun x => decide (go w must n m x = some c)).isSome = true := by
    rw [List.find?_isSome]
    exact ⟨x, hx, decide_eq_true hgx⟩
  obtain ⟨y, hy⟩ := Option.isSome_iff_exists.mp hs
  rw [e, pob_eq hc, hy]
  have h2 : go w must n m y = some c := by
    have z := List.find?_some hy
    exact of_decide_eq_true z
  refine ⟨rfl, List.mem_range.mp (List.mem_of_find?_eq_some hy), ?_⟩
  cases hb : m.testBit y with
  | false => show m.testBit y = false; exact hb
  | true =>
    unfold go at h2
    rw [if_neg (by rw [hb]; simp)] at h2
    cases h2
theorem bestFrom_greedy : ∀ f m, bestFrom w must n (costs w must n) f m = greedyF (pob w must n) f m
  | 0, _ => rfl
  | f + 1, m => by
    show (match pob w must n m with
      | some x => x :: bestFrom w must n (costs w must n) f (with_ m x)
      | none => []) = (match pob w must n m with
      | some x => x :: greedyF (pob w must n) f (with_ m x)
      | none => [])
    cases pob w must n m with
    | none => rfl
    | some x =>
      show _ :: _ = _ :: _
      rw [bestFrom_greedy f]
theorem bestOrder_eq (N : NdL nd n must) (ht : ∀ a b, a < n → b < n → t a b = counts w a b) (h : ¬ ∃ C, Round must n C) : bestOrder t nd = bestFrom w must n (costs w must n) n 0 ∧ (bestOrder t nd).Nodup ∧ ∀ x, x ∈ bestOrder t nd ↔ x < n := by
  have P := greedy_end (best_picks N ht h)
  have e : bestOrder t nd = (greedyAt (nextBest t nd (restOf t nd)) n).1 := by
    unfold bestOrder
    rw [N.len]
    rfl
  rw [e, bestFrom_greedy]
  exact P
theorem best_lt (N : NdL nd n must) (ht : ∀ a b, a < n → b < n → t a b = counts w a b) (h : ¬ ∃ C, Round must n C) {i : Nat} (hi : i ≤ n) : (bestAt t nd (restOf t nd) i).2 < 2 ^ n := (greedy_ok (best_picks N ht h) i hi).lt
end
end Np
set_option linter.all false
namespace Np
open SctPanel (says unsaid outside with_ mayCome table atSet waysOf many manyWith firstFrom Said Weighs counts nextCost leastOf costOf costs bestFrom bestOf before againstIn)
/-! ### what is said against an order -/
def sa (t : Mx) : List Nat → Nat
  | [] => 0
  | x :: r => (r.map fun y => t y x).sum + sa t r
theorem S_front (n : Nat) (g : Nat → Nat) : S (n + 1) g = g 0 + S n fun i => g (i + 1) := by
  unfold S
  rw [List.range_succ_eq_map, List.map_cons, List.sum_cons, List.map_map]
  rfl
theorem S_list (g : Nat → Nat) : ∀ l : List Nat, S l.length (fun d => g (l.getD d 0)) = (l.map g).sum
  | [] => rfl
  | x :: r => by
    rw [List.length_cons, S_front, List.map_cons, List.sum_cons, ← S_list g r]
    rfl
theorem againstIn_S (t : Mx) (o : List Nat) (i s : Nat) : ∀ j, againstIn t o i s j = s + S j fun d => t (o.getD (i + 1 + d) 0) (o.getD i 0)
  | 0 => rfl
  | j + 1 => by
    show againstIn t o i s j + _ = _
    rw [againstIn_S t o i s j, S_succ]
    omega
theorem saidAgainst_S (t : Mx) (o : List Nat) : ∀ i, saidAgainst t o i = S i fun i => S (o.length - (i + 1)) fun d => t (o.getD (i + 1 + d) 0) (o.getD i 0)
  | 0 => rfl
  | i + 1 => by
    show Np.againstIn t o i (saidAgainst t o i) (o.length - (i + 1)) = _
    rw [againstIn_S, saidAgainst_S t o i, S_succ]
theorem saidAgainst_sa (t : Mx) : ∀ o : List Nat, saidAgainst t o o.length = sa t o
  | [] => rfl
  | x :: r => by
    have ih := saidAgainst_sa t r
    rw [saidAgainst_S] at ih ⊢
    rw [List.length_cons, S_front]
    show _ = (r.map fun y => t y x).sum + sa t r
    rw [← ih, ← S_list]
    congr 1
    · rw [show r.length + 1 - (0 + 1) = r.length by omega]
      refine S_congr fun d _ => ?_
      rw [show 0 + 1 + d = d + 1 by omega]
      rfl
    · refine S_congr fun i _ => ?_
      rw [show r.length + 1 - (i + 1 + 1) = r.length - (i + 1) by omega]
      refine S_congr fun d _ => ?_
      rw [show i + 1 + 1 + d = (i + 1 + d) + 1 by omega]
      rfl
theorem perm_sum {g : Nat → Nat} {l l' : List Nat} (p : l.Perm l') : (l.map g).sum = (l'.map g).sum := by
  induction p with
  | nil => rfl
  | cons x _ ih => rw [List.map_cons, List.map_cons, List.sum_cons, List.sum_cons, ih]
  | swap x y l =>
    rw [List.map_cons, List.map_cons, List.map_cons, List.map_cons, List.sum_cons, List.sum_cons, List.sum_cons, List.sum_cons]
    omega
  | trans _ _ ih1 ih2 => exact ih1.trans ih2
theorem mperm : ∀ (l o : List Nat), l.Nodup → o.length ≤ l.length → (∀ x ∈ l, x ∈ o) → l.Perm o
  | [], o, _, h, _ => by
    have : o = [] := List.length_eq_zero_iff.mp (by rw [List.length_nil] at h; omega)
    rw [this]
  | x :: l, o, nd, h, hm => by
    have hx := hm x List.mem_cons_self
    obtain ⟨hx2, nd2⟩ := List.nodup_cons.mp nd
    have p := List.perm_cons_erase hx
    have hl := p.length_eq
    rw [List.length_cons] at hl h
    refine List.Perm.trans (List.Perm.cons x (mperm l (o.erase x) nd2 (by omega) fun y hy => ?_)) p.symm
    exact (List.mem_erase_of_ne fun z => hx2 (by rw [← z]; exact hy)).mpr (hm y (List.mem_cons_of_mem _ hy))
section
variable {w : Weighs} {must : Said} {n : Nat} {t : Mx} {nd : List Nat}
theorem best_rest (N : NdL nd n must) (ht : ∀ a b, a < n → b < n → t a b = counts w a b) (h : ¬ ∃ C, Round must n C) : ∀ f m, m < 2 ^ n → (outside n m).length = f → (greedyF (pob w must n) f m).Perm (outside n m) ∧ Co w must n m = some (sa t (greedyF (pob w must n) f m))
  | 0, m, hm, hl => by
    have hf : m = 2 ^ n - 1 := by
      apply Classical.byContradiction
      intro hne
      obtain ⟨x, h1, h2⟩ := missing hm hne
      have := mem_outside.mpr ⟨h1, h2⟩
      rw [List.length_eq_zero_iff.mp hl] at this
      cases this
    rw [List.length_eq_zero_iff.mp hl, hf]
    exact ⟨List.Perm.refl _, (Co_rec w must n).1⟩
  | f + 1, m, hm, hl => by
    have hne : m ≠ 2 ^ n - 1 := fun z => by
      rw [z, outside_full] at hl
      cases hl
    obtain ⟨h1, h2, h3⟩ := (best_picks N ht h).at_ m hm hne
    generalize hx : nextBest t nd (restOf t nd) m = x at h1 h2 h3
    obtain ⟨c, hc⟩ := Co_some (w := w) N h m hm
    have hgo : go w must n m x = some c := by
      have z := h1
      rw [pob_eq hc] at z
      have z2 := List.find?_some z
      exact of_decide_eq_true z2
    have h4 := outside_grown (mem_outside.mpr ⟨h2, h3⟩)
    obtain ⟨g1, g2⟩ := best_rest N ht h f (grown m x) (grown_ltN hm h2) (by omega)
    have e : greedyF (pob w must n) (f + 1) m = x :: greedyF (pob w must n) f (grown m x) := by
      show (match pob w must n m with
        | some x => x :: greedyF (pob w must n) f (with_ m x)
        | none => []) = _
      rw [h1, grown_eq h3]
    rw [e]
    have hmem : ∀ y, y ∈ greedyF (pob w must n) f (grown m x) → y < n ∧ (grown m x).testBit y = false := fun y hy => mem_outside.mp (g1.mem_iff.mp hy)
    refine ⟨?_, ?_⟩
    · refine mperm _ _ (List.nodup_cons.mpr ⟨fun z => ?_, g1.nodup_iff.mpr (outside_nodup n _)⟩) (by rw [List.length_cons, g1.length_eq]; omega) fun y hy => ?_
      · have := (hmem x z).2
        rw [testBit_grown, decide_eq_true rfl, Bool.or_true] at this
        cases this
      · rcases List.mem_cons.mp hy with z | z
        · rw [z]
          exact mem_outside.mpr ⟨h2, h3⟩
        · obtain ⟨z1, z2⟩ := hmem y z
          rw [testBit_grown, Bool.or_eq_false_iff] at z2
          exact mem_outside.mpr ⟨z1, z2.1⟩
    · rw [hc, ← hgo]
      unfold go at hgo ⊢
      by_cases hq : m.testBit x = false ∧ mayCome must m x = true
      · rw [if_pos hq, g2]
        show some (nextCost w n m x + sa t (greedyF (pob w must n) f (grown m x))) = some ((List.map (fun y => t y x) (greedyF (pob w must n) f (grown m x))).sum + sa t (greedyF (pob w must n) f (grown m x)))
        suffices key : nextCost w n m x = (List.map (fun y => t y x) (greedyF (pob w must n) f (grown m x))).sum by rw [key]
        rw [perm_sum g1, nextCost_S]
        unfold outside
        rw [sum_filter]
        refine S_congr fun y hy => ?_
        rw [testBit_grown]
        by_cases e2 : y = x
        · subst e2
          rw [if_neg (by simp), if_neg (by simp)]
        · rw [decide_eq_false e2, decide_eq_false (Ne.symm e2), Bool.or_false, Bool.not_false, Bool.true_and]
          by_cases e3 : (!m.testBit y) = true
          · rw [if_pos e3, if_pos e3, ht y x hy h2]
          · rw [if_neg e3, if_neg e3]
      · rw [if_neg hq] at hgo
        cases hgo
/-- what the best order costs -/
theorem best_cost (N : NdL nd n must) (ht : ∀ a b, a < n → b < n → t a b = counts w a b) (h : ¬ ∃ C, Round must n C) : bestOf w must n = some (saidAgainst t (bestOrder t nd) (bestOrder t nd).length, bestOrder t nd) := by
  have e := best_rest N ht h n 0 (Nat.two_pow_pos n) (outside_zero n)
  have b := (bestOrder_eq N ht h).1
  have b2 := b
  rw [bestFrom_greedy] at b2
  show (Co w must n 0).map _ = _
  rw [e.2, saidAgainst_sa, b2]
  show some (_, bestFrom w must n (costs w must n) n 0) = _
  rw [bestFrom_greedy]
end
/-! ### counts of pairs -/
theorem S_single {n j c : Nat} (h : j < n) : S n (fun i => if i = j then c else 0) = c := by
  have z := S_bump (a := fun _ => 0) (c := c) h
  rw [S_zero] at z
  have e : (fun m => if m = j then (fun _ => 0) m + c else (fun _ => 0) m) = fun i => if i = j then c else 0 := by
    funext m
    show (if m = j then 0 + c else 0) = _
    rw [Nat.zero_add]
  rw [e, Nat.zero_add] at z
  exact z
def T2 (l : Said) (p : Nat × Nat → Bool) (a b : Nat) : Nat := b01 (says l a b && p (a, b))
theorem says_cons (x : Nat × Nat) (l : Said) (a b : Nat) : says (x :: l) a b = (decide (x = (a, b)) || says l a b) := by
  have e : says (x :: l) a b = ((x.1 == a && x.2 == b) || says l a b) := rfl
  rw [e]
  congr 1
  rw [Bool.eq_iff_iff, Bool.and_eq_true, beq_iff_eq, beq_iff_eq, decide_eq_true_iff]
  obtain ⟨u, v⟩ := x
  constructor
  · rintro ⟨h1, h2⟩
    rw [← h1, ← h2]
  · intro h
    injection h with h1 h2
    exact ⟨h1, h2⟩
theorem filter_count {n : Nat} (p : Nat × Nat → Bool) : ∀ {l : Said}, (∀ q ∈ l, q.1 < n ∧ q.2 < n) → l.Nodup → (l.filter p).length = S n fun a => S n fun b => T2 l p a b
  | [], _, _ => by
    have : (fun a => S n fun b => T2 [] p a b) = fun _ => 0 := by
      funext a
      exact S_zero n
    rw [this, S_zero]
    rfl
  | x :: l, hl, nd => by
    obtain ⟨h1, h2⟩ := List.nodup_cons.mp nd
    have ih := filter_count p (fun q hq => hl q (List.mem_cons_of_mem _ hq)) h2
    obtain ⟨hx1, hx2⟩ := hl x List.mem_cons_self
    have e : ∀ a b, T2 (x :: l) p a b = T2 l p a b + if a = x.1 then (if b = x.2 then b01 (p x) else 0) else 0 := fun a b => by
      unfold T2
      rw [says_cons]
      by_cases hq : x = (a, b)
      · subst hq
        rw [if_pos rfl, if_pos rfl, decide_eq_true rfl]
        have : says l a b = false := by
          cases hs : says l a b with
          | false => rfl
          | true => exact absurd (says_iff.mp hs) h1
        rw [this]
        show b01 (p (a, b)) = 0 + b01 (p (a, b))
        omega
      · rw [decide_eq_false hq, Bool.false_or]
        have : (if a = x.1 then (if b = x.2 then b01 (p x) else 0) else 0) = 0 := by
          by_cases ha : a = x.1
          · rw [if_pos ha]
            by_cases hb : b = x.2
            · exact absurd (by rw [ha, hb]) hq
            · rw [if_neg hb]
          · rw [if_neg ha]
        rw [this]
        rfl
    have e2 : (S n fun a => S n fun b => T2 (x :: l) p a b) = (S n fun a => S n fun b => T2 l p a b) + b01 (p x) := by
      rw [show (fun a => S n fun b => T2 (x :: l) p a b) = fun a => (S n fun b => T2 l p a b) + if a = x.1 then b01 (p x) else 0 from ?_, S_add, S_single hx1]
      funext a
      rw [S_congr fun b _ => e a b, S_add]
      congr 1
      by_cases ha : a = x.1
      · rw [if_pos ha, S_congr (h := fun b => if b = x.2 then b01 (p x) else 0) fun b _ => if_pos ha, S_single hx2]
      · rw [if_neg ha, S_congr (h := fun _ => 0) fun b _ => if_neg ha, S_zero]
    rw [e2, ← ih, List.filter_cons]
    cases p x with
    | true => rfl
    | false => rfl
theorem S_swap (F : Nat → Nat → Nat) (m : Nat) : ∀ n, (S n fun a => S m fun b => F a b) = S m fun b => S n fun a => F a b
  | 0 => (S_zero m).symm
  | n + 1 => by
    rw [S_succ, S_swap F m n, ← S_add]
    refine S_congr fun b _ => ?_
    rw [S_succ]
/-- each pair of two once -/
theorem S_pairs {n : Nat} {F : Nat → Nat → Nat} (h : ∀ a, a < n → F a a = 0) : (S n fun a => S n fun b => F a b) = S n fun a => S n fun b => if a < b then F a b + F b a else 0 := by
  have e1 : (S n fun a => S n fun b => F a b) = (S n fun a => S n fun b => if a < b then F a b else 0) + S n fun a => S n fun b => if b < a then F a b else 0 := by
    rw [← S_add]
    refine S_congr fun a ha => ?_
    rw [← S_add]
    refine S_congr fun b _ => ?_
    by_cases h1 : a < b
    · rw [if_pos h1, if_neg (by omega)]
      rfl
    · by_cases h2 : b < a
      · rw [if_neg h1, if_pos h2, Nat.zero_add]
      · rw [if_neg h1, if_neg h2, show b = a by omega, h a ha]
  rw [e1, S_swap (fun a b => if b < a then F a b else 0) n n, ← S_add]
  refine S_congr fun a _ => ?_
  rw [← S_add]
  refine S_congr fun b _ => ?_
  by_cases h1 : a < b
  · rw [if_pos h1, if_pos h1, if_pos h1]
  · rw [if_neg h1, if_neg h1, if_neg h1]
end Np
set_option linter.all false
namespace Np
open SctPanel (says unsaid outside with_ mayCome table atSet waysOf many manyWith firstFrom Said Weighs counts nextCost leastOf costOf costs bestFrom bestOf before putPair mendOf)
theorem above_filter {n a : Nat} (h : a < n) : above n a = (List.range n).filter fun b => decide (a < b) := by
  rw [range_above h, List.filter_append]
  have e1 : (List.range (a + 1)).filter (fun b => decide (a < b)) = [] := by
    rw [List.filter_eq_nil_iff]
    intro x hx
    have := List.mem_range.mp hx
    rw [decide_eq_false (by omega)]
    decide
  have e2 : (above n a).filter (fun b => decide (a < b)) = above n a := by
    rw [List.filter_eq_self]
    intro x hx
    unfold above at hx
    rw [List.mem_range'_1] at hx
    exact decide_eq_true (by omega)
  rw [e1, e2, List.nil_append]
theorem filter_b01 {α : Type} (p : α → Bool) : ∀ l : List α, (l.filter p).length = (l.map fun x => b01 (p x)).sum
  | [] => rfl
  | x :: r => by
    rw [List.filter_cons, List.map_cons, List.sum_cons, ← filter_b01 p r]
    cases p x with
    | true =>
      rw [if_pos rfl, List.length_cons]
      show _ = 1 + _
      omega
    | false =>
      rw [if_neg (by decide)]
      show _ = 0 + _
      omega
theorem pair_count {n : Nat} (q : Nat → Nat → Bool) (p : Nat × Nat → Bool) : ∀ i, i ≤ n → (((List.range i).flatMap fun a => ((above n a).filter (q a)).map fun b => (a, b)).filter p).length = S i fun a => S n fun b => if a < b then b01 (q a b && p (a, b)) else 0
  | 0, _ => rfl
  | i + 1, hi => by
    rw [List.range_succ, List.flatMap_append, List.filter_append, List.length_append, pair_count q p i (by omega), S_succ, List.flatMap_cons, List.flatMap_nil, List.append_nil]
    congr 1
    rw [List.filter_map, List.length_map, List.filter_filter, above_filter (by omega), List.filter_filter, filter_b01]
    unfold S
    rw [List.map_congr_left fun b _ => ?_]
    show b01 (((p (i, b)) && q i b) && decide (i < b)) = _
    by_cases h : i < b
    · rw [if_pos h, decide_eq_true h, Bool.and_true, Bool.and_comm]
    · rw [if_neg h, decide_eq_false h, Bool.and_false]
      rfl
theorem filter_true {α : Type} (l : List α) : l.filter (fun _ => true) = l := List.filter_eq_self.mpr fun _ _ => rfl
section
variable {n : Nat} {g h l : Said}
theorem WfL.two (W : WfL n l) : ∀ q ∈ l, q.1 < n ∧ q.2 < n := fun p hp => ⟨(W.lt p hp).1, (W.lt p hp).2.1⟩
theorem WfL.irr (W : WfL n l) (a : Nat) : says l a a = false := by
  cases e : says l a a with
  | false => rfl
  | true => exact absurd rfl (W.lt _ (says_iff.mp e)).2.2
theorem WfL.asym (W : WfL n l) {a b : Nat} (e : says l a b = true) : says l b a = false := by
  cases e2 : says l b a with
  | false => rfl
  | true => exact absurd (says_iff.mp e2) (W.anti _ _ (says_iff.mp e))
theorem pairsSaid_len (W : WfL n l) (k : Nat) : pairsSaid n ⟨fOf l, k⟩ = l.length := by
  have e := filter_count (fun _ => true) W.two W.nd
  rw [filter_true] at e
  rw [e]
  show (S n fun i => S n fun j => fOf l i j) = _
  refine S_congr fun a _ => S_congr fun b _ => ?_
  unfold T2 fOf
  rw [Bool.and_true]
theorem hasSaid_eq (l : Said) (k a b : Nat) : hasSaid ⟨fOf l, k⟩ a b = (says l a b || says l b a) := by
  unfold hasSaid
  show decide (0 < fOf l a b + fOf l b a) = _
  unfold fOf b01
  cases says l a b <;> cases says l b a <;> rfl
theorem agree_len (Wg : WfL n g) (k k' : Nat) : (pairsOfBoth n ⟨fOf g, k⟩ ⟨fOf h, k'⟩ n).length = (g.filter fun (x : Nat × Nat) => says h x.1 x.2 || says h x.2 x.1).length := by
  have e := pair_count (n := n) (fun a b => hasSaid ⟨fOf g, k⟩ a b && hasSaid ⟨fOf h, k'⟩ a b) (fun _ => true) n (Nat.le_refl n)
  rw [filter_true] at e
  unfold pairsOfBoth
  rw [e, filter_count _ Wg.two Wg.nd, S_pairs (F := T2 g fun x => says h x.1 x.2 || says h x.2 x.1) fun a _ => by unfold T2; rw [Wg.irr]; rfl]
  refine S_congr fun a _ => S_congr fun b _ => ?_
  by_cases hab : a < b
  · rw [if_pos hab, if_pos hab, hasSaid_eq, hasSaid_eq]
    unfold T2
    show b01 (((says g a b || says g b a) && (says h a b || says h b a)) && true) = b01 (says g a b && (says h a b || says h b a)) + b01 (says g b a && (says h b a || says h a b))
    have z := fun e => Wg.asym (a := a) (b := b) e
    revert z
    cases says g a b <;> cases says g b a <;> cases says h a b <;> cases says h b a <;> intro z <;> first | rfl | cases z rfl
  · rw [if_neg hab, if_neg hab]
theorem same_len (Wg : WfL n g) (Wh : WfL n h) (k k' : Nat) : sameIn ⟨fOf g, k⟩ ⟨fOf h, k'⟩ (pairsOfBoth n ⟨fOf g, k⟩ ⟨fOf h, k'⟩ n) = (g.filter fun (x : Nat × Nat) => says h x.1 x.2).length := by
  unfold sameIn pairsOfBoth
  rw [pair_count (n := n) (fun a b => hasSaid ⟨fOf g, k⟩ a b && hasSaid ⟨fOf h, k'⟩ a b) _ n (Nat.le_refl n), filter_count _ Wg.two Wg.nd, S_pairs (F := T2 g fun x => says h x.1 x.2) fun a _ => by unfold T2; rw [Wg.irr]; rfl]
  refine S_congr fun a _ => S_congr fun b _ => ?_
  by_cases hab : a < b
  · rw [if_pos hab, if_pos hab, hasSaid_eq, hasSaid_eq]
    unfold T2
    show b01 (((says g a b || says g b a) && (says h a b || says h b a)) && decide (fOf g a b = fOf h a b)) = b01 (says g a b && says h a b) + b01 (says g b a && says h b a)
    have z := fun e => Wg.asym (a := a) (b := b) e
    have z2 := fun e => Wh.asym (a := a) (b := b) e
    unfold fOf
    revert z z2
    cases says g a b <;> cases says g b a <;> cases says h a b <;> cases says h b a <;> intro z z2 <;> first | rfl | cases z rfl | cases z2 rfl
  · rw [if_neg hab, if_neg hab]
/-! ### against an order -/
theorem one_pair {l : Said} (nd : l.Nodup) (a b : Nat) : (l.filter fun p => decide (p = (a, b))).length = fOf l a b := by
  induction l with
  | nil => rfl
  | cons x r ih =>
    obtain ⟨h1, h2⟩ := List.nodup_cons.mp nd
    have ih := ih h2
    rw [List.filter_cons]
    unfold fOf at ih ⊢
    rw [says_cons]
    by_cases e : x = (a, b)
    · subst e
      rw [decide_eq_true rfl, if_pos rfl, List.length_cons, ih]
      have : says r a b = false := by
        cases hs : says r a b with
        | false => rfl
        | true => exact absurd (says_iff.mp hs) h1
      rw [this]
      rfl
    · rw [decide_eq_false e, if_neg (by decide), ih, Bool.false_or]
theorem filter_or {α : Type} {p q : α → Bool} : ∀ {l : List α}, (∀ x ∈ l, ¬ (p x = true ∧ q x = true)) → (l.filter fun x => p x || q x).length = (l.filter p).length + (l.filter q).length
  | [], _ => rfl
  | x :: r, h => by
    have ih := filter_or (p := p) (q := q) fun y hy => h y (List.mem_cons_of_mem _ hy)
    have hx := h x List.mem_cons_self
    rw [List.filter_cons, List.filter_cons, List.filter_cons]
    cases hp : p x <;> cases hq : q x
    · exact ih
    · show (x :: r.filter fun x => p x || q x).length = (r.filter p).length + (x :: r.filter q).length
      rw [List.length_cons, List.length_cons]
      omega
    · show (x :: r.filter fun x => p x || q x).length = (x :: r.filter p).length + (r.filter q).length
      rw [List.length_cons, List.length_cons]
      omega
    · exact absurd ⟨hp, hq⟩ hx
theorem onto_one {l : Said} (nd : l.Nodup) (x : Nat) : ∀ {r : List Nat}, r.Nodup → (l.filter fun p => decide (p.2 = x) && r.contains p.1).length = (r.map fun y => fOf l y x).sum
  | [], _ => by
    rw [List.filter_eq_nil_iff.mpr fun p _ => by simp]
    rfl
  | y :: r, h => by
    obtain ⟨h1, h2⟩ := List.nodup_cons.mp h
    rw [List.map_cons, List.sum_cons, ← onto_one nd x h2, ← one_pair nd y x, ← filter_or fun p _ => by
      rintro ⟨z1, z2⟩
      have z1 := of_decide_eq_true z1
      subst z1
      rw [Bool.and_eq_true, List.contains_iff_mem] at z2
      exact h1 z2.2]
    congr 1
    refine List.filter_congr fun p _ => ?_
    obtain ⟨u, v⟩ := p
    rw [Bool.eq_iff_iff, Bool.and_eq_true, Bool.or_eq_true, Bool.and_eq_true, decide_eq_true_iff, decide_eq_true_iff, List.contains_iff_mem, List.contains_iff_mem, List.mem_cons]
    constructor
    · rintro ⟨a, b | b⟩
      · exact .inl (by rw [show u = y from b, show v = x from a])
      · exact .inr ⟨a, b⟩
    · rintro (a | ⟨a, b⟩)
      · injection a with a b
        exact ⟨b, .inl a⟩
      · exact ⟨a, .inr b⟩
def inOrd (o : List Nat) (p : Nat × Nat) : Bool := o.contains p.1 && o.contains p.2 && decide (o.idxOf p.2 < o.idxOf p.1)
theorem sa_count {l : Said} (nd : l.Nodup) (hi : ∀ p ∈ l, p.1 ≠ p.2) : ∀ {o : List Nat}, o.Nodup → (l.filter (inOrd o)).length = sa (fOf l) o
  | [], _ => by
    rw [List.filter_eq_nil_iff.mpr fun p _ => by unfold inOrd; simp]
    rfl
  | x :: r, h => by
    obtain ⟨h1, h2⟩ := List.nodup_cons.mp h
    show _ = (r.map fun y => fOf l y x).sum + sa (fOf l) r
    rw [← sa_count nd hi h2, ← onto_one nd x h2, ← filter_or fun p _ => by
      rintro ⟨z1, z2⟩
      unfold inOrd at z2
      simp only [Bool.and_eq_true, decide_eq_true_iff, List.contains_iff_mem] at z1 z2
      rw [z1.1] at z2
      exact h1 z2.1.2]
    congr 1
    refine List.filter_congr fun p hp => ?_
    have hne := hi p hp
    obtain ⟨u, v⟩ := p
    have hne : u ≠ v := hne
    unfold inOrd
    rw [Bool.eq_iff_iff]
    simp only [Bool.and_eq_true, Bool.or_eq_true, decide_eq_true_iff, List.contains_iff_mem, List.mem_cons, List.idxOf_cons]
    by_cases hv : v = x
    · subst hv
      have hu : ¬ u = v := hne
      have e1 : (v == v) = true := by simp
      have e2 : (v == u) = false := by
        rw [beq_eq_false_iff_ne]
        exact Ne.symm hne
      rw [e1, e2]
      constructor
      · rintro ⟨⟨a | a, _⟩, _⟩
        · exact absurd a hu
        · exact .inl ⟨rfl, a⟩
      · rintro (⟨_, a⟩ | ⟨⟨_, b⟩, _⟩)
        · refine ⟨⟨.inr a, .inl rfl⟩, ?_⟩
          show 0 < _ + 1
          omega
        · exact absurd b h1
    · have e1 : (x == v) = false := by
        rw [beq_eq_false_iff_ne]
        exact Ne.symm hv
      rw [e1]
      by_cases hu : u = x
      · subst hu
        have e2 : (u == u) = true := by simp
        rw [e2]
        constructor
        · rintro ⟨_, c⟩
          have c : List.idxOf v r + 1 < 0 := c
          omega
        · rintro (⟨a, _⟩ | ⟨⟨b, _⟩, _⟩)
          · exact absurd a hv
          · exact absurd b h1
      · have e2 : (x == u) = false := by
          rw [beq_eq_false_iff_ne]
          exact Ne.symm hu
        rw [e2]
        constructor
        · rintro ⟨⟨a | a, b | b⟩, c⟩
          · exact absurd a hu
          · exact absurd a hu
          · exact absurd b hv
          · have c : List.idxOf v r + 1 < List.idxOf u r + 1 := c
            exact .inr ⟨⟨a, b⟩, by omega⟩
        · rintro (⟨a, _⟩ | ⟨⟨a, b⟩, c⟩)
          · exact absurd a hv
          · refine ⟨⟨.inr a, .inr b⟩, ?_⟩
            show List.idxOf v r + 1 < List.idxOf u r + 1
            omega
theorem against_len (W : WfL n l) {o : List Nat} (nd : o.Nodup) (ho : ∀ x, x < n → x ∈ o) : (SctPanel.againstIn l o).length = sa (fOf l) o := by
  rw [← sa_count W.nd (fun p hp => (W.lt p hp).2.2) nd]
  unfold SctPanel.againstIn
  congr 1
  refine List.filter_congr fun p hp => ?_
  unfold before inOrd
  rw [List.contains_iff_mem.mpr (ho _ (W.lt p hp).1), List.contains_iff_mem.mpr (ho _ (W.lt p hp).2.1)]
  rfl
theorem sa_add (f g : Mx) : ∀ o, sa (fun a b => f a b + g a b) o = sa f o + sa g o
  | [] => rfl
  | x :: r => by
    show (r.map fun y => f y x + g y x).sum + sa (fun a b => f a b + g a b) r = ((r.map fun y => f y x).sum + sa f r) + ((r.map fun y => g y x).sum + sa g r)
    rw [sa_add f g r]
    have : ∀ l : List Nat, (l.map fun y => f y x + g y x).sum = (l.map fun y => f y x).sum + (l.map fun y => g y x).sum := by
      intro l
      induction l with
      | nil => rfl
      | cons a t ih =>
        rw [List.map_cons, List.map_cons, List.map_cons, List.sum_cons, List.sum_cons, List.sum_cons, ih]
        omega
    rw [this]
    omega
theorem sa_mul (c : Nat) (f : Mx) : ∀ o, sa (fun a b => c * f a b) o = c * sa f o
  | [] => rfl
  | x :: r => by
    show (r.map fun y => c * f y x).sum + sa (fun a b => c * f a b) r = c * ((r.map fun y => f y x).sum + sa f r)
    rw [sa_mul c f r, Nat.mul_add]
    congr 1
    induction r with
    | nil => rfl
    | cons a t ih => rw [List.map_cons, List.map_cons, List.sum_cons, List.sum_cons, ih, Nat.mul_add]
theorem sa_zero : ∀ o, sa (fun _ _ => 0) o = 0
  | [] => rfl
  | x :: r => by
    show (r.map fun _ => 0).sum + sa (fun _ _ => 0) r = 0
    rw [sa_zero r]
    induction r with
    | nil => rfl
    | cons a t ih =>
      rw [List.map_cons, List.sum_cons]
      omega
/-! ### mend -/
def ltP (x y : Nat × Nat) : Prop := x.1 < y.1 ∨ (x.1 = y.1 ∧ x.2 < y.2)
theorem sorted_ext : ∀ {l l' : List (Nat × Nat)}, l.Pairwise ltP → l'.Pairwise ltP → (∀ x, x ∈ l ↔ x ∈ l') → l = l'
  | [], [], _, _, _ => rfl
  | [], y :: r, _, _, h => absurd ((h y).mpr List.mem_cons_self) (by simp)
  | x :: r, [], _, _, h => absurd ((h x).mp List.mem_cons_self) (by simp)
  | x :: r, y :: r', h1, h2, h => by
    obtain ⟨a1, a2⟩ := List.pairwise_cons.mp h1
    obtain ⟨b1, b2⟩ := List.pairwise_cons.mp h2
    have e : x = y := by
      rcases List.mem_cons.mp ((h x).mp List.mem_cons_self) with z | z
      · exact z
      · rcases List.mem_cons.mp ((h y).mpr List.mem_cons_self) with z2 | z2
        · exact z2.symm
        · have c1 := b1 x z
          have c2 := a1 y z2
          unfold ltP at c1 c2
          omega
    subst e
    rw [sorted_ext a2 b2 fun z => ⟨fun hz => ?_, fun hz => ?_⟩]
    · rcases List.mem_cons.mp ((h z).mp (List.mem_cons_of_mem _ hz)) with q | q
      · have := a1 z hz
        rw [q] at this
        unfold ltP at this
        omega
      · exact q
    · rcases List.mem_cons.mp ((h z).mpr (List.mem_cons_of_mem _ hz)) with q | q
      · have := b1 z hz
        rw [q] at this
        unfold ltP at this
        omega
      · exact q
theorem mem_putPair {x z : Nat × Nat} : ∀ {l : Said}, z ∈ putPair x l ↔ z = x ∨ z ∈ l
  | [] => by
    show z ∈ [x] ↔ _
    simp
  | y :: l => by
    show z ∈ (if x.1 < y.1 ∨ (x.1 = y.1 ∧ x.2 < y.2) then x :: y :: l else y :: putPair x l) ↔ _
    split
    · rw [List.mem_cons]
    · rw [List.mem_cons, mem_putPair, List.mem_cons]
      exact or_left_comm
theorem putPair_sorted {x : Nat × Nat} : ∀ {l : Said}, l.Pairwise ltP → x ∉ l → (putPair x l).Pairwise ltP
  | [], _, _ => List.pairwise_singleton ..
  | y :: l, h, hx => by
    obtain ⟨a1, a2⟩ := List.pairwise_cons.mp h
    show (if x.1 < y.1 ∨ (x.1 = y.1 ∧ x.2 < y.2) then x :: y :: l else y :: putPair x l).Pairwise ltP
    split
    · rename_i hlt
      refine List.pairwise_cons.mpr ⟨fun z hz => ?_, h⟩
      rcases List.mem_cons.mp hz with q | q
      · rw [q]
        exact hlt
      · have c := a1 z q
        unfold ltP at c ⊢
        omega
    · rename_i hlt
      refine List.pairwise_cons.mpr ⟨fun z hz => ?_, putPair_sorted a2 fun q => hx (List.mem_cons_of_mem _ q)⟩
      rcases mem_putPair.mp hz with q | q
      · rw [q]
        have hne : x ≠ y := fun q => hx (by rw [q]; exact List.mem_cons_self)
        obtain ⟨x1, x2⟩ := x
        obtain ⟨y1, y2⟩ := y
        unfold ltP
        simp only at hlt ⊢
        have : ¬ (x1 = y1 ∧ x2 = y2) := fun ⟨q1, q2⟩ => hne (by rw [q1, q2])
        omega
      · exact a1 z q
theorem sort_ok : ∀ {l : Said}, l.Nodup → (l.foldr putPair []).Pairwise ltP ∧ ∀ z, z ∈ l.foldr putPair [] ↔ z ∈ l
  | [], _ => ⟨List.Pairwise.nil, fun z => Iff.rfl⟩
  | x :: l, h => by
    obtain ⟨h1, h2⟩ := List.nodup_cons.mp h
    obtain ⟨a, b⟩ := sort_ok h2
    rw [List.foldr_cons]
    refine ⟨putPair_sorted a fun z => h1 ((b x).mp z), fun z => ?_⟩
    rw [mem_putPair, b, List.mem_cons]
theorem pairsAgainst_mem {f : Mx} {o : List Nat} {i : Nat} {z : Nat × Nat} : z ∈ pairsAgainst f n o i ↔ z.1 < i ∧ z.2 < n ∧ isAgainst f o z.1 z.2 = true := by
  unfold pairsAgainst
  rw [List.mem_flatMap]
  constructor
  · rintro ⟨a, ha, hz⟩
    obtain ⟨b, hb, rfl⟩ := List.mem_map.mp hz
    obtain ⟨h1, h2⟩ := List.mem_filter.mp hb
    exact ⟨List.mem_range.mp ha, List.mem_range.mp h1, h2⟩
  · rintro ⟨h1, h2, h3⟩
    exact ⟨z.1, List.mem_range.mpr h1, List.mem_map.mpr ⟨z.2, List.mem_filter.mpr ⟨List.mem_range.mpr h2, h3⟩, rfl⟩⟩
theorem pairsAgainst_sorted (f : Mx) (n : Nat) (o : List Nat) (i : Nat) : (pairsAgainst f n o i).Pairwise ltP := by
  unfold pairsAgainst
  rw [List.pairwise_flatMap]
  refine ⟨fun a _ => ?_, ?_⟩
  · rw [List.pairwise_map]
    refine List.Pairwise.imp (fun h => .inr ⟨rfl, h⟩) (List.Pairwise.filter _ (List.pairwise_lt_range (n := n)))
  · refine List.Pairwise.imp (fun {a b} hab => ?_) (List.pairwise_lt_range (n := i))
    intro x hx y hy
    obtain ⟨_, _, rfl⟩ := List.mem_map.mp hx
    obtain ⟨_, _, rfl⟩ := List.mem_map.mp hy
    exact .inl hab
theorem mend_eq (W : WfL n l) : pairsAgainst (fOf l) n (bestOrder (fOf l) (nothing n)) n = mendOf l n := by
  have ht : ∀ a b, a < n → b < n → fOf l a b = counts [(1, l)] a b := fun a b _ _ => by
    show fOf l a b = (if says l a b = true then 1 else 0) + 0
    rfl
  have hb := best_cost (ndl_nothing n) ht (no_round_nil n)
  unfold mendOf
  rw [hb]
  show _ = (SctPanel.againstIn l (bestOrder (fOf l) (nothing n))).foldr putPair []
  have hnd : (SctPanel.againstIn l (bestOrder (fOf l) (nothing n))).Nodup := List.Pairwise.filter _ W.nd
  obtain ⟨a, b⟩ := sort_ok hnd
  refine sorted_ext (pairsAgainst_sorted _ _ _ _) a fun z => ?_
  rw [b, pairsAgainst_mem]
  unfold SctPanel.againstIn
  rw [List.mem_filter]
  unfold isAgainst before
  rw [Bool.and_eq_true, decide_eq_true_iff, fOf_one]
  constructor
  · rintro ⟨_, _, h3, h4⟩
    exact ⟨h3, h4⟩
  · rintro ⟨h3, h4⟩
    exact ⟨(W.lt z h3).1, (W.lt z h3).2.1, h3, h4⟩
end
end Np
set_option linter.all false
namespace Np
open SctPanel (ratio)
/-! ### shares -/
theorem ratio_mk (a b : Nat) : ratio a b = mkRat (a : Int) b := by
  unfold ratio
  rw [Rat.mkRat_eq_div]
  rfl
theorem fraction_eq {a b : Nat} (hb : 0 < b) : SctPanel.fraction (ratio a b) = (fraction a b).map fun (n : Nat) => (n : Int) := by
  unfold SctPanel.fraction fraction
  rw [ratio_mk, Rat.num_mkRat, Rat.den_mkRat, if_neg (by omega), if_neg (by omega)]
  show _ = [((a / Nat.gcd a b : Nat) : Int), ((b / Nat.gcd a b : Nat) : Int)]
  rw [Int.natAbs_natCast, Nat.gcd_comm b a]
  rfl
theorem ratio_add (a b e : Nat) : ratio a e + ratio b e = ratio (a + b) e := by
  unfold ratio
  rw [Rat.div_def, Rat.div_def, Rat.div_def, ← Rat.add_mul, ← Rat.natCast_add]
theorem ratio_one {e : Nat} (he : 0 < e) : ratio e e = 1 := by
  rw [ratio_mk]
  have := Rat.mkRat_mul_left (n := 1) (d := 1) (a := e) (by omega)
  rw [Int.mul_one, Nat.mul_one] at this
  rw [this]
  rfl
theorem ratio_lt {a b e : Nat} (he : 0 < e) : ratio a e < ratio b e ↔ a < b := by
  have hp : (0 : Rat) < (e : Rat) := Rat.natCast_pos.mpr he
  unfold ratio
  rw [Rat.div_lt_iff hp, Rat.div_mul_cancel (Rat.ne_of_lt hp).symm, Rat.natCast_lt_natCast]
theorem ratio_le {a b e : Nat} (he : 0 < e) : ratio a e ≤ ratio b e ↔ a ≤ b := by
  rw [← Rat.not_lt, ratio_lt he]
  omega
theorem ratio_mul (a e q : Nat) : ratio a e * (q : Rat) = ratio (a * q) e := by
  unfold ratio
  rw [Rat.div_def, Rat.div_def, Rat.natCast_mul, Rat.mul_assoc, Rat.mul_comm _ (q : Rat), ← Rat.mul_assoc]
theorem ratio_two (k e : Nat) : ratio (2 * k) (2 * e) = ratio k e := by
  rw [ratio_mk, ratio_mk]
  exact Rat.mkRat_mul_left (n := (k : Int)) (d := e) (a := 2) (by decide)
theorem ratio_sub {a b e : Nat} (h : b ≤ a) : ratio a e - ratio b e = ratio (a - b) e := by
  have h1 := ratio_add (a - b) b e
  rw [Nat.sub_add_cancel h] at h1
  rw [← h1, Rat.sub_eq_add_neg, Rat.add_assoc, Rat.add_neg_cancel, Rat.add_zero]
theorem half_eq {e : Nat} (he : 0 < e) : (1 : Rat) / 2 = ratio e (2 * e) := by
  have := ratio_two
  rw [ratio_mk]
  have h := Rat.mkRat_mul_left (n := 1) (d := 2) (a := e) (by omega)
  rw [Int.mul_one, Nat.mul_comm e 2] at h
  rw [h]
  exact (Rat.mkRat_eq_div 1 2).symm
theorem off_eq {k e : Nat} (he : 0 < e) : SctPanel.off (ratio k e) = ratio (offOf k e) (2 * e) := by
  unfold SctPanel.off offOf
  rw [half_eq he, ← ratio_two k e]
  by_cases h : 2 * k < e
  · rw [if_pos ((ratio_lt (by omega)).mpr h), ratio_sub (by omega)]
    congr 1
    omega
  · rw [if_neg fun z => h ((ratio_lt (by omega)).mp z), ratio_sub (by omega)]
    congr 1
    omega
theorem off_lt {k k' e : Nat} (he : 0 < e) : SctPanel.off (ratio k e) < SctPanel.off (ratio k' e) ↔ offOf k e < offOf k' e := by
  rw [off_eq he, off_eq he, ratio_lt (by omega)]
theorem sumQ_eq {α : Type} (g : α → Nat) (e : Nat) : ∀ (l : List α) (k : Nat), (l.map fun x => ratio (g x) e).foldl (fun (a b : Rat) => a + b) (ratio k e) = ratio (k + (l.map g).sum) e
  | [], k => by
    show ratio k e = ratio (k + 0) e
    rw [Nat.add_zero]
  | x :: l, k => by
    rw [List.map_cons, List.foldl_cons, ratio_add, sumQ_eq g e l, List.map_cons, List.sum_cons, Nat.add_assoc]
theorem ratio_zero (e : Nat) : ratio 0 e = 0 := by
  rw [ratio_mk]
  exact Rat.zero_mkRat e
theorem mean_eq {α : Type} (g : α → Nat) {e : Nat} (he : 0 < e) (l : List α) : 1 + SctPanel.sumQ (l.map fun x => ratio (g x) e) = ratio (e + (l.map g).sum) e := by
  unfold SctPanel.sumQ
  rw [← ratio_zero e, sumQ_eq, Nat.zero_add, ← ratio_one he, ratio_add]
end Np
set_option linter.all false
namespace Np
open SctPanel (says unsaid outside with_ mayCome many manyWith Said ratio others leastPlace mostPlace meanPlace askOf pairsOf chance off)
theorem yes_append (l r : List Nat) : yes (l ++ r) = SctPanel.nums l ++ r.map fun (n : Nat) => (n : Int) := by
  show (0 : Int) :: (l ++ r).map _ = 0 :: l.map _ ++ r.map _
  rw [List.map_append]
  rfl
section
variable {nd : List Nat} {n : Nat} {l : Said}
theorem follows_eq (N : NdL nd n l) (hs : many l n ≠ 0) {a b : Nat} (ha : a < n) (hb : b < n) (hne : a ≠ b) : followsOf nd a b = SctPanel.follows l n a b := by
  unfold followsOf SctPanel.follows
  rw [cntB_eq N ha hb, cnt_eq N]
  have e := many_split (l := l) ha hb hne
  by_cases h1 : manyWith l n b a = 0
  · rw [if_pos (by omega), if_pos h1]
  · rw [if_neg (by omega), if_neg h1]
theorem follows_one (hs : many l n ≠ 0) {x a : Nat} (hx : x < n) (ha : a < n) (hne : x ≠ a) : (SctPanel.follows l n x a == 1) = decide (manyWith l n x a = many l n) := by
  have e := many_split (l := l) hx ha hne
  unfold SctPanel.follows
  by_cases h1 : manyWith l n a x = 0
  · rw [if_pos h1, decide_eq_true (by omega)]
    rfl
  · rw [if_neg h1, decide_eq_false (by omega)]
    by_cases h2 : manyWith l n x a = 0
    · rw [if_pos h2]
      rfl
    · rw [if_neg h2]
      rfl
theorem follows_one' (hs : many l n ≠ 0) {x a : Nat} (hx : x < n) (ha : a < n) (hne : x ≠ a) : (SctPanel.follows l n a x == 1) = decide (manyWith l n x a = 0) := by
  unfold SctPanel.follows
  by_cases h1 : manyWith l n x a = 0
  · rw [if_pos h1, decide_eq_true h1]
    rfl
  · rw [if_neg h1, decide_eq_false h1]
    by_cases h2 : manyWith l n a x = 0
    · rw [if_pos h2]
      rfl
    · rw [if_neg h2]
      rfl
theorem follows_two (hs : many l n ≠ 0) {a b : Nat} (ha : a < n) (hb : b < n) (hne : a ≠ b) : (SctPanel.follows l n a b == 2) = (decide (0 < manyWith l n a b) && decide (manyWith l n a b < many l n)) := by
  have e := many_split (l := l) ha hb hne
  unfold SctPanel.follows
  by_cases h1 : manyWith l n b a = 0
  · rw [if_pos h1, decide_eq_false (p := manyWith l n a b < many l n) (by omega), Bool.and_false]
    rfl
  · rw [if_neg h1, decide_eq_true (p := manyWith l n a b < many l n) (by omega), Bool.and_true]
    by_cases h2 : manyWith l n a b = 0
    · rw [if_pos h2, decide_eq_false (by omega)]
      rfl
    · rw [if_neg h2, decide_eq_true (by omega)]
      rfl
theorem chance_eq (N : NdL nd n l) (hs : many l n ≠ 0) {a b : Nat} (ha : a < n) (hb : b < n) : SctPanel.fraction (chance l n a b) = (fraction (cntB nd a b) (cnt nd)).map fun (n : Nat) => (n : Int) := by
  unfold chance
  rw [cntB_eq N ha hb, cnt_eq N]
  exact fraction_eq (by omega)
/-! ### places -/
theorem placesAt_eq (N : NdL nd n l) {x : Nat} (hx : x < n) : ∀ i, i ≤ n →
    (placesAt nd x i).least = 1 + ((List.range i).filter fun y => decide (manyWith l n y x = many l n) && y != x).length ∧
    (placesAt nd x i).less = ((List.range i).filter fun y => decide (manyWith l n y x = 0) && y != x).length ∧
    (placesAt nd x i).together = many l n + S i fun y => if (y != x) = true then manyWith l n y x else 0
  | 0, _ => ⟨rfl, rfl, by
    show cnt nd = _
    rw [cnt_eq N]
    rfl⟩
  | i + 1, hi => by
    obtain ⟨h1, h2, h3⟩ := placesAt_eq N hx i (by omega)
    have e : placesAt nd x (i + 1) = placeStep nd x i (placesAt nd x i) := rfl
    rw [e, List.range_succ, List.filter_append, List.filter_append, List.length_append, List.length_append, S_succ]
    unfold placeStep
    by_cases hix : i = x
    · rw [if_pos hix]
      have hb : (i != x) = false := by
        rw [hix]
        simp
      rw [if_neg (by rw [hb]; decide), List.filter_cons, List.filter_cons, hb, Bool.and_false, Bool.and_false, if_neg (by decide), if_neg (by decide)]
      exact ⟨h1, h2, h3⟩
    · rw [if_neg hix]
      have hb : (i != x) = true := by
        rw [bne_iff_ne]
        exact hix
      rw [if_pos hb, List.filter_cons, List.filter_cons, hb, Bool.and_true, Bool.and_true, cntB_eq N (by omega) hx, cnt_eq N]
      refine ⟨?_, ?_, ?_⟩
      · show (if _ then _ else _ : Nat) = _
        by_cases h : manyWith l n i x = many l n
        · rw [if_pos h, decide_eq_true h, if_pos rfl, h1]
          rfl
        · rw [if_neg h, decide_eq_false h, if_neg (by decide), h1]
          rfl
      · show (if _ then _ else _ : Nat) = _
        by_cases h : manyWith l n i x = 0
        · rw [if_pos h, decide_eq_true h, if_pos rfl, h2]
          rfl
        · rw [if_neg h, decide_eq_false h, if_neg (by decide), h2]
          rfl
      · show _ + _ = _
        rw [h3]
        omega
theorem others_filter {a : Nat} (p q : Nat → Bool) (h : ∀ x, x < n → x ≠ a → p x = q x) : ((others n a).filter p).length = ((List.range n).filter fun y => q y && y != a).length := by
  unfold others
  rw [List.filter_filter]
  congr 1
  refine List.filter_congr fun x hx => ?_
  by_cases e : x = a
  · subst e
    simp
  · rw [h x (List.mem_range.mp hx) e]
theorem places_eq (N : NdL nd n l) (hs : many l n ≠ 0) {x : Nat} (hx : x < n) : yes (places nd x) = SctPanel.nums [leastPlace l n x, mostPlace l n x] ++ SctPanel.fraction (meanPlace l n x) := by
  obtain ⟨h1, h2, h3⟩ := placesAt_eq N hx n (Nat.le_refl n)
  unfold places
  rw [N.len, yes_append, cnt_eq N]
  have e1 : (placesAt nd x n).least = leastPlace l n x := by
    rw [h1]
    unfold leastPlace
    rw [others_filter _ _ fun y hy hne => follows_one hs hy hx hne]
  have e2 : n - (placesAt nd x n).less = mostPlace l n x := by
    rw [h2]
    unfold mostPlace
    rw [others_filter _ _ fun y hy hne => follows_one' hs hy hx hne]
  have e3 : meanPlace l n x = ratio ((placesAt nd x n).together) (many l n) := by
    unfold meanPlace
    rw [h3]
    have := mean_eq (fun y => manyWith l n y x) (Nat.pos_of_ne_zero hs) (others n x)
    refine Eq.trans this ?_
    congr 2
    unfold others
    rw [sum_filter]
    rfl
  rw [e1, e2, e3, fraction_eq (Nat.pos_of_ne_zero hs)]
/-! ### ask -/
def conv (e : Nat) (x : Nat × Nat × Nat) : (Nat × Nat) × Rat := ((x.1, x.2.1), ratio x.2.2 e)
theorem openPairs_eq (N : NdL nd n l) (hs : many l n ≠ 0) : (((pairsOf n).filter fun (x : Nat × Nat) => SctPanel.follows l n x.1 x.2 == 2).map fun (x : Nat × Nat) => (x, chance l n x.1 x.2)) = (openPairs nd (cnt nd) nd.length).map (conv (cnt nd)) := by
  unfold pairsOf openPairs
  rw [List.filter_flatMap, List.map_flatMap, List.map_flatMap, N.len]
  rw [List.flatMap_def, List.flatMap_def, List.map_congr_left fun a ha => ?_]
  have ha := List.mem_range.mp ha
  show (((((List.range n).filter fun b => decide (a < b)).map fun b => (a, b)).filter fun (x : Nat × Nat) => SctPanel.follows l n x.1 x.2 == 2).map fun (x : Nat × Nat) => (x, chance l n x.1 x.2)) = (openRow nd (cnt nd) a (above n a)).map (conv (cnt nd))
  rw [← above_filter ha]
  unfold openRow
  rw [List.filter_map, List.map_map, List.map_map]
  have e1 : (above n a).filter ((fun (x : Nat × Nat) => SctPanel.follows l n x.1 x.2 == 2) ∘ fun b => (a, b)) = (above n a).filter (isOpen nd (cnt nd) a) := by
    refine List.filter_congr fun b hb => ?_
    unfold above at hb
    rw [List.mem_range'_1] at hb
    show (SctPanel.follows l n a b == 2) = isOpen nd (cnt nd) a b
    unfold isOpen
    rw [follows_two hs ha (by omega) (by omega), cntB_eq N ha (by omega), cnt_eq N]
  rw [e1]
  refine List.map_congr_left fun b hb => ?_
  have hb := (List.mem_filter.mp hb).1
  unfold above at hb
  rw [List.mem_range'_1] at hb
  show ((a, b), chance l n a b) = ((a, b), ratio (cntB nd a b) (cnt nd))
  unfold chance
  rw [cntB_eq N ha (by omega), cnt_eq N]
/-- what is kept: no pair; a pair and its share -/
def AskR (e : Nat) (y : Option ((Nat × Nat) × Rat)) (p : List Nat × Nat) : Prop := (y = none ∧ p = ([], e)) ∨ ∃ a b k, y = some ((a, b), ratio k e) ∧ p = ([a, b] ++ fraction k e, offOf k e)
theorem ask_fold {e : Nat} (he : 0 < e) : ∀ (xs : List (Nat × Nat × Nat)) (y : Option ((Nat × Nat) × Rat)) (p : List Nat × Nat), (∀ x ∈ xs, 0 < x.2.2 ∧ x.2.2 < e) → AskR e y p →
    AskR e ((xs.map (conv e)).foldl (fun (b : Option ((Nat × Nat) × Rat)) (x : (Nat × Nat) × Rat) => match b with
      | some y => if off x.2 < off y.2 then some x else some y
      | none => some x) y) (xs.foldl (askStep e) p)
  | [], y, p, _, h => h
  | x :: xs, y, p, hx, h => by
    rw [List.map_cons, List.foldl_cons, List.foldl_cons]
    refine ask_fold he xs _ _ (fun z hz => hx z (List.mem_cons_of_mem _ hz)) ?_
    have hx := hx x List.mem_cons_self
    obtain ⟨x1, x2, x3⟩ := x
    rcases h with ⟨rfl, rfl⟩ | ⟨a, b, k, rfl, rfl⟩
    · refine .inr ⟨x1, x2, x3, rfl, ?_⟩
      unfold askStep
      rw [if_pos]
      show offOf x3 e < e
      unfold offOf
      have h1 : 0 < x3 := hx.1
      have h2 : x3 < e := hx.2
      omega
    · show AskR e (if off (ratio x3 e) < off (ratio k e) then some ((x1, x2), ratio x3 e) else some ((a, b), ratio k e)) (if offOf x3 e < offOf k e then ([x1, x2] ++ fraction x3 e, offOf x3 e) else ([a, b] ++ fraction k e, offOf k e))
      by_cases hq : offOf x3 e < offOf k e
      · rw [if_pos hq, if_pos ((off_lt he).mpr hq)]
        exact .inr ⟨x1, x2, x3, rfl, rfl⟩
      · rw [if_neg hq, if_neg fun z => hq ((off_lt he).mp z)]
        exact .inr ⟨a, b, k, rfl, rfl⟩
theorem ask_eq (N : NdL nd n l) (hs : many l n ≠ 0) : (if (pairToAsk nd).length = 0 then no (-4) else yes (pairToAsk nd)) = (match askOf l n with
    | some x => SctPanel.nums [x.1.1, x.1.2] ++ SctPanel.fraction x.2
    | none => SctPanel.no (-4)) := by
  have he : 0 < cnt nd := by
    rw [cnt_eq N]
    omega
  have h := ask_fold he (openPairs nd (cnt nd) nd.length) none ([], cnt nd) (fun x hx => by
    unfold openPairs openRow at hx
    obtain ⟨a, _, hx⟩ := List.mem_flatMap.mp hx
    obtain ⟨b, hb, rfl⟩ := List.mem_map.mp hx
    have hb := (List.mem_filter.mp hb).2
    unfold isOpen at hb
    rw [Bool.and_eq_true, decide_eq_true_iff, decide_eq_true_iff] at hb
    exact hb) (.inl ⟨rfl, rfl⟩)
  have e : askOf l n = ((openPairs nd (cnt nd) nd.length).map (conv (cnt nd))).foldl (fun (b : Option ((Nat × Nat) × Rat)) (x : (Nat × Nat) × Rat) => match b with
      | some y => if off x.2 < off y.2 then some x else some y
      | none => some x) none := by
    unfold askOf
    rw [openPairs_eq N hs]
    congr 1
  rw [← e] at h
  unfold pairToAsk
  rcases h with ⟨h1, h2⟩ | ⟨a, b, k, h1, h2⟩
  · rw [h1, h2]
    rfl
  · rw [h1, h2]
    show (if ([a, b] ++ fraction k (cnt nd)).length = 0 then no (-4) else yes ([a, b] ++ fraction k (cnt nd))) = SctPanel.nums [a, b] ++ SctPanel.fraction (ratio k (cnt nd))
    rw [if_neg (by rw [List.length_append]; show ¬ (2 + _ = 0); omega), yes_append, fraction_eq he]
end
end Np
set_option linter.all false
namespace Np
open SctPanel (ratio choose luckOf needOf zigzag sheetRow sheets)
/-! ### luck -/
theorem choose_zero : ∀ m k, m < k → choose m k = 0
  | 0, k + 1, _ => rfl
  | m + 1, k + 1, h => by
    show choose m k + choose m (k + 1) = 0
    rw [choose_zero m k (by omega), choose_zero m (k + 1) (by omega)]
theorem choose_0 (m : Nat) : choose m 0 = 1 := by cases m <;> rfl
theorem choose_up : ∀ m k, (m + 1) * choose m k = choose (m + 1) (k + 1) * (k + 1)
  | 0, 0 => rfl
  | 0, k + 1 => by
    show 1 * 0 = (0 + choose 0 (k + 2)) * (k + 2)
    rw [choose_zero 0 (k + 2) (by omega)]
    simp
  | m + 1, 0 => by
    have ih : (m + 1) * 1 = choose (m + 1) 1 * 1 := by
      have := choose_up m 0
      rw [choose_0] at this
      exact this
    rw [choose_0]
    show (m + 1 + 1) * 1 = (choose (m + 1) 0 + choose (m + 1) 1) * 1
    rw [choose_0]
    omega
  | m + 1, k + 1 => by
    have h1 : (m + 1) * choose m k = (choose m k + choose m (k + 1)) * (k + 1) := choose_up m k
    have h2 : (m + 1) * choose m (k + 1) = choose (m + 1) (k + 2) * (k + 1 + 1) := choose_up m (k + 1)
    show (m + 1 + 1) * (choose m k + choose m (k + 1)) = ((choose m k + choose m (k + 1)) + choose (m + 1) (k + 2)) * (k + 1 + 1)
    generalize choose m k = A at h1
    generalize choose m (k + 1) = B at h1 h2
    generalize choose (m + 1) (k + 2) = D at h2
    have hl : (m + 1 + 1) * (A + B) = (m + 1) * A + (m + 1) * B + (A + B) := by rw [Nat.add_mul (m + 1) 1, Nat.mul_add, Nat.one_mul]
    have hr : ((A + B) + D) * (k + 1 + 1) = (A + B) * (k + 1) + (A + B) + D * (k + 1 + 1) := by rw [Nat.add_mul (A + B) D, Nat.mul_succ (A + B)]
    rw [hl, hr, h1, h2]
    omega
theorem choose_next (m k : Nat) : choose m (k + 1) * (k + 1) = choose m k * (m - k) := by
  by_cases hk : k ≤ m
  · have h : (m + 1) * choose m k = (choose m k + choose m (k + 1)) * (k + 1) := choose_up m k
    generalize choose m k = A at h
    generalize choose m (k + 1) = B at h
    obtain ⟨d, rfl⟩ : ∃ d, m = k + d := ⟨m - k, by omega⟩
    rw [show k + d - k = d by omega]
    have hl : (k + d + 1) * A = (k + 1) * A + d * A := by rw [← Nat.add_mul, show k + d + 1 = k + 1 + d by omega]
    rw [hl, Nat.add_mul A B, Nat.mul_comm A (k + 1)] at h
    rw [Nat.mul_comm A d]
    omega
  · rw [choose_zero m k (by omega), choose_zero m (k + 1) (by omega)]
    simp
theorem choices_eq (m : Nat) : ∀ k, choices m k = choose m k
  | 0 => (choose_0 m).symm
  | k + 1 => by
    show choices m k * (m - k) / (k + 1) = _
    rw [choices_eq m k, ← choose_next, Nat.mul_div_cancel _ (Nat.succ_pos k)]
theorem luckyWays_S (g r : Nat) : ∀ i, luckyWays g r i = S i fun i => choose g (r + i) * 2 ^ (g - (r + i))
  | 0 => rfl
  | i + 1 => by
    show luckyWays g r i + choices g (r + i) * 2 ^ (g - (r + i)) = _
    rw [luckyWays_S g r i, choices_eq, S_succ]
theorem S_from (F : Nat → Nat) (r : Nat) : ∀ k, S (r + k) (fun i => if r ≤ i then F i else 0) = S k fun i => F (r + i)
  | 0 => (S_congr (h := fun _ => 0) fun i hi => if_neg (by omega)).trans (S_zero _)
  | k + 1 => by
    rw [show r + (k + 1) = (r + k) + 1 by omega, S_succ, S_from F r k, S_succ, if_pos (by omega)]
theorem luckOf_eq (g r : Nat) : luckOf g r = ratio (lucky g r) (3 ^ g) := by
  unfold luckOf lucky
  congr 1
  rw [sum_filter, luckyWays_S]
  show S (g + 1) (fun x => if decide (r ≤ x) = true then choose g x * 2 ^ (g - x) else 0) = _
  rw [S_congr (h := fun i => if r ≤ i then choose g i * 2 ^ (g - i) else 0) fun i _ => by
    by_cases h : r ≤ i
    · rw [if_pos h, if_pos (decide_eq_true h)]
    · rw [if_neg h, if_neg (by rw [decide_eq_false h]; decide)]]
  by_cases h : r ≤ g + 1
  · have := S_from (fun i => choose g i * 2 ^ (g - i)) r (g + 1 - r)
    rw [show r + (g + 1 - r) = g + 1 by omega] at this
    exact this
  · rw [show g + 1 - r = 0 by omega]
    exact (S_congr (h := fun _ => 0) fun i hi => if_neg (by omega)).trans (S_zero _)
theorem luck_eq (g r : Nat) : SctPanel.fraction (luckOf g r) = (luck g r).map fun (n : Nat) => (n : Int) := by
  rw [luckOf_eq]
  exact fraction_eq (Nat.pow_pos (by decide))
theorem need_eq (g q : Nat) : needOf g q = leastNeeded g q := by
  have hp : 0 < 3 ^ g := Nat.pow_pos (by decide)
  unfold needOf leastNeeded
  congr 1
  funext r
  refine decide_eq_decide.mpr ?_
  rw [luckOf_eq, ratio_mul, ← ratio_one hp, ratio_le hp]
/-! ### sheets -/
theorem sheet_eq {n i : Nat} : sheetRow n i = planRow n i := by
  unfold sheetRow planRow
  have e : (List.range n).map (fun (j : Nat) => (zigzag n j + i % n) % n) = (List.range n).map fun j => (zOf n j + i) % n := by
    refine List.map_congr_left fun j hj => ?_
    have hj := List.mem_range.mp hj
    have hz : zigzag n j % n = zOf n j % n := by
      unfold zigzag zOf
      by_cases h1 : j % 2 = 1
      · rw [if_pos h1, if_neg (by omega), if_pos h1]
      · rw [if_neg h1, Nat.mod_mod]
        by_cases h0 : j = 0
        · subst h0
          rw [if_pos rfl]
          show (n - 0 / 2) % n = 0 % n
          rw [Nat.zero_div, Nat.sub_zero, Nat.mod_self, Nat.zero_mod]
        · rw [if_neg h0, if_neg h1]
    rw [Nat.add_mod, hz, Nat.mod_mod, ← Nat.add_mod]
  rw [e]
  by_cases h : i < n
  · rw [if_pos h, if_neg (by omega)]
  · rw [if_neg h, if_pos (by omega)]
end Np
set_option linter.all false
namespace Np
open SctPanel (says unsaid Said many State Nose Trial ofNose ofPairs sound heard counts weighsOf)
/-! ### the states -/
def toMN (X : Nose) : MN := ⟨fOf X.said, X.weight⟩
def toMT (t : Trial) : MT := ⟨t.nose, t.a, t.b, b01 t.right⟩
def toMS (Z : State) : MS := ⟨Z.n, Z.noses.map toMN, Z.trials.map toMT⟩
structure Wf (Z : State) : Prop where
  n : Z.n ≤ 8
  noses : Z.noses.length ≤ 8
  each : ∀ X ∈ Z.noses, X.weight ≤ 9 ∧ WfL Z.n X.said
  trials : Z.trials.length ≤ 36
theorem wf_start : Wf SctPanel.start := ⟨by decide, by decide, fun X hX => absurd hX List.not_mem_nil, by decide⟩
theorem nums_yes (l : List Nat) : SctPanel.nums l = yes l := rfl
section
variable {Z : State} {h a b : Nat} {A : List Int}
theorem nose_none (e : Z.noses[h]? = none) : noseNo (toMS Z) h = -3 := by
  unfold noseNo
  refine if_pos ?_
  show (Z.noses.map toMN).length ≤ h
  rw [List.length_map]
  exact List.getElem?_eq_none_iff.mp e
theorem nose_some {X : Nose} (e : Z.noses[h]? = some X) : noseNo (toMS Z) h = 0 ∧ noseAt (toMS Z) h = toMN X ∧ ¬ (toMS Z).noses.length ≤ h ∧ h < Z.noses.length := by
  have hlt := (List.getElem?_eq_some_iff.mp e).1
  have hn : ¬ (toMS Z).noses.length ≤ h := by
    show ¬ (Z.noses.map toMN).length ≤ h
    rw [List.length_map]
    omega
  refine ⟨if_neg hn, ?_, hn, hlt⟩
  unfold noseAt
  show (Z.noses.map toMN).getD h freshN = _
  rw [List.getD_eq_getElem?_getD, List.getElem?_map, e]
  rfl
theorem gate_nose {f : Said → SctPanel.Answer} (k : ∀ X, Z.noses[h]? = some X → A = f X.said) : gate (noseNo (toMS Z) h) A = ofNose Z h f := by
  unfold ofNose
  cases e : Z.noses[h]? with
  | none =>
    rw [nose_none e]
    rfl
  | some X =>
    rw [(nose_some e).1, k X e]
    rfl
theorem sound_at (W : Wf Z) {X : Nose} (e : Z.noses[h]? = some X) {B : List Int} (k : many X.said Z.n ≠ 0 → A = B) : gate (soundNo (toMS Z) h) A = sound Z X.said B := by
  obtain ⟨h1, h2, _, _⟩ := nose_some e
  have hs := sound_iff (W.each X (List.mem_of_getElem? e)).2
  unfold soundNo sound
  rw [if_pos h1, h2]
  show gate (if isSound (fOf X.said) Z.n = true then 0 else -4) A = _
  by_cases hm : many X.said Z.n = 0
  · rw [if_pos hm, if_neg fun z => hs.mp z hm]
    rfl
  · rw [if_neg hm, if_pos (hs.mpr hm), k hm]
    rfl
theorem gate_sound (W : Wf Z) {f : Said → SctPanel.Answer} (k : ∀ X, Z.noses[h]? = some X → many X.said Z.n ≠ 0 → A = f X.said) : gate (soundNo (toMS Z) h) A = ofNose Z h fun l => sound Z l (f l) := by
  unfold ofNose
  cases e : Z.noses[h]? with
  | none =>
    have := nose_none e
    unfold soundNo
    rw [if_neg (by rw [this]; decide), this]
    rfl
  | some X => exact sound_at W e (k X e)
theorem has_iff : (Z.has a = false ∨ Z.has b = false) ↔ (Z.n ≤ a ∨ Z.n ≤ b) := by
  unfold State.has
  rw [decide_eq_false_iff_not, decide_eq_false_iff_not, Nat.not_lt, Nat.not_lt]
theorem gate_pairs (W : Wf Z) {f : Said → SctPanel.Answer} (k : ∀ X, Z.noses[h]? = some X → a < Z.n → b < Z.n → a ≠ b → many X.said Z.n ≠ 0 → A = f X.said) : gate (soundPairNo (toMS Z) h a b) A = ofPairs Z h a b fun l => sound Z l (f l) := by
  unfold ofPairs ofNose
  cases e : Z.noses[h]? with
  | none =>
    have h1 : nosePairNo (toMS Z) h a b = -3 := by
      have := nose_none e
      unfold noseNo at this
      unfold nosePairNo
      by_cases z : (toMS Z).noses.length ≤ h
      · rw [if_pos z]
      · rw [if_neg z] at this
        cases this
    unfold soundPairNo
    rw [h1, if_neg (by decide)]
    rfl
  | some X =>
    obtain ⟨h1, h2, h3, _⟩ := nose_some e
    have hp : nosePairNo (toMS Z) h a b = pairNo (toMS Z) a b := if_neg h3
    unfold soundPairNo
    rw [hp]
    show gate _ A = if Z.has a = false ∨ Z.has b = false then SctPanel.no (-3) else if a = b then SctPanel.no (-4) else sound Z X.said (f X.said)
    have hpn : pairNo (toMS Z) a b = if Z.n ≤ a ∨ Z.n ≤ b then -3 else if a = b then -4 else 0 := rfl
    rw [hpn]
    by_cases q1 : Z.n ≤ a ∨ Z.n ≤ b
    · rw [if_pos q1, if_neg (by decide), if_pos (has_iff.mpr q1)]
      rfl
    · rw [if_neg q1, if_neg fun z => q1 (has_iff.mp z)]
      by_cases q2 : a = b
      · rw [if_pos q2, if_neg (by decide), if_pos q2]
        rfl
      · rw [if_neg q2, if_pos rfl, if_neg q2]
        exact sound_at W e (k X e (by omega) (by omega) q2)
theorem gate_pair {B : List Int} (k : a < Z.n → b < Z.n → a ≠ b → A = B) : gate (pairNo (toMS Z) a b) A = if Z.has a = false ∨ Z.has b = false then SctPanel.no (-3) else if a = b then SctPanel.no (-4) else B := by
  have hpn : pairNo (toMS Z) a b = if Z.n ≤ a ∨ Z.n ≤ b then -3 else if a = b then -4 else 0 := rfl
  rw [hpn]
  by_cases q1 : Z.n ≤ a ∨ Z.n ≤ b
  · rw [if_pos q1, if_pos (has_iff.mpr q1)]
    rfl
  · rw [if_neg q1, if_neg fun z => q1 (has_iff.mp z)]
    by_cases q2 : a = b
    · rw [if_pos q2, if_pos q2]
      rfl
    · rw [if_neg q2, if_neg q2, k (by omega) (by omega) q2]
      rfl
end
theorem weigh_counts (Z : State) (a b : Nat) : weightOver (toMS Z).noses a b = counts (weighsOf Z) a b := by
  unfold weightOver counts weighsOf
  show (List.map (fun x => x.weight * x.said a b) (Z.noses.map toMN)).sum = _
  rw [List.map_map, List.map_map]
  congr 1
  refine List.map_congr_left fun X _ => ?_
  show X.weight * fOf X.said a b = if says X.said a b = true then X.weight else 0
  unfold fOf b01
  by_cases h : says X.said a b = true
  · rw [if_pos h, if_pos h, Nat.mul_one]
  · rw [if_neg h, if_neg h, Nat.mul_zero]
/-! ### the questions -/
section
variable {Z : State} {g h a b : Nat}
theorem ring_q (W : Wf Z) : aRing (toMS Z) h = (SctPanel.step Z (.ring h)).2 := by
  show gate _ _ = ofNose Z h fun (l : Said) => match SctPanel.ringOf l Z.n with
    | some r => SctPanel.nums (r.length :: r)
    | none => SctPanel.nums [0]
  refine gate_nose fun X e => ?_
  have WX := (W.each X (List.mem_of_getElem? e)).2
  rw [(nose_some e).2.1]
  show yes ((ring (fOf X.said) Z.n).length :: ring (fOf X.said) Z.n) = _
  rw [ring_eq WX]
  cases SctPanel.ringOf X.said Z.n <;> rfl
theorem mend_q (W : Wf Z) : aMend (toMS Z) h = (SctPanel.step Z (.mend h)).2 := by
  show gate _ _ = ofNose Z h fun (l : Said) => SctPanel.nums ((SctPanel.mendOf l Z.n).length :: (SctPanel.mendOf l Z.n).flatMap fun (x : Nat × Nat) => [x.1, x.2])
  refine gate_nose fun X e => ?_
  have WX := (W.each X (List.mem_of_getElem? e)).2
  have em : mendPairs (toMS Z) h = SctPanel.mendOf X.said Z.n := by
    unfold mendPairs
    rw [(nose_some e).2.1]
    exact mend_eq WX
  rw [em]
  rfl
theorem ndl_of (W : Wf Z) {X : Nose} (e : Z.noses[h]? = some X) : NdL (ndOf (toMS Z) h) Z.n X.said := by
  have WX := (W.each X (List.mem_of_getElem? e)).2
  unfold ndOf
  rw [(nose_some e).2.1]
  exact ndl_needs WX.two
theorem follows_q (W : Wf Z) : aFollows (toMS Z) h a b = (SctPanel.step Z (.follows h a b)).2 := by
  show gate _ _ = ofPairs Z h a b fun (l : Said) => sound Z l (SctPanel.nums [SctPanel.follows l Z.n a b])
  refine gate_pairs (f := fun l => SctPanel.nums [SctPanel.follows l Z.n a b]) W fun X e ha hb hne hs => ?_
  · show yes _ = _
    rw [follows_eq (ndl_of W e) hs ha hb hne]
    rfl
theorem first_q (W : Wf Z) : aFirst (toMS Z) h = (SctPanel.step Z (.first h)).2 := by
  show gate _ _ = ofNose Z h fun (l : Said) => sound Z l (SctPanel.nums (SctPanel.firstFrom l Z.n Z.n 0))
  refine gate_sound (f := fun l => SctPanel.nums (SctPanel.firstFrom l Z.n Z.n 0)) W fun X e hs => ?_
  · show yes _ = _
    rw [first_eq (ndl_of W e) (no_round (W.each X (List.mem_of_getElem? e)).2 hs)]
    rfl
theorem many_q (W : Wf Z) : aMany (toMS Z) h = (SctPanel.step Z (.many h)).2 := by
  show gate _ _ = ofNose Z h fun (l : Said) => SctPanel.nums [SctPanel.many l Z.n]
  refine gate_nose fun X e => ?_
  · show yes _ = _
    rw [cnt_eq (ndl_of W e)]
    rfl
theorem chance_q (W : Wf Z) : aChance (toMS Z) h a b = (SctPanel.step Z (.chance h a b)).2 := by
  show gate _ _ = ofPairs Z h a b fun (l : Said) => sound Z l (0 :: SctPanel.fraction (SctPanel.chance l Z.n a b))
  refine gate_pairs (f := fun l => 0 :: SctPanel.fraction (SctPanel.chance l Z.n a b)) W fun X e ha hb hne hs => ?_
  · show yes _ = 0 :: SctPanel.fraction (SctPanel.chance X.said Z.n a b)
    rw [chance_eq (ndl_of W e) hs ha hb]
    rfl
theorem place_q (W : Wf Z) : aPlace (toMS Z) h a = (SctPanel.step Z (.place h a)).2 := by
  show gate _ _ = ofNose Z h fun (l : Said) => if Z.has a = false then SctPanel.no (-3) else sound Z l (SctPanel.nums [SctPanel.leastPlace l Z.n a, SctPanel.mostPlace l Z.n a] ++ SctPanel.fraction (SctPanel.meanPlace l Z.n a))
  refine gate_nose fun X e => ?_
  · show (if Z.n ≤ a then no (-3) else gate (soundNo (toMS Z) h) (yes (places (ndOf (toMS Z) h) a))) = if Z.has a = false then SctPanel.no (-3) else sound Z X.said _
    by_cases q : Z.n ≤ a
    · rw [if_pos q, if_pos (by unfold State.has; exact decide_eq_false (by omega))]
      rfl
    · rw [if_neg q, if_neg (by unfold State.has; rw [decide_eq_true (by omega : a < Z.n)]; decide)]
      exact sound_at W e fun hs => places_eq (ndl_of W e) hs (by omega)
theorem ask_q (W : Wf Z) : aAsk (toMS Z) h = (SctPanel.step Z (.ask h)).2 := by
  show gate _ _ = ofNose Z h fun (l : Said) => sound Z l (match SctPanel.askOf l Z.n with
    | some x => SctPanel.nums [x.1.1, x.1.2] ++ SctPanel.fraction x.2
    | none => SctPanel.no (-4))
  refine gate_sound (f := fun l => match SctPanel.askOf l Z.n with
    | some x => SctPanel.nums [x.1.1, x.1.2] ++ SctPanel.fraction x.2
    | none => SctPanel.no (-4)) W fun X e hs => ?_
  exact ask_eq (ndl_of W e) hs
theorem agree_q (W : Wf Z) : aAgree (toMS Z) g h = (SctPanel.step Z (.agree g h)).2 := by
  show gate _ (gate _ _) = ofNose Z g fun (l : Said) => ofNose Z h fun (m : Said) => SctPanel.nums (SctPanel.alike l m)
  refine gate_nose fun X e => gate_nose fun Y e2 => ?_
  · have WX := (W.each X (List.mem_of_getElem? e)).2
    have WY := (W.each Y (List.mem_of_getElem? e2)).2
    rw [(nose_some e).2.1, (nose_some e2).2.1]
    have e3 := agree_len (h := Y.said) WX X.weight Y.weight
    have e4 := same_len WX WY X.weight Y.weight
    show yes [(pairsOfBoth Z.n (toMN X) (toMN Y) Z.n).length, sameIn (toMN X) (toMN Y) (pairsOfBoth Z.n (toMN X) (toMN Y) Z.n)] = _
    unfold toMN
    rw [e3, e4]
    rfl
theorem over_q : aOver (toMS Z) a b = (SctPanel.step Z (.over a b)).2 := by
  show gate _ _ = if Z.has a = false ∨ Z.has b = false then SctPanel.no (-3) else if a = b then SctPanel.no (-4) else SctPanel.nums [counts (weighsOf Z) a b, counts (weighsOf Z) b a]
  refine gate_pair fun _ _ _ => ?_
  · rw [weigh_counts, weigh_counts]
    rfl
theorem king_q : aKing (toMS Z) = (SctPanel.step Z .king).2 := by
  have e : beatsAll (weightOver (toMS Z).noses) Z.n = SctPanel.isKing Z := by
    funext x
    unfold beatsAll SctPanel.isKing SctPanel.others
    rw [List.all_filter]
    congr 1
    funext y
    rw [weigh_counts, weigh_counts]
    by_cases h : y = x
    · subst h
      simp
    · rw [decide_eq_false h, Bool.false_or]
      simp [h]
  show yes [match (List.range Z.n).find? (beatsAll (weightOver (toMS Z).noses) Z.n) with
    | some x => x + 1
    | none => 0] = match (List.range Z.n).find? (SctPanel.isKing Z) with
    | some x => SctPanel.nums [x + 1]
    | none => SctPanel.nums [0]
  rw [e]
  cases (List.range Z.n).find? (SctPanel.isKing Z) <;> rfl
theorem isOrd_mem {n : Nat} {o : List Nat} (h : isOrd n o = true) : o.Nodup ∧ ∀ x, x < n → x ∈ o := by
  unfold isOrd at h
  rw [Bool.and_eq_true, decide_eq_true_iff, List.all_eq_true] at h
  have hm : ∀ x, x < n → x ∈ o := fun x hx => List.contains_iff_mem.mp (h.2 x (List.mem_range.mpr hx))
  have p := mperm (List.range n) o List.nodup_range (by rw [List.length_range, h.1]; exact Nat.le_refl _) fun x hx => hm x (List.mem_range.mp hx)
  exact ⟨p.nodup_iff.mp List.nodup_range, hm⟩
theorem against_sum {n : Nat} {o : List Nat} (nd : o.Nodup) (ho : ∀ x, x < n → x ∈ o) : ∀ xs : List Nose, (∀ X ∈ xs, WfL n X.said) → sa (weightOver (xs.map toMN)) o = (xs.map fun (x : Nose) => x.weight * (SctPanel.againstIn x.said o).length).sum
  | [], _ => sa_zero o
  | X :: xs, hx => by
    have e : weightOver ((X :: xs).map toMN) = fun a b => X.weight * fOf X.said a b + weightOver (xs.map toMN) a b := by
      funext a b
      rfl
    rw [e, sa_add, sa_mul, ← against_len (hx X List.mem_cons_self) nd ho, against_sum nd ho xs fun Y hY => hx Y (List.mem_cons_of_mem _ hY)]
    rfl
theorem against_q (W : Wf Z) {o : List Nat} : aAgainst (toMS Z) o = (SctPanel.step Z (.against o)).2 := by
  have e : isOrd Z.n o = SctPanel.isOrder Z.n o := by
    unfold isOrd SctPanel.isOrder
    congr 1
  show (if isOrd Z.n o = true then yes [saidAgainst (weightOver (toMS Z).noses) o o.length] else no (-1)) = if SctPanel.isOrder Z.n o = false then SctPanel.no (-1) else SctPanel.nums [SctPanel.against Z o]
  rw [← e]
  cases hq : isOrd Z.n o with
  | false => rfl
  | true =>
    rw [if_pos rfl, if_neg (by decide), saidAgainst_sa]
    obtain ⟨h1, h2⟩ := isOrd_mem hq
    have := against_sum h1 h2 Z.noses fun X hX => (W.each X hX).2
    show yes [sa (weightOver (Z.noses.map toMN)) o] = _
    rw [this]
    rfl
theorem told_eq {nd : List Nat} {must : Said} (N : NdL nd Z.n must) (hr : ¬ ∃ C, Round must Z.n C) : told (toMS Z) nd = SctPanel.tellBest (SctPanel.bestOf (weighsOf Z) must Z.n) := by
  rw [best_cost N (fun a b _ _ => weigh_counts Z a b) hr]
  rfl
theorem best_q : aBest (toMS Z) = (SctPanel.step Z .best).2 := told_eq (ndl_nothing Z.n) (no_round_nil Z.n)
theorem near_q (W : Wf Z) : aNear (toMS Z) h = (SctPanel.step Z (.near h)).2 := by
  show gate _ _ = ofNose Z h fun (l : Said) => sound Z l (SctPanel.tellBest (SctPanel.bestOf (weighsOf Z) l Z.n))
  exact gate_sound (f := fun l => SctPanel.tellBest (SctPanel.bestOf (weighsOf Z) l Z.n)) W fun X e hs => told_eq (ndl_of W e) (no_round (W.each X (List.mem_of_getElem? e)).2 hs)
theorem rights_eq (l : List Trial) : rightsOf (l.map toMT) = SctPanel.rights l := by
  unfold rightsOf SctPanel.rights
  rw [List.map_map, filter_b01]
  rfl
theorem score_q : aScore (toMS Z) h = (SctPanel.step Z (.score h)).2 := by
  show gate _ _ = ofNose Z h fun (_ : Said) => SctPanel.nums [(Z.trials.filter fun (t : Trial) => t.nose == h).length, SctPanel.rights (Z.trials.filter fun (t : Trial) => t.nose == h)]
  refine gate_nose fun X e => ?_
  · have e2 : trialsOf (toMS Z) h = (Z.trials.filter fun (t : Trial) => t.nose == h).map toMT := by
      unfold trialsOf
      show (Z.trials.map toMT).filter _ = _
      rw [List.filter_map]
      congr 1
    rw [e2, rights_eq, List.length_map]
    rfl
theorem apart_q : aApart (toMS Z) a b = (SctPanel.step Z (.apart a b)).2 := by
  show gate _ _ = if Z.has a = false ∨ Z.has b = false then SctPanel.no (-3) else if a = b then SctPanel.no (-4) else SctPanel.nums [(Z.trials.filter (SctPanel.ofPair a b)).length, SctPanel.rights (Z.trials.filter (SctPanel.ofPair a b))] ++ SctPanel.fraction (SctPanel.luckOf (Z.trials.filter (SctPanel.ofPair a b)).length (SctPanel.rights (Z.trials.filter (SctPanel.ofPair a b))))
  refine gate_pair fun _ _ _ => ?_
  · have e2 : trialsWith (toMS Z) a b = (Z.trials.filter (SctPanel.ofPair a b)).map toMT := by
      unfold trialsWith
      show (Z.trials.map toMT).filter _ = _
      rw [List.filter_map]
      congr 1
    rw [e2, rights_eq, List.length_map, yes_append, ← luck_eq]
theorem luck_q : aLuck a b = (SctPanel.step Z (.luck a b)).2 := by
  show (if a ≤ 30 ∧ b ≤ a then yes (luck a b) else no (-1)) = if 30 < a ∨ a < b then SctPanel.no (-1) else 0 :: SctPanel.fraction (SctPanel.luckOf a b)
  by_cases h : a ≤ 30 ∧ b ≤ a
  · rw [if_pos h, if_neg (by omega), luck_eq]
    rfl
  · rw [if_neg h, if_pos (by omega)]
    rfl
theorem need_q : aNeed a b = (SctPanel.step Z (.need a b)).2 := by
  show (if a ≤ 30 ∧ 1 ≤ b ∧ b ≤ 1000000 then (match leastNeeded a b with
  | some r => yes [r]
  | none => no (-4)) else no (-1)) = if 30 < a ∨ b = 0 ∨ 1000000 < b then SctPanel.no (-1) else match SctPanel.needOf a b with
    | some r => SctPanel.nums [r]
    | none => SctPanel.no (-4)
  by_cases h : a ≤ 30 ∧ 1 ≤ b ∧ b ≤ 1000000
  · rw [if_pos h, if_neg (by omega), need_eq]
    cases leastNeeded a b <;> rfl
  · rw [if_neg h, if_pos (by omega)]
    rfl
theorem sheet_q : aSheet (toMS Z) a = (SctPanel.step Z (.sheet a)).2 := by
  show (if planRows Z.n ≤ a then no (-1) else yes (planRow Z.n a)) = if SctPanel.sheets Z.n ≤ a then SctPanel.no (-1) else SctPanel.nums (SctPanel.sheetRow Z.n a)
  rw [sheet_eq]
  rfl
theorem told_q (W : Wf Z) : aTold (toMS Z) = (SctPanel.step Z .told).2 := by
  show yes ([Z.n, (Z.noses.map toMN).length, (Z.trials.map toMT).length] ++ (Z.noses.map toMN).flatMap fun x => [pairsSaid Z.n x, x.weight]) = SctPanel.nums ([Z.n, Z.noses.length, Z.trials.length] ++ Z.noses.flatMap fun (x : Nose) => [x.said.length, x.weight])
  rw [List.length_map, List.length_map, List.flatMap_map]
  have e : (Z.noses.flatMap fun X => [pairsSaid Z.n (toMN X), (toMN X).weight]) = Z.noses.flatMap fun (x : Nose) => [x.said.length, x.weight] := by
    rw [List.flatMap_def, List.flatMap_def, List.map_congr_left fun X hX => ?_]
    show [pairsSaid Z.n (toMN X), X.weight] = _
    unfold toMN
    rw [pairsSaid_len (W.each X hX).2]
  rw [e]
  rfl
end
end Np
set_option linter.all false
namespace Np
open SctPanel (says unsaid Said many State Nose Trial ofNose ofPairs sound heard counts weighsOf)
/-! ### what is said anew -/
theorem mem_unsaid {l : Said} {a b : Nat} {p : Nat × Nat} : p ∈ unsaid l a b ↔ p ∈ l ∧ p ≠ (a, b) ∧ p ≠ (b, a) := by
  unfold unsaid
  rw [List.mem_filter]
  refine and_congr Iff.rfl ?_
  obtain ⟨u, v⟩ := p
  simp only [Bool.not_eq_true', Bool.or_eq_false_iff, Bool.and_eq_false_iff, beq_eq_false_iff_ne, ne_eq, Prod.mk.injEq]
  constructor
  · rintro ⟨h1, h2⟩
    exact ⟨fun ⟨a, b⟩ => h1.elim (fun z => z a) fun z => z b, fun ⟨a, b⟩ => h2.elim (fun z => z a) fun z => z b⟩
  · rintro ⟨h1, h2⟩
    refine ⟨?_, ?_⟩
    · by_cases e : u = a
      · exact .inr fun z => h1 ⟨e, z⟩
      · exact .inl e
    · by_cases e : u = b
      · exact .inr fun z => h2 ⟨e, z⟩
      · exact .inl e
theorem wfl_unsaid {n : Nat} {l : Said} (W : WfL n l) (a b : Nat) : WfL n (unsaid l a b) :=
  ⟨fun p hp => W.lt p (mem_unsaid.mp hp).1, List.Pairwise.filter _ W.nd, fun x y hx hy => W.anti x y (mem_unsaid.mp hx).1 (mem_unsaid.mp hy).1⟩
theorem wfl_say {n : Nat} {l : Said} (W : WfL n l) {a b : Nat} (ha : a < n) (hb : b < n) (hne : a ≠ b) : WfL n (unsaid l a b ++ [(a, b)]) := by
  have U := wfl_unsaid W a b
  refine ⟨fun p hp => ?_, ?_, fun x y hx hy => ?_⟩
  · rcases List.mem_append.mp hp with z | z
    · exact U.lt p z
    · rw [List.mem_singleton.mp z]
      exact ⟨ha, hb, hne⟩
  · rw [List.nodup_append]
    refine ⟨U.nd, by simp, fun p hp q hq => ?_⟩
    rw [List.mem_singleton.mp hq]
    exact (mem_unsaid.mp hp).2.1
  · rcases List.mem_append.mp hx with z | z
    · rcases List.mem_append.mp hy with z2 | z2
      · exact U.anti x y z z2
      · have e := List.mem_singleton.mp z2
        injection e with e1 e2
        subst e1 e2
        exact (mem_unsaid.mp z).2.2 rfl
    · have e := List.mem_singleton.mp z
      injection e with e1 e2
      subst e1 e2
      rcases List.mem_append.mp hy with z2 | z2
      · exact (mem_unsaid.mp z2).2.2 rfl
      · have e := List.mem_singleton.mp z2
        injection e with e1 e2
        exact hne e2
theorem fOf_ext {l : Said} {i j : Nat} {v : Nat} (h : v = b01 (decide ((i, j) ∈ l))) : fOf l i j = v := by
  rw [h]
  unfold fOf
  congr 1
  rw [Bool.eq_iff_iff, says_iff, decide_eq_true_iff]
theorem put_say (X : Nose) {a b : Nat} (hne : a ≠ b) : (toMN X).put a b 1 0 = toMN { X with said := unsaid X.said a b ++ [(a, b)] } := by
  unfold toMN MN.put
  congr 1
  funext i j
  show (if i = b ∧ j = a then 0 else if i = a ∧ j = b then 1 else fOf X.said i j) = fOf (unsaid X.said a b ++ [(a, b)]) i j
  refine (fOf_ext ?_).symm
  by_cases h1 : i = b ∧ j = a
  · rw [if_pos h1, decide_eq_false]
    · rfl
    · intro z
      rw [h1.1, h1.2] at z
      rcases List.mem_append.mp z with q | q
      · exact (mem_unsaid.mp q).2.2 rfl
      · have e := List.mem_singleton.mp q
        injection e with e1 e2
        exact hne e2
  · rw [if_neg h1]
    by_cases h2 : i = a ∧ j = b
    · rw [if_pos h2, decide_eq_true]
      · rfl
      · rw [h2.1, h2.2]
        exact List.mem_append_right _ List.mem_cons_self
    · rw [if_neg h2]
      refine fOf_ext ?_
      congr 1
      refine decide_eq_decide.mpr ⟨fun z => ?_, fun z => List.mem_append_left _ (mem_unsaid.mpr ⟨z, fun q => h2 ?_, fun q => h1 ?_⟩)⟩
      · rcases List.mem_append.mp z with q | q
        · exact (mem_unsaid.mp q).1
        · have e := List.mem_singleton.mp q
          injection e with e1 e2
          exact absurd ⟨e1, e2⟩ h2
      · injection q with e1 e2
        exact ⟨e1, e2⟩
      · injection q with e1 e2
        exact ⟨e1, e2⟩
theorem put_unsay (X : Nose) {a b : Nat} : (toMN X).put a b 0 0 = toMN { X with said := unsaid X.said a b } := by
  unfold toMN MN.put
  congr 1
  funext i j
  show (if i = b ∧ j = a then 0 else if i = a ∧ j = b then 0 else fOf X.said i j) = fOf (unsaid X.said a b) i j
  refine (fOf_ext ?_).symm
  by_cases h1 : i = b ∧ j = a
  · rw [if_pos h1, decide_eq_false]
    · rfl
    · intro z
      rw [h1.1, h1.2] at z
      exact (mem_unsaid.mp z).2.2 rfl
  · rw [if_neg h1]
    by_cases h2 : i = a ∧ j = b
    · rw [if_pos h2, decide_eq_false]
      · rfl
      · intro z
        rw [h2.1, h2.2] at z
        exact (mem_unsaid.mp z).2.1 rfl
    · rw [if_neg h2]
      refine fOf_ext ?_
      congr 1
      refine decide_eq_decide.mpr ⟨fun z => (mem_unsaid.mp z).1, fun z => mem_unsaid.mpr ⟨z, fun q => h2 ?_, fun q => h1 ?_⟩⟩
      · injection q with e1 e2
        exact ⟨e1, e2⟩
      · injection q with e1 e2
        exact ⟨e1, e2⟩
section
variable {Z : State} {h a b r : Nat}
theorem put_set (x : Nose) : putNose (toMS Z) h (toMN x) = toMS { Z with noses := Z.noses.set h x } := by
  unfold putNose toMS
  congr 1
  exact List.map_set.symm
theorem wf_set (W : Wf Z) {X : Nose} (h1 : X.weight ≤ 9) (h2 : WfL Z.n X.said) : Wf { Z with noses := Z.noses.set h X } := by
  refine ⟨W.n, by show (Z.noses.set h X).length ≤ 8; rw [List.length_set]; exact W.noses, fun Y hY => ?_, W.trials⟩
  rcases List.mem_or_eq_of_mem_set hY with z | z
  · exact W.each Y z
  · rw [z]
    exact ⟨h1, h2⟩
/-- a call goes on alike: the state behind it, its answer, and the state is well-formed -/
structure Goes (Z : State) (c : SctPanel.Call) (p : MS × List Int) : Prop where
  st : p.1 = toMS (SctPanel.step Z c).1
  an : p.2 = (SctPanel.step Z c).2
  wf : Wf (SctPanel.step Z c).1
theorem goes_of {c : SctPanel.Call} {p : MS × List Int} {Z' : State} {ans : List Int} (e : SctPanel.step Z c = (Z', ans)) (h1 : p.1 = toMS Z') (h2 : p.2 = ans) (h3 : Wf Z') : Goes Z c p := by
  refine ⟨?_, ?_, ?_⟩
  · rw [e]
    exact h1
  · rw [e]
    exact h2
  · rw [e]
    exact h3
theorem panel_g (W : Wf Z) : Goes Z (.panel a b) (aPanel (toMS Z) a b) := by
  have e : SctPanel.step Z (.panel a b) = if a < 2 ∨ 8 < a ∨ b = 0 ∨ 8 < b then (Z, SctPanel.no (-1)) else (⟨a, List.replicate b ⟨[], 1⟩, []⟩, SctPanel.nums []) := rfl
  unfold aPanel
  by_cases q : (2 ≤ a ∧ a ≤ 8) ∧ (1 ≤ b ∧ b ≤ 8)
  · rw [if_neg (by omega)] at e
    rw [if_pos q]
    refine goes_of e ?_ rfl ⟨q.1.2, ?_, fun X hX => ?_, by show 0 ≤ 36; decide⟩
    · unfold toMS
      show (⟨a, List.replicate b freshN, []⟩ : MS) = ⟨a, (List.replicate b (⟨[], 1⟩ : Nose)).map toMN, _⟩
      rw [List.map_replicate]
      rfl
    · show (List.replicate b (⟨[], 1⟩ : Nose)).length ≤ 8
      rw [List.length_replicate]
      exact q.2.2
    · rw [List.eq_of_mem_replicate hX]
      exact ⟨by decide, fun p hp => absurd hp List.not_mem_nil, List.Pairwise.nil, fun x y hx => absurd hx List.not_mem_nil⟩
  · rw [if_pos (by omega)] at e
    rw [if_neg q]
    exact goes_of e rfl rfl W
theorem say_g (W : Wf Z) : Goes Z (.say h a b) (aSay (toMS Z) h a b) := by
  have e : SctPanel.step Z (.say h a b) = if Z.noses.length ≤ h ∨ Z.has a = false ∨ Z.has b = false then (Z, SctPanel.no (-3)) else if a = b then (Z, SctPanel.no (-4)) else heard Z h fun (l : Said) => unsaid l a b ++ [(a, b)] := rfl
  have hl : (toMS Z).noses.length = Z.noses.length := List.length_map ..
  have hp : nosePairNo (toMS Z) h a b = if Z.noses.length ≤ h then -3 else if Z.n ≤ a ∨ Z.n ≤ b then -3 else if a = b then -4 else 0 := by
    unfold nosePairNo
    rw [hl]
    rfl
  unfold aSay
  rw [hp]
  by_cases q1 : Z.noses.length ≤ h
  · rw [if_pos (.inl q1)] at e
    rw [if_pos q1, if_neg (by decide)]
    exact goes_of e rfl rfl W
  · by_cases q2 : Z.n ≤ a ∨ Z.n ≤ b
    · rw [if_pos (.inr (has_iff.mpr q2))] at e
      rw [if_neg q1, if_pos q2, if_neg (by decide)]
      exact goes_of e rfl rfl W
    · rw [if_neg (by rw [has_iff]; exact fun z => z.elim q1 q2)] at e
      rw [if_neg q1, if_neg q2]
      by_cases q3 : a = b
      · rw [if_pos q3] at e
        rw [if_pos q3, if_neg (by decide)]
        exact goes_of e rfl rfl W
      · rw [if_neg q3] at e
        rw [if_neg q3, if_pos rfl]
        obtain ⟨X, hX⟩ : ∃ X, Z.noses[h]? = some X := ⟨_, List.getElem?_eq_getElem (by omega)⟩
        have WX := W.each X (List.mem_of_getElem? hX)
        have W2 := wfl_say WX.2 (by omega : a < Z.n) (by omega : b < Z.n) q3
        unfold heard at e
        rw [hX] at e
        rw [(nose_some hX).2.1, put_say X q3, put_set]
        refine goes_of e rfl ?_ (wf_set W WX.1 W2)
        show yes [pairsSaid Z.n (toMN _)] = _
        unfold toMN
        rw [pairsSaid_len W2]
        rfl
theorem unsay_g (W : Wf Z) : Goes Z (.unsay h a b) (aUnsay (toMS Z) h a b) := by
  have e : SctPanel.step Z (.unsay h a b) = match Z.noses[h]? with
    | none => (Z, SctPanel.no (-3))
    | some x => if Z.has a = false ∨ Z.has b = false then (Z, SctPanel.no (-3)) else if a = b ∨ (says x.said a b || says x.said b a) = false then (Z, SctPanel.no (-4)) else heard Z h fun (l : Said) => unsaid l a b := rfl
  have hl : (toMS Z).noses.length = Z.noses.length := List.length_map ..
  have hp : nosePairNo (toMS Z) h a b = if Z.noses.length ≤ h then -3 else if Z.n ≤ a ∨ Z.n ≤ b then -3 else if a = b then -4 else 0 := by
    unfold nosePairNo
    rw [hl]
    rfl
  unfold aUnsay
  rw [hp]
  cases hX : Z.noses[h]? with
  | none =>
    rw [hX] at e
    rw [if_pos (List.getElem?_eq_none_iff.mp hX), if_neg (by decide)]
    exact goes_of e rfl rfl W
  | some X =>
    rw [hX] at e
    have hlt := (List.getElem?_eq_some_iff.mp hX).1
    rw [if_neg (show ¬ Z.noses.length ≤ h by omega)]
    by_cases q2 : Z.n ≤ a ∨ Z.n ≤ b
    · have e : SctPanel.step Z (.unsay h a b) = _ := e.trans (if_pos (has_iff.mpr q2))
      rw [if_pos q2, if_neg (by decide)]
      exact goes_of e rfl rfl W
    · have e : SctPanel.step Z (.unsay h a b) = _ := e.trans (if_neg fun z => q2 (has_iff.mp z))
      rw [if_neg q2]
      by_cases q3 : a = b
      · have e : SctPanel.step Z (.unsay h a b) = _ := e.trans (if_pos (.inl q3))
        rw [if_pos q3, if_neg (by decide)]
        exact goes_of e rfl rfl W
      · rw [if_neg q3, if_pos rfl, (nose_some hX).2.1]
        have hs : hasSaid (toMN X) a b = (says X.said a b || says X.said b a) := hasSaid_eq X.said X.weight a b
        rw [hs]
        cases q4 : (says X.said a b || says X.said b a) with
        | false =>
          have e : SctPanel.step Z (.unsay h a b) = _ := e.trans (if_pos (.inr q4))
          rw [if_neg (by decide)]
          exact goes_of e rfl rfl W
        | true =>
          have e : SctPanel.step Z (.unsay h a b) = _ := e.trans (if_neg fun z => z.elim q3 fun z => by rw [q4] at z; cases z)
          have WX := W.each X (List.mem_of_getElem? hX)
          have W2 := wfl_unsaid WX.2 a b
          unfold heard at e
          rw [hX] at e
          rw [if_pos rfl, put_unsay, put_set]
          refine goes_of e rfl ?_ (wf_set W WX.1 W2)
          show yes [pairsSaid Z.n (toMN _)] = _
          unfold toMN
          rw [pairsSaid_len W2]
          rfl
theorem weigh_g (W : Wf Z) : Goes Z (.weigh h a) (aWeigh (toMS Z) h a) := by
  have e : SctPanel.step Z (.weigh h a) = if 9 < a then (Z, SctPanel.no (-1)) else match Z.noses[h]? with
    | none => (Z, SctPanel.no (-3))
    | some x => ({ Z with noses := Z.noses.set h { x with weight := a } }, SctPanel.nums []) := rfl
  unfold aWeigh
  by_cases q1 : a ≤ 9
  · rw [if_neg (by omega)] at e
    rw [if_pos q1]
    cases hX : Z.noses[h]? with
    | none =>
      rw [hX] at e
      have := nose_none hX
      rw [this, if_neg (by decide)]
      exact goes_of e rfl rfl W
    | some X =>
      rw [hX] at e
      rw [(nose_some hX).1, if_pos rfl, (nose_some hX).2.1]
      refine goes_of e ?_ rfl (wf_set W q1 (W.each X (List.mem_of_getElem? hX)).2)
      show putNose (toMS Z) h (toMN { X with weight := a }) = _
      exact put_set _
  · rw [if_pos (by omega)] at e
    rw [if_neg q1]
    exact goes_of e rfl rfl W
theorem trial_g (W : Wf Z) : Goes Z (.trial h a b r) (aTrial (toMS Z) h a b r) := by
  have e : SctPanel.step Z (.trial h a b r) = if 1 < r then (Z, SctPanel.no (-1)) else if Z.noses.length ≤ h ∨ Z.has a = false ∨ Z.has b = false then (Z, SctPanel.no (-3)) else if a = b then (Z, SctPanel.no (-4)) else if 36 ≤ Z.trials.length then (Z, SctPanel.no (-9)) else
    ({ Z with trials := Z.trials ++ [⟨h, a, b, r == 1⟩] }, SctPanel.nums [Z.trials.length + 1]) := rfl
  have hl : (toMS Z).noses.length = Z.noses.length := List.length_map ..
  have ht : (toMS Z).trials.length = Z.trials.length := List.length_map ..
  have hp : nosePairNo (toMS Z) h a b = if Z.noses.length ≤ h then -3 else if Z.n ≤ a ∨ Z.n ≤ b then -3 else if a = b then -4 else 0 := by
    unfold nosePairNo
    rw [hl]
    rfl
  unfold aTrial
  rw [hp, ht]
  by_cases q0 : r ≤ 1
  · rw [if_neg (by omega)] at e
    rw [if_pos q0]
    by_cases q1 : Z.noses.length ≤ h
    · rw [if_pos (.inl q1)] at e
      rw [if_pos q1, if_neg (by decide)]
      exact goes_of e rfl rfl W
    · by_cases q2 : Z.n ≤ a ∨ Z.n ≤ b
      · rw [if_pos (.inr (has_iff.mpr q2))] at e
        rw [if_neg q1, if_pos q2, if_neg (by decide)]
        exact goes_of e rfl rfl W
      · rw [if_neg (by rw [has_iff]; exact fun z => z.elim q1 q2)] at e
        rw [if_neg q1, if_neg q2]
        by_cases q3 : a = b
        · rw [if_pos q3] at e
          rw [if_pos q3, if_neg (by decide)]
          exact goes_of e rfl rfl W
        · rw [if_neg q3] at e
          rw [if_neg q3, if_pos rfl]
          have hT := W.trials
          by_cases q4 : Z.trials.length = 36
          · rw [if_pos (by omega)] at e
            rw [if_pos q4]
            exact goes_of e rfl rfl W
          · rw [if_neg (by omega)] at e
            rw [if_neg q4]
            refine goes_of e ?_ rfl ⟨W.n, W.noses, W.each, ?_⟩
            · unfold toMS
              show (⟨Z.n, Z.noses.map toMN, Z.trials.map toMT ++ [⟨h, a, b, r⟩]⟩ : MS) = ⟨Z.n, Z.noses.map toMN, (Z.trials ++ [(⟨h, a, b, r == 1⟩ : Trial)]).map toMT⟩
              rw [List.map_append]
              have : ([⟨h, a, b, r == 1⟩] : List Trial).map toMT = [⟨h, a, b, r⟩] := by
                show [(⟨h, a, b, b01 (r == 1)⟩ : MT)] = _
                have : b01 (r == 1) = r := by
                  by_cases h1 : r = 1
                  · rw [h1]
                    rfl
                  · rw [show r = 0 by omega]
                    rfl
                rw [this]
              rw [this]
            · show (Z.trials ++ [_]).length ≤ 36
              rw [List.length_append]
              show Z.trials.length + 1 ≤ 36
              omega
  · rw [if_pos (by omega)] at e
    rw [if_neg q0]
    exact goes_of e rfl rfl W
theorem untry_g (W : Wf Z) : Goes Z .untry (aUntry (toMS Z)) := by
  have e : SctPanel.step Z .untry = if Z.trials = [] then (Z, SctPanel.no (-4)) else ({ Z with trials := Z.trials.dropLast }, SctPanel.nums [Z.trials.length - 1]) := rfl
  have ht : (toMS Z).trials.length = Z.trials.length := List.length_map ..
  unfold aUntry
  rw [ht]
  by_cases q : Z.trials = []
  · rw [if_pos q] at e
    rw [if_pos (by rw [q]; rfl)]
    exact goes_of e rfl rfl W
  · rw [if_neg q] at e
    rw [if_neg fun z => q (List.length_eq_zero_iff.mp z)]
    refine goes_of e ?_ rfl ⟨W.n, W.noses, W.each, ?_⟩
    · unfold toMS
      show (⟨Z.n, Z.noses.map toMN, (Z.trials.map toMT).dropLast⟩ : MS) = ⟨Z.n, Z.noses.map toMN, Z.trials.dropLast.map toMT⟩
      rw [List.map_dropLast]
    · show Z.trials.dropLast.length ≤ 36
      rw [List.length_dropLast]
      have := W.trials
      omega
theorem ask_g {c : SctPanel.Call} {A : List Int} (W : Wf Z) (h1 : (SctPanel.step Z c).1 = Z) (h2 : A = (SctPanel.step Z c).2) : Goes Z c (toMS Z, A) := ⟨by rw [h1], h2, by rw [h1]; exact W⟩
end
end Np
set_option Elab.async false
set_option linter.all false
set_option maxRecDepth 100000
set_option maxHeartbeats 4000000
namespace Np
open SctPanel (Said many State Nose Trial counts weighsOf)
/-! ### the states on the way are ready -/
theorem bestFull_of {Z : State} {t : Mx} {nd : List Nat} {must : Said} {w : SctPanel.Weighs} (N : NdL nd Z.n must) (ht : ∀ a b, a < Z.n → b < Z.n → t a b = counts w a b) (hr : ¬ ∃ C, Round must Z.n C) : BestFull t nd := by
  obtain ⟨_, _, h⟩ := bestOrder_eq N ht hr
  refine ⟨fun i hi => ?_, fun x hx => ?_, fun x hx => ?_⟩
  · rw [N.len] at hi ⊢
    exact best_lt N ht hr (Nat.le_of_lt hi)
  · rw [N.len]
    exact (h x).mp hx
  · rw [N.len] at hx
    exact (h x).mpr hx
theorem ready_of {Z : State} (W : Wf Z) : Ready (toMS Z) := by
  have at_ : ∀ h, h < (toMS Z).noses.length → ∃ X, Z.noses[h]? = some X ∧ noseAt (toMS Z) h = toMN X ∧ WfL Z.n X.said := fun h hh => by
    have hh : h < Z.noses.length := by
      have e : (toMS Z).noses.length = Z.noses.length := List.length_map ..
      omega
    have e : Z.noses[h]? = some Z.noses[h] := List.getElem?_eq_getElem hh
    exact ⟨_, e, (nose_some e).2.1, (W.each _ (List.mem_of_getElem? e)).2⟩
  refine ⟨⟨W.n, ?_, fun x hx => ?_, ?_, fun t ht => ?_⟩, fun h hh hs => ?_, fun h hh => ?_, ?_⟩
  · show (Z.noses.map toMN).length ≤ 8
    rw [List.length_map]
    exact W.noses
  · obtain ⟨X, hX, rfl⟩ := List.mem_map.mp hx
    exact (W.each X hX).1
  · show (Z.trials.map toMT).length ≤ 36
    rw [List.length_map]
    exact W.trials
  · obtain ⟨T, _, rfl⟩ := List.mem_map.mp ht
    show b01 T.right ≤ 1
    unfold b01
    split <;> decide
  · obtain ⟨X, e, e2, WX⟩ := at_ h hh
    rw [e2] at hs
    have hs : isSound (fOf X.said) Z.n = true := hs
    have hm := (sound_iff WX).mp hs
    have N := ndl_of W e
    refine ⟨?_, bestFull_of N (fun a b _ _ => weigh_counts Z a b) (no_round WX hm)⟩
    show 0 < cnt _ ∧ cnt _ < 2 ^ 100
    rw [cnt_eq N]
    exact ⟨Nat.pos_of_ne_zero hm, many_lt W.n⟩
  · obtain ⟨X, e, e2, WX⟩ := at_ h hh
    rw [e2]
    refine bestFull_of (Z := Z) (must := []) (w := [(1, X.said)]) (ndl_nothing Z.n) (fun a b _ _ => ?_) (no_round_nil Z.n)
    show fOf X.said a b = (if SctPanel.says X.said a b = true then 1 else 0) + 0
    rfl
  · exact bestFull_of (ndl_nothing Z.n) (fun a b _ _ => weigh_counts Z a b) (no_round_nil Z.n)
/-! ### a call -/
def toC (x : Call) : List (List Int) := ((x.1 : Int) :: toI x.2.1) :: x.2.2.map toI
theorem goes_mk {Z : State} {c : SctPanel.Call} {p : MS × List Int} {x : Call} (g : Goes Z c p) (hc : SctPanelNeutral.callOf (toC x) = some c) (hp : act (toMS Z) x.1 x.2.1 x.2.2 = p) :
    (act (toMS Z) x.1 x.2.1 x.2.2).1 = toMS (SctPanelNeutral.step Z (toC x)).1 ∧ (act (toMS Z) x.1 x.2.1 x.2.2).2 = (SctPanelNeutral.step Z (toC x)).2 ∧ Wf (SctPanelNeutral.step Z (toC x)).1 := by
  have e : SctPanelNeutral.step Z (toC x) = SctPanel.step Z c := by
    unfold SctPanelNeutral.step
    rw [hc]
  rw [e, hp]
  exact ⟨g.st, g.an, g.wf⟩
theorem nat_cast (n : Nat) : SctPanelNeutral.nat (n : Int) = n := Int.toNat_natCast n
theorem nat_toI (l : List Nat) : (toI l).map SctPanelNeutral.nat = l := by
  unfold toI
  rw [List.map_map]
  have e : (SctPanelNeutral.nat ∘ fun n : Nat => (n : Int)) = id := funext nat_cast
  rw [e, List.map_id]
theorem act_goes {Z : State} (W : Wf Z) {x : Call} (hc : x.1 < 26) (hl : x.2.1.length = numsOf x.1) (hr : (x.1 ≠ 15 ∧ x.2.2 = []) ∨ (x.1 = 15 ∧ ∃ ol, x.2.2 = [ol])) :
    (act (toMS Z) x.1 x.2.1 x.2.2).1 = toMS (SctPanelNeutral.step Z (toC x)).1 ∧ (act (toMS Z) x.1 x.2.1 x.2.2).2 = (SctPanelNeutral.step Z (toC x)).2 ∧ Wf (SctPanelNeutral.step Z (toC x)).1 := by
  obtain ⟨c, l, rows⟩ := x
  have hc : c < 26 := hc
  have hl : l.length = numsOf c := hl
  have hr : (c ≠ 15 ∧ rows = []) ∨ (c = 15 ∧ ∃ ol, rows = [ol]) := hr
  by_cases h15 : c = 15
  · rcases hr with ⟨z, _⟩ | ⟨_, ol, rfl⟩
    · exact absurd h15 z
    · subst h15
      have hl0 : l = [] := List.length_eq_zero_iff.mp hl
      subst hl0
      refine goes_mk (ask_g W rfl (against_q W (o := ol))) ?_ rfl
      show some (SctPanel.Call.against ((toI ol).map SctPanelNeutral.nat)) = _
      rw [nat_toI]
  · have hr0 : rows = [] := by
      rcases hr with ⟨_, z⟩ | ⟨z, _⟩
      · exact z
      · exact absurd z h15
    subst hr0
    match c, hc, h15 with
    | 0, _, _ =>
      obtain ⟨a, b, rfl⟩ := len_two hl
      exact goes_mk (panel_g W) (by show some (SctPanel.Call.panel (SctPanelNeutral.nat a) (SctPanelNeutral.nat b)) = _; rw [nat_cast, nat_cast]; rfl) rfl
    | 1, _, _ =>
      obtain ⟨a, b, d, rfl⟩ := len_three hl
      exact goes_mk (say_g W) (by show some (SctPanel.Call.say (SctPanelNeutral.nat a) (SctPanelNeutral.nat b) (SctPanelNeutral.nat d)) = _; rw [nat_cast, nat_cast, nat_cast]; rfl) rfl
    | 2, _, _ =>
      obtain ⟨a, b, d, rfl⟩ := len_three hl
      exact goes_mk (unsay_g W) (by show some (SctPanel.Call.unsay (SctPanelNeutral.nat a) (SctPanelNeutral.nat b) (SctPanelNeutral.nat d)) = _; rw [nat_cast, nat_cast, nat_cast]; rfl) rfl
    | 3, _, _ =>
      obtain ⟨a, b, rfl⟩ := len_two hl
      exact goes_mk (weigh_g W) (by show some (SctPanel.Call.weigh (SctPanelNeutral.nat a) (SctPanelNeutral.nat b)) = _; rw [nat_cast, nat_cast]; rfl) rfl
    | 4, _, _ =>
      obtain ⟨a, rfl⟩ := List.length_eq_one_iff.mp hl
      exact goes_mk (ask_g W rfl (ring_q W)) (by show some (SctPanel.Call.ring (SctPanelNeutral.nat a)) = _; rw [nat_cast]; rfl) rfl
    | 5, _, _ =>
      obtain ⟨a, rfl⟩ := List.length_eq_one_iff.mp hl
      exact goes_mk (ask_g W rfl (mend_q W)) (by show some (SctPanel.Call.mend (SctPanelNeutral.nat a)) = _; rw [nat_cast]; rfl) rfl
    | 6, _, _ =>
      obtain ⟨a, b, d, rfl⟩ := len_three hl
      exact goes_mk (ask_g W rfl (follows_q W)) (by show some (SctPanel.Call.follows (SctPanelNeutral.nat a) (SctPanelNeutral.nat b) (SctPanelNeutral.nat d)) = _; rw [nat_cast, nat_cast, nat_cast]; rfl) rfl
    | 7, _, _ =>
      obtain ⟨a, rfl⟩ := List.length_eq_one_iff.mp hl
      exact goes_mk (ask_g W rfl (first_q W)) (by show some (SctPanel.Call.first (SctPanelNeutral.nat a)) = _; rw [nat_cast]; rfl) rfl
    | 8, _, _ =>
      obtain ⟨a, rfl⟩ := List.length_eq_one_iff.mp hl
      exact goes_mk (ask_g W rfl (many_q W)) (by show some (SctPanel.Call.many (SctPanelNeutral.nat a)) = _; rw [nat_cast]; rfl) rfl
    | 9, _, _ =>
      obtain ⟨a, b, d, rfl⟩ := len_three hl
      exact goes_mk (ask_g W rfl (chance_q W)) (by show some (SctPanel.Call.chance (SctPanelNeutral.nat a) (SctPanelNeutral.nat b) (SctPanelNeutral.nat d)) = _; rw [nat_cast, nat_cast, nat_cast]; rfl) rfl
    | 10, _, _ =>
      obtain ⟨a, b, rfl⟩ := len_two hl
      exact goes_mk (ask_g W rfl (place_q W)) (by show some (SctPanel.Call.place (SctPanelNeutral.nat a) (SctPanelNeutral.nat b)) = _; rw [nat_cast, nat_cast]; rfl) rfl
    | 11, _, _ =>
      obtain ⟨a, rfl⟩ := List.length_eq_one_iff.mp hl
      exact goes_mk (ask_g W rfl (ask_q W)) (by show some (SctPanel.Call.ask (SctPanelNeutral.nat a)) = _; rw [nat_cast]; rfl) rfl
    | 12, _, _ =>
      obtain ⟨a, b, rfl⟩ := len_two hl
      exact goes_mk (ask_g W rfl (agree_q W)) (by show some (SctPanel.Call.agree (SctPanelNeutral.nat a) (SctPanelNeutral.nat b)) = _; rw [nat_cast, nat_cast]; rfl) rfl
    | 13, _, _ =>
      obtain ⟨a, b, rfl⟩ := len_two hl
      exact goes_mk (ask_g W rfl over_q) (by show some (SctPanel.Call.over (SctPanelNeutral.nat a) (SctPanelNeutral.nat b)) = _; rw [nat_cast, nat_cast]; rfl) rfl
    | 14, _, _ =>
      have hl0 : l = [] := List.length_eq_zero_iff.mp hl
      subst hl0
      exact goes_mk (ask_g W rfl king_q) rfl rfl
    | 15, _, z => exact absurd rfl z
    | 16, _, _ =>
      have hl0 : l = [] := List.length_eq_zero_iff.mp hl
      subst hl0
      exact goes_mk (ask_g W rfl best_q) rfl rfl
    | 17, _, _ =>
      obtain ⟨a, rfl⟩ := List.length_eq_one_iff.mp hl
      exact goes_mk (ask_g W rfl (near_q W)) (by show some (SctPanel.Call.near (SctPanelNeutral.nat a)) = _; rw [nat_cast]; rfl) rfl
    | 18, _, _ =>
      obtain ⟨a, b, d, f, rfl⟩ := len_four hl
      exact goes_mk (trial_g W) (by show some (SctPanel.Call.trial (SctPanelNeutral.nat a) (SctPanelNeutral.nat b) (SctPanelNeutral.nat d) (SctPanelNeutral.nat f)) = _; rw [nat_cast, nat_cast, nat_cast, nat_cast]; rfl) rfl
    | 19, _, _ =>
      have hl0 : l = [] := List.length_eq_zero_iff.mp hl
      subst hl0
      exact goes_mk (untry_g W) rfl rfl
    | 20, _, _ =>
      obtain ⟨a, rfl⟩ := List.length_eq_one_iff.mp hl
      exact goes_mk (ask_g W rfl score_q) (by show some (SctPanel.Call.score (SctPanelNeutral.nat a)) = _; rw [nat_cast]; rfl) rfl
    | 21, _, _ =>
      obtain ⟨a, b, rfl⟩ := len_two hl
      exact goes_mk (ask_g W rfl apart_q) (by show some (SctPanel.Call.apart (SctPanelNeutral.nat a) (SctPanelNeutral.nat b)) = _; rw [nat_cast, nat_cast]; rfl) rfl
    | 22, _, _ =>
      obtain ⟨a, b, rfl⟩ := len_two hl
      exact goes_mk (ask_g W rfl luck_q) (by show some (SctPanel.Call.luck (SctPanelNeutral.nat a) (SctPanelNeutral.nat b)) = _; rw [nat_cast, nat_cast]; rfl) rfl
    | 23, _, _ =>
      obtain ⟨a, b, rfl⟩ := len_two hl
      exact goes_mk (ask_g W rfl need_q) (by show some (SctPanel.Call.need (SctPanelNeutral.nat a) (SctPanelNeutral.nat b)) = _; rw [nat_cast, nat_cast]; rfl) rfl
    | 24, _, _ =>
      obtain ⟨a, rfl⟩ := List.length_eq_one_iff.mp hl
      exact goes_mk (ask_g W rfl sheet_q) (by show some (SctPanel.Call.sheet (SctPanelNeutral.nat a)) = _; rw [nat_cast]; rfl) rfl
    | 25, _, _ =>
      have hl0 : l = [] := List.length_eq_zero_iff.mp hl
      subst hl0
      exact goes_mk (ask_g W rfl (told_q W)) rfl rfl
    | n + 26, h, _ => exact absurd h (by omega)
theorem cut_rows {m m' : List Nat} {x : Call} (h : Cut m x.1 x.2.1 x.2.2 m') : (x.1 ≠ 15 ∧ x.2.2 = []) ∨ (x.1 = 15 ∧ ∃ ol, x.2.2 = [ol]) := by
  rcases h.sh with ⟨a, b, _⟩ | ⟨a, ol, b, _⟩
  · exact .inl ⟨a, b⟩
  · exact .inr ⟨a, ol, b⟩
theorem play_ok : ∀ (cs : List Call) (m : List Nat) (Z : State), Wf Z → Parse m cs → ReadyA (toMS Z) cs ∧ playM (toMS Z) cs = PyFlat.played SctPanelNeutral.step Z (cs.map toC)
  | [], _, _, _, _ => ⟨trivial, rfl⟩
  | x :: cs, m, Z, W, hp => by
    obtain ⟨m', hc, hp'⟩ := hp
    obtain ⟨h1, h2, h3⟩ := act_goes W hc.hc hc.hl (cut_rows hc)
    obtain ⟨r1, r2⟩ := play_ok cs m' _ h3 hp'
    rw [← h1] at r1 r2
    refine ⟨⟨ready_of W, r1⟩, ?_⟩
    show (act (toMS Z) x.1 x.2.1 x.2.2).2 :: playM (act (toMS Z) x.1 x.2.1 x.2.2).1 cs = (SctPanelNeutral.step Z (toC x)).2 :: PyFlat.played SctPanelNeutral.step (SctPanelNeutral.step Z (toC x)).1 (cs.map toC)
    rw [h2, r2]
/-! ### the calls in a list -/
theorem shape_at (c : Nat) : PyWrsctt.shape (c : Int) = if c < 26 then some (numsOf c, if c = 15 then 1 else 0) else none := by
  by_cases h : c < 26
  · rw [if_pos h]
    match c, h with
    | 0, _ | 1, _ | 2, _ | 3, _ | 4, _ | 5, _ | 6, _ | 7, _ | 8, _ | 9, _ | 10, _ | 11, _ | 12, _ | 13, _ | 14, _ | 15, _ | 16, _ | 17, _ | 18, _ | 19, _ | 20, _ | 21, _ | 22, _ | 23, _ | 24, _ | 25, _ => rfl
    | n + 26, h => exact absurd h (by omega)
  · rw [if_neg h]
    unfold PyWrsctt.shape
    repeat rw [if_neg (by omega)]
theorem toI_len (l : List Nat) : (toI l).length = l.length := List.length_map ..
theorem toI_take (l : List Nat) (k : Nat) : (toI l).take k = toI (l.take k) := List.map_take.symm
theorem toI_drop (l : List Nat) (k : Nat) : (toI l).drop k = toI (l.drop k) := List.map_drop.symm
theorem call_cut {p : Nat} {r : List Nat} {C : List (List Int)} {t : List Int} (h : PyFlat.call PyWrsctt.shape ((p : Int) :: toI r) = some (C, t)) (hb : ∀ o, C = [[15], o] → o.length ≤ 10) :
    ∃ (x : Call) (m' : List Nat), C = toC x ∧ t = toI m' ∧ Cut (p :: r) x.1 x.2.1 x.2.2 m' := by
  have h : (match PyWrsctt.shape (p : Int) with
    | none => none
    | some (n, k) => if (toI r).length < n then none else match PyFlat.rows k ((toI r).drop n) with
      | none => none
      | some (xs, t) => some (((p : Int) :: (toI r).take n) :: xs, t)) = some (C, t) := h
  rw [shape_at] at h
  by_cases hp : p < 26
  · rw [if_pos hp] at h
    simp only at h
    by_cases hlen : (toI r).length < numsOf p
    · rw [if_pos hlen] at h
      cases h
    · rw [if_neg hlen] at h
      rw [toI_len] at hlen
      have hl : (r.take (numsOf p)).length = numsOf p := by
        rw [List.length_take]
        omega
      have hsplit : r = r.take (numsOf p) ++ r.drop (numsOf p) := (List.take_append_drop _ r).symm
      by_cases h15 : p = 15
      · rw [if_pos h15] at h
        subst h15
        have h0 : numsOf 15 = 0 := rfl
        rw [h0] at h hsplit
        have h : (match PyFlat.rows 1 (toI r) with
          | none => none
          | some (xs, t) => some (([15] : List Int) :: xs, t)) = some (C, t) := h
        unfold PyFlat.rows at h
        cases r with
        | nil =>
          have hq : PyFlat.row (toI []) = none := rfl
          rw [hq] at h
          cases h
        | cons q s =>
          have hq : PyFlat.row (toI (q :: s)) = if (0 : Int) ≤ (q : Int) ∧ ((q : Int)).toNat ≤ (toI s).length then some ((toI s).take ((q : Int)).toNat, (toI s).drop ((q : Int)).toNat) else none := rfl
          rw [hq, Int.toNat_natCast, toI_len] at h
          by_cases hqs : q ≤ s.length
          · rw [if_pos ⟨by omega, hqs⟩] at h
            have h : some ([([15] : List Int), (toI s).take q], (toI s).drop q) = some (C, t) := h
            injection h with h
            injection h with h1 h2
            have hol := hb _ h1.symm
            rw [toI_take, toI_len] at hol
            refine ⟨(15, [], [s.take q]), s.drop q, ?_, by rw [← h2, toI_drop], ⟨hp, rfl, .inr ⟨rfl, s.take q, rfl, by omega, ?_⟩⟩⟩
            · rw [← h1, toI_take]
              rfl
            · show 15 :: q :: s = 15 :: ([] ++ (s.take q).length :: (s.take q ++ s.drop q))
              rw [List.take_append_drop, List.length_take, Nat.min_eq_left hqs]
              rfl
          · rw [if_neg fun z => hqs z.2] at h
            cases h
      · rw [if_neg h15] at h
        have h : some ([(p : Int) :: (toI r).take (numsOf p)], (toI r).drop (numsOf p)) = some (C, t) := h
        injection h with h
        injection h with h1 h2
        refine ⟨(p, r.take (numsOf p), []), r.drop (numsOf p), ?_, by rw [← h2, toI_drop], ⟨hp, hl, .inl ⟨h15, rfl, ?_⟩⟩⟩
        · rw [← h1, toI_take]
          rfl
        · show p :: r = p :: (r.take (numsOf p) ++ r.drop (numsOf p))
          rw [List.take_append_drop]
  · rw [if_neg hp] at h
    cases h
theorem parse_ok : ∀ (f : Nat) (m : List Nat) (raw : List (List (List Int))), PyFlat.calls PyWrsctt.shape f (toI m) = some raw → (∀ C ∈ raw, ∀ o, C = [[15], o] → o.length ≤ 10) → ∃ cs, Parse m cs ∧ raw = cs.map toC
  | f, [], raw, h, _ => by
    have e : PyFlat.calls PyWrsctt.shape f (toI []) = some [] := by cases f <;> rfl
    rw [e] at h
    injection h with h
    exact ⟨[], rfl, h.symm⟩
  | 0, _ :: _, _, h, _ => by cases h
  | f + 1, p :: r, raw, h, hb => by
    have h : (match PyFlat.call PyWrsctt.shape ((p : Int) :: toI r) with
      | none => none
      | some (c, t) => match PyFlat.calls PyWrsctt.shape f t with
        | none => none
        | some cs => some (c :: cs)) = some raw := h
    cases hc : PyFlat.call PyWrsctt.shape ((p : Int) :: toI r) with
    | none =>
      rw [hc] at h
      cases h
    | some q =>
      obtain ⟨C, t⟩ := q
      rw [hc] at h
      simp only at h
      cases hq : PyFlat.calls PyWrsctt.shape f t with
      | none =>
        rw [hq] at h
        cases h
      | some cs0 =>
        rw [hq] at h
        injection h with h
        subst h
        obtain ⟨x, m', rfl, rfl, hcut⟩ := call_cut hc fun o ho => hb C List.mem_cons_self o ho
        obtain ⟨cs, hp, rfl⟩ := parse_ok f m' cs0 hq fun D hD => hb D (List.mem_cons_of_mem _ hD)
        exact ⟨x :: cs, ⟨m', hcut, hp⟩, rfl⟩
theorem whole_id (c : List (List Int)) : PyWrsctt.whole c = c := by
  unfold PyWrsctt.whole
  split <;> rfl
theorem whole_map (raw : List (List (List Int))) : raw.map PyWrsctt.whole = raw := by
  rw [show PyWrsctt.whole = id from funext whole_id, List.map_id]
theorem toI_toNat : ∀ l : List Int, (∀ x ∈ l, 0 ≤ x) → l = toI (l.map Int.toNat)
  | [], _ => rfl
  | x :: l, h => by
    show x :: l = ((x.toNat : Nat) : Int) :: toI (l.map Int.toNat)
    rw [← toI_toNat l fun y hy => h y (List.mem_cons_of_mem _ hy), Int.toNat_of_nonneg (h x List.mem_cons_self)]
/-- THE PLAIN LAW -/
theorem law : Law := by
  intro l _ hr hask
  have e0 := toI_toNat l fun x hx => (hr x hx).1
  unfold PyWrsctt.answers_asked at hask
  cases hc : PyFlat.calls PyWrsctt.shape l.length l with
  | none =>
    rw [hc] at hask
    cases hask
  | some raw =>
    rw [hc] at hask
    have hask : (!raw.isEmpty && PyFlat.atMost 60 raw && PyInside.calls PyWrsctt.bound raw && SctPanelNeutral.asked (raw.map PyWrsctt.whole) && PyFlat.short 10000000 (PyWrsctt.answers l)) = true := hask
    rw [whole_map, Bool.and_eq_true, Bool.and_eq_true] at hask
    obtain ⟨⟨_, h2⟩, h3⟩ := hask
    have h1 : ∀ C ∈ raw, SctPanelNeutral.asked1 C = true := by
      unfold SctPanelNeutral.asked at h2
      rw [Bool.and_eq_true, List.all_eq_true] at h2
      exact h2.1
    have hshort : (PyWrsctt.answers l).length ≤ 10000000 := of_decide_eq_true h3
    have hcalls := hc
    rw [e0] at hcalls
    obtain ⟨cs, hp, hraw⟩ := parse_ok _ (l.map Int.toNat) raw hcalls fun C hC o ho => by
      have := h1 C hC
      rw [ho] at this
      have this : (decide (o.length ≤ 10) && SctPanelNeutral.numbers o) = true := this
      rw [Bool.and_eq_true, decide_eq_true_iff] at this
      exact this.1
    obtain ⟨hra, hpl⟩ := play_ok cs (l.map Int.toNat) SctPanel.start wf_start hp
    have hans : PyWrsctt.answers l = toldM (playM start cs) := by
      unfold PyWrsctt.answers PyWrsctt.calls
      rw [hc]
      show PyFlat.told (PyFlat.played SctPanelNeutral.step SctPanelNeutral.start (raw.map PyWrsctt.whole)) = _
      rw [whole_map, hraw]
      show PyFlat.told (PyFlat.played SctPanelNeutral.step SctPanel.start (cs.map toC)) = _
      rw [← hpl]
      rfl
    exact ⟨l.map Int.toNat, cs, e0, hp, hra, by rw [← hans]; exact hshort, hans.symm⟩
end Np
theorem PySem.Challenge.cw_nosepanel_s01_answers_holds : PySem.Challenge.rw_nosepanel_s01_answers.Holds := by
  exact Np.row_of Np.law
