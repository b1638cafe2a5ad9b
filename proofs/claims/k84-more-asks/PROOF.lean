import PyProof.Rows.All
import Wide.All
import OpenK.AllK
import Wide.FinOn
import HandS.ForMost
import HandS.Wide
import HandS.Evl
import HandS.Steps
import HandS.IsInst
import HandS.TupLe
import HandS.Conv
import PySem.Challenge.RW_fewhonest_k84_whole_more_asks_and_words
set_option Elab.async false
set_option linter.all false
set_option maxRecDepth 100000
set_option maxHeartbeats 4000000
/-! M84 -/
/-! The mirrors of k84, plain Lean. -/
namespace P84
def binL (n : Int) : Nat → Int
  | 0 => 1
  | i + 1 => binL n i * (n - (i : Int)) / ((i : Int) + 1)
def binF (n k : Int) : Int := if (decide (k < 0) || decide (n < k)) = true then 0 else binL n (min k (n - k)).toNat
def priceF (a b : Int) : Int := ((List.range (a + 2).toNat).map fun (i : Nat) => binF (a + b + 1) i).sum
def triF : Nat → List Int
  | 0 => [1]
  | n + 1 => [1] ++ ((List.range ((triF n).length - 1)).map fun (i : Nat) => (triF n).getD i 0 + (triF n).getD (i + 1) 0) ++ [1]
def lawP (a b : Int) : Int := ((triF (a + b + 1).toNat).take (a + 2).toNat).sum
def mostF (d a b w : Int) : Int := (priceF a b - 1) * (d + w - 1) - 1
/-! kept -/
def xs2 (lo hi : Int) : List Int := (List.range (hi - lo).toNat).map fun (i : Nat) => lo + (i : Int)
def kpOk (rec : Int → Int → Int → Bool) (f a b asked x : Int) : Bool := (decide (0 < a) && rec (f - x) (a - 1) b) || (decide (0 < b) && decide (0 < asked - x) && rec (f - (asked - x)) a (b - 1))
def kpP (d q : Int) (rec : Int → Int → Int → Bool) (f a b : Int) : Option Int :=
  (xs2 ((min q (d + f) + 1) / 2) (min (min q (d + f)) f + 1)).find? fun x => !kpOk rec f a b (min q (d + f)) x
def kp (d q : Int) : Nat → Int → Int → Int → Bool
  | 0, f, a, b => if f = 0 then true else (kpP d q (fun _ _ _ => false) f a b).isNone
  | n + 1, f, a, b => if f = 0 then true else (kpP d q (kp d q n) f a b).isNone
def KP (d q f a b : Int) : Bool := kp d q (a + b).toNat f a b
/-! least failing -/
def failsF (m q f low : Int) (high : Option Int) : Bool :=
  let asked := min q m
  let more := min asked (f - low)
  if more < asked - more then false else (match high with | none => true | some h => decide (more = asked) || decide (asked - more ≤ f - h))
def lfS (p : Int → Bool) : Nat → Int → Int
  | 0, f => f
  | n + 1, f => if p f then f else lfS p n (f + 1)
def lf (s q low : Int) (high : Option Int) : Int := lfS (fun f => failsF (s + f) q f low high) q.toNat (max 1 low)
/-- a row's values, m by m, over the row before (low) -/
def lfCol (s q : Int) (low : Nat → Int) : Nat → Int
  | 0 => lf s q (low 0) none
  | m + 1 => lf s q (low (m + 1)) (some (lfCol s q low m))
def LF (s q : Int) : Nat → Nat → Int
  | 0 => lfCol s q fun _ => 0
  | r + 1 => lfCol s q (LF s q r)
/-! best sums -/
def bsBest (gains : List Int) (prev : List (Option Int)) (whole : Nat) : Nat → Option Int
  | 0 => none
  | n + 1 =>
    let best := bsBest gains prev whole n
    match prev.getD (whole - (n + 1)) none with
    | none => best
    | some r => match best with
      | none => some (r + gains.getD (n + 1) 0)
      | some b => if b < r + gains.getD (n + 1) 0 then some (r + gains.getD (n + 1) 0) else some b
def bsRow (gains : List Int) (total : Nat) (prev : List (Option Int)) : List (Option Int) := (List.range (total + 1)).map fun w => bsBest gains prev w w
def bsRows (gains : List Int) (total : Nat) : Nat → List (Option Int)
  | 0 => some 0 :: List.replicate total none
  | n + 1 => bsRow gains total (bsRows gains total n)
/-- best part at a place, over the row before and its own target -/
def bpBest (gains : List Int) (prev : List (Option Int)) (goal : Option Int) (total : Nat) : Nat → Int
  | 0 => 0
  | n + 1 => match prev.getD (total - (n + 1)) none with
    | none => bpBest gains prev goal total n
    | some r => if some (r + gains.getD (n + 1) 0) = goal then ((n : Int) + 1) else bpBest gains prev goal total n
def bpParts (gains : List Int) (tot : Nat) : Nat → Nat → List Int
  | _, 0 => []
  | total, n + 1 =>
    let b := bpBest gains (bsRows gains tot n) ((bsRows gains tot (n + 1)).getD total none) total total
    b :: bpParts gains tot (total - b.toNat) n
/-! word_lots -/
def gainsF (q a b : Nat) (d many : Nat) : List Int := (0 :: (List.range d).map fun (i : Nat) => LF ((i : Int) + 1) q a b)
def wlNone (d f q : Nat) (w : Nat) : Bool :=
  let many := min w (f + 1)
  let gains := gainsF q 0 0 d many
  let parts := bpParts (gains ++ List.replicate many 0) (d + many - 1) (d + many - 1) many
  decide ((parts.map fun p => gains.getD p.toNat 0).sum ≤ (f : Int))
/-! asks -/
def wlOK (d f q w : Nat) : Bool := decide (1 ≤ q) && decide (q ≤ 60) && (bpParts (gainsF q 0 0 d (min w (f + 1)) ++ List.replicate (min w (f + 1)) 0) (d + min w (f + 1) - 1) (d + min w (f + 1) - 1) (min w (f + 1))).all fun p => decide (1 ≤ p) && decide (p ≤ (d : Int))
def dueF (d f w : Int) : Option Int := if f ≥ d + w - 1 then none else some (2 * (f / w + 1) - 1)
def dueL (d f w : Nat) : Nat → Option Nat
  | 0 => none
  | n + 1 => match dueL d f w n with
    | some q => some q
    | none => if f < w * ((n + 1 + 1) / 2) ∧ f < d + w - 1 then some (n + 1) else none
def wordsOK (d f w : Nat) : Bool :=
  match dueL d f w (2 * f + 2) with
  | none => (dueF d f w).isNone && wlOK d f 60 w && wlNone d f 60 w
  | some q => decide (dueF d f w = some (q : Int)) && (decide (w ≠ 1) || KP d q f 0 0) && (decide (w ≠ 1) || decide (q ≤ 1) || !KP d ((q : Int) - 1) f 0 0) && wlOK d f q w && !wlNone d f q w && (decide (q = 1) || (wlOK d f (q - 1) w && wlNone d f (q - 1) w))
def wmakes (d q : Int) : Nat → Int → Int → Int × Int
  | 0, f, n => (f, n)
  | k + 1, f, n => if q - f < d ∧ q - f ≤ f then wmakes d q k (f + f - q) (n + 1) else (f, n)
def makesF (d f q : Int) : Option Int := if f = 0 then some 0 else if q ≤ f then none else
  let r := wmakes d q f.toNat f 0
  if q - r.1 < d then some r.2 else some (r.2 + r.1 / d)
def wrec (d q : Int) : Nat → Int → Int → Int
  | 0, _, n => n
  | k + 1, f, n => if d + f < q ∧ (d + f + 1) / 2 ≤ f then wrec d q k (f - (d + f + 1) / 2) (n + 1) else n
def recF (d f q : Int) : Int :=
  let half := (q + 1) / 2
  let low := max half (q - d)
  let found := if f ≥ low then (f - low) / half + 1 else 0
  let f1 := if f ≥ low then f - found * half else f
  wrec d q (f1.toNat + 1) f1 found
def allOne (d f q : Int) : Bool := decide (makesF d f q = some (f / d)) && decide (0 ≤ recF d f q) && decide (recF d f q ≤ 60) && decide (f < (lawP (recF d f q) 0 - 1) * d) && (decide (recF d f q ≤ 0) || decide ((lawP (recF d f q - 1) 0 - 1) * d ≤ f))
def allOK (d f : Int) : Bool := allOne d f (d + f) && allOne d f (d + f + 1)
def edgeF (d q a b : Int) : Nat → Int → Int
  | 0, f => f
  | n + 1, f => if KP d q f a b then edgeF d q a b n (f + 1) else f
def dueR (d q a b most : Int) : Int := edgeF d q a b (most + 1).toNat 0 - 1
def manyF (d q a b most : Int) : Int := ((List.range (most + 1).toNat).filter fun (f : Nat) => KP d q f a b).length
def mostKept (d q a b most : Int) : Int := if ((List.range (manyF d q a b most).toNat).filter fun (f : Nat) => !KP d q f a b).isEmpty then manyF d q a b most - 1 else -1
def risingOne (d a b edge : Int) (q : Int) : Bool :=
  let due := dueR d q a b (edge + 2)
  let before := if q = 1 then 0 else dueR d (q - 1) a b (edge + 2)
  let most := if q < 4 ∨ d + edge - 1 < q then edge + 2 else 0
  decide (0 ≤ due) && decide (before ≤ due) && decide (due ≤ edge) && (decide (q ≠ 1) || decide (due = a)) && (decide (q < d + edge) || decide (due = edge)) && (decide (most ≤ 0) || decide (mostKept d q a b most = due)) && KP d q due a b && !KP d q (due + 1) a b && decide (LF d q a.toNat b.toNat = due + 1)
def edgeP (d a b : Int) : Int := (lawP a b - 1) * d - 1
def risingOK (d a b : Int) : Bool := decide (mostF d a b 1 = edgeP d a b) && decide (0 ≤ edgeP d a b) && decide (edgeP d a b ≤ 30) && (List.range (d + edgeP d a b + 2).toNat).all fun (i : Nat) => risingOne d a b (edgeP d a b) ((i : Int) + 1)
def risingAll : Bool := [(0, 0), (0, 1), (1, 0), (0, 2), (1, 1)].all fun p => (List.range (if lawP p.1 p.2 < 5 then 3 else 1)).all fun (i : Nat) => risingOK ((i : Int) + 1) p.1 p.2
def allAll : Bool := (List.range 9).all fun (i : Nat) => (List.range 40).all fun (f : Nat) => allOK ((i : Int) + 1) f
def wordsAt (i j : Nat) : Bool := (List.range 14).all (fun f => wordsOK (i + 1) f (j + 1)) && wordsOK (i + 1) i 1 && wordsOK (i + 1) (i + j) (j + 1) && wordsOK (i + 1) (i + j + 1) (j + 1)
def wordsAll : Bool := (List.range 9).all fun i => (List.range 8).all fun j => wordsAt i j
end P84

/-! B84 -/
namespace P84
open PySem L2
def top (i : Nat) : Stmt := PySem.Challenge.pw_fewhonest_k84_whole_more_asks_and_words.main.body.getD i (.Pass ⟨0, 0, 0, 0⟩)
abbrev s_binomial : Stmt := top 5
abbrev n_binomial : List Str := ["many", "size", "found", "turn"]
abbrev p_binomial : List Str := ["many", "size"]
theorem sc_binomial : FnScope n_binomial p_binomial (defScope s_binomial) := ⟨rfl, rfl, rfl, by decide +kernel, rfl, by decide +kernel, by decide +kernel⟩

abbrev s_price_number : Stmt := top 9
abbrev n_price_number : List Str := ["a", "b", "size"]
abbrev p_price_number : List Str := ["a", "b"]
theorem sc_price_number : FnScope n_price_number p_price_number (defScope s_price_number) := ⟨rfl, rfl, rfl, by decide +kernel, rfl, by decide +kernel, by decide +kernel⟩

abbrev s_check_budgets : Stmt := top 10
abbrev n_check_budgets : List Str := ["a", "b"]
abbrev p_check_budgets : List Str := ["a", "b"]
theorem sc_check_budgets : FnScope n_check_budgets p_check_budgets (defScope s_check_budgets) := ⟨rfl, rfl, rfl, by decide +kernel, rfl, by decide +kernel, by decide +kernel⟩

abbrev s_check_numbers : Stmt := top 11
abbrev n_check_numbers : List Str := ["numbers", "number"]
abbrev p_check_numbers : List Str := ["numbers"]
theorem sc_check_numbers : FnScope n_check_numbers p_check_numbers (defScope s_check_numbers) := ⟨rfl, rfl, rfl, by decide +kernel, rfl, by decide +kernel, by decide +kernel⟩

abbrev s_check_least : Stmt := top 12
abbrev n_check_least : List Str := ["numbers", "least", "number"]
abbrev p_check_least : List Str := ["numbers", "least"]
theorem sc_check_least : FnScope n_check_least p_check_least (defScope s_check_least) := ⟨rfl, rfl, rfl, by decide +kernel, rfl, by decide +kernel, by decide +kernel⟩

abbrev s_most_false : Stmt := top 13
abbrev n_most_false : List Str := ["d", "a", "b", "w"]
abbrev p_most_false : List Str := ["d", "a", "b", "w"]
theorem sc_most_false : FnScope n_most_false p_most_false (defScope s_most_false) := ⟨rfl, rfl, rfl, by decide +kernel, rfl, by decide +kernel, by decide +kernel⟩

abbrev s_is_whole : Stmt := top 15
abbrev n_is_whole : List Str := ["value"]
abbrev p_is_whole : List Str := ["value"]
theorem sc_is_whole : FnScope n_is_whole p_is_whole (defScope s_is_whole) := ⟨rfl, rfl, rfl, by decide +kernel, rfl, by decide +kernel, by decide +kernel⟩

abbrev s_check_at_most : Stmt := top 16
abbrev n_check_at_most : List Str := ["value", "most", "what"]
abbrev p_check_at_most : List Str := ["value", "most", "what"]
theorem sc_check_at_most : FnScope n_check_at_most p_check_at_most (defScope s_check_at_most) := ⟨rfl, rfl, rfl, by decide +kernel, rfl, by decide +kernel, by decide +kernel⟩

abbrev s_failing_parting : Stmt := top 21
abbrev n_failing_parting : List Str := ["known", "d", "q", "f", "a", "b", "asked", "x", "y"]
abbrev p_failing_parting : List Str := ["known", "d", "q", "f", "a", "b"]
theorem sc_failing_parting : FnScope n_failing_parting p_failing_parting (defScope s_failing_parting) := ⟨rfl, rfl, rfl, by decide +kernel, rfl, by decide +kernel, by decide +kernel⟩

abbrev s_is_kept : Stmt := top 22
abbrev n_is_kept : List Str := ["known", "d", "q", "f", "a", "b", "key"]
abbrev p_is_kept : List Str := ["known", "d", "q", "f", "a", "b"]
theorem sc_is_kept : FnScope n_is_kept p_is_kept (defScope s_is_kept) := ⟨rfl, rfl, rfl, by decide +kernel, rfl, by decide +kernel, by decide +kernel⟩

abbrev s_check_asked : Stmt := top 23
abbrev n_check_asked : List Str := ["d", "q", "f", "a", "b"]
abbrev p_check_asked : List Str := ["d", "q", "f", "a", "b"]
theorem sc_check_asked : FnScope n_check_asked p_check_asked (defScope s_check_asked) := ⟨rfl, rfl, rfl, by decide +kernel, rfl, by decide +kernel, by decide +kernel⟩

abbrev s_kept_asked : Stmt := top 24
abbrev n_kept_asked : List Str := ["d", "q", "f", "a", "b"]
abbrev p_kept_asked : List Str := ["d", "q", "f", "a", "b"]
theorem sc_kept_asked : FnScope n_kept_asked p_kept_asked (defScope s_kept_asked) := ⟨rfl, rfl, rfl, by decide +kernel, rfl, by decide +kernel, by decide +kernel⟩

abbrev s_makes_asked : Stmt := top 25
abbrev n_makes_asked : List Str := ["d", "f", "q", "found"]
abbrev p_makes_asked : List Str := ["d", "f", "q"]
theorem sc_makes_asked : FnScope n_makes_asked p_makes_asked (defScope s_makes_asked) := ⟨rfl, rfl, rfl, by decide +kernel, rfl, by decide +kernel, by decide +kernel⟩

abbrev s_recalls_asked : Stmt := top 26
abbrev n_recalls_asked : List Str := ["d", "f", "q", "half", "low", "found"]
abbrev p_recalls_asked : List Str := ["d", "f", "q"]
theorem sc_recalls_asked : FnScope n_recalls_asked p_recalls_asked (defScope s_recalls_asked) := ⟨rfl, rfl, rfl, by decide +kernel, rfl, by decide +kernel, by decide +kernel⟩

abbrev s_check_budget_bounds : Stmt := top 32
abbrev n_check_budget_bounds : List Str := ["a", "b"]
abbrev p_check_budget_bounds : List Str := ["a", "b"]
theorem sc_check_budget_bounds : FnScope n_check_budget_bounds p_check_budget_bounds (defScope s_check_budget_bounds) := ⟨rfl, rfl, rfl, by decide +kernel, rfl, by decide +kernel, by decide +kernel⟩

abbrev s_least_false : Stmt := top 33
abbrev n_least_false : List Str := ["s", "q", "a", "b"]
abbrev p_least_false : List Str := ["s", "q", "a", "b"]
theorem sc_least_false : FnScope n_least_false p_least_false (defScope s_least_false) := ⟨rfl, rfl, rfl, by decide +kernel, rfl, by decide +kernel, by decide +kernel⟩

abbrev s_least_failing : Stmt := top 34
abbrev n_least_failing : List Str := ["s", "q", "a", "b", "failing", "recalls", "makes", "low", "high", "f"]
abbrev p_least_failing : List Str := ["s", "q", "a", "b"]
theorem sc_least_failing : FnScope n_least_failing p_least_failing (defScope s_least_failing) := ⟨rfl, rfl, rfl, by decide +kernel, rfl, by decide +kernel, by decide +kernel⟩

abbrev s_fails_at : Stmt := top 35
abbrev n_fails_at : List Str := ["m", "q", "f", "low", "high", "asked", "more"]
abbrev p_fails_at : List Str := ["m", "q", "f", "low", "high"]
theorem sc_fails_at : FnScope n_fails_at p_fails_at (defScope s_fails_at) := ⟨rfl, rfl, rfl, by decide +kernel, rfl, by decide +kernel, by decide +kernel⟩

abbrev s_best_sums : Stmt := top 36
abbrev n_best_sums : List Str := ["gains", "total", "many", "rows", "place", "row", "whole", "best", "part", "rest"]
abbrev p_best_sums : List Str := ["gains", "total", "many"]
theorem sc_best_sums : FnScope n_best_sums p_best_sums (defScope s_best_sums) := ⟨rfl, rfl, rfl, by decide +kernel, rfl, by decide +kernel, by decide +kernel⟩

abbrev s_best_parts : Stmt := top 37
abbrev n_best_parts : List Str := ["gains", "total", "many", "rows", "parts", "place", "best", "part", "rest"]
abbrev p_best_parts : List Str := ["gains", "total", "many"]
theorem sc_best_parts : FnScope n_best_parts p_best_parts (defScope s_best_parts) := ⟨rfl, rfl, rfl, by decide +kernel, rfl, by decide +kernel, by decide +kernel⟩

abbrev s_word_lots : Stmt := top 38
abbrev n_word_lots : List Str := ["m", "d", "q", "a", "b", "w", "f", "many", "gains", "parts", "lots", "used", "due", "at", "gain", "size", "s", "extra", "part"]
abbrev p_word_lots : List Str := ["m", "d", "q", "a", "b", "w"]
theorem sc_word_lots : FnScope n_word_lots p_word_lots (defScope s_word_lots) := ⟨rfl, rfl, rfl, by decide +kernel, rfl, by decide +kernel, by decide +kernel⟩

abbrev s_asks_due : Stmt := top 39
abbrev n_asks_due : List Str := ["d", "f", "w"]
abbrev p_asks_due : List Str := ["d", "f", "w"]
theorem sc_asks_due : FnScope n_asks_due p_asks_due (defScope s_asks_due) := ⟨rfl, rfl, rfl, by decide +kernel, rfl, by decide +kernel, by decide +kernel⟩

abbrev s__law_purse : Stmt := top 41
abbrev n__law_purse : List Str := ["script", "at", "cell", "size", "one"]
abbrev p__law_purse : List Str := ["script", "at"]
theorem sc__law_purse : FnScope n__law_purse p__law_purse (defScope s__law_purse) := ⟨rfl, rfl, rfl, by decide +kernel, rfl, by decide +kernel, by decide +kernel⟩

abbrev s__law_draw : Stmt := top 42
abbrev n__law_draw : List Str := ["purse", "many", "found"]
abbrev p__law_draw : List Str := ["purse", "many"]
theorem sc__law_draw : FnScope n__law_draw p__law_draw (defScope s__law_draw) := ⟨rfl, rfl, rfl, by decide +kernel, rfl, by decide +kernel, by decide +kernel⟩

abbrev s__law_triangle : Stmt := top 43
abbrev n__law_triangle : List Str := ["many", "row", "turn", "at"]
abbrev p__law_triangle : List Str := ["many"]
theorem sc__law_triangle : FnScope n__law_triangle p__law_triangle (defScope s__law_triangle) := ⟨rfl, rfl, rfl, by decide +kernel, rfl, by decide +kernel, by decide +kernel⟩

abbrev s__law_price : Stmt := top 44
abbrev n__law_price : List Str := ["a", "b"]
abbrev p__law_price : List Str := ["a", "b"]
theorem sc__law_price : FnScope n__law_price p__law_price (defScope s__law_price) := ⟨rfl, rfl, rfl, by decide +kernel, rfl, by decide +kernel, by decide +kernel⟩

abbrev s__law_is_whole : Stmt := top 45
abbrev n__law_is_whole : List Str := ["value"]
abbrev p__law_is_whole : List Str := ["value"]
theorem sc__law_is_whole : FnScope n__law_is_whole p__law_is_whole (defScope s__law_is_whole) := ⟨rfl, rfl, rfl, by decide +kernel, rfl, by decide +kernel, by decide +kernel⟩

abbrev s__law_own_bad : Stmt := top 46
abbrev n__law_own_bad : List Str := ["table", "d", "q", "f", "a", "b", "asked", "big", "small", "by_recall", "by_make"]
abbrev p__law_own_bad : List Str := ["table", "d", "q", "f", "a", "b"]
theorem sc__law_own_bad : FnScope n__law_own_bad p__law_own_bad (defScope s__law_own_bad) := ⟨rfl, rfl, rfl, by decide +kernel, rfl, by decide +kernel, by decide +kernel⟩

abbrev s__law_own_table : Stmt := top 47
abbrev n__law_own_table : List Str := ["d", "q", "most", "a", "b", "table", "recalls", "makes", "f"]
abbrev p__law_own_table : List Str := ["d", "q", "most", "a", "b"]
theorem sc__law_own_table : FnScope n__law_own_table p__law_own_table (defScope s__law_own_table) := ⟨rfl, rfl, rfl, by decide +kernel, rfl, by decide +kernel, by decide +kernel⟩

abbrev s__law_own_edge : Stmt := top 48
abbrev n__law_own_edge : List Str := ["table", "most", "a", "b", "f"]
abbrev p__law_own_edge : List Str := ["table", "most", "a", "b"]
theorem sc__law_own_edge : FnScope n__law_own_edge p__law_own_edge (defScope s__law_own_edge) := ⟨rfl, rfl, rfl, by decide +kernel, rfl, by decide +kernel, by decide +kernel⟩

abbrev s__law_most_kept : Stmt := top 49
abbrev n__law_most_kept : List Str := ["d", "q", "a", "b", "most", "told", "many", "f", "one"]
abbrev p__law_most_kept : List Str := ["d", "q", "a", "b", "most"]
theorem sc__law_most_kept : FnScope n__law_most_kept p__law_most_kept (defScope s__law_most_kept) := ⟨rfl, rfl, rfl, by decide +kernel, rfl, by decide +kernel, by decide +kernel⟩

abbrev s__law_rising : Stmt := top 50
abbrev n__law_rising : List Str := ["d", "a", "b", "edge", "before", "q", "most", "table", "due"]
abbrev p__law_rising : List Str := ["d", "a", "b"]
theorem sc__law_rising : FnScope n__law_rising p__law_rising (defScope s__law_rising) := ⟨rfl, rfl, rfl, by decide +kernel, rfl, by decide +kernel, by decide +kernel⟩

abbrev s__law_all_asked : Stmt := top 51
abbrev n__law_all_asked : List Str := ["d", "f", "q", "recalls"]
abbrev p__law_all_asked : List Str := ["d", "f"]
theorem sc__law_all_asked : FnScope n__law_all_asked p__law_all_asked (defScope s__law_all_asked) := ⟨rfl, rfl, rfl, by decide +kernel, rfl, by decide +kernel, by decide +kernel⟩

abbrev s__law_asks_with_words : Stmt := top 52
abbrev n__law_asks_with_words : List Str := ["d", "f", "w", "due", "q", "told"]
abbrev p__law_asks_with_words : List Str := ["d", "f", "w"]
theorem sc__law_asks_with_words : FnScope n__law_asks_with_words p__law_asks_with_words (defScope s__law_asks_with_words) := ⟨rfl, rfl, rfl, by decide +kernel, rfl, by decide +kernel, by decide +kernel⟩

abbrev s_law : Stmt := top 53
abbrev n_law : List Str := ["script", "purse", "budgets", "a", "b", "d", "turn", "w", "f", "c"]
abbrev p_law : List Str := ["script"]
theorem sc_law : FnScope n_law p_law (defScope s_law) := ⟨rfl, rfl, rfl, by decide +kernel, rfl, by decide +kernel, by decide +kernel⟩

structure Env (K : PySem.W.Frag) (mg : Str → Option Value) where
  f_binomial : Addr
  d_binomial : FuncData
  F_binomial : Fun K "binomial" "binomial" s_binomial f_binomial d_binomial
  m_binomial : mg "binomial" = some (.ref f_binomial)
  f_price_number : Addr
  d_price_number : FuncData
  F_price_number : Fun K "price_number" "price_number" s_price_number f_price_number d_price_number
  m_price_number : mg "price_number" = some (.ref f_price_number)
  f_check_budgets : Addr
  d_check_budgets : FuncData
  F_check_budgets : Fun K "check_budgets" "check_budgets" s_check_budgets f_check_budgets d_check_budgets
  m_check_budgets : mg "check_budgets" = some (.ref f_check_budgets)
  f_check_numbers : Addr
  d_check_numbers : FuncData
  F_check_numbers : Fun K "check_numbers" "check_numbers" s_check_numbers f_check_numbers d_check_numbers
  m_check_numbers : mg "check_numbers" = some (.ref f_check_numbers)
  f_check_least : Addr
  d_check_least : FuncData
  F_check_least : Fun K "check_least" "check_least" s_check_least f_check_least d_check_least
  m_check_least : mg "check_least" = some (.ref f_check_least)
  f_most_false : Addr
  d_most_false : FuncData
  F_most_false : Fun K "most_false" "most_false" s_most_false f_most_false d_most_false
  m_most_false : mg "most_false" = some (.ref f_most_false)
  f_is_whole : Addr
  d_is_whole : FuncData
  F_is_whole : Fun K "is_whole" "is_whole" s_is_whole f_is_whole d_is_whole
  m_is_whole : mg "is_whole" = some (.ref f_is_whole)
  f_check_at_most : Addr
  d_check_at_most : FuncData
  F_check_at_most : Fun K "check_at_most" "check_at_most" s_check_at_most f_check_at_most d_check_at_most
  m_check_at_most : mg "check_at_most" = some (.ref f_check_at_most)
  f_failing_parting : Addr
  d_failing_parting : FuncData
  F_failing_parting : Fun K "failing_parting" "failing_parting" s_failing_parting f_failing_parting d_failing_parting
  m_failing_parting : mg "failing_parting" = some (.ref f_failing_parting)
  f_is_kept : Addr
  d_is_kept : FuncData
  F_is_kept : Fun K "is_kept" "is_kept" s_is_kept f_is_kept d_is_kept
  m_is_kept : mg "is_kept" = some (.ref f_is_kept)
  f_check_asked : Addr
  d_check_asked : FuncData
  F_check_asked : Fun K "check_asked" "check_asked" s_check_asked f_check_asked d_check_asked
  m_check_asked : mg "check_asked" = some (.ref f_check_asked)
  f_kept_asked : Addr
  d_kept_asked : FuncData
  F_kept_asked : Fun K "kept_asked" "kept_asked" s_kept_asked f_kept_asked d_kept_asked
  m_kept_asked : mg "kept_asked" = some (.ref f_kept_asked)
  f_makes_asked : Addr
  d_makes_asked : FuncData
  F_makes_asked : Fun K "makes_asked" "makes_asked" s_makes_asked f_makes_asked d_makes_asked
  m_makes_asked : mg "makes_asked" = some (.ref f_makes_asked)
  f_recalls_asked : Addr
  d_recalls_asked : FuncData
  F_recalls_asked : Fun K "recalls_asked" "recalls_asked" s_recalls_asked f_recalls_asked d_recalls_asked
  m_recalls_asked : mg "recalls_asked" = some (.ref f_recalls_asked)
  f_check_budget_bounds : Addr
  d_check_budget_bounds : FuncData
  F_check_budget_bounds : Fun K "check_budget_bounds" "check_budget_bounds" s_check_budget_bounds f_check_budget_bounds d_check_budget_bounds
  m_check_budget_bounds : mg "check_budget_bounds" = some (.ref f_check_budget_bounds)
  f_least_false : Addr
  d_least_false : FuncData
  F_least_false : Fun K "least_false" "least_false" s_least_false f_least_false d_least_false
  m_least_false : mg "least_false" = some (.ref f_least_false)
  f_least_failing : Addr
  d_least_failing : FuncData
  F_least_failing : Fun K "least_failing" "least_failing" s_least_failing f_least_failing d_least_failing
  m_least_failing : mg "least_failing" = some (.ref f_least_failing)
  f_fails_at : Addr
  d_fails_at : FuncData
  F_fails_at : Fun K "fails_at" "fails_at" s_fails_at f_fails_at d_fails_at
  m_fails_at : mg "fails_at" = some (.ref f_fails_at)
  f_best_sums : Addr
  d_best_sums : FuncData
  F_best_sums : Fun K "best_sums" "best_sums" s_best_sums f_best_sums d_best_sums
  m_best_sums : mg "best_sums" = some (.ref f_best_sums)
  f_best_parts : Addr
  d_best_parts : FuncData
  F_best_parts : Fun K "best_parts" "best_parts" s_best_parts f_best_parts d_best_parts
  m_best_parts : mg "best_parts" = some (.ref f_best_parts)
  f_word_lots : Addr
  d_word_lots : FuncData
  F_word_lots : Fun K "word_lots" "word_lots" s_word_lots f_word_lots d_word_lots
  m_word_lots : mg "word_lots" = some (.ref f_word_lots)
  f_asks_due : Addr
  d_asks_due : FuncData
  F_asks_due : Fun K "asks_due" "asks_due" s_asks_due f_asks_due d_asks_due
  m_asks_due : mg "asks_due" = some (.ref f_asks_due)
  f__law_purse : Addr
  d__law_purse : FuncData
  F__law_purse : Fun K "_law_purse" "_law_purse" s__law_purse f__law_purse d__law_purse
  m__law_purse : mg "_law_purse" = some (.ref f__law_purse)
  f__law_draw : Addr
  d__law_draw : FuncData
  F__law_draw : Fun K "_law_draw" "_law_draw" s__law_draw f__law_draw d__law_draw
  m__law_draw : mg "_law_draw" = some (.ref f__law_draw)
  f__law_triangle : Addr
  d__law_triangle : FuncData
  F__law_triangle : Fun K "_law_triangle" "_law_triangle" s__law_triangle f__law_triangle d__law_triangle
  m__law_triangle : mg "_law_triangle" = some (.ref f__law_triangle)
  f__law_price : Addr
  d__law_price : FuncData
  F__law_price : Fun K "_law_price" "_law_price" s__law_price f__law_price d__law_price
  m__law_price : mg "_law_price" = some (.ref f__law_price)
  f__law_is_whole : Addr
  d__law_is_whole : FuncData
  F__law_is_whole : Fun K "_law_is_whole" "_law_is_whole" s__law_is_whole f__law_is_whole d__law_is_whole
  m__law_is_whole : mg "_law_is_whole" = some (.ref f__law_is_whole)
  f__law_own_bad : Addr
  d__law_own_bad : FuncData
  F__law_own_bad : Fun K "_law_own_bad" "_law_own_bad" s__law_own_bad f__law_own_bad d__law_own_bad
  m__law_own_bad : mg "_law_own_bad" = some (.ref f__law_own_bad)
  f__law_own_table : Addr
  d__law_own_table : FuncData
  F__law_own_table : Fun K "_law_own_table" "_law_own_table" s__law_own_table f__law_own_table d__law_own_table
  m__law_own_table : mg "_law_own_table" = some (.ref f__law_own_table)
  f__law_own_edge : Addr
  d__law_own_edge : FuncData
  F__law_own_edge : Fun K "_law_own_edge" "_law_own_edge" s__law_own_edge f__law_own_edge d__law_own_edge
  m__law_own_edge : mg "_law_own_edge" = some (.ref f__law_own_edge)
  f__law_most_kept : Addr
  d__law_most_kept : FuncData
  F__law_most_kept : Fun K "_law_most_kept" "_law_most_kept" s__law_most_kept f__law_most_kept d__law_most_kept
  m__law_most_kept : mg "_law_most_kept" = some (.ref f__law_most_kept)
  f__law_rising : Addr
  d__law_rising : FuncData
  F__law_rising : Fun K "_law_rising" "_law_rising" s__law_rising f__law_rising d__law_rising
  m__law_rising : mg "_law_rising" = some (.ref f__law_rising)
  f__law_all_asked : Addr
  d__law_all_asked : FuncData
  F__law_all_asked : Fun K "_law_all_asked" "_law_all_asked" s__law_all_asked f__law_all_asked d__law_all_asked
  m__law_all_asked : mg "_law_all_asked" = some (.ref f__law_all_asked)
  f__law_asks_with_words : Addr
  d__law_asks_with_words : FuncData
  F__law_asks_with_words : Fun K "_law_asks_with_words" "_law_asks_with_words" s__law_asks_with_words f__law_asks_with_words d__law_asks_with_words
  m__law_asks_with_words : mg "_law_asks_with_words" = some (.ref f__law_asks_with_words)
  f_law : Addr
  d_law : FuncData
  F_law : Fun K "law" "law" s_law f_law d_law
  m_law : mg "law" = some (.ref f_law)
  z_abs : mg "abs" = none
  z_bool : mg "bool" = none
  z_int : mg "int" = none
  z_isinstance : mg "isinstance" = none
  z_len : mg "len" = none
  z_list : mg "list" = none
  z_max : mg "max" = none
  z_min : mg "min" = none
  z_range : mg "range" = none
  z_sum : mg "sum" = none
  t_MOST_BUDGET_prices : Tok
  c_MOST_BUDGET_prices : mg "MOST_BUDGET_prices" = some (.int 30 t_MOST_BUDGET_prices)
  t_MOST_NUMBER_prices : Tok
  c_MOST_NUMBER_prices : mg "MOST_NUMBER_prices" = some (.int 1000000000000000000000000000000 t_MOST_NUMBER_prices)
  t_MOST_BUDGET_asktables : Tok
  c_MOST_BUDGET_asktables : mg "MOST_BUDGET_asktables" = some (.int 6 t_MOST_BUDGET_asktables)
  t_MOST_ASKS_asktables : Tok
  c_MOST_ASKS_asktables : mg "MOST_ASKS_asktables" = some (.int 60 t_MOST_ASKS_asktables)
  t_MOST_NUMBER_asktables : Tok
  c_MOST_NUMBER_asktables : mg "MOST_NUMBER_asktables" = some (.int 1000000000000000000000000000000 t_MOST_NUMBER_asktables)
  t_MOST_HELPERS : Tok
  c_MOST_HELPERS : mg "MOST_HELPERS" = some (.int 40 t_MOST_HELPERS)
  t_MOST_BUDGET_askwords : Tok
  c_MOST_BUDGET_askwords : mg "MOST_BUDGET_askwords" = some (.int 6 t_MOST_BUDGET_askwords)
  t_MOST_WORDS : Tok
  c_MOST_WORDS : mg "MOST_WORDS" = some (.int 8 t_MOST_WORDS)
  t_MOST_ASKS_askwords : Tok
  c_MOST_ASKS_askwords : mg "MOST_ASKS_askwords" = some (.int 60 t_MOST_ASKS_askwords)
section
variable {K : PySem.W.Frag} {mg : Str → Option Value}
theorem b_binomial (T : Env K mg) : Binds K T.d_binomial p_binomial [] := T.F_binomial.binds fun _ _ _ _ _ _ us hl => match us, hl with | [_, _], _ => rfl
theorem b_price_number (T : Env K mg) : Binds K T.d_price_number p_price_number [] := T.F_price_number.binds fun _ _ _ _ _ _ us hl => match us, hl with | [_, _], _ => rfl
theorem b_check_budgets (T : Env K mg) : Binds K T.d_check_budgets p_check_budgets [] := T.F_check_budgets.binds fun _ _ _ _ _ _ us hl => match us, hl with | [_, _], _ => rfl
theorem b_check_numbers (T : Env K mg) : Binds K T.d_check_numbers p_check_numbers [] := T.F_check_numbers.binds fun _ _ _ _ _ _ us hl => match us, hl with | [_], _ => rfl
theorem b_check_least (T : Env K mg) : Binds K T.d_check_least p_check_least [] := T.F_check_least.binds fun _ _ _ _ _ _ us hl => match us, hl with | [_, _], _ => rfl
theorem b_most_false (T : Env K mg) : Binds K T.d_most_false p_most_false [] := T.F_most_false.binds fun _ _ _ _ _ _ us hl => match us, hl with | [_, _, _, _], _ => rfl
theorem b_is_whole (T : Env K mg) : Binds K T.d_is_whole p_is_whole [] := T.F_is_whole.binds fun _ _ _ _ _ _ us hl => match us, hl with | [_], _ => rfl
theorem b_check_at_most (T : Env K mg) : Binds K T.d_check_at_most p_check_at_most [] := T.F_check_at_most.binds fun _ _ _ _ _ _ us hl => match us, hl with | [_, _, _], _ => rfl
theorem b_failing_parting (T : Env K mg) : Binds K T.d_failing_parting p_failing_parting [] := T.F_failing_parting.binds fun _ _ _ _ _ _ us hl => match us, hl with | [_, _, _, _, _, _], _ => rfl
theorem b_is_kept (T : Env K mg) : Binds K T.d_is_kept p_is_kept [] := T.F_is_kept.binds fun _ _ _ _ _ _ us hl => match us, hl with | [_, _, _, _, _, _], _ => rfl
theorem b_check_asked (T : Env K mg) : Binds K T.d_check_asked p_check_asked [] := T.F_check_asked.binds fun _ _ _ _ _ _ us hl => match us, hl with | [_, _, _, _, _], _ => rfl
theorem b_kept_asked (T : Env K mg) : Binds K T.d_kept_asked p_kept_asked [] := T.F_kept_asked.binds fun _ _ _ _ _ _ us hl => match us, hl with | [_, _, _, _, _], _ => rfl
theorem b_makes_asked (T : Env K mg) : Binds K T.d_makes_asked p_makes_asked [] := T.F_makes_asked.binds fun _ _ _ _ _ _ us hl => match us, hl with | [_, _, _], _ => rfl
theorem b_recalls_asked (T : Env K mg) : Binds K T.d_recalls_asked p_recalls_asked [] := T.F_recalls_asked.binds fun _ _ _ _ _ _ us hl => match us, hl with | [_, _, _], _ => rfl
theorem b_check_budget_bounds (T : Env K mg) : Binds K T.d_check_budget_bounds p_check_budget_bounds [] := T.F_check_budget_bounds.binds fun _ _ _ _ _ _ us hl => match us, hl with | [_, _], _ => rfl
theorem b_least_false (T : Env K mg) : Binds K T.d_least_false p_least_false [] := T.F_least_false.binds fun _ _ _ _ _ _ us hl => match us, hl with | [_, _, _, _], _ => rfl
theorem b_least_failing (T : Env K mg) : Binds K T.d_least_failing p_least_failing [] := T.F_least_failing.binds fun _ _ _ _ _ _ us hl => match us, hl with | [_, _, _, _], _ => rfl
theorem b_fails_at (T : Env K mg) : Binds K T.d_fails_at p_fails_at [] := T.F_fails_at.binds fun _ _ _ _ _ _ us hl => match us, hl with | [_, _, _, _, _], _ => rfl
theorem b_best_sums (T : Env K mg) : Binds K T.d_best_sums p_best_sums [] := T.F_best_sums.binds fun _ _ _ _ _ _ us hl => match us, hl with | [_, _, _], _ => rfl
theorem b_best_parts (T : Env K mg) : Binds K T.d_best_parts p_best_parts [] := T.F_best_parts.binds fun _ _ _ _ _ _ us hl => match us, hl with | [_, _, _], _ => rfl
theorem b_word_lots (T : Env K mg) : Binds K T.d_word_lots p_word_lots [] := T.F_word_lots.binds fun _ _ _ _ _ _ us hl => match us, hl with | [_, _, _, _, _, _], _ => rfl
theorem b_asks_due (T : Env K mg) : Binds K T.d_asks_due p_asks_due [] := T.F_asks_due.binds fun _ _ _ _ _ _ us hl => match us, hl with | [_, _, _], _ => rfl
theorem b__law_purse (T : Env K mg) : Binds K T.d__law_purse p__law_purse [] := T.F__law_purse.binds fun _ _ _ _ _ _ us hl => match us, hl with | [_, _], _ => rfl
theorem b__law_draw (T : Env K mg) : Binds K T.d__law_draw p__law_draw [] := T.F__law_draw.binds fun _ _ _ _ _ _ us hl => match us, hl with | [_, _], _ => rfl
theorem b__law_triangle (T : Env K mg) : Binds K T.d__law_triangle p__law_triangle [] := T.F__law_triangle.binds fun _ _ _ _ _ _ us hl => match us, hl with | [_], _ => rfl
theorem b__law_price (T : Env K mg) : Binds K T.d__law_price p__law_price [] := T.F__law_price.binds fun _ _ _ _ _ _ us hl => match us, hl with | [_, _], _ => rfl
theorem b__law_is_whole (T : Env K mg) : Binds K T.d__law_is_whole p__law_is_whole [] := T.F__law_is_whole.binds fun _ _ _ _ _ _ us hl => match us, hl with | [_], _ => rfl
theorem b__law_own_bad (T : Env K mg) : Binds K T.d__law_own_bad p__law_own_bad [] := T.F__law_own_bad.binds fun _ _ _ _ _ _ us hl => match us, hl with | [_, _, _, _, _, _], _ => rfl
theorem b__law_own_table (T : Env K mg) : Binds K T.d__law_own_table p__law_own_table [] := T.F__law_own_table.binds fun _ _ _ _ _ _ us hl => match us, hl with | [_, _, _, _, _], _ => rfl
theorem b__law_own_edge (T : Env K mg) : Binds K T.d__law_own_edge p__law_own_edge [] := T.F__law_own_edge.binds fun _ _ _ _ _ _ us hl => match us, hl with | [_, _, _, _], _ => rfl
theorem b__law_most_kept (T : Env K mg) : Binds K T.d__law_most_kept p__law_most_kept [] := T.F__law_most_kept.binds fun _ _ _ _ _ _ us hl => match us, hl with | [_, _, _, _, _], _ => rfl
theorem b__law_rising (T : Env K mg) : Binds K T.d__law_rising p__law_rising [] := T.F__law_rising.binds fun _ _ _ _ _ _ us hl => match us, hl with | [_, _, _], _ => rfl
theorem b__law_all_asked (T : Env K mg) : Binds K T.d__law_all_asked p__law_all_asked [] := T.F__law_all_asked.binds fun _ _ _ _ _ _ us hl => match us, hl with | [_, _], _ => rfl
theorem b__law_asks_with_words (T : Env K mg) : Binds K T.d__law_asks_with_words p__law_asks_with_words [] := T.F__law_asks_with_words.binds fun _ _ _ _ _ _ us hl => match us, hl with | [_, _, _], _ => rfl
theorem b_law (T : Env K mg) : Binds K T.d_law p_law [] := T.F_law.binds fun _ _ _ _ _ _ us hl => match us, hl with | [_], _ => rfl
end

end P84

/-! C84 -/
namespace P84
open PySem L2 Evl
/-! ### common words: pure values (the heap as it stands) -/
theorem same_new {H : Hp} {p : Addr} (h : H p = none) (o : HO) : Same H (upd H p o) := fun b u q => by rw [upd_ne (ne_of_none q h)]; exact q
def rGetL (K : PySem.W.Frag) : V → V → Hp → VK → Prop := fun x y H Q => ∃ (p : Addr) (xs : List V) (i : Nat) (v : V), x = .ref p ∧ y = .int (i : Int) ∧ SqL K H p xs ∧ xs[i]? = some v ∧ Q v H
theorem get_list {X : Cx} : PGet X (rGetL X.K) := by
  intro pins s σ H x y v u Q I rx ry h
  obtain ⟨p, xs, i, z, rfl, rfl, hq, he, q⟩ := h
  cases rx
  obtain ⟨t, rfl⟩ := ry
  obtain ⟨its, r, pl, hz⟩ := I.list hq
  obtain ⟨w, ew, rw'⟩ := r.get he
  have hl := r.length
  have hn := line63
  have hi : i < its.length := (List.getElem?_eq_some_iff.mp ew).1
  have hz' : xs.length ≤ sizeLine := by first | exact hz | (rw [hl]; exact hz) | (simpa using hz)
  refine PyProof.Rows.getItem_listL pl.isList (by omega) (by omega) (x := w) (by simpa using ew) ?_
  exact ⟨z, H, I, rw', q⟩
section
variable {K : PySem.W.Frag} {σ : L2.St} {H : Hp} {ta tb te : TE} {t u : TT} {x y z v : V} {r : R2} {D : Ends} {tz tu tw : TS}
theorem w_op (ha : Val ta σ H x) (hb : Val tb σ H y) (hr : ∀ Q : VK, Q z H → r x y H Q) : Val (tOp r ta tb) σ H z := val_op ha hb hr
theorem w_I0 {g : Int → Int → V} {i j : Int} : ∀ Q : VK, Q (g i j) H → rI0 g (.int i) (.int j) H Q := fun Q q => ⟨i, j, rfl, rfl, q⟩
theorem w_I {C : Int → Int → Prop} {g : Int → Int → V} {i j : Int} (c : C i j) : ∀ Q : VK, Q (g i j) H → rI C g (.int i) (.int j) H Q := fun Q q => ⟨i, j, rfl, rfl, c, q⟩
theorem w_eq (h : scal x y = true) : ∀ Q : VK, Q (.bl (decide (x = y))) H → rEq x y H Q := fun Q q => ⟨h, q⟩
theorem w_ne (h : scal x y = true) : ∀ Q : VK, Q (.bl (!decide (x = y))) H → rNe x y H Q := fun Q q => ⟨h, q⟩
theorem w_isN : Val ta σ H x → Val (tOp rIsN ta (tC .non)) σ H (.bl (decide (x = .non))) := fun h => val_op h val_c fun Q q => ⟨rfl, q⟩
theorem w_notN : Val ta σ H x → Val (tOp rNotN ta (tC .non)) σ H (.bl (!decide (x = .non))) := fun h => val_op h val_c fun Q q => ⟨rfl, q⟩
theorem dint {i j : Int} : decide ((V.int i) = V.int j) = decide (i = j) := by
  by_cases h : i = j
  · subst h; simp
  · have : ¬ (V.int i = V.int j) := fun e => h (V.int.inj e)
    rw [decide_eq_false this, decide_eq_false h]
theorem w_cmp {p : Int → Int → Bool} {i j : Int} (ha : Val ta σ H (.int i)) (hb : Val tb σ H (.int j)) : Ans (tTest (tOp (rI0 fun i j => .bl (p i j)) ta tb)) σ H (p i j) := fun Q q => ha _ (hb _ ⟨i, j, rfl, rfl, _, rfl, q⟩)
theorem w_cmpV {p : Int → Int → Bool} {i j : Int} (ha : Val ta σ H (.int i)) (hb : Val tb σ H (.int j)) : Val (tOp (rI0 fun i j => .bl (p i j)) ta tb) σ H (.bl (p i j)) := fun Q q => ha _ (hb _ ⟨i, j, rfl, rfl, q⟩)
theorem w_ar {f : Int → Int → Int} {i j : Int} (ha : Val ta σ H (.int i)) (hb : Val tb σ H (.int j)) : Val (tOp (rI0 fun i j => .int (f i j)) ta tb) σ H (.int (f i j)) := fun Q q => ha _ (hb _ ⟨i, j, rfl, rfl, q⟩)
theorem w_arC {C : Int → Int → Prop} {f : Int → Int → Int} {i j : Int} (ha : Val ta σ H (.int i)) (hb : Val tb σ H (.int j)) (c : C i j) : Val (tOp (rI C fun i j => .int (f i j)) ta tb) σ H (.int (f i j)) := fun Q q => ha _ (hb _ ⟨i, j, rfl, rfl, c, q⟩)
theorem w_eqI {i j : Int} (ha : Val ta σ H (.int i)) (hb : Val tb σ H (.int j)) : Ans (tTest (tOp rEq ta tb)) σ H (decide (i = j)) := fun Q q => ha _ (hb _ ⟨rfl, _, rfl, by rw [dint]; exact q⟩)
theorem w_neI {i j : Int} (ha : Val ta σ H (.int i)) (hb : Val tb σ H (.int j)) : Ans (tTest (tOp rNe ta tb)) σ H (!decide (i = j)) := fun Q q => ha _ (hb _ ⟨rfl, _, rfl, by rw [dint]; exact q⟩)
theorem w_eqIV {i j : Int} (ha : Val ta σ H (.int i)) (hb : Val tb σ H (.int j)) : Val (tOp rEq ta tb) σ H (.bl (decide (i = j))) := fun Q q => ha _ (hb _ ⟨rfl, by rw [dint]; exact q⟩)
theorem w_neIV {i j : Int} (ha : Val ta σ H (.int i)) (hb : Val tb σ H (.int j)) : Val (tOp rNe ta tb) σ H (.bl (!decide (i = j))) := fun Q q => ha _ (hb _ ⟨rfl, by rw [dint]; exact q⟩)
theorem w_t {b : Bool} (h : Val te σ H (.bl b)) : Ans (tTest te) σ H b := fun Q q => h _ ⟨b, rfl, q⟩
theorem w_B {b : Bool} (h : Val te σ H (.bl b)) : Ans (tB te) σ H b := fun Q q => h _ ⟨b, rfl, q⟩
theorem w_and {a b : Bool} (h1 : Ans t σ H a) (h2 : a = true → Ans u σ H b) : Ans (tAnd t u) σ H (a && b) := fun Q q => h1 _ (by
  cases a with
  | true => exact h2 rfl Q q
  | false => exact q)
theorem w_or {a b : Bool} (h1 : Ans t σ H a) (h2 : a = false → Ans u σ H b) : Ans (tOr t u) σ H (a || b) := fun Q q => h1 _ (by
  cases a with
  | true => exact q
  | false => exact h2 rfl Q q)
theorem w_not {a : Bool} (h1 : Ans t σ H a) : Ans (tNot t) σ H (!a) := ans_not h1
theorem w_andV {a b : Bool} (h1 : Val ta σ H (.bl a)) (h2 : a = true → Val tb σ H (.bl b)) : Val (tAndV ta tb) σ H (.bl (a && b)) := fun Q q => h1 _ ⟨a, rfl, by
  cases a with
  | true => exact h2 rfl Q q
  | false => exact q⟩
theorem w_orV {a b : Bool} (h1 : Val ta σ H (.bl a)) (h2 : a = false → Val tb σ H (.bl b)) : Val (tOrV ta tb) σ H (.bl (a || b)) := fun Q q => h1 _ ⟨a, rfl, by
  cases a with
  | true => exact q
  | false => exact h2 rfl Q q⟩
theorem w_notV {a : Bool} (h1 : Val ta σ H (.bl a)) : Val (tNotV ta) σ H (.bl (!a)) := fun Q q => h1 _ ⟨a, rfl, q⟩
theorem w_ite {b : Bool} (h : Ans t σ H b) (h1 : b = true → Val ta σ H x) (h2 : b = false → Val tb σ H y) : Val (tIf t ta tb) σ H (if b then x else y) := fun Q q => h _ (by
  cases b with
  | true => exact h1 rfl Q q
  | false => exact h2 rfl Q q)
theorem w_is {v w : V} (h : Val te σ H v) (e : v = w) : Val te σ H w := by rw [← e]; exact h
theorem w_tis {a b : Bool} (h : Ans t σ H a) (e : a = b) : Ans t σ H b := by rw [← e]; exact h
def rMin2 : List V → Hp → VK → Prop := fun xs H Q => ∃ i j, xs = [.int i, .int j] ∧ Q (.int (if j < i then j else i)) H
theorem w_min {i j : Int} (ha : Val ta σ H (.int i)) (hb : Val tb σ H (.int j)) : Val (tCB rMin2 (tCons ta (tCons tb tNil))) σ H (.int (min i j)) := fun Q q =>
  ha _ (hb _ ⟨i, j, rfl, by
    have e : (if j < i then j else i) = min i j := by split <;> omega
    rw [e]; exact q⟩)
theorem w_max {i j : Int} (ha : Val ta σ H (.int i)) (hb : Val tb σ H (.int j)) : Val (tCB Evl.rMax2 (tCons ta (tCons tb tNil))) σ H (.int (max i j)) := fun Q q =>
  ha _ (hb _ ⟨i, j, rfl, by
    have e : (if j > i then j else i) = max i j := by split <;> omega
    rw [e]; exact q⟩)
def rInt1 : List V → Hp → VK → Prop := fun xs H Q => (∃ i, xs = [.int i] ∧ Q (.int i) H) ∨ ∃ k, xs = [.bl k] ∧ Q (.int (if k then 1 else 0)) H
theorem w_int {i : Int} (ha : Val ta σ H (.int i)) : Val (tCB rInt1 (tCons ta tNil)) σ H (.int i) := fun Q q => ha _ (Or.inl ⟨i, rfl, q⟩)
def rAbs1 : List V → Hp → VK → Prop := fun xs H Q => ∃ i, xs = [.int i] ∧ Q (.int (if i < 0 then -i else i)) H
theorem w_abs {i : Int} (ha : Val ta σ H (.int i)) : Val (tCB rAbs1 (tCons ta tNil)) σ H (.int (if i < 0 then -i else i)) := fun Q q => ha _ ⟨i, rfl, q⟩
theorem w_len {p : Addr} {xs : List V} (ha : Val ta σ H (.ref p)) (h : SqL K H p xs) : Val (tCB (Evl.rLenS K) (tCons ta tNil)) σ H (.int (xs.length : Int)) := fun Q q => ha _ ⟨p, xs, rfl, Or.inl h, q⟩
theorem w_sum {p : Addr} {ns : List Int} (ha : Val ta σ H (.ref p)) (h : SqL K H p (ns.map V.int)) : Val (tCB (rSum K) (tCons ta tNil)) σ H (.int ns.sum) := fun Q q => ha _ ⟨p, ns, rfl, h, q⟩
theorem w_ixL {p : Addr} {xs : List V} {i : Int} (ha : Val ta σ H (.ref p)) (hb : Val tb σ H (.int i)) (h : SqL K H p xs) (hi : atI xs i = some v) : Val (tOp (rIxL K) ta tb) σ H v := fun Q q => ha _ (hb _ ⟨p, xs, i, v, rfl, rfl, h, hi, q⟩)
theorem w_ixT {p : Addr} {xs : List V} {i : Int} (ha : Val ta σ H (.ref p)) (hb : Val tb σ H (.int i)) (h : SqT K H p xs) (hi : atI xs i = some v) : Val (tOp (rIxT K) ta tb) σ H v := fun Q q => ha _ (hb _ ⟨p, xs, i, v, rfl, rfl, h, hi, q⟩)
/-! statements -/
theorem v_asg {i : Nat} (h : Val te σ H v) (q : tz D (σ.set i (some v)) H) : tSeq (tAsg te (gName i)) tz D σ H := h _ q
theorem v_asg1 {i : Nat} (h : Val te σ H v) (q : D.nx (σ.set i (some v)) H) : tAsg te (gName i) D σ H := h _ q
theorem v_when {b : Bool} (h : Ans t σ H b) (h1 : b = true → tu { D with nx := tz D } σ H) (h2 : b = false → tz D σ H) : tSeq (tIfS t tu tNext) tz D σ H := h _ (by
  cases b with
  | true => exact h1 rfl
  | false => exact h2 rfl)
theorem v_when1 {b : Bool} (h : Ans t σ H b) (h1 : b = true → tu D σ H) (h2 : b = false → D.nx σ H) : tIfS t tu tNext D σ H := h _ (by
  cases b with
  | true => exact h1 rfl
  | false => exact h2 rfl)
theorem v_if {b : Bool} (h : Ans t σ H b) (h1 : b = true → tu { D with nx := tz D } σ H) (h2 : b = false → tw { D with nx := tz D } σ H) : tSeq (tIfS t tu tw) tz D σ H := h _ (by
  cases b with
  | true => exact h1 rfl
  | false => exact h2 rfl)
theorem v_ret (h : Val te σ H v) (q : D.rt v H) : tRet te D σ H := h _ q
theorem v_aug {i : Nat} {f : Int → Int → Int} {a b : Int} (hx : σ[i]? = some (some (.int a))) (h : Val te σ H (.int b)) (k : tz D (σ.set i (some (.int (f a b)))) H) : tSeq (tAug i te (ipI f)) tz D σ H := ⟨.int a, hx, h _ ⟨a, b, rfl, rfl, k⟩⟩
theorem v_aug1 {i : Nat} {f : Int → Int → Int} {a b : Int} (hx : σ[i]? = some (some (.int a))) (h : Val te σ H (.int b)) (k : D.nx (σ.set i (some (.int (f a b)))) H) : tAug i te (ipI f) D σ H := ⟨.int a, hx, h _ ⟨a, b, rfl, rfl, k⟩⟩
theorem v_app {l : Addr} {xs : List V} (ha : Val ta σ H (.ref l)) (h : Val te σ H v) (hl : H l = some (.lst xs)) (hz : xs.length < 100000) (k : tz D σ (upd H l (.lst (xs ++ [v])))) :
    tSeq (tDrop (tBM K "list" rAppend ta (tCons te tNil))) tz D σ H := ha _ ⟨Or.inl ⟨rfl, xs, sq_of hl⟩, h _ ⟨l, xs, v, rfl, rfl, hl, sz_lt hz, k⟩⟩
theorem v_app1 {l : Addr} {xs : List V} (ha : Val ta σ H (.ref l)) (h : Val te σ H v) (hl : H l = some (.lst xs)) (hz : xs.length < 100000) (k : D.nx σ (upd H l (.lst (xs ++ [v])))) :
    tDrop (tBM K "list" rAppend ta (tCons te tNil)) D σ H := ha _ ⟨Or.inl ⟨rfl, xs, sq_of hl⟩, h _ ⟨l, xs, v, rfl, rfl, hl, sz_lt hz, k⟩⟩
/-- for over range(n), range(lo, n), their arguments pure -/
theorem v_for1 {j : Nat} {n : Int} (h : Val te σ H (.int n)) (hn : -100000 ≤ n ∧ n ≤ 100000) (Pv : Nat → L2.St → Hp → Prop) (h0 : Pv 0 σ H)
    (hs : ∀ (i : Nat) σ' H', (i : Int) < n → Pv i σ' H' → tu { D with nx := Pv (i + 1), ct := Pv (i + 1), bk := tz D } (σ'.set j (some (.int (i : Int)))) H') (hd : ∀ σ' H', Pv n.toNat σ' H' → tz D σ' H') : tSeq (tFor (iRng1 (tCons te tNil)) (gName j) tu) tz D σ H :=
  h _ ⟨n, rfl, by omega, by omega, for_range (lo := 0) (n := n.toNat) (D := { D with nx := tz D }) Pv h0 (fun i σ' H' hi p => by
      have e0 : (0 : Int) + (i : Int) = (i : Int) := Int.zero_add _
      show tu { D with nx := Pv (i + 1), ct := Pv (i + 1), bk := tz D } (σ'.set j (some (.int ((0 : Int) + (i : Int))))) H'
      rw [e0]
      exact hs i σ' H' (by omega) p) hd⟩
theorem v_for2 {j : Nat} {lo n : Int} (h1 : Val ta σ H (.int lo)) (h2 : Val tb σ H (.int n)) (hn : -100000 ≤ lo ∧ lo ≤ 100000 ∧ -100000 ≤ n ∧ n ≤ 100000) (Pv : Nat → L2.St → Hp → Prop) (h0 : Pv 0 σ H)
    (hs : ∀ (i : Nat) σ' H', lo + (i : Int) < n → Pv i σ' H' → tu { D with nx := Pv (i + 1), ct := Pv (i + 1), bk := tz D } (σ'.set j (some (.int (lo + (i : Int))))) H') (hd : ∀ σ' H', Pv (n - lo).toNat σ' H' → tz D σ' H') : tSeq (tFor (iRng2 (tCons ta (tCons tb tNil))) (gName j) tu) tz D σ H :=
  h1 _ (h2 _ ⟨lo, n, rfl, ⟨by omega, by omega, by omega, by omega⟩, for_range (lo := lo) (n := (n - lo).toNat) (D := { D with nx := tz D }) Pv h0 (fun i σ' H' hi p => hs i σ' H' (by omega) p) hd⟩)
theorem v_forL {a : Addr} {xs : List V} {j : Nat} (h : Val te σ H (.ref a)) (hx : SqL K H a xs) (Pv : Nat → L2.St → Hp → Prop) (h0 : Pv 0 σ H) (hl : ∀ i σ' H', i ≤ xs.length → Pv i σ' H' → SqL K H' a xs)
    (hs : ∀ (i : Nat) x σ' H', xs[i]? = some x → Pv i σ' H' → tu { D with nx := Pv (i + 1), ct := Pv (i + 1), bk := tz D } (σ'.set j (some x)) H') (hd : ∀ σ' H', Pv xs.length σ' H' → tz D σ' H') : tSeq (tFor (iList K te) (gName j) tu) tz D σ H :=
  h _ ⟨a, rfl, ⟨xs, hx⟩, for_list (D := { D with nx := tz D }) Pv h0 hl (fun i x σ' H' hi p => hs i x σ' H' hi p) hd⟩
theorem v_forL1 {a : Addr} {xs : List V} {j : Nat} (h : Val te σ H (.ref a)) (hx : SqL K H a xs) (Pv : Nat → L2.St → Hp → Prop) (h0 : Pv 0 σ H) (hl : ∀ i σ' H', i ≤ xs.length → Pv i σ' H' → SqL K H' a xs)
    (hs : ∀ (i : Nat) x σ' H', xs[i]? = some x → Pv i σ' H' → tu { D with nx := Pv (i + 1), ct := Pv (i + 1), bk := D.nx } (σ'.set j (some x)) H') (hd : ∀ σ' H', Pv xs.length σ' H' → D.nx σ' H') : tFor (iList K te) (gName j) tu D σ H :=
  h _ ⟨a, rfl, ⟨xs, hx⟩, for_list Pv h0 hl (fun i x σ' H' hi p => hs i x σ' H' hi p) hd⟩
/-- while, by a word that falls -/
theorem v_while (W : Nat → L2.St → Hp → Prop) (m0 : Nat) (h0 : W m0 σ H)
    (hs : ∀ m σ' H', W m σ' H' → ∃ b, Ans t σ' H' b ∧ (b = true → ∃ N : L2.St → Hp → Prop, (∀ σ2 H2, N σ2 H2 → ∃ m', m' < m ∧ W m' σ2 H2) ∧ tu { D with nx := N, ct := N, bk := tz D } σ' H') ∧ (b = false → tz D σ' H')) : tSeq (tWhile t tu) tz D σ H :=
  ⟨W, ⟨m0, h0⟩, fun m σ' H' hw => by
    obtain ⟨b, hb, h1, h2⟩ := hs m σ' H' hw
    refine hb _ ?_
    cases b with
    | true => exact h1 rfl
    | false => exact h2 rfl⟩
/-! ### arguments, displays, calls -/
def ValA (ta : TA) (σ : L2.St) (H : Hp) (vs : List V) : Prop := ∀ Q : List V → Hp → Prop, Q vs H → ta σ H Q
theorem wa_nil : ValA tNil σ H [] := fun Q q => q
theorem wa_cons {tr : TA} {vs : List V} (h : Val te σ H v) (hr : ValA tr σ H vs) : ValA (tCons te tr) σ H (v :: vs) := fun Q q => h _ (hr _ q)
theorem w_lst {tr : TA} {vs : List V} {Q : VK} (h : ValA tr σ H vs) (hl : vs.length ≤ 100000) (k : ∀ p, H p = none → Q (.ref p) (upd H p (.lst vs))) : tLst tr σ H Q := h _ ⟨sz_of hl, k⟩
theorem w_tup {tr : TA} {vs : List V} {Q : VK} (h : ValA tr σ H vs) (hl : vs.length ≤ 100000) (k : ∀ p, H p = none → Q (.ref p) (upd H p (.tup vs))) : tTup tr σ H Q := h _ ⟨sz_of hl, k⟩
theorem w_call {tr : TA} {vs : List V} {sp : Sp} {E : XK} {Q : VK} (h : ValA tr σ H vs) (k : sp vs H Q E) : tCall sp [] E tr σ H Q := h _ (by rw [List.append_nil]; exact k)
theorem sq_upd {p : Addr} {xs : List V} : SqL K (upd H p (.lst xs)) p xs := sq_of upd_same
theorem same_mut {H0 : Hp} {p : Addr} {o : HO} (e : Same H0 H) (h : H0 p = none) : Same H0 (upd H p o) := Ex.mut e h
/-! comprehensions over a range, all items taken, the element's value v i -/
theorem given_all (n : Nat) (v : Nat → V) : given n (fun _ => true) v = (List.range n).map v := by
  unfold given
  rw [List.filter_eq_self.mpr (fun _ _ => rfl)]
theorem et_yes : EvT tYes σ H true := fun H1 e Q q => q H1 (Ex.refl H1)
theorem k_lcR1 {j : Nat} {vs : List Nat} {n : Int} {Q : VK} (v : Nat → V) (hn : Val ta σ H (.int n)) (hb : -40000 ≤ n ∧ n ≤ 40000) (hw : ∀ x, wipe ((wipe σ vs).set j (some x)) vs = wipe σ vs)
    (he : ∀ (i : Nat) H1, Same H H1 → (i : Int) < n → ∀ Q : VK, (∀ H2, Same H1 H2 → Q (v i) H2) → te ((wipe σ vs).set j (some (.int (i : Int)))) H1 Q)
    (k : ∀ p H1, H p = none → Same H H1 → H1 p = some (.lst ((List.range n.toNat).map v)) → Q (.ref p) H1) : tLc (iRng1 (tCons ta tNil)) (gName j) tYes te vs σ H Q :=
  hn _ ⟨n, rfl, by omega, by omega, fun Dl hD =>
  lc_range (lo := 0) (n := n.toNat) (Cw H (fun _ => true) v Dl) ⟨hD, Ex.new hD, upd_same⟩ (fun i H' hi p => by
    have e0 : (0 : Int) + (i : Int) = (i : Int) := Int.zero_add _
    show wipe ((wipe σ vs).set j (some (.int ((0 : Int) + (i : Int))))) vs = wipe σ vs ∧ tYes ((wipe σ vs).set j (some (.int ((0 : Int) + (i : Int))))) H' fun b H3 => if b = true then te ((wipe σ vs).set j (some (.int ((0 : Int) + (i : Int))))) H3 fun y H4 => ∃ acc, H4 Dl = some (.lst acc) ∧ acc.length < sizeLine ∧ Cw H (fun _ => true) v Dl (i + 1) (upd H4 Dl (.lst (acc ++ [y]))) else Cw H (fun _ => true) v Dl (i + 1) H3
    rw [e0]
    exact ⟨hw _, cw_turn p (by omega) et_yes (fun _ H2 e2 Q2 q2 => he i H2 e2 (by omega) Q2 q2)⟩) (fun H' p => k Dl H' p.1 p.2.1 (by rw [← given_all]; exact p.2.2))⟩
theorem k_lcR2 {j : Nat} {vs : List Nat} {lo n : Int} {Q : VK} (v : Nat → V) (h0 : Val tb σ H (.int lo)) (hn : Val ta σ H (.int n)) (hb : -40000 ≤ n ∧ n ≤ 40000 ∧ -40000 ≤ lo ∧ lo ≤ 40000 ∧ n - lo ≤ 40000) (hw : ∀ x, wipe ((wipe σ vs).set j (some x)) vs = wipe σ vs)
    (he : ∀ (i : Nat) H1, Same H H1 → lo + (i : Int) < n → ∀ Q : VK, (∀ H2, Same H1 H2 → Q (v i) H2) → te ((wipe σ vs).set j (some (.int (lo + (i : Int))))) H1 Q)
    (k : ∀ p H1, H p = none → Same H H1 → H1 p = some (.lst ((List.range (n - lo).toNat).map v)) → Q (.ref p) H1) : tLc (iRng2 (tCons tb (tCons ta tNil))) (gName j) tYes te vs σ H Q :=
  h0 _ (hn _ ⟨lo, n, rfl, ⟨by omega, by omega, by omega, by omega⟩, fun Dl hD =>
  lc_range (lo := lo) (n := (n - lo).toNat) (Cw H (fun _ => true) v Dl) ⟨hD, Ex.new hD, upd_same⟩ (fun i H' hi p =>
    ⟨hw _, cw_turn p (by omega) et_yes (fun _ H2 e2 Q2 q2 => he i H2 e2 (by omega) Q2 q2)⟩) (fun H' p => k Dl H' p.1 p.2.1 (by rw [← given_all]; exact p.2.2))⟩)
/-- over a list, with a test -/
theorem k_lcL {a : Addr} {xs : List V} {j : Nat} {vs : List Nat} {Q : VK} (f : Nat → Bool) (v : Nat → V) (h : Val ta σ H (.ref a)) (hx : SqL K H a xs) (hz : xs.length ≤ 40000) (hw : ∀ x, wipe ((wipe σ vs).set j (some x)) vs = wipe σ vs)
    (ht : ∀ (i : Nat) (x : V) H1, Same H H1 → xs[i]? = some x → EvT t ((wipe σ vs).set j (some x)) H1 (f i)) (he : ∀ (i : Nat) (x : V) H1, Same H H1 → xs[i]? = some x → f i = true → Ev te ((wipe σ vs).set j (some x)) H1 (v i))
    (k : ∀ p H1, H p = none → Same H H1 → H1 p = some (.lst (given xs.length f v)) → Q (.ref p) H1) : tLc (iList K ta) (gName j) t te vs σ H Q :=
  h _ ⟨a, rfl, ⟨xs, hx⟩, fun Dl hD =>
  lc_list (xs := xs) (Cw H f v Dl) ⟨hD, Ex.new hD, upd_same⟩ (fun i H' _ p => ex_l p.2.1 hx) (fun i x H' hi p => ⟨hw x, cw_turn p (by have := (List.getElem?_eq_some_iff.mp hi).1; omega) (ht i x H (Ex.refl H) hi) (fun hf => he i x H (Ex.refl H) hi hf)⟩)
    (fun H' p => k Dl H' p.1 p.2.1 p.2.2)⟩
theorem k_sum {Q : VK} (h : te σ H fun x H1 => ∃ (p : Addr) (ns : List Int), x = .ref p ∧ SqL K H1 p (ns.map V.int) ∧ Q (.int ns.sum) H1) (mono : ∀ Q1 Q2 : VK, (∀ x H, Q1 x H → Q2 x H) → te σ H Q1 → te σ H Q2) : tCB (rSum K) (tCons te tNil) σ H Q :=
  mono _ _ (fun x H1 ⟨p, ns, e, h1, q⟩ => ⟨p, ns, by rw [e], h1, q⟩) h
theorem v_ret' (h : te σ H D.rt) : tRet te D σ H := h
theorem k_cb1 {r : List V → Hp → VK → Prop} {Q : VK} (h : te σ H fun x H1 => r [x] H1 Q) : tCB r (tCons te tNil) σ H Q := h
theorem k_cb2 {r : List V → Hp → VK → Prop} {Q : VK} (h : ta σ H fun x H1 => tb σ H1 fun y H2 => r [x, y] H2 Q) : tCB r (tCons ta (tCons tb tNil)) σ H Q := h
theorem v_asg' {i : Nat} (h : te σ H fun v H1 => tz D (σ.set i (some v)) H1) : tSeq (tAsg te (gName i)) tz D σ H := h
theorem v_asg1' {i : Nat} (h : te σ H fun v H1 => D.nx (σ.set i (some v)) H1) : tAsg te (gName i) D σ H := h
theorem v_drop (h : te σ H fun _ H1 => tz D σ H1) : tSeq (tDrop te) tz D σ H := h
theorem v_drop1 (h : te σ H fun _ H1 => D.nx σ H1) : tDrop te D σ H := h
theorem v_when' (h : t σ H fun b H1 => if b = true then tu { D with nx := tz D } σ H1 else tz D σ H1) : tSeq (tIfS t tu tNext) tz D σ H := h
theorem v_when1' (h : t σ H fun b H1 => if b = true then tu D σ H1 else D.nx σ H1) : tIfS t tu tNext D σ H := h
theorem k_cons {tr : TA} {Q : List V → Hp → Prop} (h : te σ H fun x H1 => tr σ H1 fun xs H2 => Q (x :: xs) H2) : tCons te tr σ H Q := h
theorem k_call {tr : TA} {sp : Sp} {E : XK} {Q : VK} (h : tr σ H fun vs H1 => sp vs H1 Q E) (mono : ∀ Q1 Q2 : List V → Hp → Prop, (∀ x H, Q1 x H → Q2 x H) → tr σ H Q1 → tr σ H Q2) : tCall sp [] E tr σ H Q :=
  mono _ _ (fun x H1 q => by rw [List.append_nil]; exact q) h
theorem k_op {Q : VK} (h : ta σ H fun x H1 => tb σ H1 fun y H2 => r x y H2 Q) : tOp r ta tb σ H Q := h
theorem k_test {Q : Bool → Hp → Prop} (h : te σ H fun x H1 => ∃ k, x = .bl k ∧ Q k H1) : tTest te σ H Q := h
theorem k_B {Q : Bool → Hp → Prop} (h : te σ H fun x H1 => ∃ k, x = .bl k ∧ Q k H1) : tB te σ H Q := h
theorem w_isi {x : V} {t : String} {n : String} {b : Bool} (ha : Val ta σ H x) (ty : TyX K H x (.type t)) (e : kitB t n = some b) : Val (tCB (rIsi K) (tCons ta (tCons (tC (.ty n)) tNil))) σ H (.bl b) := fun Q q => ha _ ⟨x, .ty n, .type t, .type n, b, rfl, .ty n, ty, kit_ty e, q⟩
/-! checks as statements -/
def spNums (K : PySem.W.Frag) : Sp := fun vs H Q _ => ∃ (p : Addr) (ns : List Int), vs = [.ref p] ∧ SqL K H p (ns.map V.int) ∧ (∀ x ∈ ns, x ≤ 1000000000000000000000000000000) ∧ ∀ H', Same H H' → Q .non H'
def spLeast (K : PySem.W.Frag) : Sp := fun vs H Q _ => ∃ (p : Addr) (ns : List Int) (l : Int), vs = [.ref p, .int l] ∧ SqL K H p (ns.map V.int) ∧ (∀ x ∈ ns, l ≤ x) ∧ ∀ H', Same H H' → Q .non H'
theorem v_least {tr : TA} {E : XK} {l : Int} (ns : List Int) (h : ValA tr σ H (ns.map V.int)) (hz : ns.length ≤ 1000) (ok : ∀ x ∈ ns, l ≤ x) (k : ∀ H', Same H H' → tz D σ H') :
    tSeq (tDrop (tCall (spLeast K) [] E (tCons (tLst tr) (tCons (tC (.int l)) tNil)))) tz D σ H :=
  h _ ⟨by rw [List.length_map]; exact sz_of (by omega), fun p hp => ⟨p, ns, l, rfl, sq_of upd_same, ok, fun H' e => k H' ((same_new hp _).trans e)⟩⟩
theorem v_least1 {tr : TA} {E : XK} {l : Int} (ns : List Int) (h : ValA tr σ H (ns.map V.int)) (hz : ns.length ≤ 1000) (ok : ∀ x ∈ ns, l ≤ x) (k : ∀ H', Same H H' → D.nx σ H') :
    tDrop (tCall (spLeast K) [] E (tCons (tLst tr) (tCons (tC (.int l)) tNil))) D σ H :=
  h _ ⟨by rw [List.length_map]; exact sz_of (by omega), fun p hp => ⟨p, ns, l, rfl, sq_of upd_same, ok, fun H' e => k H' ((same_new hp _).trans e)⟩⟩
theorem v_nums {tr : TA} {E : XK} (ns : List Int) (h : ValA tr σ H (ns.map V.int)) (hz : ns.length ≤ 1000) (ok : ∀ x ∈ ns, x ≤ 1000000000000000000000000000000) (k : ∀ H', Same H H' → tz D σ H') :
    tSeq (tDrop (tCall (spNums K) [] E (tCons (tLst tr) tNil))) tz D σ H :=
  h _ ⟨by rw [List.length_map]; exact sz_of (by omega), fun p hp => ⟨p, ns, rfl, sq_of upd_same, ok, fun H' e => k H' ((same_new hp _).trans e)⟩⟩
def spAtMost : Sp := fun vs H Q _ => ∃ (v m : Int) (x : Str), vs = [.int v, .int m, .str x] ∧ v ≤ m ∧ ∀ H', Same H H' → Q .non H'
theorem v_atmost {v m : Int} {x : Str} {E : XK} (h : Val ta σ H (.int v)) (ok : v ≤ m) (k : ∀ H', Same H H' → tz D σ H') : tSeq (tDrop (tCall spAtMost [] E (tCons ta (tCons (tC (.int m)) (tCons (tC (.str x)) tNil))))) tz D σ H := h _ ⟨v, m, x, rfl, ok, k⟩
theorem v_atmost1 {v m : Int} {x : Str} {E : XK} (h : Val ta σ H (.int v)) (ok : v ≤ m) (k : ∀ H', Same H H' → D.nx σ H') : tDrop (tCall spAtMost [] E (tCons ta (tCons (tC (.int m)) (tCons (tC (.str x)) tNil)))) D σ H := h _ ⟨v, m, x, rfl, ok, k⟩
end
theorem mem_at {ns : List Int} {i : Nat} {x : V} (h : (ns.map V.int)[i]? = some x) : ∃ z, x = V.int z ∧ z ∈ ns ∧ ns[i]? = some z := by
  rw [List.getElem?_map] at h
  cases e : ns[i]? with
  | none => rw [e] at h; cases h
  | some z => rw [e] at h; exact ⟨z, (Option.some.inj h).symm, List.mem_of_getElem? e, rfl⟩
end P84
namespace P84
open PySem L2 Evl
section
variable {σ : L2.St} {H : Hp} {t u : TT}
theorem k_and {a : Bool} {Q : Bool → Hp → Prop} (h1 : Ans t σ H a) (ht : a = true → u σ H Q) (hf : a = false → Q false H) : tAnd t u σ H Q := h1 _ (by
  cases a with
  | true => exact ht rfl
  | false => exact hf rfl)
theorem k_or {a : Bool} {Q : Bool → Hp → Prop} (h1 : Ans t σ H a) (ht : a = true → Q true H) (hf : a = false → u σ H Q) : tOr t u σ H Q := h1 _ (by
  cases a with
  | true => exact ht rfl
  | false => exact hf rfl)
end
end P84
namespace P84
open PySem L2 Evl
section
variable {σ : L2.St} {H : Hp} {t u : TT} {te : TE} {tz tu tw : TS} {D : Ends}
theorem v_whenE (R : Bool → Hp → Prop) (h : ∀ Q : Bool → Hp → Prop, (∀ r H1, R r H1 → Q r H1) → t σ H Q) (ht : ∀ H1, R true H1 → tu { D with nx := tz D } σ H1) (hf : ∀ H1, R false H1 → tz D σ H1) : tSeq (tIfS t tu tNext) tz D σ H :=
  h _ fun r H1 hr => by
    cases r with
    | true => exact ht H1 hr
    | false => exact hf H1 hr
theorem v_whenE1 (R : Bool → Hp → Prop) (h : ∀ Q : Bool → Hp → Prop, (∀ r H1, R r H1 → Q r H1) → t σ H Q) (ht : ∀ H1, R true H1 → tu D σ H1) (hf : ∀ H1, R false H1 → D.nx σ H1) : tIfS t tu tNext D σ H :=
  h _ fun r H1 hr => by
    cases r with
    | true => exact ht H1 hr
    | false => exact hf H1 hr
theorem v_asgE {i : Nat} (R : V → Hp → Prop) (h : ∀ Q : VK, (∀ r H1, R r H1 → Q r H1) → te σ H Q) (k : ∀ v H1, R v H1 → tz D (σ.set i (some v)) H1) : tSeq (tAsg te (gName i)) tz D σ H := h _ fun v H1 r => k v H1 r
end
end P84
namespace P84
open PySem L2 Evl
section
variable {K : PySem.W.Frag} {σ : L2.St} {H : Hp} {t u : TT} {te ta tb : TE} {tz tu tw : TS} {D : Ends}
theorem v_whileE (W : Nat → L2.St → Hp → Prop) (m0 : Nat) (h0 : W m0 σ H)
    (hs : ∀ m σ' H', W m σ' H' → t σ' H' fun b H1 => if b = true then ∃ N : L2.St → Hp → Prop, (∀ σ2 H2, N σ2 H2 → ∃ m', m' < m ∧ W m' σ2 H2) ∧ tu { D with nx := N, ct := N, bk := tz D } σ' H1 else tz D σ' H1) : tSeq (tWhile t tu) tz D σ H :=
  ⟨W, ⟨m0, h0⟩, fun m σ' H' hw => hs m σ' H' hw⟩
theorem v_for1e {j : Nat} {n : Int} (h : Val te σ H (.int n)) (hn : -100000 ≤ n ∧ n ≤ 100000) (Pv : Nat → L2.St → Hp → Prop) (h0 : Pv 0 σ H)
    (hs : ∀ (i : Nat) σ' H', (i : Int) < n → Pv i σ' H' → tu { D with nx := Pv (i + 1), ct := Pv (i + 1), bk := D.nx } (σ'.set j (some (.int (i : Int)))) H') (hd : ∀ σ' H', Pv n.toNat σ' H' → D.nx σ' H') : tFor (iRng1 (tCons te tNil)) (gName j) tu D σ H :=
  v_for1 (tz := fun D => D.nx) h hn Pv h0 hs hd
theorem v_for2e {j : Nat} {lo n : Int} (h1 : Val ta σ H (.int lo)) (h2 : Val tb σ H (.int n)) (hn : -100000 ≤ lo ∧ lo ≤ 100000 ∧ -100000 ≤ n ∧ n ≤ 100000) (Pv : Nat → L2.St → Hp → Prop) (h0 : Pv 0 σ H)
    (hs : ∀ (i : Nat) σ' H', lo + (i : Int) < n → Pv i σ' H' → tu { D with nx := Pv (i + 1), ct := Pv (i + 1), bk := D.nx } (σ'.set j (some (.int (lo + (i : Int))))) H') (hd : ∀ σ' H', Pv (n - lo).toNat σ' H' → D.nx σ' H') : tFor (iRng2 (tCons ta (tCons tb tNil))) (gName j) tu D σ H :=
  v_for2 (tz := fun D => D.nx) h1 h2 hn Pv h0 hs hd
def optV : Option Int → V
  | none => .non
  | some i => .int i
theorem small16 {n : Nat} (h : n ≤ 16000000) : n < PySem.sizeLine := Nat.lt_of_le_of_lt h (by rw [PySem.sizeLine_eq]; decide)
theorem wide30 {i j : Int} (h0 : 0 < j) (h1 : j ≤ 1000000000000000000000000000000) : CDivW i j := wide_div (b := 100) h0 (by
  have h2 : j.natAbs ≤ 1000000000000000000000000000000 := by omega
  exact Nat.lt_of_le_of_lt h2 (by decide)) (by decide) (by decide)
end
end P84
namespace P84
open PySem L2 Evl
section
variable {K : PySem.W.Frag} {σ : L2.St} {H : Hp} {t u : TT} {te ta tb tc : TE} {tz tu tw : TS} {D : Ends}
theorem w_neg {i : Int} (ha : Val ta σ H (.int i)) : Val (tUn (rU fun i => .int (-i)) ta) σ H (.int (-i)) := fun Q q => ha _ ⟨i, rfl, q⟩
theorem v_forD {j : Nat} {n lo : Int} (h1 : Val ta σ H (.int n)) (h2 : Val tb σ H (.int lo)) (h3 : Val tc σ H (.int (-1))) (hn : -100000 ≤ lo ∧ lo ≤ 100000 ∧ -100000 ≤ n ∧ n ≤ 100000) (Pv : Nat → L2.St → Hp → Prop) (h0 : Pv 0 σ H)
    (hs : ∀ (i : Nat) σ' H', lo + (i : Int) < n → Pv i σ' H' → tu { D with nx := Pv (i + 1), ct := Pv (i + 1), bk := tz D } (σ'.set j (some (.int (n - (i : Int))))) H') (hd : ∀ σ' H', Pv (n - lo).toNat σ' H' → tz D σ' H') : tSeq (tFor (iRng3 (tCons ta (tCons tb (tCons tc tNil)))) (gName j) tu) tz D σ H :=
  h1 _ (h2 _ (h3 _ ⟨n, lo, -1, _, rfl, RgC.neg (by omega) (by omega) (by omega) (by omega), for_rangeC (lo := n) (c := -1) (n := (n - lo).toNat) (D := { D with nx := tz D }) Pv h0 (fun i σ' H' hi p => by
    have e0 : n + (i : Int) * -1 = n - (i : Int) := by omega
    show tu { D with nx := Pv (i + 1), ct := Pv (i + 1), bk := tz D } (σ'.set j (some (.int (n + (i : Int) * -1)))) H'
    rw [e0]
    exact hs i σ' H' (by omega) p) hd⟩))
theorem atI_map {α : Type} {xs : List α} {f : α → V} {i : Int} {v : α} (h0 : 0 ≤ i) (h : xs[i.toNat]? = some v) : atI (xs.map f) i = some (f v) := by
  have e : i = ((i.toNat : Nat) : Int) := by omega
  rw [e]
  exact atI_nat (by rw [List.getElem?_map, h] <;> rfl)
theorem at_getD {xs : List Int} {i : Int} (h0 : 0 ≤ i) (h : i < (xs.length : Int)) : atI (xs.map V.int) i = some (.int (xs.getD i.toNat 0)) := by
  refine atI_map (f := V.int) h0 ?_
  have h' : i.toNat < xs.length := by omega
  rw [List.getD_eq_getElem?_getD, List.getElem?_eq_getElem h']
  rfl
theorem at_getO {xs : List (Option Int)} {i : Int} (h0 : 0 ≤ i) (h : i < (xs.length : Int)) : atI (xs.map optV) i = some (optV (xs.getD i.toNat none)) := by
  refine atI_map (f := optV) h0 ?_
  have h' : i.toNat < xs.length := by omega
  rw [List.getD_eq_getElem?_getD, List.getElem?_eq_getElem h']
  rfl
end
end P84
namespace P84
open PySem L2 Evl
section
variable {K : PySem.W.Frag} {σ : L2.St} {H : Hp} {te : TE} {tr : TA}
theorem k_call1 {sp : Sp} {E : XK} {Q : VK} (h : te σ H fun x H1 => tr σ H1 fun xs H2 => sp ((x :: xs) ++ []) H2 Q E) : tCall sp [] E (tCons te tr) σ H Q := h
theorem range_getD (xs : List Int) (f : Int → Int) : (List.range xs.length).map (fun i => f (xs.getD i 0)) = xs.map f := by
  apply List.ext_getElem
  · simp
  · intro i h1 h2
    simp only [List.getElem_map, List.getElem_range]
    rw [List.getD_eq_getElem?_getD, List.getElem?_eq_getElem (by simpa using h1)]
    rfl
end
end P84
namespace P84
open PySem L2 Evl
section
variable {X : Cx} {s : Shared} {H : Hp} {scope : Scope} {cenv : PySem.Env} {fp : List Addr}
theorem ix_listB : IxR (Cx.blk X s H scope cenv fp) (rIxL X.K) := ix_list
theorem ix_tupB : IxR (Cx.blk X s H scope cenv fp) (rIxT X.K) := ix_tup
theorem call_len_seqB : CallR (Cx.blk X s H scope cenv fp) (.builtin "len") (Evl.rLenS X.K) := call_len_seq
theorem cr_sumB (hc : X.calm = true) : CallR (Cx.blk X s H scope cenv fp) (.builtin "sum") (rSum X.K) := cr_sum hc
theorem sl_listB : SlR (Cx.blk X s H scope cenv fp) (rSlL X.K) := sl_list
theorem call_isiB : CallR (Cx.blk X s H scope cenv fp) (.builtin "isinstance") (rIsi X.K) := call_isi
end
end P84
namespace P84
open PySem L2 Evl
section
variable {K : PySem.W.Frag} {σ : L2.St} {H : Hp} {ta tb te tx : TE} {v w : V}
theorem k_andV {a : Bool} {Q : VK} (h1 : Val ta σ H (.bl a)) (ht : a = true → tb σ H Q) (hf : a = false → Q (.bl false) H) : tAndV ta tb σ H Q := h1 _ ⟨a, rfl, by
  cases a with
  | true => exact ht rfl
  | false => exact hf rfl⟩
/-- d[i, j, k], the dict at t -/
theorem k_get3 {i j l : Int} {t : Addr} {kvs : List (List Key × V)} {Q : VK} (ht : Val te σ H (.ref t)) (ha : Val ta σ H (.int i)) (hb : Val tb σ H (.int j)) (hc : Val tx σ H (.int l)) (hk : H t = some (.dT kvs)) (hv : valV kvs [.inl i, .inl j, .inl l] = some v)
    (k : ∀ p, H p = none → Q v (upd H p (.tup [.int i, .int j, .int l]))) : tDGet te (tTup (tCons ta (tCons tb (tCons tx tNil)))) σ H Q := by
  refine ht _ ?_
  refine w_tup (wa_cons ha (wa_cons hb (wa_cons hc wa_nil))) (by simp) fun p hp => ?_
  refine ⟨t, v, rfl, ?_, k p hp⟩
  rw [← hv]
  refine DGet.t ?_ upd_same
  rw [upd_ne (ne_of_none hk hp)]
  exact hk
theorem dp_nil {p : Addr} (h : H p = some (.lst [])) : Dp K H (.ref p) (.list []) := .lst (sq_of h) .nil
end
end P84
namespace P84
open PySem L2 Evl
section
variable {K : PySem.W.Frag} {σ : L2.St} {H : Hp} {tl : TE} {g : TG} {tb tz : TS} {D : Ends} {a : Addr} {xs : List V}
theorem v_forLE {R : V → Hp → Prop} (h : ∀ Q : VK, (∀ x H1, R x H1 → Q x H1) → tl σ H Q) (k : ∀ x H1, R x H1 → tSeq (tFor (iList K (tC x)) g tb) tz D σ H1) : tSeq (tFor (iList K tl) g tb) tz D σ H := h _ fun x H1 r => k x H1 r
theorem tyx_list (h : SqL K H a xs) : TyX K H (.ref a) (.type "list") := by
  rcases h with (h | ⟨o, h⟩) | ⟨o, its, n, h, hc, _⟩
  · exact .base (.lst h)
  · exact .base (.frz h)
  · exact .kList h hc
end
end P84
namespace P84
open PySem L2 Evl
theorem k_lst {σ : L2.St} {H : Hp} {tr : TA} {Q : VK} (h : tr σ H fun vs H1 => vs.length ≤ PySem.sizeLine ∧ ∀ p, H1 p = none → Q (.ref p) (upd H1 p (.lst vs))) : tLst tr σ H Q := h
end P84

/-! N84 -/
namespace P84
theorem rising_all : risingAll = true := by decide +kernel
theorem all_all : allAll = true := by decide +kernel
theorem wd_0_0 : wordsAt 0 0 = true := by decide +kernel
theorem wd_0_1 : wordsAt 0 1 = true := by decide +kernel
theorem wd_0_2 : wordsAt 0 2 = true := by decide +kernel
theorem wd_0_3 : wordsAt 0 3 = true := by decide +kernel
theorem wd_0_4 : wordsAt 0 4 = true := by decide +kernel
theorem wd_0_5 : wordsAt 0 5 = true := by decide +kernel
theorem wd_0_6 : wordsAt 0 6 = true := by decide +kernel
theorem wd_0_7 : wordsAt 0 7 = true := by decide +kernel
theorem wd_1_0 : wordsAt 1 0 = true := by decide +kernel
theorem wd_1_1 : wordsAt 1 1 = true := by decide +kernel
theorem wd_1_2 : wordsAt 1 2 = true := by decide +kernel
theorem wd_1_3 : wordsAt 1 3 = true := by decide +kernel
theorem wd_1_4 : wordsAt 1 4 = true := by decide +kernel
theorem wd_1_5 : wordsAt 1 5 = true := by decide +kernel
theorem wd_1_6 : wordsAt 1 6 = true := by decide +kernel
theorem wd_1_7 : wordsAt 1 7 = true := by decide +kernel
theorem wd_2_0 : wordsAt 2 0 = true := by decide +kernel
theorem wd_2_1 : wordsAt 2 1 = true := by decide +kernel
theorem wd_2_2 : wordsAt 2 2 = true := by decide +kernel
theorem wd_2_3 : wordsAt 2 3 = true := by decide +kernel
theorem wd_2_4 : wordsAt 2 4 = true := by decide +kernel
theorem wd_2_5 : wordsAt 2 5 = true := by decide +kernel
theorem wd_2_6 : wordsAt 2 6 = true := by decide +kernel
theorem wd_2_7 : wordsAt 2 7 = true := by decide +kernel
theorem wd_3_0 : wordsAt 3 0 = true := by decide +kernel
theorem wd_3_1 : wordsAt 3 1 = true := by decide +kernel
theorem wd_3_2 : wordsAt 3 2 = true := by decide +kernel
theorem wd_3_3 : wordsAt 3 3 = true := by decide +kernel
theorem wd_3_4 : wordsAt 3 4 = true := by decide +kernel
theorem wd_3_5 : wordsAt 3 5 = true := by decide +kernel
theorem wd_3_6 : wordsAt 3 6 = true := by decide +kernel
theorem wd_3_7 : wordsAt 3 7 = true := by decide +kernel
theorem wd_4_0 : wordsAt 4 0 = true := by decide +kernel
theorem wd_4_1 : wordsAt 4 1 = true := by decide +kernel
theorem wd_4_2 : wordsAt 4 2 = true := by decide +kernel
theorem wd_4_3 : wordsAt 4 3 = true := by decide +kernel
theorem wd_4_4 : wordsAt 4 4 = true := by decide +kernel
theorem wd_4_5 : wordsAt 4 5 = true := by decide +kernel
theorem wd_4_6 : wordsAt 4 6 = true := by decide +kernel
theorem wd_4_7 : wordsAt 4 7 = true := by decide +kernel
theorem wd_5_0 : wordsAt 5 0 = true := by decide +kernel
theorem wd_5_1 : wordsAt 5 1 = true := by decide +kernel
theorem wd_5_2 : wordsAt 5 2 = true := by decide +kernel
theorem wd_5_3 : wordsAt 5 3 = true := by decide +kernel
theorem wd_5_4 : wordsAt 5 4 = true := by decide +kernel
theorem wd_5_5 : wordsAt 5 5 = true := by decide +kernel
theorem wd_5_6 : wordsAt 5 6 = true := by decide +kernel
theorem wd_5_7 : wordsAt 5 7 = true := by decide +kernel
theorem wd_6_0 : wordsAt 6 0 = true := by decide +kernel
theorem wd_6_1 : wordsAt 6 1 = true := by decide +kernel
theorem wd_6_2 : wordsAt 6 2 = true := by decide +kernel
theorem wd_6_3 : wordsAt 6 3 = true := by decide +kernel
theorem wd_6_4 : wordsAt 6 4 = true := by decide +kernel
theorem wd_6_5 : wordsAt 6 5 = true := by decide +kernel
theorem wd_6_6 : wordsAt 6 6 = true := by decide +kernel
theorem wd_6_7 : wordsAt 6 7 = true := by decide +kernel
theorem wd_7_0 : wordsAt 7 0 = true := by decide +kernel
theorem wd_7_1 : wordsAt 7 1 = true := by decide +kernel
theorem wd_7_2 : wordsAt 7 2 = true := by decide +kernel
theorem wd_7_3 : wordsAt 7 3 = true := by decide +kernel
theorem wd_7_4 : wordsAt 7 4 = true := by decide +kernel
theorem wd_7_5 : wordsAt 7 5 = true := by decide +kernel
theorem wd_7_6 : wordsAt 7 6 = true := by decide +kernel
theorem wd_7_7 : wordsAt 7 7 = true := by decide +kernel
theorem wd_8_0 : wordsAt 8 0 = true := by decide +kernel
theorem wd_8_1 : wordsAt 8 1 = true := by decide +kernel
theorem wd_8_2 : wordsAt 8 2 = true := by decide +kernel
theorem wd_8_3 : wordsAt 8 3 = true := by decide +kernel
theorem wd_8_4 : wordsAt 8 4 = true := by decide +kernel
theorem wd_8_5 : wordsAt 8 5 = true := by decide +kernel
theorem wd_8_6 : wordsAt 8 6 = true := by decide +kernel
theorem wd_8_7 : wordsAt 8 7 = true := by decide +kernel
theorem words_ij (i j : Nat) (hi : i < 9) (hj : j < 8) : wordsAt i j = true := by
  match i, hi with
  | 0, _ => match j, hj with
    | 0, _ => exact wd_0_0
    | 1, _ => exact wd_0_1
    | 2, _ => exact wd_0_2
    | 3, _ => exact wd_0_3
    | 4, _ => exact wd_0_4
    | 5, _ => exact wd_0_5
    | 6, _ => exact wd_0_6
    | 7, _ => exact wd_0_7
    | n + 8, h => omega
  | 1, _ => match j, hj with
    | 0, _ => exact wd_1_0
    | 1, _ => exact wd_1_1
    | 2, _ => exact wd_1_2
    | 3, _ => exact wd_1_3
    | 4, _ => exact wd_1_4
    | 5, _ => exact wd_1_5
    | 6, _ => exact wd_1_6
    | 7, _ => exact wd_1_7
    | n + 8, h => omega
  | 2, _ => match j, hj with
    | 0, _ => exact wd_2_0
    | 1, _ => exact wd_2_1
    | 2, _ => exact wd_2_2
    | 3, _ => exact wd_2_3
    | 4, _ => exact wd_2_4
    | 5, _ => exact wd_2_5
    | 6, _ => exact wd_2_6
    | 7, _ => exact wd_2_7
    | n + 8, h => omega
  | 3, _ => match j, hj with
    | 0, _ => exact wd_3_0
    | 1, _ => exact wd_3_1
    | 2, _ => exact wd_3_2
    | 3, _ => exact wd_3_3
    | 4, _ => exact wd_3_4
    | 5, _ => exact wd_3_5
    | 6, _ => exact wd_3_6
    | 7, _ => exact wd_3_7
    | n + 8, h => omega
  | 4, _ => match j, hj with
    | 0, _ => exact wd_4_0
    | 1, _ => exact wd_4_1
    | 2, _ => exact wd_4_2
    | 3, _ => exact wd_4_3
    | 4, _ => exact wd_4_4
    | 5, _ => exact wd_4_5
    | 6, _ => exact wd_4_6
    | 7, _ => exact wd_4_7
    | n + 8, h => omega
  | 5, _ => match j, hj with
    | 0, _ => exact wd_5_0
    | 1, _ => exact wd_5_1
    | 2, _ => exact wd_5_2
    | 3, _ => exact wd_5_3
    | 4, _ => exact wd_5_4
    | 5, _ => exact wd_5_5
    | 6, _ => exact wd_5_6
    | 7, _ => exact wd_5_7
    | n + 8, h => omega
  | 6, _ => match j, hj with
    | 0, _ => exact wd_6_0
    | 1, _ => exact wd_6_1
    | 2, _ => exact wd_6_2
    | 3, _ => exact wd_6_3
    | 4, _ => exact wd_6_4
    | 5, _ => exact wd_6_5
    | 6, _ => exact wd_6_6
    | 7, _ => exact wd_6_7
    | n + 8, h => omega
  | 7, _ => match j, hj with
    | 0, _ => exact wd_7_0
    | 1, _ => exact wd_7_1
    | 2, _ => exact wd_7_2
    | 3, _ => exact wd_7_3
    | 4, _ => exact wd_7_4
    | 5, _ => exact wd_7_5
    | 6, _ => exact wd_7_6
    | 7, _ => exact wd_7_7
    | n + 8, h => omega
  | 8, _ => match j, hj with
    | 0, _ => exact wd_8_0
    | 1, _ => exact wd_8_1
    | 2, _ => exact wd_8_2
    | 3, _ => exact wd_8_3
    | 4, _ => exact wd_8_4
    | 5, _ => exact wd_8_5
    | 6, _ => exact wd_8_6
    | 7, _ => exact wd_8_7
    | n + 8, h => omega
  | n + 9, h => omega
theorem words_all : wordsAll = true := by
  unfold wordsAll
  rw [List.all_eq_true]
  intro i hi
  rw [List.all_eq_true]
  intro j hj
  exact words_ij i j (List.mem_range.mp hi) (List.mem_range.mp hj)
end P84

/-! D1 -/
namespace P84
open PySem L2 Evl
section
variable {P : Program} {w : World} {K : PySem.W.Frag} {mg : Str → Option Value} {base : Heap}
def spBin : Sp := fun vs H Q _ => ∃ n k : Int, vs = [.int n, .int k] ∧ n ≤ 1000 ∧ ∀ H', Same H H' → Q (.int (binF n k)) H'
theorem G_binomial (T : Env K mg) : FnOk P w K mg base CX0 1 T.f_binomial T.d_binomial p_binomial spBin := by
  refine T.F_binomial.ok sc_binomial (fun vs H Q E h => ?_) (fun cdv A outer s H vs Q E hr h => ?_)
  · obtain ⟨n, k, rfl, _⟩ := h
    rfl
  obtain ⟨n, k, rfl, hn, q⟩ := h
  have hu := hu_of hr
  refine ⟨_, (pss_cons (ps_if (PW.pt (pw_or (pt_cmpR op_lt (pv 1) pe_int (nomark _)) (pw_or1 (pt_cmpR op_gt (pv 1) (pv 0) (nomark _))))) (pss_one (ps_ret pe_int)) pss_nil)
    (pss_cons (ps_set (i := 2) sc_binomial.nd rfl (Or.inl rfl) pe_int)
    (pss_cons (ps_for PassesOwn.never rfl (pi_range1 (by rfl) T.z_range (pa_cons (pe_callB (call_min2 rfl) (by rfl) T.z_min (by decide +kernel) (pa_cons (pv 1) (pa_cons (pe_op op_sub (pv 0) (pv 1)) pa_nil))) pa_nil)) (pg_name (i := 3) sc_binomial.nd rfl (Or.inl rfl)) (pss_one (ps_set (i := 2) sc_binomial.nd rfl (Or.inl rfl) (pe_op op_fdiv (pe_op op_mul (pv 2) (pe_op op_sub (pv 0) (pv 3))) (pe_op op_add (pv 3) pe_int)))))
    (pss_one (ps_ret (pv 2)))))), ?_⟩
  refine v_when (w_or (w_cmp (val_var rfl) val_c) fun c => w_cmp (val_var rfl) (val_var rfl)) (fun c => ?_) (fun c => ?_)
  · refine v_ret val_c ?_
    have e : binF n k = 0 := if_pos c
    rw [← e]
    exact q _ (Same.refl _)
  refine v_asg val_c ?_
  have hk : ¬ k < 0 ∧ ¬ n < k := by simpa using c
  refine v_for1 (w_min (val_var rfl) (w_ar (val_var rfl) (val_var rfl))) (by omega) (fun i σ H' => H' = H ∧ ∃ z, σ = [some (.int n), some (.int k), some (.int (binL n i)), z]) ⟨rfl, none, rfl⟩ ?_ ?_
  · rintro i σ' H' hi ⟨rfl, z, rfl⟩
    refine v_asg1 (w_arC (w_arC (val_var rfl) (w_ar (val_var rfl) (val_var rfl)) (Or.inr ?_)) (w_ar (val_var rfl) val_c) ?_) ?_
    · omega
    · constructor <;> omega
    · exact ⟨rfl, _, rfl⟩
  · rintro σ' H' ⟨rfl, z, rfl⟩
    refine v_ret (val_var rfl) ?_
    have e : binF n k = binL n (min k (n - k)).toNat := if_neg (by rw [c]; decide)
    rw [← e]
    exact q _ (Same.refl _)
def spPrice : Sp := fun vs H Q _ => ∃ a b : Int, vs = [.int a, .int b] ∧ 0 ≤ a ∧ a ≤ 400 ∧ 0 ≤ b ∧ b ≤ 400 ∧ ∀ H', Same H H' → Q (.int (priceF a b)) H'
theorem G_price_number (T : Env K mg) : FnOk P w K mg base CX0 2 T.f_price_number T.d_price_number p_price_number spPrice := by
  refine T.F_price_number.ok sc_price_number (fun vs H Q E h => ?_) (fun cdv A outer s H vs Q E hr h => ?_)
  · obtain ⟨a, b, rfl, _⟩ := h
    rfl
  obtain ⟨a, b, rfl, ha, ha', hb, hb', q⟩ := h
  have hu := hu_of hr
  refine ⟨_, (pss_one (ps_ret (pe_callB (cr_sum rfl) (by rfl) T.z_sum (by decide +kernel) (pa_cons (pe_lc (own := [("size", 2)]) (g := gName 2) (by rfl) sc_price_number.nd (pi_range1 (by rfl) T.z_range (pa_cons (pe_op op_add (pv 0) pe_int) pa_nil)) (blkOk_by (own := [("size", 2)]) (N := n_price_number) (sc := defScope s_price_number) (by decide +kernel)) (fun _ _ _ _ _ => pg_name (i := 2) sc_price_number.nd rfl (Or.inl rfl)) (fun _ _ _ _ _ => pts_nil) (fun _ _ _ _ _ => (pe_call (G_binomial T) (hr.mono (by decide)) rfl T.m_binomial T.F_binomial.kp (b_binomial T) .nil pass0 (pa_cons (pe_op op_add (pe_op op_add (pv 0) (pv 1)) pe_int) (pa_cons (pv 2) pa_nil))))) pa_nil)))), ?_⟩
  refine v_ret' ?_
  refine k_cb1 ?_
  refine k_lcR1 (fun i => .int (binF (a + b + 1) i)) (w_ar (val_var rfl) val_c) (by omega) (fun _ => rfl) (fun i H1 e1 hi Q' q' => ?_) (fun p H1 np e1 h1 => ?_)
  · refine w_call (wa_cons (w_ar (w_ar (val_var rfl) (val_var rfl)) val_c) (wa_cons (val_var rfl) wa_nil)) ⟨_, _, rfl, by omega, fun H2 e2 => q' H2 e2⟩
  · refine ⟨p, (List.range (a + 2).toNat).map (fun (i : Nat) => binF (a + b + 1) i), rfl, ?_, q H1 e1⟩
    rw [List.map_map]
    exact sq_of h1
def spBud (m : Int) : Sp := fun vs H Q _ => ∃ a b : Int, vs = [.int a, .int b] ∧ a ≤ m ∧ b ≤ m ∧ ∀ H', Same H H' → Q .non H'
theorem G_check_budgets (T : Env K mg) : FnOk P w K mg base CX0 1 T.f_check_budgets T.d_check_budgets p_check_budgets (spBud 30) := by
  refine T.F_check_budgets.ok sc_check_budgets (fun vs H Q E h => ?_) (fun cdv A outer s H vs Q E hr h => ?_)
  · obtain ⟨a, b, rfl, _⟩ := h
    rfl
  obtain ⟨a, b, rfl, ha, hb, q⟩ := h
  have hu := hu_of hr
  refine ⟨_, (pss_one (ps_if (PW.pt (pw_or (pt_cmpR op_gt (pv 0) (pe_glob (v := .int 30) rfl T.c_MOST_BUDGET_prices ⟨_, rfl⟩) (nomark _)) (pw_or1 (pt_cmpR op_gt (pv 1) (pe_glob (v := .int 30) rfl T.c_MOST_BUDGET_prices ⟨_, rfl⟩) (nomark _))))) (pss_one ps_never) pss_nil)), ?_⟩
  refine v_when1 (w_or (w_cmp (val_var rfl) val_c) fun c => w_cmp (val_var rfl) val_c) (fun c => ?_) (fun c => q _ (Same.refl _))
  exfalso
  simp at c
  omega
theorem G_check_numbers (T : Env K mg) : FnOk P w K mg base CX0 1 T.f_check_numbers T.d_check_numbers p_check_numbers (spNums K) := by
  refine T.F_check_numbers.ok sc_check_numbers (fun vs H Q E h => ?_) (fun cdv A outer s H vs Q E hr h => ?_)
  · obtain ⟨p, ns, rfl, _⟩ := h
    rfl
  obtain ⟨p, ns, rfl, hS, hok, q⟩ := h
  have hu := hu_of hr
  refine ⟨_, (pss_one (ps_for PassesOwn.never rfl (pi_list (pv 0)) (pg_name (i := 1) sc_check_numbers.nd rfl (Or.inl rfl)) (pss_one (ps_if (pt_cmpR op_gt (pv 1) (pe_glob (v := .int 1000000000000000000000000000000) rfl T.c_MOST_NUMBER_prices ⟨_, rfl⟩) (nomark _)) (pss_one ps_never) pss_nil)))), ?_⟩
  refine v_forL1 (val_var rfl) hS (fun i σ H' => H' = H ∧ ∃ z, σ = [some (.ref p), z]) ⟨rfl, none, rfl⟩ (fun i σ' H' _ h => by obtain ⟨rfl, _⟩ := h; exact hS) ?_ ?_
  · rintro i x σ' H' hi ⟨rfl, z, rfl⟩
    obtain ⟨y, rfl, hy, _⟩ := mem_at hi
    have := hok y hy
    refine v_when1 (w_cmp (val_var rfl) val_c) (fun c => ?_) (fun c => ⟨rfl, _, rfl⟩)
    exfalso
    simp at c
    omega
  · rintro σ' H' ⟨rfl, _⟩
    exact q _ (Same.refl _)
theorem G_check_least (T : Env K mg) : FnOk P w K mg base CX0 1 T.f_check_least T.d_check_least p_check_least (spLeast K) := by
  refine T.F_check_least.ok sc_check_least (fun vs H Q E h => ?_) (fun cdv A outer s H vs Q E hr h => ?_)
  · obtain ⟨p, ns, l, rfl, _⟩ := h
    rfl
  obtain ⟨p, ns, l, rfl, hS, hok, q⟩ := h
  have hu := hu_of hr
  refine ⟨_, (pss_one (ps_for PassesOwn.never rfl (pi_list (pv 0)) (pg_name (i := 2) sc_check_least.nd rfl (Or.inl rfl)) (pss_one (ps_if (pt_cmpR op_lt (pv 2) (pv 1) (nomark _)) (pss_one ps_never) pss_nil)))), ?_⟩
  refine v_forL1 (val_var rfl) hS (fun i σ H' => H' = H ∧ ∃ z, σ = [some (.ref p), some (.int l), z]) ⟨rfl, none, rfl⟩ (fun i σ' H' _ h => by obtain ⟨rfl, _⟩ := h; exact hS) ?_ ?_
  · rintro i x σ' H' hi ⟨rfl, z, rfl⟩
    obtain ⟨y, rfl, hy, _⟩ := mem_at hi
    have := hok y hy
    refine v_when1 (w_cmp (val_var rfl) (val_var rfl)) (fun c => ?_) (fun c => ⟨rfl, _, rfl⟩)
    exfalso
    simp at c
    omega
  · rintro σ' H' ⟨rfl, _⟩
    exact q _ (Same.refl _)
def spWhole : Sp := fun vs H Q _ => ∃ v : Int, vs = [.int v] ∧ ∀ H', Same H H' → Q (.bl true) H'
theorem G_is_whole (T : Env K mg) : FnOk P w K mg base CX0 1 T.f_is_whole T.d_is_whole p_is_whole spWhole := by
  refine T.F_is_whole.ok sc_is_whole (fun vs H Q E h => ?_) (fun cdv A outer s H vs Q E hr h => ?_)
  · obtain ⟨v, rfl, _⟩ := h
    rfl
  obtain ⟨v, rfl, q⟩ := h
  have hu := hu_of hr
  refine ⟨_, (pss_one (ps_ret (pe_and (pe_callB call_isi (by rfl) T.z_isinstance (by decide +kernel) (pa_cons (pv 0) (pa_cons (pe_bltn (v := .ty "int") (by rfl) T.z_int (by decide +kernel) rfl) pa_nil))) (pe_one (pe_not (pe_callB call_isi (by rfl) T.z_isinstance (by decide +kernel) (pa_cons (pv 0) (pa_cons (pe_bltn (v := .ty "bool") (by rfl) T.z_bool (by decide +kernel) rfl) pa_nil)))))))), ?_⟩
  refine v_ret (w_andV (w_isi (b := true) (t := "int") (val_var rfl) (.base (.int v)) (by decide +kernel)) fun _ => w_notV (w_isi (b := false) (t := "int") (val_var rfl) (.base (.int v)) (by decide +kernel))) ?_
  exact q _ (Same.refl _)
theorem G_check_at_most (T : Env K mg) : FnOk P w K mg base CX0 2 T.f_check_at_most T.d_check_at_most p_check_at_most spAtMost := by
  refine T.F_check_at_most.ok sc_check_at_most (fun vs H Q E h => ?_) (fun cdv A outer s H vs Q E hr h => ?_)
  · obtain ⟨v, m, x, rfl, _⟩ := h
    rfl
  obtain ⟨v, m, x, rfl, hv, q⟩ := h
  have hu := hu_of hr
  refine ⟨_, (pss_one (ps_if (PW.pt (pw_and (pt_val (pe_call (G_is_whole T) (hr.mono (by decide)) rfl T.m_is_whole T.F_is_whole.kp (b_is_whole T) .nil pass0 (pa_cons (pv 0) pa_nil))) (pw_and1 (pt_cmpR op_gt (pv 0) (pv 1) (nomark _))))) (pss_one ps_never) pss_nil)), ?_⟩
  refine v_when1' ?_
  refine w_call (wa_cons (val_var rfl) wa_nil) ⟨v, rfl, fun H1 e1 => ⟨true, rfl, ?_⟩⟩
  refine iteT ?_
  refine w_cmp (val_var rfl) (val_var rfl) _ ?_
  rw [decide_eq_false (by omega)]
  exact iteF (q _ e1)
def spMost : Sp := fun vs H Q _ => ∃ d a b w : Int, vs = [.int d, .int a, .int b, .int w] ∧ 1 ≤ d ∧ d ≤ 1000 ∧ 0 ≤ a ∧ a ≤ 30 ∧ 0 ≤ b ∧ b ≤ 30 ∧ 1 ≤ w ∧ w ≤ 1000 ∧ ∀ H', Same H H' → Q (.int (mostF d a b w)) H'
theorem G_most_false (T : Env K mg) : FnOk P w K mg base CX0 3 T.f_most_false T.d_most_false p_most_false spMost := by
  refine T.F_most_false.ok sc_most_false (fun vs H Q E h => ?_) (fun cdv A outer s H vs Q E hr h => ?_)
  · obtain ⟨d, a, b, w, rfl, _⟩ := h
    rfl
  obtain ⟨d, a, b, w, rfl, hd, hd', ha, ha', hb, hb', hw, hw', q⟩ := h
  have hu := hu_of hr
  refine ⟨_, (pss_cons (ps_expr (pe_call (G_check_budgets T) (hr.mono (by decide)) rfl T.m_check_budgets T.F_check_budgets.kp (b_check_budgets T) .nil pass0 (pa_cons (pv 1) (pa_cons (pv 2) pa_nil))))
    (pss_cons (ps_expr (pe_call (G_check_numbers T) (hr.mono (by decide)) rfl T.m_check_numbers T.F_check_numbers.kp (b_check_numbers T) .nil pass0 (pa_cons (pe_lst (pa_cons (pv 0) (pa_cons (pv 3) pa_nil))) pa_nil)))
    (pss_cons (ps_expr (pe_call (G_check_least T) (hr.mono (by decide)) rfl T.m_check_least T.F_check_least.kp (b_check_least T) .nil pass0 (pa_cons (pe_lst (pa_cons (pv 1) (pa_cons (pv 2) pa_nil))) (pa_cons pe_int pa_nil))))
    (pss_cons (ps_expr (pe_call (G_check_least T) (hr.mono (by decide)) rfl T.m_check_least T.F_check_least.kp (b_check_least T) .nil pass0 (pa_cons (pe_lst (pa_cons (pv 0) (pa_cons (pv 3) pa_nil))) (pa_cons pe_int pa_nil))))
    (pss_one (ps_ret (pe_op op_sub (pe_op op_mul (pe_op op_sub (pe_call (G_price_number T) (hr.mono (by decide)) rfl T.m_price_number T.F_price_number.kp (b_price_number T) .nil pass0 (pa_cons (pv 1) (pa_cons (pv 2) pa_nil))) pe_int) (pe_op op_sub (pe_op op_add (pv 0) (pv 3)) pe_int)) pe_int))))))), ?_⟩
  refine v_drop (w_call (wa_cons (val_var rfl) (wa_cons (val_var rfl) wa_nil)) ⟨a, b, rfl, ha', hb', fun H1 e1 => ?_⟩)
  refine v_nums [d, w] (wa_cons (val_var rfl) (wa_cons (val_var rfl) wa_nil)) (by simp) (by simp; omega) fun H2 e2 => ?_
  refine v_least [a, b] (wa_cons (val_var rfl) (wa_cons (val_var rfl) wa_nil)) (by simp) (by simp; omega) fun H3 e3 => ?_
  refine v_least [d, w] (wa_cons (val_var rfl) (wa_cons (val_var rfl) wa_nil)) (by simp) (by simp; omega) fun H4 e4 => ?_
  refine v_ret' (k_op (k_op (k_op (w_call (wa_cons (val_var rfl) (wa_cons (val_var rfl) wa_nil)) ⟨a, b, rfl, ha, by omega, hb, by omega, fun H5 e5 => ?_⟩))))
  refine ⟨_, _, rfl, rfl, ?_⟩
  refine w_ar (w_ar (val_var rfl) (val_var rfl)) val_c _ ?_
  refine ⟨_, _, rfl, rfl, Or.inr ⟨by omega, by omega⟩, ?_⟩
  refine ⟨_, _, rfl, rfl, ?_⟩
  exact q _ ((((e1.trans e2).trans e3).trans e4).trans e5)

end
end P84

/-! D2 -/
namespace P84
open PySem L2 Evl
section
variable {P : Program} {w : World} {K : PySem.W.Frag} {mg : Str → Option Value} {base : Heap}
theorem kpOk_congr {r1 r2 : Int → Int → Int → Bool} {f a b asked x : Int} (h1 : 0 < a → r1 (f - x) (a - 1) b = r2 (f - x) (a - 1) b) (h2 : 0 < b → r1 (f - (asked - x)) a (b - 1) = r2 (f - (asked - x)) a (b - 1)) : kpOk r1 f a b asked x = kpOk r2 f a b asked x := by
  unfold kpOk
  by_cases ha : 0 < a <;> by_cases hb : 0 < b <;> simp [ha, hb]
  · rw [h1 ha, h2 hb]
  · rw [h1 ha]
  · rw [h2 hb]
def okx (d q f a b x : Int) : Bool := kpOk (KP d q) f a b (min q (d + f)) x
def KPP (d q f a b : Int) : Option Int := (xs2 ((min q (d + f) + 1) / 2) (min (min q (d + f)) f + 1)).find? fun x => !okx d q f a b x
theorem find_congr {l : List Int} {p p' : Int → Bool} (h : ∀ x, p x = p' x) : l.find? p = l.find? p' := by
  have : p = p' := funext h
  rw [this]
theorem KP_eq {d q f a b : Int} (ha : 0 ≤ a) (hb : 0 ≤ b) : KP d q f a b = if f = 0 then true else (KPP d q f a b).isNone := by
  unfold KPP
  cases e : (a + b).toNat with
  | zero =>
    have ha0 : a = 0 := by omega
    have hb0 : b = 0 := by omega
    subst ha0; subst hb0
    show kp d q (0 + 0 : Int).toNat f 0 0 = _
    show (if f = 0 then true else (kpP d q (fun _ _ _ => false) f 0 0).isNone) = _
    unfold kpP
    rw [find_congr (p' := fun x => !okx d q f 0 0 x) (fun x => by
      show (!kpOk (fun _ _ _ => false) f 0 0 (min q (d + f)) x) = !okx d q f 0 0 x
      unfold okx
      rw [kpOk_congr (r1 := fun _ _ _ => false) (r2 := KP d q) (fun h => by omega) (fun h => by omega)])]
  | succ n =>
    show kp d q (a + b).toNat f a b = _
    rw [e]
    show (if f = 0 then true else (kpP d q (kp d q n) f a b).isNone) = _
    unfold kpP
    rw [find_congr (p' := fun x => !okx d q f a b x) (fun x => by
      show (!kpOk (kp d q n) f a b (min q (d + f)) x) = !okx d q f a b x
      unfold okx
      rw [kpOk_congr (r1 := kp d q n) (r2 := KP d q) (fun h => by
          have e1 : (a - 1 + b).toNat = n := by omega
          unfold KP; rw [e1]) (fun h => by
          have e1 : (a + (b - 1)).toNat = n := by omega
          unfold KP; rw [e1])])]
theorem xs2_none {lo hi : Int} {p : Int → Bool} (h : ∀ i : Nat, lo + (i : Int) < hi → p (lo + (i : Int)) = true) : ((xs2 lo hi).find? fun x => !p x).isNone = true := by
  rw [Option.isNone_iff_eq_none, List.find?_eq_none]
  intro x hx
  unfold xs2 at hx
  obtain ⟨i, hi', rfl⟩ := List.mem_map.mp hx
  have := List.mem_range.mp hi'
  rw [h i (by omega)]
  decide
theorem xs2_some {lo hi : Int} {p : Int → Bool} {i : Nat} (hi' : lo + (i : Int) < hi) (h : p (lo + (i : Int)) = false) : ((xs2 lo hi).find? fun x => !p x).isNone = false := by
  cases e : ((xs2 lo hi).find? fun x => !p x).isNone with
  | false => rfl
  | true =>
    rw [Option.isNone_iff_eq_none, List.find?_eq_none] at e
    have hm : lo + (i : Int) ∈ xs2 lo hi := List.mem_map.mpr ⟨i, List.mem_range.mpr (by omega), rfl⟩
    have q := e _ hm
    rw [h] at q
    exact absurd rfl q
/-! the memo -/
def MemOk (d q : Int) (kvs : List (List Key × V)) : Prop := ∀ (f a b : Int) (v : V), valV kvs [.inl f, .inl a, .inl b] = some v → v = .bl (KP d q f a b)
def Mem (H0 : Hp) (p : Addr) (d q : Int) (L : Nat) (H' : Hp) : Prop := ∃ kvs, H' p = some (.dT kvs) ∧ MemOk d q kvs ∧ kvs.length ≤ L ∧ ∀ c o, H0 c = some o → c ≠ p → H' c = some o
theorem Mem.trans {H0 H1 H2 : Hp} {p : Addr} {d q : Int} {L L' : Nat} (h1 : Mem H0 p d q L H1) (h2 : Mem H1 p d q L' H2) : Mem H0 p d q L' H2 := by
  obtain ⟨_, _, _, _, k1⟩ := h1
  obtain ⟨kvs, e, m, l, k2⟩ := h2
  exact ⟨kvs, e, m, l, fun c o hc hp => k2 c o (k1 c o hc hp) hp⟩
theorem Mem.refl {H0 H1 : Hp} {p : Addr} {d q : Int} {L : Nat} (h1 : Mem H0 p d q L H1) : Mem H1 p d q L H1 := by
  obtain ⟨kvs, e, m, l, k1⟩ := h1
  exact ⟨kvs, e, m, l, fun c o hc hp => hc⟩
theorem Mem.le {H0 H1 : Hp} {p : Addr} {d q : Int} {L L' : Nat} (h1 : Mem H0 p d q L H1) (hl : L ≤ L') : Mem H0 p d q L' H1 := by
  obtain ⟨kvs, e, m, l, k1⟩ := h1
  exact ⟨kvs, e, m, Nat.le_trans l hl, k1⟩
theorem Mem.same {H0 H1 H2 : Hp} {p : Addr} {d q : Int} {L : Nat} (h1 : Mem H0 p d q L H1) (s : Same H1 H2) : Mem H0 p d q L H2 := by
  obtain ⟨kvs, e, m, l, k1⟩ := h1
  exact ⟨kvs, s _ _ e, m, l, fun c o hc hp => s _ _ (k1 c o hc hp)⟩
def puts : Nat → Nat
  | 0 => 0
  | n + 1 => 1 + 2002 * puts n
def spKept (n : Nat) : Sp := fun vs H Q _ => ∃ (p : Addr) (d q f a b : Int) (L : Nat), vs = [.ref p, .int d, .int q, .int f, .int a, .int b] ∧ 0 ≤ a ∧ 0 ≤ b ∧ (a + b).toNat + 1 ≤ n ∧ 1 ≤ d ∧ d ≤ 1000 ∧ 1 ≤ q ∧ q ≤ 1000 ∧ 0 ≤ f ∧ f ≤ 1000 ∧
  Mem H p d q L H ∧ L + puts n ≤ 16000000 ∧ ∀ H', Mem H p d q (L + puts n) H' → Q (.bl (KP d q f a b)) H'
def spFail (n : Nat) : Sp := fun vs H Q _ => ∃ (p : Addr) (d q f a b : Int) (L : Nat), vs = [.ref p, .int d, .int q, .int f, .int a, .int b] ∧ 0 ≤ a ∧ 0 ≤ b ∧ (a + b).toNat ≤ n ∧ 1 ≤ d ∧ d ≤ 1000 ∧ 1 ≤ q ∧ q ≤ 1000 ∧ 0 ≤ f ∧ f ≤ 1000 ∧
  Mem H p d q L H ∧ L + 2002 * puts n ≤ 16000000 ∧ ∀ v H', decide (v = V.non) = (KPP d q f a b).isNone → Mem H p d q (L + 2002 * puts n) H' → Q v H'
theorem fail_step (T : Env K mg) {n k : Nat} (GK : FnOk P w K mg base CX0 k T.f_is_kept T.d_is_kept p_is_kept (spKept n)) : FnOk P w K mg base CX0 (k + 1) T.f_failing_parting T.d_failing_parting p_failing_parting (spFail n) := by
  refine T.F_failing_parting.ok sc_failing_parting (fun vs H Q E h => ?_) (fun cdv A outer s H vs Q E hr h => ?_)
  · obtain ⟨p, d, q, f, a, b, L, rfl, _⟩ := h
    rfl
  obtain ⟨p, d, q, f, a, b, L, rfl, ha, hb, hn, hd, hd', hq, hq', hf, hf', hM, hL, k⟩ := h
  have hu := hu_of hr
  refine ⟨_, (pss_cons (ps_set (i := 6) sc_failing_parting.nd rfl (Or.inl rfl) (pe_callB (call_min2 rfl) (by rfl) T.z_min (by decide +kernel) (pa_cons (pv 2) (pa_cons (pe_op op_add (pv 1) (pv 3)) pa_nil))))
    (pss_cons (ps_for PassesOwn.never rfl (pi_range2 (by rfl) T.z_range (pa_cons (pe_op op_fdiv (pe_op op_add (pv 6) pe_int) pe_int) (pa_cons (pe_op op_add (pe_callB (call_min2 rfl) (by rfl) T.z_min (by decide +kernel) (pa_cons (pv 6) (pa_cons (pv 3) pa_nil))) pe_int) pa_nil))) (pg_name (i := 7) sc_failing_parting.nd rfl (Or.inl rfl)) (pss_cons (ps_set (i := 8) sc_failing_parting.nd rfl (Or.inl rfl) (pe_op op_sub (pv 6) (pv 7)))
      (pss_cons (ps_if (PW.pt (pw_and (pt_cmpR op_gt (pv 4) pe_int (nomark _)) (pw_and1 (pt_val (pe_call GK hr rfl T.m_is_kept T.F_is_kept.kp (b_is_kept T) .nil pass0 (pa_cons (pv 0) (pa_cons (pv 1) (pa_cons (pv 2) (pa_cons (pe_op op_sub (pv 3) (pv 7)) (pa_cons (pe_op op_sub (pv 4) pe_int) (pa_cons (pv 5) pa_nil))))))))))) (pss_one ps_continue) pss_nil)
      (pss_cons (ps_if (PW.pt (pw_and (pt_cmpR op_gt (pv 5) pe_int (nomark _)) (pw_and (pt_cmpR op_gt (pv 8) pe_int (nomark _)) (pw_and1 (pt_val (pe_call GK hr rfl T.m_is_kept T.F_is_kept.kp (b_is_kept T) .nil pass0 (pa_cons (pv 0) (pa_cons (pv 1) (pa_cons (pv 2) (pa_cons (pe_op op_sub (pv 3) (pv 8)) (pa_cons (pv 4) (pa_cons (pe_op op_sub (pv 5) pe_int) pa_nil)))))))))))) (pss_one ps_continue) pss_nil)
      (pss_one (ps_ret (pe_tup (pa_cons (pv 7) (pa_cons (pv 8) pa_nil)))))))))
    (pss_one (ps_ret pe_non)))), ?_⟩
  refine v_asg (w_min (val_var rfl) (w_ar (val_var rfl) (val_var rfl))) ?_
  refine v_for2 (w_arC (w_ar (val_var rfl) val_c) val_c ⟨by decide, by decide⟩) (w_ar (w_min (val_var rfl) (val_var rfl)) val_c) (by omega)
    (fun i σ H' => (∃ z1 z2, σ = [some (.ref p), some (.int d), some (.int q), some (.int f), some (.int a), some (.int b), some (.int (min q (d + f))), z1, z2]) ∧ Mem H p d q (L + i * (2 * puts n)) H' ∧
      ∀ j : Nat, j < i → okx d q f a b ((min q (d + f) + 1) / 2 + (j : Int)) = true) ⟨⟨none, none, rfl⟩, hM.le (by omega), fun j hj => by omega⟩ ?_ ?_
  · rintro i σ' H' hi ⟨⟨z1, z2, rfl⟩, hM', hok⟩
    have hi1 : i ≤ 1000 := by omega
    have hbnd : i * (2 * puts n) ≤ 1000 * (2 * puts n) := Nat.mul_le_mul_right _ hi1
    have hsuc : (i + 1) * (2 * puts n) = i * (2 * puts n) + 2 * puts n := Nat.succ_mul _ _
    generalize hxx : (min q (d + f) + 1) / 2 + (i : Int) = x at *
    have hx1 : min q (d + f) ≤ 2 * x := by omega
    have hx2 : x ≤ min (min q (d + f)) f := by omega
    refine v_asg (w_ar (val_var rfl) (val_var rfl)) ?_
    refine v_whenE (fun r H1 => r = (decide (0 < a) && KP d q (f - x) (a - 1) b) ∧ Mem H p d q (L + i * (2 * puts n) + puts n) H1) (fun Q1 hQ => ?_) (fun H1 h1 => ?_) (fun H1 h1 => ?_)
    · refine k_and (w_cmp (val_var rfl) val_c) (fun c => ?_) (fun c => hQ _ _ ⟨by rw [c]; rfl, hM'.le (by omega)⟩)
      have ha' : 0 < a := of_decide_eq_true c
      refine w_call (wa_cons (val_var rfl) (wa_cons (val_var rfl) (wa_cons (val_var rfl) (wa_cons (w_ar (val_var rfl) (val_var rfl)) (wa_cons (w_ar (val_var rfl) val_c) (wa_cons (val_var rfl) wa_nil))))))
        ⟨p, d, q, f - x, a - 1, b, L + i * (2 * puts n), rfl, by omega, hb, by omega, hd, hd', hq, hq', by omega, by omega, hM'.refl, by omega, fun H2 hM2 => ⟨_, rfl, hQ _ _ ⟨by rw [c]; rfl, hM'.trans hM2⟩⟩⟩
    · obtain ⟨e1, hM1⟩ := h1
      refine ⟨⟨_, _, rfl⟩, hM1.le (by omega), fun j hj => ?_⟩
      by_cases hji : j = i
      · subst hji
        rw [hxx]
        unfold okx kpOk
        rw [← e1]
        rfl
      · exact hok j (by omega)
    obtain ⟨e1, hM1⟩ := h1
    refine v_whenE (fun r H2 => r = (decide (0 < b) && (decide (0 < min q (d + f) - x) && KP d q (f - (min q (d + f) - x)) a (b - 1))) ∧ Mem H p d q (L + i * (2 * puts n) + 2 * puts n) H2) (fun Q1 hQ => ?_) (fun H2 h2 => ?_) (fun H2 h2 => ?_)
    · refine k_and (w_cmp (val_var rfl) val_c) (fun c => ?_) (fun c => hQ _ _ ⟨by rw [c]; rfl, hM1.le (by omega)⟩)
      refine k_and (w_cmp (val_var rfl) val_c) (fun c' => ?_) (fun c' => hQ _ _ ⟨by rw [c, c']; rfl, hM1.le (by omega)⟩)
      have hb' : 0 < b := of_decide_eq_true c
      have hy' : 0 < min q (d + f) - x := of_decide_eq_true c'
      refine w_call (wa_cons (val_var rfl) (wa_cons (val_var rfl) (wa_cons (val_var rfl) (wa_cons (w_ar (val_var rfl) (val_var rfl)) (wa_cons (val_var rfl) (wa_cons (w_ar (val_var rfl) val_c) wa_nil))))))
        ⟨p, d, q, f - (min q (d + f) - x), a, b - 1, L + i * (2 * puts n) + puts n, rfl, by omega, by omega, by omega, hd, hd', hq, hq', by omega, by omega, hM1.refl, by omega, fun H3 hM3 => ⟨_, rfl, hQ _ _ ⟨by rw [c, c']; rfl, (hM1.trans hM3).le (by omega)⟩⟩⟩
    · obtain ⟨e2, hM2⟩ := h2
      refine ⟨⟨_, _, rfl⟩, hM2.le (by omega), fun j hj => ?_⟩
      by_cases hji : j = i
      · subst hji
        rw [hxx]
        unfold okx kpOk
        rw [Bool.and_assoc, ← e2, Bool.or_true]
      · exact hok j (by omega)
    obtain ⟨e2, hM2⟩ := h2
    refine v_ret' (w_tup (wa_cons (val_var rfl) (wa_cons (val_var rfl) wa_nil)) (by simp) fun t ht => ?_)
    refine k _ _ ?_ ((hM2.le (by omega)).same (same_new ht _))
    have hz : (KPP d q f a b).isNone = false := by
      refine xs2_some (i := i) (by omega) ?_
      rw [hxx]
      unfold okx kpOk
      rw [Bool.and_assoc, ← e1, ← e2]
      rfl
    rw [hz]
    exact decide_eq_false (fun e => nomatch e)
  · rintro σ' H' ⟨⟨z1, z2, rfl⟩, hM', hok⟩
    refine v_ret val_c ?_
    have hi1 : (min (min q (d + f)) f + 1 - (min q (d + f) + 1) / 2).toNat ≤ 1001 := by omega
    have hbnd : (min (min q (d + f)) f + 1 - (min q (d + f) + 1) / 2).toNat * (2 * puts n) ≤ 1001 * (2 * puts n) := Nat.mul_le_mul_right _ hi1
    refine k _ _ ?_ (hM'.le (by omega))
    have hz : (KPP d q f a b).isNone = true := xs2_none fun j hj => hok j (by omega)
    rw [hz]
    exact decide_eq_true rfl
theorem kept_step (T : Env K mg) {n k : Nat} (GF : FnOk P w K mg base CX0 k T.f_failing_parting T.d_failing_parting p_failing_parting (spFail n)) : FnOk P w K mg base CX0 (k + 1) T.f_is_kept T.d_is_kept p_is_kept (spKept (n + 1)) := by
  refine T.F_is_kept.ok sc_is_kept (fun vs H Q E h => ?_) (fun cdv A outer s H vs Q E hr h => ?_)
  · obtain ⟨p, d, q, f, a, b, L, rfl, _⟩ := h
    rfl
  obtain ⟨p, d, q, f, a, b, L, rfl, ha, hb, hn, hd, hd', hq, hq', hf, hf', hM, hL, k⟩ := h
  have hu := hu_of hr
  refine ⟨_, (pss_cons (ps_if (pt_cmpR op_eq (pv 3) pe_int (nomark _)) (pss_one (ps_ret pe_bl)) pss_nil)
    (pss_cons (ps_set (i := 6) sc_is_kept.nd rfl (Or.inl rfl) (pe_tup (pa_cons (pv 3) (pa_cons (pv 4) (pa_cons (pv 5) pa_nil)))))
    (pss_cons (ps_if (pt_cmp (pc_dnotin hu (pv 6) (pv 0))) (pss_one (ps_dput hu (pv 0) (pv 6) (pe_cmpR op_isN (pe_call GF hr rfl T.m_failing_parting T.F_failing_parting.kp (b_failing_parting T) .nil pass0 (pa_cons (pv 0) (pa_cons (pv 1) (pa_cons (pv 2) (pa_cons (pv 3) (pa_cons (pv 4) (pa_cons (pv 5) pa_nil))))))) pe_non (nomark _)) rfl)) pss_nil)
    (pss_one (ps_ret (pe_dget hu (pv 0) (pv 6) (fun _ _ => rfl))))))), ?_⟩
  have hpu : puts (n + 1) = 1 + 2002 * puts n := rfl
  refine v_when (w_eqI (val_var rfl) val_c) (fun c => ?_) (fun c => ?_)
  · refine v_ret val_c ?_
    have hf0 : f = 0 := of_decide_eq_true c
    have e : KP d q f a b = true := by rw [KP_eq ha hb, if_pos hf0]
    rw [← e]
    exact k H (hM.le (by omega))
  have hf0 : ¬ f = 0 := of_decide_eq_false c
  have eKP : KP d q f a b = (KPP d q f a b).isNone := by rw [KP_eq ha hb, if_neg hf0]
  refine v_asg' (w_tup (wa_cons (val_var rfl) (wa_cons (val_var rfl) (wa_cons (val_var rfl) wa_nil))) (by simp) fun t ht => ?_)
  have hM1 := hM.same (same_new ht (.tup [.int f, .int a, .int b]))
  have htt : upd H t (.tup [.int f, .int a, .int b]) t = some (.tup (([.inl f, .inl a, .inl b] : List Key).map kV)) := upd_same
  generalize upd H t (.tup [.int f, .int a, .int b]) = H1 at *
  have htp : t ≠ p := by
    obtain ⟨kvs, e, _⟩ := hM
    exact (ne_of_none e ht).symm
  obtain ⟨kvs, hp, hok, hlen, hkeep⟩ := id hM1
  have fin : ∀ H2, Mem H p d q (L + puts (n + 1)) H2 → H2 t = some (.tup (([.inl f, .inl a, .inl b] : List Key).map kV)) → (∃ kvs2 v, H2 p = some (.dT kvs2) ∧ valV kvs2 [.inl f, .inl a, .inl b] = some v) →
      tRet (tDGet (tVar 0) (tVar 6)) { nx := fun _ H' => Q .non H', rt := Q } [some (.ref p), some (.int d), some (.int q), some (.int f), some (.int a), some (.int b), some (.ref t)] H2 := by
    intro H2 hM2 ht2 h2
    obtain ⟨kvs2, v, hp2, hv⟩ := h2
    refine ⟨_, rfl, _, rfl, p, v, rfl, ?_, ?_⟩
    · rw [← hv]
      exact DGet.t hp2 ht2
    · obtain ⟨kvs3, e3, ok3, _, _⟩ := id hM2
      rw [hp2] at e3
      cases e3
      rw [ok3 _ _ _ _ hv]
      exact k H2 hM2
  refine v_when' ⟨_, rfl, _, rfl, p, _, rfl, DGet.t hp htt, _, rfl, ?_⟩
  cases e : valV kvs [.inl f, .inl a, .inl b] with
  | some v =>
    refine iteF ?_
    exact fin H1 (hM1.le (by omega)) htt ⟨kvs, v, hp, e⟩
  | none =>
    refine iteT ?_
    refine w_call (wa_cons (val_var rfl) (wa_cons (val_var rfl) (wa_cons (val_var rfl) (wa_cons (val_var rfl) (wa_cons (val_var rfl) (wa_cons (val_var rfl) wa_nil))))))
      ⟨p, d, q, f, a, b, L, rfl, ha, hb, by omega, hd, hd', hq, hq', hf, hf', hM1.refl, by omega, fun v H2 hv hM2 => ?_⟩
    have hM2' := hM1.trans hM2
    obtain ⟨kvs2, hp2, ok2, len2, keep2⟩ := id hM2
    have ht2 : H2 t = some (.tup (([.inl f, .inl a, .inl b] : List Key).map kV)) := keep2 t _ htt htp
    refine ⟨rfl, _, rfl, _, rfl, p, _, rfl, DPut.t hp2 ht2 (Nat.lt_of_le_of_lt (by omega : kvs2.length ≤ 16000000) (by rw [PySem.sizeLine_eq]; decide)), ?_⟩
    refine fin _ ?_ ?_ ?_
    · refine ⟨_, upd_same, fun f' a' b' v' hv' => ?_, Nat.le_trans (length_putK _ _ _) (by omega), fun c o hc hcp => ?_⟩
      · rw [valV_put] at hv'
        by_cases hk : ([.inl f', .inl a', .inl b'] : List Key) = [.inl f, .inl a, .inl b]
        · rw [if_pos hk] at hv'
          cases hv'
          simp only [List.cons.injEq, Sum.inl.injEq, and_true] at hk
          obtain ⟨rfl, rfl, rfl⟩ := hk
          rw [eKP, hv]
        · rw [if_neg hk] at hv'
          exact ok2 _ _ _ _ hv'
      · rw [upd_ne hcp]
        obtain ⟨_, _, _, _, k2⟩ := hM2'
        exact k2 c o hc hcp
    · rw [upd_ne htp]
      exact ht2
    · exact ⟨_, _, upd_same, by rw [valV_put, if_pos rfl]⟩
theorem kept_none (T : Env K mg) : FnOk P w K mg base CX0 0 T.f_is_kept T.d_is_kept p_is_kept (spKept 0) := by
  have no : ∀ vs H Q E, ¬ spKept 0 vs H Q E := fun vs H Q E h => by
    obtain ⟨p, d, q, f, a, b, L, _, _, _, h1, _⟩ := h
    omega
  exact ⟨fun vs H Q E h => absurd h (no vs H Q E), fun A outer s H args us vs Q E _ _ _ _ h => absurd h (no vs H Q E)⟩
theorem G_is_kept (T : Env K mg) : FnOk P w K mg base CX0 6 T.f_is_kept T.d_is_kept p_is_kept (spKept 3) :=
  kept_step T (fail_step T (kept_step T (fail_step T (kept_step T (fail_step T (kept_none T))))))

end
end P84

/-! D3 -/
namespace P84
open PySem L2 Evl
section
variable {P : Program} {w : World} {K : PySem.W.Frag} {mg : Str → Option Value} {base : Heap}
def spChk : Sp := fun vs H Q _ => ∃ d q f a b : Int, vs = [.int d, .int q, .int f, .int a, .int b] ∧ 1 ≤ d ∧ d ≤ 1000 ∧ 1 ≤ q ∧ q ≤ 60 ∧ 0 ≤ f ∧ f ≤ 60 ∧ 0 ≤ a ∧ a ≤ 6 ∧ 0 ≤ b ∧ b ≤ 6 ∧ ∀ H', Same H H' → Q .non H'
theorem G_check_asked (T : Env K mg) : FnOk P w K mg base CX0 3 T.f_check_asked T.d_check_asked p_check_asked spChk := by
  refine T.F_check_asked.ok sc_check_asked (fun vs H Q E h => ?_) (fun cdv A outer s H vs Q E hr h => ?_)
  · obtain ⟨d, q, f, a, b, rfl, _⟩ := h
    rfl
  obtain ⟨d, q, f, a, b, rfl, hd, hd', hq, hq', hf, hf', ha, ha', hb, hb', k⟩ := h
  have hu := hu_of hr
  refine ⟨_, (pss_cons (ps_expr (pe_call (G_check_at_most T) (hr.mono (by decide)) rfl T.m_check_at_most T.F_check_at_most.kp (b_check_at_most T) .nil pass0 (pa_cons (pv 3) (pa_cons (pe_glob (v := .int 6) rfl T.c_MOST_BUDGET_asktables ⟨_, rfl⟩) (pa_cons pe_str pa_nil)))))
    (pss_cons (ps_expr (pe_call (G_check_at_most T) (hr.mono (by decide)) rfl T.m_check_at_most T.F_check_at_most.kp (b_check_at_most T) .nil pass0 (pa_cons (pv 4) (pa_cons (pe_glob (v := .int 6) rfl T.c_MOST_BUDGET_asktables ⟨_, rfl⟩) (pa_cons pe_str pa_nil)))))
    (pss_cons (ps_expr (pe_call (G_check_at_most T) (hr.mono (by decide)) rfl T.m_check_at_most T.F_check_at_most.kp (b_check_at_most T) .nil pass0 (pa_cons (pv 0) (pa_cons (pe_glob (v := .int 1000000000000000000000000000000) rfl T.c_MOST_NUMBER_asktables ⟨_, rfl⟩) (pa_cons pe_str pa_nil)))))
    (pss_cons (ps_if (PW.pt (pw_or (pt_cmpR op_gt (pv 1) (pe_glob (v := .int 60) rfl T.c_MOST_ASKS_asktables ⟨_, rfl⟩) (nomark _)) (pw_or1 (pt_cmpR op_gt (pv 2) (pe_glob (v := .int 60) rfl T.c_MOST_ASKS_asktables ⟨_, rfl⟩) (nomark _))))) (pss_one ps_never) pss_nil)
    (pss_cons (ps_expr (pe_call (G_check_least T) (hr.mono (by decide)) rfl T.m_check_least T.F_check_least.kp (b_check_least T) .nil pass0 (pa_cons (pe_lst (pa_cons (pv 0) (pa_cons (pv 1) pa_nil))) (pa_cons pe_int pa_nil))))
    (pss_one (ps_expr (pe_call (G_check_least T) (hr.mono (by decide)) rfl T.m_check_least T.F_check_least.kp (b_check_least T) .nil pass0 (pa_cons (pe_lst (pa_cons (pv 2) (pa_cons (pv 3) (pa_cons (pv 4) pa_nil)))) (pa_cons pe_int pa_nil)))))))))), ?_⟩
  refine v_atmost (val_var rfl) (by omega) fun H1 e1 => ?_
  refine v_atmost (val_var rfl) (by omega) fun H2 e2 => ?_
  refine v_atmost (val_var rfl) (by omega) fun H3 e3 => ?_
  refine v_when (w_or (w_cmp (val_var rfl) val_c) fun c => (w_cmp (val_var rfl) val_c)) (fun c => ?_) (fun c => ?_)
  · exfalso
    simp at c
    omega
  refine v_least [d, q] (wa_cons (val_var rfl) (wa_cons (val_var rfl) wa_nil)) (by simp) (by simp; omega) fun H4 e4 => ?_
  refine v_least1 [f, a, b] (wa_cons (val_var rfl) (wa_cons (val_var rfl) (wa_cons (val_var rfl) wa_nil))) (by simp) (by simp; omega) fun H5 e5 => ?_
  exact k _ ((((e1.trans e2).trans e3).trans e4).trans e5)
def spKeptA : Sp := fun vs H Q _ => ∃ d q f a b : Int, vs = [.int d, .int q, .int f, .int a, .int b] ∧ 1 ≤ d ∧ d ≤ 1000 ∧ 1 ≤ q ∧ q ≤ 60 ∧ 0 ≤ f ∧ f ≤ 60 ∧ 0 ≤ a ∧ 0 ≤ b ∧ a + b ≤ 2 ∧ ∀ H', Same H H' → Q (.bl (KP d q f a b)) H'
theorem G_kept_asked (T : Env K mg) : FnOk P w K mg base CX0 7 T.f_kept_asked T.d_kept_asked p_kept_asked spKeptA := by
  refine T.F_kept_asked.ok sc_kept_asked (fun vs H Q E h => ?_) (fun cdv A outer s H vs Q E hr h => ?_)
  · obtain ⟨d, q, f, a, b, rfl, _⟩ := h
    rfl
  obtain ⟨d, q, f, a, b, rfl, hd, hd', hq, hq', hf, hf', ha, hb, hab, k⟩ := h
  have hu := hu_of hr
  refine ⟨_, (pss_cons (ps_expr (pe_call (G_check_asked T) (hr.mono (by decide)) rfl T.m_check_asked T.F_check_asked.kp (b_check_asked T) .nil pass0 (pa_cons (pv 0) (pa_cons (pv 1) (pa_cons (pv 2) (pa_cons (pv 3) (pa_cons (pv 4) pa_nil)))))))
    (pss_one (ps_ret (pe_call (G_is_kept T) (hr.mono (by decide)) rfl T.m_is_kept T.F_is_kept.kp (b_is_kept T) .nil pass0 (pa_cons pe_dnewT (pa_cons (pv 0) (pa_cons (pv 1) (pa_cons (pv 2) (pa_cons (pv 3) (pa_cons (pv 4) pa_nil)))))))))), ?_⟩
  refine v_drop (w_call (wa_cons (val_var rfl) (wa_cons (val_var rfl) (wa_cons (val_var rfl) (wa_cons (val_var rfl) (wa_cons (val_var rfl) wa_nil))))) ⟨d, q, f, a, b, rfl, hd, hd', hq, hq', hf, hf', ha, by omega, hb, by omega, fun H1 e1 => ?_⟩)
  refine v_ret' ?_
  refine (fun p hp => ?_ : ∀ p, H1 p = none → _)
  refine wa_cons (val_var rfl) (wa_cons (val_var rfl) (wa_cons (val_var rfl) (wa_cons (val_var rfl) (wa_cons (val_var rfl) wa_nil)))) _ ?_
  refine ⟨p, d, q, f, a, b, 0, rfl, ha, hb, by omega, hd, by omega, hq, by omega, hf, by omega, ⟨[], upd_same, (by intro f a b v h; cases h), Nat.le_refl _, fun c o h _ => h⟩, by decide, fun H2 hM => k H2 fun c o hc => ?_⟩
  obtain ⟨_, _, _, _, keep⟩ := hM
  have h1 := e1 c o hc
  have hcp : c ≠ p := ne_of_none h1 hp
  exact keep c o (by rw [upd_ne hcp]; exact h1) hcp
def spMakes : Sp := fun vs H Q _ => ∃ d f q : Int, vs = [.int d, .int f, .int q] ∧ 1 ≤ d ∧ d ≤ 1000 ∧ 0 ≤ f ∧ f ≤ 1000 ∧ 1 ≤ q ∧ q ≤ 100000 ∧ ∀ H', Same H H' → Q (optV (makesF d f q)) H'
theorem G_makes_asked (T : Env K mg) : FnOk P w K mg base CX0 2 T.f_makes_asked T.d_makes_asked p_makes_asked spMakes := by
  refine T.F_makes_asked.ok sc_makes_asked (fun vs H Q E h => ?_) (fun cdv A outer s H vs Q E hr h => ?_)
  · obtain ⟨d, f, q, rfl, _⟩ := h
    rfl
  obtain ⟨d, f, q, rfl, hd, hd', hf, hf', hq, hq', k⟩ := h
  have hu := hu_of hr
  refine ⟨_, (pss_cons (ps_expr (pe_call (G_check_numbers T) (hr.mono (by decide)) rfl T.m_check_numbers T.F_check_numbers.kp (b_check_numbers T) .nil pass0 (pa_cons (pe_lst (pa_cons (pv 0) (pa_cons (pv 1) (pa_cons (pv 2) pa_nil)))) pa_nil)))
    (pss_cons (ps_expr (pe_call (G_check_least T) (hr.mono (by decide)) rfl T.m_check_least T.F_check_least.kp (b_check_least T) .nil pass0 (pa_cons (pe_lst (pa_cons (pv 0) (pa_cons (pv 2) pa_nil))) (pa_cons pe_int pa_nil))))
    (pss_cons (ps_expr (pe_call (G_check_least T) (hr.mono (by decide)) rfl T.m_check_least T.F_check_least.kp (b_check_least T) .nil pass0 (pa_cons (pe_lst (pa_cons (pv 1) pa_nil)) (pa_cons pe_int pa_nil))))
    (pss_cons (ps_if (pt_cmpR op_eq (pv 1) pe_int (nomark _)) (pss_one (ps_ret pe_int)) pss_nil)
    (pss_cons (ps_if (pt_cmpR op_le (pv 2) (pv 1) (nomark _)) (pss_one (ps_ret pe_non)) pss_nil)
    (pss_cons (ps_set (i := 3) sc_makes_asked.nd rfl (Or.inl rfl) pe_int)
    (pss_cons (ps_while PassesOwn.never (PW.pt (pw_and (pt_cmpR op_lt (pe_op op_sub (pv 2) (pv 1)) (pv 0) (nomark _)) (pw_and1 (pt_cmpR op_le (pe_op op_sub (pv 2) (pv 1)) (pv 1) (nomark _))))) (pss_cons (ps_set (i := 1) sc_makes_asked.nd rfl (Or.inl rfl) (pe_op op_sub (pe_op op_add (pv 1) (pv 1)) (pv 2)))
      (pss_one (ps_aug (i := 3) sc_makes_asked.nd rfl (Or.inl rfl) pe_int ip_add))))
    (pss_cons (ps_if (pt_cmpR op_lt (pe_op op_sub (pv 2) (pv 1)) (pv 0) (nomark _)) (pss_one (ps_ret (pv 3))) pss_nil)
    (pss_one (ps_ret (pe_op op_add (pv 3) (pe_op op_fdiv (pv 1) (pv 0))))))))))))), ?_⟩
  refine v_nums [d, f, q] (wa_cons (val_var rfl) (wa_cons (val_var rfl) (wa_cons (val_var rfl) wa_nil))) (by simp) (by simp; omega) fun H1 e1 => ?_
  refine v_least [d, q] (wa_cons (val_var rfl) (wa_cons (val_var rfl) wa_nil)) (by simp) (by simp; omega) fun H2 e2 => ?_
  refine v_least [f] (wa_cons (val_var rfl) wa_nil) (by simp) (by simp; omega) fun H3 e3 => ?_
  have k' := fun H' (e : Same H3 H') => k H' (((e1.trans e2).trans e3).trans e)
  unfold makesF at k'
  refine v_when (w_eqI (val_var rfl) val_c) (fun c => ?_) (fun c => ?_)
  · refine v_ret val_c ?_
    have := k' H3 (Same.refl _)
    rw [if_pos (of_decide_eq_true c)] at this
    exact this
  have c1 := of_decide_eq_false c
  refine v_when (w_cmp (val_var rfl) (val_var rfl)) (fun c => ?_) (fun c => ?_)
  · refine v_ret val_c ?_
    have := k' H3 (Same.refl _)
    rw [if_neg c1, if_pos (of_decide_eq_true c)] at this
    exact this
  have c2 := of_decide_eq_false c
  have k2 := k' H3 (Same.refl _)
  rw [if_neg c1, if_neg c2] at k2
  refine v_asg val_c ?_
  refine v_while (fun m σ H' => H' = H3 ∧ ∃ f' n' : Int, σ = [some (.int d), some (.int f'), some (.int q), some (.int n')] ∧ 0 ≤ f' ∧ f' < q ∧ f'.toNat ≤ m ∧ wmakes d q m f' n' = wmakes d q f.toNat f 0) f.toNat ⟨rfl, f, 0, rfl, hf, by omega, Nat.le_refl _, rfl⟩ ?_
  rintro m σ' H' ⟨rfl, f', n', rfl, h0, h1, hm, hw⟩
  refine ⟨_, (w_and (w_cmp (w_ar (val_var rfl) (val_var rfl)) (val_var rfl)) fun c => (w_cmp (w_ar (val_var rfl) (val_var rfl)) (val_var rfl))), fun c => ⟨fun σ H2 => H2 = H' ∧ σ = [some (.int d), some (.int (f' + f' - q)), some (.int q), some (.int (n' + 1))], ?_, ?_⟩, fun c => ?_⟩
  · rintro σ2 H2 ⟨rfl, rfl⟩
    simp only [Bool.and_eq_true, decide_eq_true_eq] at c
    cases m with
    | zero => omega
    | succ m =>
      refine ⟨m, Nat.lt_succ_self _, rfl, _, _, rfl, by omega, by omega, by omega, ?_⟩
      rw [← hw]
      show _ = (if q - f' < d ∧ q - f' ≤ f' then wmakes d q m (f' + f' - q) (n' + 1) else (f', n'))
      rw [if_pos ⟨c.1, c.2⟩]
  · refine v_asg (w_ar (w_ar (val_var rfl) (val_var rfl)) (val_var rfl)) ?_
    refine v_aug1 rfl val_c ?_
    exact ⟨rfl, rfl⟩
  · have e : wmakes d q f.toNat f 0 = (f', n') := by
      rw [← hw]
      cases m with
      | zero => rfl
      | succ m =>
        show (if q - f' < d ∧ q - f' ≤ f' then wmakes d q m (f' + f' - q) (n' + 1) else (f', n')) = _
        rw [if_neg]
        rintro ⟨x1, x2⟩
        rw [decide_eq_true x1, decide_eq_true x2] at c
        cases c
    rw [e] at k2
    refine v_when (w_cmp (w_ar (val_var rfl) (val_var rfl)) (val_var rfl)) (fun c => ?_) (fun c => ?_)
    · refine v_ret (val_var rfl) ?_
      have c3 : q - f' < d := of_decide_eq_true c
      have k3 : Q (optV (if q - f' < d then some n' else some (n' + f' / d))) H' := k2
      rw [if_pos c3] at k3
      exact k3
    · refine v_ret (w_ar (val_var rfl) (w_arC (val_var rfl) (val_var rfl) ⟨by omega, by omega⟩)) ?_
      have c3 : ¬ q - f' < d := of_decide_eq_false c
      have k3 : Q (optV (if q - f' < d then some n' else some (n' + f' / d))) H' := k2
      rw [if_neg c3] at k3
      exact k3
def spRec : Sp := fun vs H Q _ => ∃ d f q : Int, vs = [.int d, .int f, .int q] ∧ 1 ≤ d ∧ d ≤ 1000 ∧ 0 ≤ f ∧ f ≤ 1000 ∧ 1 ≤ q ∧ q ≤ 100000 ∧ ∀ H', Same H H' → Q (.int (recF d f q)) H'
theorem G_recalls_asked (T : Env K mg) : FnOk P w K mg base CX0 2 T.f_recalls_asked T.d_recalls_asked p_recalls_asked spRec := by
  refine T.F_recalls_asked.ok sc_recalls_asked (fun vs H Q E h => ?_) (fun cdv A outer s H vs Q E hr h => ?_)
  · obtain ⟨d, f, q, rfl, _⟩ := h
    rfl
  obtain ⟨d, f, q, rfl, hd, hd', hf, hf', hq, hq', k⟩ := h
  have hu := hu_of hr
  refine ⟨_, (pss_cons (ps_expr (pe_call (G_check_numbers T) (hr.mono (by decide)) rfl T.m_check_numbers T.F_check_numbers.kp (b_check_numbers T) .nil pass0 (pa_cons (pe_lst (pa_cons (pv 0) (pa_cons (pv 1) (pa_cons (pv 2) pa_nil)))) pa_nil)))
    (pss_cons (ps_expr (pe_call (G_check_least T) (hr.mono (by decide)) rfl T.m_check_least T.F_check_least.kp (b_check_least T) .nil pass0 (pa_cons (pe_lst (pa_cons (pv 0) (pa_cons (pv 2) pa_nil))) (pa_cons pe_int pa_nil))))
    (pss_cons (ps_expr (pe_call (G_check_least T) (hr.mono (by decide)) rfl T.m_check_least T.F_check_least.kp (b_check_least T) .nil pass0 (pa_cons (pe_lst (pa_cons (pv 1) pa_nil)) (pa_cons pe_int pa_nil))))
    (pss_cons (ps_set (i := 3) sc_recalls_asked.nd rfl (Or.inl rfl) (pe_op op_fdiv (pe_op op_add (pv 2) pe_int) pe_int))
    (pss_cons (ps_set (i := 4) sc_recalls_asked.nd rfl (Or.inl rfl) (pe_callB (call_max2 rfl) (by rfl) T.z_max (by decide +kernel) (pa_cons (pv 3) (pa_cons (pe_op op_sub (pv 2) (pv 0)) pa_nil))))
    (pss_cons (ps_set (i := 5) sc_recalls_asked.nd rfl (Or.inl rfl) pe_int)
    (pss_cons (ps_if (pt_cmpR op_ge (pv 1) (pv 4) (nomark _)) (pss_cons (ps_set (i := 5) sc_recalls_asked.nd rfl (Or.inl rfl) (pe_op op_add (pe_op op_fdiv (pe_op op_sub (pv 1) (pv 4)) (pv 3)) pe_int))
      (pss_one (ps_set (i := 1) sc_recalls_asked.nd rfl (Or.inl rfl) (pe_op op_sub (pv 1) (pe_op op_mul (pv 5) (pv 3)))))) pss_nil)
    (pss_cons (ps_while PassesOwn.never (PW.pt (pw_and (pt_cmpR op_lt (pe_op op_add (pv 0) (pv 1)) (pv 2) (nomark _)) (pw_and1 (pt_cmpR op_le (pe_op op_fdiv (pe_op op_add (pe_op op_add (pv 0) (pv 1)) pe_int) pe_int) (pv 1) (nomark _))))) (pss_cons (ps_set (i := 1) sc_recalls_asked.nd rfl (Or.inl rfl) (pe_op op_sub (pv 1) (pe_op op_fdiv (pe_op op_add (pe_op op_add (pv 0) (pv 1)) pe_int) pe_int)))
      (pss_one (ps_aug (i := 5) sc_recalls_asked.nd rfl (Or.inl rfl) pe_int ip_add))))
    (pss_one (ps_ret (pv 5))))))))))), ?_⟩
  refine v_nums [d, f, q] (wa_cons (val_var rfl) (wa_cons (val_var rfl) (wa_cons (val_var rfl) wa_nil))) (by simp) (by simp; omega) fun H1 e1 => ?_
  refine v_least [d, q] (wa_cons (val_var rfl) (wa_cons (val_var rfl) wa_nil)) (by simp) (by simp; omega) fun H2 e2 => ?_
  refine v_least [f] (wa_cons (val_var rfl) wa_nil) (by simp) (by simp; omega) fun H3 e3 => ?_
  have k' := k H3 ((e1.trans e2).trans e3)
  unfold recF at k'
  simp only at k'
  refine v_asg (w_arC (w_ar (val_var rfl) val_c) val_c ⟨by decide, by decide⟩) ?_
  refine v_asg (w_max (val_var rfl) (w_ar (val_var rfl) (val_var rfl))) ?_
  refine v_asg val_c ?_
  generalize hh : (q + 1) / 2 = half at *
  generalize hl : max half (q - d) = low at *
  have last : ∀ (f1 n1 : Int), 0 ≤ f1 → Q (.int (wrec d q (f1.toNat + 1) f1 n1)) H3 → tSeq (tWhile (tAnd (tTest (tOp (rI0 fun i j => .bl (decide (i < j))) (tOp (rI0 fun i j => .int (i + j)) (tVar 0) (tVar 1)) (tVar 2))) (tTest (tOp (rI0 fun i j => .bl (decide (i ≤ j))) (tOp (rI CDiv fun i j => .int (i / j)) (tOp (rI0 fun i j => .int (i + j)) (tOp (rI0 fun i j => .int (i + j)) (tVar 0) (tVar 1)) (tC (.int 1))) (tC (.int 2))) (tVar 1))))
      (tSeq (tAsg (tOp (rI0 fun i j => .int (i - j)) (tVar 1) (tOp (rI CDiv fun i j => .int (i / j)) (tOp (rI0 fun i j => .int (i + j)) (tOp (rI0 fun i j => .int (i + j)) (tVar 0) (tVar 1)) (tC (.int 1))) (tC (.int 2)))) (gName 1)) (tAug 5 (tC (.int 1)) (ipI fun i j => i + j)))) (tRet (tVar 5)) { nx := fun _ H' => Q .non H', rt := Q } [some (.int d), some (.int f1), some (.int q), some (.int half), some (.int low), some (.int n1)] H3 := by
    intro f1 n1 hf1 kk
    refine v_while (fun m σ H' => H' = H3 ∧ ∃ f' n' : Int, σ = [some (.int d), some (.int f'), some (.int q), some (.int half), some (.int low), some (.int n')] ∧ 0 ≤ f' ∧ f'.toNat < m ∧ wrec d q m f' n' = wrec d q (f1.toNat + 1) f1 n1) (f1.toNat + 1) ⟨rfl, f1, n1, rfl, hf1, Nat.lt_succ_self _, rfl⟩ ?_
    rintro m σ' H' ⟨rfl, f', n', rfl, h0, hm, hw⟩
    refine ⟨_, (w_and (w_cmp (w_ar (val_var rfl) (val_var rfl)) (val_var rfl)) fun c => (w_cmp (w_arC (w_ar (w_ar (val_var rfl) (val_var rfl)) val_c) val_c ⟨by decide, by decide⟩) (val_var rfl))), fun c => ⟨fun σ H2 => H2 = H' ∧ σ = [some (.int d), some (.int (f' - (d + f' + 1) / 2)), some (.int q), some (.int half), some (.int low), some (.int (n' + 1))], ?_, ?_⟩, fun c => ?_⟩
    · rintro σ2 H2 ⟨rfl, rfl⟩
      simp only [Bool.and_eq_true, decide_eq_true_eq] at c
      cases m with
      | zero => omega
      | succ m =>
        refine ⟨m, Nat.lt_succ_self _, rfl, _, _, rfl, by omega, by omega, ?_⟩
        rw [← hw]
        show _ = (if d + f' < q ∧ (d + f' + 1) / 2 ≤ f' then wrec d q m (f' - (d + f' + 1) / 2) (n' + 1) else n')
        rw [if_pos ⟨c.1, c.2⟩]
    · refine v_asg (w_ar (val_var rfl) (w_arC (w_ar (w_ar (val_var rfl) (val_var rfl)) val_c) val_c ⟨by decide, by decide⟩)) ?_
      refine v_aug1 rfl val_c ?_
      exact ⟨rfl, rfl⟩
    · refine v_ret (val_var rfl) ?_
      have e : wrec d q (f1.toNat + 1) f1 n1 = n' := by
        rw [← hw]
        cases m with
        | zero => rfl
        | succ m =>
          show (if d + f' < q ∧ (d + f' + 1) / 2 ≤ f' then wrec d q m (f' - (d + f' + 1) / 2) (n' + 1) else n') = _
          rw [if_neg]
          rintro ⟨x1, x2⟩
          rw [decide_eq_true x1, decide_eq_true x2] at c
          cases c
      rw [e] at kk
      exact kk
  refine v_when (w_cmp (val_var rfl) (val_var rfl)) (fun c => ?_) (fun c => ?_)
  · have c1 : low ≤ f := of_decide_eq_true c
    rw [if_pos c1, if_pos c1] at k'
    have g1 : (f - low) / half * half ≤ f - low := Int.ediv_mul_le _ (by omega)
    have g2 : ((f - low) / half + 1) * half = (f - low) / half * half + half := by rw [Int.add_mul, Int.one_mul]
    have g3 : 0 ≤ (f - low) / half := Int.ediv_nonneg (by omega) (by omega)
    have g4 : (f - low) / half ≤ f - low := Int.ediv_le_self _ (by omega)
    refine v_asg (w_ar (w_arC (w_ar (val_var rfl) (val_var rfl)) (val_var rfl) ⟨by omega, by omega⟩) val_c) ?_
    refine v_asg1 (w_ar (val_var rfl) (w_arC (val_var rfl) (val_var rfl) (Or.inr ⟨by omega, by omega⟩))) ?_
    exact last _ _ (by omega) k'
  · have c1 : ¬ low ≤ f := of_decide_eq_false c
    rw [if_neg c1, if_neg c1] at k'
    exact last _ _ hf k'

end
end P84

/-! D4 -/
namespace P84
open PySem L2 Evl
section
variable {P : Program} {w : World} {K : PySem.W.Frag} {mg : Str → Option Value} {base : Heap}
theorem G_check_budget_bounds (T : Env K mg) : FnOk P w K mg base CX0 3 T.f_check_budget_bounds T.d_check_budget_bounds p_check_budget_bounds (spBud 6) := by
  refine T.F_check_budget_bounds.ok sc_check_budget_bounds (fun vs H Q E h => ?_) (fun cdv A outer s H vs Q E hr h => ?_)
  · obtain ⟨a, b, rfl, _⟩ := h
    rfl
  obtain ⟨a, b, rfl, ha, hb, q⟩ := h
  have hu := hu_of hr
  refine ⟨_, (pss_cons (ps_expr (pe_call (G_check_at_most T) (hr.mono (by decide)) rfl T.m_check_at_most T.F_check_at_most.kp (b_check_at_most T) .nil pass0 (pa_cons (pv 0) (pa_cons (pe_glob (v := .int 6) rfl T.c_MOST_BUDGET_askwords ⟨_, rfl⟩) (pa_cons pe_str pa_nil)))))
    (pss_one (ps_expr (pe_call (G_check_at_most T) (hr.mono (by decide)) rfl T.m_check_at_most T.F_check_at_most.kp (b_check_at_most T) .nil pass0 (pa_cons (pv 1) (pa_cons (pe_glob (v := .int 6) rfl T.c_MOST_BUDGET_askwords ⟨_, rfl⟩) (pa_cons pe_str pa_nil))))))), ?_⟩
  refine v_atmost (val_var rfl) (by omega) fun H1 e1 => ?_
  refine v_atmost1 (val_var rfl) (by omega) fun H2 e2 => ?_
  exact q _ (e1.trans e2)
def spFails : Sp := fun vs H Q _ => ∃ (m q f low : Int) (high : Option Int), vs = [.int m, .int q, .int f, .int low, optV high] ∧ ∀ H', Same H H' → Q (.bl (failsF m q f low high)) H'
theorem G_fails_at (T : Env K mg) : FnOk P w K mg base CX0 1 T.f_fails_at T.d_fails_at p_fails_at spFails := by
  refine T.F_fails_at.ok sc_fails_at (fun vs H Q E h => ?_) (fun cdv A outer s H vs Q E hr h => ?_)
  · obtain ⟨m, q, f, low, high, rfl, _⟩ := h
    rfl
  obtain ⟨m, q, f, low, high, rfl, k⟩ := h
  have hu := hu_of hr
  refine ⟨_, (pss_cons (ps_set (i := 5) sc_fails_at.nd rfl (Or.inl rfl) (pe_callB (call_min2 rfl) (by rfl) T.z_min (by decide +kernel) (pa_cons (pv 1) (pa_cons (pv 0) pa_nil))))
    (pss_cons (ps_set (i := 6) sc_fails_at.nd rfl (Or.inl rfl) (pe_callB (call_min2 rfl) (by rfl) T.z_min (by decide +kernel) (pa_cons (pv 5) (pa_cons (pe_op op_sub (pv 2) (pv 3)) pa_nil))))
    (pss_cons (ps_if (pt_cmpR op_lt (pv 6) (pe_op op_sub (pv 5) (pv 6)) (nomark _)) (pss_one (ps_ret pe_bl)) pss_nil)
    (pss_one (ps_ret (pe_or (pe_cmpR op_isN (pv 4) pe_non (nomark _)) (pe_or (pe_cmpR op_eq (pv 6) (pv 5) (nomark _)) (pe_one (pe_cmpR op_le (pe_op op_sub (pv 5) (pv 6)) (pe_op op_sub (pv 2) (pv 4)) (nomark _)))))))))), ?_⟩
  refine v_asg (w_min (val_var rfl) (val_var rfl)) ?_
  refine v_asg (w_min (val_var rfl) (w_ar (val_var rfl) (val_var rfl))) ?_
  have k' := k H (Same.refl _)
  unfold failsF at k'
  simp only at k'
  refine v_when (w_cmp (val_var rfl) (w_ar (val_var rfl) (val_var rfl))) (fun c => ?_) (fun c => ?_)
  · refine v_ret val_c ?_
    rw [if_pos (of_decide_eq_true c)] at k'
    exact k'
  rw [if_neg (of_decide_eq_false c)] at k'
  cases high with
  | none => exact v_ret (w_orV (a := true) (b := true) (w_is (w_isN (val_var rfl)) rfl) (fun c => nomatch c)) k'
  | some h =>
    refine v_ret (w_orV (a := false) (w_is (w_isN (val_var rfl)) rfl) fun _ => (w_orV (w_eqIV (val_var rfl) (val_var rfl)) fun c => (w_cmpV (w_ar (val_var rfl) (val_var rfl)) (w_ar (val_var rfl) (val_var rfl))))) ?_
    exact k'
/-! least_failing -/
theorem lfS_hit {p : Int → Bool} {f : Int} (h : p f = true) : ∀ m, lfS p m f = f
  | 0 => rfl
  | m + 1 => by
    show (if p f = true then f else lfS p m (f + 1)) = f
    rw [if_pos h]
theorem lfS_miss {p : Int → Bool} {f : Int} {m : Nat} (h : p f = false) : lfS p (m + 1) f = lfS p m (f + 1) := by
  show (if p f = true then f else lfS p m (f + 1)) = _
  rw [h]
  rfl
theorem fails_far {s q f low : Int} {high : Option Int} (hs : 1 ≤ s) (hq : 1 ≤ q) (hf : 0 ≤ f) (h : low + q ≤ f) : failsF (s + f) q f low high = true := by
  have e : min (min q (s + f)) (f - low) = min q (s + f) := by omega
  unfold failsF
  simp only
  rw [e, if_neg (by omega)]
  cases high with
  | none => rfl
  | some h => simp
def lowF (s q : Int) (r m : Nat) : Int := match r with
  | 0 => 0
  | r + 1 => LF s q r m
def highF (s q : Int) (r m : Nat) : Option Int := match m with
  | 0 => none
  | m + 1 => some (LF s q r m)
theorem LF_eq (s q : Int) : ∀ r m : Nat, LF s q r m = lf s q (lowF s q r m) (highF s q r m)
  | 0, 0 => rfl
  | 0, _ + 1 => rfl
  | _ + 1, 0 => rfl
  | _ + 1, _ + 1 => rfl
def spLF : Sp := fun vs H Q _ => ∃ s q a b : Int, vs = [.int s, .int q, .int a, .int b] ∧ 1 ≤ s ∧ 1 ≤ q ∧ 0 ≤ a ∧ a ≤ 6 ∧ 0 ≤ b ∧ b ≤ 6 ∧ ∀ H', Same H H' → Q (.int (LF s q a.toNat b.toNat)) H'
/-- the table so far: all of the rows below i, and of row i the places below j -/
def LfT (s q : Int) (B : Nat) (H0 : Hp) (t : Addr) (i j L : Nat) (H' : Hp) : Prop := H0 t = none ∧ Same H0 H' ∧ ∃ kvs, H' t = some (.dT kvs) ∧ kvs.length ≤ L ∧ ∀ r m : Nat, (r < i ∧ m ≤ B ∨ r = i ∧ m < j) → valV kvs [.inl (r : Int), .inl (m : Int)] = some (.int (LF s q r m))
theorem LfT.same {s q : Int} {B : Nat} {H0 H1 H2 : Hp} {t : Addr} {i j L : Nat} (h : LfT s q B H0 t i j L H1) (e : Same H1 H2) : LfT s q B H0 t i j L H2 := by
  obtain ⟨h0, h1, kvs, h2, h3, h4⟩ := h
  exact ⟨h0, h1.trans e, kvs, e _ _ h2, h3, h4⟩
theorem G_least_failing (T : Env K mg) : FnOk P w K mg base CX0 2 T.f_least_failing T.d_least_failing p_least_failing spLF := by
  refine T.F_least_failing.ok sc_least_failing (fun vs H Q E h => ?_) (fun cdv A outer s H vs Q E hr h => ?_)
  · obtain ⟨s0, q, a, b, rfl, _⟩ := h
    rfl
  obtain ⟨s0, q, a, b, rfl, hs, hq, ha, ha', hb, hb', k⟩ := h
  have hu := hu_of hr
  refine ⟨_, (pss_cons (ps_set (i := 4) sc_least_failing.nd rfl (Or.inl rfl) pe_dnewT)
    (pss_cons (ps_for PassesOwn.never rfl (pi_range1 (by rfl) T.z_range (pa_cons (pe_op op_add (pv 2) pe_int) pa_nil)) (pg_name (i := 5) sc_least_failing.nd rfl (Or.inl rfl)) (pss_one (ps_for PassesOwn.never rfl (pi_range1 (by rfl) T.z_range (pa_cons (pe_op op_add (pv 3) pe_int) pa_nil)) (pg_name (i := 6) sc_least_failing.nd rfl (Or.inl rfl)) (pss_cons (ps_set (i := 7) sc_least_failing.nd rfl (Or.inl rfl) (pe_ifExp (pt_cmpR op_gt (pv 5) pe_int (nomark _)) (pe_dget hu (pv 4) (pe_tup (pa_cons (pe_op op_sub (pv 5) pe_int) (pa_cons (pv 6) pa_nil))) (fun _ _ => rfl)) pe_int))
        (pss_cons (ps_set (i := 8) sc_least_failing.nd rfl (Or.inl rfl) (pe_ifExp (pt_cmpR op_gt (pv 6) pe_int (nomark _)) (pe_dget hu (pv 4) (pe_tup (pa_cons (pv 5) (pa_cons (pe_op op_sub (pv 6) pe_int) pa_nil))) (fun _ _ => rfl)) pe_non))
        (pss_cons (ps_set (i := 9) sc_least_failing.nd rfl (Or.inl rfl) (pe_callB (call_max2 rfl) (by rfl) T.z_max (by decide +kernel) (pa_cons pe_int (pa_cons (pv 7) pa_nil))))
        (pss_cons (ps_while PassesOwn.never (pt_not (pt_val (pe_call (G_fails_at T) (hr.mono (by decide)) rfl T.m_fails_at T.F_fails_at.kp (b_fails_at T) .nil pass0 (pa_cons (pe_op op_add (pv 0) (pv 9)) (pa_cons (pv 1) (pa_cons (pv 9) (pa_cons (pv 7) (pa_cons (pv 8) pa_nil)))))))) (pss_one (ps_aug (i := 9) sc_least_failing.nd rfl (Or.inl rfl) pe_int ip_add)))
        (pss_one (ps_dput hu (pv 4) (pe_tup (pa_cons (pv 5) (pa_cons (pv 6) pa_nil))) (pv 9) rfl)))))))))
    (pss_one (ps_ret (pe_dget hu (pv 4) (pe_tup (pa_cons (pv 2) (pa_cons (pv 3) pa_nil))) (fun _ _ => rfl)))))), ?_⟩
  refine v_asg' (fun t ht => ?_ : ∀ t, H t = none → _)
  have hT0 : LfT s0 q b.toNat H t 0 0 0 (upd H t (.dT [])) := ⟨ht, same_new ht _, [], upd_same, Nat.le_refl _, fun r m h => by omega⟩
  generalize upd H t (.dT []) = H1 at *
  refine v_for1 (w_ar (val_var rfl) val_c) (by omega) (fun i σ H' => (∃ z1 z2 z3 z4 z5, σ = [some (.int s0), some (.int q), some (.int a), some (.int b), some (.ref t), z1, z2, z3, z4, z5]) ∧ LfT s0 q b.toNat H t i 0 (i * 100) H') ⟨⟨_, _, _, _, _, rfl⟩, hT0⟩ ?_ ?_
  · rintro i σ' H' hi ⟨⟨z1, z2, z3, z4, z5, rfl⟩, hT⟩
    refine v_for1e (w_ar (val_var rfl) val_c) (by omega) (fun j σ H' => (∃ z2 z3 z4 z5, σ = [some (.int s0), some (.int q), some (.int a), some (.int b), some (.ref t), some (.int (i : Int)), z2, z3, z4, z5]) ∧ LfT s0 q b.toNat H t i j (i * 100 + j) H') ⟨⟨_, _, _, _, rfl⟩, hT⟩ ?_ ?_
    · rintro j σ2 H2 hj ⟨⟨z2, z3, z4, z5, rfl⟩, hT2⟩
      refine v_asgE (fun v H3 => v = .int (lowF s0 q i j) ∧ LfT s0 q b.toNat H t i j (i * 100 + j) H3) (fun Q1 hQ => ?_) (fun v H3 h3 => ?_)
      · refine w_cmp (val_var rfl) val_c _ ?_
        refine ite2 (fun c => ?_) (fun c => ?_)
        · have hi0 : (0 : Int) < i := of_decide_eq_true c
          obtain ⟨i', rfl⟩ : ∃ i', i = i' + 1 := ⟨i - 1, by omega⟩
          refine ⟨_, rfl, ?_⟩
          refine w_tup (wa_cons (w_ar (val_var rfl) val_c) (wa_cons (val_var rfl) wa_nil)) (by simp) fun p hp => ?_
          have hT3 := hT2.same (same_new hp (.tup [.int (((i' + 1 : Nat) : Int) - 1), .int (j : Int)]))
          obtain ⟨h0, h1, kvs, h2, h3, h4⟩ := id hT3
          refine ⟨t, _, rfl, ?_, hQ _ _ ⟨rfl, hT3⟩⟩
          have e := h4 i' j (Or.inl ⟨Nat.lt_succ_self _, by omega⟩)
          show DGet _ t (.ref p) (some (.int (LF s0 q i' j)))
          rw [← e]
          refine DGet.t h2 ?_
          have ec : (((i' + 1 : Nat) : Int) - 1) = (i' : Int) := by omega
          rw [upd_same, ec]
          rfl
        · have hi0 : i = 0 := by
            have := of_decide_eq_false (Bool.eq_false_iff.mpr c)
            omega
          subst hi0
          exact hQ _ _ ⟨rfl, hT2⟩
      obtain ⟨rfl, hT3⟩ := h3
      refine v_asgE (fun v H4 => v = optV (highF s0 q i j) ∧ LfT s0 q b.toNat H t i j (i * 100 + j) H4) (fun Q1 hQ => ?_) (fun v H4 h4 => ?_)
      · refine w_cmp (val_var rfl) val_c _ ?_
        refine ite2 (fun c => ?_) (fun c => ?_)
        · have hj0 : (0 : Int) < j := of_decide_eq_true c
          obtain ⟨j', rfl⟩ : ∃ j', j = j' + 1 := ⟨j - 1, by omega⟩
          refine ⟨_, rfl, ?_⟩
          refine w_tup (wa_cons (val_var rfl) (wa_cons (w_ar (val_var rfl) val_c) wa_nil)) (by simp) fun p hp => ?_
          have hT4 := hT3.same (same_new hp (.tup [.int (i : Int), .int (((j' + 1 : Nat) : Int) - 1)]))
          obtain ⟨h0, h1, kvs, h2, h3, h4⟩ := id hT4
          refine ⟨t, _, rfl, ?_, hQ _ _ ⟨rfl, hT4⟩⟩
          have e := h4 i j' (Or.inr ⟨rfl, Nat.lt_succ_self _⟩)
          show DGet _ t (.ref p) (some (.int (LF s0 q i j')))
          rw [← e]
          refine DGet.t h2 ?_
          have ec : (((j' + 1 : Nat) : Int) - 1) = (j' : Int) := by omega
          rw [upd_same, ec]
          rfl
        · have hj0 : j = 0 := by
            have := of_decide_eq_false (Bool.eq_false_iff.mpr c)
            omega
          subst hj0
          exact hQ _ _ ⟨rfl, hT3⟩
      obtain ⟨rfl, hT4⟩ := h4
      refine v_asg (w_max val_c (val_var rfl)) ?_
      have eLF := LF_eq s0 q i j
      unfold lf at eLF
      generalize hlow : lowF s0 q i j = low at *
      generalize hhigh : highF s0 q i j = high at *
      refine v_whileE (fun m σ H' => LfT s0 q b.toNat H t i j (i * 100 + j) H' ∧ ∃ f : Int, σ = [some (.int s0), some (.int q), some (.int a), some (.int b), some (.ref t), some (.int (i : Int)), some (.int (j : Int)), some (.int low), some (optV high), some (.int f)] ∧ 0 ≤ f ∧ f + (m : Int) = max 1 low + q ∧ lfS (fun f => failsF (s0 + f) q f low high) m f = LF s0 q i j) q.toNat ⟨hT4, _, rfl, by omega, by omega, eLF.symm⟩ ?_
      rintro m σ' H5 ⟨hT5, f, rfl, hf0, hfm, hlf⟩
      refine w_call (wa_cons (w_ar (val_var rfl) (val_var rfl)) (wa_cons (val_var rfl) (wa_cons (val_var rfl) (wa_cons (val_var rfl) (wa_cons (val_var rfl) wa_nil))))) ⟨s0 + f, q, f, low, high, rfl, fun H6 e6 => ⟨_, rfl, ?_⟩⟩
      have hT6 := hT5.same e6
      cases hp : failsF (s0 + f) q f low high with
      | false =>
        refine iteT ?_
        refine ⟨fun σ H' => H' = H6 ∧ σ = [some (.int s0), some (.int q), some (.int a), some (.int b), some (.ref t), some (.int (i : Int)), some (.int (j : Int)), some (.int low), some (optV high), some (.int (f + 1))], ?_, ?_⟩
        · rintro σ2 H7 ⟨rfl, rfl⟩
          cases m with
          | zero =>
            have := fails_far (high := high) hs hq hf0 (by omega : low + q ≤ f)
            rw [hp] at this
            cases this
          | succ m =>
            refine ⟨m, Nat.lt_succ_self _, hT6, f + 1, rfl, by omega, by omega, ?_⟩
            rw [← hlf]
            exact (lfS_miss (p := fun f => failsF (s0 + f) q f low high) hp).symm
        · refine v_aug1 rfl val_c ?_
          exact ⟨rfl, rfl⟩
      | true =>
        refine iteF ?_
        have ef : f = LF s0 q i j := by
          rw [← hlf]
          exact (lfS_hit (p := fun f => failsF (s0 + f) q f low high) hp m).symm
        obtain ⟨h0, h1, kvs, h2, h3, h4⟩ := id hT6
        refine ⟨_, rfl, _, rfl, ?_⟩
        refine w_tup (wa_cons (val_var rfl) (wa_cons (val_var rfl) wa_nil)) (by simp) fun p hp => ?_
        have hpt : t ≠ p := ne_of_none h2 hp
        have h2' : upd H6 p (.tup [.int (i : Int), .int (j : Int)]) t = some (.dT kvs) := by rw [upd_ne hpt]; exact h2
        refine ⟨t, _, rfl, DPut.t (k := [.inl (i : Int), .inl (j : Int)]) h2' upd_same (small16 (by omega)), ⟨_, _, _, _, rfl⟩, h0, same_mut (h1.trans (same_new hp _)) h0, _, upd_same, Nat.le_trans (length_putK _ _ _) (by omega), fun r m' hrm => ?_⟩
        rw [valV_put]
        by_cases hk : ([.inl (r : Int), .inl (m' : Int)] : List Key) = [.inl (i : Int), .inl (j : Int)]
        · rw [if_pos hk]
          simp only [List.cons.injEq, Sum.inl.injEq, and_true, Int.natCast_inj] at hk
          obtain ⟨rfl, rfl⟩ := hk
          rw [ef]
        · rw [if_neg hk]
          refine h4 r m' ?_
          rcases hrm with hr | ⟨rfl, hm⟩
          · exact Or.inl hr
          · by_cases hmj : m' = j
            · subst hmj
              exact absurd rfl hk
            · exact Or.inr ⟨rfl, by omega⟩
    · rintro σ2 H2 ⟨⟨z2, z3, z4, z5, rfl⟩, h0, h1, kvs, h2, h3, h4⟩
      refine ⟨⟨_, _, _, _, _, rfl⟩, h0, h1, kvs, h2, by omega, fun r m hrm => h4 r m ?_⟩
      rcases hrm with ⟨hr, hm⟩ | ⟨_, hm⟩
      · by_cases hri : r = i
        · exact Or.inr ⟨hri, by omega⟩
        · exact Or.inl ⟨by omega, hm⟩
      · omega
  · rintro σ' H' ⟨⟨z1, z2, z3, z4, z5, rfl⟩, h0, h1, kvs, h2, h3, h4⟩
    refine v_ret' ⟨_, rfl, ?_⟩
    refine w_tup (wa_cons (val_var rfl) (wa_cons (val_var rfl) wa_nil)) (by simp) fun p hp => ?_
    have hpt : t ≠ p := ne_of_none h2 hp
    have h2' : upd H' p (.tup [.int a, .int b]) t = some (.dT kvs) := by rw [upd_ne hpt]; exact h2
    refine ⟨t, _, rfl, ?_, k _ (h1.trans (same_new hp _))⟩
    have e := h4 a.toNat b.toNat (Or.inl ⟨by omega, Nat.le_refl _⟩)
    rw [← e]
    refine DGet.t h2' ?_
    have ea : ((a.toNat : Nat) : Int) = a := by omega
    have eb : ((b.toNat : Nat) : Int) = b := by omega
    rw [upd_same, ea, eb]
    rfl
def spLFalse : Sp := fun vs H Q _ => ∃ s q a b : Int, vs = [.int s, .int q, .int a, .int b] ∧ 1 ≤ s ∧ s ≤ 40 ∧ 1 ≤ q ∧ q ≤ 60 ∧ 0 ≤ a ∧ a ≤ 6 ∧ 0 ≤ b ∧ b ≤ 6 ∧ ∀ H', Same H H' → Q (.int (LF s q a.toNat b.toNat)) H'
theorem G_least_false (T : Env K mg) : FnOk P w K mg base CX0 4 T.f_least_false T.d_least_false p_least_false spLFalse := by
  refine T.F_least_false.ok sc_least_false (fun vs H Q E h => ?_) (fun cdv A outer s H vs Q E hr h => ?_)
  · obtain ⟨s0, q, a, b, rfl, _⟩ := h
    rfl
  obtain ⟨s0, q, a, b, rfl, hs, hs', hq, hq', ha, ha', hb, hb', k⟩ := h
  have hu := hu_of hr
  refine ⟨_, (pss_cons (ps_expr (pe_call (G_check_at_most T) (hr.mono (by decide)) rfl T.m_check_at_most T.F_check_at_most.kp (b_check_at_most T) .nil pass0 (pa_cons (pv 0) (pa_cons (pe_glob (v := .int 40) rfl T.c_MOST_HELPERS ⟨_, rfl⟩) (pa_cons pe_str pa_nil)))))
    (pss_cons (ps_expr (pe_call (G_check_budget_bounds T) (hr.mono (by decide)) rfl T.m_check_budget_bounds T.F_check_budget_bounds.kp (b_check_budget_bounds T) .nil pass0 (pa_cons (pv 2) (pa_cons (pv 3) pa_nil))))
    (pss_cons (ps_expr (pe_call (G_check_at_most T) (hr.mono (by decide)) rfl T.m_check_at_most T.F_check_at_most.kp (b_check_at_most T) .nil pass0 (pa_cons (pv 1) (pa_cons (pe_glob (v := .int 60) rfl T.c_MOST_ASKS_askwords ⟨_, rfl⟩) (pa_cons pe_str pa_nil)))))
    (pss_cons (ps_expr (pe_call (G_check_least T) (hr.mono (by decide)) rfl T.m_check_least T.F_check_least.kp (b_check_least T) .nil pass0 (pa_cons (pe_lst (pa_cons (pv 0) (pa_cons (pv 1) pa_nil))) (pa_cons pe_int pa_nil))))
    (pss_cons (ps_expr (pe_call (G_check_least T) (hr.mono (by decide)) rfl T.m_check_least T.F_check_least.kp (b_check_least T) .nil pass0 (pa_cons (pe_lst (pa_cons (pv 2) (pa_cons (pv 3) pa_nil))) (pa_cons pe_int pa_nil))))
    (pss_one (ps_ret (pe_call (G_least_failing T) (hr.mono (by decide)) rfl T.m_least_failing T.F_least_failing.kp (b_least_failing T) .nil pass0 (pa_cons (pv 0) (pa_cons (pv 1) (pa_cons (pv 2) (pa_cons (pv 3) pa_nil)))))))))))), ?_⟩
  refine v_atmost (val_var rfl) (by omega) fun H1 e1 => ?_
  refine v_drop (w_call (wa_cons (val_var rfl) (wa_cons (val_var rfl) wa_nil)) ⟨a, b, rfl, ha', hb', fun H2 e2 => ?_⟩)
  refine v_atmost (val_var rfl) (by omega) fun H3 e3 => ?_
  refine v_least [s0, q] (wa_cons (val_var rfl) (wa_cons (val_var rfl) wa_nil)) (by simp) (by simp; omega) fun H4 e4 => ?_
  refine v_least [a, b] (wa_cons (val_var rfl) (wa_cons (val_var rfl) wa_nil)) (by simp) (by simp; omega) fun H5 e5 => ?_
  refine v_ret' (w_call (wa_cons (val_var rfl) (wa_cons (val_var rfl) (wa_cons (val_var rfl) (wa_cons (val_var rfl) wa_nil)))) ⟨s0, q, a, b, rfl, hs, hq, ha, ha', hb, hb', fun H6 e6 => ?_⟩)
  exact k _ (((((e1.trans e2).trans e3).trans e4).trans e5).trans e6)
def spDue : Sp := fun vs H Q _ => ∃ d f w : Int, vs = [.int d, .int f, .int w] ∧ 1 ≤ d ∧ d ≤ 1000000000000000000000000000000 ∧ 0 ≤ f ∧ f ≤ 1000000000000000000000000000000 ∧ 1 ≤ w ∧ w ≤ 1000000000000000000000000000000 ∧ ∀ H', Same H H' → Q (optV (dueF d f w)) H'
theorem G_asks_due (T : Env K mg) : FnOk P w K mg base CX0 2 T.f_asks_due T.d_asks_due p_asks_due spDue := by
  refine T.F_asks_due.ok sc_asks_due (fun vs H Q E h => ?_) (fun cdv A outer s H vs Q E hr h => ?_)
  · obtain ⟨d, f, w, rfl, _⟩ := h
    rfl
  obtain ⟨d, f, w, rfl, hd, hd', hf, hf', hw, hw', k⟩ := h
  have hu := hu_of hr
  refine ⟨_, (pss_cons (ps_expr (pe_call (G_check_numbers T) (hr.mono (by decide)) rfl T.m_check_numbers T.F_check_numbers.kp (b_check_numbers T) .nil pass0 (pa_cons (pe_lst (pa_cons (pv 0) (pa_cons (pv 1) (pa_cons (pv 2) pa_nil)))) pa_nil)))
    (pss_cons (ps_expr (pe_call (G_check_least T) (hr.mono (by decide)) rfl T.m_check_least T.F_check_least.kp (b_check_least T) .nil pass0 (pa_cons (pe_lst (pa_cons (pv 0) (pa_cons (pv 2) pa_nil))) (pa_cons pe_int pa_nil))))
    (pss_cons (ps_expr (pe_call (G_check_least T) (hr.mono (by decide)) rfl T.m_check_least T.F_check_least.kp (b_check_least T) .nil pass0 (pa_cons (pe_lst (pa_cons (pv 1) pa_nil)) (pa_cons pe_int pa_nil))))
    (pss_cons (ps_if (pt_cmpR op_ge (pv 1) (pe_op op_sub (pe_op op_add (pv 0) (pv 2)) pe_int) (nomark _)) (pss_one (ps_ret pe_non)) pss_nil)
    (pss_one (ps_ret (pe_op op_sub (pe_op op_mul pe_int (pe_op op_add (pe_op op_fdivW (pv 1) (pv 2)) pe_int)) pe_int))))))), ?_⟩
  refine v_nums [d, f, w] (wa_cons (val_var rfl) (wa_cons (val_var rfl) (wa_cons (val_var rfl) wa_nil))) (by simp) (by simp; omega) fun H1 e1 => ?_
  refine v_least [d, w] (wa_cons (val_var rfl) (wa_cons (val_var rfl) wa_nil)) (by simp) (by simp; omega) fun H2 e2 => ?_
  refine v_least [f] (wa_cons (val_var rfl) wa_nil) (by simp) (by simp; omega) fun H3 e3 => ?_
  have k' := k H3 ((e1.trans e2).trans e3)
  unfold dueF at k'
  refine v_when (w_cmp (val_var rfl) (w_ar (w_ar (val_var rfl) (val_var rfl)) val_c)) (fun c => ?_) (fun c => ?_)
  · refine v_ret val_c ?_
    rw [if_pos (of_decide_eq_true c)] at k'
    exact k'
  rw [if_neg (of_decide_eq_false c)] at k'
  refine v_ret (w_ar (w_arC val_c (w_ar (w_arC (val_var rfl) (val_var rfl) (wide30 (by omega) (by omega))) val_c) (Or.inl ⟨by decide, by decide⟩)) val_c) ?_
  exact k'

end
end P84

/-! D5 -/
namespace P84
open PySem L2 Evl
section
variable {P : Program} {w : World} {K : PySem.W.Frag} {mg : Str → Option Value} {base : Heap}
theorem bsRows_len (gs : List Int) (tot : Nat) : ∀ n, (bsRows gs tot n).length = tot + 1
  | 0 => by show (List.replicate tot none).length + 1 = _; rw [List.length_replicate]
  | n + 1 => by show ((List.range (tot + 1)).map _).length = _; rw [List.length_map, List.length_range]
/-- the rows so far -/
def RowsAt (gs : List Int) (tot : Nat) (H0 : Hp) (R : Addr) (n : Nat) (H' : Hp) : Prop := H0 R = none ∧ Same H0 H' ∧ ∃ ps : List Addr, ps.length = n + 1 ∧ H' R = some (.lst (ps.map V.ref)) ∧ ∀ (i : Nat) p, ps[i]? = some p → p ≠ R ∧ H' p = some (.lst ((bsRows gs tot i).map optV))
theorem RowsAt.same {gs : List Int} {tot : Nat} {H0 H1 H2 : Hp} {R : Addr} {n : Nat} (h : RowsAt gs tot H0 R n H1) (e : Same H1 H2) : RowsAt gs tot H0 R n H2 := by
  obtain ⟨h0, h1, ps, h2, h3, h4⟩ := h
  exact ⟨h0, h1.trans e, ps, h2, e _ _ h3, fun i p hp => ⟨(h4 i p hp).1, e _ _ (h4 i p hp).2⟩⟩
theorem RowsAt.at {K : PySem.W.Frag} {gs : List Int} {tot : Nat} {H0 H1 : Hp} {R : Addr} {n : Nat} (h : RowsAt gs tot H0 R n H1) {i : Int} (hi : 0 ≤ i) (hin : i ≤ n) : ∃ (xs : List V) (p : Addr), SqL K H1 R xs ∧ atI xs i = some (.ref p) ∧ SqL K H1 p ((bsRows gs tot i.toNat).map optV) := by
  obtain ⟨h0, h1, ps, h2, h3, h4⟩ := h
  have hl : i.toNat < ps.length := by omega
  refine ⟨_, ps[i.toNat], sq_of h3, atI_map (f := V.ref) hi (List.getElem?_eq_getElem hl), sq_of (h4 _ _ (List.getElem?_eq_getElem hl)).2⟩
def spBs (K : PySem.W.Frag) : Sp := fun vs H Q _ => ∃ (g : Addr) (gs : List Int) (tot many : Int), vs = [.ref g, .int tot, .int many] ∧ SqL K H g (gs.map V.int) ∧ tot < gs.length ∧ 0 ≤ tot ∧ tot ≤ 1000 ∧ 0 ≤ many ∧ many ≤ 1000 ∧
  ∀ R H', RowsAt gs tot.toNat H R many.toNat H' → Q (.ref R) H'
theorem G_best_sums (T : Env K mg) : FnOk P w K mg base CX0 1 T.f_best_sums T.d_best_sums p_best_sums (spBs K) := by
  refine T.F_best_sums.ok sc_best_sums (fun vs H Q E h => ?_) (fun cdv A outer s H vs Q E hr h => ?_)
  · obtain ⟨g, gs, tot, many, rfl, _⟩ := h
    rfl
  obtain ⟨g, gs, tot, many, rfl, hG, hlen, ht, ht', hm, hm', k⟩ := h
  have hu := hu_of hr
  refine ⟨_, (pss_cons (ps_set (i := 3) sc_best_sums.nd rfl (Or.inl rfl) (pe_lst (pa_cons (pe_op op_cat (pe_lst (pa_cons pe_int pa_nil)) (pe_lc (own := [("part", 8)]) (g := gName 8) (by rfl) sc_best_sums.nd (pi_range1 (by rfl) T.z_range (pa_cons (pv 1) pa_nil)) (blkOk_by (own := [("part", 8)]) (N := n_best_sums) (sc := defScope s_best_sums) (by decide +kernel)) (fun _ _ _ _ _ => pg_name (i := 8) sc_best_sums.nd rfl (Or.inl rfl)) (fun _ _ _ _ _ => pts_nil) (fun _ _ _ _ _ => pe_non))) pa_nil)))
    (pss_cons (ps_for PassesOwn.never rfl (pi_range1 (by rfl) T.z_range (pa_cons (pv 2) pa_nil)) (pg_name (i := 4) sc_best_sums.nd rfl (Or.inl rfl)) (pss_cons (ps_set (i := 5) sc_best_sums.nd rfl (Or.inl rfl) (pe_lst pa_nil))
      (pss_cons (ps_for PassesOwn.never rfl (pi_range1 (by rfl) T.z_range (pa_cons (pe_op op_add (pv 1) pe_int) pa_nil)) (pg_name (i := 6) sc_best_sums.nd rfl (Or.inl rfl)) (pss_cons (ps_set (i := 7) sc_best_sums.nd rfl (Or.inl rfl) pe_non)
        (pss_cons (ps_for PassesOwn.never rfl (pi_range2 (by rfl) T.z_range (pa_cons pe_int (pa_cons (pe_op op_add (pv 6) pe_int) pa_nil))) (pg_name (i := 8) sc_best_sums.nd rfl (Or.inl rfl)) (pss_cons (ps_set (i := 9) sc_best_sums.nd rfl (Or.inl rfl) (pe_ix ix_list (pe_ix ix_list (pv 3) (pv 4) (fun _ _ => rfl)) (pe_op op_sub (pv 6) (pv 8)) (fun _ _ => rfl)))
          (pss_one (ps_if (PW.pt (pw_and (pt_cmpR op_notN (pv 9) pe_non (nomark _)) (pw_and1 (PW.pt (pw_or (pt_cmpR op_isN (pv 7) pe_non (nomark _)) (pw_or1 (pt_cmpR op_gt (pe_op op_add (pv 9) (pe_ix ix_list (pv 0) (pv 8) (fun _ _ => rfl))) (pv 7) (nomark _)))))))) (pss_one (ps_set (i := 7) sc_best_sums.nd rfl (Or.inl rfl) (pe_op op_add (pv 9) (pe_ix ix_list (pv 0) (pv 8) (fun _ _ => rfl))))) pss_nil))))
        (pss_one (ps_expr (pe_bm PySem.F.plainAttrs_list PySem.F.slot_list_append PySem.F.type_list_append mt_append (pv 5) (pa_cons (pv 7) pa_nil)))))))
      (pss_one (ps_expr (pe_bm PySem.F.plainAttrs_list PySem.F.slot_list_append PySem.F.type_list_append mt_append (pv 3) (pa_cons (pv 5) pa_nil)))))))
    (pss_one (ps_ret (pv 3))))), ?_⟩
  -- rows = [[0] + [None for part in range(total)]]
  refine v_asgE (fun v H1 => ∃ R, v = .ref R ∧ RowsAt gs tot.toNat H R 0 H1) (fun Q1 hQ => ?_) (fun v H1 h1 => ?_)
  · -- the only item: [0] + [None ..]
    refine k_cons ?_
    refine k_op ?_
    refine w_lst (wa_cons val_c wa_nil) (by simp) fun p hp => ?_
    refine k_lcR1 (fun _ => V.non) (val_var rfl) (by omega) (fun _ => rfl) (fun i H2 e2 hi Q2 q2 => q2 _ (Same.refl _)) (fun p2 H2 hp2 e2 h2 => ?_)
    have s1 : Same H H2 := (same_new hp _).trans e2
    refine ⟨p, p2, _, _, rfl, rfl, e2 _ _ upd_same, h2, ?_, fun p3 hp3 => ?_⟩
    · simp
      exact sz_of (by omega)
    refine ⟨sz_of (by simp), fun R hR => ?_⟩
    refine hQ _ _ ⟨R, rfl, ?_, ?_, [p3], rfl, upd_same, ?_⟩
    · exact (s1.trans (same_new hp3 _)).free hR
    · exact (s1.trans (same_new hp3 _)).trans (same_new hR _)
    · intro i q hq
      cases i with
      | zero =>
        obtain rfl : p3 = q := Option.some.inj hq
        have hne : p3 ≠ R := ne_of_none upd_same hR
        refine ⟨hne, ?_⟩
        rw [upd_ne hne, upd_same]
        have e : ([V.int 0] ++ (List.range tot.toNat).map fun _ => V.non) = (bsRows gs tot.toNat 0).map optV := by
          show [V.int 0] ++ _ = optV (some 0) :: (List.replicate tot.toNat none).map optV
          rw [List.map_replicate]
          have e2 : ((List.range tot.toNat).map fun _ => V.non) = List.replicate tot.toNat V.non := by
            rw [List.map_const', List.length_range]
          rw [e2]
          rfl
        rw [e]
      | succ i => simp at hq
  obtain ⟨R, rfl, hR⟩ := h1
  refine v_for1 (val_var rfl) (by omega) (fun i σ H' => (∃ z4 z5 z6 z7 z8 z9, σ = [some (.ref g), some (.int tot), some (.int many), some (.ref R), z4, z5, z6, z7, z8, z9]) ∧ RowsAt gs tot.toNat H R i H') ⟨⟨_, _, _, _, _, _, rfl⟩, hR⟩ ?_ ?_
  · rintro i σ' H' hi ⟨⟨z4, z5, z6, z7, z8, z9, rfl⟩, hT⟩
    refine v_asg' (w_lst wa_nil (by simp) fun r hr => ?_)
    have hr0 : upd H' r (.lst []) r = some (.lst []) := upd_same
    have hs0 : Same H' (upd H' r (.lst [])) := same_new hr _
    refine v_for1 (w_ar (val_var rfl) val_c) (by omega) (fun w σ H2 => (∃ z6 z7 z8 z9, σ = [some (.ref g), some (.int tot), some (.int many), some (.ref R), some (.int (i : Int)), some (.ref r), z6, z7, z8, z9]) ∧ Same H' H2 ∧ H2 r = some (.lst (((List.range w).map fun w => bsBest gs (bsRows gs tot.toNat i) w w).map optV))) ⟨⟨_, _, _, _, rfl⟩, hs0, hr0⟩ ?_ ?_
    · rintro w σ2 H2 hw ⟨⟨z6, z7, z8, z9, rfl⟩, hs2, hr2⟩
      refine v_asg val_c ?_
      have hT2 := hT.same hs2
      have hG2 : SqL K H2 g (gs.map V.int) := hT2.2.1.seq hG
      refine v_for2 val_c (w_ar (val_var rfl) val_c) (by omega) (fun n σ H3 => H3 = H2 ∧ ∃ z8 z9, σ = [some (.ref g), some (.int tot), some (.int many), some (.ref R), some (.int (i : Int)), some (.ref r), some (.int (w : Int)), some (optV (bsBest gs (bsRows gs tot.toNat i) w n)), z8, z9]) ⟨rfl, _, _, rfl⟩ ?_ ?_
      · rintro n σ3 H3 hn ⟨rfl, z8, z9, rfl⟩
        obtain ⟨xs, p, hx1, hx2, hx3⟩ := hT2.at (K := K) (i := (i : Int)) (by omega) (Int.le_refl _)
        have e1 : ((i : Int)).toNat = i := by omega
        rw [e1] at hx3
        have e2 : ((w : Int) - (1 + (n : Int))).toNat = w - (n + 1) := by omega
        refine v_asg (w_ixL (w_ixL (val_var rfl) (val_var rfl) hx1 hx2) (w_ar (val_var rfl) (val_var rfl)) hx3 (at_getO (by omega) (by rw [bsRows_len]; omega))) ?_
        rw [e2]
        have eb : bsBest gs (bsRows gs tot.toNat i) w (n + 1) = (match (bsRows gs tot.toNat i).getD (w - (n + 1)) none with
          | none => bsBest gs (bsRows gs tot.toNat i) w n
          | some r => match bsBest gs (bsRows gs tot.toNat i) w n with
            | none => some (r + gs.getD (n + 1) 0)
            | some b => if b < r + gs.getD (n + 1) 0 then some (r + gs.getD (n + 1) 0) else some b) := rfl
        rw [eb]
        have hga : atI (gs.map V.int) (1 + (n : Int)) = some (.int (gs.getD (n + 1) 0)) := by
          have := at_getD (xs := gs) (i := 1 + (n : Int)) (by omega) (by omega)
          have e3 : (1 + (n : Int)).toNat = n + 1 := by omega
          rw [e3] at this
          exact this
        cases hro : (bsRows gs tot.toNat i).getD (w - (n + 1)) none with
        | none =>
          refine v_when1 (b := false) (w_tis (w_and (a := false) (b := true) (w_t (w_is (w_notN (val_var rfl)) rfl)) (fun c => nomatch c)) rfl) (fun c => nomatch c) (fun _ => ?_)
          exact ⟨rfl, _, _, rfl⟩
        | some r =>
          cases hbo : bsBest gs (bsRows gs tot.toNat i) w n with
          | none =>
            refine v_when1 (b := true) (w_tis (w_and (a := true) (b := true) (w_t (w_is (w_notN (val_var rfl)) rfl)) (fun _ => w_tis (w_or (a := true) (b := true) (w_t (w_is (w_isN (val_var rfl)) rfl)) (fun c => nomatch c)) rfl)) rfl) (fun _ => ?_) (fun c => nomatch c)
            refine v_asg1 (w_ar (val_var rfl) (w_ixL (val_var rfl) (val_var rfl) hG2 hga)) ?_
            exact ⟨rfl, _, _, rfl⟩
          | some bb =>
            refine v_when1 (b := decide (bb < r + gs.getD (n + 1) 0)) (w_tis (w_and (a := true) (w_t (w_is (w_notN (val_var rfl)) rfl)) (fun _ => w_or (a := false) (w_t (w_is (w_isN (val_var rfl)) rfl)) (fun _ => w_cmp (w_ar (val_var rfl) (w_ixL (val_var rfl) (val_var rfl) hG2 hga)) (val_var rfl)))) rfl) (fun c => ?_) (fun c => ?_)
            · refine v_asg1 (w_ar (val_var rfl) (w_ixL (val_var rfl) (val_var rfl) hG2 hga)) ?_
              refine ⟨rfl, some (.int (1 + (n : Int))), some (.int r), ?_⟩
              simp only [if_pos (of_decide_eq_true c)]
              rfl
            · refine ⟨rfl, some (.int (1 + (n : Int))), some (.int r), ?_⟩
              simp only [if_neg (of_decide_eq_false c)]
              rfl
      · rintro σ3 H3 ⟨rfl, z8, z9, rfl⟩
        have e3 : ((w : Int) + 1 - 1).toNat = w := by omega
        rw [e3]
        refine v_app1 (val_var rfl) (val_var rfl) hr2 (by simp; omega) ?_
        refine ⟨⟨_, _, _, _, rfl⟩, same_mut hs2 hr, ?_⟩
        rw [upd_same, List.range_succ, List.map_append, List.map_append]
        rfl
    · rintro σ2 H2 ⟨⟨z6, z7, z8, z9, rfl⟩, hs2, hr2⟩
      obtain ⟨h0, h1, ps, h2, h3, h4⟩ := id (hT.same hs2)
      have hRr : R ≠ r := by
        obtain ⟨_, _, ps', _, h3', _⟩ := hT
        exact ne_of_none h3' hr
      refine v_app1 (val_var rfl) (val_var rfl) h3 (by simp; omega) ?_
      refine ⟨⟨_, _, _, _, _, _, rfl⟩, h0, same_mut h1 h0, ps ++ [r], by simp; omega, by rw [upd_same, List.map_append]; rfl, fun j p hj => ?_⟩
      by_cases hjl : j < ps.length
      · rw [List.getElem?_append_left hjl] at hj
        obtain ⟨hne, hp⟩ := h4 j p hj
        exact ⟨hne, by rw [upd_ne hne]; exact hp⟩
      · rw [List.getElem?_append_right (by omega)] at hj
        have hj0 : j - ps.length = 0 := by
          cases hz : j - ps.length with
          | zero => rfl
          | succ z => rw [hz] at hj; simp at hj
        rw [hj0] at hj
        obtain rfl : r = p := Option.some.inj hj
        refine ⟨Ne.symm hRr, ?_⟩
        rw [upd_ne (Ne.symm hRr), hr2]
        have ej : j = i + 1 := by omega
        have e5 : (tot + 1).toNat = tot.toNat + 1 := by omega
        rw [ej, e5]
        rfl
  · rintro σ' H' ⟨⟨z4, z5, z6, z7, z8, z9, rfl⟩, hT⟩
    exact v_ret (val_var rfl) (k R H' hT)
/-! best_parts -/
theorem bpBest_le (gs : List Int) (prev : List (Option Int)) (goal : Option Int) (tot : Nat) : ∀ n : Nat, 0 ≤ bpBest gs prev goal tot n ∧ bpBest gs prev goal tot n ≤ n
  | 0 => ⟨Int.le_refl _, Int.le_refl _⟩
  | n + 1 => by
    have ih := bpBest_le gs prev goal tot n
    unfold bpBest
    split
    · omega
    · split <;> omega
theorem dV {x y : V} : decide (x = y) = decide (x = y) := rfl
theorem d_oi {x : Int} {o : Option Int} : decide (V.int x = optV o) = decide (some x = o) := by
  cases o with
  | none => simp [optV]
  | some y => simp [optV]
def spBp (K : PySem.W.Frag) : Sp := fun vs H Q _ => ∃ (g : Addr) (gs : List Int) (tot many : Int), vs = [.ref g, .int tot, .int many] ∧ SqL K H g (gs.map V.int) ∧ tot < gs.length ∧ 0 ≤ tot ∧ tot ≤ 1000 ∧ 0 ≤ many ∧ many ≤ 1000 ∧
  ∀ p H', H p = none → Same H H' → H' p = some (.lst ((bpParts gs tot.toNat tot.toNat many.toNat).map V.int)) → Q (.ref p) H'
/-- the parts taken down to place n (n left), the total that is left -/
def bpRun (gs : List Int) (tot : Nat) (N : Nat) : Nat → List Int × Nat
  | 0 => ([], tot)
  | i + 1 =>
    let s := bpRun gs tot N i
    let n := N - i - 1
    let b := bpBest gs (bsRows gs tot n) ((bsRows gs tot (n + 1)).getD s.2 none) s.2 s.2
    (s.1 ++ [b], s.2 - b.toNat)
theorem bpRun_parts (gs : List Int) (tot N : Nat) : ∀ i, i ≤ N → (bpRun gs tot N i).1 ++ bpParts gs tot (bpRun gs tot N i).2 (N - i) = bpParts gs tot tot N
  | 0, _ => rfl
  | i + 1, h => by
    have ih := bpRun_parts gs tot N i (by omega)
    have e : N - i = (N - i - 1) + 1 := by omega
    rw [← ih, e]
    have e2 : N - (i + 1) = N - i - 1 := by omega
    rw [e2]
    show ((bpRun gs tot N i).1 ++ [_]) ++ _ = (bpRun gs tot N i).1 ++ (_ :: _)
    rw [List.append_assoc]
    rfl
theorem bpRun_le (gs : List Int) (tot N : Nat) : ∀ i, (bpRun gs tot N i).2 ≤ tot
  | 0 => Nat.le_refl _
  | i + 1 => Nat.le_trans (Nat.sub_le _ _) (bpRun_le gs tot N i)
theorem bpRun_len (gs : List Int) (tot N : Nat) : ∀ i, (bpRun gs tot N i).1.length = i
  | 0 => rfl
  | i + 1 => by
    show ((bpRun gs tot N i).1 ++ [_]).length = _
    rw [List.length_append, bpRun_len gs tot N i]
    rfl
theorem G_best_parts (T : Env K mg) : FnOk P w K mg base CX0 2 T.f_best_parts T.d_best_parts p_best_parts (spBp K) := by
  refine T.F_best_parts.ok sc_best_parts (fun vs H Q E h => ?_) (fun cdv A outer s H vs Q E hr h => ?_)
  · obtain ⟨g, gs, tot, many, rfl, _⟩ := h
    rfl
  obtain ⟨g, gs, tot, many, rfl, hG, hlen, ht, ht', hm, hm', k⟩ := h
  have hu := hu_of hr
  refine ⟨_, (pss_cons (ps_set (i := 3) sc_best_parts.nd rfl (Or.inl rfl) (pe_call (G_best_sums T) (hr.mono (by decide)) rfl T.m_best_sums T.F_best_sums.kp (b_best_sums T) .nil pass0 (pa_cons (pv 0) (pa_cons (pv 1) (pa_cons (pv 2) pa_nil)))))
    (pss_cons (ps_set (i := 4) sc_best_parts.nd rfl (Or.inl rfl) (pe_lst pa_nil))
    (pss_cons (ps_for PassesOwn.never rfl (pi_range3 (by rfl) T.z_range (pa_cons (pv 2) (pa_cons pe_int (pa_cons (pe_un un_neg pe_int) pa_nil)))) (pg_name (i := 5) sc_best_parts.nd rfl (Or.inl rfl)) (pss_cons (ps_set (i := 6) sc_best_parts.nd rfl (Or.inl rfl) pe_int)
      (pss_cons (ps_for PassesOwn.never rfl (pi_range2 (by rfl) T.z_range (pa_cons pe_int (pa_cons (pe_op op_add (pv 1) pe_int) pa_nil))) (pg_name (i := 7) sc_best_parts.nd rfl (Or.inl rfl)) (pss_cons (ps_set (i := 8) sc_best_parts.nd rfl (Or.inl rfl) (pe_ix ix_list (pe_ix ix_list (pv 3) (pe_op op_sub (pv 5) pe_int) (fun _ _ => rfl)) (pe_op op_sub (pv 1) (pv 7)) (fun _ _ => rfl)))
        (pss_one (ps_if (PW.pt (pw_and (pt_cmpR op_notN (pv 8) pe_non (nomark _)) (pw_and1 (pt_cmpR op_eq (pe_op op_add (pv 8) (pe_ix ix_list (pv 0) (pv 7) (fun _ _ => rfl))) (pe_ix ix_list (pe_ix ix_list (pv 3) (pv 5) (fun _ _ => rfl)) (pv 1) (fun _ _ => rfl)) (nomark _))))) (pss_one (ps_set (i := 6) sc_best_parts.nd rfl (Or.inl rfl) (pv 7))) pss_nil))))
      (pss_cons (ps_expr (pe_bm PySem.F.plainAttrs_list PySem.F.slot_list_append PySem.F.type_list_append mt_append (pv 4) (pa_cons (pv 6) pa_nil)))
      (pss_one (ps_aug (i := 1) sc_best_parts.nd rfl (Or.inl rfl) (pv 6) ip_sub))))))
    (pss_one (ps_ret (pv 4)))))), ?_⟩
  refine v_asg' (w_call (wa_cons (val_var rfl) (wa_cons (val_var rfl) (wa_cons (val_var rfl) wa_nil))) ⟨g, gs, tot, many, rfl, hG, hlen, ht, ht', hm, hm', fun R H1 hR => ?_⟩)
  refine v_asg' (w_lst wa_nil (by simp) fun p hp => ?_)
  have hp0 : upd H1 p (.lst []) p = some (.lst []) := upd_same
  have hpH : H p = none := hR.2.1.free hp
  refine v_forD (val_var rfl) val_c (w_neg val_c) (by omega) (fun i σ H' => (∃ z5 z6 z7 z8, σ = [some (.ref g), some (.int ((bpRun gs tot.toNat many.toNat i).2 : Int)), some (.int many), some (.ref R), some (.ref p), z5, z6, z7, z8]) ∧ Same H1 H' ∧ H' p = some (.lst ((bpRun gs tot.toNat many.toNat i).1.map V.int))) ⟨⟨none, none, none, none, ?_⟩, same_new hp _, hp0⟩ ?_ ?_
  · show _ = [some (V.ref g), some (V.int (tot.toNat : Int)), some (V.int many), some (V.ref R), some (V.ref p), none, none, none, none]
    have e : ((tot.toNat : Nat) : Int) = tot := by omega
    rw [e]
    rfl
  · rintro i σ' H' hi ⟨⟨z5, z6, z7, z8, rfl⟩, hs, hpp⟩
    have hT := hR.same hs
    have hG2 : SqL K H' g (gs.map V.int) := hT.2.1.seq hG
    generalize hst : bpRun gs tot.toNat many.toNat i = st at *
    have hle : st.2 ≤ tot.toNat := by rw [← hst]; exact bpRun_le _ _ _ _
    have hln : st.1.length = i := by rw [← hst]; exact bpRun_len _ _ _ _
    have hn1 : (many - (i : Int) - 1).toNat = many.toNat - i - 1 := by omega
    have hn2 : (many - (i : Int)).toNat = many.toNat - i - 1 + 1 := by omega
    generalize hnn : many.toNat - i - 1 = n at *
    obtain ⟨xs, q1, hx1, hx2, hx3⟩ := hT.at (K := K) (i := many - (i : Int) - 1) (by omega) (by omega)
    obtain ⟨xs', q2, hy1, hy2, hy3⟩ := hT.at (K := K) (i := many - (i : Int)) (by omega) (by omega)
    rw [hn1] at hx3
    rw [hn2] at hy3
    generalize hgoal : (bsRows gs tot.toNat (n + 1)).getD st.2 none = goal at *
    refine v_asg val_c ?_
    refine v_for2 val_c (w_ar (val_var rfl) val_c) (by omega) (fun j σ H2 => H2 = H' ∧ ∃ z7 z8, σ = [some (.ref g), some (.int (st.2 : Int)), some (.int many), some (.ref R), some (.ref p), some (.int (many - (i : Int))), some (.int (bpBest gs (bsRows gs tot.toNat n) goal st.2 j)), z7, z8]) ⟨rfl, _, _, rfl⟩ ?_ ?_
    · rintro j σ2 H2 hj ⟨rfl, z7, z8, rfl⟩
      have e2 : ((st.2 : Int) - (1 + (j : Int))).toNat = st.2 - (j + 1) := by omega
      refine v_asg (w_ixL (w_ixL (val_var rfl) (w_ar (val_var rfl) val_c) hx1 hx2) (w_ar (val_var rfl) (val_var rfl)) hx3 (at_getO (by omega) (by rw [bsRows_len]; omega))) ?_
      rw [e2]
      have eb : bpBest gs (bsRows gs tot.toNat n) goal st.2 (j + 1) = (match (bsRows gs tot.toNat n).getD (st.2 - (j + 1)) none with
        | none => bpBest gs (bsRows gs tot.toNat n) goal st.2 j
        | some r => if some (r + gs.getD (j + 1) 0) = goal then ((j : Int) + 1) else bpBest gs (bsRows gs tot.toNat n) goal st.2 j) := rfl
      rw [eb]
      have hga : atI (gs.map V.int) (1 + (j : Int)) = some (.int (gs.getD (j + 1) 0)) := by
        have := at_getD (xs := gs) (i := 1 + (j : Int)) (by omega) (by omega)
        have e3 : (1 + (j : Int)).toNat = j + 1 := by omega
        rw [e3] at this
        exact this
      have hgo : atI ((bsRows gs tot.toNat (n + 1)).map optV) (st.2 : Int) = some (optV goal) := by
        have := at_getO (xs := bsRows gs tot.toNat (n + 1)) (i := (st.2 : Int)) (by omega) (by rw [bsRows_len]; omega)
        rw [Int.toNat_natCast, hgoal] at this
        exact this
      cases hro : (bsRows gs tot.toNat n).getD (st.2 - (j + 1)) none with
      | none =>
        refine v_when1 (b := false) (w_tis (w_and (a := false) (b := true) (w_t (w_is (w_notN (val_var rfl)) rfl)) (fun c => nomatch c)) rfl) (fun c => nomatch c) (fun _ => ?_)
        exact ⟨rfl, _, _, rfl⟩
      | some r =>
        refine v_when1 (b := decide (some (r + gs.getD (j + 1) 0) = goal)) (ans_and (w_t (w_is (w_notN (val_var rfl)) rfl)) (w_t (w_is (w_op (w_ar (val_var rfl) (w_ixL (val_var rfl) (val_var rfl) hG2 hga)) (w_ixL (w_ixL (val_var rfl) (val_var rfl) hy1 hy2) (val_var rfl) hy3 hgo) (w_eq (by cases goal <;> rfl))) (by rw [d_oi])))) (fun c => ?_) (fun c => ?_)
        · refine v_asg1 (val_var rfl) ?_
          refine ⟨rfl, some (.int (1 + (j : Int))), some (.int r), ?_⟩
          simp only [if_pos (of_decide_eq_true c)]
          rw [Int.add_comm (j : Int) 1]
          rfl
        · refine ⟨rfl, some (.int (1 + (j : Int))), some (.int r), ?_⟩
          simp only [if_neg (of_decide_eq_false c)]
          rfl
    · rintro σ2 H2 ⟨rfl, z7, z8, rfl⟩
      have e3 : ((st.2 : Int) + 1 - 1).toNat = st.2 := by omega
      rw [e3]
      have hb := bpBest_le gs (bsRows gs tot.toNat n) goal st.2 st.2
      have est : bpRun gs tot.toNat many.toNat (i + 1) = (st.1 ++ [bpBest gs (bsRows gs tot.toNat n) goal st.2 st.2], st.2 - (bpBest gs (bsRows gs tot.toNat n) goal st.2 st.2).toNat) := by
        show ((bpRun gs tot.toNat many.toNat i).1 ++ [_], _) = _
        rw [hst, hnn, hgoal]
      refine v_app (val_var rfl) (val_var rfl) hpp (by simp; omega) ?_
      refine v_aug1 rfl (val_var rfl) ?_
      rw [est]
      refine ⟨⟨some (.int (many - (i : Int))), some (.int (bpBest gs (bsRows gs tot.toNat n) goal st.2 st.2)), z7, z8, ?_⟩, same_mut hs hp, by rw [upd_same, List.map_append]; rfl⟩
      have e4 : (((st.2 - (bpBest gs (bsRows gs tot.toNat n) goal st.2 st.2).toNat : Nat)) : Int) = (st.2 : Int) - bpBest gs (bsRows gs tot.toNat n) goal st.2 st.2 := by omega
      rw [e4]
      rfl
  · rintro σ' H' ⟨⟨z5, z6, z7, z8, rfl⟩, hs, hpp⟩
    refine v_ret (val_var rfl) (k p H' hpH (hR.2.1.trans hs) ?_)
    have e : (many - 0).toNat = many.toNat := by omega
    rw [e] at hpp
    have := bpRun_parts gs tot.toNat many.toNat many.toNat (Nat.le_refl _)
    rw [Nat.sub_self] at this
    have e2 : bpParts gs tot.toNat (bpRun gs tot.toNat many.toNat many.toNat).2 0 = [] := rfl
    rw [e2, List.append_nil] at this
    rw [← this]
    exact hpp

end
end P84

/-! D6 -/
namespace P84
open PySem L2 Evl
section
variable {P : Program} {w : World} {K : PySem.W.Frag} {mg : Str → Option Value} {base : Heap}
theorem lfS_ge (p : Int → Bool) : ∀ (n : Nat) (f : Int), f ≤ lfS p n f
  | 0, f => Int.le_refl _
  | n + 1, f => by
    show f ≤ if p f = true then f else lfS p n (f + 1)
    split
    · exact Int.le_refl _
    · have := lfS_ge p n (f + 1)
      omega
theorem lf_pos (s q low : Int) (high : Option Int) : 1 ≤ lf s q low high := by
  have := lfS_ge (fun f => failsF (s + f) q f low high) q.toNat (max 1 low)
  unfold lf
  omega
theorem LF_pos (s q : Int) (r m : Nat) : 1 ≤ LF s q r m := by rw [LF_eq]; exact lf_pos _ _ _ _
theorem bpParts_len (gs : List Int) (tot : Nat) : ∀ (total n : Nat), (bpParts gs tot total n).length = n
  | _, 0 => rfl
  | total, n + 1 => by
    show (bpParts gs tot _ n).length + 1 = n + 1
    rw [bpParts_len]
def wlParts (d f q w : Nat) : List Int := bpParts (gainsF q 0 0 d (min w (f + 1)) ++ List.replicate (min w (f + 1)) 0) (d + min w (f + 1) - 1) (d + min w (f + 1) - 1) (min w (f + 1))
def spWL : Sp := fun vs H Q _ => ∃ d f q w : Nat, vs = [.int ((d : Int) + f), .int d, .int q, .int 0, .int 0, .int w] ∧ 1 ≤ d ∧ d + f ≤ 40 ∧ 1 ≤ q ∧ q ≤ 60 ∧ 1 ≤ w ∧ w ≤ 8 ∧ (∀ p ∈ wlParts d f q w, 1 ≤ p ∧ p ≤ (d : Int)) ∧
  ∀ v H', Same H H' → decide (v = V.non) = wlNone d f q w → Q v H'
theorem G_word_lots (T : Env K mg) : FnOk P w K mg base CX0 4 T.f_word_lots T.d_word_lots p_word_lots spWL := by
  refine T.F_word_lots.ok sc_word_lots (fun vs H Q E h => ?_) (fun cdv A outer s H vs Q E hr h => ?_)
  · obtain ⟨d, f, q, w0, rfl, _⟩ := h
    rfl
  obtain ⟨d, f, q, w0, rfl, hd, hdf, hq, hq', hw, hw', hparts, k⟩ := h
  have hu := hu_of hr
  refine ⟨_, (pss_cons (ps_expr (pe_call (G_check_at_most T) (hr.mono (by decide)) rfl T.m_check_at_most T.F_check_at_most.kp (b_check_at_most T) .nil pass0 (pa_cons (pv 0) (pa_cons (pe_glob (v := .int 40) rfl T.c_MOST_HELPERS ⟨_, rfl⟩) (pa_cons pe_str pa_nil)))))
    (pss_cons (ps_expr (pe_call (G_check_budget_bounds T) (hr.mono (by decide)) rfl T.m_check_budget_bounds T.F_check_budget_bounds.kp (b_check_budget_bounds T) .nil pass0 (pa_cons (pv 3) (pa_cons (pv 4) pa_nil))))
    (pss_cons (ps_expr (pe_call (G_check_at_most T) (hr.mono (by decide)) rfl T.m_check_at_most T.F_check_at_most.kp (b_check_at_most T) .nil pass0 (pa_cons (pv 5) (pa_cons (pe_glob (v := .int 8) rfl T.c_MOST_WORDS ⟨_, rfl⟩) (pa_cons pe_str pa_nil)))))
    (pss_cons (ps_expr (pe_call (G_check_at_most T) (hr.mono (by decide)) rfl T.m_check_at_most T.F_check_at_most.kp (b_check_at_most T) .nil pass0 (pa_cons (pv 2) (pa_cons (pe_glob (v := .int 60) rfl T.c_MOST_ASKS_askwords ⟨_, rfl⟩) (pa_cons pe_str pa_nil)))))
    (pss_cons (ps_expr (pe_call (G_check_least T) (hr.mono (by decide)) rfl T.m_check_least T.F_check_least.kp (b_check_least T) .nil pass0 (pa_cons (pe_lst (pa_cons (pv 0) (pa_cons (pv 1) (pa_cons (pv 2) (pa_cons (pv 5) (pa_cons (pe_op op_add (pe_op op_sub (pv 0) (pv 1)) pe_int) pa_nil)))))) (pa_cons pe_int pa_nil))))
    (pss_cons (ps_expr (pe_call (G_check_least T) (hr.mono (by decide)) rfl T.m_check_least T.F_check_least.kp (b_check_least T) .nil pass0 (pa_cons (pe_lst (pa_cons (pv 3) (pa_cons (pv 4) pa_nil))) (pa_cons pe_int pa_nil))))
    (pss_cons (ps_set (i := 6) sc_word_lots.nd rfl (Or.inl rfl) (pe_op op_sub (pv 0) (pv 1)))
    (pss_cons (ps_set (i := 7) sc_word_lots.nd rfl (Or.inl rfl) (pe_callB (call_min2 rfl) (by rfl) T.z_min (by decide +kernel) (pa_cons (pv 5) (pa_cons (pe_op op_add (pv 6) pe_int) pa_nil))))
    (pss_cons (ps_set (i := 8) sc_word_lots.nd rfl (Or.inr rfl) (pe_op op_cat (pe_lst (pa_cons pe_int pa_nil)) (pe_lc (own := [("s", 16)]) (g := gName 16) (by rfl) sc_word_lots.nd (pi_range2 (by rfl) T.z_range (pa_cons pe_int (pa_cons (pe_op op_add (pv 1) pe_int) pa_nil))) (blkOk_by (own := [("s", 16)]) (N := n_word_lots) (sc := defScope s_word_lots) (by decide +kernel)) (fun _ _ _ _ _ => pg_name (i := 16) sc_word_lots.nd rfl (Or.inl rfl)) (fun _ _ _ _ _ => pts_nil) (fun _ _ _ _ _ => (pe_call (G_least_failing T) (hr.mono (by decide)) rfl T.m_least_failing T.F_least_failing.kp (b_least_failing T) .nil pass0 (pa_cons (pv 16) (pa_cons (pv 2) (pa_cons (pv 3) (pa_cons (pv 4) pa_nil)))))))))
    (pss_cons (ps_set (i := 9) sc_word_lots.nd rfl (Or.inl rfl) (pe_call (G_best_parts T) (hr.mono (by decide)) rfl T.m_best_parts T.F_best_parts.kp (b_best_parts T) .nil pass0 (pa_cons (pe_op op_cat (pv 8) (pe_lc (own := [("extra", 17)]) (g := gName 17) (by rfl) sc_word_lots.nd (pi_range1 (by rfl) T.z_range (pa_cons (pv 7) pa_nil)) (blkOk_by (own := [("extra", 17)]) (N := n_word_lots) (sc := defScope s_word_lots) (by decide +kernel)) (fun _ _ _ _ _ => pg_name (i := 17) sc_word_lots.nd rfl (Or.inl rfl)) (fun _ _ _ _ _ => pts_nil) (fun _ _ _ _ _ => pe_int))) (pa_cons (pe_op op_sub (pe_op op_add (pv 1) (pv 7)) pe_int) (pa_cons (pv 7) pa_nil)))))
    (pss_cons (ps_if (pt_cmpR op_le (pe_callB (cr_sum rfl) (by rfl) T.z_sum (by decide +kernel) (pa_cons (pe_lc (own := [("part", 18)]) (g := gName 18) (by rfl) sc_word_lots.nd (pi_list (pv 9)) (blkOk_by (own := [("part", 18)]) (N := n_word_lots) (sc := defScope s_word_lots) (by decide +kernel)) (fun _ _ _ _ _ => pg_name (i := 18) sc_word_lots.nd rfl (Or.inl rfl)) (fun _ _ _ _ _ => pts_nil) (fun _ _ _ _ _ => (pe_ix ix_listB (pv 8) (pv 18) (fun _ _ => rfl)))) pa_nil)) (pv 6) (nomark _)) (pss_one (ps_ret pe_non)) pss_nil)
    (pss_cons (ps_set (i := 10) sc_word_lots.nd rfl (Or.inl rfl) (pe_lst pa_nil))
    (pss_cons (ps_set (i := 11) sc_word_lots.nd rfl (Or.inl rfl) pe_int)
    (pss_cons (ps_set (i := 12) sc_word_lots.nd rfl (Or.inl rfl) (pe_op op_add (pv 6) pe_int))
    (pss_cons (ps_for PassesOwn.never rfl (pi_range1 (by rfl) T.z_range (pa_cons (pv 7) pa_nil)) (pg_name (i := 13) sc_word_lots.nd rfl (Or.inl rfl)) (pss_cons (ps_set (i := 14) sc_word_lots.nd rfl (Or.inl rfl) (pe_callB (call_min2 rfl) (by rfl) T.z_min (by decide +kernel) (pa_cons (pe_ix ix_list (pv 8) (pe_ix ix_list (pv 9) (pv 13) (fun _ _ => rfl)) (fun _ _ => rfl)) (pa_cons (pe_op op_sub (pv 12) (pe_op op_sub (pe_op op_sub (pv 7) (pv 13)) pe_int)) pa_nil))))
      (pss_cons (ps_aug (i := 12) sc_word_lots.nd rfl (Or.inl rfl) (pv 14) ip_sub)
      (pss_cons (ps_set (i := 15) sc_word_lots.nd rfl (Or.inl rfl) (pe_op op_sub (pe_op op_add (pe_ix ix_list (pv 9) (pv 13) (fun _ _ => rfl)) (pv 14)) pe_int))
      (pss_cons (ps_expr (pe_bm PySem.F.plainAttrs_list PySem.F.slot_list_append PySem.F.type_list_append mt_append (pv 10) (pa_cons (pe_tup (pa_cons (pe_listRg rfl (by rfl) T.z_list (prg_2 (by rfl) T.z_range (pe_op op_add (pv 11) pe_int) (pe_op op_add (pe_op op_add (pv 11) (pv 15)) pe_int))) (pa_cons (pe_ix ix_list (pv 9) (pv 13) (fun _ _ => rfl)) pa_nil))) pa_nil)))
      (pss_one (ps_aug (i := 11) sc_word_lots.nd rfl (Or.inl rfl) (pv 15) ip_add)))))))
    (pss_one (ps_ret (pv 10)))))))))))))))))), ?_⟩
  refine v_atmost (val_var rfl) (by omega) fun H1 e1 => ?_
  refine v_drop (w_call (wa_cons (val_var rfl) (wa_cons (val_var rfl) wa_nil)) ⟨0, 0, rfl, by decide, by decide, fun H2 e2 => ?_⟩)
  refine v_atmost (val_var rfl) (by omega) fun H3 e3 => ?_
  refine v_atmost (val_var rfl) (by omega) fun H4 e4 => ?_
  refine v_least [(d : Int) + f, d, q, w0, (d : Int) + f - d + 1] (wa_cons (val_var rfl) (wa_cons (val_var rfl) (wa_cons (val_var rfl) (wa_cons (val_var rfl) (wa_cons (w_ar (w_ar (val_var rfl) (val_var rfl)) val_c) wa_nil))))) (by simp) (by simp; omega) fun H5 e5 => ?_
  refine v_least [0, 0] (wa_cons (val_var rfl) (wa_cons (val_var rfl) wa_nil)) (by simp) (by simp) fun H6 e6 => ?_
  have eH : Same H H6 := ((((e1.trans e2).trans e3).trans e4).trans e5).trans e6
  refine v_asg (w_ar (val_var rfl) (val_var rfl)) ?_
  refine v_asg (w_min (val_var rfl) (w_ar (val_var rfl) val_c)) ?_
  have ef : (d : Int) + f - d = f := by omega
  have em : min (w0 : Int) ((f : Int) + 1) = ((min w0 (f + 1) : Nat) : Int) := by omega
  rw [ef, em]
  generalize hmany : min w0 (f + 1) = many at *
  have hm1 : 1 ≤ many := by omega
  have hm8 : many ≤ 8 := by omega
  have hmf : many ≤ f + 1 := by omega
  -- gains
  generalize hgs : gainsF q 0 0 d many = gs at *
  have hgl : gs.length = d + 1 := by rw [← hgs]; simp [gainsF]
  refine v_asgE (fun v H7 => ∃ g, v = .ref g ∧ Same H6 H7 ∧ H7 g = some (.lst (gs.map V.int))) (fun Q1 hQ => ?_) (fun v H7 h7 => ?_)
  · refine k_op (w_lst (wa_cons val_c wa_nil) (by simp) fun p hp => ?_)
    refine k_lcR2 (fun i => .int (LF (1 + (i : Int)) q 0 0)) val_c (w_ar (val_var rfl) val_c) (by omega) (fun _ => rfl) (fun i H8 e8 hi Q2 q2 => ?_) (fun p2 H8 hp2 e8 h8 => ?_)
    · refine w_call (wa_cons (val_var rfl) (wa_cons (val_var rfl) (wa_cons (val_var rfl) (wa_cons (val_var rfl) wa_nil)))) ⟨1 + (i : Int), q, 0, 0, rfl, by omega, by omega, by decide, by decide, by decide, by decide, fun H9 e9 => ?_⟩
      exact q2 H9 e9
    · refine ⟨p, p2, _, _, rfl, rfl, e8 _ _ upd_same, h8, ?_, fun g hg => ?_⟩
      · simp
        exact sz_of (by omega)
      refine hQ _ _ ⟨g, rfl, ((same_new hp _).trans e8).trans (same_new hg _), ?_⟩
      rw [upd_same, ← hgs]
      have e9 : ((d : Int) + 1 - 1).toNat = d := by omega
      rw [e9]
      show some (HO.lst (V.int 0 :: (List.range d).map fun (i : Nat) => V.int (LF (1 + (i : Int)) q 0 0))) = some (HO.lst (V.int 0 :: ((List.range d).map fun (i : Nat) => LF ((i : Int) + 1) q 0 0).map V.int))
      rw [List.map_map]
      have e10 : (fun (i : Nat) => V.int (LF (1 + (i : Int)) q 0 0)) = V.int ∘ fun (i : Nat) => LF ((i : Int) + 1) q 0 0 := by
        funext i
        show V.int (LF (1 + (i : Int)) q 0 0) = V.int (LF ((i : Int) + 1) q 0 0)
        rw [Int.add_comm]
      rw [e10]
  obtain ⟨g, rfl, e7, hg⟩ := h7
  -- parts
  have hpt : wlParts d f q w0 = bpParts (gs ++ List.replicate many 0) (d + many - 1) (d + many - 1) many := by
    unfold wlParts
    rw [hmany, hgs]
  rw [hpt] at hparts
  have hwl : wlNone d f q w0 = decide (((bpParts (gs ++ List.replicate many 0) (d + many - 1) (d + many - 1) many).map fun p => gs.getD p.toNat 0).sum ≤ (f : Int)) := by
    unfold wlNone
    simp only
    rw [hmany, hgs]
  have hpl : (bpParts (gs ++ List.replicate many 0) (d + many - 1) (d + many - 1) many).length = many := bpParts_len _ _ _ _
  generalize hps : bpParts (gs ++ List.replicate many 0) (d + many - 1) (d + many - 1) many = ps at *
  refine v_asgE (fun v H8 => ∃ pp, v = .ref pp ∧ Same H7 H8 ∧ H8 pp = some (.lst (ps.map V.int))) (fun Q1 hQ => ?_) (fun v H8 h8 => ?_)
  · refine k_call1 (k_op ⟨_, rfl, ?_⟩)
    refine k_lcR1 (fun _ => V.int 0) (val_var rfl) (by omega) (fun _ => rfl) (fun i H9 e9 hi Q2 q2 => q2 _ (Same.refl _)) (fun p2 H9 hp2 e9 h9 => ?_)
    refine ⟨g, p2, _, _, rfl, rfl, e9 _ _ hg, h9, ?_, fun g2 hg2 => ?_⟩
    · simp
      exact sz_of (by omega)
    refine wa_cons (w_ar (w_ar (val_var rfl) (val_var rfl)) val_c) (wa_cons (val_var rfl) wa_nil) _ ?_
    have et : (d : Int) + (many : Int) - 1 = ((d + many - 1 : Nat) : Int) := by omega
    refine ⟨g2, gs ++ List.replicate many 0, ((d + many - 1 : Nat) : Int), (many : Int), by rw [← et]; rfl, ?_, ?_, by omega, by omega, by omega, by omega, fun pp H10 hpp e10 h10 => ?_⟩
    · refine sq_of ?_
      rw [upd_same, List.map_append, List.map_replicate]
      have e11 : ((List.range ((many : Int)).toNat).map fun _ => V.int 0) = List.replicate many (V.int 0) := by
        rw [List.map_const', List.length_range, Int.toNat_natCast]
      rw [e11]
    · rw [List.length_append, List.length_replicate, hgl]
      omega
    · refine hQ _ _ ⟨pp, rfl, (e9.trans (same_new hg2 _)).trans e10, ?_⟩
      rw [h10, Int.toNat_natCast, Int.toNat_natCast, hps]
  obtain ⟨pp, rfl, e8, hpp⟩ := h8
  have hg8 := e8 _ _ hg
  have e68 : Same H H8 := (eH.trans e7).trans e8
  have hrange : ∀ (i : Nat) (z : Int), ps[i]? = some z → 1 ≤ z ∧ z ≤ (d : Int) := fun i z hz => hparts z (List.mem_of_getElem? hz)
  -- the sum
  refine v_whenE (fun r H9 => r = wlNone d f q w0 ∧ Same H8 H9) (fun Q1 hQ => ?_) (fun H9 h9 => ?_) (fun H9 h9 => ?_)
  · refine k_test (k_op (k_cb1 ?_))
    refine k_lcL (xs := ps.map V.int) (fun _ => true) (fun i => .int (gs.getD (ps.getD i 0).toNat 0)) (val_var rfl) (sq_of hpp) (by simp; omega) (fun _ => rfl) (fun i x H9 e9 hi => et_yes) (fun i x H9 e9 hi _ => ?_) (fun p H9 hp e9 h9 => ?_)
    · obtain ⟨z, rfl, hz, hz'⟩ := mem_at hi
      obtain ⟨z1, z2⟩ := hrange i z hz'
      have ez : ps.getD i 0 = z := by rw [List.getD_eq_getElem?_getD, hz']; rfl
      rw [ez]
      intro H10 e10 Q2 q2
      exact w_ixL (val_var rfl) (val_var rfl) (sq_of ((e9.trans e10) _ _ hg8)) (at_getD (by omega) (by rw [hgl]; omega)) _ (q2 _ (Ex.refl _))
    · rw [given_all, List.length_map] at h9
      have e12 : ((List.range ps.length).map fun i => V.int (gs.getD (ps.getD i 0).toNat 0)) = (ps.map fun p => gs.getD p.toNat 0).map V.int := by
        rw [← range_getD ps fun p => gs.getD p.toNat 0, List.map_map]
        rfl
      rw [e12] at h9
      refine ⟨p, _, rfl, sq_of h9, _, rfl, _, _, rfl, rfl, _, rfl, hQ _ _ ⟨?_, e9⟩⟩
      rw [hwl]
  · exact v_ret val_c (k _ _ (e68.trans h9.2) (by rw [← h9.1]; rfl))
  obtain ⟨hno, e9⟩ := h9
  have hg9 := e9 _ _ hg8
  have hpp9 := e9 _ _ hpp
  refine v_asg' (w_lst wa_nil (by simp) fun l hl => ?_)
  have hl0 : upd H9 l (.lst []) l = some (.lst []) := upd_same
  have hsl : Same H9 (upd H9 l (.lst [])) := same_new hl _
  refine v_asg val_c ?_
  refine v_asg (w_ar (val_var rfl) val_c) ?_
  refine v_for1 (val_var rfl) (by omega) (fun i σ H' => (∃ (used due : Int) (z13 z14 z15 : Option V), σ = [some (.int ((d : Int) + f)), some (.int d), some (.int q), some (.int 0), some (.int 0), some (.int w0), some (.int f), some (.int many), some (.ref g), some (.ref pp), some (.ref l), some (.int used), some (.int due), z13, z14, z15, none, none, none] ∧ 0 ≤ used ∧ used ≤ (i : Int) * 100 ∧ (many : Int) - i ≤ due ∧ due ≤ f + 1) ∧ Same H9 H' ∧ ∃ xs : List V, H' l = some (.lst xs) ∧ xs.length = i) ⟨⟨0, (f : Int) + 1, none, none, none, rfl, by omega, by omega, by omega, by omega⟩, hsl, [], hl0, rfl⟩ ?_ ?_
  · rintro i σ' H' hi ⟨⟨used, due, z13, z14, z15, rfl, hu0, hu1, hd0, hd1⟩, hs', xs, hlx, hxl⟩
    have hgp := hs' _ _ hg9
    have hppp := hs' _ _ hpp9
    have hil : i < ps.length := by rw [hpl]; omega
    obtain ⟨z1, z2⟩ := hrange i _ (List.getElem?_eq_getElem hil)
    have hat : atI (ps.map V.int) (i : Int) = some (.int ps[i]) := atI_map (f := V.int) (by omega) (by rw [Int.toNat_natCast]; exact List.getElem?_eq_getElem hil)
    generalize ps[i] = z at *
    have hgat := at_getD (xs := gs) (i := z) (by omega) (by rw [hgl]; omega)
    have hgpos : 1 ≤ gs.getD z.toNat 0 := by
      rw [← hgs]
      obtain ⟨z', hz'⟩ : ∃ z' : Nat, z.toNat = z' + 1 := ⟨z.toNat - 1, by omega⟩
      rw [hz']
      show 1 ≤ ((List.range d).map fun (i : Nat) => LF ((i : Int) + 1) q 0 0).getD z' 0
      rw [List.getD_eq_getElem?_getD, List.getElem?_map, List.getElem?_range (by omega)]
      exact LF_pos _ _ _ _
    generalize gs.getD z.toNat 0 = gz at *
    refine v_asg (w_min (w_ixL (val_var rfl) (w_ixL (val_var rfl) (val_var rfl) (sq_of hppp) hat) (sq_of hgp) hgat) (w_ar (val_var rfl) (w_ar (w_ar (val_var rfl) (val_var rfl)) val_c))) ?_
    generalize hgain : min gz (due - ((many : Int) - i - 1)) = gain at *
    have hga1 : 1 ≤ gain := by omega
    have hga2 : gain ≤ due := by omega
    refine v_aug rfl (val_var rfl) ?_
    refine v_asg (w_ar (w_ar (w_ixL (val_var rfl) (val_var rfl) (sq_of hppp) hat) (val_var rfl)) val_c) ?_
    refine v_drop ⟨_, rfl, Or.inl ⟨rfl, xs, sq_of hlx⟩, ?_⟩
    -- (list(range(..)), parts[at])
    refine w_ar (val_var rfl) val_c _ ?_
    refine w_ar (w_ar (val_var rfl) (val_var rfl)) val_c _ ?_
    refine ⟨_, _, rfl, rfl, RgOk.of_le (by omega) (by omega) (by omega) (by omega), fun q1 hq1 => ?_⟩
    have hs1 := hs'.trans (same_new hq1 (.lst (rgV (used + 1) (used + (z + gain - 1) + 1))))
    have hlx1 := same_new hq1 (.lst (rgV (used + 1) (used + (z + gain - 1) + 1))) _ _ hlx
    refine w_ixL (val_var rfl) (val_var rfl) (sq_of (hs1 _ _ hpp9)) hat _ ?_
    refine ⟨sz_of (by simp), fun t ht => ?_⟩
    have hs2 := hs1.trans (same_new ht (.tup [.ref q1, .int z]))
    have hlx2 := same_new ht (.tup [.ref q1, .int z]) _ _ hlx1
    refine ⟨l, xs, _, rfl, rfl, hlx2, sz_lt (by omega), ?_⟩
    refine v_aug1 rfl (val_var rfl) ?_
    refine ⟨⟨used + (z + gain - 1), due - gain, _, _, _, rfl, by omega, by omega, by omega, by omega⟩, same_mut hs2 hl, _, upd_same, by simp; omega⟩
  · rintro σ' H' ⟨⟨used, due, z13, z14, z15, rfl, _⟩, hs', xs, hlx, hxl⟩
    exact v_ret (val_var rfl) (k _ _ ((e68.trans e9).trans hs') (by rw [← hno]; rfl))

end
end P84

/-! D7 -/
namespace P84
open PySem L2 Evl
section
variable {P : Program} {w : World} {K : PySem.W.Frag} {mg : Str → Option Value} {base : Heap}
theorem k_lcI {R : V → Hp → Prop} {g : TG} {t : TT} {te tl : TE} {vs : List Nat} {σ : L2.St} {H : Hp} {Q : VK} (h : ∀ Q : VK, (∀ x H1, R x H1 → Q x H1) → tl σ H Q) (k : ∀ x H1, R x H1 → tLc (iList K (tC x)) g t te vs σ H1 Q) : tLc (iList K tl) g t te vs σ H Q :=
  h _ fun x H1 r => k x H1 r
theorem ite_int {b : Prop} [Decidable b] {i j : Int} : (if b then V.int i else V.int j) = V.int (if b then i else j) := by split <;> rfl
def spPurse (K : PySem.W.Frag) : Sp := fun vs H Q _ => ∃ (a : Addr) (ns : List Int) (at' : Int), vs = [.ref a, .int at'] ∧ SqL K H a (ns.map V.int) ∧ 0 ≤ at' ∧ at' ≤ 100 ∧ ns.length ≤ 100 ∧
  ∀ p H' x y, Same H H' → H p = none → 0 ≤ x → H' p = some (.lst [.int x, .int y, .int at']) → Q (.ref p) H'
theorem G__law_purse (T : Env K mg) : FnOk P w K mg base CX0 1 T.f__law_purse T.d__law_purse p__law_purse (spPurse K) := by
  refine T.F__law_purse.ok sc__law_purse (fun vs H Q E h => ?_) (fun cdv A outer s H vs Q E hr h => ?_)
  · obtain ⟨a, ns, at', rfl, _⟩ := h
    rfl
  obtain ⟨a, ns, at', rfl, hS, h0, h1, hl, k⟩ := h
  have hu := hu_of hr
  refine ⟨_, (pss_cons (ps_set (i := 2) sc__law_purse.nd rfl (Or.inl rfl) (pe_ifExp (pt_cmpR op_lt (pv 1) (pe_callB call_len_seq (by rfl) T.z_len PySem.boot_len (pa_cons (pv 0) pa_nil)) (nomark _)) (pe_callTy call_int1 (by rfl) T.z_int (by decide +kernel) (pa_cons (pe_ix ix_list (pv 0) (pv 1) (fun _ _ => rfl)) pa_nil)) (pe_op op_mul pe_int (pe_callB (cr_sum rfl) (by rfl) T.z_sum (by decide +kernel) (pa_cons (pe_lc (own := [("one", 4)]) (g := gName 4) (by rfl) sc__law_purse.nd (pi_list (pe_slice sl_list (pv 0) po_none (po_some pe_int))) (blkOk_by (own := [("one", 4)]) (N := n__law_purse) (sc := defScope s__law_purse) (by decide +kernel)) (fun _ _ _ _ _ => pg_name (i := 4) sc__law_purse.nd rfl (Or.inl rfl)) (fun _ _ _ _ _ => pts_nil) (fun _ _ _ _ _ => (pe_callTy call_int1 (by rfl) T.z_int (by decide +kernel) (pa_cons (pv 4) pa_nil)))) pa_nil)))))
    (pss_cons (ps_set (i := 3) sc__law_purse.nd rfl (Or.inl rfl) (pe_op op_add (pe_op op_mul pe_int (pe_callB call_abs (by rfl) T.z_abs (by decide +kernel) (pa_cons (pv 2) pa_nil))) (pe_ifExp (pt_cmpR op_lt (pv 2) pe_int (nomark _)) pe_int pe_int)))
    (pss_one (ps_ret (pe_lst (pa_cons (pe_ifExp (pt_cmpR op_ge (pv 3) (pe_op op_pow pe_int pe_int) (nomark _)) (pv 3) pe_int) (pa_cons (pe_op op_mod (pe_callTy call_int1 (by rfl) T.z_int (by decide +kernel) (pa_cons (pe_op op_add (pe_op op_add (pv 3) (pe_op op_mul (pv 1) pe_int)) pe_int) pa_nil)) pe_int) (pa_cons (pv 1) pa_nil)))))))), ?_⟩
  refine v_asgE (fun v H1 => ∃ c : Int, v = .int c ∧ Same H H1) (fun Q1 hQ => ?_) (fun v H1 h1 => ?_)
  · refine w_cmp (val_var rfl) (w_len (val_var rfl) hS) _ ?_
    refine ite2 (fun c => ?_) (fun c => ?_)
    · have c' : at' < ((ns.map V.int).length : Int) := of_decide_eq_true c
      rw [List.length_map] at c'
      exact w_int (w_ixL (val_var rfl) (val_var rfl) hS (at_getD h0 c')) _ (hQ _ _ ⟨_, rfl, Same.refl _⟩)
    · refine k_op ?_
      refine k_cb1 ?_
      refine k_lcI (R := fun x H1 => ∃ p, x = .ref p ∧ Same H H1 ∧ SqL K H1 p ((ns.take 4).map V.int)) (fun Q2 hQ2 => ?_) (fun x H1 hx => ?_)
      · refine ⟨_, rfl, _, rfl, a, _, rfl, hS, fun p hp => hQ2 _ _ ⟨p, rfl, same_new hp _, ?_⟩⟩
        refine sq_of ?_
        rw [upd_same]
        have e : cutV (ns.map V.int) none (some 4) = (ns.take 4).map V.int := by
          unfold cutV
          have e0 : HT.sIx (ns.map V.int).length 0 none = 0 := rfl
          have e1 : HT.sIx (ns.map V.int).length (ns.map V.int).length (some 4) = min 4 (ns.map V.int).length := by
            first | rfl | (unfold HT.sIx; simp)
          rw [e0, e1, List.drop_zero, Nat.sub_zero, ← List.map_take]
          congr 1
          by_cases h4 : 4 ≤ ns.length
          · rw [Nat.min_eq_left (by rw [List.length_map]; exact h4)]
          · rw [List.length_map, Nat.min_eq_right (by omega), List.take_length, List.take_of_length_le (by omega)]
        rw [e]
      · obtain ⟨p, rfl, e1, hp⟩ := hx
        refine k_lcL (xs := (ns.take 4).map V.int) (fun _ => true) (fun i => .int ((ns.take 4).getD i 0)) val_c hp (by simp; omega) (fun _ => rfl) (fun i x H9 e9 hi => et_yes) (fun i x H9 e9 hi _ => ?_) (fun p2 H9 hp2 e9 h9 => ?_)
        · obtain ⟨z, rfl, hz, hz'⟩ := mem_at hi
          have ez : (ns.take 4).getD i 0 = z := by rw [List.getD_eq_getElem?_getD, hz']; rfl
          rw [ez]
          intro H10 e10 Q2 q2
          exact w_int (val_var rfl) _ (q2 _ (Ex.refl _))
        · rw [given_all, List.length_map] at h9
          have e12 : ((List.range (ns.take 4).length).map fun i => V.int ((ns.take 4).getD i 0)) = (ns.take 4).map V.int := by
            have := range_getD (ns.take 4) id
            rw [List.map_id] at this
            rw [← this, List.map_map]
            simp only [List.map_map, List.length_map, List.length_range]
            rw [this]
            rfl
          rw [e12] at h9
          exact ⟨p2, _, rfl, sq_of h9, _, _, rfl, rfl, Or.inl ⟨by decide, by decide⟩, hQ _ _ ⟨_, rfl, e1.trans e9⟩⟩
  obtain ⟨cell, rfl, e1⟩ := h1
  refine v_asg (w_ar (w_arC val_c (w_abs (val_var rfl)) (Or.inl ⟨by decide, by decide⟩)) (w_is (w_ite (w_cmp (val_var rfl) val_c) (fun c => val_c) (fun c => val_c)) ite_int)) ?_
  have hpos : 0 ≤ 2 * (if cell < 0 then -cell else cell) + (if decide (cell < 0) = true then 1 else 0) := by
    by_cases hc : cell < 0
    · rw [if_pos hc, if_pos (decide_eq_true hc)]; omega
    · rw [if_neg hc, if_neg (by rw [decide_eq_false hc]; decide)]; omega
  generalize 2 * (if cell < 0 then -cell else cell) + (if decide (cell < 0) = true then 1 else 0) = size at *
  refine v_ret' (w_lst (wa_cons (w_is (w_ite (w_cmp (val_var rfl) (w_arC val_c val_c ⟨by decide, by decide, by decide⟩)) (fun c => val_var rfl) (fun c => val_c)) ite_int)
    (wa_cons (w_arC (w_int (w_ar (w_ar (val_var rfl) (w_arC (val_var rfl) val_c (Or.inr ⟨by decide, by decide⟩))) val_c)) val_c (by decide)) (wa_cons (val_var rfl) wa_nil))) (by simp) fun p hp => ?_)
  refine k p _ _ _ (e1.trans (same_new hp _)) (e1.free hp) ?_ upd_same
  split
  · exact hpos
  · exact Int.le_refl _
/-- a purse: a list of three ints -/
def spDraw : Sp := fun vs H Q _ => ∃ (p : Addr) (n x y z : Int), vs = [.ref p, .int n] ∧ 1 ≤ n ∧ n ≤ 1000000000000000000000000000000 ∧ H p = some (.lst [.int x, .int y, .int z]) ∧ 0 ≤ x ∧
  ∀ v x' y' z', 0 ≤ v → v < n → 0 ≤ x' → Q (.int v) (upd H p (.lst [.int x', .int y', .int z']))
theorem G__law_draw (T : Env K mg) : FnOk P w K mg base CX0 1 T.f__law_draw T.d__law_draw p__law_draw spDraw := by
  refine T.F__law_draw.ok sc__law_draw (fun vs H Q E h => ?_) (fun cdv A outer s H vs Q E hr h => ?_)
  · obtain ⟨p, n, x, y, z, rfl, _⟩ := h
    rfl
  obtain ⟨p, n, x, y, z, rfl, hn, hn', hp, hx, k⟩ := h
  have hu := hu_of hr
  refine ⟨_, (pss_cons (ps_if (pt_cmpR op_gt (pe_ix ix_list (pv 0) pe_int (fun _ _ => rfl)) pe_int (nomark _)) (pss_cons (ps_set (i := 2) sc__law_draw.nd rfl (Or.inl rfl) (pe_op op_mod (pe_callTy call_int1 (by rfl) T.z_int (by decide +kernel) (pa_cons (pe_ix ix_list (pv 0) pe_int (fun _ _ => rfl)) pa_nil)) (pv 1)))
      (pss_cons (ps_asg (pe_op op_fdivW (pe_ix ix_list (pv 0) pe_int (fun _ _ => rfl)) (pv 1)) (pg_sub (pv 0) pe_int set_list))
      (pss_one (ps_ret (pv 2))))) pss_nil)
    (pss_cons (ps_augS (pv 0) pe_int get_list pe_int ip_add set_list)
    (pss_cons (ps_asg (pe_op op_mod (pe_callTy call_int1 (by rfl) T.z_int (by decide +kernel) (pa_cons (pe_op op_add (pe_op op_mul (pe_ix ix_list (pv 0) pe_int (fun _ _ => rfl)) pe_int) (pe_op op_mul (pe_ix ix_list (pv 0) pe_int (fun _ _ => rfl)) pe_int)) pa_nil)) pe_int) (pg_sub (pv 0) pe_int set_list))
    (pss_one (ps_ret (pe_op op_mod (pe_op op_fdiv (pe_op op_mod (pe_callTy call_int1 (by rfl) T.z_int (by decide +kernel) (pa_cons (pe_op op_add (pe_op op_mul (pe_ix ix_list (pv 0) pe_int (fun _ _ => rfl)) pe_int) (pe_op op_mul (pe_ix ix_list (pv 0) pe_int (fun _ _ => rfl)) pe_int)) pa_nil)) pe_int) pe_int) (pv 1))))))), ?_⟩
  have at0 : ∀ {x y z : Int}, atI ([.int x, .int y, .int z] : List V) 0 = some (.int x) := rfl
  refine v_when (w_cmp (w_ixL (val_var rfl) val_c (sq_of hp) rfl) val_c) (fun c => ?_) (fun c => ?_)
  · refine v_asg (w_arC (w_int (w_ixL (val_var rfl) val_c (sq_of hp) rfl)) (val_var rfl) (by show 0 < n; omega)) ?_
    refine w_arC (w_ixL (val_var rfl) val_c (sq_of hp) rfl) (val_var rfl) (wide30 (by omega) hn') _ ?_
    refine ⟨_, rfl, p, _, 0, 0, rfl, rfl, hp, rfl, ?_⟩
    refine v_ret (val_var rfl) ?_
    exact k _ _ _ _ (Int.emod_nonneg _ (by omega)) (Int.emod_lt_of_pos _ (by omega)) (Int.ediv_nonneg hx (by omega))
  refine ⟨_, rfl, p, _, 2, _, rfl, rfl, sq_of hp, rfl, _, _, rfl, rfl, p, _, 2, 2, rfl, rfl, hp, rfl, ?_⟩
  have hp1 : upd H p (.lst (([.int x, .int y, .int z] : List V).set 2 (.int (z + 1)))) p = some (.lst [.int x, .int y, .int (z + 1)]) := upd_same
  have hu1 : ∀ o, upd (upd H p (.lst (([.int x, .int y, .int z] : List V).set 2 (.int (z + 1))))) p o = upd H p o := fun o => upd_upd
  generalize upd H p (.lst (([.int x, .int y, .int z] : List V).set 2 (.int (z + 1)))) = H1 at *
  refine w_arC (w_int (w_ar (w_arC (w_ixL (val_var rfl) val_c (sq_of hp1) rfl) val_c (Or.inr ⟨by decide, by decide⟩)) (w_arC (w_ixL (val_var rfl) val_c (sq_of hp1) rfl) val_c (Or.inr ⟨by decide, by decide⟩)))) val_c (by decide) _ ?_
  refine ⟨_, rfl, p, _, 1, 1, rfl, rfl, hp1, rfl, ?_⟩
  rw [hu1]
  generalize (y * 48271 + (z + 1) * 69621) % 2147483647 = y2
  have hp2 : upd H p (.lst (([.int x, .int y, .int (z + 1)] : List V).set 1 (.int y2))) p = some (.lst [.int x, .int y2, .int (z + 1)]) := upd_same
  refine v_ret (w_arC (w_arC (w_arC (w_int (w_ar (w_arC (w_ixL (val_var rfl) val_c (sq_of hp2) rfl) val_c (Or.inr ⟨by decide, by decide⟩)) (w_arC (w_ixL (val_var rfl) val_c (sq_of hp2) rfl) val_c (Or.inr ⟨by decide, by decide⟩)))) val_c (by decide)) val_c ⟨by decide, by decide⟩) (val_var rfl) (by show 0 < n; omega)) ?_
  exact k _ _ _ _ (Int.emod_nonneg _ (by omega)) (Int.emod_lt_of_pos _ (by omega)) hx
theorem triF_len : ∀ n, (triF n).length = n + 1
  | 0 => rfl
  | n + 1 => by
    show ([1] ++ _ ++ [1] : List Int).length = _
    simp [triF_len n]
def spTri : Sp := fun vs H Q _ => ∃ n : Int, vs = [.int n] ∧ 0 ≤ n ∧ n ≤ 1000 ∧ ∀ p H', Same H H' → H' p = some (.lst ((triF n.toNat).map V.int)) → Q (.ref p) H'
theorem G__law_triangle (T : Env K mg) : FnOk P w K mg base CX0 1 T.f__law_triangle T.d__law_triangle p__law_triangle spTri := by
  refine T.F__law_triangle.ok sc__law_triangle (fun vs H Q E h => ?_) (fun cdv A outer s H vs Q E hr h => ?_)
  · obtain ⟨n, rfl, _⟩ := h
    rfl
  obtain ⟨n, rfl, hn, hn', k⟩ := h
  have hu := hu_of hr
  refine ⟨_, (pss_cons (ps_set (i := 1) sc__law_triangle.nd rfl (Or.inr rfl) (pe_lst (pa_cons pe_int pa_nil)))
    (pss_cons (ps_for PassesOwn.never rfl (pi_range1 (by rfl) T.z_range (pa_cons (pv 0) pa_nil)) (pg_name (i := 2) sc__law_triangle.nd rfl (Or.inl rfl)) (pss_one (ps_set (i := 1) sc__law_triangle.nd rfl (Or.inr rfl) (pe_op op_cat (pe_op op_cat (pe_lst (pa_cons pe_int pa_nil)) (pe_lc (own := [("at", 3)]) (g := gName 3) (by rfl) sc__law_triangle.nd (pi_range1 (by rfl) T.z_range (pa_cons (pe_op op_sub (pe_callB call_len_seq (by rfl) T.z_len PySem.boot_len (pa_cons (pv 1) pa_nil)) pe_int) pa_nil)) (blkOk_by (own := [("at", 3)]) (N := n__law_triangle) (sc := defScope s__law_triangle) (by decide +kernel)) (fun _ _ _ _ _ => pg_name (i := 3) sc__law_triangle.nd rfl (Or.inl rfl)) (fun _ _ _ _ _ => pts_nil) (fun _ _ _ _ _ => (pe_op op_add (pe_ix ix_listB (pv 1) (pv 3) (fun _ _ => rfl)) (pe_ix ix_listB (pv 1) (pe_op op_add (pv 3) pe_int) (fun _ _ => rfl)))))) (pe_lst (pa_cons pe_int pa_nil))))))
    (pss_one (ps_ret (pv 1))))), ?_⟩
  refine v_asg' (w_lst (wa_cons val_c wa_nil) (by simp) fun p hp => ?_)
  have hp0 : upd H p (.lst [.int 1]) p = some (.lst ((triF 0).map V.int)) := upd_same
  have hs0 : Same H (upd H p (.lst [.int 1])) := same_new hp _
  generalize upd H p (.lst [.int 1]) = H0 at *
  refine v_for1 (val_var rfl) (by omega) (fun i σ H' => Same H H' ∧ ∃ p z2 z3, σ = [some (.int n), some (.ref p), z2, z3] ∧ H' p = some (.lst ((triF i).map V.int))) ⟨hs0, p, none, none, rfl, hp0⟩ ?_ ?_
  · rintro i σ' H' hi ⟨hs, r, z2, z3, rfl, hr'⟩
    have hlen := triF_len i
    refine v_asg1' ?_
    refine k_op (k_op (w_lst (wa_cons val_c wa_nil) (by simp) fun q1 hq1 => ?_))
    have hr1 := same_new hq1 (.lst [.int 1]) _ _ hr'
    have hs1 := hs.trans (same_new hq1 (.lst [.int 1]))
    have hq1' : upd H' q1 (.lst [.int 1]) q1 = some (.lst [.int 1]) := upd_same
    generalize upd H' q1 (.lst [.int 1]) = H1 at *
    refine k_lcR1 (fun j => .int ((triF i).getD j 0 + (triF i).getD (j + 1) 0)) (w_ar (w_len (val_var rfl) (sq_of hr1)) val_c) (by rw [List.length_map, hlen]; omega) (fun _ => rfl) (fun j H2 e2 hj Q2 q2 => ?_) (fun q2 H2 hq2 e2 h2 => ?_)
    · rw [List.length_map, hlen] at hj
      refine w_ar (w_ixL (val_var rfl) (val_var rfl) (sq_of (e2 _ _ hr1)) (at_getD (by omega) (by rw [hlen]; omega))) (w_ixL (val_var rfl) (w_ar (val_var rfl) val_c) (sq_of (e2 _ _ hr1)) (at_getD (by omega) (by rw [hlen]; omega))) _ ?_
      have e3 : ((j : Int) + 1).toNat = j + 1 := by omega
      rw [e3, Int.toNat_natCast]
      exact q2 _ (Same.refl _)
    · refine ⟨q1, q2, _, _, rfl, rfl, e2 _ _ hq1', h2, ?_, fun q3 hq3 => ?_⟩
      · simp
        exact sz_of (by omega)
      have h3 : upd H2 q3 (.lst ([.int 1] ++ (List.range ((((triF i).map V.int).length : Int) - 1).toNat).map fun j => V.int ((triF i).getD j 0 + (triF i).getD (j + 1) 0))) q3 = some (.lst ([.int 1] ++ (List.range ((((triF i).map V.int).length : Int) - 1).toNat).map fun j => V.int ((triF i).getD j 0 + (triF i).getD (j + 1) 0))) := upd_same
      have hs3 := (hs1.trans e2).trans (same_new hq3 (.lst ([.int 1] ++ (List.range ((((triF i).map V.int).length : Int) - 1).toNat).map fun j => V.int ((triF i).getD j 0 + (triF i).getD (j + 1) 0))))
      generalize upd H2 q3 (.lst ([.int 1] ++ (List.range ((((triF i).map V.int).length : Int) - 1).toNat).map fun j => V.int ((triF i).getD j 0 + (triF i).getD (j + 1) 0))) = H3 at *
      refine w_lst (wa_cons val_c wa_nil) (by simp) fun q4 hq4 => ?_
      refine ⟨q3, q4, _, _, rfl, rfl, same_new hq4 _ _ _ h3, upd_same, ?_, fun q5 hq5 => ?_⟩
      · simp
        exact sz_of (by omega)
      refine ⟨(hs3.trans (same_new hq4 _)).trans (same_new hq5 _), q5, _, _, rfl, ?_⟩
      rw [upd_same]
      have e4 : ((((triF i).map V.int).length : Int) - 1).toNat = (triF i).length - 1 := by rw [List.length_map]; omega
      rw [e4]
      show _ = some (HO.lst (([1] ++ ((List.range ((triF i).length - 1)).map fun (j : Nat) => (triF i).getD j 0 + (triF i).getD (j + 1) 0) ++ [1] : List Int).map V.int))
      rw [List.map_append, List.map_append, List.map_map]
      rfl
  · rintro σ' H' ⟨hs, r, z2, z3, rfl, hr'⟩
    exact v_ret (val_var rfl) (k r _ hs hr')
def spLPrice : Sp := fun vs H Q _ => ∃ a b : Int, vs = [.int a, .int b] ∧ 0 ≤ a ∧ a ≤ 400 ∧ 0 ≤ b ∧ b ≤ 400 ∧ ∀ H', Same H H' → Q (.int (lawP a b)) H'
theorem cut_take {xs : List V} {n : Int} (h : 0 ≤ n) : cutV xs none (some n) = xs.take n.toNat := by
  unfold cutV
  have e0 : HT.sIx xs.length 0 none = 0 := rfl
  have e1 : HT.sIx xs.length xs.length (some n) = min n.toNat xs.length := by
    unfold HT.sIx
    simp
    omega
  rw [e0, e1, List.drop_zero, Nat.sub_zero]
  by_cases h4 : n.toNat ≤ xs.length
  · rw [Nat.min_eq_left h4]
  · rw [Nat.min_eq_right (by omega), List.take_length, List.take_of_length_le (by omega)]
theorem G__law_price (T : Env K mg) : FnOk P w K mg base CX0 2 T.f__law_price T.d__law_price p__law_price spLPrice := by
  refine T.F__law_price.ok sc__law_price (fun vs H Q E h => ?_) (fun cdv A outer s H vs Q E hr h => ?_)
  · obtain ⟨a, b, rfl, _⟩ := h
    rfl
  obtain ⟨a, b, rfl, ha, ha', hb, hb', k⟩ := h
  have hu := hu_of hr
  refine ⟨_, (pss_one (ps_ret (pe_callB (cr_sum rfl) (by rfl) T.z_sum (by decide +kernel) (pa_cons (pe_slice sl_list (pe_call (G__law_triangle T) (hr.mono (by decide)) rfl T.m__law_triangle T.F__law_triangle.kp (b__law_triangle T) .nil pass0 (pa_cons (pe_op op_add (pe_op op_add (pv 0) (pv 1)) pe_int) pa_nil)) po_none (po_some (pe_op op_add (pv 0) pe_int))) pa_nil)))), ?_⟩
  refine v_ret' (k_cb1 ?_)
  refine w_call (wa_cons (w_ar (w_ar (val_var rfl) (val_var rfl)) val_c) wa_nil) ⟨_, rfl, by omega, by omega, fun p H1 e1 h1 => ?_⟩
  refine w_ar (val_var rfl) val_c _ ?_
  refine ⟨_, rfl, p, _, rfl, sq_of h1, fun q hq => ⟨q, (triF (a + b + 1).toNat).take (a + 2).toNat, rfl, ?_, ?_⟩⟩
  · refine sq_of ?_
    rw [upd_same, cut_take (by omega), List.map_take]
  · exact k _ (e1.trans (same_new hq _))
def spIsW : Sp := fun vs H Q _ => ∃ v : Int, vs = [.int v] ∧ ∀ H', Same H H' → Q (.bl true) H'
theorem G__law_is_whole (T : Env K mg) : FnOk P w K mg base CX0 1 T.f__law_is_whole T.d__law_is_whole p__law_is_whole spIsW := by
  refine T.F__law_is_whole.ok sc__law_is_whole (fun vs H Q E h => ?_) (fun cdv A outer s H vs Q E hr h => ?_)
  · obtain ⟨v, rfl, _⟩ := h
    rfl
  obtain ⟨v, rfl, q⟩ := h
  have hu := hu_of hr
  refine ⟨_, (pss_one (ps_ret (pe_and (pe_callB call_isi (by rfl) T.z_isinstance (by decide +kernel) (pa_cons (pv 0) (pa_cons (pe_bltn (v := .ty "int") (by rfl) T.z_int (by decide +kernel) rfl) pa_nil))) (pe_one (pe_not (pe_callB call_isi (by rfl) T.z_isinstance (by decide +kernel) (pa_cons (pv 0) (pa_cons (pe_bltn (v := .ty "bool") (by rfl) T.z_bool (by decide +kernel) rfl) pa_nil)))))))), ?_⟩
  refine v_ret (w_andV (w_isi (b := true) (t := "int") (val_var rfl) (.base (.int v)) (by decide +kernel)) fun _ => w_notV (w_isi (b := false) (t := "int") (val_var rfl) (.base (.int v)) (by decide +kernel))) ?_
  exact q _ (Same.refl _)

end
end P84

/-! D8 -/
namespace P84
open PySem L2 Evl
section
variable {P : Program} {w : World} {K : PySem.W.Frag} {mg : Str → Option Value} {base : Heap}
def spOwnBad : Sp := fun vs H Q _ => ∃ (t : Addr) (d q f a b : Int) (kvs : List (List Key × V)), vs = [.ref t, .int d, .int q, .int f, .int a, .int b] ∧ 1 ≤ d ∧ d ≤ 1000 ∧ 1 ≤ q ∧ q ≤ 1000 ∧ 0 ≤ f ∧ f ≤ 1000 ∧ 0 ≤ a ∧ 0 ≤ b ∧ H t = some (.dT kvs) ∧
  (0 < a → ∀ f', 0 ≤ f' → f' ≤ f → valV kvs [.inl f', .inl (a - 1), .inl b] = some (.bl (KP d q f' (a - 1) b))) ∧ (0 < b → ∀ f', 0 ≤ f' → f' ≤ f → valV kvs [.inl f', .inl a, .inl (b - 1)] = some (.bl (KP d q f' a (b - 1)))) ∧
  ∀ v H', Same H H' → decide (v = V.non) = (KPP d q f a b).isNone → Q v H'
theorem G__law_own_bad (T : Env K mg) : FnOk P w K mg base CX0 1 T.f__law_own_bad T.d__law_own_bad p__law_own_bad spOwnBad := by
  refine T.F__law_own_bad.ok sc__law_own_bad (fun vs H Q E h => ?_) (fun cdv A outer s H vs Q E hr h => ?_)
  · obtain ⟨t, d, q, f, a, b, kvs, rfl, _⟩ := h
    rfl
  obtain ⟨t, d, q, f, a, b, kvs, rfl, hd, hd', hq, hq', hf, hf', ha, hb, ht, hA, hB, k⟩ := h
  have hu := hu_of hr
  refine ⟨_, (pss_cons (ps_set (i := 6) sc__law_own_bad.nd rfl (Or.inl rfl) (pe_callB (call_min2 rfl) (by rfl) T.z_min (by decide +kernel) (pa_cons (pv 2) (pa_cons (pe_op op_add (pv 1) (pv 3)) pa_nil))))
    (pss_cons (ps_for PassesOwn.never rfl (pi_range2 (by rfl) T.z_range (pa_cons (pe_op op_fdiv (pe_op op_add (pv 6) pe_int) pe_int) (pa_cons (pe_op op_add (pe_callB (call_min2 rfl) (by rfl) T.z_min (by decide +kernel) (pa_cons (pv 6) (pa_cons (pv 3) pa_nil))) pe_int) pa_nil))) (pg_name (i := 7) sc__law_own_bad.nd rfl (Or.inl rfl)) (pss_cons (ps_set (i := 8) sc__law_own_bad.nd rfl (Or.inl rfl) (pe_op op_sub (pv 6) (pv 7)))
      (pss_cons (ps_set (i := 9) sc__law_own_bad.nd rfl (Or.inl rfl) (pe_and (pe_cmpR op_gt (pv 4) pe_int (nomark _)) (pe_one (pe_dget hu (pv 0) (pe_tup (pa_cons (pe_op op_sub (pv 3) (pv 7)) (pa_cons (pe_op op_sub (pv 4) pe_int) (pa_cons (pv 5) pa_nil)))) (fun _ _ => rfl)))))
      (pss_cons (ps_set (i := 10) sc__law_own_bad.nd rfl (Or.inl rfl) (pe_and (pe_cmpR op_gt (pv 5) pe_int (nomark _)) (pe_and (pe_cmpR op_gt (pv 8) pe_int (nomark _)) (pe_one (pe_dget hu (pv 0) (pe_tup (pa_cons (pe_op op_sub (pv 3) (pv 8)) (pa_cons (pv 4) (pa_cons (pe_op op_sub (pv 5) pe_int) pa_nil)))) (fun _ _ => rfl))))))
      (pss_one (ps_if (PW.pt (pw_and (pt_not (pt_val (pv 9))) (pw_and1 (pt_not (pt_val (pv 10)))))) (pss_one (ps_ret (pe_tup (pa_cons (pv 7) (pa_cons (pv 8) pa_nil))))) pss_nil))))))
    (pss_one (ps_ret pe_non)))), ?_⟩
  refine v_asg (w_min (val_var rfl) (w_ar (val_var rfl) (val_var rfl))) ?_
  refine v_for2 (w_arC (w_ar (val_var rfl) val_c) val_c ⟨by decide, by decide⟩) (w_ar (w_min (val_var rfl) (val_var rfl)) val_c) (by omega)
    (fun i σ H' => (∃ z1 z2 z3 z4, σ = [some (.ref t), some (.int d), some (.int q), some (.int f), some (.int a), some (.int b), some (.int (min q (d + f))), z1, z2, z3, z4]) ∧ Same H H' ∧
      ∀ j : Nat, j < i → okx d q f a b ((min q (d + f) + 1) / 2 + (j : Int)) = true) ⟨⟨none, none, none, none, rfl⟩, Same.refl _, fun j hj => by omega⟩ ?_ ?_
  · rintro i σ' H' hi ⟨⟨z1, z2, z3, z4, rfl⟩, hs, hok⟩
    generalize hxx : (min q (d + f) + 1) / 2 + (i : Int) = x at *
    have hx1 : min q (d + f) ≤ 2 * x := by omega
    have hx2 : x ≤ min (min q (d + f)) f := by omega
    refine v_asg (w_ar (val_var rfl) (val_var rfl)) ?_
    refine v_asgE (fun v H1 => v = .bl (decide (0 < a) && KP d q (f - x) (a - 1) b) ∧ Same H H1) (fun Q1 hQ => ?_) (fun v H1 h1 => ?_)
    · refine k_andV (w_cmpV (val_var rfl) val_c) (fun c => ?_) (fun c => hQ _ _ ⟨by rw [c]; rfl, hs⟩)
      refine k_get3 (val_var rfl) (w_ar (val_var rfl) (val_var rfl)) (w_ar (val_var rfl) val_c) (val_var rfl) (hs _ _ ht) (hA (of_decide_eq_true c) (f - x) (by omega) (by omega)) fun p hp => hQ _ _ ⟨by rw [c]; rfl, hs.trans (same_new hp _)⟩
    obtain ⟨rfl, hs1⟩ := h1
    refine v_asgE (fun v H2 => v = .bl (decide (0 < b) && (decide (0 < min q (d + f) - x) && KP d q (f - (min q (d + f) - x)) a (b - 1))) ∧ Same H H2) (fun Q1 hQ => ?_) (fun v H2 h2 => ?_)
    · refine k_andV (w_cmpV (val_var rfl) val_c) (fun c => ?_) (fun c => hQ _ _ ⟨by rw [c]; rfl, hs1⟩)
      refine k_andV (w_cmpV (val_var rfl) val_c) (fun c' => ?_) (fun c' => hQ _ _ ⟨by rw [c, c']; rfl, hs1⟩)
      have c2 : 0 < min q (d + f) - x := of_decide_eq_true c'
      refine k_get3 (val_var rfl) (w_ar (val_var rfl) (val_var rfl)) (val_var rfl) (w_ar (val_var rfl) val_c) (hs1 _ _ ht) (hB (of_decide_eq_true c) (f - (min q (d + f) - x)) (by omega) (by omega)) fun p hp => hQ _ _ ⟨by rw [c, c']; rfl, hs1.trans (same_new hp _)⟩
    obtain ⟨rfl, hs2⟩ := h2
    have hoke : okx d q f a b x = ((decide (0 < a) && KP d q (f - x) (a - 1) b) || (decide (0 < b) && (decide (0 < min q (d + f) - x) && KP d q (f - (min q (d + f) - x)) a (b - 1)))) := by
      unfold okx kpOk
      rw [Bool.and_assoc]
    generalize (decide (0 < a) && KP d q (f - x) (a - 1) b) = r1 at *
    generalize (decide (0 < b) && (decide (0 < min q (d + f) - x) && KP d q (f - (min q (d + f) - x)) a (b - 1))) = r2 at *
    refine v_when1 (w_and (w_not (w_B (val_var rfl))) fun c => (w_not (w_B (val_var rfl)))) (fun c => ?_) (fun c => ?_)
    · refine v_ret' (w_tup (wa_cons (val_var rfl) (wa_cons (val_var rfl) wa_nil)) (by simp) fun p hp => ?_)
      refine k _ _ (hs2.trans (same_new hp _)) ?_
      have hz : (KPP d q f a b).isNone = false := by
        refine xs2_some (i := i) (by omega) ?_
        rw [hxx, hoke]
        cases r1 <;> cases r2 <;> first | rfl | cases c
      rw [hz]
      exact decide_eq_false (fun e => nomatch e)
    · refine ⟨⟨_, _, _, _, rfl⟩, hs2, fun j hj => ?_⟩
      by_cases hji : j = i
      · subst hji
        rw [hxx, hoke]
        cases r1 <;> cases r2 <;> first | rfl | cases c
      · exact hok j (by omega)
  · rintro σ' H' ⟨⟨z1, z2, z3, z4, rfl⟩, hs, hok⟩
    refine v_ret val_c (k _ _ hs ?_)
    have hz : (KPP d q f a b).isNone = true := xs2_none fun j hj => hok j (by omega)
    rw [hz]
    exact decide_eq_true rfl
/-! the law's own table -/
def TabOk (d q : Int) (kvs : List (List Key × V)) (r m f : Nat) : Prop := valV kvs [.inl (f : Int), .inl (r : Int), .inl (m : Int)] = some (.bl (KP d q f r m))
def TabAt (d q : Int) (B M : Nat) (H0 : Hp) (t : Addr) (i j l L : Nat) (H' : Hp) : Prop := H0 t = none ∧ Same H0 H' ∧ ∃ kvs, H' t = some (.dT kvs) ∧ kvs.length ≤ L ∧
  ∀ r m f : Nat, m ≤ B → f ≤ M → (r < i ∨ r = i ∧ (m < j ∨ m = j ∧ f < l)) → TabOk d q kvs r m f
theorem KP_none {d q f a b : Int} (hd : 1 ≤ d) (hq : 1 ≤ q) (ha : 0 ≤ a) (hb : 0 ≤ b) : KP d q f a b = (KPP d q f a b).isNone ∨ (f ≠ 0 ∧ False) ∨ KP d q f a b = (KPP d q f a b).isNone := by
  rw [KP_eq ha hb]
  by_cases h : f = 0
  · subst h
    rw [if_pos rfl]
    refine Or.inl (xs2_none fun i hi => ?_).symm
    omega
  · rw [if_neg h]
    exact Or.inl rfl
theorem KP_is {d q f a b : Int} (hd : 1 ≤ d) (hq : 1 ≤ q) (ha : 0 ≤ a) (hb : 0 ≤ b) : KP d q f a b = (KPP d q f a b).isNone := by
  rcases KP_none (f := f) hd hq ha hb with h | ⟨_, h⟩ | h
  · exact h
  · exact h.elim
  · exact h
def spTab : Sp := fun vs H Q _ => ∃ d q most a b : Int, vs = [.int d, .int q, .int most, .int a, .int b] ∧ 1 ≤ d ∧ d ≤ 1000 ∧ 1 ≤ q ∧ q ≤ 1000 ∧ 0 ≤ most ∧ most ≤ 100 ∧ 0 ≤ a ∧ a ≤ 6 ∧ 0 ≤ b ∧ b ≤ 6 ∧
  ∀ t H' kvs, Same H H' → H' t = some (.dT kvs) → (∀ r m f : Nat, r ≤ a.toNat → m ≤ b.toNat → f ≤ most.toNat → TabOk d q kvs r m f) → Q (.ref t) H'
theorem G__law_own_table (T : Env K mg) : FnOk P w K mg base CX0 2 T.f__law_own_table T.d__law_own_table p__law_own_table spTab := by
  refine T.F__law_own_table.ok sc__law_own_table (fun vs H Q E h => ?_) (fun cdv A outer s H vs Q E hr h => ?_)
  · obtain ⟨d, q, most, a, b, rfl, _⟩ := h
    rfl
  obtain ⟨d, q, most, a, b, rfl, hd, hd', hq, hq', hm, hm', ha, ha', hb, hb', k⟩ := h
  have hu := hu_of hr
  refine ⟨_, (pss_cons (ps_set (i := 5) sc__law_own_table.nd rfl (Or.inl rfl) pe_dnewT)
    (pss_cons (ps_for PassesOwn.never rfl (pi_range1 (by rfl) T.z_range (pa_cons (pe_op op_add (pv 3) pe_int) pa_nil)) (pg_name (i := 6) sc__law_own_table.nd rfl (Or.inl rfl)) (pss_one (ps_for PassesOwn.never rfl (pi_range1 (by rfl) T.z_range (pa_cons (pe_op op_add (pv 4) pe_int) pa_nil)) (pg_name (i := 7) sc__law_own_table.nd rfl (Or.inl rfl)) (pss_one (ps_for PassesOwn.never rfl (pi_range1 (by rfl) T.z_range (pa_cons (pe_op op_add (pv 2) pe_int) pa_nil)) (pg_name (i := 8) sc__law_own_table.nd rfl (Or.inl rfl)) (pss_one (ps_dput hu (pv 5) (pe_tup (pa_cons (pv 8) (pa_cons (pv 6) (pa_cons (pv 7) pa_nil)))) (pe_cmpR op_isN (pe_call (G__law_own_bad T) (hr.mono (by decide)) rfl T.m__law_own_bad T.F__law_own_bad.kp (b__law_own_bad T) .nil pass0 (pa_cons (pv 5) (pa_cons (pv 0) (pa_cons (pv 1) (pa_cons (pv 8) (pa_cons (pv 6) (pa_cons (pv 7) pa_nil))))))) pe_non (nomark _)) rfl)))))))
    (pss_one (ps_ret (pv 5))))), ?_⟩
  refine v_asg' (fun t ht => ?_ : ∀ t, H t = none → _)
  have hT0 : TabAt d q b.toNat most.toNat H t 0 0 0 0 (upd H t (.dT [])) := ⟨ht, same_new ht _, [], upd_same, Nat.le_refl _, fun r m f _ _ h => by omega⟩
  generalize upd H t (.dT []) = H1 at *
  refine v_for1 (w_ar (val_var rfl) val_c) (by omega) (fun i σ H' => (∃ z1 z2 z3, σ = [some (.int d), some (.int q), some (.int most), some (.int a), some (.int b), some (.ref t), z1, z2, z3]) ∧ TabAt d q b.toNat most.toNat H t i 0 0 (i * 10000) H') ⟨⟨_, _, _, rfl⟩, hT0⟩ ?_ ?_
  · rintro i σ' H' hi ⟨⟨z1, z2, z3, rfl⟩, hT⟩
    refine v_for1e (w_ar (val_var rfl) val_c) (by omega) (fun j σ H' => (∃ z2 z3, σ = [some (.int d), some (.int q), some (.int most), some (.int a), some (.int b), some (.ref t), some (.int (i : Int)), z2, z3]) ∧ TabAt d q b.toNat most.toNat H t i j 0 (i * 10000 + j * 1000) H') ⟨⟨_, _, rfl⟩, hT⟩ ?_ ?_
    · rintro j σ2 H2 hj ⟨⟨z2, z3, rfl⟩, hT2⟩
      refine v_for1e (w_ar (val_var rfl) val_c) (by omega) (fun l σ H' => (∃ z3, σ = [some (.int d), some (.int q), some (.int most), some (.int a), some (.int b), some (.ref t), some (.int (i : Int)), some (.int (j : Int)), z3]) ∧ TabAt d q b.toNat most.toNat H t i j l (i * 10000 + j * 1000 + l) H') ⟨⟨_, rfl⟩, hT2⟩ ?_ ?_
      · rintro l σ3 H3 hl ⟨⟨z3, rfl⟩, h0, h1, kvs, h2, h3, h4⟩
        -- the value first
        refine w_call (wa_cons (val_var rfl) (wa_cons (val_var rfl) (wa_cons (val_var rfl) (wa_cons (val_var rfl) (wa_cons (val_var rfl) (wa_cons (val_var rfl) wa_nil)))))) ⟨t, d, q, (l : Int), (i : Int), (j : Int), kvs, rfl, hd, by omega, hq, by omega, by omega, by omega, by omega, by omega, h2, fun hi0 f' hf1 hf2 => ?_, fun hj0 f' hf1 hf2 => ?_, fun v H4 e4 hv => ?_⟩
        · have := h4 (i - 1) j f'.toNat (by omega) (by omega) (Or.inl (by omega))
          unfold TabOk at this
          have e1 : ((f'.toNat : Nat) : Int) = f' := by omega
          have e2 : (((i - 1 : Nat)) : Int) = (i : Int) - 1 := by omega
          rw [e1, e2] at this
          exact this
        · have := h4 i (j - 1) f'.toNat (by omega) (by omega) (Or.inr ⟨rfl, Or.inl (by omega)⟩)
          unfold TabOk at this
          have e1 : ((f'.toNat : Nat) : Int) = f' := by omega
          have e2 : (((j - 1 : Nat)) : Int) = (j : Int) - 1 := by omega
          rw [e1, e2] at this
          exact this
        refine ⟨rfl, _, rfl, ?_⟩
        refine w_tup (wa_cons (val_var rfl) (wa_cons (val_var rfl) (wa_cons (val_var rfl) wa_nil))) (by simp) fun p hp => ?_
        have h24 := e4 _ _ h2
        have h25 : upd H4 p (.tup [.int (l : Int), .int (i : Int), .int (j : Int)]) t = some (.dT kvs) := same_new hp _ _ _ h24
        refine ⟨t, _, rfl, DPut.t (k := [.inl (l : Int), .inl (i : Int), .inl (j : Int)]) h25 upd_same (small16 (by omega)), ⟨_, rfl⟩, h0, same_mut ((h1.trans e4).trans (same_new hp _)) h0, _, upd_same, Nat.le_trans (length_putK _ _ _) (by omega), fun r m f hm1 hf1 hrm => ?_⟩
        unfold TabOk
        rw [valV_put]
        by_cases hk : ([.inl (f : Int), .inl (r : Int), .inl (m : Int)] : List Key) = [.inl (l : Int), .inl (i : Int), .inl (j : Int)]
        · rw [if_pos hk]
          simp only [List.cons.injEq, Sum.inl.injEq, and_true, Int.natCast_inj] at hk
          obtain ⟨rfl, rfl, rfl⟩ := hk
          rw [KP_is hd hq (by omega) (by omega), ← hv]
        · rw [if_neg hk]
          refine h4 r m f hm1 hf1 ?_
          by_cases hr : r < i
          · exact Or.inl hr
          · refine Or.inr ?_
            by_cases hmj : m < j
            · exact ⟨by omega, Or.inl hmj⟩
            · refine ⟨by omega, Or.inr ⟨by omega, ?_⟩⟩
              by_cases hfl : f = l
              · exfalso
                have er : r = i := by omega
                have em : m = j := by omega
                subst hfl; subst er; subst em
                exact hk rfl
              · omega
      · rintro σ3 H3 ⟨⟨z3, rfl⟩, h0, h1, kvs, h2, h3, h4⟩
        refine ⟨⟨_, _, rfl⟩, h0, h1, kvs, h2, by omega, fun r m f hm1 hf1 hrm => h4 r m f hm1 hf1 ?_⟩
        omega
    · rintro σ2 H2 ⟨⟨z2, z3, rfl⟩, h0, h1, kvs, h2, h3, h4⟩
      refine ⟨⟨_, _, _, rfl⟩, h0, h1, kvs, h2, by omega, fun r m f hm1 hf1 hrm => h4 r m f hm1 hf1 ?_⟩
      omega
  · rintro σ' H' ⟨⟨z1, z2, z3, rfl⟩, h0, h1, kvs, h2, h3, h4⟩
    exact v_ret (val_var rfl) (k t H' kvs h1 h2 fun r m f hr hm1 hf1 => h4 r m f hm1 hf1 (Or.inl (by omega)))
def spEdge : Sp := fun vs H Q _ => ∃ (t : Addr) (d q most a b : Int) (kvs : List (List Key × V)), vs = [.ref t, .int most, .int a, .int b] ∧ 0 ≤ most ∧ most ≤ 100 ∧ 0 ≤ a ∧ 0 ≤ b ∧ H t = some (.dT kvs) ∧ (∀ f : Nat, f ≤ most.toNat → TabOk d q kvs a.toNat b.toNat f) ∧
  ∀ H', Same H H' → Q (.int (edgeF d q a b (most + 1).toNat 0)) H'
theorem G__law_own_edge (T : Env K mg) : FnOk P w K mg base CX0 1 T.f__law_own_edge T.d__law_own_edge p__law_own_edge spEdge := by
  refine T.F__law_own_edge.ok sc__law_own_edge (fun vs H Q E h => ?_) (fun cdv A outer s H vs Q E hr h => ?_)
  · obtain ⟨t, d, q, most, a, b, kvs, rfl, _⟩ := h
    rfl
  obtain ⟨t, d, q, most, a, b, kvs, rfl, hm, hm', ha, hb, ht, hok, k⟩ := h
  have hu := hu_of hr
  refine ⟨_, (pss_cons (ps_for PassesOwn.never rfl (pi_range1 (by rfl) T.z_range (pa_cons (pe_op op_add (pv 1) pe_int) pa_nil)) (pg_name (i := 4) sc__law_own_edge.nd rfl (Or.inl rfl)) (pss_one (ps_if (pt_not (pt_val (pe_dget hu (pv 0) (pe_tup (pa_cons (pv 4) (pa_cons (pv 2) (pa_cons (pv 3) pa_nil)))) (fun _ _ => rfl)))) (pss_one (ps_ret (pv 4))) pss_nil)))
    (pss_one (ps_ret (pe_op op_add (pv 1) pe_int)))), ?_⟩
  refine v_for1 (w_ar (val_var rfl) val_c) (by omega) (fun i σ H' => (∃ z, σ = [some (.ref t), some (.int most), some (.int a), some (.int b), z]) ∧ Same H H' ∧ edgeF d q a b (most + 1).toNat 0 = edgeF d q a b ((most + 1).toNat - i) i) ⟨⟨none, rfl⟩, Same.refl _, rfl⟩ ?_ ?_
  · rintro i σ' H' hi ⟨⟨z, rfl⟩, hs, he⟩
    have hv := hok i (by omega)
    unfold TabOk at hv
    have ea : ((a.toNat : Nat) : Int) = a := by omega
    have eb : ((b.toNat : Nat) : Int) = b := by omega
    rw [ea, eb] at hv
    obtain ⟨n, hn⟩ : ∃ n, (most + 1).toNat - i = n + 1 := ⟨(most + 1).toNat - i - 1, by omega⟩
    have he2 : edgeF d q a b (n + 1) i = if KP d q i a b = true then edgeF d q a b n ((i : Int) + 1) else (i : Int) := rfl
    rw [hn, he2] at he
    refine v_whenE1 (fun r H1 => r = (!KP d q i a b) ∧ Same H H1) (fun Q1 hQ => ?_) (fun H1 h1 => ?_) (fun H1 h1 => ?_)
    · refine k_get3 (val_var rfl) (val_var rfl) (val_var rfl) (val_var rfl) (hs _ _ ht) hv fun p hp => ⟨_, rfl, hQ _ _ ⟨rfl, hs.trans (same_new hp _)⟩⟩
    · obtain ⟨e1, hs1⟩ := h1
      refine v_ret (val_var rfl) ?_
      have e2 : KP d q i a b = false := by cases h : KP d q i a b <;> first | rfl | (rw [h] at e1; cases e1)
      rw [e2, if_neg (by decide)] at he
      rw [← he]
      exact k _ hs1
    · obtain ⟨e1, hs1⟩ := h1
      have e2 : KP d q i a b = true := by cases h : KP d q i a b <;> first | rfl | (rw [h] at e1; cases e1)
      rw [e2, if_pos rfl] at he
      refine ⟨⟨_, rfl⟩, hs1, ?_⟩
      have e3 : (most + 1).toNat - (i + 1) = n := by omega
      rw [e3, he]
      rfl
  · rintro σ' H' ⟨⟨z, rfl⟩, hs, he⟩
    refine v_ret (w_ar (val_var rfl) val_c) ?_
    have e3 : (most + 1).toNat - (most + 1).toNat = 0 := by omega
    rw [e3] at he
    have e4 : edgeF d q a b 0 (((most + 1).toNat : Nat) : Int) = (((most + 1).toNat : Nat) : Int) := rfl
    rw [e4] at he
    have e5 : (((most + 1).toNat : Nat) : Int) = most + 1 := by omega
    rw [e5] at he
    rw [← he]
    exact k _ hs
def spMK : Sp := fun vs H Q _ => ∃ d q a b most : Int, vs = [.int d, .int q, .int a, .int b, .int most] ∧ 1 ≤ d ∧ d ≤ 1000 ∧ 1 ≤ q ∧ q ≤ 60 ∧ 0 ≤ a ∧ 0 ≤ b ∧ a + b ≤ 2 ∧ 0 ≤ most ∧ most ≤ 60 ∧ (∀ i : Nat, (i : Int) < manyF d q a b most → KP d q i a b = true) ∧
  ∀ H', Same H H' → Q (.int (manyF d q a b most - 1)) H'
theorem G__law_most_kept (T : Env K mg) : FnOk P w K mg base CX0 8 T.f__law_most_kept T.d__law_most_kept p__law_most_kept spMK := by
  refine T.F__law_most_kept.ok sc__law_most_kept (fun vs H Q E h => ?_) (fun cdv A outer s H vs Q E hr h => ?_)
  · obtain ⟨d, q, a, b, most, rfl, _⟩ := h
    rfl
  obtain ⟨d, q, a, b, most, rfl, hd, hd', hq, hq', ha, hb, hab, hm, hm', hgood, k⟩ := h
  have hu := hu_of hr
  refine ⟨_, (pss_cons (ps_setLc (i := 5) (own := [("f", 7)]) (g := gName 7) (by rfl) sc__law_most_kept.nd rfl rfl (sw_true rfl rfl rfl (by decide +kernel)) (pi_range1 (by rfl) T.z_range (pa_cons (pe_op op_add (pv 4) pe_int) pa_nil)) (blkOk_by (own := [("f", 7)]) (N := n__law_most_kept) (sc := defScope s__law_most_kept) (by decide +kernel)) (fun _ _ _ _ _ => pg_name (i := 7) sc__law_most_kept.nd rfl (Or.inl rfl)) (fun _ _ _ _ _ => pts_nil) (fun _ _ _ _ _ => (pe_call (G_kept_asked T) (hr.mono (by decide)) rfl T.m_kept_asked T.F_kept_asked.kp (b_kept_asked T) .nil pass0 (pa_cons (pv 0) (pa_cons (pv 1) (pa_cons (pv 7) (pa_cons (pv 2) (pa_cons (pv 3) pa_nil))))))))
    (pss_cons (ps_if (pt_cmpR (op_neD hr.units) (pe_lc (own := [("one", 8)]) (g := gName 8) (by rfl) sc__law_most_kept.nd (pi_list (pv 5)) (blkOk_by (own := [("one", 8)]) (N := n__law_most_kept) (sc := defScope s__law_most_kept) (by decide +kernel)) (fun _ _ _ _ _ => pg_name (i := 8) sc__law_most_kept.nd rfl (Or.inl rfl)) (fun _ _ _ _ _ => (pts_one (PW.pt (pw_and (pt_cmpR op_isnot_bl (pv 8) pe_bl (nomark _)) (pw_and1 (pt_cmpR op_isnot_bl (pv 8) pe_bl (nomark _))))))) (fun _ _ _ _ _ => (pv 8))) (pe_lst pa_nil) (nomark _)) (pss_one (ps_ret (pe_op op_sub pe_int pe_int))) pss_nil)
    (pss_cons (ps_set (i := 6) sc__law_most_kept.nd rfl (Or.inl rfl) (pe_callB call_len_seq (by rfl) T.z_len PySem.boot_len (pa_cons (pe_lc (own := [("one", 8)]) (g := gName 8) (by rfl) sc__law_most_kept.nd (pi_list (pv 5)) (blkOk_by (own := [("one", 8)]) (N := n__law_most_kept) (sc := defScope s__law_most_kept) (by decide +kernel)) (fun _ _ _ _ _ => pg_name (i := 8) sc__law_most_kept.nd rfl (Or.inl rfl)) (fun _ _ _ _ _ => (pts_one (pt_val (pv 8)))) (fun _ _ _ _ _ => (pv 8))) pa_nil)))
    (pss_one (ps_ret (pe_ifExp (pt_cmpR (op_eqD hr.units) (pe_lc (own := [("one", 8)]) (g := gName 8) (by rfl) sc__law_most_kept.nd (pi_list (pe_slice sl_list (pv 5) po_none (po_some (pv 6)))) (blkOk_by (own := [("one", 8)]) (N := n__law_most_kept) (sc := defScope s__law_most_kept) (by decide +kernel)) (fun _ _ _ _ _ => pg_name (i := 8) sc__law_most_kept.nd rfl (Or.inl rfl)) (fun _ _ _ _ _ => (pts_one (pt_not (pt_val (pv 8))))) (fun _ _ _ _ _ => (pv 8))) (pe_lst pa_nil) (nomark _)) (pe_op op_sub (pv 6) pe_int) (pe_op op_sub pe_int pe_int))))))), ?_⟩
  refine v_asg' ?_
  refine k_lcR1 (fun i => .bl (KP d q i a b)) (w_ar (val_var rfl) val_c) (by omega) (fun _ => rfl) (fun i H2 e2 hi Q2 q2 => ?_) (fun p H1 hp e1 h1 => ?_)
  · exact w_call (wa_cons (val_var rfl) (wa_cons (val_var rfl) (wa_cons (val_var rfl) (wa_cons (val_var rfl) (wa_cons (val_var rfl) wa_nil))))) ⟨d, q, (i : Int), a, b, rfl, hd, hd', hq, hq', by omega, by omega, ha, hb, hab, fun H3 e3 => q2 H3 e3⟩
  have hat : ∀ (i : Nat) (x : V), ((List.range (most + 1).toNat).map fun (i : Nat) => V.bl (KP d q i a b))[i]? = some x → x = .bl (KP d q i a b) ∧ i < (most + 1).toNat := by
    intro i x hx
    rw [List.getElem?_map] at hx
    by_cases hi : i < (most + 1).toNat
    · rw [List.getElem?_range hi] at hx
      exact ⟨(Option.some.inj hx).symm, hi⟩
    · rw [List.getElem?_eq_none (by rw [List.length_range]; omega)] at hx
      cases hx
  have hmf : manyF d q a b most = (((List.range (most + 1).toNat).filter fun (i : Nat) => KP d q i a b).length : Int) := rfl
  have hmle : ((List.range (most + 1).toNat).filter fun (i : Nat) => KP d q i a b).length ≤ (most + 1).toNat := by
    have := List.length_filter_le (fun (i : Nat) => KP d q i a b) (List.range (most + 1).toNat)
    rw [List.length_range] at this
    exact this
  have htl : ((List.range (most + 1).toNat).map fun (i : Nat) => V.bl (KP d q i a b)).length = (most + 1).toNat := by simp
  generalize htold : ((List.range (most + 1).toNat).map fun (i : Nat) => V.bl (KP d q i a b)) = told at *
  -- no other thing than True and False
  refine v_whenE (fun r H2 => r = false ∧ Same H1 H2) (fun Q1 hQ => ?_) (fun H2 h2 => nomatch h2.1) (fun H2 h2 => ?_)
  · refine k_test (k_op ?_)
    refine k_lcL (xs := told) (fun _ => false) (fun _ => .non) (val_var rfl) (sq_of h1) (by omega) (fun _ => rfl) (fun i x H2 e2 hi => ?_) (fun i x H2 e2 hi hf => nomatch hf) (fun p2 H2 hp2 e2 h2 => ?_)
    · obtain ⟨rfl, _⟩ := hat i x hi
      intro H3 e3 Q3 q3
      cases KP d q i a b
      · exact ⟨_, rfl, _, _, rfl, rfl, _, rfl, ⟨_, rfl, _, _, rfl, rfl, _, rfl, q3 _ (Ex.refl _)⟩⟩
      · exact ⟨_, rfl, _, _, rfl, rfl, _, rfl, q3 _ (Ex.refl _)⟩
    · have h2' : H2 p2 = some (.lst []) := by
        rw [h2]
        have : given told.length (fun _ => false) (fun _ => V.non) = [] := by
          unfold given
          rw [List.filter_eq_nil_iff.mpr (fun _ _ => by decide)]
          rfl
        rw [this]
      refine ⟨sz_of (by simp), fun p3 hp3 => ?_⟩
      refine ⟨.list [], .list [], dp_nil (same_new hp3 _ _ _ h2'), dp_nil upd_same, rfl, rfl, _, rfl, hQ _ _ ⟨rfl, e2.trans (same_new hp3 _)⟩⟩
  obtain ⟨_, e2⟩ := h2
  have h1' := e2 _ _ h1
  -- many
  refine v_asgE (fun v H3 => v = .int (manyF d q a b most) ∧ Same H2 H3) (fun Q1 hQ => ?_) (fun v H3 h3 => ?_)
  · refine k_cb1 ?_
    refine k_lcL (xs := told) (fun i => KP d q i a b) (fun _ => .bl true) (val_var rfl) (sq_of h1') (by omega) (fun _ => rfl) (fun i x H3 e3 hi => ?_) (fun i x H3 e3 hi hf => ?_) (fun p2 H3 hp2 e3 h3 => ?_)
    · obtain ⟨rfl, _⟩ := hat i x hi
      intro H4 e4 Q3 q3
      exact ⟨_, rfl, _, rfl, q3 _ (Ex.refl _)⟩
    · obtain ⟨rfl, _⟩ := hat i x hi
      rw [hf]
      intro H4 e4 Q3 q3
      exact ⟨_, rfl, q3 _ (Ex.refl _)⟩
    · refine ⟨p2, _, rfl, Or.inl (sq_of h3), hQ _ _ ⟨?_, e3⟩⟩
      unfold given
      rw [List.length_map, htl, hmf]
  obtain ⟨rfl, e3⟩ := h3
  have h1'' := e3 _ _ h1'
  refine v_ret' ?_
  refine k_test (k_op ?_)
  refine k_lcI (R := fun x H4 => ∃ p4, x = .ref p4 ∧ Same H3 H4 ∧ SqL K H4 p4 (told.take (manyF d q a b most).toNat)) (fun Q2 hQ2 => ?_) (fun x H4 hx => ?_)
  · refine ⟨_, rfl, _, rfl, _, rfl, p, _, rfl, sq_of h1'', fun p4 hp4 => hQ2 _ _ ⟨p4, rfl, same_new hp4 _, sq_of ?_⟩⟩
    rw [upd_same, cut_take (by rw [hmf]; omega)]
  · obtain ⟨p4, rfl, e4, h4⟩ := hx
    refine k_lcL (xs := told.take (manyF d q a b most).toNat) (fun _ => false) (fun _ => .non) val_c h4 (by rw [List.length_take]; omega) (fun _ => rfl) (fun i x H5 e5 hi => ?_) (fun i x H5 e5 hi hf => nomatch hf) (fun p5 H5 hp5 e5 h5 => ?_)
    · rw [List.getElem?_take] at hi
      split at hi
      · rename_i hlt
        obtain ⟨rfl, _⟩ := hat i x hi
        intro H6 e6 Q3 q3
        rw [hgood i (by omega)]
        exact ⟨_, rfl, _, rfl, q3 _ (Ex.refl _)⟩
      · cases hi
    · have h5' : H5 p5 = some (.lst []) := by
        rw [h5]
        have : given (told.take (manyF d q a b most).toNat).length (fun _ => false) (fun _ => V.non) = [] := by
          unfold given
          rw [List.filter_eq_nil_iff.mpr (fun _ _ => by decide)]
          rfl
        rw [this]
      refine ⟨sz_of (by simp), fun p6 hp6 => ?_⟩
      refine ⟨.list [], .list [], dp_nil (same_new hp6 _ _ _ h5'), dp_nil upd_same, rfl, rfl, _, rfl, ?_⟩
      refine iteT ?_
      exact w_ar (val_var rfl) val_c _ (k _ ((((e1.trans e2).trans e3).trans e4).trans (e5.trans (same_new hp6 _))))

end
end P84

/-! D9 -/
namespace P84
open PySem L2 Evl
section
variable {P : Program} {w : World} {K : PySem.W.Frag} {mg : Str → Option Value} {base : Heap}
theorem mostKept_good {d q a b most due : Int} (h : mostKept d q a b most = due) (h0 : 0 ≤ due) : (∀ i : Nat, (i : Int) < manyF d q a b most → KP d q i a b = true) ∧ manyF d q a b most - 1 = due := by
  unfold mostKept at h
  split at h
  · rename_i he
    refine ⟨fun i hi => ?_, h⟩
    rw [List.isEmpty_iff, List.filter_eq_nil_iff] at he
    have := he i (List.mem_range.mpr (by omega))
    simpa using this
  · omega
def spRise : Sp := fun vs H Q _ => ∃ d a b : Int, vs = [.int d, .int a, .int b] ∧ 1 ≤ d ∧ d ≤ 3 ∧ 0 ≤ a ∧ 0 ≤ b ∧ a + b ≤ 2 ∧ risingOK d a b = true ∧ ∀ H', Same H H' → Q (.bl true) H'
theorem G__law_rising (T : Env K mg) : FnOk P w K mg base CX0 9 T.f__law_rising T.d__law_rising p__law_rising spRise := by
  refine T.F__law_rising.ok sc__law_rising (fun vs H Q E h => ?_) (fun cdv A outer s H vs Q E hr h => ?_)
  · obtain ⟨d, a, b, rfl, _⟩ := h
    rfl
  obtain ⟨d, a, b, rfl, hd, hd', ha, hb, hab, hok, k⟩ := h
  have hu := hu_of hr
  refine ⟨_, (pss_cons (ps_set (i := 3) sc__law_rising.nd rfl (Or.inl rfl) (pe_op op_sub (pe_op op_mul (pe_op op_sub (pe_call (G__law_price T) (hr.mono (by decide)) rfl T.m__law_price T.F__law_price.kp (b__law_price T) .nil pass0 (pa_cons (pv 1) (pa_cons (pv 2) pa_nil))) pe_int) (pv 0)) pe_int))
    (pss_cons (ps_if (pt_cmpR op_ne (pe_call (G_most_false T) (hr.mono (by decide)) rfl T.m_most_false T.F_most_false.kp (b_most_false T) .nil pass0 (pa_cons (pv 0) (pa_cons (pv 1) (pa_cons (pv 2) (pa_cons pe_int pa_nil))))) (pv 3) (nomark _)) (pss_one (ps_ret pe_bl)) pss_nil)
    (pss_cons (ps_set (i := 4) sc__law_rising.nd rfl (Or.inl rfl) pe_int)
    (pss_cons (ps_for PassesOwn.never rfl (pi_range2 (by rfl) T.z_range (pa_cons pe_int (pa_cons (pe_op op_add (pe_op op_add (pv 0) (pv 3)) pe_int) pa_nil))) (pg_name (i := 5) sc__law_rising.nd rfl (Or.inl rfl)) (pss_cons (ps_set (i := 6) sc__law_rising.nd rfl (Or.inl rfl) (pe_ifExp (PW.pt (pw_or (pt_cmpR op_lt (pv 5) pe_int (nomark _)) (pw_or1 (pt_cmpR op_gt (pv 5) (pe_op op_sub (pe_op op_add (pv 0) (pv 3)) pe_int) (nomark _))))) (pe_op op_add (pv 3) pe_int) pe_int))
      (pss_cons (ps_set (i := 7) sc__law_rising.nd rfl (Or.inl rfl) (pe_call (G__law_own_table T) (hr.mono (by decide)) rfl T.m__law_own_table T.F__law_own_table.kp (b__law_own_table T) .nil pass0 (pa_cons (pv 0) (pa_cons (pv 5) (pa_cons (pe_op op_add (pv 3) pe_int) (pa_cons (pv 1) (pa_cons (pv 2) pa_nil)))))))
      (pss_cons (ps_set (i := 8) sc__law_rising.nd rfl (Or.inl rfl) (pe_op op_sub (pe_call (G__law_own_edge T) (hr.mono (by decide)) rfl T.m__law_own_edge T.F__law_own_edge.kp (b__law_own_edge T) .nil pass0 (pa_cons (pv 7) (pa_cons (pe_op op_add (pv 3) pe_int) (pa_cons (pv 1) (pa_cons (pv 2) pa_nil))))) pe_int))
      (pss_cons (ps_if (PW.pt (pw_or (pt_cmpR op_lt (pv 8) (pv 4) (nomark _)) (pw_or (pt_cmpR op_gt (pv 8) (pv 3) (nomark _)) (pw_or (PW.pt (pw_and (pt_cmpR op_eq (pv 5) pe_int (nomark _)) (pw_and1 (pt_cmpR op_ne (pv 8) (pv 1) (nomark _))))) (pw_or1 (PW.pt (pw_and (pt_cmpR op_ge (pv 5) (pe_op op_add (pv 0) (pv 3)) (nomark _)) (pw_and1 (pt_cmpR op_ne (pv 8) (pv 3) (nomark _)))))))))) (pss_one (ps_ret pe_bl)) pss_nil)
      (pss_cons (ps_set (i := 4) sc__law_rising.nd rfl (Or.inl rfl) (pv 8))
      (pss_cons (ps_if (PW.pt (pw_and (pt_cmpR op_gt (pv 6) pe_int (nomark _)) (pw_and1 (pt_cmpR op_ne (pe_call (G__law_most_kept T) (hr.mono (by decide)) rfl T.m__law_most_kept T.F__law_most_kept.kp (b__law_most_kept T) .nil pass0 (pa_cons (pv 0) (pa_cons (pv 5) (pa_cons (pv 1) (pa_cons (pv 2) (pa_cons (pv 6) pa_nil)))))) (pv 8) (nomark _))))) (pss_one (ps_ret pe_bl)) pss_nil)
      (pss_cons (ps_if (PW.pt (pw_or (pt_cmpR op_isnot_bl (pe_call (G_kept_asked T) (hr.mono (by decide)) rfl T.m_kept_asked T.F_kept_asked.kp (b_kept_asked T) .nil pass0 (pa_cons (pv 0) (pa_cons (pv 5) (pa_cons (pv 8) (pa_cons (pv 1) (pa_cons (pv 2) pa_nil)))))) pe_bl (nomark _)) (pw_or1 (pt_cmpR op_isnot_bl (pe_call (G_kept_asked T) (hr.mono (by decide)) rfl T.m_kept_asked T.F_kept_asked.kp (b_kept_asked T) .nil pass0 (pa_cons (pv 0) (pa_cons (pv 5) (pa_cons (pe_op op_add (pv 8) pe_int) (pa_cons (pv 1) (pa_cons (pv 2) pa_nil)))))) pe_bl (nomark _))))) (pss_one (ps_ret pe_bl)) pss_nil)
      (pss_one (ps_if (pt_cmpR op_ne (pe_call (G_least_false T) (hr.mono (by decide)) rfl T.m_least_false T.F_least_false.kp (b_least_false T) .nil pass0 (pa_cons (pv 0) (pa_cons (pv 5) (pa_cons (pv 1) (pa_cons (pv 2) pa_nil))))) (pe_op op_add (pv 8) pe_int) (nomark _)) (pss_one (ps_ret pe_bl)) pss_nil))))))))))
    (pss_one (ps_ret pe_bl)))))), ?_⟩
  unfold risingOK at hok
  simp only [Bool.and_eq_true, decide_eq_true_eq] at hok
  obtain ⟨⟨⟨hmost, hedge0⟩, hedge1⟩, hall⟩ := hok
  have hrow : ∀ i : Nat, (i : Int) < d + edgeP d a b + 2 → risingOne d a b (edgeP d a b) ((i : Int) + 1) = true := fun i hi => List.all_eq_true.mp hall i (List.mem_range.mpr (by omega))
  -- edge
  refine v_asgE (fun v H1 => v = .int (edgeP d a b) ∧ Same H H1) (fun Q1 hQ => ?_) (fun v H1 h1 => ?_)
  · refine k_op (k_op (k_op (w_call (wa_cons (val_var rfl) (wa_cons (val_var rfl) wa_nil)) ⟨a, b, rfl, ha, by omega, hb, by omega, fun H1 e1 => ?_⟩)))
    refine ⟨_, _, rfl, rfl, ?_⟩
    refine ⟨_, rfl, _, _, rfl, rfl, Or.inr ⟨by omega, by omega⟩, ?_⟩
    exact ⟨_, _, rfl, rfl, hQ _ _ ⟨rfl, e1⟩⟩
  obtain ⟨rfl, e1⟩ := h1
  generalize hE : edgeP d a b = edge at *
  refine v_whenE (fun r H2 => r = false ∧ Same H H2) (fun Q1 hQ => ?_) (fun H2 h2 => nomatch h2.1) (fun H2 h2 => ?_)
  · refine k_test (k_op (w_call (wa_cons (val_var rfl) (wa_cons (val_var rfl) (wa_cons (val_var rfl) (wa_cons val_c wa_nil)))) ⟨d, a, b, 1, rfl, hd, by omega, ha, by omega, hb, by omega, by decide, by decide, fun H2 e2 => ?_⟩))
    refine ⟨_, rfl, rfl, _, rfl, hQ _ _ ⟨?_, e1.trans e2⟩⟩
    rw [hmost, decide_eq_true rfl]
    rfl
  obtain ⟨_, e2⟩ := h2
  refine v_asg val_c ?_
  refine v_for2 val_c (w_ar (w_ar (val_var rfl) (val_var rfl)) val_c) (by omega) (fun i σ H' => (∃ z5 z6 z7 z8, σ = [some (.int d), some (.int a), some (.int b), some (.int edge), some (.int (if i = 0 then 0 else dueR d i a b (edge + 2))), z5, z6, z7, z8]) ∧ Same H H') ⟨⟨none, none, none, none, rfl⟩, e2⟩ ?_ ?_
  · rintro i σ' H' hi ⟨⟨z5, z6, z7, z8, rfl⟩, hs⟩
    have hr1 := hrow i (by omega)
    have eq1 : (1 : Int) + (i : Int) = (i : Int) + 1 := Int.add_comm _ _
    rw [eq1]
    unfold risingOne at hr1
    have ebef : (if ((i : Int) + 1) = 1 then (0 : Int) else dueR d ((i : Int) + 1 - 1) a b (edge + 2)) = (if i = 0 then 0 else dueR d i a b (edge + 2)) := by
      by_cases h : i = 0
      · subst h; rfl
      · rw [if_neg h, if_neg (by omega)]
        have : (i : Int) + 1 - 1 = i := by omega
        rw [this]
    rw [ebef] at hr1
    generalize (if i = 0 then (0 : Int) else dueR d i a b (edge + 2)) = before at *
    generalize hq : (i : Int) + 1 = q at *
    have hq1 : 1 ≤ q := by omega
    generalize hdue : dueR d q a b (edge + 2) = due at *
    simp only [Bool.and_eq_true, Bool.or_eq_true, decide_eq_true_eq, Bool.not_eq_true'] at hr1
    obtain ⟨⟨⟨⟨⟨⟨⟨⟨c0, c1⟩, c2⟩, c3⟩, c4⟩, c5⟩, c6⟩, c7⟩, c8⟩ := hr1
    -- most
    refine v_asg (w_is (w_ite (w_or (w_cmp (val_var rfl) val_c) fun c => (w_cmp (val_var rfl) (w_ar (w_ar (val_var rfl) (val_var rfl)) val_c))) (fun c => (w_ar (val_var rfl) val_c)) (fun c => val_c)) ite_int) ?_
    have emost : (if (decide (q < 4) || decide (d + edge - 1 < q)) = true then edge + 2 else 0) = (if q < 4 ∨ d + edge - 1 < q then edge + 2 else 0) := by
      simp only [Bool.or_eq_true, decide_eq_true_eq]
    rw [emost]
    have hmb : 0 ≤ (if q < 4 ∨ d + edge - 1 < q then edge + 2 else 0) ∧ (if q < 4 ∨ d + edge - 1 < q then edge + 2 else 0) ≤ 60 := by split <;> omega
    generalize (if q < 4 ∨ d + edge - 1 < q then edge + 2 else 0) = most at *
    -- the table
    refine v_asg' (w_call (wa_cons (val_var rfl) (wa_cons (val_var rfl) (wa_cons (w_ar (val_var rfl) val_c) (wa_cons (val_var rfl) (wa_cons (val_var rfl) wa_nil))))) ⟨d, q, edge + 2, a, b, rfl, hd, by omega, hq1, by omega, by omega, by omega, ha, by omega, hb, by omega, fun t H3 kvs e3 ht htab => ?_⟩)
    refine v_asgE (fun v H4 => v = .int due ∧ Same H3 H4) (fun Q1 hQ => ?_) (fun v H4 h4 => ?_)
    · refine k_op (w_call (wa_cons (val_var rfl) (wa_cons (w_ar (val_var rfl) val_c) (wa_cons (val_var rfl) (wa_cons (val_var rfl) wa_nil)))) ⟨t, d, q, edge + 2, a, b, kvs, rfl, by omega, by omega, ha, hb, ht, fun f hf => htab _ _ _ (Nat.le_refl _) (Nat.le_refl _) hf, fun H4 e4 => ?_⟩)
      exact ⟨_, _, rfl, rfl, hQ _ _ ⟨congrArg V.int hdue, e4⟩⟩
    obtain ⟨rfl, e4⟩ := h4
    have hs4 := (hs.trans e3).trans e4
    refine v_when (w_or (w_cmp (val_var rfl) (val_var rfl)) fun c => (w_or (w_cmp (val_var rfl) (val_var rfl)) fun c => (w_or (w_and (w_eqI (val_var rfl) val_c) fun c => (w_neI (val_var rfl) (val_var rfl))) fun c => (w_and (w_cmp (val_var rfl) (w_ar (val_var rfl) (val_var rfl))) fun c => (w_neI (val_var rfl) (val_var rfl)))))) (fun c => ?_) (fun c => ?_)
    · exfalso
      simp only [Bool.and_eq_true, Bool.or_eq_true, decide_eq_true_eq, Bool.not_eq_true', decide_eq_false_iff_not] at c
      omega
    refine v_asg (val_var rfl) ?_
    refine v_whenE (fun r H5 => r = false ∧ Same H H5) (fun Q1 hQ => ?_) (fun H5 h5 => nomatch h5.1) (fun H5 h5 => ?_)
    · refine k_and (w_cmp (val_var rfl) val_c) (fun c => ?_) (fun c => hQ _ _ ⟨rfl, hs4⟩)
      have cm : 0 < most := of_decide_eq_true c
      obtain ⟨g1, g2⟩ := mostKept_good (by rcases c5 with h | h; exact absurd h (by omega); exact h) c0
      refine k_test (k_op (w_call (wa_cons (val_var rfl) (wa_cons (val_var rfl) (wa_cons (val_var rfl) (wa_cons (val_var rfl) (wa_cons (val_var rfl) wa_nil))))) ⟨d, q, a, b, most, rfl, hd, by omega, hq1, by omega, ha, hb, hab, hmb.1, hmb.2, g1, fun H5 e5 => ?_⟩))
      refine ⟨_, rfl, rfl, _, rfl, hQ _ _ ⟨?_, hs4.trans e5⟩⟩
      rw [g2, decide_eq_true rfl]
      rfl
    obtain ⟨_, hs5⟩ := h5
    refine v_whenE (fun r H6 => r = false ∧ Same H H6) (fun Q1 hQ => ?_) (fun H6 h6 => nomatch h6.1) (fun H6 h6 => ?_)
    · refine k_test (k_op (w_call (wa_cons (val_var rfl) (wa_cons (val_var rfl) (wa_cons (val_var rfl) (wa_cons (val_var rfl) (wa_cons (val_var rfl) wa_nil))))) ⟨d, q, due, a, b, rfl, hd, by omega, hq1, by omega, c0, by omega, ha, hb, hab, fun H6 e6 => ?_⟩))
      refine ⟨_, _, rfl, rfl, _, rfl, ?_⟩
      rw [c6, decide_eq_true rfl]
      refine iteF ?_
      refine k_test (k_op (w_call (wa_cons (val_var rfl) (wa_cons (val_var rfl) (wa_cons (w_ar (val_var rfl) val_c) (wa_cons (val_var rfl) (wa_cons (val_var rfl) wa_nil))))) ⟨d, q, due + 1, a, b, rfl, hd, by omega, hq1, by omega, by omega, by omega, ha, hb, hab, fun H7 e7 => ?_⟩))
      refine ⟨_, _, rfl, rfl, _, rfl, hQ _ _ ⟨?_, (hs5.trans e6).trans e7⟩⟩
      rw [c7, decide_eq_true rfl]
      rfl
    obtain ⟨_, hs6⟩ := h6
    refine v_whenE1 (fun r H7 => r = false ∧ Same H H7) (fun Q1 hQ => ?_) (fun H7 h7 => nomatch h7.1) (fun H7 h7 => ?_)
    · refine k_test (k_op (w_call (wa_cons (val_var rfl) (wa_cons (val_var rfl) (wa_cons (val_var rfl) (wa_cons (val_var rfl) wa_nil)))) ⟨d, q, a, b, rfl, hd, by omega, hq1, by omega, ha, by omega, hb, by omega, fun H7 e7 => ?_⟩))
      refine ⟨_, rfl, _, _, rfl, rfl, rfl, _, rfl, hQ _ _ ⟨?_, hs6.trans e7⟩⟩
      rw [c8, decide_eq_true rfl]
      rfl
    · refine ⟨⟨some (.int q), some (.int most), some (.ref t), some (.int due), ?_⟩, h7.2⟩
      have e9 : (if i + 1 = 0 then (0 : Int) else dueR d (((i + 1 : Nat)) : Int) a b (edge + 2)) = due := by
        rw [if_neg (by omega)]
        have : (((i + 1 : Nat)) : Int) = q := by omega
        rw [this]
        exact hdue
      rw [e9]
      rfl
  · rintro σ' H' ⟨⟨z5, z6, z7, z8, rfl⟩, hs⟩
    exact v_ret val_c (k _ hs)

end
end P84

/-! D10 -/
namespace P84
open PySem L2 Evl
section
variable {P : Program} {w : World} {K : PySem.W.Frag} {mg : Str → Option Value} {base : Heap}
def spAll : Sp := fun vs H Q _ => ∃ d f : Int, vs = [.int d, .int f] ∧ 1 ≤ d ∧ d ≤ 9 ∧ 0 ≤ f ∧ f ≤ 40 ∧ allOK d f = true ∧ ∀ H', Same H H' → Q (.bl true) H'
theorem G__law_all_asked (T : Env K mg) : FnOk P w K mg base CX0 3 T.f__law_all_asked T.d__law_all_asked p__law_all_asked spAll := by
  refine T.F__law_all_asked.ok sc__law_all_asked (fun vs H Q E h => ?_) (fun cdv A outer s H vs Q E hr h => ?_)
  · obtain ⟨d, f, rfl, _⟩ := h
    rfl
  obtain ⟨d, f, rfl, hd, hd', hf, hf', hok, k⟩ := h
  have hu := hu_of hr
  refine ⟨_, (pss_cons (ps_for PassesOwn.never rfl (pi_list (pe_lst (pa_cons (pe_op op_add (pv 0) (pv 1)) (pa_cons (pe_op op_add (pe_op op_add (pv 0) (pv 1)) pe_int) pa_nil)))) (pg_name (i := 2) sc__law_all_asked.nd rfl (Or.inl rfl)) (pss_cons (ps_if (pt_cmpR op_ne (pe_call (G_makes_asked T) (hr.mono (by decide)) rfl T.m_makes_asked T.F_makes_asked.kp (b_makes_asked T) .nil pass0 (pa_cons (pv 0) (pa_cons (pv 1) (pa_cons (pv 2) pa_nil)))) (pe_op op_fdiv (pv 1) (pv 0)) (nomark _)) (pss_one (ps_ret pe_bl)) pss_nil)
      (pss_cons (ps_set (i := 3) sc__law_all_asked.nd rfl (Or.inl rfl) (pe_call (G_recalls_asked T) (hr.mono (by decide)) rfl T.m_recalls_asked T.F_recalls_asked.kp (b_recalls_asked T) .nil pass0 (pa_cons (pv 0) (pa_cons (pv 1) (pa_cons (pv 2) pa_nil)))))
      (pss_cons (ps_if (PW.pt (pw_or (pt_not (pt_val (pe_call (G__law_is_whole T) (hr.mono (by decide)) rfl T.m__law_is_whole T.F__law_is_whole.kp (b__law_is_whole T) .nil pass0 (pa_cons (pv 3) pa_nil)))) (pw_or (pt_not (pt_chain op_le op_le pe_int (pv 3) pe_int)) (pw_or1 (pt_cmpR op_ge (pv 1) (pe_op op_mul (pe_op op_sub (pe_call (G__law_price T) (hr.mono (by decide)) rfl T.m__law_price T.F__law_price.kp (b__law_price T) .nil pass0 (pa_cons (pv 3) (pa_cons pe_int pa_nil))) pe_int) (pv 0)) (nomark _)))))) (pss_one (ps_ret pe_bl)) pss_nil)
      (pss_one (ps_if (PW.pt (pw_and (pt_cmpR op_gt (pv 3) pe_int (nomark _)) (pw_and1 (pt_cmpR op_lt (pv 1) (pe_op op_mul (pe_op op_sub (pe_call (G__law_price T) (hr.mono (by decide)) rfl T.m__law_price T.F__law_price.kp (b__law_price T) .nil pass0 (pa_cons (pe_op op_sub (pv 3) pe_int) (pa_cons pe_int pa_nil))) pe_int) (pv 0)) (nomark _))))) (pss_one (ps_ret pe_bl)) pss_nil))))))
    (pss_one (ps_ret pe_bl))), ?_⟩
  unfold allOK at hok
  rw [Bool.and_eq_true] at hok
  refine v_forLE (R := fun x H1 => ∃ p, x = .ref p ∧ Same H H1 ∧ H1 p = some (.lst [.int (d + f), .int (d + f + 1)])) (fun Q1 hQ => ?_) (fun x H1 hx => ?_)
  · exact w_lst (wa_cons (w_ar (val_var rfl) (val_var rfl)) (wa_cons (w_ar (w_ar (val_var rfl) (val_var rfl)) val_c) wa_nil)) (by simp) fun p hp => hQ _ _ ⟨p, rfl, same_new hp _, upd_same⟩
  obtain ⟨p, rfl, e1, hp⟩ := hx
  refine v_forL (xs := [.int (d + f), .int (d + f + 1)]) val_c (sq_of hp) (fun i σ H' => (∃ z2 z3, σ = [some (.int d), some (.int f), z2, z3]) ∧ Same H1 H') ⟨⟨none, none, rfl⟩, Same.refl _⟩ (fun i σ' H' _ h => h.2.seq (sq_of hp)) ?_ ?_
  · rintro i x σ' H' hi ⟨⟨z2, z3, rfl⟩, hs⟩
    obtain ⟨q, rfl, hq1, hq2, hone⟩ : ∃ q : Int, x = .int q ∧ d + f ≤ q ∧ q ≤ d + f + 1 ∧ allOne d f q = true := by
      match i, hi with
      | 0, hi => exact ⟨_, (Option.some.inj hi).symm, Int.le_refl _, by omega, hok.1⟩
      | 1, hi => exact ⟨_, (Option.some.inj hi).symm, by omega, Int.le_refl _, hok.2⟩
      | n + 2, hi => simp at hi
    unfold allOne at hone
    simp only [Bool.and_eq_true, Bool.or_eq_true, decide_eq_true_eq] at hone
    obtain ⟨⟨⟨⟨hm, hr0⟩, hr1⟩, hp1⟩, hp2⟩ := hone
    refine v_whenE (fun r H2 => r = false ∧ Same H1 H2) (fun Q1 hQ => ?_) (fun H2 h2 => nomatch h2.1) (fun H2 h2 => ?_)
    · refine k_test (k_op (w_call (wa_cons (val_var rfl) (wa_cons (val_var rfl) (wa_cons (val_var rfl) wa_nil))) ⟨d, f, q, rfl, hd, by omega, hf, by omega, by omega, by omega, fun H2 e2 => ?_⟩))
      rw [hm]
      refine w_arC (val_var rfl) (val_var rfl) ⟨by omega, by omega⟩ _ ?_
      refine ⟨rfl, _, rfl, hQ _ _ ⟨?_, hs.trans e2⟩⟩
      show (!decide (V.int (f / d) = V.int (f / d))) = false
      rw [decide_eq_true rfl]
      rfl
    obtain ⟨_, hs2⟩ := h2
    refine v_asg' (w_call (wa_cons (val_var rfl) (wa_cons (val_var rfl) (wa_cons (val_var rfl) wa_nil))) ⟨d, f, q, rfl, hd, by omega, hf, by omega, by omega, by omega, fun H3 e3 => ?_⟩)
    generalize recF d f q = rc at *
    refine v_whenE (fun r H4 => r = false ∧ Same H1 H4) (fun Q1 hQ => ?_) (fun H4 h4 => nomatch h4.1) (fun H4 h4 => ?_)
    · refine w_call (wa_cons (val_var rfl) wa_nil) ⟨rc, rfl, fun H4 e4 => ⟨true, rfl, ?_⟩⟩
      refine iteF ?_
      refine ⟨_, rfl, _, _, rfl, rfl, _, rfl, ?_⟩
      rw [decide_eq_true hr0]
      refine iteT ?_
      refine ⟨_, _, rfl, rfl, _, rfl, ?_⟩
      rw [decide_eq_true hr1]
      refine iteF ?_
      refine k_test ⟨_, rfl, k_op (k_op (w_call (wa_cons (val_var rfl) (wa_cons val_c wa_nil)) ⟨rc, 0, rfl, hr0, by omega, by decide, by decide, fun H5 e5 => ?_⟩))⟩
      refine ⟨_, _, rfl, rfl, _, rfl, _, _, rfl, rfl, Or.inr ⟨by omega, by omega⟩, _, _, rfl, rfl, _, rfl, hQ _ _ ⟨?_, ((hs2.trans e3).trans e4).trans e5⟩⟩
      exact decide_eq_false (by omega)
    obtain ⟨_, hs4⟩ := h4
    refine v_whenE1 (fun r H5 => r = false ∧ Same H1 H5) (fun Q1 hQ => ?_) (fun H5 h5 => nomatch h5.1) (fun H5 h5 => ⟨⟨_, _, rfl⟩, h5.2⟩)
    · refine k_and (w_cmp (val_var rfl) val_c) (fun c => ?_) (fun c => hQ _ _ ⟨rfl, hs4⟩)
      have c1 : 0 < rc := of_decide_eq_true c
      refine k_test ⟨_, rfl, k_op (k_op (w_call (wa_cons (w_ar (val_var rfl) val_c) (wa_cons val_c wa_nil)) ⟨rc - 1, 0, rfl, by omega, by omega, by decide, by decide, fun H5 e5 => ?_⟩))⟩
      refine ⟨_, _, rfl, rfl, _, rfl, _, _, rfl, rfl, Or.inr ⟨by omega, by omega⟩, _, _, rfl, rfl, _, rfl, hQ _ _ ⟨?_, hs4.trans e5⟩⟩
      exact decide_eq_false (by rcases hp2 with h | h <;> omega)
  · rintro σ' H' ⟨⟨z2, z3, rfl⟩, hs⟩
    exact v_ret val_c (k _ (e1.trans hs))

end
end P84

/-! D11 -/
namespace P84
open PySem L2 Evl
section
variable {P : Program} {w : World} {K : PySem.W.Frag} {mg : Str → Option Value} {base : Heap}
def optN : Option Nat → V
  | none => .non
  | some i => .int (i : Int)
theorem k_isN {te : TE} {σ : L2.St} {H : Hp} {Q : VK} (h : te σ H fun x H1 => Q (.bl (decide (x = .non))) H1) (mono : ∀ Q1 Q2 : VK, (∀ x H, Q1 x H → Q2 x H) → te σ H Q1 → te σ H Q2) : tOp rIsN te (tC .non) σ H Q := mono _ _ (fun x H1 q => ⟨rfl, q⟩) h
def spWords : Sp := fun vs H Q _ => ∃ d f w : Nat, vs = [.int d, .int f, .int w] ∧ 1 ≤ d ∧ d ≤ 9 ∧ f ≤ 20 ∧ 1 ≤ w ∧ w ≤ 8 ∧ wordsOK d f w = true ∧ ∀ H', Same H H' → Q (.bl true) H'
theorem wl_of {d f q w : Nat} (h : wlOK d f q w = true) : 1 ≤ q ∧ q ≤ 60 ∧ ∀ p ∈ wlParts d f q w, 1 ≤ p ∧ p ≤ (d : Int) := by
  unfold wlOK at h
  simp only [Bool.and_eq_true, decide_eq_true_eq] at h
  refine ⟨h.1.1, h.1.2, fun p hp => ?_⟩
  have := List.all_eq_true.mp h.2 p hp
  simpa using this
theorem G__law_asks_with_words (T : Env K mg) : FnOk P w K mg base CX0 8 T.f__law_asks_with_words T.d__law_asks_with_words p__law_asks_with_words spWords := by
  refine T.F__law_asks_with_words.ok sc__law_asks_with_words (fun vs H Q E h => ?_) (fun cdv A outer s H vs Q E hr h => ?_)
  · obtain ⟨d, f, w0, rfl, _⟩ := h
    rfl
  obtain ⟨d, f, w0, rfl, hd, hd', hf, hw, hw', hok, k⟩ := h
  have hu := hu_of hr
  refine ⟨_, (pss_cons (ps_set (i := 3) sc__law_asks_with_words.nd rfl (Or.inl rfl) pe_non)
    (pss_cons (ps_for PassesOwn.never rfl (pi_range2 (by rfl) T.z_range (pa_cons pe_int (pa_cons (pe_op op_add (pe_op op_mul pe_int (pv 1)) pe_int) pa_nil))) (pg_name (i := 4) sc__law_asks_with_words.nd rfl (Or.inl rfl)) (pss_one (ps_if (PW.pt (pw_and (pt_cmpR op_isN (pv 3) pe_non (nomark _)) (pw_and (pt_cmpR op_lt (pv 1) (pe_op op_mul (pv 2) (pe_op op_fdiv (pe_op op_add (pv 4) pe_int) pe_int)) (nomark _)) (pw_and1 (pt_cmpR op_lt (pv 1) (pe_op op_sub (pe_op op_add (pv 0) (pv 2)) pe_int) (nomark _)))))) (pss_one (ps_set (i := 3) sc__law_asks_with_words.nd rfl (Or.inl rfl) (pv 4))) pss_nil)))
    (pss_cons (ps_set (i := 5) sc__law_asks_with_words.nd rfl (Or.inl rfl) (pe_call (G_asks_due T) (hr.mono (by decide)) rfl T.m_asks_due T.F_asks_due.kp (b_asks_due T) .nil pass0 (pa_cons (pv 0) (pa_cons (pv 1) (pa_cons (pv 2) pa_nil)))))
    (pss_cons (ps_if (pt_cmpR op_isN (pv 3) pe_non (nomark _)) (pss_one (ps_ret (pe_and (pe_cmpR op_isN (pv 5) pe_non (nomark _)) (pe_one (pe_cmpR op_isN (pe_call (G_word_lots T) (hr.mono (by decide)) rfl T.m_word_lots T.F_word_lots.kp (b_word_lots T) .nil pass0 (pa_cons (pe_op op_add (pv 0) (pv 1)) (pa_cons (pv 0) (pa_cons pe_int (pa_cons pe_int (pa_cons pe_int (pa_cons (pv 2) pa_nil))))))) pe_non (nomark _)))))) pss_nil)
    (pss_cons (ps_if (PW.pt (pw_or (pt_not (pt_val (pe_call (G__law_is_whole T) (hr.mono (by decide)) rfl T.m__law_is_whole T.F__law_is_whole.kp (b__law_is_whole T) .nil pass0 (pa_cons (pv 5) pa_nil)))) (pw_or1 (pt_cmpR op_ne (pv 5) (pv 3) (nomark _))))) (pss_one (ps_ret pe_bl)) pss_nil)
    (pss_cons (ps_if (PW.pt (pw_and (pt_cmpR op_eq (pv 2) pe_int (nomark _)) (pw_and1 (pt_cmpR op_isnot_bl (pe_call (G_kept_asked T) (hr.mono (by decide)) rfl T.m_kept_asked T.F_kept_asked.kp (b_kept_asked T) .nil pass0 (pa_cons (pv 0) (pa_cons (pv 3) (pa_cons (pv 1) (pa_cons pe_int (pa_cons pe_int pa_nil)))))) pe_bl (nomark _))))) (pss_one (ps_ret pe_bl)) pss_nil)
    (pss_cons (ps_if (PW.pt (pw_and (pt_cmpR op_eq (pv 2) pe_int (nomark _)) (pw_and (pt_cmpR op_gt (pv 3) pe_int (nomark _)) (pw_and1 (pt_cmpR op_isnot_bl (pe_call (G_kept_asked T) (hr.mono (by decide)) rfl T.m_kept_asked T.F_kept_asked.kp (b_kept_asked T) .nil pass0 (pa_cons (pv 0) (pa_cons (pe_op op_sub (pv 3) pe_int) (pa_cons (pv 1) (pa_cons pe_int (pa_cons pe_int pa_nil)))))) pe_bl (nomark _)))))) (pss_one (ps_ret pe_bl)) pss_nil)
    (pss_cons (ps_if (pt_cmpR op_isN (pe_call (G_word_lots T) (hr.mono (by decide)) rfl T.m_word_lots T.F_word_lots.kp (b_word_lots T) .nil pass0 (pa_cons (pe_op op_add (pv 0) (pv 1)) (pa_cons (pv 0) (pa_cons (pv 3) (pa_cons pe_int (pa_cons pe_int (pa_cons (pv 2) pa_nil))))))) pe_non (nomark _)) (pss_one (ps_ret pe_bl)) pss_nil)
    (pss_one (ps_ret (pe_or (pe_cmpR op_eq (pv 3) pe_int (nomark _)) (pe_one (pe_cmpR op_isN (pe_call (G_word_lots T) (hr.mono (by decide)) rfl T.m_word_lots T.F_word_lots.kp (b_word_lots T) .nil pass0 (pa_cons (pe_op op_add (pv 0) (pv 1)) (pa_cons (pv 0) (pa_cons (pe_op op_sub (pv 3) pe_int) (pa_cons pe_int (pa_cons pe_int (pa_cons (pv 2) pa_nil))))))) pe_non (nomark _)))))))))))))), ?_⟩
  refine v_asg val_c ?_
  refine v_for2 val_c (w_ar (w_arC val_c (val_var rfl) (Or.inl ⟨by decide, by decide⟩)) val_c) (by omega) (fun i σ H' => H' = H ∧ ∃ z4, σ = [some (.int d), some (.int f), some (.int w0), some (optN (dueL d f w0 i)), z4, none]) ⟨rfl, none, rfl⟩ ?_ ?_
  · rintro i σ' H' hi ⟨rfl, z4, rfl⟩
    have hdl : dueL d f w0 (i + 1) = (match dueL d f w0 i with
      | some q => some q
      | none => if f < w0 * ((i + 1 + 1) / 2) ∧ f < d + w0 - 1 then some (i + 1) else none) := rfl
    cases hdi : dueL d f w0 i with
    | some q0 =>
      rw [hdi] at hdl
      refine v_when1 (b := false) (w_tis (w_and (a := false) (b := true) (w_t (w_is (w_isN (val_var rfl)) rfl)) (fun c => nomatch c)) rfl) (fun c => nomatch c) (fun _ => ?_)
      exact ⟨rfl, _, by rw [hdl]; rfl⟩
    | none =>
      rw [hdi] at hdl
      have en : (1 : Int) + (i : Int) + 1 = ((i + 1 + 1 : Nat) : Int) := by omega
      have ew : ((w0 : Int) * (((1 : Int) + (i : Int) + 1) / 2)) = ((w0 * ((i + 1 + 1) / 2) : Nat) : Int) := by
        rw [en, Int.natCast_mul, Int.natCast_ediv]
        rfl
      refine v_when1 (ans_and (w_t (w_is (w_isN (val_var rfl)) rfl)) (w_and (w_cmp (val_var rfl) (w_arC (val_var rfl) (w_arC (w_ar (val_var rfl) val_c) val_c ⟨by decide, by decide⟩) (Or.inl ⟨by omega, by omega⟩))) fun c => (w_cmp (val_var rfl) (w_ar (w_ar (val_var rfl) (val_var rfl)) val_c)))) (fun c => ?_) (fun c => ?_)
      · refine v_asg1 (val_var rfl) ?_
        rw [Bool.and_eq_true, decide_eq_true_eq, decide_eq_true_eq, ew] at c
        have hc : f < w0 * ((i + 1 + 1) / 2) ∧ f < d + w0 - 1 := ⟨by omega, by omega⟩
        simp only [if_pos hc] at hdl
        refine ⟨rfl, some (.int (1 + (i : Int))), ?_⟩
        rw [hdl]
        have e2 : optN (some (i + 1)) = V.int (1 + (i : Int)) := by
          show V.int ((i + 1 : Nat) : Int) = _
          congr 1
          omega
        rw [e2]
        rfl
      · have hc : ¬ (f < w0 * ((i + 1 + 1) / 2) ∧ f < d + w0 - 1) := fun hc => by
          have c1 : (f : Int) < (w0 : Int) * (((1 : Int) + (i : Int) + 1) / 2) := by rw [ew]; omega
          have c2 : (f : Int) < (d : Int) + w0 - 1 := by omega
          rw [decide_eq_true c1, decide_eq_true c2] at c
          cases c
        simp only [if_neg hc] at hdl
        refine ⟨rfl, some (.int (1 + (i : Int))), ?_⟩
        rw [hdl]
        rfl
  · rintro σ' H' ⟨rfl, z4, rfl⟩
    have e0 : (2 * (f : Int) + 3 - 1).toNat = 2 * f + 2 := by omega
    rw [e0]
    refine v_asg' (w_call (wa_cons (val_var rfl) (wa_cons (val_var rfl) (wa_cons (val_var rfl) wa_nil))) ⟨d, f, w0, rfl, by omega, by omega, by omega, by omega, by omega, by omega, fun H1 e1 => ?_⟩)
    unfold wordsOK at hok
    cases hdue : dueL d f w0 (2 * f + 2) with
    | none =>
      rw [hdue] at hok
      simp only [Bool.and_eq_true] at hok
      obtain ⟨⟨h1, h2⟩, h3⟩ := hok
      rw [Option.isNone_iff_eq_none] at h1
      obtain ⟨hq1, hq2, hparts⟩ := wl_of h2
      rw [h1]
      refine v_when (b := true) (w_t (w_is (w_isN (val_var rfl)) rfl)) (fun _ => ?_) (fun c => nomatch c)
      refine v_ret' ?_
      refine k_andV (a := true) (w_is (w_isN (val_var rfl)) rfl) (fun _ => ?_) (fun c => nomatch c)
      refine k_op ?_
      refine w_call (wa_cons (w_ar (val_var rfl) (val_var rfl)) (wa_cons (val_var rfl) (wa_cons val_c (wa_cons val_c (wa_cons val_c (wa_cons (val_var rfl) wa_nil)))))) ⟨d, f, 60, w0, rfl, hd, by omega, by decide, by decide, hw, hw', hparts, fun v H2 e2 hv => ⟨rfl, ?_⟩⟩
      rw [hv, h3]
      exact k _ (e1.trans e2)
    | some q =>
      rw [hdue] at hok
      simp only [Bool.and_eq_true, Bool.or_eq_true, decide_eq_true_eq, Bool.not_eq_true'] at hok
      obtain ⟨⟨⟨⟨⟨h1, h2⟩, h3⟩, h4⟩, h5⟩, h6⟩ := hok
      obtain ⟨hq1, hq2, hparts⟩ := wl_of h4
      rw [h1]
      refine v_when (b := false) (w_t (w_is (w_isN (val_var rfl)) rfl)) (fun c => nomatch c) (fun _ => ?_)
      refine v_whenE (fun r H2 => r = false ∧ Same H' H2) (fun Q1 hQ => ?_) (fun H2 h2 => nomatch h2.1) (fun H2 h2 => ?_)
      · refine w_call (wa_cons (val_var rfl) wa_nil) ⟨(q : Int), rfl, fun H2 e2 => ⟨true, rfl, ?_⟩⟩
        refine iteF ?_
        refine w_neI (val_var rfl) (val_var rfl) _ ?_
        rw [decide_eq_true rfl]
        exact hQ _ _ ⟨rfl, e1.trans e2⟩
      obtain ⟨_, hs2⟩ := h2
      refine v_whenE (fun r H3 => r = false ∧ Same H' H3) (fun Q1 hQ => ?_) (fun H3 h3 => nomatch h3.1) (fun H3 h3' => ?_)
      · refine k_and (w_eqI (val_var rfl) val_c) (fun c => ?_) (fun c => hQ _ _ ⟨rfl, hs2⟩)
        have cw : (w0 : Int) = 1 := of_decide_eq_true c
        have hk : KP d q f 0 0 = true := by
          rcases h2 with h | h
          · exact absurd (by omega : w0 = 1) h
          · exact h
        refine k_test (k_op (w_call (wa_cons (val_var rfl) (wa_cons (val_var rfl) (wa_cons (val_var rfl) (wa_cons val_c (wa_cons val_c wa_nil))))) ⟨d, q, f, 0, 0, rfl, by omega, by omega, by omega, by omega, by omega, by omega, by decide, by decide, by decide, fun H3 e3 => ?_⟩))
        refine ⟨_, _, rfl, rfl, _, rfl, hQ _ _ ⟨?_, hs2.trans e3⟩⟩
        rw [hk, decide_eq_true rfl]
        rfl
      obtain ⟨_, hs3⟩ := h3'
      refine v_whenE (fun r H4 => r = false ∧ Same H' H4) (fun Q1 hQ => ?_) (fun H4 h4 => nomatch h4.1) (fun H4 h4' => ?_)
      · refine k_and (w_eqI (val_var rfl) val_c) (fun c => ?_) (fun c => hQ _ _ ⟨rfl, hs3⟩)
        refine k_and (w_cmp (val_var rfl) val_c) (fun c' => ?_) (fun c' => hQ _ _ ⟨rfl, hs3⟩)
        have cw : (w0 : Int) = 1 := of_decide_eq_true c
        have cq : (1 : Int) < q := of_decide_eq_true c'
        have hk : KP d ((q : Int) - 1) f 0 0 = false := by
          rcases h3 with h | h
          · rcases h with h | h
            · exact absurd (by omega : w0 = 1) h
            · omega
          · exact h
        refine k_test (k_op (w_call (wa_cons (val_var rfl) (wa_cons (w_ar (val_var rfl) val_c) (wa_cons (val_var rfl) (wa_cons val_c (wa_cons val_c wa_nil))))) ⟨d, (q : Int) - 1, f, 0, 0, rfl, by omega, by omega, by omega, by omega, by omega, by omega, by decide, by decide, by decide, fun H3 e3 => ?_⟩))
        refine ⟨_, _, rfl, rfl, _, rfl, hQ _ _ ⟨?_, hs3.trans e3⟩⟩
        rw [hk, decide_eq_true rfl]
        rfl
      obtain ⟨_, hs4⟩ := h4'
      refine v_whenE (fun r H5 => r = false ∧ Same H' H5) (fun Q1 hQ => ?_) (fun H5 h5 => nomatch h5.1) (fun H5 h5' => ?_)
      · refine k_test (k_op ?_)
        refine w_call (wa_cons (w_ar (val_var rfl) (val_var rfl)) (wa_cons (val_var rfl) (wa_cons (val_var rfl) (wa_cons val_c (wa_cons val_c (wa_cons (val_var rfl) wa_nil)))))) ⟨d, f, q, w0, rfl, hd, by omega, hq1, hq2, hw, hw', hparts, fun v H5 e5 hv => ⟨rfl, _, rfl, hQ _ _ ⟨?_, hs4.trans e5⟩⟩⟩
        rw [hv, h5]
      obtain ⟨_, hs5⟩ := h5'
      refine v_ret' ?_
      by_cases hq : q = 1
      · have hcq : decide ((q : Int) = 1) = true := decide_eq_true (by omega)
        exact w_orV (a := true) (b := true) (w_is (w_eqIV (val_var rfl) val_c) (by rw [hcq])) (fun c => nomatch c) _ (k _ hs5)
      · obtain ⟨h7, h8⟩ : wlOK d f (q - 1) w0 = true ∧ wlNone d f (q - 1) w0 = true := by
          rcases h6 with h | h
          · exact absurd h hq
          · exact h
        obtain ⟨hq3, hq4, hparts2⟩ := wl_of h7
        have hcq : decide ((q : Int) = 1) = false := decide_eq_false (by omega)
        refine w_eqIV (val_var rfl) val_c _ ⟨_, rfl, ?_⟩
        rw [hcq]
        refine iteF ?_
        refine k_op ?_
        have eq : ((q : Int) - 1) = ((q - 1 : Nat) : Int) := by omega
        refine w_call (wa_cons (w_ar (val_var rfl) (val_var rfl)) (wa_cons (val_var rfl) (wa_cons (w_ar (val_var rfl) val_c) (wa_cons val_c (wa_cons val_c (wa_cons (val_var rfl) wa_nil)))))) ⟨d, f, q - 1, w0, by rw [← eq], hd, by omega, hq3, hq4, hw, hw', hparts2, fun v H6 e6 hv => ⟨rfl, ?_⟩⟩
        rw [hv, h8]
        exact k _ (hs5.trans e6)

end
end P84

/-! D12 -/
namespace P84
open PySem L2 Evl
section
variable {P : Program} {w : World} {K : PySem.W.Frag} {mg : Str → Option Value} {base : Heap}
/-- a purse p of the call's own -/
def PS (H0 : Hp) (p : Addr) (H' : Hp) : Prop := H0 p = none ∧ Same H0 H' ∧ ∃ x y z : Int, H' p = some (.lst [.int x, .int y, .int z]) ∧ 0 ≤ x
theorem PS.same {H0 H1 H2 : Hp} {p : Addr} (h : PS H0 p H1) (e : Same H1 H2) : PS H0 p H2 := by
  obtain ⟨h0, h1, x, y, z, h2, h3⟩ := h
  exact ⟨h0, h1.trans e, x, y, z, e _ _ h2, h3⟩
theorem c_draw {tr : TA} {E : XK} {σ : L2.St} {H0 H : Hp} {Q : VK} {p : Addr} {n : Int} (h : ValA tr σ H [.ref p, .int n]) (hn : 1 ≤ n) (hn' : n ≤ 1000000000000000000000000000000) (hP : PS H0 p H) (k : ∀ v o, 0 ≤ v → v < n → PS H0 p (upd H p o) → Q (.int v) (upd H p o)) : tCall spDraw [] E tr σ H Q := by
  obtain ⟨h0, h1, x, y, z, h2, h3⟩ := hP
  exact w_call h ⟨p, n, x, y, z, rfl, hn, hn', h2, h3, fun v x' y' z' hv hv' hx' => k v _ hv hv' ⟨h0, same_mut h1 h0, x', y', z', upd_same, hx'⟩⟩
theorem c_drawN {tr : TA} {E : XK} {σ : L2.St} {H0 H : Hp} {Q : VK} {p : Addr} {n : Int} (h : ValA tr σ H [.ref p, .int n]) (hn : 1 ≤ n) (hn' : n ≤ 1000000000000000000000000000000) (hP : PS H0 p H) (k : ∀ (v : Nat) H1, (v : Int) < n → PS H0 p H1 → Q (.int (v : Int)) H1) : tCall spDraw [] E tr σ H Q :=
  c_draw h hn hn' hP fun v o h0 h1 hp => by
    have e : ((v.toNat : Nat) : Int) = v := by omega
    rw [← e]
    exact k v.toNat _ (by omega) hp
def B5 : List (Int × Int) := [(0, 0), (0, 1), (1, 0), (0, 2), (1, 1)]
theorem rise_of {a b d : Int} (h : (a, b) ∈ B5) (h1 : 1 ≤ d) (h2 : d ≤ if lawP a b < 5 then 3 else 1) : risingOK d a b = true := by
  have := rising_all
  unfold risingAll at this
  have h3 := List.all_eq_true.mp this (a, b) h
  have h4 := List.all_eq_true.mp h3 (d - 1).toNat (List.mem_range.mpr (by
    by_cases hl : lawP a b < 5
    · rw [if_pos hl] at h2
      simp only [if_pos hl]
      omega
    · rw [if_neg hl] at h2
      simp only [if_neg hl]
      omega))
  have e : ((((d - 1).toNat : Nat) : Int) + 1) = d := by omega
  rw [e] at h4
  exact h4
theorem all_of {d f : Nat} (h1 : 1 ≤ d) (h2 : d ≤ 9) (h3 : f < 40) : allOK d f = true := by
  have h4 := List.all_eq_true.mp all_all (d - 1) (List.mem_range.mpr (by omega))
  have h5 := List.all_eq_true.mp h4 f (List.mem_range.mpr h3)
  have e : (((d - 1 : Nat) : Int) + 1) = d := by omega
  rw [e] at h5
  exact h5
theorem words_of {d w : Nat} (h1 : 1 ≤ d) (h2 : d ≤ 9) (h3 : 1 ≤ w) (h4 : w ≤ 8) : (∀ f, f < 14 → wordsOK d f w = true) ∧ wordsOK d (d - 1) 1 = true ∧ wordsOK d (d + w - 2) w = true ∧ wordsOK d (d + w - 1) w = true := by
  have h5 := List.all_eq_true.mp words_all (d - 1) (List.mem_range.mpr (by omega))
  have h6 : wordsAt (d - 1) (w - 1) = true := List.all_eq_true.mp h5 (w - 1) (List.mem_range.mpr (by omega))
  unfold wordsAt at h6
  simp only [Bool.and_eq_true] at h6
  have e1 : d - 1 + 1 = d := by omega
  have e2 : w - 1 + 1 = w := by omega
  have e3 : d - 1 + (w - 1) = d + w - 2 := by omega
  have e4 : d + w - 2 + 1 = d + w - 1 := by omega
  rw [e3, e1, e2, e4] at h6
  exact ⟨fun f hf => List.all_eq_true.mp h6.1.1.1 f (List.mem_range.mpr hf), h6.1.1.2, h6.1.2, h6.2⟩
theorem due1 {c w : Int} (hw : 1 ≤ w) : dueF (c * w) (c * w - 1) w = some (2 * c - 1) := by
  unfold dueF
  rw [if_neg (by omega)]
  have e : (c * w - 1) / w = c - 1 := by
    have e1 : c * w - 1 = -1 + c * w := by omega
    rw [e1, Int.add_mul_ediv_right _ _ (by omega)]
    have e2 : (-1 : Int) / w = -1 := by
      rw [Int.ediv_eq_iff_of_pos (by omega)]
      constructor <;> omega
    omega
  rw [e]
  congr 1
  omega
theorem due2 {c w : Int} (hw : 1 ≤ w) : dueF (c * w) (c * w) w = if w > 1 then some (2 * c + 1) else none := by
  unfold dueF
  by_cases h : w > 1
  · rw [if_neg (by omega), if_pos h, Int.mul_ediv_cancel _ (by omega)]
    congr 1
    omega
  · rw [if_pos (by omega), if_neg h]
theorem due3 {c w : Int} : dueF c (c + w - 1) w = none := by
  unfold dueF
  rw [if_pos (by omega)]
def spLaw (K : PySem.W.Frag) : Sp := fun vs H Q _ => ∃ (a : Addr) (ns : List Int), vs = [.ref a] ∧ SqL K H a (ns.map V.int) ∧ ns.length ≤ 63 ∧ ∀ H', Q (.bl true) H'
theorem G_law (T : Env K mg) : FnOk P w K mg base CX0 10 T.f_law T.d_law p_law (spLaw K) := by
  refine T.F_law.ok sc_law (fun vs H Q E h => ?_) (fun cdv A outer s H vs Q E hr h => ?_)
  · obtain ⟨s0, ns, rfl, _⟩ := h
    rfl
  obtain ⟨s0, ns, rfl, hS, hlen, k⟩ := h
  have hu := hu_of hr
  refine ⟨_, (pss_cons (ps_if (pt_not (pt_val (pe_callB call_isi (by rfl) T.z_isinstance (by decide +kernel) (pa_cons (pv 0) (pa_cons (pe_bltn (v := .ty "list") (by rfl) T.z_list (by decide +kernel) rfl) pa_nil))))) (pss_one (ps_ret pe_bl)) pss_nil)
    (pss_cons (ps_set (i := 1) sc_law.nd rfl (Or.inl rfl) (pe_call (G__law_purse T) (hr.mono (by decide)) rfl T.m__law_purse T.F__law_purse.kp (b__law_purse T) .nil pass0 (pa_cons (pv 0) (pa_cons pe_int pa_nil))))
    (pss_cons (ps_set (i := 2) sc_law.nd rfl (Or.inl rfl) (pe_lst (pa_cons (pe_tup (pa_cons pe_int (pa_cons pe_int pa_nil))) (pa_cons (pe_tup (pa_cons pe_int (pa_cons pe_int pa_nil))) (pa_cons (pe_tup (pa_cons pe_int (pa_cons pe_int pa_nil))) (pa_cons (pe_tup (pa_cons pe_int (pa_cons pe_int pa_nil))) (pa_cons (pe_tup (pa_cons pe_int (pa_cons pe_int pa_nil))) pa_nil)))))))
    (pss_cons (ps_asg (pe_ix ix_list (pv 2) (pe_call (G__law_draw T) (hr.mono (by decide)) rfl T.m__law_draw T.F__law_draw.kp (b__law_draw T) .nil pass0 (pa_cons (pv 1) (pa_cons (pe_callB call_len_seq (by rfl) T.z_len PySem.boot_len (pa_cons (pv 2) pa_nil)) pa_nil))) (fun _ _ => rfl)) (pg_tup (by rfl) (pgs_cons (pg_name (i := 3) sc_law.nd rfl (Or.inl rfl)) (pgs_cons (pg_name (i := 4) sc_law.nd rfl (Or.inl rfl)) pgs_nil))))
    (pss_cons (ps_set (i := 5) sc_law.nd rfl (Or.inl rfl) (pe_op op_add pe_int (pe_call (G__law_draw T) (hr.mono (by decide)) rfl T.m__law_draw T.F__law_draw.kp (b__law_draw T) .nil pass0 (pa_cons (pv 1) (pa_cons (pe_ifExp (pt_cmpR op_lt (pe_call (G__law_price T) (hr.mono (by decide)) rfl T.m__law_price T.F__law_price.kp (b__law_price T) .nil pass0 (pa_cons (pv 3) (pa_cons (pv 4) pa_nil))) pe_int (nomark _)) pe_int pe_int) pa_nil)))))
    (pss_cons (ps_if (pt_not (pt_val (pe_call (G__law_rising T) (hr.mono (by decide)) rfl T.m__law_rising T.F__law_rising.kp (b__law_rising T) .nil pass0 (pa_cons (pv 5) (pa_cons (pv 3) (pa_cons (pv 4) pa_nil)))))) (pss_one (ps_ret pe_bl)) pss_nil)
    (pss_cons (ps_set (i := 1) sc_law.nd rfl (Or.inl rfl) (pe_call (G__law_purse T) (hr.mono (by decide)) rfl T.m__law_purse T.F__law_purse.kp (b__law_purse T) .nil pass0 (pa_cons (pv 0) (pa_cons pe_int pa_nil))))
    (pss_cons (ps_for PassesOwn.never rfl (pi_range1 (by rfl) T.z_range (pa_cons pe_int pa_nil)) (pg_name (i := 6) sc_law.nd rfl (Or.inl rfl)) (pss_cons (ps_set (i := 5) sc_law.nd rfl (Or.inl rfl) (pe_op op_add pe_int (pe_call (G__law_draw T) (hr.mono (by decide)) rfl T.m__law_draw T.F__law_draw.kp (b__law_draw T) .nil pass0 (pa_cons (pv 1) (pa_cons pe_int pa_nil)))))
      (pss_cons (ps_if (PW.pt (pw_or (pt_not (pt_val (pe_call (G__law_all_asked T) (hr.mono (by decide)) rfl T.m__law_all_asked T.F__law_all_asked.kp (b__law_all_asked T) .nil pass0 (pa_cons (pv 5) (pa_cons (pe_call (G__law_draw T) (hr.mono (by decide)) rfl T.m__law_draw T.F__law_draw.kp (b__law_draw T) .nil pass0 (pa_cons (pv 1) (pa_cons pe_int pa_nil))) pa_nil))))) (pw_or1 (pt_not (pt_val (pe_call (G__law_all_asked T) (hr.mono (by decide)) rfl T.m__law_all_asked T.F__law_all_asked.kp (b__law_all_asked T) .nil pass0 (pa_cons (pv 5) (pa_cons (pe_op op_mul (pv 5) (pe_call (G__law_draw T) (hr.mono (by decide)) rfl T.m__law_draw T.F__law_draw.kp (b__law_draw T) .nil pass0 (pa_cons (pv 1) (pa_cons pe_int pa_nil)))) pa_nil)))))))) (pss_one (ps_ret pe_bl)) pss_nil)
      (pss_cons (ps_set (i := 7) sc_law.nd rfl (Or.inl rfl) (pe_op op_add pe_int (pe_call (G__law_draw T) (hr.mono (by decide)) rfl T.m__law_draw T.F__law_draw.kp (b__law_draw T) .nil pass0 (pa_cons (pv 1) (pa_cons pe_int pa_nil)))))
      (pss_cons (ps_set (i := 8) sc_law.nd rfl (Or.inl rfl) (pe_call (G__law_draw T) (hr.mono (by decide)) rfl T.m__law_draw T.F__law_draw.kp (b__law_draw T) .nil pass0 (pa_cons (pv 1) (pa_cons pe_int pa_nil))))
      (pss_cons (ps_if (PW.pt (pw_or (pt_not (pt_val (pe_call (G__law_asks_with_words T) (hr.mono (by decide)) rfl T.m__law_asks_with_words T.F__law_asks_with_words.kp (b__law_asks_with_words T) .nil pass0 (pa_cons (pv 5) (pa_cons (pv 8) (pa_cons (pv 7) pa_nil)))))) (pw_or1 (pt_not (pt_val (pe_call (G__law_asks_with_words T) (hr.mono (by decide)) rfl T.m__law_asks_with_words T.F__law_asks_with_words.kp (b__law_asks_with_words T) .nil pass0 (pa_cons (pv 5) (pa_cons (pe_op op_sub (pv 5) pe_int) (pa_cons pe_int pa_nil))))))))) (pss_one (ps_ret pe_bl)) pss_nil)
      (pss_one (ps_if (PW.pt (pw_or (pt_not (pt_val (pe_call (G__law_asks_with_words T) (hr.mono (by decide)) rfl T.m__law_asks_with_words T.F__law_asks_with_words.kp (b__law_asks_with_words T) .nil pass0 (pa_cons (pv 5) (pa_cons (pe_op op_sub (pe_op op_add (pv 5) (pv 7)) pe_int) (pa_cons (pv 7) pa_nil)))))) (pw_or1 (pt_not (pt_val (pe_call (G__law_asks_with_words T) (hr.mono (by decide)) rfl T.m__law_asks_with_words T.F__law_asks_with_words.kp (b__law_asks_with_words T) .nil pass0 (pa_cons (pv 5) (pa_cons (pe_op op_sub (pe_op op_add (pv 5) (pv 7)) pe_int) (pa_cons (pv 7) pa_nil))))))))) (pss_one (ps_ret pe_bl)) pss_nil))))))))
    (pss_cons (ps_set (i := 9) sc_law.nd rfl (Or.inl rfl) (pe_op op_add pe_int (pe_call (G__law_draw T) (hr.mono (by decide)) rfl T.m__law_draw T.F__law_draw.kp (b__law_draw T) .nil pass0 (pa_cons (pv 1) (pa_cons (pe_op op_pow pe_int pe_int) pa_nil)))))
    (pss_cons (ps_set (i := 7) sc_law.nd rfl (Or.inl rfl) (pe_op op_add pe_int (pe_call (G__law_draw T) (hr.mono (by decide)) rfl T.m__law_draw T.F__law_draw.kp (b__law_draw T) .nil pass0 (pa_cons (pv 1) (pa_cons (pe_op op_pow pe_int pe_int) pa_nil)))))
    (pss_cons (ps_if (PW.pt (pw_or (pt_cmpR op_ne (pe_call (G_asks_due T) (hr.mono (by decide)) rfl T.m_asks_due T.F_asks_due.kp (b_asks_due T) .nil pass0 (pa_cons (pe_op op_mul (pv 9) (pv 7)) (pa_cons (pe_op op_sub (pe_op op_mul (pv 9) (pv 7)) pe_int) (pa_cons (pv 7) pa_nil)))) (pe_op op_sub (pe_op op_mul pe_int (pv 9)) pe_int) (nomark _)) (pw_or1 (pt_cmpR op_ne (pe_call (G_asks_due T) (hr.mono (by decide)) rfl T.m_asks_due T.F_asks_due.kp (b_asks_due T) .nil pass0 (pa_cons (pe_op op_mul (pv 9) (pv 7)) (pa_cons (pe_op op_mul (pv 9) (pv 7)) (pa_cons (pv 7) pa_nil)))) (pe_ifExp (pt_cmpR op_gt (pv 7) pe_int (nomark _)) (pe_op op_add (pe_op op_mul pe_int (pv 9)) pe_int) pe_non) (nomark _))))) (pss_one (ps_ret pe_bl)) pss_nil)
    (pss_one (ps_ret (pe_cmpR op_isN (pe_call (G_asks_due T) (hr.mono (by decide)) rfl T.m_asks_due T.F_asks_due.kp (b_asks_due T) .nil pass0 (pa_cons (pv 9) (pa_cons (pe_op op_sub (pe_op op_add (pv 9) (pv 7)) pe_int) (pa_cons (pv 7) pa_nil)))) pe_non (nomark _))))))))))))))), ?_⟩
  refine v_when (w_not (w_B (w_isi (b := true) (t := "list") (val_var rfl) (tyx_list hS) (by decide +kernel)))) (fun c => absurd c (by decide)) (fun _ => ?_)
  refine v_asg' (w_call (wa_cons (val_var rfl) (wa_cons val_c wa_nil)) ⟨s0, ns, 0, rfl, hS, by decide, by decide, by omega, fun p H1 x y e1 hp hx h1 => ?_⟩)
  have hP1 : PS H p H1 := ⟨hp, e1, x, y, 0, h1, hx⟩
  -- budgets
  refine v_asgE (fun v H2 => ∃ (bl : Addr) (ts : List Addr), v = .ref bl ∧ PS H p H2 ∧ bl ≠ p ∧ H2 bl = some (.lst (ts.map V.ref)) ∧ ts.length = 5 ∧ ∀ (i : Nat) t, ts[i]? = some t → t ≠ p ∧ ∃ a b : Int, (a, b) ∈ B5 ∧ H2 t = some (.tup [.int a, .int b])) (fun Q1 hQ => ?_) (fun v H2 h2 => ?_)
  · refine k_lst (k_cons (w_tup (wa_cons val_c (wa_cons val_c wa_nil)) (by simp) fun t1 k1 => ?_))
    refine k_cons (w_tup (wa_cons val_c (wa_cons val_c wa_nil)) (by simp) fun t2 k2 => ?_)
    refine k_cons (w_tup (wa_cons val_c (wa_cons val_c wa_nil)) (by simp) fun t3 k3 => ?_)
    refine k_cons (w_tup (wa_cons val_c (wa_cons val_c wa_nil)) (by simp) fun t4 k4 => ?_)
    refine k_cons (w_tup (wa_cons val_c (wa_cons val_c wa_nil)) (by simp) fun t5 k5 => ?_)
    refine ⟨sz_of (by simp), fun bl kb => ?_⟩
    have s1 := same_new k1 (.tup [.int 0, .int 0])
    have f1 : upd H1 t1 (.tup [.int 0, .int 0]) t1 = some (.tup [.int 0, .int 0]) := upd_same
    generalize upd H1 t1 (.tup [.int 0, .int 0]) = G1 at *
    have s2 := same_new k2 (.tup [.int 0, .int 1])
    have f2 : upd G1 t2 (.tup [.int 0, .int 1]) t2 = some (.tup [.int 0, .int 1]) := upd_same
    generalize upd G1 t2 (.tup [.int 0, .int 1]) = G2 at *
    have s3 := same_new k3 (.tup [.int 1, .int 0])
    have f3 : upd G2 t3 (.tup [.int 1, .int 0]) t3 = some (.tup [.int 1, .int 0]) := upd_same
    generalize upd G2 t3 (.tup [.int 1, .int 0]) = G3 at *
    have s4 := same_new k4 (.tup [.int 0, .int 2])
    have f4 : upd G3 t4 (.tup [.int 0, .int 2]) t4 = some (.tup [.int 0, .int 2]) := upd_same
    generalize upd G3 t4 (.tup [.int 0, .int 2]) = G4 at *
    have s5 := same_new k5 (.tup [.int 1, .int 1])
    have f5 : upd G4 t5 (.tup [.int 1, .int 1]) t5 = some (.tup [.int 1, .int 1]) := upd_same
    generalize upd G4 t5 (.tup [.int 1, .int 1]) = G5 at *
    have s6 := same_new kb (.lst [.ref t1, .ref t2, .ref t3, .ref t4, .ref t5])
    have f6 : upd G5 bl (.lst [.ref t1, .ref t2, .ref t3, .ref t4, .ref t5]) bl = some (.lst [.ref t1, .ref t2, .ref t3, .ref t4, .ref t5]) := upd_same
    generalize upd G5 bl (.lst [.ref t1, .ref t2, .ref t3, .ref t4, .ref t5]) = G6 at *
    have n0 := h1
    have n1 := s1 _ _ n0
    have n2 := s2 _ _ n1
    have n3 := s3 _ _ n2
    have n4 := s4 _ _ n3
    have n5 := s5 _ _ n4
    refine hQ _ _ ⟨bl, [t1, t2, t3, t4, t5], rfl, hP1.same (((((s1.trans s2).trans s3).trans s4).trans s5).trans s6), (ne_of_none n5 kb).symm, f6, rfl, fun i t ht => ?_⟩
    match i, ht with
    | 0, ht => obtain rfl : t1 = t := Option.some.inj ht; exact ⟨(ne_of_none n0 k1).symm, 0, 0, by decide, s6 _ _ (s5 _ _ (s4 _ _ (s3 _ _ (s2 _ _ f1))))⟩
    | 1, ht => obtain rfl : t2 = t := Option.some.inj ht; exact ⟨(ne_of_none n1 k2).symm, 0, 1, by decide, s6 _ _ (s5 _ _ (s4 _ _ (s3 _ _ f2)))⟩
    | 2, ht => obtain rfl : t3 = t := Option.some.inj ht; exact ⟨(ne_of_none n2 k3).symm, 1, 0, by decide, s6 _ _ (s5 _ _ (s4 _ _ f3))⟩
    | 3, ht => obtain rfl : t4 = t := Option.some.inj ht; exact ⟨(ne_of_none n3 k4).symm, 0, 2, by decide, s6 _ _ (s5 _ _ f4)⟩
    | 4, ht => obtain rfl : t5 = t := Option.some.inj ht; exact ⟨(ne_of_none n4 k5).symm, 1, 1, by decide, s6 _ _ f5⟩
    | n + 5, ht => simp at ht
  obtain ⟨bl, ts, rfl, hP2, hbp, hbl, htl, hts⟩ := h2
  -- a, b = budgets[..]
  have pick : ∀ (D : Ends) (tz : TS) (K' : ∀ (a b : Int) H3, (a, b) ∈ B5 → PS H p H3 → tz D [some (.ref s0), some (.ref p), some (.ref bl), some (.int a), some (.int b), none, none, none, none, none] H3), True := fun _ _ _ => trivial
  refine ⟨_, rfl, ?_⟩
  refine c_draw (n := 5) (wa_cons (val_var rfl) (wa_cons (w_is (w_len (val_var rfl) (sq_of hbl)) (by rw [List.length_map, htl]; rfl)) wa_nil)) (by decide) (by decide) hP2 fun v o hv hv' hP3 => ?_
  have hbl3 : upd H2 p o bl = some (.lst (ts.map V.ref)) := by rw [upd_ne hbp]; exact hbl
  have hvl : v.toNat < ts.length := by omega
  obtain ⟨htp, a, b, hab, htt⟩ := hts v.toNat ts[v.toNat] (List.getElem?_eq_getElem hvl)
  have htt3 : upd H2 p o ts[v.toNat] = some (.tup [.int a, .int b]) := by rw [upd_ne htp]; exact htt
  refine ⟨bl, _, _, _, rfl, rfl, sq_of hbl3, atI_map (f := V.ref) hv (List.getElem?_eq_getElem hvl), ?_⟩
  refine ⟨_, _, rfl, st_of htt3, rfl, _, _, rfl, _, _, rfl, rfl, ?_⟩
  generalize upd H2 p o = H3 at *
  dsimp only
  have hab0 : 0 ≤ a ∧ 0 ≤ b ∧ a + b ≤ 2 := by
    simp only [B5, List.mem_cons, Prod.mk.injEq, List.not_mem_nil, or_false] at hab
    omega
  -- d
  refine v_asgE (fun v H4 => ∃ d : Int, v = .int d ∧ 1 ≤ d ∧ d ≤ (if lawP a b < 5 then 3 else 1) ∧ PS H p H4) (fun Q1 hQ => ?_) (fun v H4 h4 => ?_)
  · refine k_op ?_
    refine k_call1 ⟨_, rfl, ?_⟩
    refine k_cons ?_
    refine k_test (k_op (w_call (wa_cons (val_var rfl) (wa_cons (val_var rfl) wa_nil)) ⟨a, b, rfl, by omega, by omega, by omega, by omega, fun H4 e4 => ?_⟩))
    refine ⟨_, _, rfl, rfl, _, rfl, ?_⟩
    have hP4 := hP3.same e4
    obtain ⟨h0, h1', x', y', z', h2', h3'⟩ := hP4
    refine ite2 (fun c => ?_) (fun c => ?_)
    · have c1 : lawP a b < 5 := of_decide_eq_true c
      refine ⟨p, 3, x', y', z', rfl, by decide, by decide, h2', h3', fun v x2 y2 z2 hv hv' hx2 => ⟨_, _, rfl, rfl, hQ _ _ ⟨_, rfl, by omega, by rw [if_pos c1]; omega, h0, same_mut h1' h0, x2, y2, z2, upd_same, hx2⟩⟩⟩
    · have c1 : ¬ lawP a b < 5 := of_decide_eq_false (Bool.eq_false_iff.mpr c)
      refine ⟨p, 1, x', y', z', rfl, by decide, by decide, h2', h3', fun v x2 y2 z2 hv hv' hx2 => ⟨_, _, rfl, rfl, hQ _ _ ⟨_, rfl, by omega, by rw [if_neg c1]; omega, h0, same_mut h1' h0, x2, y2, z2, upd_same, hx2⟩⟩⟩
  obtain ⟨d, rfl, hd, hd', hP4⟩ := h4
  have hrise := rise_of hab hd hd'
  have hd3 : d ≤ 3 := by
    split at hd' <;> omega
  refine v_whenE (fun r H5 => r = false ∧ PS H p H5) (fun Q1 hQ => ?_) (fun H5 h5 => nomatch h5.1) (fun H5 h5 => ?_)
  · exact w_call (wa_cons (val_var rfl) (wa_cons (val_var rfl) (wa_cons (val_var rfl) wa_nil))) ⟨d, a, b, rfl, hd, hd3, hab0.1, hab0.2.1, hab0.2.2, hrise, fun H5 e5 => ⟨true, rfl, hQ _ _ ⟨rfl, hP4.same e5⟩⟩⟩
  obtain ⟨_, hP5⟩ := h5
  -- the second purse
  refine v_asg' (w_call (wa_cons (val_var rfl) (wa_cons val_c wa_nil)) ⟨s0, ns, 1, rfl, hP5.2.1.seq hS, by decide, by decide, by omega, fun p2 H6 x2 y2 e6 hp2 hx2 h6 => ?_⟩)
  have hQ6 : PS H5 p2 H6 := ⟨hp2, e6, x2, y2, 1, h6, hx2⟩
  refine v_for1 val_c (by decide) (fun i σ H' => (∃ z3 z4 z5 z6 z7 z8, σ = [some (.ref s0), some (.ref p2), some (.ref bl), z3, z4, z5, z6, z7, z8, none]) ∧ PS H5 p2 H') ⟨⟨_, _, _, _, _, _, rfl⟩, hQ6⟩ ?_ ?_
  · rintro i σ' H' hi ⟨⟨z3, z4, z5, z6, z7, z8, rfl⟩, hP⟩
    -- d
    refine v_asgE (fun v H7 => ∃ d : Nat, v = .int (d : Int) ∧ 1 ≤ d ∧ d ≤ 9 ∧ PS H5 p2 H7) (fun Q1 hQ => ?_) (fun v H7 h7 => ?_)
    · refine k_op (c_drawN (n := 9) (wa_cons (val_var rfl) (wa_cons val_c wa_nil)) (by decide) (by decide) hP fun v H7 hv hP7 => ⟨_, _, rfl, rfl, hQ _ _ ⟨v + 1, ?_, by omega, by omega, hP7⟩⟩)
      show V.int (1 + (v : Int)) = V.int ((v + 1 : Nat) : Int)
      congr 1
      omega
    obtain ⟨d, rfl, hd, hd', hP7⟩ := h7
    refine v_whenE (fun r H8 => r = false ∧ PS H5 p2 H8) (fun Q1 hQ => ?_) (fun H8 h8 => nomatch h8.1) (fun H8 h8 => ?_)
    · -- the first
      refine k_call1 ⟨_, rfl, ?_⟩
      refine k_cons (c_drawN (n := 40) (wa_cons (val_var rfl) (wa_cons val_c wa_nil)) (by decide) (by decide) hP7 fun f H8 hf hP8 => ?_)
      refine ⟨d, f, rfl, by omega, by omega, by omega, by omega, all_of hd hd' (by omega), fun H9 e9 => ⟨true, rfl, ?_⟩⟩
      refine iteF ?_
      refine k_call1 ⟨_, rfl, ?_⟩
      refine k_cons (k_op ⟨_, rfl, c_drawN (n := 5) (wa_cons (val_var rfl) (wa_cons val_c wa_nil)) (by decide) (by decide) (hP8.same e9) fun f2 H10 hf2 hP10 => ?_⟩)
      refine ⟨_, _, rfl, rfl, Or.inl ⟨by omega, by omega⟩, ?_⟩
      have hdf : d * f2 ≤ 9 * 4 := Nat.mul_le_mul hd' (by omega)
      have em : ((d : Int) * (f2 : Int)) = ((d * f2 : Nat) : Int) := (Int.natCast_mul _ _).symm
      refine ⟨d, ((d * f2 : Nat) : Int), by rw [← em]; rfl, by omega, by omega, by omega, by omega, all_of hd hd' (by omega), fun H11 e11 => ⟨true, rfl, hQ _ _ ⟨rfl, hP10.same e11⟩⟩⟩
    obtain ⟨_, hP8⟩ := h8
    refine v_asgE (fun v H9 => ∃ w : Nat, v = .int (w : Int) ∧ 1 ≤ w ∧ w ≤ 8 ∧ PS H5 p2 H9) (fun Q1 hQ => ?_) (fun v H9 h9 => ?_)
    · refine k_op (c_drawN (n := 8) (wa_cons (val_var rfl) (wa_cons val_c wa_nil)) (by decide) (by decide) hP8 fun v H9 hv hP9 => ⟨_, _, rfl, rfl, hQ _ _ ⟨v + 1, ?_, by omega, by omega, hP9⟩⟩)
      show V.int (1 + (v : Int)) = V.int ((v + 1 : Nat) : Int)
      congr 1
      omega
    obtain ⟨w0, rfl, hw, hw', hP9⟩ := h9
    refine v_asgE (fun v H10 => ∃ f : Nat, v = .int (f : Int) ∧ f < 14 ∧ PS H5 p2 H10) (fun Q1 hQ => ?_) (fun v H10 h10 => ?_)
    · exact c_drawN (n := 14) (wa_cons (val_var rfl) (wa_cons val_c wa_nil)) (by decide) (by decide) hP9 fun v H10 hv hP10 => hQ _ _ ⟨v, rfl, by omega, hP10⟩
    obtain ⟨f, rfl, hf, hP10⟩ := h10
    obtain ⟨w1, w2, w3, w4⟩ := words_of hd hd' hw hw'
    refine v_whenE (fun r H11 => r = false ∧ PS H5 p2 H11) (fun Q1 hQ => ?_) (fun H11 h11 => nomatch h11.1) (fun H11 h11 => ?_)
    · refine w_call (wa_cons (val_var rfl) (wa_cons (val_var rfl) (wa_cons (val_var rfl) wa_nil))) ⟨d, f, w0, rfl, hd, hd', by omega, hw, hw', w1 f hf, fun H11 e11 => ⟨true, rfl, ?_⟩⟩
      refine iteF ?_
      have ed : ((d : Int) - 1) = ((d - 1 : Nat) : Int) := by omega
      refine w_call (wa_cons (val_var rfl) (wa_cons (w_ar (val_var rfl) val_c) (wa_cons val_c wa_nil))) ⟨d, d - 1, 1, by rw [← ed]; rfl, hd, hd', by omega, by decide, by decide, w2, fun H12 e12 => ⟨true, rfl, hQ _ _ ⟨rfl, (hP10.same e11).same e12⟩⟩⟩
    obtain ⟨_, hP11⟩ := h11
    refine v_whenE1 (fun r H12 => r = false ∧ PS H5 p2 H12) (fun Q1 hQ => ?_) (fun H12 h12 => nomatch h12.1) (fun H12 h12 => ⟨⟨_, _, _, _, _, _, rfl⟩, h12.2⟩)
    · have ed : ((d : Int) + w0 - 2) = ((d + w0 - 2 : Nat) : Int) := by omega
      have ed2 : ((d : Int) + w0 - 1) = ((d + w0 - 1 : Nat) : Int) := by omega
      refine w_call (wa_cons (val_var rfl) (wa_cons (w_ar (w_ar (val_var rfl) (val_var rfl)) val_c) (wa_cons (val_var rfl) wa_nil))) ⟨d, d + w0 - 2, w0, by rw [← ed], hd, hd', by omega, hw, hw', w3, fun H12 e12 => ⟨true, rfl, ?_⟩⟩
      refine iteF ?_
      refine w_call (wa_cons (val_var rfl) (wa_cons (w_ar (w_ar (val_var rfl) (val_var rfl)) val_c) (wa_cons (val_var rfl) wa_nil))) ⟨d, d + w0 - 1, w0, by rw [← ed2], hd, hd', by omega, hw, hw', w4, fun H13 e13 => ⟨true, rfl, hQ _ _ ⟨rfl, (hP11.same e12).same e13⟩⟩⟩
  · rintro σ' H' ⟨⟨z3, z4, z5, z6, z7, z8, rfl⟩, hP⟩
    have hpow1 : (1 : Int) ≤ 10 ^ (14 : Int).toNat := by decide
    have hpow2 : (10 : Int) ^ (14 : Int).toNat ≤ 1000000000000000000000000000000 := by decide
    have hpow3 : (10 : Int) ^ (14 : Int).toNat = 100000000000000 := by decide
    refine v_asgE (fun v H7 => ∃ c : Int, v = .int c ∧ 1 ≤ c ∧ c ≤ 100000000000000 ∧ PS H5 p2 H7) (fun Q1 hQ => ?_) (fun v H7 h7 => ?_)
    · refine k_op (c_draw (n := 10 ^ (14 : Int).toNat) (wa_cons (val_var rfl) (wa_cons (w_arC val_c val_c ⟨by decide, by decide, by decide⟩) wa_nil)) hpow1 hpow2 hP fun v o hv hv' hP7 => ⟨_, _, rfl, rfl, hQ _ _ ⟨1 + v, rfl, by omega, by omega, hP7⟩⟩)
    obtain ⟨c, rfl, hc, hc', hP7⟩ := h7
    refine v_asgE (fun v H8 => ∃ w : Int, v = .int w ∧ 1 ≤ w ∧ w ≤ 100000000000000 ∧ PS H5 p2 H8) (fun Q1 hQ => ?_) (fun v H8 h8 => ?_)
    · refine k_op (c_draw (n := 10 ^ (14 : Int).toNat) (wa_cons (val_var rfl) (wa_cons (w_arC val_c val_c ⟨by decide, by decide, by decide⟩) wa_nil)) hpow1 hpow2 hP7 fun v o hv hv' hP8 => ⟨_, _, rfl, rfl, hQ _ _ ⟨1 + v, rfl, by omega, by omega, hP8⟩⟩)
    obtain ⟨w0, rfl, hw, hw', hP8⟩ := h8
    have hcw1 : 1 ≤ c * w0 := by
      have := Int.mul_le_mul hc hw (by decide) (by omega)
      simpa using this
    have hcw2 : c * w0 ≤ 100000000000000 * 100000000000000 := Int.mul_le_mul hc' hw' (by omega) (by decide)
    refine v_whenE (fun r H9 => r = false) (fun Q1 hQ => ?_) (fun H9 h9 => nomatch h9) (fun H9 h9 => ?_)
    · refine k_test (k_op (w_call (wa_cons (w_arC (val_var rfl) (val_var rfl) (Or.inl ⟨by omega, by omega⟩)) (wa_cons (w_ar (w_arC (val_var rfl) (val_var rfl) (Or.inl ⟨by omega, by omega⟩)) val_c) (wa_cons (val_var rfl) wa_nil))) ⟨c * w0, c * w0 - 1, w0, rfl, by omega, by omega, by omega, by omega, by omega, by omega, fun H9 e9 => ?_⟩))
      rw [due1 hw]
      refine w_ar (w_arC val_c (val_var rfl) (Or.inl ⟨by decide, by decide⟩)) val_c _ ?_
      refine ⟨rfl, _, rfl, ?_⟩
      have e1 : (!decide (optV (some (2 * c - 1)) = V.int (2 * c - 1))) = false := by
        show (!decide (V.int (2 * c - 1) = V.int (2 * c - 1))) = false
        rw [decide_eq_true rfl]
        rfl
      rw [e1]
      refine iteF ?_
      refine k_test (k_op (w_call (wa_cons (w_arC (val_var rfl) (val_var rfl) (Or.inl ⟨by omega, by omega⟩)) (wa_cons (w_arC (val_var rfl) (val_var rfl) (Or.inl ⟨by omega, by omega⟩)) (wa_cons (val_var rfl) wa_nil))) ⟨c * w0, c * w0, w0, rfl, by omega, by omega, by omega, by omega, by omega, by omega, fun H10 e10 => ?_⟩))
      rw [due2 hw]
      refine w_cmp (val_var rfl) val_c _ ?_
      by_cases h1 : w0 > 1
      · rw [if_pos h1, decide_eq_true h1]
        refine iteT ?_
        refine w_ar (w_arC val_c (val_var rfl) (Or.inl ⟨by decide, by decide⟩)) val_c _ ?_
        refine ⟨rfl, _, rfl, hQ _ _ ?_⟩
        show (!decide (V.int (2 * c + 1) = V.int (2 * c + 1))) = false
        rw [decide_eq_true rfl]
        rfl
      · rw [if_neg h1, decide_eq_false h1]
        refine iteF ?_
        exact ⟨rfl, _, rfl, hQ _ _ rfl⟩
    · refine v_ret' (k_op (w_call (wa_cons (val_var rfl) (wa_cons (w_ar (w_ar (val_var rfl) (val_var rfl)) val_c) (wa_cons (val_var rfl) wa_nil))) ⟨c, c + w0 - 1, w0, rfl, by omega, by omega, by omega, by omega, by omega, by omega, fun H10 e10 => ?_⟩))
      rw [due3]
      exact ⟨rfl, k _⟩

end
end P84

/-! E84 -/
namespace P84
open PySem L2
theorem env_mk {w : World} {K : PySem.W.Frag} {h : Heap} {mg : Str → Option Value} (X : K.In h) (G : h.Ns mainGlobals mg)
{f0 : Addr} {od0 an0 : Option Addr} {sl0 : Array (Option Value)} {oc0 kV0 dc0 pm0 cd0 ct0 : Value} {f1 : Addr} {od1 an1 : Option Addr} {sl1 : Array (Option Value)} {oc1 kV1 dc1 pm1 cd1 ct1 : Value} {f2 : Addr} {od2 an2 : Option Addr} {sl2 : Array (Option Value)} {oc2 kV2 dc2 pm2 cd2 ct2 : Value} {f3 : Addr} {od3 an3 : Option Addr} {sl3 : Array (Option Value)} {oc3 kV3 dc3 pm3 cd3 ct3 : Value} {f4 : Addr} {od4 an4 : Option Addr} {sl4 : Array (Option Value)} {oc4 kV4 dc4 pm4 cd4 ct4 : Value} {f5 : Addr} {od5 an5 : Option Addr} {sl5 : Array (Option Value)} {oc5 kV5 dc5 pm5 cd5 ct5 : Value} {f6 : Addr} {od6 an6 : Option Addr} {sl6 : Array (Option Value)} {oc6 kV6 dc6 pm6 cd6 ct6 : Value} {f7 : Addr} {od7 an7 : Option Addr} {sl7 : Array (Option Value)} {oc7 kV7 dc7 pm7 cd7 ct7 : Value} {f8 : Addr} {od8 an8 : Option Addr} {sl8 : Array (Option Value)} {oc8 kV8 dc8 pm8 cd8 ct8 : Value} {f9 : Addr} {od9 an9 : Option Addr} {sl9 : Array (Option Value)} {oc9 kV9 dc9 pm9 cd9 ct9 : Value} {f10 : Addr} {od10 an10 : Option Addr} {sl10 : Array (Option Value)} {oc10 kV10 dc10 pm10 cd10 ct10 : Value} {f11 : Addr} {od11 an11 : Option Addr} {sl11 : Array (Option Value)} {oc11 kV11 dc11 pm11 cd11 ct11 : Value} {f12 : Addr} {od12 an12 : Option Addr} {sl12 : Array (Option Value)} {oc12 kV12 dc12 pm12 cd12 ct12 : Value} {f13 : Addr} {od13 an13 : Option Addr} {sl13 : Array (Option Value)} {oc13 kV13 dc13 pm13 cd13 ct13 : Value} {f14 : Addr} {od14 an14 : Option Addr} {sl14 : Array (Option Value)} {oc14 kV14 dc14 pm14 cd14 ct14 : Value} {f15 : Addr} {od15 an15 : Option Addr} {sl15 : Array (Option Value)} {oc15 kV15 dc15 pm15 cd15 ct15 : Value} {f16 : Addr} {od16 an16 : Option Addr} {sl16 : Array (Option Value)} {oc16 kV16 dc16 pm16 cd16 ct16 : Value} {f17 : Addr} {od17 an17 : Option Addr} {sl17 : Array (Option Value)} {oc17 kV17 dc17 pm17 cd17 ct17 : Value} {f18 : Addr} {od18 an18 : Option Addr} {sl18 : Array (Option Value)} {oc18 kV18 dc18 pm18 cd18 ct18 : Value} {f19 : Addr} {od19 an19 : Option Addr} {sl19 : Array (Option Value)} {oc19 kV19 dc19 pm19 cd19 ct19 : Value} {f20 : Addr} {od20 an20 : Option Addr} {sl20 : Array (Option Value)} {oc20 kV20 dc20 pm20 cd20 ct20 : Value} {f21 : Addr} {od21 an21 : Option Addr} {sl21 : Array (Option Value)} {oc21 kV21 dc21 pm21 cd21 ct21 : Value} {f22 : Addr} {od22 an22 : Option Addr} {sl22 : Array (Option Value)} {oc22 kV22 dc22 pm22 cd22 ct22 : Value} {f23 : Addr} {od23 an23 : Option Addr} {sl23 : Array (Option Value)} {oc23 kV23 dc23 pm23 cd23 ct23 : Value} {f24 : Addr} {od24 an24 : Option Addr} {sl24 : Array (Option Value)} {oc24 kV24 dc24 pm24 cd24 ct24 : Value} {f25 : Addr} {od25 an25 : Option Addr} {sl25 : Array (Option Value)} {oc25 kV25 dc25 pm25 cd25 ct25 : Value} {f26 : Addr} {od26 an26 : Option Addr} {sl26 : Array (Option Value)} {oc26 kV26 dc26 pm26 cd26 ct26 : Value} {f27 : Addr} {od27 an27 : Option Addr} {sl27 : Array (Option Value)} {oc27 kV27 dc27 pm27 cd27 ct27 : Value} {f28 : Addr} {od28 an28 : Option Addr} {sl28 : Array (Option Value)} {oc28 kV28 dc28 pm28 cd28 ct28 : Value} {f29 : Addr} {od29 an29 : Option Addr} {sl29 : Array (Option Value)} {oc29 kV29 dc29 pm29 cd29 ct29 : Value} {f30 : Addr} {od30 an30 : Option Addr} {sl30 : Array (Option Value)} {oc30 kV30 dc30 pm30 cd30 ct30 : Value} {f31 : Addr} {od31 an31 : Option Addr} {sl31 : Array (Option Value)} {oc31 kV31 dc31 pm31 cd31 ct31 : Value} {f32 : Addr} {od32 an32 : Option Addr} {sl32 : Array (Option Value)} {oc32 kV32 dc32 pm32 cd32 ct32 : Value} {f33 : Addr} {od33 an33 : Option Addr} {sl33 : Array (Option Value)} {oc33 kV33 dc33 pm33 cd33 ct33 : Value} {f34 : Addr} {od34 an34 : Option Addr} {sl34 : Array (Option Value)} {oc34 kV34 dc34 pm34 cd34 ct34 : Value} {t0 : Tok} {t1 : Tok} {t2 : Tok} {t3 : Tok} {t4 : Tok} {t5 : Tok} {t6 : Tok} {t7 : Tok} {t8 : Tok}
(a0 : PySem.W.nsIn K mainGlobals "binomial" = some (some (.ref f0)))
(l0 : K.lookup f0 = some ⟨oc0, od0, .func (PySem.W.fnOf "binomial" "binomial" (defArgs s_binomial) (defBody s_binomial) (defScope s_binomial) .none kV0 dc0 pm0 an0 cd0 ct0), sl0⟩)
(c0 : PySem.W.codeIn K cd0 "binomial" = true) (k0 : PySem.W.keepIn K (.ref f0) = true)
(a1 : PySem.W.nsIn K mainGlobals "price_number" = some (some (.ref f1)))
(l1 : K.lookup f1 = some ⟨oc1, od1, .func (PySem.W.fnOf "price_number" "price_number" (defArgs s_price_number) (defBody s_price_number) (defScope s_price_number) .none kV1 dc1 pm1 an1 cd1 ct1), sl1⟩)
(c1 : PySem.W.codeIn K cd1 "price_number" = true) (k1 : PySem.W.keepIn K (.ref f1) = true)
(a2 : PySem.W.nsIn K mainGlobals "check_budgets" = some (some (.ref f2)))
(l2 : K.lookup f2 = some ⟨oc2, od2, .func (PySem.W.fnOf "check_budgets" "check_budgets" (defArgs s_check_budgets) (defBody s_check_budgets) (defScope s_check_budgets) .none kV2 dc2 pm2 an2 cd2 ct2), sl2⟩)
(c2 : PySem.W.codeIn K cd2 "check_budgets" = true) (k2 : PySem.W.keepIn K (.ref f2) = true)
(a3 : PySem.W.nsIn K mainGlobals "check_numbers" = some (some (.ref f3)))
(l3 : K.lookup f3 = some ⟨oc3, od3, .func (PySem.W.fnOf "check_numbers" "check_numbers" (defArgs s_check_numbers) (defBody s_check_numbers) (defScope s_check_numbers) .none kV3 dc3 pm3 an3 cd3 ct3), sl3⟩)
(c3 : PySem.W.codeIn K cd3 "check_numbers" = true) (k3 : PySem.W.keepIn K (.ref f3) = true)
(a4 : PySem.W.nsIn K mainGlobals "check_least" = some (some (.ref f4)))
(l4 : K.lookup f4 = some ⟨oc4, od4, .func (PySem.W.fnOf "check_least" "check_least" (defArgs s_check_least) (defBody s_check_least) (defScope s_check_least) .none kV4 dc4 pm4 an4 cd4 ct4), sl4⟩)
(c4 : PySem.W.codeIn K cd4 "check_least" = true) (k4 : PySem.W.keepIn K (.ref f4) = true)
(a5 : PySem.W.nsIn K mainGlobals "most_false" = some (some (.ref f5)))
(l5 : K.lookup f5 = some ⟨oc5, od5, .func (PySem.W.fnOf "most_false" "most_false" (defArgs s_most_false) (defBody s_most_false) (defScope s_most_false) .none kV5 dc5 pm5 an5 cd5 ct5), sl5⟩)
(c5 : PySem.W.codeIn K cd5 "most_false" = true) (k5 : PySem.W.keepIn K (.ref f5) = true)
(a6 : PySem.W.nsIn K mainGlobals "is_whole" = some (some (.ref f6)))
(l6 : K.lookup f6 = some ⟨oc6, od6, .func (PySem.W.fnOf "is_whole" "is_whole" (defArgs s_is_whole) (defBody s_is_whole) (defScope s_is_whole) .none kV6 dc6 pm6 an6 cd6 ct6), sl6⟩)
(c6 : PySem.W.codeIn K cd6 "is_whole" = true) (k6 : PySem.W.keepIn K (.ref f6) = true)
(a7 : PySem.W.nsIn K mainGlobals "check_at_most" = some (some (.ref f7)))
(l7 : K.lookup f7 = some ⟨oc7, od7, .func (PySem.W.fnOf "check_at_most" "check_at_most" (defArgs s_check_at_most) (defBody s_check_at_most) (defScope s_check_at_most) .none kV7 dc7 pm7 an7 cd7 ct7), sl7⟩)
(c7 : PySem.W.codeIn K cd7 "check_at_most" = true) (k7 : PySem.W.keepIn K (.ref f7) = true)
(a8 : PySem.W.nsIn K mainGlobals "failing_parting" = some (some (.ref f8)))
(l8 : K.lookup f8 = some ⟨oc8, od8, .func (PySem.W.fnOf "failing_parting" "failing_parting" (defArgs s_failing_parting) (defBody s_failing_parting) (defScope s_failing_parting) .none kV8 dc8 pm8 an8 cd8 ct8), sl8⟩)
(c8 : PySem.W.codeIn K cd8 "failing_parting" = true) (k8 : PySem.W.keepIn K (.ref f8) = true)
(a9 : PySem.W.nsIn K mainGlobals "is_kept" = some (some (.ref f9)))
(l9 : K.lookup f9 = some ⟨oc9, od9, .func (PySem.W.fnOf "is_kept" "is_kept" (defArgs s_is_kept) (defBody s_is_kept) (defScope s_is_kept) .none kV9 dc9 pm9 an9 cd9 ct9), sl9⟩)
(c9 : PySem.W.codeIn K cd9 "is_kept" = true) (k9 : PySem.W.keepIn K (.ref f9) = true)
(a10 : PySem.W.nsIn K mainGlobals "check_asked" = some (some (.ref f10)))
(l10 : K.lookup f10 = some ⟨oc10, od10, .func (PySem.W.fnOf "check_asked" "check_asked" (defArgs s_check_asked) (defBody s_check_asked) (defScope s_check_asked) .none kV10 dc10 pm10 an10 cd10 ct10), sl10⟩)
(c10 : PySem.W.codeIn K cd10 "check_asked" = true) (k10 : PySem.W.keepIn K (.ref f10) = true)
(a11 : PySem.W.nsIn K mainGlobals "kept_asked" = some (some (.ref f11)))
(l11 : K.lookup f11 = some ⟨oc11, od11, .func (PySem.W.fnOf "kept_asked" "kept_asked" (defArgs s_kept_asked) (defBody s_kept_asked) (defScope s_kept_asked) .none kV11 dc11 pm11 an11 cd11 ct11), sl11⟩)
(c11 : PySem.W.codeIn K cd11 "kept_asked" = true) (k11 : PySem.W.keepIn K (.ref f11) = true)
(a12 : PySem.W.nsIn K mainGlobals "makes_asked" = some (some (.ref f12)))
(l12 : K.lookup f12 = some ⟨oc12, od12, .func (PySem.W.fnOf "makes_asked" "makes_asked" (defArgs s_makes_asked) (defBody s_makes_asked) (defScope s_makes_asked) .none kV12 dc12 pm12 an12 cd12 ct12), sl12⟩)
(c12 : PySem.W.codeIn K cd12 "makes_asked" = true) (k12 : PySem.W.keepIn K (.ref f12) = true)
(a13 : PySem.W.nsIn K mainGlobals "recalls_asked" = some (some (.ref f13)))
(l13 : K.lookup f13 = some ⟨oc13, od13, .func (PySem.W.fnOf "recalls_asked" "recalls_asked" (defArgs s_recalls_asked) (defBody s_recalls_asked) (defScope s_recalls_asked) .none kV13 dc13 pm13 an13 cd13 ct13), sl13⟩)
(c13 : PySem.W.codeIn K cd13 "recalls_asked" = true) (k13 : PySem.W.keepIn K (.ref f13) = true)
(a14 : PySem.W.nsIn K mainGlobals "check_budget_bounds" = some (some (.ref f14)))
(l14 : K.lookup f14 = some ⟨oc14, od14, .func (PySem.W.fnOf "check_budget_bounds" "check_budget_bounds" (defArgs s_check_budget_bounds) (defBody s_check_budget_bounds) (defScope s_check_budget_bounds) .none kV14 dc14 pm14 an14 cd14 ct14), sl14⟩)
(c14 : PySem.W.codeIn K cd14 "check_budget_bounds" = true) (k14 : PySem.W.keepIn K (.ref f14) = true)
(a15 : PySem.W.nsIn K mainGlobals "least_false" = some (some (.ref f15)))
(l15 : K.lookup f15 = some ⟨oc15, od15, .func (PySem.W.fnOf "least_false" "least_false" (defArgs s_least_false) (defBody s_least_false) (defScope s_least_false) .none kV15 dc15 pm15 an15 cd15 ct15), sl15⟩)
(c15 : PySem.W.codeIn K cd15 "least_false" = true) (k15 : PySem.W.keepIn K (.ref f15) = true)
(a16 : PySem.W.nsIn K mainGlobals "least_failing" = some (some (.ref f16)))
(l16 : K.lookup f16 = some ⟨oc16, od16, .func (PySem.W.fnOf "least_failing" "least_failing" (defArgs s_least_failing) (defBody s_least_failing) (defScope s_least_failing) .none kV16 dc16 pm16 an16 cd16 ct16), sl16⟩)
(c16 : PySem.W.codeIn K cd16 "least_failing" = true) (k16 : PySem.W.keepIn K (.ref f16) = true)
(a17 : PySem.W.nsIn K mainGlobals "fails_at" = some (some (.ref f17)))
(l17 : K.lookup f17 = some ⟨oc17, od17, .func (PySem.W.fnOf "fails_at" "fails_at" (defArgs s_fails_at) (defBody s_fails_at) (defScope s_fails_at) .none kV17 dc17 pm17 an17 cd17 ct17), sl17⟩)
(c17 : PySem.W.codeIn K cd17 "fails_at" = true) (k17 : PySem.W.keepIn K (.ref f17) = true)
(a18 : PySem.W.nsIn K mainGlobals "best_sums" = some (some (.ref f18)))
(l18 : K.lookup f18 = some ⟨oc18, od18, .func (PySem.W.fnOf "best_sums" "best_sums" (defArgs s_best_sums) (defBody s_best_sums) (defScope s_best_sums) .none kV18 dc18 pm18 an18 cd18 ct18), sl18⟩)
(c18 : PySem.W.codeIn K cd18 "best_sums" = true) (k18 : PySem.W.keepIn K (.ref f18) = true)
(a19 : PySem.W.nsIn K mainGlobals "best_parts" = some (some (.ref f19)))
(l19 : K.lookup f19 = some ⟨oc19, od19, .func (PySem.W.fnOf "best_parts" "best_parts" (defArgs s_best_parts) (defBody s_best_parts) (defScope s_best_parts) .none kV19 dc19 pm19 an19 cd19 ct19), sl19⟩)
(c19 : PySem.W.codeIn K cd19 "best_parts" = true) (k19 : PySem.W.keepIn K (.ref f19) = true)
(a20 : PySem.W.nsIn K mainGlobals "word_lots" = some (some (.ref f20)))
(l20 : K.lookup f20 = some ⟨oc20, od20, .func (PySem.W.fnOf "word_lots" "word_lots" (defArgs s_word_lots) (defBody s_word_lots) (defScope s_word_lots) .none kV20 dc20 pm20 an20 cd20 ct20), sl20⟩)
(c20 : PySem.W.codeIn K cd20 "word_lots" = true) (k20 : PySem.W.keepIn K (.ref f20) = true)
(a21 : PySem.W.nsIn K mainGlobals "asks_due" = some (some (.ref f21)))
(l21 : K.lookup f21 = some ⟨oc21, od21, .func (PySem.W.fnOf "asks_due" "asks_due" (defArgs s_asks_due) (defBody s_asks_due) (defScope s_asks_due) .none kV21 dc21 pm21 an21 cd21 ct21), sl21⟩)
(c21 : PySem.W.codeIn K cd21 "asks_due" = true) (k21 : PySem.W.keepIn K (.ref f21) = true)
(a22 : PySem.W.nsIn K mainGlobals "_law_purse" = some (some (.ref f22)))
(l22 : K.lookup f22 = some ⟨oc22, od22, .func (PySem.W.fnOf "_law_purse" "_law_purse" (defArgs s__law_purse) (defBody s__law_purse) (defScope s__law_purse) .none kV22 dc22 pm22 an22 cd22 ct22), sl22⟩)
(c22 : PySem.W.codeIn K cd22 "_law_purse" = true) (k22 : PySem.W.keepIn K (.ref f22) = true)
(a23 : PySem.W.nsIn K mainGlobals "_law_draw" = some (some (.ref f23)))
(l23 : K.lookup f23 = some ⟨oc23, od23, .func (PySem.W.fnOf "_law_draw" "_law_draw" (defArgs s__law_draw) (defBody s__law_draw) (defScope s__law_draw) .none kV23 dc23 pm23 an23 cd23 ct23), sl23⟩)
(c23 : PySem.W.codeIn K cd23 "_law_draw" = true) (k23 : PySem.W.keepIn K (.ref f23) = true)
(a24 : PySem.W.nsIn K mainGlobals "_law_triangle" = some (some (.ref f24)))
(l24 : K.lookup f24 = some ⟨oc24, od24, .func (PySem.W.fnOf "_law_triangle" "_law_triangle" (defArgs s__law_triangle) (defBody s__law_triangle) (defScope s__law_triangle) .none kV24 dc24 pm24 an24 cd24 ct24), sl24⟩)
(c24 : PySem.W.codeIn K cd24 "_law_triangle" = true) (k24 : PySem.W.keepIn K (.ref f24) = true)
(a25 : PySem.W.nsIn K mainGlobals "_law_price" = some (some (.ref f25)))
(l25 : K.lookup f25 = some ⟨oc25, od25, .func (PySem.W.fnOf "_law_price" "_law_price" (defArgs s__law_price) (defBody s__law_price) (defScope s__law_price) .none kV25 dc25 pm25 an25 cd25 ct25), sl25⟩)
(c25 : PySem.W.codeIn K cd25 "_law_price" = true) (k25 : PySem.W.keepIn K (.ref f25) = true)
(a26 : PySem.W.nsIn K mainGlobals "_law_is_whole" = some (some (.ref f26)))
(l26 : K.lookup f26 = some ⟨oc26, od26, .func (PySem.W.fnOf "_law_is_whole" "_law_is_whole" (defArgs s__law_is_whole) (defBody s__law_is_whole) (defScope s__law_is_whole) .none kV26 dc26 pm26 an26 cd26 ct26), sl26⟩)
(c26 : PySem.W.codeIn K cd26 "_law_is_whole" = true) (k26 : PySem.W.keepIn K (.ref f26) = true)
(a27 : PySem.W.nsIn K mainGlobals "_law_own_bad" = some (some (.ref f27)))
(l27 : K.lookup f27 = some ⟨oc27, od27, .func (PySem.W.fnOf "_law_own_bad" "_law_own_bad" (defArgs s__law_own_bad) (defBody s__law_own_bad) (defScope s__law_own_bad) .none kV27 dc27 pm27 an27 cd27 ct27), sl27⟩)
(c27 : PySem.W.codeIn K cd27 "_law_own_bad" = true) (k27 : PySem.W.keepIn K (.ref f27) = true)
(a28 : PySem.W.nsIn K mainGlobals "_law_own_table" = some (some (.ref f28)))
(l28 : K.lookup f28 = some ⟨oc28, od28, .func (PySem.W.fnOf "_law_own_table" "_law_own_table" (defArgs s__law_own_table) (defBody s__law_own_table) (defScope s__law_own_table) .none kV28 dc28 pm28 an28 cd28 ct28), sl28⟩)
(c28 : PySem.W.codeIn K cd28 "_law_own_table" = true) (k28 : PySem.W.keepIn K (.ref f28) = true)
(a29 : PySem.W.nsIn K mainGlobals "_law_own_edge" = some (some (.ref f29)))
(l29 : K.lookup f29 = some ⟨oc29, od29, .func (PySem.W.fnOf "_law_own_edge" "_law_own_edge" (defArgs s__law_own_edge) (defBody s__law_own_edge) (defScope s__law_own_edge) .none kV29 dc29 pm29 an29 cd29 ct29), sl29⟩)
(c29 : PySem.W.codeIn K cd29 "_law_own_edge" = true) (k29 : PySem.W.keepIn K (.ref f29) = true)
(a30 : PySem.W.nsIn K mainGlobals "_law_most_kept" = some (some (.ref f30)))
(l30 : K.lookup f30 = some ⟨oc30, od30, .func (PySem.W.fnOf "_law_most_kept" "_law_most_kept" (defArgs s__law_most_kept) (defBody s__law_most_kept) (defScope s__law_most_kept) .none kV30 dc30 pm30 an30 cd30 ct30), sl30⟩)
(c30 : PySem.W.codeIn K cd30 "_law_most_kept" = true) (k30 : PySem.W.keepIn K (.ref f30) = true)
(a31 : PySem.W.nsIn K mainGlobals "_law_rising" = some (some (.ref f31)))
(l31 : K.lookup f31 = some ⟨oc31, od31, .func (PySem.W.fnOf "_law_rising" "_law_rising" (defArgs s__law_rising) (defBody s__law_rising) (defScope s__law_rising) .none kV31 dc31 pm31 an31 cd31 ct31), sl31⟩)
(c31 : PySem.W.codeIn K cd31 "_law_rising" = true) (k31 : PySem.W.keepIn K (.ref f31) = true)
(a32 : PySem.W.nsIn K mainGlobals "_law_all_asked" = some (some (.ref f32)))
(l32 : K.lookup f32 = some ⟨oc32, od32, .func (PySem.W.fnOf "_law_all_asked" "_law_all_asked" (defArgs s__law_all_asked) (defBody s__law_all_asked) (defScope s__law_all_asked) .none kV32 dc32 pm32 an32 cd32 ct32), sl32⟩)
(c32 : PySem.W.codeIn K cd32 "_law_all_asked" = true) (k32 : PySem.W.keepIn K (.ref f32) = true)
(a33 : PySem.W.nsIn K mainGlobals "_law_asks_with_words" = some (some (.ref f33)))
(l33 : K.lookup f33 = some ⟨oc33, od33, .func (PySem.W.fnOf "_law_asks_with_words" "_law_asks_with_words" (defArgs s__law_asks_with_words) (defBody s__law_asks_with_words) (defScope s__law_asks_with_words) .none kV33 dc33 pm33 an33 cd33 ct33), sl33⟩)
(c33 : PySem.W.codeIn K cd33 "_law_asks_with_words" = true) (k33 : PySem.W.keepIn K (.ref f33) = true)
(a34 : PySem.W.nsIn K mainGlobals "law" = some (some (.ref f34)))
(l34 : K.lookup f34 = some ⟨oc34, od34, .func (PySem.W.fnOf "law" "law" (defArgs s_law) (defBody s_law) (defScope s_law) .none kV34 dc34 pm34 an34 cd34 ct34), sl34⟩)
(c34 : PySem.W.codeIn K cd34 "law" = true) (k34 : PySem.W.keepIn K (.ref f34) = true)
(z0 : PySem.W.nsIn K mainGlobals "abs" = some none)
(z1 : PySem.W.nsIn K mainGlobals "bool" = some none)
(z2 : PySem.W.nsIn K mainGlobals "int" = some none)
(z3 : PySem.W.nsIn K mainGlobals "isinstance" = some none)
(z4 : PySem.W.nsIn K mainGlobals "len" = some none)
(z5 : PySem.W.nsIn K mainGlobals "list" = some none)
(z6 : PySem.W.nsIn K mainGlobals "max" = some none)
(z7 : PySem.W.nsIn K mainGlobals "min" = some none)
(z8 : PySem.W.nsIn K mainGlobals "range" = some none)
(z9 : PySem.W.nsIn K mainGlobals "sum" = some none)
(q0 : mg "MOST_BUDGET_prices" = some (.int 30 t0))
(q1 : mg "MOST_NUMBER_prices" = some (.int 1000000000000000000000000000000 t1))
(q2 : mg "MOST_BUDGET_asktables" = some (.int 6 t2))
(q3 : mg "MOST_ASKS_asktables" = some (.int 60 t3))
(q4 : mg "MOST_NUMBER_asktables" = some (.int 1000000000000000000000000000000 t4))
(q5 : mg "MOST_HELPERS" = some (.int 40 t5))
(q6 : mg "MOST_BUDGET_askwords" = some (.int 6 t6))
(q7 : mg "MOST_WORDS" = some (.int 8 t7))
(q8 : mg "MOST_ASKS_askwords" = some (.int 60 t8))
{fa : Addr} (hfa : mg "law" = some (.ref fa)) : ∃ T : Env K mg, T.f_law = fa ∧ (∀ (s : Shared) (v : Value), BindsTo s T.d_law ⟨[v], []⟩ [("script", v)]) := by
  have e := hfa.symm.trans (PySem.W.mg_of X G a34)
  cases e
  exact ⟨{ f_binomial := f0, d_binomial := _, F_binomial := fun_mk (st := s_binomial) l0 c0 k0, m_binomial := PySem.W.mg_of X G a0, f_price_number := f1, d_price_number := _, F_price_number := fun_mk (st := s_price_number) l1 c1 k1, m_price_number := PySem.W.mg_of X G a1, f_check_budgets := f2, d_check_budgets := _, F_check_budgets := fun_mk (st := s_check_budgets) l2 c2 k2, m_check_budgets := PySem.W.mg_of X G a2, f_check_numbers := f3, d_check_numbers := _, F_check_numbers := fun_mk (st := s_check_numbers) l3 c3 k3, m_check_numbers := PySem.W.mg_of X G a3, f_check_least := f4, d_check_least := _, F_check_least := fun_mk (st := s_check_least) l4 c4 k4, m_check_least := PySem.W.mg_of X G a4, f_most_false := f5, d_most_false := _, F_most_false := fun_mk (st := s_most_false) l5 c5 k5, m_most_false := PySem.W.mg_of X G a5, f_is_whole := f6, d_is_whole := _, F_is_whole := fun_mk (st := s_is_whole) l6 c6 k6, m_is_whole := PySem.W.mg_of X G a6, f_check_at_most := f7, d_check_at_most := _, F_check_at_most := fun_mk (st := s_check_at_most) l7 c7 k7, m_check_at_most := PySem.W.mg_of X G a7, f_failing_parting := f8, d_failing_parting := _, F_failing_parting := fun_mk (st := s_failing_parting) l8 c8 k8, m_failing_parting := PySem.W.mg_of X G a8, f_is_kept := f9, d_is_kept := _, F_is_kept := fun_mk (st := s_is_kept) l9 c9 k9, m_is_kept := PySem.W.mg_of X G a9, f_check_asked := f10, d_check_asked := _, F_check_asked := fun_mk (st := s_check_asked) l10 c10 k10, m_check_asked := PySem.W.mg_of X G a10, f_kept_asked := f11, d_kept_asked := _, F_kept_asked := fun_mk (st := s_kept_asked) l11 c11 k11, m_kept_asked := PySem.W.mg_of X G a11, f_makes_asked := f12, d_makes_asked := _, F_makes_asked := fun_mk (st := s_makes_asked) l12 c12 k12, m_makes_asked := PySem.W.mg_of X G a12, f_recalls_asked := f13, d_recalls_asked := _, F_recalls_asked := fun_mk (st := s_recalls_asked) l13 c13 k13, m_recalls_asked := PySem.W.mg_of X G a13, f_check_budget_bounds := f14, d_check_budget_bounds := _, F_check_budget_bounds := fun_mk (st := s_check_budget_bounds) l14 c14 k14, m_check_budget_bounds := PySem.W.mg_of X G a14, f_least_false := f15, d_least_false := _, F_least_false := fun_mk (st := s_least_false) l15 c15 k15, m_least_false := PySem.W.mg_of X G a15, f_least_failing := f16, d_least_failing := _, F_least_failing := fun_mk (st := s_least_failing) l16 c16 k16, m_least_failing := PySem.W.mg_of X G a16, f_fails_at := f17, d_fails_at := _, F_fails_at := fun_mk (st := s_fails_at) l17 c17 k17, m_fails_at := PySem.W.mg_of X G a17, f_best_sums := f18, d_best_sums := _, F_best_sums := fun_mk (st := s_best_sums) l18 c18 k18, m_best_sums := PySem.W.mg_of X G a18, f_best_parts := f19, d_best_parts := _, F_best_parts := fun_mk (st := s_best_parts) l19 c19 k19, m_best_parts := PySem.W.mg_of X G a19, f_word_lots := f20, d_word_lots := _, F_word_lots := fun_mk (st := s_word_lots) l20 c20 k20, m_word_lots := PySem.W.mg_of X G a20, f_asks_due := f21, d_asks_due := _, F_asks_due := fun_mk (st := s_asks_due) l21 c21 k21, m_asks_due := PySem.W.mg_of X G a21, f__law_purse := f22, d__law_purse := _, F__law_purse := fun_mk (st := s__law_purse) l22 c22 k22, m__law_purse := PySem.W.mg_of X G a22, f__law_draw := f23, d__law_draw := _, F__law_draw := fun_mk (st := s__law_draw) l23 c23 k23, m__law_draw := PySem.W.mg_of X G a23, f__law_triangle := f24, d__law_triangle := _, F__law_triangle := fun_mk (st := s__law_triangle) l24 c24 k24, m__law_triangle := PySem.W.mg_of X G a24, f__law_price := f25, d__law_price := _, F__law_price := fun_mk (st := s__law_price) l25 c25 k25, m__law_price := PySem.W.mg_of X G a25, f__law_is_whole := f26, d__law_is_whole := _, F__law_is_whole := fun_mk (st := s__law_is_whole) l26 c26 k26, m__law_is_whole := PySem.W.mg_of X G a26, f__law_own_bad := f27, d__law_own_bad := _, F__law_own_bad := fun_mk (st := s__law_own_bad) l27 c27 k27, m__law_own_bad := PySem.W.mg_of X G a27, f__law_own_table := f28, d__law_own_table := _, F__law_own_table := fun_mk (st := s__law_own_table) l28 c28 k28, m__law_own_table := PySem.W.mg_of X G a28, f__law_own_edge := f29, d__law_own_edge := _, F__law_own_edge := fun_mk (st := s__law_own_edge) l29 c29 k29, m__law_own_edge := PySem.W.mg_of X G a29, f__law_most_kept := f30, d__law_most_kept := _, F__law_most_kept := fun_mk (st := s__law_most_kept) l30 c30 k30, m__law_most_kept := PySem.W.mg_of X G a30, f__law_rising := f31, d__law_rising := _, F__law_rising := fun_mk (st := s__law_rising) l31 c31 k31, m__law_rising := PySem.W.mg_of X G a31, f__law_all_asked := f32, d__law_all_asked := _, F__law_all_asked := fun_mk (st := s__law_all_asked) l32 c32 k32, m__law_all_asked := PySem.W.mg_of X G a32, f__law_asks_with_words := f33, d__law_asks_with_words := _, F__law_asks_with_words := fun_mk (st := s__law_asks_with_words) l33 c33 k33, m__law_asks_with_words := PySem.W.mg_of X G a33, f_law := f34, d_law := _, F_law := fun_mk (st := s_law) l34 c34 k34, m_law := PySem.W.mg_of X G a34, z_abs := PySem.W.mg_none_of X G z0, z_bool := PySem.W.mg_none_of X G z1, z_int := PySem.W.mg_none_of X G z2, z_isinstance := PySem.W.mg_none_of X G z3, z_len := PySem.W.mg_none_of X G z4, z_list := PySem.W.mg_none_of X G z5, z_max := PySem.W.mg_none_of X G z6, z_min := PySem.W.mg_none_of X G z7, z_range := PySem.W.mg_none_of X G z8, z_sum := PySem.W.mg_none_of X G z9, t_MOST_BUDGET_prices := t0, c_MOST_BUDGET_prices := q0, t_MOST_NUMBER_prices := t1, c_MOST_NUMBER_prices := q1, t_MOST_BUDGET_asktables := t2, c_MOST_BUDGET_asktables := q2, t_MOST_ASKS_asktables := t3, c_MOST_ASKS_asktables := q3, t_MOST_NUMBER_asktables := t4, c_MOST_NUMBER_asktables := q4, t_MOST_HELPERS := t5, c_MOST_HELPERS := q5, t_MOST_BUDGET_askwords := t6, c_MOST_BUDGET_askwords := q6, t_MOST_WORDS := t7, c_MOST_WORDS := q7, t_MOST_ASKS_askwords := t8, c_MOST_ASKS_askwords := q8 }, rfl, fun s v => .of_eq rfl⟩
end P84

namespace P84
open PySem L2
theorem walk {l : PySem.W.OpenLaw} {q : Program} {loose : List Str} {XP : (Str → Option Value) → Heap → Prop} {YP : World → Heap → Prop} {d : DefRec} {K : Params → PySem.W.Frag} {k : Nat} (hk : Room k callerA) (hn : l.most = some 63) (hdf : d.params.defaults = [])
    (hY : ∀ (w : World) (h : Heap), YP w h → (K w.params).In h)
    (F : ∀ (w : World) (mg : Str → Option Value) (fa : Addr) (h : Heap), (K w.params).In h → h.Ns mainGlobals mg → mg d.name = some (.ref fa) →
      ∃ fd : FuncData, (∀ (s : Shared) (u : Value), BindsTo s fd ⟨[u], []⟩ [("script", u)]) ∧ ∀ base : Heap, (K w.params).In base → base.Ns mainGlobals mg → FnOk l.prog w (K w.params) mg base CX0 k fa fd ["script"] (spLaw (K w.params))) :
    PySem.W.WalkO q loose XP YP l.row.toRowW d [] (fun f vs => PySem.call f vs) :=
  L2.walk_of (n := 63) (k := k) (x := "script") (CX := fun _ => CX0) (sp := fun w => spLaw (K w.params)) hn (by decide) hdf hk hY F (fun _ _ a ns hl _ hS => ⟨a, ns, rfl, hS, hl, fun _ => rfl⟩) fun _ _ _ _ _ z => z
theorem fin {K : PySem.W.Frag} {mg : Str → Option Value} {fa : Addr} {Goal : Prop} (E : ∃ T : Env K mg, T.f_law = fa ∧ (∀ (s : Shared) (v : Value), BindsTo s T.d_law ⟨[v], []⟩ [("script", v)]))
    (k : ∀ T : Env K mg, T.f_law = fa → (∀ (s : Shared) (v : Value), BindsTo s T.d_law ⟨[v], []⟩ [("script", v)]) → Goal) : Goal := by
  obtain ⟨T, e, hb⟩ := E
  exact k T e hb
end P84
open PySem PySem.W PyProof.Rows
set_option maxRecDepth 100000 in
set_option maxHeartbeats 0 in
theorem PySem.Challenge.cw_fewhonest_k84_whole_more_asks_and_words_holds : PySem.Challenge.rw_fewhonest_k84_whole_more_asks_and_words.Holds := by
  w_on; o_law; k_head; (case hw => w_witness2)
  k_fill
  refine P84.walk (k := 10) (l := PySem.Challenge.rw_fewhonest_k84_whole_more_asks_and_words) ⟨rfl, by decide, by decide⟩ rfl rfl (fun w h Y => PySem.W.kIn_of Y) ?F
  case F =>
    intro w mg fa h KX G hmg
    refine' P84.fin (P84.env_mk (w := w) KX G ?a0 ?l0 ?c0 ?k0 ?a1 ?l1 ?c1 ?k1 ?a2 ?l2 ?c2 ?k2 ?a3 ?l3 ?c3 ?k3 ?a4 ?l4 ?c4 ?k4 ?a5 ?l5 ?c5 ?k5 ?a6 ?l6 ?c6 ?k6 ?a7 ?l7 ?c7 ?k7 ?a8 ?l8 ?c8 ?k8 ?a9 ?l9 ?c9 ?k9 ?a10 ?l10 ?c10 ?k10 ?a11 ?l11 ?c11 ?k11 ?a12 ?l12 ?c12 ?k12 ?a13 ?l13 ?c13 ?k13 ?a14 ?l14 ?c14 ?k14 ?a15 ?l15 ?c15 ?k15 ?a16 ?l16 ?c16 ?k16 ?a17 ?l17 ?c17 ?k17 ?a18 ?l18 ?c18 ?k18 ?a19 ?l19 ?c19 ?k19 ?a20 ?l20 ?c20 ?k20 ?a21 ?l21 ?c21 ?k21 ?a22 ?l22 ?c22 ?k22 ?a23 ?l23 ?c23 ?k23 ?a24 ?l24 ?c24 ?k24 ?a25 ?l25 ?c25 ?k25 ?a26 ?l26 ?c26 ?k26 ?a27 ?l27 ?c27 ?k27 ?a28 ?l28 ?c28 ?k28 ?a29 ?l29 ?c29 ?k29 ?a30 ?l30 ?c30 ?k30 ?a31 ?l31 ?c31 ?k31 ?a32 ?l32 ?c32 ?k32 ?a33 ?l33 ?c33 ?k33 ?a34 ?l34 ?c34 ?k34 ?z0 ?z1 ?z2 ?z3 ?z4 ?z5 ?z6 ?z7 ?z8 ?z9 ?q0 ?q1 ?q2 ?q3 ?q4 ?q5 ?q6 ?q7 ?q8 hmg) ?fin
    (case a0 => k_is)
    (case l0 => k_is)
    (case c0 => k_is)
    (case k0 => k_is)
    (case a1 => k_is)
    (case l1 => k_is)
    (case c1 => k_is)
    (case k1 => k_is)
    (case a2 => k_is)
    (case l2 => k_is)
    (case c2 => k_is)
    (case k2 => k_is)
    (case a3 => k_is)
    (case l3 => k_is)
    (case c3 => k_is)
    (case k3 => k_is)
    (case a4 => k_is)
    (case l4 => k_is)
    (case c4 => k_is)
    (case k4 => k_is)
    (case a5 => k_is)
    (case l5 => k_is)
    (case c5 => k_is)
    (case k5 => k_is)
    (case a6 => k_is)
    (case l6 => k_is)
    (case c6 => k_is)
    (case k6 => k_is)
    (case a7 => k_is)
    (case l7 => k_is)
    (case c7 => k_is)
    (case k7 => k_is)
    (case a8 => k_is)
    (case l8 => k_is)
    (case c8 => k_is)
    (case k8 => k_is)
    (case a9 => k_is)
    (case l9 => k_is)
    (case c9 => k_is)
    (case k9 => k_is)
    (case a10 => k_is)
    (case l10 => k_is)
    (case c10 => k_is)
    (case k10 => k_is)
    (case a11 => k_is)
    (case l11 => k_is)
    (case c11 => k_is)
    (case k11 => k_is)
    (case a12 => k_is)
    (case l12 => k_is)
    (case c12 => k_is)
    (case k12 => k_is)
    (case a13 => k_is)
    (case l13 => k_is)
    (case c13 => k_is)
    (case k13 => k_is)
    (case a14 => k_is)
    (case l14 => k_is)
    (case c14 => k_is)
    (case k14 => k_is)
    (case a15 => k_is)
    (case l15 => k_is)
    (case c15 => k_is)
    (case k15 => k_is)
    (case a16 => k_is)
    (case l16 => k_is)
    (case c16 => k_is)
    (case k16 => k_is)
    (case a17 => k_is)
    (case l17 => k_is)
    (case c17 => k_is)
    (case k17 => k_is)
    (case a18 => k_is)
    (case l18 => k_is)
    (case c18 => k_is)
    (case k18 => k_is)
    (case a19 => k_is)
    (case l19 => k_is)
    (case c19 => k_is)
    (case k19 => k_is)
    (case a20 => k_is)
    (case l20 => k_is)
    (case c20 => k_is)
    (case k20 => k_is)
    (case a21 => k_is)
    (case l21 => k_is)
    (case c21 => k_is)
    (case k21 => k_is)
    (case a22 => k_is)
    (case l22 => k_is)
    (case c22 => k_is)
    (case k22 => k_is)
    (case a23 => k_is)
    (case l23 => k_is)
    (case c23 => k_is)
    (case k23 => k_is)
    (case a24 => k_is)
    (case l24 => k_is)
    (case c24 => k_is)
    (case k24 => k_is)
    (case a25 => k_is)
    (case l25 => k_is)
    (case c25 => k_is)
    (case k25 => k_is)
    (case a26 => k_is)
    (case l26 => k_is)
    (case c26 => k_is)
    (case k26 => k_is)
    (case a27 => k_is)
    (case l27 => k_is)
    (case c27 => k_is)
    (case k27 => k_is)
    (case a28 => k_is)
    (case l28 => k_is)
    (case c28 => k_is)
    (case k28 => k_is)
    (case a29 => k_is)
    (case l29 => k_is)
    (case c29 => k_is)
    (case k29 => k_is)
    (case a30 => k_is)
    (case l30 => k_is)
    (case c30 => k_is)
    (case k30 => k_is)
    (case a31 => k_is)
    (case l31 => k_is)
    (case c31 => k_is)
    (case k31 => k_is)
    (case a32 => k_is)
    (case l32 => k_is)
    (case c32 => k_is)
    (case k32 => k_is)
    (case a33 => k_is)
    (case l33 => k_is)
    (case c33 => k_is)
    (case k33 => k_is)
    (case a34 => k_is)
    (case l34 => k_is)
    (case c34 => k_is)
    (case k34 => k_is)
    (case z0 => k_is)
    (case z1 => k_is)
    (case z2 => k_is)
    (case z3 => k_is)
    (case z4 => k_is)
    (case z5 => k_is)
    (case z6 => k_is)
    (case z7 => k_is)
    (case z8 => k_is)
    (case z9 => k_is)
    (case q0 => exact PySem.W.mg_of KX G (by k_is))
    (case q1 => exact PySem.W.mg_of KX G (by k_is))
    (case q2 => exact PySem.W.mg_of KX G (by k_is))
    (case q3 => exact PySem.W.mg_of KX G (by k_is))
    (case q4 => exact PySem.W.mg_of KX G (by k_is))
    (case q5 => exact PySem.W.mg_of KX G (by k_is))
    (case q6 => exact PySem.W.mg_of KX G (by k_is))
    (case q7 => exact PySem.W.mg_of KX G (by k_is))
    (case q8 => exact PySem.W.mg_of KX G (by k_is))
    case fin =>
      intro T e hb
      subst e
      exact ⟨T.d_law, hb, fun base _ _ => P84.G_law T⟩
#print axioms PySem.Challenge.cw_fewhonest_k84_whole_more_asks_and_words_holds
