import PyProof.Rows.All
import Wide.All
import OpenK.AllK
import Wide.FinOn
import HandS.ForMost
import HandS.Zip
import HandS.Walk
import KE.GoesMore
import KE.GoesEnum
import KE.GoesZip
import HandS.TupMul
import HandS.TupAny
import HandS.IsInst
import HandS.Evl
import HandS.TupSets
import KE.KDictCopyH
import KE.KDictKeyed
import KE.KDictSum
import KE.KStateDown
import HandS.Words
import HandS.WordsExc
import HandS.Defaults
import HandS.Head0
import HandS.Head1
import HandS.Head2
import HandS.HeadEnd
import HandS.HeadHook1
import PyProof.Rows.SumAny
import HandS.Deep
import HandS.Style
import KE.SortData
import KE.DataCmp
import HandS.HeadHook2
import HandS.TupLen
import HandS.More
import HandS.TryOnly
import HandS.SetFor
import PySem.Challenge.RW_drywalks_k01_what_are_days_and_plans
set_option Elab.async false
set_option linter.all false
set_option maxRecDepth 100000
set_option maxHeartbeats 4000001
/-! The mirror of the program in plain Lean, and its mathematics: flows over moments of places, lines as cuts. -/
namespace Dry

structure Wk where
  h : Nat
  b : Nat
  e : Nat
  wet : Bool
  r : Nat
deriving DecidableEq

def Wk.wi (w : Wk) : Int := if w.wet then 1 else 0

structure Day where
  P : Nat
  T : Nat
  ws : List Wk

structure Day.Ok (d : Day) : Prop where
  h : ∀ w ∈ d.ws, w.h < d.T
  b : ∀ w ∈ d.ws, w.b < d.P
  e : ∀ w ∈ d.ws, w.e < d.P
  r : ∀ w ∈ d.ws, 1 ≤ w.r

/-! ### lists changed by place -/
def addAt (xs : List Int) (i : Nat) (x : Int) : List Int := xs.set i (xs.getD i 0 + x)

theorem addAt_length (xs : List Int) (i : Nat) (x : Int) : (addAt xs i x).length = xs.length := by
  simp [addAt]
theorem addAt_getD (xs : List Int) (i : Nat) (x : Int) (j : Nat) (h : i < xs.length) :
    (addAt xs i x).getD j 0 = xs.getD j 0 + (if i = j then x else 0) := by
  unfold addAt
  simp only [List.getD_eq_getElem?_getD, List.getElem?_set]
  by_cases e : i = j
  · subst e; simp [h]
  · simp [e]

/-! ### sums -/
/-- the sum of what walks of a kind carry -/
def sw (q : Wk → Bool) : List Wk → List Int → Int
  | w :: ws, c :: cs => (if q w then c else 0) + sw q ws cs
  | _, _ => 0
def sumWs (f : Wk → Int) : List Wk → Int
  | [] => 0
  | w :: ws => f w + sumWs f ws
def sumWc (f : Wk → Int → Int) : List Wk → List Int → Int
  | w :: ws, c :: cs => f w c + sumWc f ws cs
  | _, _ => 0
def sumP (f : Nat → Int) : Nat → Int
  | 0 => 0
  | n + 1 => sumP f n + f n

theorem sumP_congr {f g : Nat → Int} : ∀ n, (∀ p, p < n → f p = g p) → sumP f n = sumP g n
  | 0, _ => rfl
  | n + 1, h => by
    unfold sumP
    rw [sumP_congr n (fun p hp => h p (by omega)), h n (by omega)]
theorem sumP_le {f g : Nat → Int} : ∀ n, (∀ p, p < n → f p ≤ g p) → sumP f n ≤ sumP g n
  | 0, _ => Int.le_refl _
  | n + 1, h => by
    unfold sumP
    have h1 := sumP_le n (fun p hp => h p (by omega))
    have h2 := h n (by omega)
    omega
theorem sumP_add (f g : Nat → Int) : ∀ n, sumP (fun p => f p + g p) n = sumP f n + sumP g n
  | 0 => rfl
  | n + 1 => by
    unfold sumP
    rw [sumP_add f g n]; omega
theorem sumP_sub (f g : Nat → Int) : ∀ n, sumP (fun p => f p - g p) n = sumP f n - sumP g n
  | 0 => rfl
  | n + 1 => by
    unfold sumP
    rw [sumP_sub f g n]; omega
theorem sumP_zero : ∀ n, sumP (fun _ => 0) n = 0
  | 0 => rfl
  | n + 1 => by
    unfold sumP
    rw [sumP_zero n]; rfl
theorem sumP_nonneg {f : Nat → Int} (n : Nat) (h : ∀ p, p < n → 0 ≤ f p) : 0 ≤ sumP f n := by
  have := sumP_le (f := fun _ => 0) (g := f) n h
  rwa [sumP_zero] at this
theorem sumP_single (x : Int) (j : Nat) : ∀ n, sumP (fun p => if j = p then x else 0) n = if j < n then x else 0
  | 0 => by simp [sumP]
  | n + 1 => by
    unfold sumP
    rw [sumP_single x j n]
    by_cases h : j < n
    · rw [if_pos h, if_neg (by omega), if_pos (by omega)]; omega
    · by_cases e : j = n
      · subst e; simp
      · rw [if_neg h, if_neg e, if_neg (by omega)]; rfl
/-- the sum of a list is the sum over its places -/
theorem sum_getD : ∀ (xs : List Int), xs.sum = sumP (fun p => xs.getD p 0) xs.length := by
  intro xs
  suffices h : ∀ n, n ≤ xs.length → (xs.take n).sum = sumP (fun p => xs.getD p 0) n by
    have := h xs.length (Nat.le_refl _)
    rwa [List.take_length] at this
  intro n
  induction n with
  | zero => intro _; simp [sumP]
  | succ n ih =>
    intro hn
    have hl : n < xs.length := by omega
    rw [List.take_succ_eq_append_getElem hl, List.sum_append, ih (by omega)]
    show _ = sumP (fun p => xs.getD p 0) n + xs.getD n 0
    have e : xs.getD n 0 = xs[n] := by simp [List.getD_eq_getElem?_getD, hl]
    rw [e]
    simp

theorem sw_congr {q q' : Wk → Bool} : ∀ (ws : List Wk) (cs : List Int), (∀ w ∈ ws, q w = q' w) → sw q ws cs = sw q' ws cs
  | [], _, _ => by simp [sw]
  | _ :: _, [], _ => by simp [sw]
  | w :: ws, c :: cs, h => by
    unfold sw
    rw [h w (by simp), sw_congr ws cs (fun v hv => h v (by simp [hv]))]
theorem sw_false {q : Wk → Bool} (ws : List Wk) (cs : List Int) (h : ∀ w ∈ ws, q w = false) : sw q ws cs = 0 := by
  induction ws generalizing cs with
  | nil => simp [sw]
  | cons w ws ih =>
    cases cs with
    | nil => simp [sw]
    | cons c cs =>
      unfold sw
      rw [h w (by simp), ih cs (fun v hv => h v (by simp [hv]))]
      rfl
/-- summed over places, each walk counts once -/
theorem sumP_sw (P : Nat) (k : Wk → Nat → Bool) (at_ : Wk → Nat) : ∀ (ws : List Wk) (cs : List Int), (∀ w ∈ ws, at_ w < P) →
    sumP (fun p => sw (fun w => k w p && decide (at_ w = p)) ws cs) P = sw (fun w => k w (at_ w)) ws cs
  | [], _, _ => by simp [sw, sumP_zero]
  | _ :: _, [], _ => by simp [sw, sumP_zero]
  | w :: ws, c :: cs, h => by
    have ih := sumP_sw P k at_ ws cs (fun v hv => h v (by simp [hv]))
    have e : sumP (fun p => sw (fun w => k w p && decide (at_ w = p)) (w :: ws) (c :: cs)) P
        = sumP (fun p => (if at_ w = p then (if k w (at_ w) then c else 0) else 0)) P + sumP (fun p => sw (fun w => k w p && decide (at_ w = p)) ws cs) P := by
      rw [← sumP_add]
      refine sumP_congr P fun p _ => ?_
      show (if (k w p && decide (at_ w = p)) = true then c else 0) + _ = _
      by_cases e : at_ w = p
      · subst e; simp
      · simp [e]
    rw [e, sumP_single, if_pos (h w (by simp)), ih]
    rfl
/-- one walk's carrying changed -/
theorem sw_addAt (q : Wk → Bool) (x : Int) : ∀ (ws : List Wk) (cs : List Int) (i : Nat) (w : Wk), ws[i]? = some w → i < cs.length →
    sw q ws (addAt cs i x) = sw q ws cs + (if q w then x else 0)
  | [], _, _, _, h, _ => by simp at h
  | _ :: _, [], _, _, _, h => by simp at h
  | v :: ws, c :: cs, 0, w, h, _ => by
    simp at h; subst h
    show sw q (v :: ws) ((c + x) :: cs) = _
    unfold sw
    by_cases e : q v = true <;> simp [e]; omega
  | v :: ws, c :: cs, i + 1, w, h, hl => by
    have ih := sw_addAt q x ws cs i w (by simpa using h) (by simpa using hl)
    have e : addAt (c :: cs) (i + 1) x = c :: addAt cs i x := by simp [addAt]
    rw [e]
    unfold sw
    rw [ih]; omega

/-! ### what stands, what waits -/
def inS (ws : List Wk) (cs : List Int) (t p : Nat) : Int := sw (fun w => decide (w.h < t) && decide (w.e = p)) ws cs
def outS (ws : List Wk) (cs : List Int) (t p : Nat) : Int := sw (fun w => decide (w.h < t) && decide (w.b = p)) ws cs
/-- what stands at a place at a moment -/
def stand (ws : List Wk) (S cs : List Int) (t p : Nat) : Int := S.getD p 0 + inS ws cs t p - outS ws cs t p
/-- what waits there to the next moment -/
def wait (ws : List Wk) (S cs : List Int) (t p : Nat) : Int := S.getD p 0 + inS ws cs t p - outS ws cs (t + 1) p

theorem wait_last {d : Day} (ok : d.Ok) (S cs : List Int) (p : Nat) : wait d.ws S cs d.T p = stand d.ws S cs d.T p := by
  unfold wait stand
  have : outS d.ws cs (d.T + 1) p = outS d.ws cs d.T p := sw_congr _ _ fun w hw => by
    have := ok.h w hw
    have h1 : decide (w.h < d.T + 1) = true := by simp; omega
    have h2 : decide (w.h < d.T) = true := by simp; omega
    rw [h1, h2]
  rw [this]

/-- what must be left -/
def low (T : Nat) (W : List Int) (t p : Nat) : Int := if t = T then W.getD p 0 else 0
/-- what can be had -/
def res (d : Day) (S W cs : List Int) (t p : Nat) : Int := wait d.ws S cs t p - low d.T W t p

structure Feas (d : Day) (S W cs : List Int) : Prop where
  len : cs.length = d.ws.length
  lo : ∀ i w, d.ws[i]? = some w → w.wi ≤ cs.getD i 0
  hi : ∀ i w, d.ws[i]? = some w → cs.getD i 0 ≤ (w.r : Int)
  st : ∀ t p, t ≤ d.T → p < d.P → 0 ≤ res d S W cs t p

/-! ### lines -/
def leaves (k : Nat → Nat) (w : Wk) : Bool := decide (w.h < k w.b)
def comes (k : Nat → Nat) (w : Wk) : Bool := decide (w.h + 1 < k w.e)
def showW (k : Nat → Nat) (w : Wk) : Int := if leaves k w && !comes k w then w.wi else if comes k w && !leaves k w then -(w.r : Int) else 0
def raw (d : Day) (W : List Int) (k : Nat → Nat) : Int := sumP (fun p => if k p = d.T + 1 then W.getD p 0 else 0) d.P + sumWs (showW k) d.ws
def inside (d : Day) (S : List Int) (k : Nat → Nat) : Int := sumP (fun p => if 0 < k p then S.getD p 0 else 0) d.P

theorem sw_diff (k : Nat → Nat) : ∀ (ws : List Wk) (cs : List Int), sw (leaves k) ws cs - sw (comes k) ws cs
    = sumWc (fun w c => if leaves k w && !comes k w then c else if comes k w && !leaves k w then -c else 0) ws cs
  | [], _ => by simp [sw, sumWc]
  | _ :: _, [] => by simp [sw, sumWc]
  | w :: ws, c :: cs => by
    have ih := sw_diff k ws cs
    unfold sw sumWc
    rw [← ih]
    cases leaves k w <;> cases comes k w <;> simp <;> omega

/-- what starts inside goes out, stays, or is there at the end -/
theorem balance {d : Day} (ok : d.Ok) (S cs : List Int) (k : Nat → Nat) :
    inside d S k = sumP (fun p => if 0 < k p then wait d.ws S cs (k p - 1) p else 0) d.P
      + sumWc (fun w c => if leaves k w && !comes k w then c else if comes k w && !leaves k w then -c else 0) d.ws cs := by
  have e1 : sumP (fun p => sw (fun w => decide (w.h + 1 < k p) && decide (w.e = p)) d.ws cs) d.P = sw (comes k) d.ws cs :=
    sumP_sw d.P (fun w p => decide (w.h + 1 < k p)) (fun w => w.e) d.ws cs ok.e
  have e2 : sumP (fun p => sw (fun w => decide (w.h < k p) && decide (w.b = p)) d.ws cs) d.P = sw (leaves k) d.ws cs :=
    sumP_sw d.P (fun w p => decide (w.h < k p)) (fun w => w.b) d.ws cs ok.b
  have e3 : sumP (fun p => if 0 < k p then wait d.ws S cs (k p - 1) p else 0) d.P
      = inside d S k + sumP (fun p => sw (fun w => decide (w.h + 1 < k p) && decide (w.e = p)) d.ws cs) d.P
        - sumP (fun p => sw (fun w => decide (w.h < k p) && decide (w.b = p)) d.ws cs) d.P := by
    unfold inside
    rw [← sumP_add, ← sumP_sub]
    refine sumP_congr d.P fun p _ => ?_
    by_cases h : 0 < k p
    · rw [if_pos h, if_pos h]
      unfold wait
      have a1 : inS d.ws cs (k p - 1) p = sw (fun w => decide (w.h + 1 < k p) && decide (w.e = p)) d.ws cs := sw_congr _ _ fun w _ => by
        have : decide (w.h < k p - 1) = decide (w.h + 1 < k p) := by
          by_cases hh : w.h + 1 < k p
          · rw [decide_eq_true hh, decide_eq_true (by omega)]
          · rw [decide_eq_false hh, decide_eq_false (by omega)]
        rw [this]
      have a2 : outS d.ws cs (k p - 1 + 1) p = sw (fun w => decide (w.h < k p) && decide (w.b = p)) d.ws cs := by
        have : k p - 1 + 1 = k p := by omega
        rw [this]; rfl
      rw [a1, a2]
    · rw [if_neg h, if_neg h]
      have z : k p = 0 := by omega
      rw [sw_false d.ws cs (fun w _ => by rw [z]; simp), sw_false d.ws cs (fun w _ => by rw [z]; simp)]
      rfl
  rw [e3, e1, e2, ← sw_diff]
  omega

theorem sumWs_le_sumWc {f : Wk → Int} {g : Wk → Int → Int} : ∀ (ws : List Wk) (cs : List Int), cs.length = ws.length →
    (∀ i w, ws[i]? = some w → f w ≤ g w (cs.getD i 0)) → sumWs f ws ≤ sumWc g ws cs
  | [], _, _, _ => by simp [sumWs, sumWc]
  | _ :: _, [], h, _ => by simp at h
  | w :: ws, c :: cs, h, k => by
    have ih := sumWs_le_sumWc ws cs (by simpa using h) (fun i v hv => by
      have := k (i + 1) v (by simpa using hv)
      simpa using this)
    have h0 := k 0 w rfl
    simp at h0
    unfold sumWs sumWc
    omega
theorem sumWs_eq_sumWc {f : Wk → Int} {g : Wk → Int → Int} : ∀ (ws : List Wk) (cs : List Int), cs.length = ws.length →
    (∀ i w, ws[i]? = some w → f w = g w (cs.getD i 0)) → sumWs f ws = sumWc g ws cs
  | [], _, _, _ => by simp [sumWs, sumWc]
  | _ :: _, [], h, _ => by simp at h
  | w :: ws, c :: cs, h, k => by
    have ih := sumWs_eq_sumWc ws cs (by simpa using h) (fun i v hv => by
      have := k (i + 1) v (by simpa using hv)
      simpa using this)
    have h0 := k 0 w rfl
    simp at h0
    unfold sumWs sumWc
    omega

/-- no line shows more than start inside, in any plan -/
theorem weak {d : Day} (ok : d.Ok) {S W cs : List Int} (F : Feas d S W cs) (k : Nat → Nat) (hk : ∀ p, p < d.P → k p ≤ d.T + 1) :
    raw d W k ≤ inside d S k := by
  rw [balance ok S cs k]
  unfold raw
  have h1 : sumP (fun p => if k p = d.T + 1 then W.getD p 0 else 0) d.P ≤ sumP (fun p => if 0 < k p then wait d.ws S cs (k p - 1) p else 0) d.P := by
    refine sumP_le d.P fun p hp => ?_
    by_cases h0 : 0 < k p
    · rw [if_pos h0]
      have h := F.st (k p - 1) p (by have := hk p hp; omega) hp
      unfold res low at h
      by_cases e : k p = d.T + 1
      · rw [if_pos e]
        rw [if_pos (by omega)] at h
        omega
      · rw [if_neg e]
        rw [if_neg (by omega)] at h
        omega
    · rw [if_neg h0, if_neg (by omega)]
      exact Int.le_refl _
  have h2 : sumWs (showW k) d.ws ≤ sumWc (fun w c => if leaves k w && !comes k w then c else if comes k w && !leaves k w then -c else 0) d.ws cs := by
    refine sumWs_le_sumWc d.ws cs F.len fun i w hw => ?_
    have a := F.lo i w hw
    have b := F.hi i w hw
    unfold showW
    generalize cs.getD i 0 = c at a b
    cases leaves k w <;> cases comes k w <;> simp <;> omega
  omega
/-- where all is tight, a line shows just what starts inside -/
theorem tight {d : Day} (ok : d.Ok) {S W cs : List Int} (hl : cs.length = d.ws.length) (k : Nat → Nat)
    (h0 : ∀ p, p < d.P → 0 < k p → res d S W cs (k p - 1) p = 0) (hk : ∀ p, p < d.P → k p ≤ d.T + 1)
    (h1 : ∀ i w, d.ws[i]? = some w → leaves k w = true → comes k w = false → cs.getD i 0 = w.wi)
    (h2 : ∀ i w, d.ws[i]? = some w → leaves k w = false → comes k w = true → cs.getD i 0 = (w.r : Int)) :
    raw d W k = inside d S k := by
  rw [balance ok S cs k]
  unfold raw
  have e1 : sumP (fun p => if k p = d.T + 1 then W.getD p 0 else 0) d.P = sumP (fun p => if 0 < k p then wait d.ws S cs (k p - 1) p else 0) d.P := by
    refine sumP_congr d.P fun p hp => ?_
    by_cases q : 0 < k p
    · rw [if_pos q]
      have h := h0 p hp q
      unfold res low at h
      by_cases e : k p = d.T + 1
      · rw [if_pos e]
        rw [if_pos (by omega)] at h
        omega
      · rw [if_neg e]
        rw [if_neg (by have := hk p hp; omega)] at h
        omega
    · rw [if_neg q, if_neg (by omega)]
  have e2 : sumWs (showW k) d.ws = sumWc (fun w c => if leaves k w && !comes k w then c else if comes k w && !leaves k w then -c else 0) d.ws cs := by
    refine sumWs_eq_sumWc d.ws cs hl fun i w hw => ?_
    have a := h1 i w hw
    have b := h2 i w hw
    unfold showW
    cases hL : leaves k w <;> cases hC : comes k w <;> simp
    · exact (b hL hC).symm
    · exact (a hL hC).symm
  omega
end Dry

/-! The mirror of the class Flow. -/
namespace Dry

/-! ### the mirror -/
def movedStep (hour : Nat) (o : List Int × List Int) (wc : Wk × Int) : List Int × List Int :=
  if wc.1.h = hour then (addAt o.1 wc.1.b wc.2, addAt o.2 wc.1.e wc.2) else o
def moved (d : Day) (hour : Nat) (cs : List Int) : List Int × List Int :=
  (d.ws.zip cs).foldl (movedStep hour) (List.replicate d.P 0, List.replicate d.P 0)
def zip3 (f : Int → Int → Int → Int) : List Int → List Int → List Int → List Int
  | a :: as, b :: bs, c :: cs => f a b c :: zip3 f as bs cs
  | _, _, _ => []
def rowAt (d : Day) (S cs : List Int) : Nat → List Int
  | 0 => S
  | t + 1 => zip3 (fun s l m => s - l + m) (rowAt d S cs t) (moved d t cs).1 (moved d t cs).2
def standing (d : Day) (S cs : List Int) : List (List Int) := (List.range (d.T + 1)).map (rowAt d S cs)
def leftStep (hour : Nat) (l : List Int) (wc : Wk × Int) : List Int := if wc.1.h = hour then addAt l wc.1.b (-wc.2) else l
def leftRow (d : Day) (S cs : List Int) (t : Nat) : List Int := (d.ws.zip cs).foldl (leftStep t) (rowAt d S cs t)
def waits (d : Day) (S W cs : List Int) : List (List Int) :=
  (List.range d.T).map (leftRow d S cs) ++ [List.zipWith (fun s l => s - l) (rowAt d S cs d.T) W]
def at2 (rows : List (List Int)) (t p : Nat) : Int := (rows.getD t []).getD p 0

abbrev Nd := Nat × Nat
abbrev Stp := Nat × Nat × Option Nat × Int
def stepW (cs : List Int) (m p : Nat) (iw : Nat × Wk) : List Stp :=
  (if (iw.2.h + 1 = m ∧ iw.2.e = p) ∧ iw.2.wi < cs.getD iw.1 0 then [(iw.2.h, iw.2.b, some iw.1, -1)] else []) ++
  (if (iw.2.h = m ∧ iw.2.b = p) ∧ cs.getD iw.1 0 < (iw.2.r : Int) then [(iw.2.h + 1, iw.2.e, some iw.1, 1)] else [])
def enumF (n : Nat) : List Wk → List (Nat × Wk)
  | [] => []
  | w :: ws => (n, w) :: enumF (n + 1) ws
def stepsOf (d : Day) (cs : List Int) (wt : List (List Int)) (m p : Nat) : List Stp :=
  (if m < d.T then [(m + 1, p, none, 0)] else []) ++ (if 0 < m ∧ 0 < at2 wt (m - 1) p then [(m - 1, p, none, 0)] else []) ++
  (enumF 0 d.ws).flatMap (stepW cs m p)

abbrev Way := Option (Nd × Option Nat × Int)
abbrev Fd := List (Nd × Way)
def keys (f : Fd) : List Nd := f.map (·.1)
def sinks (d : Day) (wt : List (List Int)) : List Nd := ((List.range d.P).filter (fun p => decide (0 < at2 wt d.T p))).map (fun p => (d.T, p))
def visit (here : Nd) (fr : Fd × List Nd) (s : Stp) : Fd × List Nd :=
  if (s.1, s.2.1) ∈ keys fr.1 then fr else (fr.1 ++ [((s.1, s.2.1), some (here, s.2.2))], fr.2 ++ [(s.1, s.2.1)])
def bfs (d : Day) (cs : List Int) (wt : List (List Int)) : Nat → Fd × List Nd → Fd
  | 0, fr => fr.1
  | _ + 1, (f, []) => f
  | n + 1, (f, here :: r) => bfs d cs wt n ((stepsOf d cs wt here.1 here.2).foldl (visit here) (f, r))
def bfs0 (d : Day) (wt : List (List Int)) : Fd × List Nd := ((sinks d wt).map (fun n => (n, none)), sinks d wt)
def reached (d : Day) (cs : List Int) (wt : List (List Int)) : Fd := bfs d cs wt ((d.T + 1) * d.P) (bfs0 d wt)
def wayOf (f : Fd) (n : Nd) : Way := (f.lookup n).getD none
def follow (f : Fd) : Nat → Way → List Int → List Int
  | _, none, cs => cs
  | 0, some _, cs => cs
  | n + 1, some (here, none, _), cs => follow f n (wayOf f here) cs
  | n + 1, some (here, some i, s), cs => follow f n (wayOf f here) (addAt cs i s)

structure Fl where
  more : List Int
  car : List Int
def addL (a b : List Int) : List Int := List.zipWith (fun x y => x + y) a b
def flow0 (d : Day) (W : List Int) : Fl := ⟨d.ws.foldl (fun m w => addAt m w.b w.wi) W, d.ws.map Wk.wi⟩
def found (d : Day) (G W : List Int) (x : Fl) : Fd := reached d x.car (waits d (addL G x.more) W x.car)
def somes (d : Day) (f : Fd) (x : Fl) : List Nat := (List.range d.P).filter (fun p => decide ((0, p) ∈ keys f) && decide (0 < x.more.getD p 0))
def lessen (d : Day) (G W : List Int) (x : Fl) : Option Fl :=
  let f := found d G W x
  match somes d f x with
  | [] => none
  | p :: _ => some ⟨addAt x.more p (-1), follow f f.length (wayOf f (0, p)) x.car⟩
def settle (d : Day) (G W : List Int) : Nat → Fl → Fl
  | 0, x => x
  | n + 1, x => match lessen d G W x with
    | none => x
    | some y => settle d G W n y
def settled (d : Day) (G W : List Int) : Fl := settle d G W (flow0 d W).more.sum.toNat (flow0 d W)
def lineOf (d : Day) (f : Fd) : List Nat := (List.range d.P).map fun p => ((List.range (d.T + 1)).filter fun m => decide ((m, p) ∉ keys f)).length
def lineFl (d : Day) (G W : List Int) (x : Fl) : List Nat := lineOf d (found d G W x)
def zeros (d : Day) : List Int := List.replicate d.P 0
def fewest (d : Day) (W : List Int) : Int × List Int × List Int :=
  let x := settled d (zeros d) W
  (x.more.sum, addL (zeros d) x.more, x.car)
def line (d : Day) (W : List Int) : List Nat := lineFl d (zeros d) W (settled d (zeros d) W)

/-! ### what the rows hold -/
theorem moved_fold (hour : Nat) : ∀ (ws : List Wk) (cs : List Int) (o : List Int × List Int), (∀ w ∈ ws, w.b < o.1.length ∧ w.e < o.2.length) → ws.length = cs.length →
    let r := (ws.zip cs).foldl (movedStep hour) o
    r.1.length = o.1.length ∧ r.2.length = o.2.length ∧
    (∀ p, r.1.getD p 0 = o.1.getD p 0 + sw (fun w => decide (w.h = hour) && decide (w.b = p)) ws cs) ∧
    (∀ p, r.2.getD p 0 = o.2.getD p 0 + sw (fun w => decide (w.h = hour) && decide (w.e = p)) ws cs)
  | [], _, o, _, _ => by simp [sw]
  | _ :: _, [], _, _, h => by simp at h
  | w :: ws, c :: cs, o, hb, hl => by
    have hw := hb w (by simp)
    show let r := (ws.zip cs).foldl (movedStep hour) (movedStep hour o (w, c)); _
    have L : (movedStep hour o (w, c)).1.length = o.1.length ∧ (movedStep hour o (w, c)).2.length = o.2.length := by
      unfold movedStep; split <;> simp [addAt_length]
    have ih := moved_fold hour ws cs (movedStep hour o (w, c)) (fun v hv => by rw [L.1, L.2]; exact hb v (by simp [hv])) (by simpa using hl)
    obtain ⟨a, b, c1, c2⟩ := ih
    refine ⟨a.trans L.1, b.trans L.2, fun p => ?_, fun p => ?_⟩
    · show ((ws.zip cs).foldl (movedStep hour) (movedStep hour o (w, c))).1.getD p 0 = _ + ((if (decide (w.h = hour) && decide (w.b = p)) = true then c else 0) + _)
      rw [c1 p]
      unfold movedStep
      by_cases e : w.h = hour
      · rw [if_pos e]
        show (addAt o.1 w.b c).getD p 0 + _ = _
        rw [addAt_getD _ _ _ _ hw.1]
        simp [e]; omega
      · rw [if_neg e]; simp [e]
    · show ((ws.zip cs).foldl (movedStep hour) (movedStep hour o (w, c))).2.getD p 0 = _ + ((if (decide (w.h = hour) && decide (w.e = p)) = true then c else 0) + _)
      rw [c2 p]
      unfold movedStep
      by_cases e : w.h = hour
      · rw [if_pos e]
        show (addAt o.2 w.e c).getD p 0 + _ = _
        rw [addAt_getD _ _ _ _ hw.2]
        simp [e]; omega
      · rw [if_neg e]; simp [e]
theorem replicate_getD (n p : Nat) : (List.replicate n (0 : Int)).getD p 0 = 0 := by
  simp [List.getD_eq_getElem?_getD, List.getElem?_replicate]
  split <;> rfl
theorem moved_spec {d : Day} (ok : d.Ok) (hour : Nat) (cs : List Int) (hl : cs.length = d.ws.length) :
    (moved d hour cs).1.length = d.P ∧ (moved d hour cs).2.length = d.P ∧
    (∀ p, (moved d hour cs).1.getD p 0 = sw (fun w => decide (w.h = hour) && decide (w.b = p)) d.ws cs) ∧
    (∀ p, (moved d hour cs).2.getD p 0 = sw (fun w => decide (w.h = hour) && decide (w.e = p)) d.ws cs) := by
  have h := moved_fold hour d.ws cs (List.replicate d.P 0, List.replicate d.P 0) (fun w hw => by simp; exact ⟨ok.b w hw, ok.e w hw⟩) hl.symm
  obtain ⟨a, b, c1, c2⟩ := h
  refine ⟨by unfold moved; simpa using a, by unfold moved; simpa using b, fun p => ?_, fun p => ?_⟩
  · have := c1 p
    rw [show (List.replicate d.P (0 : Int), List.replicate d.P (0 : Int)).1 = List.replicate d.P 0 from rfl, replicate_getD] at this
    unfold moved; rw [this]; omega
  · have := c2 p
    rw [show (List.replicate d.P (0 : Int), List.replicate d.P (0 : Int)).2 = List.replicate d.P 0 from rfl, replicate_getD] at this
    unfold moved; rw [this]; omega
theorem zip3_spec (f : Int → Int → Int → Int) : ∀ (n : Nat) (a b c : List Int), a.length = n → b.length = n → c.length = n →
    (zip3 f a b c).length = n ∧ ∀ p, p < n → (zip3 f a b c).getD p 0 = f (a.getD p 0) (b.getD p 0) (c.getD p 0)
  | 0, a, b, c, h1, h2, h3 => by
    obtain rfl := List.eq_nil_of_length_eq_zero h1
    simp [zip3]
  | n + 1, [], _, _, h1, _, _ => by simp at h1
  | n + 1, _ :: _, [], _, _, h2, _ => by simp at h2
  | n + 1, _ :: _, _ :: _, [], _, _, h3 => by simp at h3
  | n + 1, a :: as, b :: bs, c :: cs, h1, h2, h3 => by
    have ih := zip3_spec f n as bs cs (by simpa using h1) (by simpa using h2) (by simpa using h3)
    refine ⟨by simp [zip3, ih.1], fun p hp => ?_⟩
    cases p with
    | zero => simp [zip3]
    | succ p =>
      have := ih.2 p (by omega)
      simpa [zip3] using this
theorem sw_split (q1 q2 q : Wk → Bool) : ∀ (ws : List Wk) (cs : List Int), (∀ w ∈ ws, (if q w then (1 : Int) else 0) = (if q1 w then 1 else 0) + (if q2 w then 1 else 0)) → sw q ws cs = sw q1 ws cs + sw q2 ws cs
  | [], _, _ => by simp [sw]
  | _ :: _, [], _ => by simp [sw]
  | w :: ws, c :: cs, h => by
    have ih := sw_split q1 q2 q ws cs (fun v hv => h v (by simp [hv]))
    have h0 := h w (by simp)
    unfold sw
    rw [ih]
    revert h0
    cases q w <;> cases q1 w <;> cases q2 w <;> simp <;> omega
theorem inS_succ (ws : List Wk) (cs : List Int) (t p : Nat) : inS ws cs (t + 1) p = inS ws cs t p + sw (fun w => decide (w.h = t) && decide (w.e = p)) ws cs := by
  unfold inS
  refine sw_split _ _ _ ws cs fun w _ => ?_
  by_cases e : w.e = p
  · by_cases a : w.h < t
    · have : ¬ w.h = t := by omega
      simp [e, a, this]; omega
    · by_cases b : w.h = t
      · simp [e, b]
      · have : ¬ w.h < t + 1 := by omega
        simp [e, a, b, this]
  · simp [e]
theorem outS_succ (ws : List Wk) (cs : List Int) (t p : Nat) : outS ws cs (t + 1) p = outS ws cs t p + sw (fun w => decide (w.h = t) && decide (w.b = p)) ws cs := by
  unfold outS
  refine sw_split _ _ _ ws cs fun w _ => ?_
  by_cases e : w.b = p
  · by_cases a : w.h < t
    · have : ¬ w.h = t := by omega
      simp [e, a, this]; omega
    · by_cases b : w.h = t
      · simp [e, b]
      · have : ¬ w.h < t + 1 := by omega
        simp [e, a, b, this]
  · simp [e]
theorem rowAt_spec {d : Day} (ok : d.Ok) (S cs : List Int) (hl : cs.length = d.ws.length) (hS : S.length = d.P) :
    ∀ t, (rowAt d S cs t).length = d.P ∧ ∀ p, p < d.P → (rowAt d S cs t).getD p 0 = stand d.ws S cs t p
  | 0 => by
    refine ⟨hS, fun p _ => ?_⟩
    unfold stand inS outS
    rw [sw_false _ _ (fun w _ => by simp), sw_false _ _ (fun w _ => by simp)]
    show S.getD p 0 = _
    omega
  | t + 1 => by
    obtain ⟨ih1, ih2⟩ := rowAt_spec ok S cs hl hS t
    obtain ⟨m1, m2, m3, m4⟩ := moved_spec ok t cs hl
    obtain ⟨z1, z2⟩ := zip3_spec (fun s l m => s - l + m) d.P _ _ _ ih1 m1 m2
    refine ⟨z1, fun p hp => ?_⟩
    show (zip3 _ _ _ _).getD p 0 = _
    rw [z2 p hp, ih2 p hp, m3 p, m4 p]
    unfold stand
    rw [inS_succ, outS_succ]
    omega
theorem left_fold (hour : Nat) : ∀ (ws : List Wk) (cs l : List Int), (∀ w ∈ ws, w.b < l.length) → ws.length = cs.length →
    ((ws.zip cs).foldl (leftStep hour) l).length = l.length ∧
    ∀ p, ((ws.zip cs).foldl (leftStep hour) l).getD p 0 = l.getD p 0 - sw (fun w => decide (w.h = hour) && decide (w.b = p)) ws cs
  | [], _, _, _, _ => by simp [sw]
  | _ :: _, [], _, _, h => by simp at h
  | w :: ws, c :: cs, l, hb, hl => by
    have L : (leftStep hour l (w, c)).length = l.length := by
      unfold leftStep; split <;> simp [addAt_length]
    have ih := left_fold hour ws cs (leftStep hour l (w, c)) (fun v hv => by rw [L]; exact hb v (by simp [hv])) (by simpa using hl)
    refine ⟨ih.1.trans L, fun p => ?_⟩
    show ((ws.zip cs).foldl (leftStep hour) (leftStep hour l (w, c))).getD p 0 = _
    rw [ih.2 p]
    show _ = _ - ((if (decide (w.h = hour) && decide (w.b = p)) = true then c else 0) + _)
    unfold leftStep
    by_cases e : w.h = hour
    · rw [if_pos e]
      show (addAt l w.b (-c)).getD p 0 - _ = _
      rw [addAt_getD _ _ _ _ (hb w (by simp))]
      by_cases e2 : w.b = p <;> simp [e, e2] <;> omega
    · rw [if_neg e]; simp [e]
theorem waits_spec {d : Day} (ok : d.Ok) (S W cs : List Int) (hl : cs.length = d.ws.length) (hS : S.length = d.P) (hW : W.length = d.P) (t p : Nat) (ht : t ≤ d.T) (hp : p < d.P) :
    at2 (waits d S W cs) t p = res d S W cs t p := by
  obtain ⟨r1, r2⟩ := rowAt_spec ok S cs hl hS t
  unfold at2 waits res low
  by_cases e : t = d.T
  · subst e
    have : ((List.range d.T).map (leftRow d S cs) ++ [List.zipWith (fun s l => s - l) (rowAt d S cs d.T) W]).getD d.T [] = List.zipWith (fun s l => s - l) (rowAt d S cs d.T) W := by
      simp [List.getD_eq_getElem?_getD]
    rw [this, if_pos rfl, wait_last ok, ← r2 p hp]
    simp [List.getD_eq_getElem?_getD, List.getElem?_zipWith]
    have h1 : p < (rowAt d S cs d.T).length := by omega
    have h2 : p < W.length := by omega
    simp [h1, h2]
  · have hlt : t < d.T := by omega
    have : ((List.range d.T).map (leftRow d S cs) ++ [List.zipWith (fun s l => s - l) (rowAt d S cs d.T) W]).getD t [] = leftRow d S cs t := by
      simp [List.getD_eq_getElem?_getD, List.getElem?_append, hlt]
    rw [this, if_neg e]
    have lf := left_fold t d.ws cs (rowAt d S cs t) (fun w hw => by rw [r1]; exact ok.b w hw) hl.symm
    unfold leftRow
    rw [lf.2 p, r2 p hp]
    unfold wait stand
    rw [outS_succ]
    omega
end Dry

/-! The search, one umbrella less along a way, and the line at the end. -/
namespace Dry

theorem mem_enumF : ∀ (ws : List Wk) (n i : Nat) (w : Wk), (i, w) ∈ enumF n ws ↔ ∃ j, i = n + j ∧ ws[j]? = some w
  | [], n, i, w => by simp [enumF]
  | v :: ws, n, i, w => by
    rw [enumF, List.mem_cons, mem_enumF ws (n + 1) i w]
    constructor
    · rintro (h | ⟨j, h1, h2⟩)
      · cases h; exact ⟨0, rfl, rfl⟩
      · exact ⟨j + 1, by omega, by simpa using h2⟩
    · rintro ⟨j, h1, h2⟩
      cases j with
      | zero =>
        left
        simp at h2; subst h2; simp at h1; rw [h1]
      | succ j => exact .inr ⟨j, by omega, by simpa using h2⟩

theorem mem_steps {d : Day} {cs : List Int} {wt : List (List Int)} {m p : Nat} {s : Stp} : s ∈ stepsOf d cs wt m p ↔
    (m < d.T ∧ s = (m + 1, p, none, 0)) ∨ ((0 < m ∧ 0 < at2 wt (m - 1) p) ∧ s = (m - 1, p, none, 0)) ∨
    ∃ i w, d.ws[i]? = some w ∧ ((((w.h + 1 = m ∧ w.e = p) ∧ w.wi < cs.getD i 0) ∧ s = (w.h, w.b, some i, -1)) ∨ (((w.h = m ∧ w.b = p) ∧ cs.getD i 0 < (w.r : Int)) ∧ s = (w.h + 1, w.e, some i, 1))) := by
  unfold stepsOf
  rw [List.mem_append, List.mem_append, List.mem_flatMap]
  constructor
  · rintro ((h | h) | ⟨⟨i, w⟩, hi, h⟩)
    · split at h
      · rename_i q; simp at h; exact .inl ⟨q, h⟩
      · simp at h
    · split at h
      · rename_i q; simp at h; exact .inr (.inl ⟨q, h⟩)
      · simp at h
    · obtain ⟨j, h1, h2⟩ := (mem_enumF _ _ _ _).mp hi
      have e : i = j := by omega
      subst e
      refine .inr (.inr ⟨i, w, h2, ?_⟩)
      unfold stepW at h
      rw [List.mem_append] at h
      rcases h with h | h
      · split at h
        · rename_i q; simp at h; exact .inl ⟨q, h⟩
        · simp at h
      · split at h
        · rename_i q; simp at h; exact .inr ⟨q, h⟩
        · simp at h
  · rintro (⟨q, rfl⟩ | ⟨q, rfl⟩ | ⟨i, w, hi, h⟩)
    · left; left; rw [if_pos q]; simp
    · left; right; rw [if_pos q]; simp
    · right
      refine ⟨(i, w), (mem_enumF _ _ _ _).mpr ⟨i, by omega, hi⟩, ?_⟩
      unfold stepW
      rw [List.mem_append]
      rcases h with ⟨q, rfl⟩ | ⟨q, rfl⟩
      · left; rw [if_pos q]; simp
      · right; rw [if_pos q]; simp

/-! ### the search -/
def WayOk (d : Day) (cs : List Int) (wt : List (List Int)) (pre : Fd) (n : Nd) : Way → Prop
  | none => n.1 = d.T ∧ 0 < at2 wt d.T n.2
  | some (here, num, sg) => here ∈ keys pre ∧ (n.1, n.2, num, sg) ∈ stepsOf d cs wt here.1 here.2
def WF (d : Day) (cs : List Int) (wt : List (List Int)) (f : Fd) : Prop := ∀ pre n way post, f = pre ++ (n, way) :: post → WayOk d cs wt pre n way

theorem steps_valid {d : Day} (ok : d.Ok) {cs : List Int} {wt : List (List Int)} {n : Nd} {s : Stp} (hn : n.1 ≤ d.T ∧ n.2 < d.P) (h : s ∈ stepsOf d cs wt n.1 n.2) : s.1 ≤ d.T ∧ s.2.1 < d.P := by
  rcases mem_steps.mp h with ⟨q, rfl⟩ | ⟨q, rfl⟩ | ⟨i, w, hi, ⟨q, rfl⟩ | ⟨q, rfl⟩⟩
  · exact ⟨q, hn.2⟩
  · exact ⟨by show n.1 - 1 ≤ _; omega, hn.2⟩
  · have hw := List.mem_of_getElem? hi
    have := ok.h w hw
    exact ⟨by show w.h ≤ _; omega, ok.b w hw⟩
  · have hw := List.mem_of_getElem? hi
    exact ⟨ok.h w hw, ok.e w hw⟩

structure PIv (d : Day) (cs : List Int) (wt : List (List Int)) (here : Option Nd) (f : Fd) (r : List Nd) : Prop where
  nd : (keys f).Nodup
  val : ∀ n ∈ keys f, n.1 ≤ d.T ∧ n.2 < d.P
  wf : WF d cs wt f
  sub : ∀ n ∈ r, n ∈ keys f
  clo : ∀ n ∈ keys f, n ∈ r ∨ some n = here ∨ ∀ s ∈ stepsOf d cs wt n.1 n.2, (s.1, s.2.1) ∈ keys f
  snk : ∀ p, p < d.P → 0 < at2 wt d.T p → (d.T, p) ∈ keys f

theorem keys_append (f g : Fd) : keys (f ++ g) = keys f ++ keys g := by simp [keys]
theorem append_cons_split {α : Type} {f pre post : List α} {x y : α} (h : f ++ [x] = pre ++ y :: post) : (pre = f ∧ y = x ∧ post = []) ∨ ∃ post', post = post' ++ [x] ∧ f = pre ++ y :: post' := by
  rcases List.eq_nil_or_concat post with rfl | ⟨p', z, rfl⟩
  · left
    have h' : f ++ [x] = pre ++ [y] := by simpa using h
    have := List.append_inj' h' rfl
    exact ⟨this.1.symm, by simpa using this.2.symm, rfl⟩
  · right
    have h' : f ++ [x] = (pre ++ y :: p') ++ [z] := by simpa using h
    have := List.append_inj' h' rfl
    refine ⟨p', ?_, this.1⟩
    have e : x = z := by simpa using this.2
    rw [e]
    simp

theorem PIv.visit1 {d : Day} (ok : d.Ok) {cs : List Int} {wt : List (List Int)} {here : Nd} {f : Fd} {r : List Nd} {s : Stp} (I : PIv d cs wt (some here) f r) (hh : here ∈ keys f) (hs : s ∈ stepsOf d cs wt here.1 here.2) :
    PIv d cs wt (some here) (visit here (f, r) s).1 (visit here (f, r) s).2 ∧ (∀ n ∈ keys f, n ∈ keys (visit here (f, r) s).1) ∧ (s.1, s.2.1) ∈ keys (visit here (f, r) s).1 ∧
    (visit here (f, r) s).1.length + r.length = f.length + (visit here (f, r) s).2.length := by
  unfold visit
  by_cases hm : (s.1, s.2.1) ∈ keys f
  · rw [if_pos hm]
    exact ⟨I, fun _ h => h, hm, rfl⟩
  · rw [if_neg hm]
    have kk : keys (f ++ [((s.1, s.2.1), some (here, s.2.2))]) = keys f ++ [(s.1, s.2.1)] := by simp [keys]
    refine ⟨⟨?_, ?_, ?_, ?_, ?_, ?_⟩, ?_, ?_, ?_⟩
    · show (keys (f ++ [((s.1, s.2.1), some (here, s.2.2))])).Nodup
      rw [kk, List.nodup_append]
      refine ⟨I.nd, by simp, ?_⟩
      intro a ha b hb e
      simp at hb
      subst hb; subst e
      exact hm ha
    · intro n hn
      rw [kk] at hn
      rcases List.mem_append.mp hn with h | h
      · exact I.val n h
      · simp at h; subst h
        exact steps_valid ok (I.val here hh) hs
    · intro pre n way post e
      rcases append_cons_split e with ⟨rfl, e2, _⟩ | ⟨post', _, e2⟩
      · cases e2
        exact ⟨hh, hs⟩
      · exact I.wf pre n way post' e2
    · intro n hn
      show n ∈ keys (f ++ [((s.1, s.2.1), some (here, s.2.2))])
      rw [kk]
      rcases List.mem_append.mp hn with h | h
      · exact List.mem_append_left _ (I.sub n h)
      · exact List.mem_append_right _ h
    · intro n hn
      rw [kk] at hn ⊢
      rcases List.mem_append.mp hn with h | h
      · rcases I.clo n h with h | h | h
        · exact .inl (List.mem_append_left _ h)
        · exact .inr (.inl h)
        · exact .inr (.inr fun t ht => List.mem_append_left _ (h t ht))
      · exact .inl (List.mem_append_right _ h)
    · intro p hp h
      rw [kk]
      exact List.mem_append_left _ (I.snk p hp h)
    · intro n hn
      rw [kk]
      exact List.mem_append_left _ hn
    · rw [kk]; simp
    · simp; omega
theorem PIv.fold {d : Day} (ok : d.Ok) {cs : List Int} {wt : List (List Int)} {here : Nd} : ∀ (ss : List Stp) {f : Fd} {r : List Nd}, PIv d cs wt (some here) f r → here ∈ keys f → (∀ s ∈ ss, s ∈ stepsOf d cs wt here.1 here.2) →
    PIv d cs wt (some here) (ss.foldl (visit here) (f, r)).1 (ss.foldl (visit here) (f, r)).2 ∧ (∀ n ∈ keys f, n ∈ keys (ss.foldl (visit here) (f, r)).1) ∧ (∀ s ∈ ss, (s.1, s.2.1) ∈ keys (ss.foldl (visit here) (f, r)).1) ∧
    (ss.foldl (visit here) (f, r)).1.length + r.length = f.length + (ss.foldl (visit here) (f, r)).2.length
  | [], f, r, I, _, _ => ⟨I, fun _ h => h, fun _ h => by simp at h, rfl⟩
  | s :: ss, f, r, I, hh, hs => by
    obtain ⟨I1, m1, k1, l1⟩ := I.visit1 ok hh (hs s (by simp))
    obtain ⟨I2, m2, k2, l2⟩ := PIv.fold ok ss I1 (m1 _ hh) (fun t ht => hs t (by simp [ht]))
    refine ⟨I2, fun n hn => m2 n (m1 n hn), fun t ht => ?_, ?_⟩
    · rcases List.mem_cons.mp ht with rfl | ht
      · exact m2 _ k1
      · exact k2 t ht
    · show (ss.foldl (visit here) (visit here (f, r) s)).1.length + r.length = f.length + (ss.foldl (visit here) (visit here (f, r) s)).2.length
      have l3 : (ss.foldl (visit here) (visit here (f, r) s)).1.length + (visit here (f, r) s).2.length = (visit here (f, r) s).1.length + (ss.foldl (visit here) (visit here (f, r) s)).2.length := l2
      omega
/-- one taken from the row -/
theorem PIv.turn {d : Day} (ok : d.Ok) {cs : List Int} {wt : List (List Int)} {here : Nd} {f : Fd} {r : List Nd} (I : PIv d cs wt none f (here :: r)) :
    let fr := (stepsOf d cs wt here.1 here.2).foldl (visit here) (f, r)
    PIv d cs wt none fr.1 fr.2 ∧ fr.1.length + r.length = f.length + fr.2.length := by
  have hh : here ∈ keys f := I.sub here (by simp)
  have I0 : PIv d cs wt (some here) f r := ⟨I.nd, I.val, I.wf, fun n hn => I.sub n (by simp [hn]), fun n hn => by
    rcases I.clo n hn with h | h | h
    · rcases List.mem_cons.mp h with rfl | h
      · exact .inr (.inl rfl)
      · exact .inl h
    · cases h
    · exact .inr (.inr h), I.snk⟩
  obtain ⟨I1, m1, k1, l1⟩ := PIv.fold ok _ I0 hh (fun _ h => h)
  refine ⟨⟨I1.nd, I1.val, I1.wf, I1.sub, fun n hn => ?_, I1.snk⟩, l1⟩
  rcases I1.clo n hn with h | h | h
  · exact .inl h
  · cases h
    exact .inr (.inr k1)
  · exact .inr (.inr h)

theorem nodup_lt : ∀ (N : Nat) (l : List Nat), l.Nodup → (∀ x ∈ l, x < N) → l.length ≤ N
  | 0, [], _, _ => Nat.le_refl _
  | 0, x :: _, _, h => absurd (h x (by simp)) (by omega)
  | N + 1, l, hd, h => by
    by_cases hm : N ∈ l
    · have h1 := nodup_lt N (l.erase N) (hd.erase N) (fun x hx => by
        have h2 := (hd.mem_erase_iff).mp hx
        have := h x h2.2
        have := h2.1
        omega)
      rw [List.length_erase_of_mem hm] at h1
      omega
    · have := nodup_lt N l hd (fun x hx => by
        have h1 := h x hx
        have : x ≠ N := fun e => hm (e ▸ hx)
        omega)
      omega
theorem PIv.count {d : Day} {cs : List Int} {wt : List (List Int)} {o : Option Nd} {f : Fd} {r : List Nd} (I : PIv d cs wt o f r) : f.length ≤ (d.T + 1) * d.P := by
  have h := nodup_lt ((d.T + 1) * d.P) ((keys f).map fun n => n.1 * d.P + n.2) (by
    rw [List.Nodup, List.pairwise_map]
    refine List.Pairwise.imp_of_mem ?_ I.nd
    intro a b ha hb ne e
    apply ne
    have va := I.val a ha
    have vb := I.val b hb
    have e1 : a.1 = b.1 := by
      have x1 : (a.1 * d.P + a.2) / d.P = a.1 := by
        rw [Nat.mul_comm, Nat.mul_add_div (by omega), Nat.div_eq_of_lt va.2]; rfl
      have x2 : (b.1 * d.P + b.2) / d.P = b.1 := by
        rw [Nat.mul_comm, Nat.mul_add_div (by omega), Nat.div_eq_of_lt vb.2]; rfl
      rw [← x1, ← x2, e]
    have e2 : a.2 = b.2 := by
      rw [e1] at e
      omega
    exact Prod.ext e1 e2) (by
    intro x hx
    obtain ⟨n, hn, rfl⟩ := List.mem_map.mp hx
    have v := I.val n hn
    have : n.1 * d.P ≤ d.T * d.P := Nat.mul_le_mul_right _ v.1
    have e : (d.T + 1) * d.P = d.T * d.P + d.P := by rw [Nat.add_mul]; simp
    omega)
  simpa [keys] using h
theorem bfs_spec {d : Day} (ok : d.Ok) {cs : List Int} {wt : List (List Int)} : ∀ (n : Nat) (f : Fd) (r : List Nd) (done : Nat), PIv d cs wt none f r → done + r.length = f.length → (d.T + 1) * d.P ≤ n + done →
    PIv d cs wt none (bfs d cs wt n (f, r)) []
  | 0, f, r, done, I, h1, h2 => by
    have := I.count
    have e : r = [] := List.eq_nil_of_length_eq_zero (by omega)
    subst e
    exact I
  | n + 1, f, [], done, I, _, _ => I
  | n + 1, f, here :: r, done, I, h1, h2 => by
    have t := I.turn ok
    refine bfs_spec ok n _ _ (done + 1) t.1 ?_ (by omega)
    have := t.2
    simp at h1
    omega
theorem range_filter_mem {n p : Nat} {q : Nat → Bool} : p ∈ (List.range n).filter q ↔ p < n ∧ q p = true := by simp
theorem bfs0_spec {d : Day} {cs : List Int} {wt : List (List Int)} : PIv d cs wt none (bfs0 d wt).1 (bfs0 d wt).2 := by
  have hk : keys (bfs0 d wt).1 = sinks d wt := by
    unfold keys bfs0
    rw [List.map_map]
    exact List.map_id' _
  have hm : ∀ n, n ∈ sinks d wt ↔ ∃ p, (p < d.P ∧ 0 < at2 wt d.T p) ∧ (d.T, p) = n := by
    intro n
    unfold sinks
    simp [List.mem_map]
  refine ⟨?_, ?_, ?_, ?_, ?_, ?_⟩
  · rw [hk]
    unfold sinks
    rw [List.Nodup, List.pairwise_map]
    refine List.Pairwise.imp ?_ (List.Pairwise.filter _ List.nodup_range)
    intro a b h e
    exact h (by injection e)
  · rw [hk]
    intro n hn
    obtain ⟨p, ⟨h1, h2⟩, rfl⟩ := (hm n).mp hn
    exact ⟨Nat.le_refl _, h1⟩
  · intro pre n way post e
    have : (n, way) ∈ (bfs0 d wt).1 := by rw [e]; simp
    unfold bfs0 at this
    obtain ⟨x, hx, e2⟩ := List.mem_map.mp this
    cases e2
    obtain ⟨p, ⟨h1, h2⟩, rfl⟩ := (hm _).mp hx
    exact ⟨rfl, h2⟩
  · rw [hk]; exact fun n h => h
  · rw [hk]; exact fun n h => .inl h
  · rw [hk]
    intro p hp h
    exact (hm _).mpr ⟨p, ⟨hp, h⟩, rfl⟩
theorem reached_spec {d : Day} (ok : d.Ok) (cs : List Int) (wt : List (List Int)) : PIv d cs wt none (reached d cs wt) [] := by
  refine bfs_spec ok _ _ _ 0 bfs0_spec ?_ (by omega)
  simp

/-! ### one less along a way -/
theorem wait_addAt {ws : List Wk} (S cs : List Int) {i : Nat} {w : Wk} (x : Int) (t p : Nat) (hi : ws[i]? = some w) (hl : i < cs.length) :
    wait ws S (addAt cs i x) t p = wait ws S cs t p + (if w.h < t ∧ w.e = p then x else 0) - (if w.h ≤ t ∧ w.b = p then x else 0) := by
  unfold wait inS outS
  rw [sw_addAt _ x ws cs i w hi hl, sw_addAt _ x ws cs i w hi hl]
  have e1 : (if (decide (w.h < t) && decide (w.e = p)) = true then x else 0) = (if w.h < t ∧ w.e = p then x else 0) := by simp
  have e2 : (if (decide (w.h < t + 1) && decide (w.b = p)) = true then x else 0) = (if w.h ≤ t ∧ w.b = p then x else 0) := by
    simp [Nat.lt_succ_iff]
  rw [e1, e2]
  omega
theorem res_addAt {d : Day} (S W cs : List Int) {i : Nat} {w : Wk} (x : Int) (t p : Nat) (hi : d.ws[i]? = some w) (hl : i < cs.length) :
    res d S W (addAt cs i x) t p = res d S W cs t p + (if w.h < t ∧ w.e = p then x else 0) - (if w.h ≤ t ∧ w.b = p then x else 0) := by
  unfold res
  rw [wait_addAt S cs x t p hi hl]
  omega
def owed (v : Nd) (t p : Nat) : Int := if p = v.2 ∧ v.1 ≤ t then 1 else 0
structure Mid (d : Day) (S W cs0 : List Int) (wt : List (List Int)) (pre : Fd) (v : Nd) (cs : List Int) : Prop where
  len : cs.length = d.ws.length
  nn : ∀ t p, t ≤ d.T → p < d.P → 0 ≤ res d S W cs t p + owed v t p
  ge : ∀ n : Nd, n = v ∨ n ∈ keys pre → at2 wt n.1 n.2 ≤ res d S W cs n.1 n.2 + owed v n.1 n.2
  gT : ∀ p, p < d.P → at2 wt d.T p ≤ res d S W cs d.T p + owed v d.T p
  lo : ∀ i w, d.ws[i]? = some w → w.wi ≤ cs.getD i 0
  hi : ∀ i w, d.ws[i]? = some w → cs.getD i 0 ≤ (w.r : Int)
  cl : ∀ i w, d.ws[i]? = some w → ((w.h, w.b) = v ∨ (w.h, w.b) ∈ keys pre) → cs0.getD i 0 ≤ cs.getD i 0
  ch : ∀ i w, d.ws[i]? = some w → ((w.h + 1, w.e) = v ∨ (w.h + 1, w.e) ∈ keys pre) → cs.getD i 0 ≤ cs0.getD i 0

theorem lookup_split {f pre post : Fd} {n : Nd} {way : Way} (hn : (keys f).Nodup) (e : f = pre ++ (n, way) :: post) : f.lookup n = some way := by
  subst e
  have hp : n ∉ keys pre := by
    unfold keys at hn ⊢
    rw [List.map_append, List.nodup_append] at hn
    intro h
    exact hn.2.2 n h n (by simp) rfl
  clear hn
  induction pre with
  | nil => simp
  | cons x pre ih =>
    obtain ⟨k, w⟩ := x
    have hk : n ≠ k := fun e => hp (by simp [keys, e])
    have : (n == k) = false := by simpa using hk
    simp only [List.cons_append, List.lookup, this]
    exact ih (fun h => hp (by unfold keys at h ⊢; simp at h ⊢; exact .inr h))

theorem follow_ok {d : Day} (ok : d.Ok) {S W cs0 : List Int} {wt : List (List Int)} {f : Fd} (hn : (keys f).Nodup) (hv : ∀ n ∈ keys f, n.1 ≤ d.T ∧ n.2 < d.P) (wf : WF d cs0 wt f) :
    ∀ (k : Nat) (pre : Fd) (v : Nd) (way : Way) (post : Fd) (cs : List Int), pre.length ≤ k → f = pre ++ (v, way) :: post → Mid d S W cs0 wt pre v cs → Feas d S W (follow f k way cs)
  | k, pre, v, none, post, cs, _, e, M => by
    obtain ⟨h1, h2⟩ : v.1 = d.T ∧ 0 < at2 wt d.T v.2 := wf pre v none post e
    have hvv := hv v (by rw [e]; simp [keys])
    have ef : follow f k none cs = cs := by cases k <;> rfl
    rw [ef]
    refine ⟨M.len, M.lo, M.hi, fun t p ht hp => ?_⟩
    have a := M.nn t p ht hp
    unfold owed at a
    by_cases q : p = v.2 ∧ v.1 ≤ t
    · have et : t = d.T := by omega
      have b := M.gT p hp
      unfold owed at b
      rw [← et] at b
      rw [if_pos q] at b
      have : 0 < at2 wt t p := by rw [et, q.1]; exact h2
      omega
    · rw [if_neg q] at a
      omega
  | 0, pre, v, some (here, num, sg), post, cs, hk, e, M => by
    have h := wf pre v _ post e
    have : pre = [] := List.eq_nil_of_length_eq_zero (by omega)
    subst this
    exact absurd h.1 (by simp [keys])
  | k + 1, pre, v, some (here, num, sg), post, cs, hk, e, M => by
    obtain ⟨hh, hs⟩ : here ∈ keys pre ∧ (v.1, v.2, num, sg) ∈ stepsOf d cs0 wt here.1 here.2 := wf pre v _ post e
    obtain ⟨pre1, way1, mid, e1⟩ : ∃ pre1 way1 mid, pre = pre1 ++ (here, way1) :: mid := by
      obtain ⟨⟨h', way1⟩, hx, ex⟩ := List.mem_map.mp hh
      obtain ⟨pre1, mid, e1⟩ := List.append_of_mem hx
      cases ex
      exact ⟨pre1, way1, mid, e1⟩
    have e2 : f = pre1 ++ (here, way1) :: (mid ++ (v, some (here, num, sg)) :: post) := by rw [e, e1]; simp
    have ew : wayOf f here = way1 := by
      unfold wayOf
      rw [lookup_split hn e2]
      rfl
    have hvp : v ∉ keys pre := by
      rw [e] at hn
      unfold keys at hn ⊢
      rw [List.map_append, List.nodup_append] at hn
      intro h
      exact hn.2.2 v h v (by simp) rfl
    have hhv := hv here (by rw [e2]; simp [keys])
    have up : ∀ n : Nd, n = here ∨ n ∈ keys pre1 → n ∈ keys pre := by
      intro n h
      rw [e1]
      rcases h with rfl | h
      · simp [keys]
      · unfold keys at h ⊢
        simp at h ⊢
        exact .inl h
    have ne : ∀ n : Nd, n = here ∨ n ∈ keys pre1 → n ≠ v := fun n h q => hvp (q ▸ up n h)
    have hl : pre1.length ≤ k := by
      have : pre.length = pre1.length + (mid.length + 1) := by rw [e1]; simp
      omega
    rcases mem_steps.mp hs with ⟨q, es⟩ | ⟨q, es⟩ | ⟨i, w, hi, ⟨q, es⟩ | ⟨q, es⟩⟩
    · -- later: more waits
      simp only [Prod.mk.injEq] at es
      obtain ⟨v1, v2, rfl, rfl⟩ := es
      have ef : follow f (k + 1) (some (here, none, 0)) cs = follow f k (wayOf f here) cs := rfl
      rw [ef, ew]
      have ow : ∀ t p, owed v t p ≤ owed here t p := by
        intro t p
        unfold owed
        split <;> split <;> omega
      refine follow_ok ok hn hv wf k pre1 here way1 _ cs hl e2 ⟨M.len, fun t p ht hp => ?_, fun n h => ?_, fun p hp => ?_, M.lo, M.hi, fun i w hi h => M.cl i w hi (.inr (up _ h)), fun i w hi h => M.ch i w hi (.inr (up _ h))⟩
      · have := M.nn t p ht hp
        have := ow t p
        omega
      · have := M.ge n (.inr (up n h))
        have := ow n.1 n.2
        omega
      · have := M.gT p hp
        have := ow d.T p
        omega
    · -- earlier: less waits
      simp only [Prod.mk.injEq] at es
      obtain ⟨v1, v2, rfl, rfl⟩ := es
      have ef : follow f (k + 1) (some (here, none, 0)) cs = follow f k (wayOf f here) cs := rfl
      rw [ef, ew]
      have ow : ∀ t p, ¬ (t = v.1 ∧ p = v.2) → owed here t p = owed v t p := by
        intro t p h
        unfold owed
        split <;> split <;> omega
      have ov : owed here v.1 v.2 = owed v v.1 v.2 - 1 := by
        unfold owed
        split <;> split <;> omega
      have big : 1 ≤ res d S W cs v.1 v.2 + owed v v.1 v.2 := by
        have := M.ge v (.inl rfl)
        have h2 := q.2
        rw [← v1, ← v2] at h2
        omega
      refine follow_ok ok hn hv wf k pre1 here way1 _ cs hl e2 ⟨M.len, fun t p ht hp => ?_, fun n h => ?_, fun p hp => ?_, M.lo, M.hi, fun i w hi h => M.cl i w hi (.inr (up _ h)), fun i w hi h => M.ch i w hi (.inr (up _ h))⟩
      · by_cases c : t = v.1 ∧ p = v.2
        · rw [c.1, c.2, ov]; omega
        · rw [ow t p c]; exact M.nn t p ht hp
      · rw [ow n.1 n.2 (fun c => ne n h (Prod.ext c.1 c.2))]
        exact M.ge n (.inr (up n h))
      · rw [ow d.T p (fun c => by omega)]
        exact M.gT p hp
    · -- a walk carries one less
      simp only [Prod.mk.injEq] at es
      obtain ⟨v1, v2, rfl, rfl⟩ := es
      have il : i < cs.length := by rw [M.len]; exact (List.getElem?_eq_some_iff.mp hi).1
      have ef : follow f (k + 1) (some (here, some i, -1)) cs = follow f k (wayOf f here) (addAt cs i (-1)) := rfl
      rw [ef, ew]
      have er : ∀ t p, res d S W (addAt cs i (-1)) t p + owed here t p = res d S W cs t p + owed v t p := by
        intro t p
        rw [res_addAt S W cs (-1) t p hi il]
        unfold owed
        rw [v1, v2, ← q.1.1, ← q.1.2]
        split <;> split <;> split <;> split <;> omega
      have ec : ∀ j, (addAt cs i (-1)).getD j 0 = cs.getD j 0 + (if i = j then -1 else 0) := fun j => addAt_getD cs i (-1) j il
      have ev : (w.h, w.b) = v := Prod.ext v1.symm v2.symm
      have hm := M.cl i w hi (.inl ev)
      refine follow_ok ok hn hv wf k pre1 here way1 _ _ hl e2 ⟨by rw [addAt_length]; exact M.len, fun t p ht hp => ?_, fun n h => ?_, fun p hp => ?_, fun j u hj => ?_, fun j u hj => ?_, fun j u hj h => ?_, fun j u hj h => ?_⟩
      · rw [er]; exact M.nn t p ht hp
      · rw [er]; exact M.ge n (.inr (up n h))
      · rw [er]; exact M.gT p hp
      · rw [ec j]
        by_cases c : i = j
        · subst c
          rw [hi] at hj; cases hj
          have := q.2
          rw [if_pos rfl]; omega
        · rw [if_neg c]; have := M.lo j u hj; omega
      · rw [ec j]
        have := M.hi j u hj
        split <;> omega
      · rw [ec j]
        by_cases c : i = j
        · subst c
          rw [hi] at hj; cases hj
          exact absurd ev (ne _ h)
        · rw [if_neg c]; have := M.cl j u hj (.inr (up _ h)); omega
      · rw [ec j]
        have := M.ch j u hj (.inr (up _ h))
        split <;> omega
    · -- a walk carries one more
      simp only [Prod.mk.injEq] at es
      obtain ⟨v1, v2, rfl, rfl⟩ := es
      have il : i < cs.length := by rw [M.len]; exact (List.getElem?_eq_some_iff.mp hi).1
      have ef : follow f (k + 1) (some (here, some i, 1)) cs = follow f k (wayOf f here) (addAt cs i 1) := rfl
      rw [ef, ew]
      have er : ∀ t p, res d S W (addAt cs i 1) t p + owed here t p = res d S W cs t p + owed v t p := by
        intro t p
        rw [res_addAt S W cs 1 t p hi il]
        unfold owed
        rw [v1, v2, ← q.1.1, ← q.1.2]
        split <;> split <;> split <;> split <;> omega
      have ec : ∀ j, (addAt cs i 1).getD j 0 = cs.getD j 0 + (if i = j then 1 else 0) := fun j => addAt_getD cs i 1 j il
      have ev : (w.h + 1, w.e) = v := Prod.ext v1.symm v2.symm
      have hm := M.ch i w hi (.inl ev)
      refine follow_ok ok hn hv wf k pre1 here way1 _ _ hl e2 ⟨by rw [addAt_length]; exact M.len, fun t p ht hp => ?_, fun n h => ?_, fun p hp => ?_, fun j u hj => ?_, fun j u hj => ?_, fun j u hj h => ?_, fun j u hj h => ?_⟩
      · rw [er]; exact M.nn t p ht hp
      · rw [er]; exact M.ge n (.inr (up n h))
      · rw [er]; exact M.gT p hp
      · rw [ec j]
        have := M.lo j u hj
        split <;> omega
      · rw [ec j]
        by_cases c : i = j
        · subst c
          rw [hi] at hj; cases hj
          have := q.2
          rw [if_pos rfl]; omega
        · rw [if_neg c]; have := M.hi j u hj; omega
      · rw [ec j]
        have := M.cl j u hj (.inr (up _ h))
        split <;> omega
      · rw [ec j]
        by_cases c : i = j
        · subst c
          rw [hi] at hj; cases hj
          exact absurd ev (ne _ h)
        · rw [if_neg c]; have := M.ch j u hj (.inr (up _ h)); omega
end Dry

/-! The promise: the told umbrellas are a plan, and no line shows more. -/
namespace Dry

theorem addL_length {P : Nat} {a b : List Int} (ha : a.length = P) (hb : b.length = P) : (addL a b).length = P := by
  simp [addL, ha, hb]
theorem addL_getD {P : Nat} {a b : List Int} (ha : a.length = P) (hb : b.length = P) (p : Nat) : (addL a b).getD p 0 = a.getD p 0 + b.getD p 0 := by
  unfold addL
  simp only [List.getD_eq_getElem?_getD, List.getElem?_zipWith]
  by_cases h : p < P
  · have h1 : p < a.length := by omega
    have h2 : p < b.length := by omega
    simp [h1, h2]
  · have h1 : ¬ p < a.length := by omega
    have h2 : ¬ p < b.length := by omega
    simp [h1, h2]
theorem getD_big {xs : List Int} {p : Nat} (h : xs.length ≤ p) : xs.getD p 0 = 0 := by
  simp [List.getD_eq_getElem?_getD, h]

structure Good (d : Day) (G W : List Int) (x : Fl) : Prop where
  len : x.more.length = d.P
  nn : ∀ p, 0 ≤ x.more.getD p 0
  feas : Feas d (addL G x.more) W x.car

theorem somes_mem {d : Day} {f : Fd} {x : Fl} {p : Nat} : p ∈ somes d f x ↔ p < d.P ∧ (0, p) ∈ keys f ∧ 0 < x.more.getD p 0 := by
  unfold somes
  simp

theorem found_spec {d : Day} (ok : d.Ok) (G W : List Int) (x : Fl) : PIv d x.car (waits d (addL G x.more) W x.car) none (found d G W x) [] := reached_spec ok _ _

theorem res_start {d : Day} {S S' W cs : List Int} {p0 : Nat} (h : ∀ p, S'.getD p 0 = S.getD p 0 - (if p = p0 then 1 else 0)) (t p : Nat) : res d S' W cs t p = res d S W cs t p - (if p = p0 then 1 else 0) := by
  unfold res wait
  rw [h p]
  omega

theorem lessen_good {d : Day} (ok : d.Ok) {G W : List Int} (hG : G.length = d.P) (hW : W.length = d.P) {x y : Fl} (g : Good d G W x) (h : lessen d G W x = some y) :
    Good d G W y ∧ y.more.sum = x.more.sum - 1 := by
  unfold lessen at h
  have I := found_spec ok G W x
  revert h
  generalize hf : found d G W x = f at I
  intro h
  dsimp only at h
  split at h
  · cases h
  · rename_i p rest hs
    cases h
    have hp : p ∈ somes d f x := by rw [hs]; simp
    obtain ⟨hp1, hp2, hp3⟩ := somes_mem.mp hp
    have pl : p < x.more.length := by rw [g.len]; exact hp1
    have gm : ∀ q, (addAt x.more p (-1)).getD q 0 = x.more.getD q 0 + (if p = q then -1 else 0) := fun q => addAt_getD _ _ _ _ pl
    have hl : (addAt x.more p (-1)).length = d.P := by rw [addAt_length]; exact g.len
    refine ⟨⟨hl, fun q => ?_, ?_⟩, ?_⟩
    · show 0 ≤ (addAt x.more p (-1)).getD q 0
      rw [gm q]
      have := g.nn q
      by_cases e : p = q
      · subst e; rw [if_pos rfl]; omega
      · rw [if_neg e]; omega
    · show Feas d (addL G (addAt x.more p (-1))) W (follow f f.length (wayOf f (0, p)) x.car)
      obtain ⟨⟨n, way⟩, hx, ex⟩ := List.mem_map.mp hp2
      obtain ⟨pre, post, e1⟩ := List.append_of_mem hx
      cases ex
      have ew : wayOf f (0, p) = way := by
        unfold wayOf
        rw [lookup_split I.nd e1]
        rfl
      rw [ew]
      have hS : ∀ q, (addL G (addAt x.more p (-1))).getD q 0 = (addL G x.more).getD q 0 - (if q = p then 1 else 0) := by
        intro q
        rw [addL_getD hG hl, addL_getD hG g.len, gm q]
        by_cases e : p = q
        · subst e; rw [if_pos rfl, if_pos rfl]; omega
        · rw [if_neg e, if_neg (fun z => e z.symm)]; omega
      have er : ∀ t q, res d (addL G (addAt x.more p (-1))) W x.car t q + owed (0, p) t q = res d (addL G x.more) W x.car t q := by
        intro t q
        rw [res_start hS]
        unfold owed
        by_cases e : q = p
        · rw [if_pos e, if_pos ⟨e, Nat.zero_le _⟩]; omega
        · rw [if_neg e, if_neg (fun z => e z.1)]; omega
      have sp : ∀ t q, t ≤ d.T → q < d.P → at2 (waits d (addL G x.more) W x.car) t q = res d (addL G x.more) W x.car t q := fun t q ht hq =>
        waits_spec ok _ W x.car g.feas.len (addL_length hG g.len) hW t q ht hq
      refine follow_ok ok I.nd I.val I.wf f.length pre (0, p) way post x.car (by rw [e1]; simp) e1 ⟨g.feas.len, fun t q ht hq => ?_, fun n h => ?_, fun q hq => ?_, g.feas.lo, g.feas.hi, fun _ _ _ _ => Int.le_refl _, fun _ _ _ _ => Int.le_refl _⟩
      · rw [er]; exact g.feas.st t q ht hq
      · have hn : n ∈ keys f := by
          rw [e1]
          rcases h with rfl | h
          · simp [keys]
          · unfold keys at h ⊢
            simp at h ⊢
            exact .inl h
        have v := I.val n hn
        rw [er, sp n.1 n.2 v.1 v.2]
        exact Int.le_refl _
      · rw [er, sp d.T q (Nat.le_refl _) hq]
        exact Int.le_refl _
    · show (addAt x.more p (-1)).sum = _
      rw [sum_getD, sum_getD x.more, addAt_length]
      have : sumP (fun q => (addAt x.more p (-1)).getD q 0) x.more.length = sumP (fun q => x.more.getD q 0) x.more.length + sumP (fun q => if p = q then -1 else 0) x.more.length := by
        rw [← sumP_add]
        exact sumP_congr _ fun q _ => gm q
      rw [this, sumP_single, if_pos pl]
      omega

theorem sum_zero_all {xs : List Int} (nn : ∀ p, 0 ≤ xs.getD p 0) (h : xs.sum ≤ 0) (p : Nat) : xs.getD p 0 = 0 := by
  by_cases hp : p < xs.length
  · rw [sum_getD] at h
    have h1 : sumP (fun q => if p = q then xs.getD p 0 else 0) xs.length ≤ sumP (fun q => xs.getD q 0) xs.length := by
      refine sumP_le _ fun q _ => ?_
      by_cases e : p = q
      · subst e; rw [if_pos rfl]; exact Int.le_refl _
      · rw [if_neg e]; exact nn q
    rw [sumP_single, if_pos hp] at h1
    have := nn p
    omega
  · exact getD_big (by omega)
theorem sum_nonneg {xs : List Int} (nn : ∀ p, 0 ≤ xs.getD p 0) : 0 ≤ xs.sum := by
  rw [sum_getD]
  exact sumP_nonneg _ fun p _ => nn p
theorem lessen_none_iff {d : Day} {G W : List Int} {x : Fl} : lessen d G W x = none ↔ somes d (found d G W x) x = [] := by
  unfold lessen
  dsimp only
  split
  · rename_i h; simp [h]
  · rename_i p r h; simp [h]
theorem settle_good {d : Day} (ok : d.Ok) {G W : List Int} (hG : G.length = d.P) (hW : W.length = d.P) : ∀ (n : Nat) (x : Fl), Good d G W x → x.more.sum ≤ n →
    Good d G W (settle d G W n x) ∧ lessen d G W (settle d G W n x) = none
  | 0, x, g, h => by
    refine ⟨g, lessen_none_iff.mpr ?_⟩
    rw [List.eq_nil_iff_forall_not_mem]
    intro p hp
    have := (somes_mem.mp hp).2.2
    have z := sum_zero_all g.nn h p
    show False
    have e : settle d G W 0 x = x := rfl
    rw [e] at this
    omega
  | n + 1, x, g, h => by
    unfold settle
    split
    · rename_i e; exact ⟨g, e⟩
    · rename_i y e
      have hy := lessen_good ok hG hW g e
      exact settle_good ok hG hW n y hy.1 (by rw [hy.2]; omega)

/-! ### at first -/
theorem wi_nn (w : Wk) : 0 ≤ w.wi := by unfold Wk.wi; split <;> omega
theorem wi_le_r {w : Wk} (h : 1 ≤ w.r) : w.wi ≤ (w.r : Int) := by unfold Wk.wi; split <;> omega
theorem more0 : ∀ (ws : List Wk) (W : List Int), (∀ w ∈ ws, w.b < W.length) → (ws.foldl (fun m w => addAt m w.b w.wi) W).length = W.length ∧
    ∀ p, (ws.foldl (fun m w => addAt m w.b w.wi) W).getD p 0 = W.getD p 0 + sw (fun w => decide (w.b = p)) ws (ws.map Wk.wi)
  | [], W, _ => by simp [sw]
  | w :: ws, W, h => by
    have ih := more0 ws (addAt W w.b w.wi) (fun v hv => by rw [addAt_length]; exact h v (by simp [hv]))
    refine ⟨by rw [List.foldl_cons, ih.1, addAt_length], fun p => ?_⟩
    rw [List.foldl_cons, ih.2 p, addAt_getD _ _ _ _ (h w (by simp))]
    show _ = _ + ((if decide (w.b = p) = true then w.wi else 0) + _)
    simp
    omega
theorem sw_nn (q : Wk → Bool) : ∀ ws : List Wk, 0 ≤ sw q ws (ws.map Wk.wi)
  | [] => by simp [sw]
  | w :: ws => by
    have := sw_nn q ws
    have := wi_nn w
    show 0 ≤ (if q w = true then w.wi else 0) + sw q ws (ws.map Wk.wi)
    split <;> omega
theorem sw_le {q q' : Wk → Bool} (h : ∀ w, q w = true → q' w = true) : ∀ ws : List Wk, sw q ws (ws.map Wk.wi) ≤ sw q' ws (ws.map Wk.wi)
  | [] => by simp [sw]
  | w :: ws => by
    have := sw_le h ws
    have := wi_nn w
    have h1 := h w
    show (if q w = true then w.wi else 0) + sw q ws (ws.map Wk.wi) ≤ (if q' w = true then w.wi else 0) + sw q' ws (ws.map Wk.wi)
    by_cases a : q w = true
    · rw [if_pos a, if_pos (h1 a)]; omega
    · rw [if_neg a]
      split <;> omega
theorem flow0_good {d : Day} (ok : d.Ok) {G W : List Int} (hG : G.length = d.P) (hW : W.length = d.P) (gn : ∀ p, 0 ≤ G.getD p 0) (wn : ∀ p, 0 ≤ W.getD p 0) : Good d G W (flow0 d W) := by
  obtain ⟨m1, m2⟩ := more0 d.ws W (fun w hw => by rw [hW]; exact ok.b w hw)
  have hl : (flow0 d W).more.length = d.P := by show (d.ws.foldl _ W).length = _; rw [m1, hW]
  have cg : ∀ i w, d.ws[i]? = some w → (d.ws.map Wk.wi).getD i 0 = w.wi := fun i w hi => by simp [List.getD_eq_getElem?_getD, hi]
  refine ⟨hl, fun p => ?_, ⟨by simp [flow0], fun i w hi => ?_, fun i w hi => ?_, fun t p ht hp => ?_⟩⟩
  · show 0 ≤ (d.ws.foldl _ W).getD p 0
    rw [m2 p]
    have := wn p
    have := sw_nn (fun w => decide (w.b = p)) d.ws
    omega
  · show _ ≤ (d.ws.map Wk.wi).getD i 0
    rw [cg i w hi]; exact Int.le_refl _
  · show (d.ws.map Wk.wi).getD i 0 ≤ _
    rw [cg i w hi]; exact wi_le_r (ok.r w (List.mem_of_getElem? hi))
  · show 0 ≤ res d _ W (d.ws.map Wk.wi) t p
    unfold res wait
    rw [addL_getD hG hl]
    have e : (flow0 d W).more.getD p 0 = W.getD p 0 + sw (fun w => decide (w.b = p)) d.ws (d.ws.map Wk.wi) := m2 p
    rw [e]
    have a := gn p
    have b : 0 ≤ inS d.ws (d.ws.map Wk.wi) t p := sw_nn _ d.ws
    have c : outS d.ws (d.ws.map Wk.wi) (t + 1) p ≤ sw (fun w => decide (w.b = p)) d.ws (d.ws.map Wk.wi) := sw_le (fun w h => by simp at h ⊢; exact h.2) d.ws
    have l : low d.T W t p ≤ W.getD p 0 := by
      unfold low
      split
      · exact Int.le_refl _
      · exact wn p
    omega
theorem settled_good {d : Day} (ok : d.Ok) {G W : List Int} (hG : G.length = d.P) (hW : W.length = d.P) (gn : ∀ p, 0 ≤ G.getD p 0) (wn : ∀ p, 0 ≤ W.getD p 0) :
    Good d G W (settled d G W) ∧ lessen d G W (settled d G W) = none := by
  have g := flow0_good ok hG hW gn wn
  exact settle_good ok hG hW _ _ g (by have := sum_nonneg g.nn; omega)

/-! ### the line at the end -/
theorem count_prefix (q : Nat → Bool) : ∀ n, (∀ m, m + 1 < n → q (m + 1) = true → q m = true) → ∃ k, k ≤ n ∧ ((List.range n).filter q).length = k ∧ ∀ m, m < n → (q m = true ↔ m < k)
  | 0, _ => ⟨0, by omega, rfl, fun m h => by omega⟩
  | n + 1, h => by
    obtain ⟨k, k1, k2, k3⟩ := count_prefix q n (fun m hm => h m (by omega))
    rw [List.range_succ, List.filter_append, List.length_append]
    by_cases e : q n = true
    · have ek : k = n := by
        cases n with
        | zero => omega
        | succ n =>
          have := (k3 n (by omega)).mp (h n (by omega) e)
          omega
      refine ⟨n + 1, by omega, ?_, fun m hm => ?_⟩
      · simp [e]; omega
      · by_cases c : m = n
        · subst c; simp [e]
        · rw [k3 m (by omega)]; omega
    · refine ⟨k, by omega, ?_, fun m hm => ?_⟩
      · simp [e]; omega
      · by_cases c : m = n
        · subst c; simp [e]; omega
        · exact k3 m (by omega)
def kOf (l : List Nat) (p : Nat) : Nat := l.getD p 0
theorem lineOf_spec {d : Day} {cs : List Int} {wt : List (List Int)} {f : Fd} (I : PIv d cs wt none f []) (p : Nat) (hp : p < d.P) :
    kOf (lineOf d f) p ≤ d.T + 1 ∧ ∀ m, m ≤ d.T → ((m, p) ∉ keys f ↔ m < kOf (lineOf d f) p) := by
  obtain ⟨k, k1, k2, k3⟩ := count_prefix (fun m => decide ((m, p) ∉ keys f)) (d.T + 1) (fun m hm h => by
    simp at h ⊢
    intro hin
    apply h
    rcases I.clo (m, p) hin with c | c | c
    · simp at c
    · cases c
    · exact c (m + 1, p, none, 0) (mem_steps.mpr (.inl ⟨by show m < d.T; omega, rfl⟩)))
  have e : kOf (lineOf d f) p = k := by
    unfold kOf lineOf
    simp only [List.getD_eq_getElem?_getD, List.getElem?_map, List.getElem?_range hp, Option.map_some, Option.getD_some]
    exact k2
  rw [e]
  refine ⟨k1, fun m hm => ?_⟩
  have := k3 m (by omega)
  simpa using this
theorem cut_tight {d : Day} (ok : d.Ok) {G W : List Int} (hG : G.length = d.P) (hW : W.length = d.P) {x : Fl} (g : Good d G W x) :
    raw d W (kOf (lineFl d G W x)) = inside d (addL G x.more) (kOf (lineFl d G W x)) := by
  have I := found_spec ok G W x
  have sp : ∀ t q, t ≤ d.T → q < d.P → at2 (waits d (addL G x.more) W x.car) t q = res d (addL G x.more) W x.car t q := fun t q ht hq =>
    waits_spec ok _ W x.car g.feas.len (addL_length hG g.len) hW t q ht hq
  have ls := fun p hp => lineOf_spec I p hp
  have clo : ∀ n ∈ keys (found d G W x), ∀ s ∈ stepsOf d x.car (waits d (addL G x.more) W x.car) n.1 n.2, (s.1, s.2.1) ∈ keys (found d G W x) := fun n hn => by
    rcases I.clo n hn with c | c | c
    · simp at c
    · cases c
    · exact c
  unfold lineFl
  refine tight ok g.feas.len _ (fun p hp h => ?_) (fun p hp => (ls p hp).1) (fun i w hi hL hC => ?_) (fun i w hi hL hC => ?_)
  · obtain ⟨a, b⟩ := ls p hp
    generalize kOf (lineOf d (found d G W x)) p = k at a b h
    have nn := g.feas.st (k - 1) p (by omega) hp
    have h1 : (k - 1, p) ∉ keys (found d G W x) := (b (k - 1) (by omega)).mpr (by omega)
    by_cases c : k = d.T + 1
    · have e : k - 1 = d.T := by omega
      rw [e] at nn h1 ⊢
      have : ¬ 0 < at2 (waits d (addL G x.more) W x.car) d.T p := fun q => h1 (I.snk p hp q)
      rw [sp d.T p (Nat.le_refl _) hp] at this
      omega
    · have h2 : (k, p) ∈ keys (found d G W x) := by
        have := b k (by omega)
        by_cases z : (k, p) ∈ keys (found d G W x)
        · exact z
        · have := this.mp z; omega
      have : ¬ 0 < at2 (waits d (addL G x.more) W x.car) (k - 1) p := fun q => h1 (clo (k, p) h2 (k - 1, p, none, 0) (mem_steps.mpr (.inr (.inl ⟨⟨h, q⟩, rfl⟩))))
      rw [sp (k - 1) p (by omega) hp] at this
      omega
  · have hw := List.mem_of_getElem? hi
    have hT := ok.h w hw
    have a := (ls w.b (ok.b w hw)).2 w.h (by omega)
    have b := (ls w.e (ok.e w hw)).2 (w.h + 1) (by omega)
    unfold leaves at hL
    unfold comes at hC
    have n1 := a.mpr (by simpa using hL)
    have n2 : (w.h + 1, w.e) ∈ keys (found d G W x) := by
      by_cases z : (w.h + 1, w.e) ∈ keys (found d G W x)
      · exact z
      · have := b.mp z
        simp at hC
        omega
    have : ¬ w.wi < x.car.getD i 0 := fun q => n1 (clo _ n2 (w.h, w.b, some i, -1) (mem_steps.mpr (.inr (.inr ⟨i, w, hi, .inl ⟨⟨⟨rfl, rfl⟩, q⟩, rfl⟩⟩))))
    have := g.feas.lo i w hi
    omega
  · have hw := List.mem_of_getElem? hi
    have hT := ok.h w hw
    have a := (ls w.b (ok.b w hw)).2 w.h (by omega)
    have b := (ls w.e (ok.e w hw)).2 (w.h + 1) (by omega)
    unfold leaves at hL
    unfold comes at hC
    have n1 := b.mpr (by simpa using hC)
    have n2 : (w.h, w.b) ∈ keys (found d G W x) := by
      by_cases z : (w.h, w.b) ∈ keys (found d G W x)
      · exact z
      · have := a.mp z
        simp at hL
        omega
    have : ¬ x.car.getD i 0 < (w.r : Int) := fun q => n1 (clo _ n2 (w.h + 1, w.e, some i, 1) (mem_steps.mpr (.inr (.inr ⟨i, w, hi, .inr ⟨⟨⟨rfl, rfl⟩, q⟩, rfl⟩⟩))))
    have := g.feas.hi i w hi
    omega
theorem lineFl_le {d : Day} (ok : d.Ok) (G W : List Int) (x : Fl) (p : Nat) (hp : p < d.P) : kOf (lineFl d G W x) p ≤ d.T + 1 := (lineOf_spec (found_spec ok G W x) p hp).1
theorem lineFl_length (d : Day) (G W : List Int) (x : Fl) : (lineFl d G W x).length = d.P := by simp [lineFl, lineOf]
/-- what starts inside: the given, and all that is more -/
theorem cut_inside {d : Day} (ok : d.Ok) {G W : List Int} (hG : G.length = d.P) {x : Fl} (g : Good d G W x) (hn : lessen d G W x = none) :
    inside d (addL G x.more) (kOf (lineFl d G W x)) = inside d G (kOf (lineFl d G W x)) + x.more.sum := by
  rw [sum_getD, g.len]
  unfold inside
  rw [← sumP_add]
  refine sumP_congr _ fun p hp => ?_
  by_cases h : 0 < kOf (lineFl d G W x) p
  · rw [if_pos h, if_pos h, addL_getD hG g.len]
  · rw [if_neg h, if_neg h]
    have hin : (0, p) ∈ keys (found d G W x) := by
      have := (lineOf_spec (found_spec ok G W x) p hp).2 0 (Nat.zero_le _)
      by_cases z : (0, p) ∈ keys (found d G W x)
      · exact z
      · exact absurd (this.mp z) h
    have hs := lessen_none_iff.mp hn
    have : ¬ 0 < x.more.getD p 0 := fun q => by
      have hm : p ∈ somes d (found d G W x) x := somes_mem.mpr ⟨hp, hin, q⟩
      rw [hs] at hm
      simp at hm
    have := g.nn p
    omega

/-! ### what is told -/
theorem zeros_length (d : Day) : (zeros d).length = d.P := by simp [zeros]
theorem zeros_getD (d : Day) (p : Nat) : (zeros d).getD p 0 = 0 := replicate_getD _ _
theorem inside_zeros (d : Day) (k : Nat → Nat) : inside d (zeros d) k = 0 := by
  unfold inside
  rw [sumP_congr d.P (g := fun _ => 0) (fun p _ => by rw [zeros_getD]; split <;> rfl), sumP_zero]
theorem inside_le_sum {d : Day} {S : List Int} (hS : S.length = d.P) (nn : ∀ p, 0 ≤ S.getD p 0) (k : Nat → Nat) : inside d S k ≤ S.sum := by
  rw [sum_getD, hS]
  refine sumP_le _ fun p _ => ?_
  have := nn p
  split <;> omega
theorem inside_nn {d : Day} {S : List Int} (nn : ∀ p, 0 ≤ S.getD p 0) (k : Nat → Nat) : 0 ≤ inside d S k :=
  sumP_nonneg _ fun p _ => by
    have := nn p
    split <;> omega

def shows (d : Day) (W : List Int) (k : Nat → Nat) : Int := if raw d W k > 0 then raw d W k else 0

structure Told (d : Day) (W : List Int) (n : Int) (S cs : List Int) : Prop where
  len : S.length = d.P
  nn : ∀ p, 0 ≤ S.getD p 0
  sum : S.sum = n
  feas : Feas d S W cs

theorem addL_zeros {d : Day} {a : List Int} (ha : a.length = d.P) : addL (zeros d) a = a := by
  apply List.ext_getElem?
  intro p
  have h := addL_getD (zeros_length d) ha p
  have l := addL_length (zeros_length d) ha
  by_cases hp : p < d.P
  · have h1 : p < a.length := by omega
    have h2 : p < (addL (zeros d) a).length := by omega
    rw [zeros_getD] at h
    simp only [List.getD_eq_getElem?_getD, List.getElem?_eq_getElem h1, List.getElem?_eq_getElem h2, Option.getD_some] at h
    rw [List.getElem?_eq_getElem h1, List.getElem?_eq_getElem h2, h]
    simp
  · rw [List.getElem?_eq_none (by omega), List.getElem?_eq_none (by omega)]

theorem fewest_told {d : Day} (ok : d.Ok) {W : List Int} (hW : W.length = d.P) (wn : ∀ p, 0 ≤ W.getD p 0) : Told d W (fewest d W).1 (fewest d W).2.1 (fewest d W).2.2 := by
  have g := settled_good ok (zeros_length d) hW (fun p => by rw [zeros_getD]; exact Int.le_refl _) wn
  have e := addL_zeros (d := d) g.1.len
  refine ⟨addL_length (zeros_length d) g.1.len, fun p => ?_, ?_, g.1.feas⟩
  · show 0 ≤ (addL (zeros d) _).getD p 0
    rw [e]; exact g.1.nn p
  · show (addL (zeros d) _).sum = _
    rw [e]; rfl
/-- the told line shows just the told number -/
theorem line_raw {d : Day} (ok : d.Ok) {W : List Int} (hW : W.length = d.P) (wn : ∀ p, 0 ≤ W.getD p 0) : raw d W (kOf (line d W)) = (fewest d W).1 := by
  have g := settled_good ok (zeros_length d) hW (fun p => by rw [zeros_getD]; exact Int.le_refl _) wn
  unfold line
  rw [cut_tight ok (zeros_length d) hW g.1, cut_inside ok (zeros_length d) g.1 g.2, inside_zeros]
  show 0 + _ = (settled d (zeros d) W).more.sum
  omega
theorem fewest_nn {d : Day} (ok : d.Ok) {W : List Int} (hW : W.length = d.P) (wn : ∀ p, 0 ≤ W.getD p 0) : 0 ≤ (fewest d W).1 := by
  have t := fewest_told ok hW wn
  rw [← t.sum]
  exact sum_nonneg t.nn
theorem line_shows {d : Day} (ok : d.Ok) {W : List Int} (hW : W.length = d.P) (wn : ∀ p, 0 ≤ W.getD p 0) : shows d W (kOf (line d W)) = (fewest d W).1 := by
  unfold shows
  rw [line_raw ok hW wn]
  have := fewest_nn ok hW wn
  split <;> omega
/-- no line shows more -/
theorem shows_le {d : Day} (ok : d.Ok) {W : List Int} (hW : W.length = d.P) (wn : ∀ p, 0 ≤ W.getD p 0) (k : Nat → Nat) (hk : ∀ p, p < d.P → k p ≤ d.T + 1) : shows d W k ≤ (fewest d W).1 := by
  have t := fewest_told ok hW wn
  have h1 := weak ok t.feas k hk
  have h2 := inside_le_sum t.len t.nn k
  rw [t.sum] at h2
  have := fewest_nn ok hW wn
  unfold shows
  split <;> omega
end Dry

/-! Plans judged: one truth for the program's way and the law's. -/
namespace Dry
def nnRow (row : List Int) : Bool := row.all fun x => decide (0 ≤ x)
def planB (d : Day) (S W cs : List Int) : Bool := (waits d S W cs).all nnRow
theorem nnRow_iff {row : List Int} : nnRow row = true ↔ ∀ p, p < row.length → 0 ≤ row.getD p 0 := by
  unfold nnRow
  rw [List.all_eq_true]
  constructor
  · intro h p hp
    have e : row.getD p 0 = row[p] := by simp [List.getD_eq_getElem?_getD, hp]
    rw [e]
    exact of_decide_eq_true (h _ (List.getElem_mem hp))
  · intro h x hx
    obtain ⟨p, hp, rfl⟩ := List.getElem_of_mem hx
    have e : row.getD p 0 = row[p] := by simp [List.getD_eq_getElem?_getD, hp]
    have := h p hp
    rw [e] at this
    exact decide_eq_true this
theorem leftRow_length {d : Day} (ok : d.Ok) (S cs : List Int) (hl : cs.length = d.ws.length) (hS : S.length = d.P) (t : Nat) : (leftRow d S cs t).length = d.P := by
  have rsp := rowAt_spec ok S cs hl hS t
  have lf := left_fold t d.ws cs (rowAt d S cs t) (fun w hw => by rw [rsp.1]; exact ok.b w hw) hl.symm
  unfold leftRow
  rw [lf.1, rsp.1]
theorem leftRow_eq {d : Day} (ok : d.Ok) (S cs : List Int) (hl : cs.length = d.ws.length) (hS : S.length = d.P) (t : Nat) : leftRow d S cs t = List.zipWith (fun s l => s - l) (rowAt d S cs t) (moved d t cs).1 := by
  have rsp := rowAt_spec ok S cs hl hS t
  have lf := left_fold t d.ws cs (rowAt d S cs t) (fun w hw => by rw [rsp.1]; exact ok.b w hw) hl.symm
  obtain ⟨m1, m2, m3, m4⟩ := moved_spec ok t cs hl
  apply List.ext_getElem?
  intro p
  by_cases hp : p < d.P
  · have h1 : p < (leftRow d S cs t).length := by rw [leftRow_length ok S cs hl hS]; exact hp
    have h2 : p < (List.zipWith (fun s l => s - l) (rowAt d S cs t) (moved d t cs).1).length := by rw [List.length_zipWith, rsp.1, m1]; omega
    have e := lf.2 p
    have e1 : (leftRow d S cs t).getD p 0 = (leftRow d S cs t)[p] := by simp [List.getD_eq_getElem?_getD, h1]
    have e2 : (leftRow d S cs t).getD p 0 = (rowAt d S cs t).getD p 0 - (moved d t cs).1.getD p 0 := by
      rw [m3 p]; exact e
    rw [List.getElem?_eq_getElem h1, List.getElem?_eq_getElem h2, ← e1, e2, List.getElem_zipWith]
    have q1 : p < (rowAt d S cs t).length := by rw [rsp.1]; exact hp
    have q2 : p < (moved d t cs).1.length := by rw [m1]; exact hp
    simp [List.getD_eq_getElem?_getD, q1, q2]
  · rw [List.getElem?_eq_none (by rw [leftRow_length ok S cs hl hS]; omega), List.getElem?_eq_none (by rw [List.length_zipWith, rsp.1, m1]; omega)]
theorem planB_iff {d : Day} (ok : d.Ok) {S W cs : List Int} (hl : cs.length = d.ws.length) (hS : S.length = d.P) (hW : W.length = d.P) : planB d S W cs = true ↔ ∀ t p, t ≤ d.T → p < d.P → 0 ≤ res d S W cs t p := by
  unfold planB
  rw [List.all_eq_true]
  have hwl : (waits d S W cs).length = d.T + 1 := by simp [waits]
  have hrl : ∀ row ∈ waits d S W cs, row.length = d.P := by
    intro row h
    unfold waits at h
    rcases List.mem_append.mp h with h | h
    · obtain ⟨t, _, rfl⟩ := List.mem_map.mp h
      exact leftRow_length ok S cs hl hS t
    · obtain rfl := List.mem_singleton.mp h
      rw [List.length_zipWith, (rowAt_spec ok S cs hl hS d.T).1, hW, Nat.min_self]
  constructor
  · intro h t p ht hp
    rw [← waits_spec ok S W cs hl hS hW t p ht hp]
    have ht' : t < (waits d S W cs).length := by omega
    have e : (waits d S W cs).getD t [] = (waits d S W cs)[t] := by simp [List.getD_eq_getElem?_getD, ht']
    have hm := List.getElem_mem ht'
    unfold at2
    rw [e]
    exact nnRow_iff.mp (h _ hm) p (by rw [hrl _ hm]; exact hp)
  · intro h row hr
    obtain ⟨t, ht, rfl⟩ := List.getElem_of_mem hr
    refine nnRow_iff.mpr fun p hp => ?_
    rw [hrl _ (List.getElem_mem ht)] at hp
    have := h t p (by omega) hp
    rw [← waits_spec ok S W cs hl hS hW t p (by omega) hp] at this
    unfold at2 at this
    have e : (waits d S W cs).getD t [] = (waits d S W cs)[t] := by simp [List.getD_eq_getElem?_getD, ht]
    rw [e] at this
    exact this
theorem planB_feas {d : Day} (ok : d.Ok) {S W cs : List Int} (hS : S.length = d.P) (hW : W.length = d.P) (F : Feas d S W cs) : planB d S W cs = true := (planB_iff ok F.len hS hW).mpr F.st
theorem feas_planB {d : Day} (ok : d.Ok) {S W cs : List Int} (hl : cs.length = d.ws.length) (hS : S.length = d.P) (hW : W.length = d.P) (lo : ∀ i w, d.ws[i]? = some w → w.wi ≤ cs.getD i 0) (hi : ∀ i w, d.ws[i]? = some w → cs.getD i 0 ≤ (w.r : Int)) (h : planB d S W cs = true) : Feas d S W cs :=
  ⟨hl, lo, hi, (planB_iff ok hl hS hW).mp h⟩
/-- no fewer, no more than this -/
theorem more0_sum : ∀ (ws : List Wk) (W : List Int), (∀ w ∈ ws, w.b < W.length) → (ws.foldl (fun m w => addAt m w.b w.wi) W).sum = W.sum + (ws.map Wk.wi).sum
  | [], W, _ => by simp
  | w :: ws, W, h => by
    have h0 := h w (by simp)
    rw [List.foldl_cons, more0_sum ws (addAt W w.b w.wi) (fun v hv => by rw [addAt_length]; exact h v (by simp [hv])), List.map_cons, List.sum_cons]
    have : (addAt W w.b w.wi).sum = W.sum + w.wi := by
      rw [sum_getD, addAt_length, sum_getD W]
      have e : sumP (fun p => (addAt W w.b w.wi).getD p 0) W.length = sumP (fun p => W.getD p 0) W.length + sumP (fun p => if w.b = p then w.wi else 0) W.length := by
        rw [← sumP_add]
        exact sumP_congr _ fun p _ => addAt_getD _ _ _ _ h0
      rw [e, sumP_single, if_pos h0]
    rw [this]
    omega
theorem settle_sum {d : Day} (ok : d.Ok) {G W : List Int} (hG : G.length = d.P) (hW : W.length = d.P) : ∀ (n : Nat) (x : Fl), Good d G W x → (settle d G W n x).more.sum ≤ x.more.sum
  | 0, _, _ => Int.le_refl _
  | n + 1, x, g => by
    unfold settle
    split
    · exact Int.le_refl _
    · rename_i y e
      have hy := lessen_good ok hG hW g e
      have := settle_sum ok hG hW n y hy.1
      omega
theorem settled_sum {d : Day} (ok : d.Ok) {G W : List Int} (hG : G.length = d.P) (hW : W.length = d.P) (gn : ∀ p, 0 ≤ G.getD p 0) (wn : ∀ p, 0 ≤ W.getD p 0) : (settled d G W).more.sum ≤ W.sum + (d.ws.map Wk.wi).sum := by
  have h := settle_sum ok hG hW (flow0 d W).more.sum.toNat (flow0 d W) (flow0_good ok hG hW gn wn)
  have e : (flow0 d W).more.sum = W.sum + (d.ws.map Wk.wi).sum := more0_sum d.ws W (fun w hw => by rw [hW]; exact ok.b w hw)
  unfold settled
  omega
theorem wi_sum_le : ∀ ws : List Wk, (ws.map Wk.wi).sum ≤ ws.length
  | [] => by simp
  | w :: ws => by
    have := wi_sum_le ws
    have : w.wi ≤ 1 := by unfold Wk.wi; split <;> omega
    rw [List.map_cons, List.sum_cons, List.length_cons]
    omega
theorem sum_le_mul {m : Int} (hm : 0 ≤ m) : ∀ W : List Int, (∀ p, W.getD p 0 ≤ m) → W.sum ≤ m * W.length
  | [], _ => by simp
  | x :: W, h => by
    have h1 := sum_le_mul hm W (fun p => by have := h (p + 1); simpa using this)
    have h0 := h 0
    simp at h0
    rw [List.sum_cons, List.length_cons]
    have : m * ((W.length + 1 : Nat) : Int) = m * W.length + m := by
      rw [Int.natCast_add, Int.mul_add]; simp
    omega
theorem getD_le_sum {xs : List Int} (nn : ∀ p, 0 ≤ xs.getD p 0) (p : Nat) : xs.getD p 0 ≤ xs.sum := by
  by_cases hp : p < xs.length
  · rw [sum_getD]
    have h1 : sumP (fun q => if p = q then xs.getD p 0 else 0) xs.length ≤ sumP (fun q => xs.getD q 0) xs.length := by
      refine sumP_le _ fun q _ => ?_
      by_cases e : p = q
      · subst e; rw [if_pos rfl]; exact Int.le_refl _
      · rw [if_neg e]; exact nn q
    rw [sumP_single, if_pos hp] at h1
    exact h1
  · rw [getD_big (by omega)]
    exact sum_nonneg nn
def addStep (hour : Nat) (l : List Int) (wc : Wk × Int) : List Int := if wc.1.h = hour then addAt l wc.1.e wc.2 else l
theorem add_fold (hour : Nat) : ∀ (ws : List Wk) (cs l : List Int), (∀ w ∈ ws, w.e < l.length) → ws.length = cs.length →
    ((ws.zip cs).foldl (addStep hour) l).length = l.length ∧
    ∀ p, ((ws.zip cs).foldl (addStep hour) l).getD p 0 = l.getD p 0 + sw (fun w => decide (w.h = hour) && decide (w.e = p)) ws cs
  | [], _, _, _, _ => by simp [sw]
  | _ :: _, [], _, _, h => by simp at h
  | w :: ws, c :: cs, l, hb, hl => by
    have L : (addStep hour l (w, c)).length = l.length := by
      unfold addStep; split <;> simp [addAt_length]
    have ih := add_fold hour ws cs (addStep hour l (w, c)) (fun v hv => by rw [L]; exact hb v (by simp [hv])) (by simpa using hl)
    refine ⟨ih.1.trans L, fun p => ?_⟩
    show ((ws.zip cs).foldl (addStep hour) (addStep hour l (w, c))).getD p 0 = _
    rw [ih.2 p]
    show _ = _ + ((if (decide (w.h = hour) && decide (w.e = p)) = true then c else 0) + _)
    unfold addStep
    by_cases e : w.h = hour
    · rw [if_pos e]
      show (addAt l w.e c).getD p 0 + _ = _
      rw [addAt_getD _ _ _ _ (hb w (by simp))]
      by_cases e2 : w.e = p <;> simp [e, e2] <;> omega
    · rw [if_neg e]; simp [e]
theorem addRow_eq {d : Day} (ok : d.Ok) (S cs : List Int) (hl : cs.length = d.ws.length) (hS : S.length = d.P) (t : Nat) : (d.ws.zip cs).foldl (addStep t) (leftRow d S cs t) = rowAt d S cs (t + 1) := by
  have ll := leftRow_length ok S cs hl hS t
  have af := add_fold t d.ws cs (leftRow d S cs t) (fun w hw => by rw [ll]; exact ok.e w hw) hl.symm
  have rsp := rowAt_spec ok S cs hl hS t
  have rs1 := rowAt_spec ok S cs hl hS (t + 1)
  obtain ⟨m1, m2, m3, m4⟩ := moved_spec ok t cs hl
  have z := zip3_spec (fun s l m => s - l + m) d.P _ _ _ rsp.1 m1 m2
  have lf := left_fold t d.ws cs (rowAt d S cs t) (fun w hw => by rw [rsp.1]; exact ok.b w hw) hl.symm
  apply List.ext_getElem?
  intro p
  by_cases hp : p < d.P
  · have h1 : p < ((d.ws.zip cs).foldl (addStep t) (leftRow d S cs t)).length := by rw [af.1, ll]; exact hp
    have h2 : p < (rowAt d S cs (t + 1)).length := by rw [rs1.1]; exact hp
    have e1 := af.2 p
    have e2 : (rowAt d S cs (t + 1)).getD p 0 = (rowAt d S cs t).getD p 0 - (moved d t cs).1.getD p 0 + (moved d t cs).2.getD p 0 := z.2 p hp
    have e3 : (leftRow d S cs t).getD p 0 = (rowAt d S cs t).getD p 0 - sw (fun w => decide (w.h = t) && decide (w.b = p)) d.ws cs := lf.2 p
    rw [m3 p, m4 p] at e2
    rw [e3] at e1
    rw [List.getElem?_eq_getElem h1, List.getElem?_eq_getElem h2]
    have q1 : ((d.ws.zip cs).foldl (addStep t) (leftRow d S cs t)).getD p 0 = ((d.ws.zip cs).foldl (addStep t) (leftRow d S cs t))[p] := by simp [List.getD_eq_getElem?_getD, h1]
    have q2 : (rowAt d S cs (t + 1)).getD p 0 = (rowAt d S cs (t + 1))[p] := by simp [List.getD_eq_getElem?_getD, h2]
    rw [← q1, ← q2, e1, e2]
  · rw [List.getElem?_eq_none (by rw [af.1, ll]; omega), List.getElem?_eq_none (by rw [rs1.1]; omega)]
def lawOk (d : Day) (S cs : List Int) (n : Nat) : Bool := (List.range n).all fun t => nnRow (leftRow d S cs t)
theorem lawOk_succ (d : Day) (S cs : List Int) (n : Nat) : lawOk d S cs (n + 1) = (lawOk d S cs n && nnRow (leftRow d S cs n)) := by
  unfold lawOk
  rw [List.range_succ, List.all_append]
  simp
theorem planB_eq (d : Day) (S W cs : List Int) : planB d S W cs = (lawOk d S cs d.T && nnRow (List.zipWith (fun s l => s - l) (rowAt d S cs d.T) W)) := by
  unfold planB waits lawOk
  rw [List.all_append, List.all_map]
  simp [Function.comp_def]
theorem nnRow_min {row : List Int} {m : Int} (hm : m ∈ row) (hl : ∀ y ∈ row, m ≤ y) : decide (m < 0) = !nnRow row := by
  by_cases h : m < 0
  · rw [decide_eq_true h]
    have : nnRow row = false := by
      unfold nnRow
      rw [Bool.eq_false_iff]
      intro z
      have := of_decide_eq_true (List.all_eq_true.mp z m hm)
      omega
    rw [this]; rfl
  · rw [decide_eq_false h]
    have : nnRow row = true := List.all_eq_true.mpr fun y hy => decide_eq_true (by have := hl y hy; omega)
    rw [this]; rfl
end Dry

/-! Given starts: dry, or a line that shows more than start inside. -/
namespace Dry
theorem zero_of_sum {xs : List Int} (nn : ∀ p, 0 ≤ xs.getD p 0) (h : xs.sum = 0) (p : Nat) : xs.getD p 0 = 0 := by
  have h1 := getD_le_sum nn p
  have h2 := nn p
  omega
theorem addL_zero {d : Day} {G m : List Int} (hG : G.length = d.P) (hm : m.length = d.P) (h : ∀ p, m.getD p 0 = 0) : addL G m = G := by
  apply List.ext_getElem?
  intro p
  by_cases hp : p < d.P
  · have e := addL_getD hG hm p
    have h1 : p < (addL G m).length := by rw [addL_length hG hm]; exact hp
    have h2 : p < G.length := by omega
    rw [h p] at e
    simp only [List.getD_eq_getElem?_getD, List.getElem?_eq_getElem h1, List.getElem?_eq_getElem h2, Option.getD_some] at e
    rw [List.getElem?_eq_getElem h1, List.getElem?_eq_getElem h2, e, Int.add_zero]
  · rw [List.getElem?_eq_none (by rw [addL_length hG hm]; omega), List.getElem?_eq_none (by omega)]
theorem dry_feas {d : Day} (ok : d.Ok) {G W : List Int} (hG : G.length = d.P) (hW : W.length = d.P) (gn : ∀ p, 0 ≤ G.getD p 0) (wn : ∀ p, 0 ≤ W.getD p 0) (h : (settled d G W).more.sum = 0) : Feas d G W (settled d G W).car := by
  obtain ⟨g, _⟩ := settled_good ok hG hW gn wn
  have := g.feas
  rw [addL_zero hG g.len (zero_of_sum g.nn h)] at this
  exact this
theorem feas_shows {d : Day} (ok : d.Ok) {G W cs : List Int} (gn : ∀ p, 0 ≤ G.getD p 0) (F : Feas d G W cs) (k : Nat → Nat) (hk : ∀ p, p < d.P → k p ≤ d.T + 1) : shows d W k ≤ inside d G k := by
  have h1 := weak ok F k hk
  have h2 := inside_nn (d := d) gn k
  unfold shows
  split <;> omega
theorem wet_line {d : Day} (ok : d.Ok) {G W : List Int} (hG : G.length = d.P) (hW : W.length = d.P) (gn : ∀ p, 0 ≤ G.getD p 0) (wn : ∀ p, 0 ≤ W.getD p 0) (h : (settled d G W).more.sum ≠ 0) : inside d G (kOf (lineFl d G W (settled d G W))) < shows d W (kOf (lineFl d G W (settled d G W))) := by
  obtain ⟨g, hn⟩ := settled_good ok hG hW gn wn
  have h1 := cut_tight ok hG hW g
  have h2 := cut_inside ok hG g hn
  have h3 := sum_nonneg g.nn
  have h4 := inside_nn (d := d) gn (kOf (lineFl d G W (settled d G W)))
  unfold shows
  split <;> omega
theorem inside_mono {d : Day} {G G' : List Int} (h : ∀ p, G.getD p 0 ≤ G'.getD p 0) (k : Nat → Nat) : inside d G k ≤ inside d G' k :=
  sumP_le _ fun p _ => by
    have := h p
    split <;> omega
theorem dry_mono {d : Day} (ok : d.Ok) {G G' W : List Int} (hG : G.length = d.P) (hG' : G'.length = d.P) (hW : W.length = d.P) (gn : ∀ p, 0 ≤ G.getD p 0) (wn : ∀ p, 0 ≤ W.getD p 0) (hle : ∀ p, G.getD p 0 ≤ G'.getD p 0) (h : (settled d G W).more.sum = 0) : (settled d G' W).more.sum = 0 := by
  have gn' : ∀ p, 0 ≤ G'.getD p 0 := fun p => Int.le_trans (gn p) (hle p)
  apply Classical.byContradiction
  intro hc
  have h1 := wet_line ok hG' hW gn' wn hc
  have h2 := feas_shows ok gn (dry_feas ok hG hW gn wn h) _ (fun p hp => lineFl_le ok G' W (settled d G' W) p hp)
  have h3 := inside_mono (d := d) hle (kOf (lineFl d G' W (settled d G' W)))
  omega
end Dry

/-! What can be spared. -/
namespace Dry
def dryB (d : Day) (G W : List Int) : Bool := decide ((settled d G W).more.sum = 0)
def less (G : List Int) (p : Nat) : List Int := G.set p (G.getD p 0 - 1)
def spB (d : Day) (G W : List Int) (p : Nat) : Bool := decide (0 < G.getD p 0) && dryB d (less G p) W
def sparedN (d : Day) (G W : List Int) : List Nat := (List.range d.P).filter (spB d G W)
def dryWk (w : Wk) : Wk := { w with wet := false }
def dryAt (d : Day) (i : Nat) (w : Wk) : Day := { d with ws := d.ws.set i (dryWk w) }
def spgB (d : Day) (W : List Int) (i : Nat) : Bool := match d.ws[i]? with
  | some w => w.wet && decide ((fewest (dryAt d i w) W).1 < (fewest d W).1)
  | none => false
def sparingN (d : Day) (W : List Int) : List Nat := (List.range d.ws.length).filter (spgB d W)
theorem dryAt_ok {d : Day} (ok : d.Ok) {i : Nat} {w : Wk} (hw : d.ws[i]? = some w) : (dryAt d i w).Ok := by
  have hm := List.mem_of_getElem? hw
  have key : ∀ v ∈ (dryAt d i w).ws, v ∈ d.ws ∨ v = dryWk w := fun v hv => List.mem_or_eq_of_mem_set hv
  refine ⟨fun v hv => ?_, fun v hv => ?_, fun v hv => ?_, fun v hv => ?_⟩
  · rcases key v hv with h | rfl
    · exact ok.h v h
    · exact ok.h w hm
  · rcases key v hv with h | rfl
    · exact ok.b v h
    · exact ok.b w hm
  · rcases key v hv with h | rfl
    · exact ok.e v h
    · exact ok.e w hm
  · rcases key v hv with h | rfl
    · exact ok.r v h
    · exact ok.r w hm
theorem less_length (G : List Int) (p : Nat) : (less G p).length = G.length := by simp [less]
theorem less_getD (G : List Int) (p q : Nat) (hp : p < G.length) : (less G p).getD q 0 = if p = q then G.getD q 0 - 1 else G.getD q 0 := by
  unfold less
  simp only [List.getD_eq_getElem?_getD, List.getElem?_set]
  by_cases h : p = q
  · subst h; simp [hp]
  · simp [h]
theorem less_nn {G : List Int} {p : Nat} (hp : p < G.length) (gn : ∀ q, 0 ≤ G.getD q 0) (h : 0 < G.getD p 0) (q : Nat) : 0 ≤ (less G p).getD q 0 := by
  rw [less_getD G p q hp]
  have := gn q
  split
  · rename_i e; subst e; omega
  · exact this
theorem less_sum {G : List Int} {p : Nat} (hp : p < G.length) : (less G p).sum = G.sum - 1 := by
  rw [sum_getD, less_length, sum_getD G]
  have e : sumP (fun q => (less G p).getD q 0) G.length = sumP (fun q => G.getD q 0) G.length - sumP (fun q => if p = q then 1 else 0) G.length := by
    rw [← sumP_sub]
    refine sumP_congr _ fun q _ => ?_
    rw [less_getD G p q hp]
    split <;> omega
  rw [e, sumP_single, if_pos hp]
/-- dry: no line shows more than start inside -/
theorem dry_iff {d : Day} (ok : d.Ok) {G W : List Int} (hG : G.length = d.P) (hW : W.length = d.P) (gn : ∀ p, 0 ≤ G.getD p 0) (wn : ∀ p, 0 ≤ W.getD p 0) :
    dryB d G W = true ↔ ∀ k : Nat → Nat, (∀ p, p < d.P → k p ≤ d.T + 1) → shows d W k ≤ inside d G k := by
  constructor
  · intro h k hk
    exact feas_shows ok gn (dry_feas ok hG hW gn wn (of_decide_eq_true h)) k hk
  · intro h
    refine decide_eq_true (Classical.byContradiction fun hc => ?_)
    have h1 := wet_line ok hG hW gn wn hc
    have h2 := h _ (fun p hp => lineFl_le ok G W (settled d G W) p hp)
    omega
theorem feas_dry {d : Day} (ok : d.Ok) {G W cs : List Int} (hG : G.length = d.P) (hW : W.length = d.P) (gn : ∀ p, 0 ≤ G.getD p 0) (wn : ∀ p, 0 ≤ W.getD p 0) (F : Feas d G W cs) : dryB d G W = true :=
  (dry_iff ok hG hW gn wn).mpr fun k hk => feas_shows ok gn F k hk
theorem dry_sum {d : Day} (ok : d.Ok) {G W : List Int} (hG : G.length = d.P) (hW : W.length = d.P) (gn : ∀ p, 0 ≤ G.getD p 0) (wn : ∀ p, 0 ≤ W.getD p 0) (h : dryB d G W = true) : (fewest d W).1 ≤ G.sum := by
  have hl : (line d W).length = d.P := by unfold line lineFl lineOf; simp
  have h1 := (dry_iff ok hG hW gn wn).mp h (kOf (line d W)) (fun p hp => lineFl_le ok (zeros d) W (settled d (zeros d) W) p hp)
  rw [line_shows ok hW wn] at h1
  exact Int.le_trans h1 (inside_le_sum hG gn _)
/-- fewest starts spare none -/
theorem fewest_spared {d : Day} (ok : d.Ok) {W : List Int} (hW : W.length = d.P) (wn : ∀ p, 0 ≤ W.getD p 0) : sparedN d (fewest d W).2.1 W = [] := by
  have t := fewest_told ok hW wn
  refine List.filter_eq_nil_iff.mpr fun p hp => ?_
  have hp' : p < (fewest d W).2.1.length := by rw [t.len]; exact List.mem_range.mp hp
  unfold spB
  intro h
  rw [Bool.and_eq_true] at h
  have h0 := of_decide_eq_true h.1
  have h1 := dry_sum ok (by rw [less_length, t.len]) hW (less_nn hp' t.nn h0) wn h.2
  rw [less_sum hp', t.sum] at h1
  omega
theorem more_spared {d : Day} (ok : d.Ok) {W : List Int} (hW : W.length = d.P) (wn : ∀ p, 0 ≤ W.getD p 0) {p : Nat} (hp : p < d.P) : p ∈ sparedN d ((fewest d W).2.1.set p ((fewest d W).2.1.getD p 0 + 1)) W := by
  have t := fewest_told ok hW wn
  have hp' : p < (fewest d W).2.1.length := by rw [t.len]; exact hp
  have e : ((fewest d W).2.1.set p ((fewest d W).2.1.getD p 0 + 1)).getD p 0 = (fewest d W).2.1.getD p 0 + 1 := by
    simp [List.getD_eq_getElem?_getD, List.getElem?_set, hp']
  refine List.mem_filter.mpr ⟨List.mem_range.mpr hp, ?_⟩
  unfold spB
  have hn := t.nn p
  rw [e, decide_eq_true (by omega)]
  have el : less ((fewest d W).2.1.set p ((fewest d W).2.1.getD p 0 + 1)) p = (fewest d W).2.1 := by
    unfold less
    rw [e, List.set_set]
    have : (fewest d W).2.1.getD p 0 + 1 - 1 = (fewest d W).2.1[p] := by simp [List.getD_eq_getElem?_getD, hp']
    rw [this]
    exact List.set_getElem_self hp'
  rw [el, feas_dry ok t.len hW t.nn wn t.feas]
  rfl
end Dry

/-! The bounds: what starts at one place; twelve walks at once. -/
namespace Dry
theorem lessen_le {d : Day} {G W : List Int} {x y : Fl} (h : lessen d G W x = some y) (p : Nat) : y.more.getD p 0 ≤ x.more.getD p 0 := by
  unfold lessen at h
  dsimp only at h
  split at h
  · cases h
  · cases h
    rename_i q _ _
    show (addAt x.more q (-1)).getD p 0 ≤ _
    by_cases hq : q < x.more.length
    · rw [addAt_getD _ _ _ _ hq]
      split <;> omega
    · unfold addAt
      rw [List.set_eq_of_length_le (by omega)]
      exact Int.le_refl _
theorem settle_le {d : Day} {G W : List Int} (p : Nat) : ∀ (n : Nat) (x : Fl), (settle d G W n x).more.getD p 0 ≤ x.more.getD p 0
  | 0, _ => Int.le_refl _
  | n + 1, x => by
    unfold settle
    split
    · exact Int.le_refl _
    · rename_i y e
      exact Int.le_trans (settle_le p n y) (lessen_le e p)
theorem more0_le (p : Nat) : ∀ (ws : List Wk) (W : List Int), (ws.foldl (fun m w => addAt m w.b w.wi) W).getD p 0 ≤ W.getD p 0 + (ws.length : Int)
  | [], W => by simp
  | w :: ws, W => by
    rw [List.foldl_cons]
    have h := more0_le p ws (addAt W w.b w.wi)
    have h2 : (addAt W w.b w.wi).getD p 0 ≤ W.getD p 0 + 1 := by
      have : w.wi ≤ 1 := by unfold Wk.wi; split <;> omega
      by_cases hq : w.b < W.length
      · rw [addAt_getD _ _ _ _ hq]
        split <;> omega
      · unfold addAt
        rw [List.set_eq_of_length_le (by omega)]
        omega
    rw [List.length_cons]
    omega
theorem settled_le (d : Day) (G W : List Int) (p : Nat) : (settled d G W).more.getD p 0 ≤ W.getD p 0 + (d.ws.length : Int) :=
  Int.le_trans (settle_le p _ _) (more0_le p d.ws W)
theorem fewest_le {d : Day} (ok : d.Ok) {W : List Int} (hW : W.length = d.P) (wn : ∀ p, 0 ≤ W.getD p 0) (p : Nat) : (fewest d W).2.1.getD p 0 ≤ W.getD p 0 + (d.ws.length : Int) := by
  have g := settled_good ok (zeros_length d) hW (fun p => by rw [zeros_getD]; exact Int.le_refl _) wn
  show (addL (zeros d) (settled d (zeros d) W).more).getD p 0 ≤ _
  rw [addL_zeros g.1.len]
  exact settled_le d (zeros d) W p
def atOnce : Day := ⟨5, 8, (List.range 4).flatMap fun e => (List.range 3).map fun r => ⟨7, 0, e + 1, true, r + 1⟩⟩
theorem atOnce_0 : (fewest atOnce [0, 0, 0, 0, 0]).1 = 12 ∧ (fewest atOnce [0, 0, 0, 0, 0]).2.1 = [12, 0, 0, 0, 0] := by decide +kernel
theorem atOnce_20 : (fewest atOnce [20, 20, 20, 20, 20]).1 = 100 := by decide +kernel
end Dry

/-! Days that go together: by lines. -/
namespace Dry
def KOk (d : Day) (k : Nat → Nat) : Prop := ∀ p, p < d.P → k p ≤ d.T + 1
theorem few_le {d d' : Day} (ok : d.Ok) (ok' : d'.Ok) {W W' : List Int} (hW : W.length = d.P) (wn : ∀ p, 0 ≤ W.getD p 0) (hW' : W'.length = d'.P) (wn' : ∀ p, 0 ≤ W'.getD p 0)
    (h : ∀ k, KOk d k → ∃ k', KOk d' k' ∧ raw d W k ≤ raw d' W' k') : (fewest d W).1 ≤ (fewest d' W').1 := by
  obtain ⟨k', hk', hr⟩ := h (kOf (line d W)) (fun p hp => lineFl_le ok (zeros d) W (settled d (zeros d) W) p hp)
  rw [line_raw ok hW wn] at hr
  have h1 := shows_le ok' hW' wn' k' hk'
  unfold shows at h1
  split at h1 <;> omega
theorem raw_le_few {d : Day} (ok : d.Ok) {W : List Int} (hW : W.length = d.P) (wn : ∀ p, 0 ≤ W.getD p 0) (k : Nat → Nat) (hk : KOk d k) : raw d W k ≤ (fewest d W).1 := by
  have h1 := shows_le ok hW wn k hk
  unfold shows at h1
  split at h1 <;> omega
theorem sumWs_perm {f : Wk → Int} {l m : List Wk} (h : l.Perm m) : sumWs f l = sumWs f m := by
  induction h with
  | nil => rfl
  | cons x _ ih => show f x + _ = f x + _; rw [ih]
  | swap x y l => show f y + (f x + _) = f x + (f y + _); omega
  | trans _ _ h1 h2 => rw [h1, h2]
theorem sumWs_le {f g : Wk → Int} : ∀ l : List Wk, (∀ w ∈ l, f w ≤ g w) → sumWs f l ≤ sumWs g l
  | [], _ => Int.le_refl _
  | w :: l, h => by
    have h1 := h w (by simp)
    have h2 := sumWs_le l (fun v hv => h v (by simp [hv]))
    show f w + _ ≤ g w + _
    omega
theorem sumWs_congr {f g : Wk → Int} : ∀ l : List Wk, (∀ w ∈ l, f w = g w) → sumWs f l = sumWs g l
  | [], _ => rfl
  | w :: l, h => by
    show f w + _ = g w + _
    rw [h w (by simp), sumWs_congr l (fun v hv => h v (by simp [hv]))]
theorem sumWs_map {f : Wk → Int} {g : Wk → Wk} : ∀ l : List Wk, sumWs f (l.map g) = sumWs (fun w => f (g w)) l
  | [] => rfl
  | w :: l => by show f (g w) + _ = f (g w) + _; rw [sumWs_map l]
theorem sumWs_zero : ∀ l : List Wk, sumWs (fun _ => 0) l = 0
  | [] => rfl
  | _ :: l => by show 0 + _ = (0 : Int); rw [sumWs_zero l]; rfl
/-- more wanted -/
theorem few_more {d : Day} (ok : d.Ok) {W W' : List Int} (hW : W.length = d.P) (wn : ∀ p, 0 ≤ W.getD p 0) (hW' : W'.length = d.P) (h : ∀ p, p < d.P → W.getD p 0 ≤ W'.getD p 0) : (fewest d W).1 ≤ (fewest d W').1 := by
  have wn' : ∀ p, 0 ≤ W'.getD p 0 := fun p => by
    by_cases hp : p < d.P
    · exact Int.le_trans (wn p) (h p hp)
    · rw [getD_big (by omega)]; exact Int.le_refl _
  refine few_le ok ok hW wn hW' wn' fun k hk => ⟨k, hk, ?_⟩
  unfold raw
  have := sumP_le (f := fun p => if k p = d.T + 1 then W.getD p 0 else 0) (g := fun p => if k p = d.T + 1 then W'.getD p 0 else 0) d.P (fun p hp => by have := h p hp; split <;> omega)
  omega
/-- the walks in another order, each showing no less -/
theorem few_walks {d d' : Day} (ok : d.Ok) (ok' : d'.Ok) (hP : d'.P = d.P) (hT : d'.T = d.T) {W : List Int} (hW : W.length = d.P) (wn : ∀ p, 0 ≤ W.getD p 0)
    (h : ∀ k : Nat → Nat, sumWs (showW k) d.ws ≤ sumWs (showW k) d'.ws) : (fewest d W).1 ≤ (fewest d' W).1 := by
  refine few_le ok ok' hW wn (by rw [hW, hP]) wn fun k hk => ⟨k, fun p hp => by rw [hT]; exact hk p (by rw [← hP]; exact hp), ?_⟩
  unfold raw
  rw [hP, hT]
  have := h k
  omega
theorem few_perm {d d' : Day} (ok : d.Ok) (ok' : d'.Ok) (hP : d'.P = d.P) (hT : d'.T = d.T) {W : List Int} (hW : W.length = d.P) (wn : ∀ p, 0 ≤ W.getD p 0) (h : d'.ws.Perm d.ws) : (fewest d' W).1 = (fewest d W).1 := by
  have h1 := few_walks ok ok' hP hT hW wn fun k => by rw [sumWs_perm h]; exact Int.le_refl _
  have h2 := few_walks ok' ok hP.symm hT.symm (by rw [hW, hP]) wn fun k => by rw [sumWs_perm h]; exact Int.le_refl _
  omega
def wetWk (w : Wk) : Wk := { w with wet := true }
def wideWk (w : Wk) : Wk := { w with r := min 3 (w.r + 1) }
theorem show_wet (k : Nat → Nat) (w : Wk) : showW k w ≤ showW k (wetWk w) := by
  unfold showW
  have e1 : leaves k (wetWk w) = leaves k w := rfl
  have e2 : comes k (wetWk w) = comes k w := rfl
  rw [e1, e2]
  split
  · show w.wi ≤ 1
    unfold Wk.wi; split <;> omega
  · exact Int.le_refl _
theorem show_wide (k : Nat → Nat) (w : Wk) (h : w.r ≤ 3) : showW k (wideWk w) ≤ showW k w := by
  unfold showW
  have e1 : leaves k (wideWk w) = leaves k w := rfl
  have e2 : comes k (wideWk w) = comes k w := rfl
  have e3 : (wideWk w).wi = w.wi := rfl
  rw [e1, e2, e3]
  split
  · exact Int.le_refl _
  · split
    · show -(((min 3 (w.r + 1) : Nat)) : Int) ≤ -(w.r : Int)
      omega
    · exact Int.le_refl _
theorem show_dry (k : Nat → Nat) (w : Wk) (h : w.wet = false) : showW k w ≤ 0 := by
  unfold showW
  have e : w.wi = 0 := by unfold Wk.wi; rw [h]; rfl
  rw [e]
  split
  · exact Int.le_refl _
  · split
    · omega
    · exact Int.le_refl _
/-- no fewer than what is wanted -/
theorem few_wanted {d : Day} (ok : d.Ok) {W : List Int} (hW : W.length = d.P) (wn : ∀ p, 0 ≤ W.getD p 0) : W.sum ≤ (fewest d W).1 := by
  have h := raw_le_few ok hW wn (fun _ => d.T + 1) (fun p _ => Nat.le_refl _)
  unfold raw at h
  have e1 : sumP (fun p => if d.T + 1 = d.T + 1 then W.getD p 0 else 0) d.P = W.sum := by
    rw [sum_getD, hW]
    exact sumP_congr _ fun p _ => if_pos rfl
  have e2 : sumWs (showW fun _ => d.T + 1) d.ws = 0 := by
    rw [sumWs_congr d.ws (g := fun _ => 0) (fun w hw => ?_), sumWs_zero]
    have := ok.h w hw
    unfold showW leaves comes
    simp [show w.h < d.T + 1 by omega, show w.h + 1 < d.T + 1 by omega]
  rw [e1, e2] at h
  omega
theorem few_upper {d : Day} (ok : d.Ok) {W : List Int} (hW : W.length = d.P) (wn : ∀ p, 0 ≤ W.getD p 0) : (fewest d W).1 ≤ W.sum + (d.ws.map Wk.wi).sum :=
  settled_sum ok (zeros_length d) hW (fun p => by rw [zeros_getD]; exact Int.le_refl _) wn
theorem wi_count : ∀ ws : List Wk, (ws.map Wk.wi).sum = ((ws.filter fun w => w.wet).length : Int)
  | [] => rfl
  | w :: ws => by
    rw [List.map_cons, List.sum_cons, wi_count ws, List.filter_cons]
    unfold Wk.wi
    cases w.wet <;> simp <;> omega
theorem hour_count (t : Nat) : ∀ ws : List Wk, sumWs (showW fun _ => t + 1) ws = (((ws.filter fun w => w.wet).filter fun w => decide (w.h = t)).length : Int)
  | [] => rfl
  | w :: ws => by
    show showW _ w + sumWs _ ws = _
    rw [hour_count t ws]
    have e : showW (fun _ => t + 1) w = if w.wet = true ∧ w.h = t then 1 else 0 := by
      unfold showW leaves comes Wk.wi
      by_cases h1 : w.h = t
      · subst h1
        cases w.wet <;> simp
      · by_cases h2 : w.h < t
        · simp [h1, show w.h < t + 1 by omega, show w.h + 1 < t + 1 by omega]
        · simp [h1, show ¬ w.h < t + 1 by omega, show ¬ w.h + 1 < t + 1 by omega]
    rw [e, List.filter_cons]
    cases hw : w.wet
    · simp
    · rw [if_pos rfl, List.filter_cons]
      by_cases h1 : w.h = t
      · rw [if_pos ⟨rfl, h1⟩, if_pos (decide_eq_true h1), List.length_cons]
        omega
      · rw [if_neg (fun z => h1 z.2), if_neg (fun z => h1 (of_decide_eq_true z))]
        omega
/-- no fewer than the wet walks of one hour -/
theorem few_hour {d : Day} (ok : d.Ok) {W : List Int} (hW : W.length = d.P) (wn : ∀ p, 0 ≤ W.getD p 0) {t : Nat} (ht : t < d.T) : ((((d.ws.filter fun w => w.wet).filter fun w => decide (w.h = t)).length : Nat) : Int) ≤ (fewest d W).1 := by
  have h := raw_le_few ok hW wn (fun _ => t + 1) (fun p _ => show t + 1 ≤ d.T + 1 by omega)
  unfold raw at h
  have e1 : sumP (fun p => if t + 1 = d.T + 1 then W.getD p 0 else 0) d.P = 0 := by
    rw [sumP_congr d.P (g := fun _ => 0) (fun p _ => if_neg (by omega)), sumP_zero]
  rw [e1, hour_count] at h
  omega
/-! ### backward -/
def backWk (T : Nat) (w : Wk) : Wk := ⟨T - 1 - w.h, w.e, w.b, w.wet, w.r⟩
theorem show_back {d : Day} (ok : d.Ok) (k : Nat → Nat) (hk : KOk d k) {w : Wk} (hw : w ∈ d.ws) : showW (fun p => d.T + 1 - k p) (backWk d.T w) = showW k w := by
  have h1 := ok.h w hw
  have h2 := hk w.b (ok.b w hw)
  have h3 := hk w.e (ok.e w hw)
  have e1 : leaves (fun p => d.T + 1 - k p) (backWk d.T w) = !comes k w := by
    unfold leaves comes backWk
    dsimp only
    by_cases h : w.h + 1 < k w.e
    · rw [decide_eq_true h, decide_eq_false (by omega)]; rfl
    · rw [decide_eq_false h, decide_eq_true (by omega)]; rfl
  have e2 : comes (fun p => d.T + 1 - k p) (backWk d.T w) = !leaves k w := by
    unfold leaves comes backWk
    dsimp only
    by_cases h : w.h < k w.b
    · rw [decide_eq_true h, decide_eq_false (by omega)]; rfl
    · rw [decide_eq_false h, decide_eq_true (by omega)]; rfl
  have e3 : (backWk d.T w).wi = w.wi := rfl
  have e4 : (backWk d.T w).r = w.r := rfl
  unfold showW
  rw [e1, e2, e3, e4]
  cases leaves k w <;> cases comes k w <;> rfl
theorem few_back1 {d d' : Day} (ok : d.Ok) (ok' : d'.Ok) (hP : d'.P = d.P) (hT : d'.T = d.T) (h : d'.ws.Perm (d.ws.map (backWk d.T))) : (fewest d (zeros d)).1 ≤ (fewest d' (zeros d')).1 := by
  have z : ∀ d : Day, ∀ p, 0 ≤ (zeros d).getD p 0 := fun d p => by rw [zeros_getD]; exact Int.le_refl _
  refine few_le ok ok' (zeros_length d) (z d) (zeros_length d') (z d') fun k hk => ⟨fun p => d.T + 1 - k p, fun p _ => by rw [hT]; dsimp only; omega, ?_⟩
  unfold raw
  rw [sumWs_perm h, sumWs_map, sumWs_congr d.ws (g := showW k) (fun w hw => show_back ok k hk hw)]
  have e : ∀ (d : Day) (q : Nat → Prop) [DecidablePred q], sumP (fun p => if q p then (zeros d).getD p 0 else 0) d.P = 0 := fun d q _ => by
    rw [sumP_congr d.P (g := fun _ => 0) (fun p _ => by rw [zeros_getD]; split <;> rfl), sumP_zero]
  rw [e d (fun p => k p = d.T + 1), e d' (fun p => d.T + 1 - k p = d'.T + 1)]
  exact Int.le_refl _
theorem back_back {T : Nat} {w : Wk} (h : w.h < T) : backWk T (backWk T w) = w := by
  obtain ⟨a, b, c, x, r⟩ := w
  show (⟨T - 1 - (T - 1 - a), b, c, x, r⟩ : Wk) = _
  have : T - 1 - (T - 1 - a) = a := by have : a < T := h; omega
  rw [this]
theorem few_back {d d' : Day} (ok : d.Ok) (ok' : d'.Ok) (hP : d'.P = d.P) (hT : d'.T = d.T) (h : d'.ws.Perm (d.ws.map (backWk d.T))) : (fewest d' (zeros d')).1 = (fewest d (zeros d)).1 := by
  have h1 := few_back1 ok ok' hP hT h
  have h2 := few_back1 ok' ok hP.symm hT.symm (by
    have hm := (h.map (backWk d'.T)).symm
    rw [List.map_map] at hm
    have e : d.ws.map (backWk d'.T ∘ backWk d.T) = d.ws := by
      conv => rhs; rw [← List.map_id d.ws]
      exact List.map_congr_left fun w hw => by rw [hT]; exact back_back (ok.h w hw)
    rw [e] at hm
    exact hm)
  omega
/-! ### called otherwise -/
def turnWk (P : Nat) (w : Wk) : Wk := ⟨w.h, P - 1 - w.b, P - 1 - w.e, w.wet, w.r⟩
theorem sumP_rev (f : Nat → Int) : ∀ n, sumP (fun p => f (n - 1 - p)) n = sumP f n := by
  intro n
  have key : ∀ m, m ≤ n → sumP (fun p => f (n - 1 - p)) m = sumP f n - sumP f (n - m) := by
    intro m
    induction m with
    | zero => intro _; show 0 = _; rw [Nat.sub_zero]; omega
    | succ m ih =>
      intro hm
      show sumP (fun p => f (n - 1 - p)) m + f (n - 1 - m) = _
      rw [ih (by omega)]
      have e : n - m = (n - (m + 1)) + 1 := by omega
      have e2 : n - 1 - m = n - (m + 1) := by omega
      rw [e, e2]
      show sumP f n - (sumP f (n - (m + 1)) + f (n - (m + 1))) + _ = _
      omega
  rw [key n (Nat.le_refl _), Nat.sub_self]
  show sumP f n - 0 = _
  omega
theorem rev_getD {W : List Int} {p : Nat} (hp : p < W.length) : W.reverse.getD p 0 = W.getD (W.length - 1 - p) 0 := by
  rw [List.getD_eq_getElem?_getD, List.getD_eq_getElem?_getD, List.getElem?_reverse hp]
theorem few_turn1 {d d' : Day} (ok : d.Ok) (ok' : d'.Ok) (hP : d'.P = d.P) (hT : d'.T = d.T) {W : List Int} (hW : W.length = d.P) (wn : ∀ p, 0 ≤ W.getD p 0) (h : d'.ws.Perm (d.ws.map (turnWk d.P))) : (fewest d W).1 ≤ (fewest d' W.reverse).1 := by
  have wn' : ∀ p, 0 ≤ W.reverse.getD p 0 := fun p => by
    by_cases hp : p < W.length
    · rw [rev_getD hp]; exact wn _
    · rw [getD_big (by rw [List.length_reverse]; omega)]; exact Int.le_refl _
  refine few_le ok ok' hW wn (by rw [List.length_reverse, hW, hP]) wn' fun k hk => ⟨fun p => k (d.P - 1 - p), fun p hp => by rw [hT]; rw [hP] at hp; exact hk _ (by omega), ?_⟩
  unfold raw
  rw [sumWs_perm h, sumWs_map, hP, hT]
  have e1 : sumWs (fun w => showW (fun p => k (d.P - 1 - p)) (turnWk d.P w)) d.ws = sumWs (showW k) d.ws := by
    refine sumWs_congr _ fun w hw => ?_
    have h1 := ok.b w hw
    have h2 := ok.e w hw
    have a1 : leaves (fun p => k (d.P - 1 - p)) (turnWk d.P w) = leaves k w := by
      unfold leaves turnWk
      exact decide_eq_decide.mpr (by dsimp only; rw [show d.P - 1 - (d.P - 1 - w.b) = w.b by omega])
    have a2 : comes (fun p => k (d.P - 1 - p)) (turnWk d.P w) = comes k w := by
      unfold comes turnWk
      exact decide_eq_decide.mpr (by dsimp only; rw [show d.P - 1 - (d.P - 1 - w.e) = w.e by omega])
    unfold showW
    rw [a1, a2]
    rfl
  have e2 : sumP (fun p => if k (d.P - 1 - p) = d.T + 1 then W.reverse.getD p 0 else 0) d.P = sumP (fun p => if k p = d.T + 1 then W.getD p 0 else 0) d.P := by
    rw [← sumP_rev (fun p => if k p = d.T + 1 then W.getD p 0 else 0) d.P]
    refine sumP_congr _ fun p hp => ?_
    rw [rev_getD (by omega), hW]
  rw [e1, e2]
  exact Int.le_refl _
theorem few_turn {d d' : Day} (ok : d.Ok) (ok' : d'.Ok) (hP : d'.P = d.P) (hT : d'.T = d.T) {W : List Int} (hW : W.length = d.P) (wn : ∀ p, 0 ≤ W.getD p 0) (h : d'.ws.Perm (d.ws.map (turnWk d.P))) : (fewest d' W.reverse).1 = (fewest d W).1 := by
  have h1 := few_turn1 ok ok' hP hT hW wn h
  have wn' : ∀ p, 0 ≤ W.reverse.getD p 0 := fun p => by
    by_cases hp : p < W.length
    · rw [rev_getD hp]; exact wn _
    · rw [getD_big (by rw [List.length_reverse]; omega)]; exact Int.le_refl _
  have h2 := few_turn1 ok' ok hP.symm hT.symm (W := W.reverse) (by rw [List.length_reverse, hW, hP]) wn' (by
    have hm := (h.map (turnWk d'.P)).symm
    rw [List.map_map] at hm
    have e : d.ws.map (turnWk d'.P ∘ turnWk d.P) = d.ws := by
      conv => rhs; rw [← List.map_id d.ws]
      refine List.map_congr_left fun w hw => ?_
      have h1 := ok.b w hw
      have h2 := ok.e w hw
      obtain ⟨a, b, c, x, r⟩ := w
      show (⟨a, d'.P - 1 - (d.P - 1 - b), d'.P - 1 - (d.P - 1 - c), x, r⟩ : Wk) = _
      have e1 : d'.P - 1 - (d.P - 1 - b) = b := by have : b < d.P := h1; omega
      have e2 : d'.P - 1 - (d.P - 1 - c) = c := by have : c < d.P := h2; omega
      rw [e1, e2]
      rfl
    rw [e] at hm
    exact hm)
  rw [List.reverse_reverse] at h2
  omega
/-! ### an hour more in which nobody walks -/
theorem few_idle {d d' : Day} (ok : d.Ok) (ok' : d'.Ok) (hP : d'.P = d.P) (hT : d'.T = d.T + 1) {W : List Int} (hW : W.length = d.P) (wn : ∀ p, 0 ≤ W.getD p 0) (h : d'.ws.Perm d.ws) : (fewest d' W).1 = (fewest d W).1 := by
  have h1 : (fewest d W).1 ≤ (fewest d' W).1 := by
    refine few_le ok ok' hW wn (by rw [hW, hP]) wn fun k hk => ⟨fun p => if k p = d.T + 1 then d.T + 2 else k p, fun p hp => ?_, ?_⟩
    · have := hk p (by rw [← hP]; exact hp)
      rw [hT]; dsimp only; split <;> omega
    · unfold raw
      rw [sumWs_perm h, hP, hT]
      have e1 : sumWs (showW fun p => if k p = d.T + 1 then d.T + 2 else k p) d.ws = sumWs (showW k) d.ws := by
        refine sumWs_congr _ fun w hw => ?_
        have h1 := ok.h w hw
        have a1 : leaves (fun p => if k p = d.T + 1 then d.T + 2 else k p) w = leaves k w := by
          unfold leaves; exact decide_eq_decide.mpr (by dsimp only; split <;> omega)
        have a2 : comes (fun p => if k p = d.T + 1 then d.T + 2 else k p) w = comes k w := by
          unfold comes; exact decide_eq_decide.mpr (by dsimp only; split <;> omega)
        unfold showW
        rw [a1, a2]
      have e2 : sumP (fun p => if (if k p = d.T + 1 then d.T + 2 else k p) = d.T + 1 + 1 then W.getD p 0 else 0) d.P = sumP (fun p => if k p = d.T + 1 then W.getD p 0 else 0) d.P := by
        refine sumP_congr _ fun p hp => ?_
        have := hk p hp
        by_cases hq : k p = d.T + 1
        · rw [if_pos hq, if_pos rfl, if_pos hq]
        · rw [if_neg hq, if_neg hq, if_neg (by omega)]
      rw [e1, e2]
      exact Int.le_refl _
  have h2 : (fewest d' W).1 ≤ (fewest d W).1 := by
    refine few_le ok' ok (by rw [hW, hP]) wn hW wn fun k hk => ⟨fun p => min (k p) (d.T + 1), fun p _ => Nat.min_le_right _ _, ?_⟩
    unfold raw
    rw [sumWs_perm h, hP, hT]
    have e1 : sumWs (showW fun p => min (k p) (d.T + 1)) d.ws = sumWs (showW k) d.ws := by
      refine sumWs_congr _ fun w hw => ?_
      have h1 := ok.h w hw
      have a1 : leaves (fun p => min (k p) (d.T + 1)) w = leaves k w := by
        unfold leaves; exact decide_eq_decide.mpr (by dsimp only; omega)
      have a2 : comes (fun p => min (k p) (d.T + 1)) w = comes k w := by
        unfold comes; exact decide_eq_decide.mpr (by dsimp only; omega)
      unfold showW
      rw [a1, a2]
    have e2 : sumP (fun p => if k p = d.T + 1 + 1 then W.getD p 0 else 0) d.P ≤ sumP (fun p => if min (k p) (d.T + 1) = d.T + 1 then W.getD p 0 else 0) d.P := by
      refine sumP_le _ fun p hp => ?_
      have := wn p
      by_cases hq : k p = d.T + 1 + 1
      · rw [if_pos hq, if_pos (by omega)]; exact Int.le_refl _
      · rw [if_neg hq]; split <;> omega
    rw [e1]
    dsimp only
    omega
  omega
end Dry

/-! Written days: what the mirror tells of them. -/
namespace Dry
def againD (h r : Nat) : Day := ⟨2, h + 3, [⟨h, 0, 1, true, 1⟩, ⟨h, 0, 1, true, 2⟩, ⟨h + 1, 1, 0, false, r⟩, ⟨h + 2, 0, 1, true, 1⟩, ⟨h + 2, 0, 1, true, 2⟩]⟩
def fro (h : Nat) : Day := ⟨2, h + 2, [⟨h, 0, 1, true, 1⟩, ⟨h + 1, 1, 0, true, 1⟩]⟩
def there (h : Nat) : Day := ⟨2, h + 2, [⟨h, 0, 1, true, 1⟩, ⟨h + 1, 0, 1, true, 1⟩]⟩
def ring (h : Nat) : Day := ⟨3, h + 3, [⟨h, 0, 1, true, 1⟩, ⟨h + 1, 1, 2, true, 1⟩, ⟨h + 2, 2, 0, true, 1⟩]⟩
def rowD : Day := ⟨3, 1, [⟨0, 0, 1, true, 1⟩, ⟨0, 1, 2, true, 1⟩]⟩
def idle : Day := ⟨2, 1, []⟩
def m2 (r : Nat) : Int := if 2 < (r : Int) then 2 else r
def m4 (r : Nat) : Int := if 4 < (r : Int) then 4 else r
theorem again_few : ∀ h, h < 5 → ∀ r, r < 4 → 1 ≤ r → (fewest (againD h r) [0, 0]).1 = 4 - m2 r ∧ (fewest (againD h r) [0, 0]).2.1 = [4 - m2 r, 0] ∧ m2 r ≤ (fewest (againD h r) [0, 0]).2.2.getD 2 0 ∧ (fewest (againD h r) [0, 0]).2.2.length = 5 := by decide +kernel
theorem again_show : ∀ h, h < 5 → ∀ r, r < 4 → 1 ≤ r → shows (againD h r) [0, 0] (kOf [h + 3, h + 1]) = 4 - m4 r ∧ shows (againD h r) [0, 0] (kOf [h + 1, 0]) = 2 := by decide +kernel
theorem again_wet : ∀ h, h < 5 → ∀ r, r < 4 → 1 ≤ r → (settled (againD h r) [0, 9] [0, 0]).more.sum ≠ 0 ∧ inside (againD h r) [0, 9] (kOf [h + 1, 0]) < shows (againD h r) [0, 0] (kOf [h + 1, 0]) := by decide +kernel
theorem again_spared : ∀ h, h < 5 → ∀ r, r < 4 → 1 ≤ r → sparedN (againD h r) [4 - m2 r + 1, 1] [0, 0] = [0, 1] ∧ sparedN (againD h r) [4 - m2 r, 0] [0, 0] = [] := by decide +kernel
theorem again_sparing : ∀ h, h < 5 → ∀ r, r < 4 → 1 ≤ r → sparingN (againD h r) [0, 0] = if r = 1 then [0, 1, 3, 4] else [] := by decide +kernel
theorem fro_few : ∀ h, h < 5 → fewest (fro h) [0, 0] = (1, [1, 0], [1, 1]) ∧ (fewest (fro h) [1, 0]).1 = 1 ∧ (fewest (fro h) [0, 1]).1 = 2 := by decide +kernel
theorem there_few : ∀ h, h < 5 → (fewest (there h) [0, 0]).1 = 2 ∧ (fewest (there h) [0, 0]).2.1 = [2, 0] ∧ (standing (there h) [2, 0] [1, 1]).getD (h + 2) [] = [0, 2] ∧ (standing (there h) [2, 0] [1, 1]).length = h + 3 := by decide +kernel
theorem ring_few : ∀ h, h < 5 → fewest (ring h) [0, 0, 0] = (1, [1, 0, 0], [1, 1, 1]) ∧ sparingN (ring h) [0, 0, 0] = [] := by decide +kernel
theorem row_few : fewest rowD [0, 0, 0] = (2, [1, 1, 0], [1, 1]) ∧ (settled rowD [1, 0, 0] [0, 0, 0]).more.sum ≠ 0 := by decide +kernel
theorem idle_few : fewest idle [0, 0] = (0, [0, 0], []) ∧ fewest idle [2, 1] = (3, [2, 1], []) := by decide +kernel
end Dry

/-! Walks over zip of two or three sequences, each a list or a tuple, and over enumerate of either. -/
namespace HX
open PySem PySem.Spec PyProof.Rows L2

def SqB (K : PySem.W.Frag) (b : Bool) (H : Hp) (a : Addr) (xs : List V) : Prop := if b = true then SqT K H a xs else SqL K H a xs
def IterB (b : Bool) (h : Heap) (it a : Addr) (i : Nat) : Prop := if b = true then h.IsTupleIter it a i else h.IsListIter it a i
def ItemsB (b : Bool) (h : Heap) (a : Addr) (items : Array Value) : Prop := if b = true then h.IsTuple a items else h.IsList a items

theorem IterB.at {b : Bool} {h h' : Heap} {it a : Addr} {i : Nat} (x : IterB b h it a i) (k : ∀ o, h.get? it = some o → h'.get? it = some o) : IterB b h' it a i := by
  cases b
  · exact Heap.IsListIter.at (show h.IsListIter it a i from x) k
  · exact Heap.IsTupleIter.at (show h.IsTupleIter it a i from x) k
theorem IterB.obj {b : Bool} {h : Heap} {it a : Addr} {i : Nat} (x : IterB b h it a i) : ∃ o, h.get? it = some o ∧ ∀ v, o.data ≠ .cell v := by
  cases b
  · obtain ⟨o, e, _, d⟩ := (show h.IsListIter it a i from x)
    exact ⟨o, e, fun v q => by rw [d] at q; cases q⟩
  · obtain ⟨o, e, _, d⟩ := (show h.IsTupleIter it a i from x)
    exact ⟨o, e, fun v q => by rw [d] at q; cases q⟩
theorem drawsB {prog : Program} {w : World} {A : Around} (hh : A.handled = none) (b : Bool) (it l : Addr) (hne : l ≠ it) (items : Array Value) :
    Draws prog w A it [it, l] items.size (fun i v => items[i]? = some v) (fun i h => IterB b h it l i ∧ ItemsB b h l items) := by
  cases b
  · exact Draws.list hh it l hne items
  · exact Draws.tuple hh it l hne items
def iterObj (b : Bool) (l : Addr) : Obj := { cls := .type (if b = true then "tuple_iterator" else "list_iterator"), data := .fields #[.ref l, .int 0 0] }
theorem beginsB (b : Bool) (l : Addr) (items : Array Value) : Begins (.ref l) (iterObj b l) fun h => ItemsB b h l items := by
  cases b
  · exact begins_list l items
  · exact begins_tuple l items
theorem iterB0 {b : Bool} {l it : Addr} {h : Heap} (e : h.get? it = some (iterObj b l)) : IterB b h it l 0 := by
  cases b
  · exact ⟨_, e, rfl, rfl⟩
  · exact ⟨_, e, rfl, rfl⟩
theorem seqB {X : Cx} {pins : List (Addr × Obj)} {σ : L2.St} {H : Hp} {s : Shared} {b : Bool} {a : Addr} {xs : List V} (I : Inv X pins σ H s) (h : SqB X.K b H a xs) :
    ∃ its : List Value, Vals xs its ∧ ItemsB b s.heap a its.toArray ∧ a < s.heap.objs.size := by
  cases b
  · obtain ⟨its, rv, p, _⟩ := I.list (show SqL X.K H a xs from h)
    exact ⟨its, rv, p.isList, p.lt⟩
  · obtain ⟨its, rv, p, _⟩ := I.tuple (show SqT X.K H a xs from h)
    exact ⟨its, rv, p, p.lt⟩

theorem ne_iter {X : Cx} {pins : List (Addr × Obj)} {σ : L2.St} {H : Hp} {s : Shared} {b : Bool} {a it : Addr} {xs : List V} {i : Nat} (I : Inv X pins σ H s) (h : SqB X.K b H a xs) (hi : IterB b s.heap it a i) (hn : H it = none) : a ≠ it := fun e => by
  subst e
  cases b
  · rcases (show SqL X.K H a xs from h) with (q | ⟨_, q⟩) | ⟨ob, _, _, q, qc, _⟩
    · rw [q] at hn; cases hn
    · rw [q] at hn; cases hn
    · obtain ⟨o2, e2, c2, _⟩ := (show s.heap.IsListIter a a i from hi)
      have := I.kIn a ob q
      rw [e2] at this; cases this
      rw [c2] at qc
      injection qc with qc
      exact absurd qc (by decide)
  · rcases (show SqT X.K H a xs from h) with (q | ⟨_, q⟩) | ⟨ob, _, _, q, qc, _⟩
    · rw [q] at hn; cases hn
    · rw [q] at hn; cases hn
    · obtain ⟨o2, e2, c2, _⟩ := (show s.heap.IsTupleIter a a i from hi)
      have := I.kIn a ob q
      rw [e2] at this; cases this
      rw [c2] at qc
      injection qc with qc
      exact absurd qc (by decide)

/-! ### zip of two -/
def Itz2 (K : PySem.W.Frag) (b1 b2 : Bool) (a b : Addr) (xs ys : List V) : It :=
  ⟨fun i H => SqB K b1 H a xs ∧ SqB K b2 H b ys ∧ i < xs.length ∧ i < ys.length,
    fun i H v H' => ∃ T x y, v = .ref T ∧ H T = none ∧ H' = upd H T (.tup [x, y]) ∧ xs[i]? = some x ∧ ys[i]? = some y,
    fun i H => SqB K b1 H a xs ∧ SqB K b2 H b ys ∧ i ≤ xs.length ∧ i ≤ ys.length ∧ (i = xs.length ∨ i = ys.length)⟩
theorem turn_zip2 {P : Program} {w : World} {K : PySem.W.Frag} {elts : List Expr} {kk : Nat} {tpos : Pos} {b1 b2 : Bool} {a b z TI TO i1 i2 : Addr} {xs ys : List V} (D : ZipSep2 z TI TO i1 i2 [i1, a] [i2, b]) :
    Turn P w K (.Tuple elts kk tpos) (Itz2 K b1 b2 a b xs ys) [z, TI, TO, i1, i2] z (fun i h => IsZip h z TI TO .none ∧ IsTupOf2 h TI (.ref i1) (.ref i2) ∧ (∃ x y, IsTupOf2 h TO x y) ∧ IterB b1 h i1 a i ∧ IterB b2 h i2 b i) where
  mem := by simp
  obj := fun i h st c hc => by
    obtain ⟨hz, hTI, ⟨x, y, hTO⟩, h1, h2⟩ := st
    have e' : c = z ∨ c = TI ∨ c = TO ∨ c = i1 ∨ c = i2 := by simpa using hc
    rcases e' with q | q | q | q | q
    · rw [q]; exact ⟨_, hz, fun v q => nomatch q⟩
    · rw [q]; exact ⟨_, hTI, fun v q => nomatch q⟩
    · rw [q]; exact ⟨_, hTO, fun v q => nomatch q⟩
    · rw [q]; exact h1.obj
    · rw [q]; exact h2.obj
  keep := fun i h h' st k => by
    obtain ⟨hz, hTI, ⟨x, y, hTO⟩, h1, h2⟩ := st
    exact ⟨k z (by simp) _ hz, k TI (by simp) _ hTI, ⟨x, y, k TO (by simp) _ hTO⟩, h1.at fun o q => k i1 (by simp) o q, h2.at fun o q => k i2 (by simp) o q⟩
  item := by
    intro X hP hw hK hc i pins s σ H E I hf st hg
    subst hP hw hK
    obtain ⟨hz, hTI, ⟨x0, y0, hTO⟩, h1, h2⟩ := st
    obtain ⟨hqx, hqy, hlx, hly⟩ := hg
    obtain ⟨its, rv, p, _⟩ := seqB I hqx
    obtain ⟨its2, rv2, p2, _⟩ := seqB I hqy
    have hx : xs[i]? = some xs[i] := List.getElem?_eq_getElem hlx
    have hy : ys[i]? = some ys[i] := List.getElem?_eq_getElem hly
    obtain ⟨u, hu, ru⟩ := rv.get hx
    obtain ⟨u2, hu2, ru2⟩ := rv2.get hy
    have hh : X.A.in1.handled = none := I.ok.hd hc
    have hzl : z < s.heap.objs.size := Heap.lt_size hz
    have n1 : a ≠ i1 := ne_iter I hqx h1 (hf i1 (by simp)).1
    have n2 : b ≠ i2 := ne_iter I hqy h2 (hf i2 (by simp)).1
    have L1 : i < its.toArray.size := by simp; have := rv.length; omega
    have L2' : i < its2.toArray.size := by simp; have := rv2.length; omega
    refine wpAny_pyNext_zipD2_item D (drawsB hh b1 i1 a n1 its.toArray) (drawsB hh b2 i2 b n2 its2.toArray) hz hTI hTO ⟨h1, p⟩ ⟨h2, p2⟩ L1 L2' fun x1 x2 h' tk hP1 hP2 z' TO' st1 st2 hT hsz hk => ?_
    have ex1 : x1 = u := by
      have : its.toArray[i]? = some u := by simpa using hu
      rw [this] at hP1; exact (Option.some.inj hP1).symm
    have ex2 : x2 = u2 := by
      have : its2.toArray[i]? = some u2 := by simpa using hu2
      rw [this] at hP2; exact (Option.some.inj hP2).symm
    subst ex1; subst ex2
    refine ⟨_, rfl, wpAny_letOwnedTupleGo_zip (s := { s with heap := h', toks := tk }) z' fun h'' z'' sb => ?_⟩
    have hT2 : h''.get? s.heap.objs.size = some { cls := .type "tuple", data := .seq #[x1, x2] } := (sb.2 _ (Nat.ne_of_gt hzl)).trans hT
    have new : ObjOk X.prog X.w (upd H s.heap.objs.size (.tup [xs[i], ys[i]])) h'' s.heap.objs.size (.tup [xs[i], ys[i]]) :=
      ⟨by show 2 ≤ sizeLine; decide, [x1, x2], .cons ru (.cons ru2 .nil), ⟨_, hT2, rfl, _, rfl⟩⟩
    have I1 : Inv X pins σ (upd H s.heap.objs.size (.tup [xs[i], ys[i]])) { s with heap := h'', toks := tk } :=
      I.turnedNew (t' := tk) (ch := [z, TI, TO, i1, i2]) (fun c o hb q => (sb.2 c (fun q' => hb (by simp [q']))).trans (hk c o (fun q' => hb (by simp [q'])) (fun q' => hb (by simp [q'])) (fun q' => hb (by simp [q'])) (fun q' => hb (by simp [q'])) q)) hf (Nat.le_refl _) new
    refine ⟨.ref s.heap.objs.size, _, I1, rfl, ⟨_, xs[i], ys[i], rfl, I.hok.fresh (Nat.le_refl _), rfl, hx, hy⟩, ⟨z'', ?_, ⟨x1, x2, ?_⟩, ?_, ?_⟩, fun c hcm => ?_⟩
    · exact (sb.2 _ D.TIz).trans (hk _ _ D.TIz D.TITO D.TIi1 D.TIi2 hTI)
    · exact (sb.2 _ D.TOz).trans TO'
    · exact st1.1.at fun o q => (sb.2 _ D.zi1.symm).trans q
    · exact st2.1.at fun o q => (sb.2 _ D.zi2.symm).trans q
    · have hlt : c < s.heap.objs.size := by
        have e' : c = z ∨ c = TI ∨ c = TO ∨ c = i1 ∨ c = i2 := by simpa using hcm
        rcases e' with q | q | q | q | q
        · rw [q]; exact hzl
        · rw [q]; exact Heap.lt_size hTI
        · rw [q]; exact Heap.lt_size hTO
        · rw [q]; obtain ⟨_, e1, _⟩ := h1.obj; exact Heap.lt_size e1
        · rw [q]; obtain ⟨_, e2, _⟩ := h2.obj; exact Heap.lt_size e2
      rw [upd_ne (Nat.ne_of_lt hlt)]
      exact (hf c hcm).1
  done := by
    intro X hP hw hK hc i pins s σ H E I hf st hg
    subst hP hw hK
    obtain ⟨hz, hTI, ⟨x0, y0, hTO⟩, h1, h2⟩ := st
    obtain ⟨hqx, hqy, hlx, hly, hend⟩ := hg
    obtain ⟨its, rv, p, la⟩ := seqB I hqx
    obtain ⟨its2, rv2, p2, lb⟩ := seqB I hqy
    have l1 := rv.length
    have l2 := rv2.length
    have hh : X.A.in1.handled = none := I.ok.hd hc
    have n1 : a ≠ i1 := ne_iter I hqx h1 (hf i1 (by simp)).1
    have n2 : b ≠ i2 := ne_iter I hqy h2 (hf i2 (by simp)).1
    refine wpAny_pyNext_zipD2_end D (drawsB hh b1 i1 a n1 its.toArray) (drawsB hh b2 i2 b n2 its2.toArray) hz hTI hTO ⟨h1, p⟩ ⟨h2, p2⟩ (by simp; omega) (by simp; omega) (by simp; omega) fun h' tk hk =>
      ⟨rfl, I.turnedL (t' := tk) (ch := [z, TI, TO, i1, i2]) (fun c o hb q => hk c o (fun q' => hb (by simp [q'])) (fun q' => hb (by simp [q'])) (fun q' => hb (by simp [q'])) (fun q' => hb (by simp [q'])) q) hf⟩
  self := fun A i s Q E st h => wpAny_pyIter_zip st.1 h

def iZip2 (K : PySem.W.Frag) (ta : TA) : TI := fun σ H R => ta σ H fun vs H1 => ∃ b1 b2 a b xs ys, vs = [.ref a, .ref b] ∧ SqB K b1 H1 a xs ∧ SqB K b2 H1 b ys ∧ R (Itz2 K b1 b2 a b xs ys) H1
theorem pi_zip2 {X : Cx} {e e2 : Expr} {ta : TA} {p pos tpos : Pos} {elts : List Expr} {kk : Nat} (hg : Gl X "zip") (hm : X.mg "zip" = none) (ha : PA X [e, e2] ta)
    (hs : starEach [e, e2] X.env = (false, eval e X.env) :: starEach [e2] X.env := by rfl) (hpl : (backTo pos (starEach [e2] X.env)).any (·.1) = false := by rfl) :
    PI X (.Tuple elts kk tpos) (.Call (.Name "zip" p) [e, e2] [] pos) (iZip2 X.K ta) := by
  refine ⟨fun pins s σ H R I h => ?_⟩
  refine Call_ (ld_blt I hg hm PyProof.Rows.boot_zip (PyProof.Rows.callWith_type1 (thn (ha.run pos pins s σ H _ I h) fun us s1 ⟨vs, H1, I1, r1, q1⟩ => ?_) hs hpl))
  obtain ⟨b1, b2, a, b, xs, ys, ex, hqx, hqy, q⟩ := q1
  subst ex
  cases r1 with
  | cons r rr =>
    cases rr with
    | cons r' rr =>
      cases rr
      cases r
      cases r'
      have fresh5 : ∀ c, c ∈ [s1.heap.objs.size + 4, s1.heap.objs.size + 2, s1.heap.objs.size + 3, s1.heap.objs.size, s1.heap.objs.size + 1] → FpOk X pins H1 c := fun c hcm => by
        have e' : c = s1.heap.objs.size + 4 ∨ c = s1.heap.objs.size + 2 ∨ c = s1.heap.objs.size + 3 ∨ c = s1.heap.objs.size ∨ c = s1.heap.objs.size + 1 := by simpa using hcm
        have hle : s1.heap.objs.size ≤ c := by
          rcases e' with z | z | z | z | z
          · rw [z]; exact Nat.le_add_right _ _
          · rw [z]; exact Nat.le_add_right _ _
          · rw [z]; exact Nat.le_add_right _ _
          · rw [z]; exact Nat.le_refl _
          · rw [z]; exact Nat.le_add_right _ _
        exact I1.fpOk hle (I1.hok.fresh hle)
      obtain ⟨its, rv, p1, la⟩ := seqB I1 hqx
      obtain ⟨its2, rv2, p2, lb⟩ := seqB I1 hqy
      refine zip_begins2 (beginsB b1 a its.toArray) (beginsB b2 b its2.toArray) p1 p2 fun h' hz hTI hTO h1 h2 hsz hk => wpAny_pyIter_zip hz ?_
      have I2 : Inv X pins σ H1 { s1 with heap := h' } := I1.kept (t' := s1.toks) hk
      exact ⟨s1.heap.objs.size + 4, [s1.heap.objs.size + 4, s1.heap.objs.size + 2, s1.heap.objs.size + 3, s1.heap.objs.size, s1.heap.objs.size + 1], _, _, H1, rfl, I2,
        turn_zip2 (zip_sep2 (fp1 := [a]) (fp2 := [b]) (fun c hc => by simp at hc; rw [hc]; exact la) (fun c hc => by simp at hc; rw [hc]; exact lb)), ⟨hz, hTI, ⟨_, _, hTO⟩, iterB0 h1, iterB0 h2⟩, fresh5, q⟩
theorem walk_zip2 {K : PySem.W.Frag} {b1 b2 : Bool} {a b : Addr} {xs ys : List V} {n : Nat} (hx : xs.length = n) (hy : ys.length = n) :
    Walk (Itz2 K b1 b2 a b xs ys) n (fun H => SqB K b1 H a xs ∧ SqB K b2 H b ys) (YPair (fun i => xs[i]?) (fun i => ys[i]?)) :=
  ⟨fun i _ hi q => ⟨q.1, q.2, by omega, by omega⟩, fun _ q => ⟨q.1, q.2, by omega, by omega, by omega⟩, fun i H v H' _ q y => by
    obtain ⟨T, x, z, h1, h2, h3, h4, h5⟩ := y
    exact ⟨T, x, z, h1, h2, h3, h4, h5⟩⟩

/-! ### zip of three -/
def Itz3 (K : PySem.W.Frag) (b1 b2 b3 : Bool) (a b c : Addr) (xs ys zs : List V) : It :=
  ⟨fun i H => SqB K b1 H a xs ∧ SqB K b2 H b ys ∧ SqB K b3 H c zs ∧ i < xs.length ∧ i < ys.length ∧ i < zs.length,
    fun i H v H' => ∃ T x y z, v = .ref T ∧ H T = none ∧ H' = upd H T (.tup [x, y, z]) ∧ xs[i]? = some x ∧ ys[i]? = some y ∧ zs[i]? = some z,
    fun i H => SqB K b1 H a xs ∧ SqB K b2 H b ys ∧ SqB K b3 H c zs ∧ i ≤ xs.length ∧ i ≤ ys.length ∧ i ≤ zs.length ∧ (i = xs.length ∨ i = ys.length ∨ i = zs.length)⟩
theorem turn_zip3 {P : Program} {w : World} {K : PySem.W.Frag} {elts : List Expr} {kk : Nat} {tpos : Pos} {b1 b2 b3 : Bool} {a b c z TI TO i1 i2 i3 : Addr} {xs ys zs : List V} (D : ZipSep3 z TI TO i1 i2 i3 [i1, a] [i2, b] [i3, c]) :
    Turn P w K (.Tuple elts kk tpos) (Itz3 K b1 b2 b3 a b c xs ys zs) [z, TI, TO, i1, i2, i3] z (fun i h => IsZip h z TI TO .none ∧ IsTupOf3 h TI (.ref i1) (.ref i2) (.ref i3) ∧ (∃ x y u, IsTupOf3 h TO x y u) ∧ IterB b1 h i1 a i ∧ IterB b2 h i2 b i ∧ IterB b3 h i3 c i) where
  mem := by simp
  obj := fun i h st c hc => by
    obtain ⟨hz, hTI, ⟨x, y, u, hTO⟩, h1, h2, h3⟩ := st
    have e' : c = z ∨ c = TI ∨ c = TO ∨ c = i1 ∨ c = i2 ∨ c = i3 := by simpa using hc
    rcases e' with q | q | q | q | q | q
    · rw [q]; exact ⟨_, hz, fun v q => nomatch q⟩
    · rw [q]; exact ⟨_, hTI, fun v q => nomatch q⟩
    · rw [q]; exact ⟨_, hTO, fun v q => nomatch q⟩
    · rw [q]; exact h1.obj
    · rw [q]; exact h2.obj
    · rw [q]; exact h3.obj
  keep := fun i h h' st k => by
    obtain ⟨hz, hTI, ⟨x, y, u, hTO⟩, h1, h2, h3⟩ := st
    exact ⟨k z (by simp) _ hz, k TI (by simp) _ hTI, ⟨x, y, u, k TO (by simp) _ hTO⟩, h1.at fun o q => k i1 (by simp) o q, h2.at fun o q => k i2 (by simp) o q, h3.at fun o q => k i3 (by simp) o q⟩
  item := by
    intro X hP hw hK hc i pins s σ H E I hf st hg
    subst hP hw hK
    obtain ⟨hz, hTI, ⟨x0, y0, u0, hTO⟩, h1, h2, h3⟩ := st
    obtain ⟨hqx, hqy, hqz, hlx, hly, hlz⟩ := hg
    obtain ⟨its, rv, p, _⟩ := seqB I hqx
    obtain ⟨its2, rv2, p2, _⟩ := seqB I hqy
    obtain ⟨its3, rv3, p3, _⟩ := seqB I hqz
    have hx : xs[i]? = some xs[i] := List.getElem?_eq_getElem hlx
    have hy : ys[i]? = some ys[i] := List.getElem?_eq_getElem hly
    have hw : zs[i]? = some zs[i] := List.getElem?_eq_getElem hlz
    obtain ⟨u, hu, ru⟩ := rv.get hx
    obtain ⟨u2, hu2, ru2⟩ := rv2.get hy
    obtain ⟨u3, hu3, ru3⟩ := rv3.get hw
    have hh : X.A.in1.handled = none := I.ok.hd hc
    have hzl : z < s.heap.objs.size := Heap.lt_size hz
    have n1 : a ≠ i1 := ne_iter I hqx h1 (hf i1 (by simp)).1
    have n2 : b ≠ i2 := ne_iter I hqy h2 (hf i2 (by simp)).1
    have n3 : c ≠ i3 := ne_iter I hqz h3 (hf i3 (by simp)).1
    have L1 : i < its.toArray.size := by simp; have := rv.length; omega
    have L2' : i < its2.toArray.size := by simp; have := rv2.length; omega
    have L3 : i < its3.toArray.size := by simp; have := rv3.length; omega
    refine wpAny_pyNext_zipD3_item D (drawsB hh b1 i1 a n1 its.toArray) (drawsB hh b2 i2 b n2 its2.toArray) (drawsB hh b3 i3 c n3 its3.toArray) hz hTI hTO ⟨h1, p⟩ ⟨h2, p2⟩ ⟨h3, p3⟩ L1 L2' L3 fun x1 x2 x3 h' tk hP1 hP2 hP3 z' TO' st1 st2 st3 hT hsz hk => ?_
    have ex1 : x1 = u := by
      have : its.toArray[i]? = some u := by simpa using hu
      rw [this] at hP1; exact (Option.some.inj hP1).symm
    have ex2 : x2 = u2 := by
      have : its2.toArray[i]? = some u2 := by simpa using hu2
      rw [this] at hP2; exact (Option.some.inj hP2).symm
    have ex3 : x3 = u3 := by
      have : its3.toArray[i]? = some u3 := by simpa using hu3
      rw [this] at hP3; exact (Option.some.inj hP3).symm
    subst ex1; subst ex2; subst ex3
    refine ⟨_, rfl, wpAny_letOwnedTupleGo_zip (s := { s with heap := h', toks := tk }) z' fun h'' z'' sb => ?_⟩
    have hT2 : h''.get? s.heap.objs.size = some { cls := .type "tuple", data := .seq #[x1, x2, x3] } := (sb.2 _ (Nat.ne_of_gt hzl)).trans hT
    have new : ObjOk X.prog X.w (upd H s.heap.objs.size (.tup [xs[i], ys[i], zs[i]])) h'' s.heap.objs.size (.tup [xs[i], ys[i], zs[i]]) :=
      ⟨by show 3 ≤ sizeLine; decide, [x1, x2, x3], .cons ru (.cons ru2 (.cons ru3 .nil)), ⟨_, hT2, rfl, _, rfl⟩⟩
    have I1 : Inv X pins σ (upd H s.heap.objs.size (.tup [xs[i], ys[i], zs[i]])) { s with heap := h'', toks := tk } :=
      I.turnedNew (t' := tk) (ch := [z, TI, TO, i1, i2, i3]) (fun c o hb q => (sb.2 c (fun q' => hb (by simp [q']))).trans (hk c o (fun q' => hb (by simp [q'])) (fun q' => hb (by simp [q'])) (fun q' => hb (by simp [q'])) (fun q' => hb (by simp [q'])) (fun q' => hb (by simp [q'])) q)) hf (Nat.le_refl _) new
    refine ⟨.ref s.heap.objs.size, _, I1, rfl, ⟨_, xs[i], ys[i], zs[i], rfl, I.hok.fresh (Nat.le_refl _), rfl, hx, hy, hw⟩, ⟨z'', ?_, ⟨x1, x2, x3, ?_⟩, ?_, ?_, ?_⟩, fun c hcm => ?_⟩
    · exact (sb.2 _ D.TIz).trans (hk _ _ D.TIz D.TITO D.TIi1 D.TIi2 D.TIi3 hTI)
    · exact (sb.2 _ D.TOz).trans TO'
    · exact st1.1.at fun o q => (sb.2 _ D.zi1.symm).trans q
    · exact st2.1.at fun o q => (sb.2 _ D.zi2.symm).trans q
    · exact st3.1.at fun o q => (sb.2 _ D.zi3.symm).trans q
    · have hlt : c < s.heap.objs.size := by
        have e' : c = z ∨ c = TI ∨ c = TO ∨ c = i1 ∨ c = i2 ∨ c = i3 := by simpa using hcm
        rcases e' with q | q | q | q | q | q
        · rw [q]; exact hzl
        · rw [q]; exact Heap.lt_size hTI
        · rw [q]; exact Heap.lt_size hTO
        · rw [q]; obtain ⟨_, e1, _⟩ := h1.obj; exact Heap.lt_size e1
        · rw [q]; obtain ⟨_, e2, _⟩ := h2.obj; exact Heap.lt_size e2
        · rw [q]; obtain ⟨_, e2, _⟩ := h3.obj; exact Heap.lt_size e2
      rw [upd_ne (Nat.ne_of_lt hlt)]
      exact (hf c hcm).1
  done := by
    intro X hP hw hK hc i pins s σ H E I hf st hg
    subst hP hw hK
    obtain ⟨hz, hTI, ⟨x0, y0, u0, hTO⟩, h1, h2, h3⟩ := st
    obtain ⟨hqx, hqy, hqz, hlx, hly, hlz, hend⟩ := hg
    obtain ⟨its, rv, p, la⟩ := seqB I hqx
    obtain ⟨its2, rv2, p2, lb⟩ := seqB I hqy
    obtain ⟨its3, rv3, p3, lc⟩ := seqB I hqz
    have l1 := rv.length
    have l2 := rv2.length
    have l3 := rv3.length
    have hh : X.A.in1.handled = none := I.ok.hd hc
    have n1 : a ≠ i1 := ne_iter I hqx h1 (hf i1 (by simp)).1
    have n2 : b ≠ i2 := ne_iter I hqy h2 (hf i2 (by simp)).1
    have n3 : c ≠ i3 := ne_iter I hqz h3 (hf i3 (by simp)).1
    refine wpAny_pyNext_zipD3_end D (drawsB hh b1 i1 a n1 its.toArray) (drawsB hh b2 i2 b n2 its2.toArray) (drawsB hh b3 i3 c n3 its3.toArray) hz hTI hTO ⟨h1, p⟩ ⟨h2, p2⟩ ⟨h3, p3⟩ (by simp; omega) (by simp; omega) (by simp; omega) (by simp; omega) fun h' tk hk =>
      ⟨rfl, I.turnedL (t' := tk) (ch := [z, TI, TO, i1, i2, i3]) (fun c o hb q => hk c o (fun q' => hb (by simp [q'])) (fun q' => hb (by simp [q'])) (fun q' => hb (by simp [q'])) (fun q' => hb (by simp [q'])) (fun q' => hb (by simp [q'])) q) hf⟩
  self := fun A i s Q E st h => wpAny_pyIter_zip st.1 h

def iZip3 (K : PySem.W.Frag) (ta : TA) : TI := fun σ H R => ta σ H fun vs H1 => ∃ b1 b2 b3 a b c xs ys zs, vs = [.ref a, .ref b, .ref c] ∧ SqB K b1 H1 a xs ∧ SqB K b2 H1 b ys ∧ SqB K b3 H1 c zs ∧ R (Itz3 K b1 b2 b3 a b c xs ys zs) H1
theorem pi_zip3 {X : Cx} {e e2 e3 : Expr} {ta : TA} {p pos tpos : Pos} {elts : List Expr} {kk : Nat} (hg : Gl X "zip") (hm : X.mg "zip" = none) (ha : PA X [e, e2, e3] ta)
    (hs : starEach [e, e2, e3] X.env = (false, eval e X.env) :: starEach [e2, e3] X.env := by rfl) (hpl : (backTo pos (starEach [e2, e3] X.env)).any (·.1) = false := by rfl) :
    PI X (.Tuple elts kk tpos) (.Call (.Name "zip" p) [e, e2, e3] [] pos) (iZip3 X.K ta) := by
  refine ⟨fun pins s σ H R I h => ?_⟩
  refine Call_ (ld_blt I hg hm PyProof.Rows.boot_zip (PyProof.Rows.callWith_type1 (thn (ha.run pos pins s σ H _ I h) fun us s1 ⟨vs, H1, I1, r1, q1⟩ => ?_) hs hpl))
  obtain ⟨b1, b2, b3, a, b, c, xs, ys, zs, ex, hqx, hqy, hqz, q⟩ := q1
  subst ex
  cases r1 with
  | cons r rr =>
    cases rr with
    | cons r' rr =>
      cases rr with
      | cons r'' rr =>
        cases rr
        cases r
        cases r'
        cases r''
        have fresh6 : ∀ c, c ∈ [s1.heap.objs.size + 5, s1.heap.objs.size + 3, s1.heap.objs.size + 4, s1.heap.objs.size, s1.heap.objs.size + 1, s1.heap.objs.size + 2] → FpOk X pins H1 c := fun c hcm => by
          have e' : c = s1.heap.objs.size + 5 ∨ c = s1.heap.objs.size + 3 ∨ c = s1.heap.objs.size + 4 ∨ c = s1.heap.objs.size ∨ c = s1.heap.objs.size + 1 ∨ c = s1.heap.objs.size + 2 := by simpa using hcm
          have hle : s1.heap.objs.size ≤ c := by
            rcases e' with z | z | z | z | z | z
            · rw [z]; exact Nat.le_add_right _ _
            · rw [z]; exact Nat.le_add_right _ _
            · rw [z]; exact Nat.le_add_right _ _
            · rw [z]; exact Nat.le_refl _
            · rw [z]; exact Nat.le_add_right _ _
            · rw [z]; exact Nat.le_add_right _ _
          exact I1.fpOk hle (I1.hok.fresh hle)
        obtain ⟨its, rv, p1, la⟩ := seqB I1 hqx
        obtain ⟨its2, rv2, p2, lb⟩ := seqB I1 hqy
        obtain ⟨its3, rv3, p3, lc⟩ := seqB I1 hqz
        refine zip_begins3 (beginsB b1 a its.toArray) (beginsB b2 b its2.toArray) (beginsB b3 c its3.toArray) p1 p2 p3 fun h' hz hTI hTO h1 h2 h3 hsz hk => wpAny_pyIter_zip hz ?_
        have I2 : Inv X pins σ H1 { s1 with heap := h' } := I1.kept (t' := s1.toks) hk
        exact ⟨s1.heap.objs.size + 5, [s1.heap.objs.size + 5, s1.heap.objs.size + 3, s1.heap.objs.size + 4, s1.heap.objs.size, s1.heap.objs.size + 1, s1.heap.objs.size + 2], _, _, H1, rfl, I2,
          turn_zip3 (zip_sep3 (fp1 := [a]) (fp2 := [b]) (fp3 := [c]) (fun d hc => by simp at hc; rw [hc]; exact la) (fun d hc => by simp at hc; rw [hc]; exact lb) (fun d hc => by simp at hc; rw [hc]; exact lc)), ⟨hz, hTI, ⟨_, _, _, hTO⟩, iterB0 h1, iterB0 h2, iterB0 h3⟩, fresh6, q⟩
/-- a new triple -/
def YTrip (xs ys zs : Nat → Option V) : Nat → Hp → V → Hp → Prop := fun i H v H' => ∃ T x y z, v = .ref T ∧ H T = none ∧ H' = upd H T (.tup [x, y, z]) ∧ xs i = some x ∧ ys i = some y ∧ zs i = some z
theorem walk_zip3 {K : PySem.W.Frag} {b1 b2 b3 : Bool} {a b c : Addr} {xs ys zs : List V} {n : Nat} (hx : xs.length = n) (hy : ys.length = n) (hz : zs.length = n) :
    Walk (Itz3 K b1 b2 b3 a b c xs ys zs) n (fun H => SqB K b1 H a xs ∧ SqB K b2 H b ys ∧ SqB K b3 H c zs) (YTrip (fun i => xs[i]?) (fun i => ys[i]?) (fun i => zs[i]?)) :=
  ⟨fun i _ hi q => ⟨q.1, q.2.1, q.2.2, by omega, by omega, by omega⟩, fun _ q => ⟨q.1, q.2.1, q.2.2, by omega, by omega, by omega, by omega⟩, fun i H v H' _ q y => y⟩

theorem meets_enumerate_newT (l : Addr) (items : Array Value) (n : Nat) (dct : Option Addr) (sl : Array (Option Value)) :
    Meets (Builtin.«enumerate.__new__» ⟨[.type "enumerate", .ref l], []⟩) (fun _ R s => s.heap.get? l = some { cls := .type "tuple", dict := dct, data := .seq items n, slots := sl } ∧
      R (.ok (.ret (.ref (s.heap.push { cls := .type "tuple_iterator", data := .fields #[.ref l, .int 0 0] }).objs.size)))
        { s with heap := (s.heap.push { cls := .type "tuple_iterator", data := .fields #[.ref l, .int 0 0] }).push { cls := .type "enumerate", data := .fields #[.none, .bool false, .ref s.heap.objs.size, rawInt 0, .none, .none] } }) :=
  .of_wp fun prog w A R s h => by
    obtain ⟨hp, g, d, tk, os⟩ := s; obtain ⟨hl, h⟩ := h
    have hsub := sub_enumerate
    have hL : Heap.IsTuple (Shared.heap ⟨hp, g, d, tk, os⟩) l items := ⟨_, hl, rfl, n, rfl⟩
    wp_walk using AutoSeq1.wpAny_loadPart' hl
    refine wpAny_stack_any fun st => wpAny_pure ?_
    split
    · rename_i c _ _ _ _ _
      cases (c == Value.type "enumerate")
      · wp_walk using AutoSeq1.wpAny_loadPart' hl, wpAny_pyIter_tuple hL
        exact ⟨_, rfl, h⟩
      · wp_walk using AutoSeq1.wpAny_loadPart' hl, wpAny_pyIter_tuple hL
        exact ⟨_, rfl, h⟩
    · wp_walk using AutoSeq1.wpAny_loadPart' hl, wpAny_pyIter_tuple hL
      exact ⟨_, rfl, h⟩
theorem call_enumerate_tuple {prog : Program} {w : World} {A : Around} {E : Value → Shared → Prop} {s : Shared} {l : Addr} {items : Array Value} {Q : Value → Shared → Prop} (hL : s.heap.IsTuple l items)
    (h : ∀ h', IsEnum h' (s.heap.objs.size + 1) s.heap.objs.size 0 .none → h'.IsTupleIter s.heap.objs.size l 0 → h'.objs.size = s.heap.objs.size + 2 →
      (∀ b o, s.heap.get? b = some o → h'.get? b = some o) → Q (.ref (s.heap.objs.size + 1)) { s with heap := h' }) :
    wpAny (model prog w) A (call (.type "enumerate") [.ref l]) Q E s := by
  obtain ⟨⟨c, dct, dt, sl⟩, hl, hc, n, hd⟩ := hL
  replace hc : c = .type "tuple" := hc
  replace hd : dt = .seq items n := hd
  subst hc hd
  refine callType_new F.called_enumerate (by decide) (F.typeCall_enumerate_1 _) (F.newCall_enumerate_1 _) (fun obj => F.args_object_init_2 obj _) F.entry_enumerate_new
    (meets_enumerate_newT l items n dct sl) ⟨hl, ?_⟩
  have hz : (s.heap.push { cls := .type "tuple_iterator", data := .fields #[.ref l, .int 0 0] }).objs.size = s.heap.objs.size + 1 := Heap.size_push ..
  show _ ∧ _
  rw [hz]
  have he : IsEnum ((s.heap.push { cls := .type "tuple_iterator", data := .fields #[.ref l, .int 0 0] }).push
      { cls := .type "enumerate", data := .fields #[.none, .bool false, .ref s.heap.objs.size, rawInt 0, .none, .none] }) (s.heap.objs.size + 1) s.heap.objs.size 0 .none := by
    have := Heap.get?_push_size (s.heap.push { cls := .type "tuple_iterator", data := .fields #[.ref l, .int 0 0] })
      (o := { cls := .type "enumerate", data := .fields #[.none, .bool false, .ref s.heap.objs.size, rawInt 0, .none, .none] }) rfl
    rw [hz] at this; exact this
  refine ⟨⟨_, he, rfl⟩, h _ he ⟨_, Heap.get?_push_of_some _ (Heap.get?_push_size _ rfl), rfl, rfl⟩ (by rw [Heap.size_push, hz]) fun b o x => Heap.get?_push_of_some _ (Heap.get?_push_of_some _ x)⟩

/-! ### enumerate -/
def IteB (K : PySem.W.Frag) (b : Bool) (a : Addr) (xs : List V) : It :=
  ⟨fun i H => SqB K b H a xs ∧ i < xs.length,
    fun i H v H' => ∃ T x, v = .ref T ∧ H T = none ∧ H' = upd H T (.tup [.int (i : Nat), x]) ∧ xs[i]? = some x,
    fun i H => SqB K b H a xs ∧ i = xs.length⟩
theorem pyNext_enum_endD {prog : Program} {w : World} {A : Around} {E : Value → Shared → Prop} {s : Shared} {e it : Addr} {fp : List Addr} {n : Nat} {P : Nat → Value → Prop} {St : Nat → Heap → Prop} (c : Int) (D : Draws prog w A.in1 it fp n P St) (hei : e ≠ it) (hef : e ∉ fp) (hif : it ∈ fp)
    {old : Value} (he : IsEnum s.heap e it (c + (n : Int)) old) (hst : St n s.heap) {Q : Option Value → Shared → Prop} (hQ : ∀ h' tk, (∀ b o, b ∉ [e, it] → s.heap.get? b = some o → h'.get? b = some o) → Q none { s with heap := h', toks := tk }) :
    wpAny (model prog w) A (pyNext (.ref e)) Q E s := by
  have W := Goes.enumFrom (prog := prog) (w := w) (A := A) (elts := []) (x1 := 0) (pos := ⟨0, 0, 0, 0⟩) c D e hei hef hif
  refine wpAny_mono (W.stops s (fun s' => Q none s') E ⟨⟨old, he⟩, hst⟩ fun h' tk hk _ => hQ h' tk hk) (fun r s' q => by rw [q.1]; exact q.2) (fun _ _ z => z)
theorem turn_enumB {P : Program} {w : World} {K : PySem.W.Frag} {elts : List Expr} {kk : Nat} {tpos : Pos} {b : Bool} {a e it : Addr} {xs : List V} (hei : e ≠ it) (hea : e ≠ a) :
    Turn P w K (.Tuple elts kk tpos) (IteB K b a xs) [e, it] e (fun i h => (∃ old, IsEnum h e it (0 + (i : Nat)) old) ∧ IterB b h it a i) where
  mem := by simp
  obj := fun i h st c hc => by
    obtain ⟨⟨old, he⟩, h1⟩ := st
    have e' : c = e ∨ c = it := by simpa using hc
    rcases e' with q | q
    · rw [q]; exact ⟨_, he, fun v q => nomatch q⟩
    · rw [q]; exact h1.obj
  keep := fun i h h' st k => by
    obtain ⟨⟨old, he⟩, h1⟩ := st
    exact ⟨⟨old, k e (by simp) _ he⟩, h1.at fun o q => k it (by simp) o q⟩
  item := by
    intro X hP hw hK hc i pins s σ H E I hf st hg
    subst hP hw hK
    obtain ⟨⟨old, he⟩, h1⟩ := st
    obtain ⟨hqx, hlx⟩ := hg
    obtain ⟨its, rv, p, _⟩ := seqB I hqx
    have hx : xs[i]? = some xs[i] := List.getElem?_eq_getElem hlx
    obtain ⟨u, hu, ru⟩ := rv.get hx
    have hh : X.A.in1.handled = none := I.ok.hd hc
    have n1 : a ≠ it := ne_iter I hqx h1 (hf it (by simp)).1
    have L1 : i < its.toArray.size := by simp; have := rv.length; omega
    have hel : e < s.heap.objs.size := Heap.lt_size he
    refine wpAny_pyNext_enum_itemC (drawsB hh b it a n1 its.toArray) he ⟨h1, p⟩ L1 hei (by simp [hei, hea]) fun x h' tk hP1 he' st1 hT hsz hk => ?_
    have ex1 : x = u := by
      have : its.toArray[i]? = some u := by simpa using hu
      rw [this] at hP1; exact (Option.some.inj hP1).symm
    subst ex1
    refine ⟨_, rfl, wpAny_letOwnedTupleGo_enum (s := { s with heap := h', toks := tk + 1 }) he' fun h'' he'' sb => ?_⟩
    have hT2 : h''.get? s.heap.objs.size = some { cls := .type "tuple", data := .seq #[.int (0 + (i : Nat)) tk, x] } := (sb.2 _ (Nat.ne_of_gt hel)).trans hT
    have e0 : (0 : Int) + ((i : Nat) : Int) = ((i : Nat) : Int) := Int.zero_add _
    have new : ObjOk X.prog X.w (upd H s.heap.objs.size (.tup [.int (i : Nat), xs[i]])) h'' s.heap.objs.size (.tup [.int (i : Nat), xs[i]]) :=
      ⟨by show 2 ≤ sizeLine; decide, [.int (0 + (i : Nat)) tk, x], .cons ⟨tk, by rw [e0]⟩ (.cons ru .nil), ⟨_, hT2, rfl, _, rfl⟩⟩
    have I1 : Inv X pins σ (upd H s.heap.objs.size (.tup [.int (i : Nat), xs[i]])) { s with heap := h'', toks := tk + 1 } :=
      I.turnedNew (t' := tk + 1) (ch := [e, it]) (fun c o hb q => (sb.2 c (fun q' => hb (by simp [q']))).trans (hk c o (fun q' => hb (by simp [q'])) (fun q' => hb (by simp [q'])) q)) hf (Nat.le_refl _) new
    refine ⟨.ref s.heap.objs.size, _, I1, rfl, ⟨_, xs[i], rfl, I.hok.fresh (Nat.le_refl _), rfl, hx⟩, ⟨⟨x, ?_⟩, ?_⟩, fun c hcm => ?_⟩
    · have e1 : (0 : Int) + ((i + 1 : Nat) : Int) = 0 + (i : Int) + 1 := by omega
      rw [e1]
      exact he''
    · exact st1.1.at fun o q => (sb.2 _ hei.symm).trans q
    · have hlt : c < s.heap.objs.size := by
        have e' : c = e ∨ c = it := by simpa using hcm
        rcases e' with q | q
        · rw [q]; exact hel
        · rw [q]; obtain ⟨_, e1, _⟩ := h1.obj; exact Heap.lt_size e1
      rw [upd_ne (Nat.ne_of_lt hlt)]
      exact (hf c hcm).1
  done := by
    intro X hP hw hK hc i pins s σ H E I hf st hg
    subst hP hw hK
    obtain ⟨⟨old, he⟩, h1⟩ := st
    obtain ⟨hqx, hlx⟩ := hg
    obtain ⟨its, rv, p, _⟩ := seqB I hqx
    have l1 := rv.length
    have hh : X.A.in1.handled = none := I.ok.hd hc
    have n1 : a ≠ it := ne_iter I hqx h1 (hf it (by simp)).1
    have en : i = its.toArray.size := by simp; omega
    subst en
    exact pyNext_enum_endD 0 (drawsB hh b it a n1 its.toArray) hei (by simp [hei, hea]) (by simp) he ⟨h1, p⟩ fun h' tk hk => ⟨rfl, I.turnedL (t' := tk) (ch := [e, it]) hk hf⟩
  self := fun A i s Q E st h => by
    obtain ⟨⟨old, he⟩, h1⟩ := st
    exact wpAny_pyIter_enum he h
def iEnumB (K : PySem.W.Frag) (ta : TA) : TI := fun σ H R => ta σ H fun vs H1 => ∃ b a xs, vs = [.ref a] ∧ SqB K b H1 a xs ∧ R (IteB K b a xs) H1
theorem pi_enumB {X : Cx} {e : Expr} {ta : TA} {p pos tpos : Pos} {elts : List Expr} {kk : Nat} (hg : Gl X "enumerate") (hm : X.mg "enumerate" = none) (ha : PA X [e] ta) (hs : starEach [e] X.env = [(false, eval e X.env)] := by rfl) :
    PI X (.Tuple elts kk tpos) (.Call (.Name "enumerate" p) [e] [] pos) (iEnumB X.K ta) := by
  refine ⟨fun pins s σ H R I h => ?_⟩
  refine Call_ (ld_blt I hg hm boot_enumerate (PyProof.Rows.callWith_type1 (thn (ha.run pos pins s σ H _ I h) fun us s1 ⟨vs, H1, I1, r1, q1⟩ => ?_) hs rfl))
  obtain ⟨b, a, xs, ex, hq, q⟩ := q1
  subst ex
  cases r1 with
  | cons r rr =>
    cases rr
    cases r
    have fr : ∀ c ∈ [s1.heap.objs.size + 1, s1.heap.objs.size], FpOk X pins H1 c := fun c hb => by
      have e' : c = s1.heap.objs.size + 1 ∨ c = s1.heap.objs.size := by simpa using hb
      have hle : s1.heap.objs.size ≤ c := by
        rcases e' with z | z
        · rw [z]; exact Nat.le_add_right _ _
        · rw [z]; exact Nat.le_refl _
      exact I1.fpOk hle (I1.hok.fresh hle)
    obtain ⟨its, rv, p', hlt⟩ := seqB I1 hq
    have nea : s1.heap.objs.size + 1 ≠ a := Nat.ne_of_gt (Nat.lt_of_lt_of_le hlt (Nat.le_add_right _ _))
    cases b
    · refine call_enumerate_list (show s1.heap.IsList a its.toArray from p') fun h' he hit hsz hk => wpAny_pyIter_enum he ?_
      have I2 : Inv X pins σ H1 { s1 with heap := h' } := I1.kept (t' := s1.toks) hk
      exact ⟨s1.heap.objs.size + 1, [s1.heap.objs.size + 1, s1.heap.objs.size], _, _, H1, rfl, I2, turn_enumB (b := false) (Nat.succ_ne_self _) nea, ⟨⟨.none, he⟩, hit⟩, fr, q⟩
    · refine call_enumerate_tuple (show s1.heap.IsTuple a its.toArray from p') fun h' he hit hsz hk => wpAny_pyIter_enum he ?_
      have I2 : Inv X pins σ H1 { s1 with heap := h' } := I1.kept (t' := s1.toks) hk
      exact ⟨s1.heap.objs.size + 1, [s1.heap.objs.size + 1, s1.heap.objs.size], _, _, H1, rfl, I2, turn_enumB (b := true) (Nat.succ_ne_self _) nea, ⟨⟨.none, he⟩, hit⟩, fr, q⟩
theorem walk_enumB {K : PySem.W.Frag} {b : Bool} {a : Addr} {xs : List V} : Walk (IteB K b a xs) xs.length (fun H => SqB K b H a xs) (YPair (fun i => some (.int (i : Nat))) (fun i => xs[i]?)) :=
  ⟨fun i _ hi q => ⟨q, hi⟩, fun _ q => ⟨q, rfl⟩, fun i H v H' _ q y => by
    obtain ⟨T, x, h1, h2, h3, h4⟩ := y
    exact ⟨T, .int (i : Nat), x, h1, h2, h3, rfl, h4⟩⟩

/-! ### a[i] += e of a list -/
theorem get_list {X : Cx} : PGet X (rIxL X.K) := by
  intro pins s σ H o i ov iv Q I ro ri h
  obtain ⟨p, items, k, v, rfl, rfl, hq, ha, q⟩ := h
  cases ro
  obtain ⟨t, rfl⟩ := ri
  obtain ⟨its, r, pl, hz⟩ := I.list hq
  obtain ⟨j, h1, h2, h3, h4, h5⟩ := atI_get ha
  obtain ⟨w, ew, rw'⟩ := r.get h2
  have hl := r.length
  have hn := line63
  have fin : EP X pins σ Q w s := ⟨v, H, I, rw', q⟩
  by_cases h0 : 0 ≤ k
  · have hj : k.toNat = j := by
      rw [seqIndex_of h0 h5] at h1
      exact Option.some.inj h1
    exact wpAny_getItem_list pl.isList h0 (by omega) (by rw [hj]; simpa using ew) fin
  · have hj : (k + (its.toArray.size : Int)).toNat = j := by
      rw [seqIndex_neg (by omega) h4] at h1
      rw [List.size_toArray, ← hl]
      exact Option.some.inj h1
    exact wpAny_getItem_list_neg pl.isList (by omega) (by rw [List.size_toArray] <;> omega) (by omega) (by rw [hj]; simpa using ew) fin
end HX

/-! Defs and methods with their promises in one bundle; readings step by step; facts carried along the heap. -/
namespace HX
open PySem PySem.Spec PyProof.Rows L2

/-! ### defs -/
structure Df (P : Program) (w : World) (K : PySem.W.Frag) (mg : Str → Option Value) (base : Heap) (x : Str) (k : Nat) (ps : List Str) (sp : Sp) : Prop where
  ex : ∃ f fd, FnOk P w K mg base CX0 k f fd ps sp ∧ mg x = some (.ref f) ∧ PySem.W.keepIn K (.ref f) = true ∧ Binds K fd ps []
theorem pe_df {X : Cx} {x : Str} {k : Nat} {ps : List Str} {sp : Sp} {e : Expr} {es : List Expr} {t : TA} {p pos : Pos} (D : Df X.prog X.w X.K X.mg X.base x k ps sp) (hr : Room k X.A) (hg : Gl X x) (ha : PA X (e :: es) t)
    (hdb : (x == ("__debug__" : Str)) = false := by decide) (he : starEach (e :: es) X.env = (false, eval e X.env) :: starEach es X.env := by rfl) (hpl : (backTo pos (starEach es X.env)).any (·.1) = false := by rfl) :
    PE X (.Call (.Name x p) (e :: es) [] pos) (tCall sp [] E0 t) := by
  obtain ⟨f, fd, F, hm, hk, hb⟩ := D.ex
  exact pe_call F hr hg hm hk hb .nil pass0 ha hdb he hpl
/-- a def of the text under its name -/
structure Has (K : PySem.W.Frag) (mg : Str → Option Value) (x : Str) (st : Stmt) : Prop where
  ex : ∃ f fd, Fun K x x st f fd ∧ mg x = some (.ref f)
theorem df_of {P : Program} {w : World} {K : PySem.W.Frag} {mg : Str → Option Value} {base : Heap} {x : Str} {st : Stmt} {k : Nat} {N ps : List Str} {sp : Sp} (F : Has K mg x st) (S : FnScope N ps (defScope st))
    (hb : ∀ (kV doc pm : Value) (an : Option Addr) (cdv ct : Value) (us : List Value), us.length = ps.length → bindArgs (PySem.W.fnOf x x (defArgs st) (defBody st) (defScope st) .none kV doc pm an cdv ct) ⟨us, []⟩ = pure (ps.zip us))
    (len : ∀ vs H Q E, sp vs H Q E → vs.length = ps.length)
    (hbody : ∀ (f : Addr) (cdv : Value) (A : Around) (outer : List Env) (s : Shared) (H : Hp) (vs : List V) (Q : VK) (E : XK), Room k (A.deeper (envOfC x (defScope st) s.heap.objs.size f cdv)) → sp vs H Q E →
      ∃ t, PSs (cxOf CX0 P w K mg base N x (defScope st) f cdv A outer s H E).nox (defBody st) t ∧ t { nx := fun _ H' => Q .non H', rt := Q } (start N vs) H) : Df P w K mg base x (k + 1) ps sp := by
  obtain ⟨f, fd, F, hm⟩ := F.ex
  exact ⟨f, fd, F.ok S len (hbody f), hm, F.kp, F.binds hb⟩
theorem Df.imp {P : Program} {w : World} {K : PySem.W.Frag} {mg : Str → Option Value} {base : Heap} {x : Str} {k : Nat} {ps : List Str} {sp sp' : Sp} (D : Df P w K mg base x k ps sp) (h : ∀ vs H Q E, sp' vs H Q E → sp vs H Q E) : Df P w K mg base x k ps sp' := by
  obtain ⟨f, fd, F, r⟩ := D.ex
  exact ⟨f, fd, F.imp h, r⟩

/-! ### methods -/
structure Mf (P : Program) (w : World) (K : PySem.W.Frag) (mg : Str → Option Value) (base : Heap) (C : Addr) (m : Str) (k : Nat) (ps : List Str) (sp : Sp) : Prop where
  ex : ∃ f fd, FnOk P w K mg base CX0 k f fd ps sp ∧ Meth K C m f ∧ Binds K fd ps []
structure HasM (K : PySem.W.Frag) (C : Addr) (m qual : Str) (st : Stmt) : Prop where
  ex : ∃ f fd, Fun K m qual st f fd ∧ Meth K C m f
theorem mf_of {P : Program} {w : World} {K : PySem.W.Frag} {mg : Str → Option Value} {base : Heap} {C : Addr} {m qual : Str} {st : Stmt} {k : Nat} {N ps : List Str} {sp : Sp} (F : HasM K C m qual st) (S : FnScope N ps (defScope st))
    (hb : ∀ (kV doc pm : Value) (an : Option Addr) (cdv ct : Value) (us : List Value), us.length = ps.length → bindArgs (PySem.W.fnOf m qual (defArgs st) (defBody st) (defScope st) .none kV doc pm an cdv ct) ⟨us, []⟩ = pure (ps.zip us))
    (len : ∀ vs H Q E, sp vs H Q E → vs.length = ps.length)
    (hbody : ∀ (f : Addr) (cdv : Value) (A : Around) (outer : List Env) (s : Shared) (H : Hp) (vs : List V) (Q : VK) (E : XK), Room k (A.deeper (envOfC qual (defScope st) s.heap.objs.size f cdv)) → sp vs H Q E →
      ∃ t, PSs (cxOf CX0 P w K mg base N qual (defScope st) f cdv A outer s H E).nox (defBody st) t ∧ t { nx := fun _ H' => Q .non H', rt := Q } (start N vs) H) : Mf P w K mg base C m (k + 1) ps sp := by
  obtain ⟨f, fd, F, hm⟩ := F.ex
  exact ⟨f, fd, F.ok S len (hbody f), hm, F.binds hb⟩
theorem pe_mf {X : Cx} {C : Addr} {m : Str} {k : Nat} {ps : List Str} {sp : Sp} {o e : Expr} {es : List Expr} {ta : TE} {t : TA} {apos pos : Pos} {pl : Sem Bool} (c : Cls X.K C) (D : Mf X.prog X.w X.K X.mg X.base C m k ps sp) (hr : Room k X.A) (he : PE X o ta) (ha : PA X (e :: es) t)
    (hst : starEach (e :: es) X.env = (false, eval e X.env) :: starEach es X.env := by rfl) (hpl : (backTo pos (starEach es X.env)).any (·.1) = false := by rfl)
    (ht : eval (.Call (.Attribute o m apos) (e :: es) [] pos) X.env = (do
      let ov ← eval o X.env
      standAt apos.atName
      let (f, first) ← holding [ov] (getMethod ov m pl)
      callWith pos f first (backTo pos (starEach (e :: es) X.env)) (backToKw pos (keywordEach [] X.env))) := by rfl) :
    PE X (.Call (.Attribute o m apos) (e :: es) [] pos) (tMeth C m sp [] E0 ta t) := by
  obtain ⟨f, fd, F, hm, hb⟩ := D.ex
  exact pe_meth he c hm F hr hb .nil pass0 ha hst hpl ht
theorem pe_mf0 {X : Cx} {C : Addr} {m : Str} {k : Nat} {ps : List Str} {sp : Sp} {o : Expr} {ta : TE} {apos pos : Pos} {pl : Sem Bool} (c : Cls X.K C) (D : Mf X.prog X.w X.K X.mg X.base C m k ps sp) (hr : Room k X.A) (he : PE X o ta)
    (ht : eval (.Call (.Attribute o m apos) [] [] pos) X.env = (do
      let ov ← eval o X.env
      standAt apos.atName
      let (f, first) ← holding [ov] (getMethod ov m pl)
      callWith pos f first (backTo pos (starEach [] X.env)) (backToKw pos (keywordEach [] X.env))) := by rfl) :
    PE X (.Call (.Attribute o m apos) [] [] pos) (tMeth C m sp [] E0 ta tNil) := by
  obtain ⟨f, fd, F, hm, hb⟩ := D.ex
  exact pe_meth0 he c hm F hr hb .nil pass0 ht
/-- a class made by its __init__ -/
structure Mkf (P : Program) (w : World) (K : PySem.W.Frag) (mg : Str → Option Value) (base : Heap) (x : Str) (C : Addr) (k : Nat) (ps : List Str) (sp : Sp) : Prop where
  ex : ∃ f fd, FnOk P w K mg base CX0 k f fd ps sp ∧ Mk K C f ∧ Binds K fd ps [] ∧ mg x = some (.ref C)
structure HasI (K : PySem.W.Frag) (mg : Str → Option Value) (x : Str) (C : Addr) (qual : Str) (st : Stmt) : Prop where
  ex : ∃ f fd, Fun K "__init__" qual st f fd ∧ Mk K C f ∧ mg x = some (.ref C)
theorem mkf_of {P : Program} {w : World} {K : PySem.W.Frag} {mg : Str → Option Value} {base : Heap} {C : Addr} {x qual : Str} {st : Stmt} {k : Nat} {N ps : List Str} {sp : Sp} (F : HasI K mg x C qual st) (S : FnScope N ps (defScope st))
    (hb : ∀ (kV doc pm : Value) (an : Option Addr) (cdv ct : Value) (us : List Value), us.length = ps.length → bindArgs (PySem.W.fnOf "__init__" qual (defArgs st) (defBody st) (defScope st) .none kV doc pm an cdv ct) ⟨us, []⟩ = pure (ps.zip us))
    (len : ∀ vs H Q E, sp vs H Q E → vs.length = ps.length)
    (hbody : ∀ (f : Addr) (cdv : Value) (A : Around) (outer : List Env) (s : Shared) (H : Hp) (vs : List V) (Q : VK) (E : XK), Room k (A.deeper (envOfC qual (defScope st) s.heap.objs.size f cdv)) → sp vs H Q E →
      ∃ t, PSs (cxOf CX0 P w K mg base N qual (defScope st) f cdv A outer s H E).nox (defBody st) t ∧ t { nx := fun _ H' => Q .non H', rt := Q } (start N vs) H) : Mkf P w K mg base x C (k + 1) ps sp := by
  obtain ⟨f, fd, F, hm, hx⟩ := F.ex
  exact ⟨f, fd, F.ok S len (hbody f), hm, F.binds hb, hx⟩
theorem pe_mk {X : Cx} {C : Addr} {x : Str} {k : Nat} {ps : List Str} {sp : Sp} {e : Expr} {es : List Expr} {t : TA} {p pos : Pos} (D : Mkf X.prog X.w X.K X.mg X.base x C k ps sp) (hr : Room (k + 1) X.A) (hg : Gl X x) (ha : PA X (e :: es) t)
    (hdb : (x == ("__debug__" : Str)) = false := by decide) (he : starEach (e :: es) X.env = (false, eval e X.env) :: starEach es X.env := by rfl) (hpl : (backTo pos (starEach es X.env)).any (·.1) = false := by rfl) :
    PE X (.Call (.Name x p) (e :: es) [] pos) (tMake C sp [] E0 t) := by
  obtain ⟨f, fd, F, hm, hb, hx⟩ := D.ex
  exact pe_make hm F hr hg hx hb .nil pass0 ha hdb he hpl

/-! ### the built-ins that are still so -/
structure Bl (mg : Str → Option Value) : Prop where
  len : mg "len" = none
  int : mg "int" = none
  bool : mg "bool" = none
  str : mg "str" = none
  tuple : mg "tuple" = none
  list : mg "list" = none
  isinstance : mg "isinstance" = none
  sum : mg "sum" = none
  max : mg "max" = none
  min : mg "min" = none
  all : mg "all" = none
  any : mg "any" = none
  zip : mg "zip" = none
  range : mg "range" = none
  enumerate : mg "enumerate" = none
  sorted : mg "sorted" = none
theorem bt_len : bootBuiltins "len" = some (.builtin "len") := by decide +kernel
theorem bt_int : bootBuiltins "int" = some (.type "int") := by decide +kernel
theorem bt_bool : bootBuiltins "bool" = some (.type "bool") := by decide +kernel
theorem bt_str : bootBuiltins "str" = some (.type "str") := by decide +kernel
theorem bt_tuple : bootBuiltins "tuple" = some (.type "tuple") := by decide +kernel
theorem bt_list : bootBuiltins "list" = some (.type "list") := by decide +kernel
theorem bt_isinstance : bootBuiltins "isinstance" = some (.builtin "isinstance") := by decide +kernel
theorem bt_sum : bootBuiltins "sum" = some (.builtin "sum") := by decide +kernel
theorem bt_max : bootBuiltins "max" = some (.builtin "max") := by decide +kernel
theorem bt_min : bootBuiltins "min" = some (.builtin "min") := by decide +kernel
theorem bt_all : bootBuiltins "all" = some (.builtin "all") := by decide +kernel
theorem bt_any : bootBuiltins "any" = some (.builtin "any") := by decide +kernel
theorem bt_sorted : bootBuiltins "sorted" = some (.builtin "sorted") := by decide +kernel

/-! ### readings, step by step -/
section
variable {σ : L2.St} {H : Hp} {Q : VK} {K : PySem.W.Frag} {D : Ends}
theorem c_var {i : Nat} {v : V} (h : σ[i]? = some (some v)) (q : Q v H) : tVar i σ H Q := ⟨v, h, q⟩
theorem c_c {v : V} (q : Q v H) : tC v σ H Q := q
theorem c_op {r : R2} {ta tb : TE} (q : ta σ H fun x H1 => tb σ H1 fun y H2 => r x y H2 Q) : tOp r ta tb σ H Q := q
theorem c_un {r : V → Hp → VK → Prop} {ta : TE} (q : ta σ H fun x H1 => r x H1 Q) : tUn r ta σ H Q := q
theorem c_I0 {g : Int → Int → V} {i j : Int} (q : Q (g i j) H) : rI0 g (.int i) (.int j) H Q := ⟨i, j, rfl, rfl, q⟩
theorem c_U {g : Int → V} {i : Int} (q : Q (g i) H) : rU g (.int i) H Q := ⟨i, rfl, q⟩
theorem c_eqI {i j : Int} (q : Q (.bl (decide (i = j))) H) : rEq (.int i) (.int j) H Q := ⟨rfl, by
  have e : decide (V.int i = V.int j) = decide (i = j) := by rw [dec_int]; exact Bool.beq_eq_decide_eq i j
  rw [e]; exact q⟩
theorem c_neI {i j : Int} (q : Q (.bl (!decide (i = j))) H) : rNe (.int i) (.int j) H Q := ⟨rfl, by
  have e : decide (V.int i = V.int j) = decide (i = j) := by rw [dec_int]; exact Bool.beq_eq_decide_eq i j
  rw [e]; exact q⟩
theorem c_ixT {p : Addr} {xs : List V} {i : Int} {v : V} (h : SqT K H p xs) (ha : atI xs i = some v) (q : Q v H) : rIxT K (.ref p) (.int i) H Q := ⟨p, xs, i, v, rfl, rfl, h, ha, q⟩
theorem c_ixL {p : Addr} {xs : List V} {i : Int} {v : V} (h : SqL K H p xs) (ha : atI xs i = some v) (q : Q v H) : rIxL K (.ref p) (.int i) H Q := ⟨p, xs, i, v, rfl, rfl, h, ha, q⟩
theorem c_test {t : TE} {Q : Bool → Hp → Prop} (q : t σ H fun x H' => ∃ k, x = .bl k ∧ Q k H') : tTest t σ H Q := q
theorem c_tB {t : TE} {Q : Bool → Hp → Prop} (q : t σ H fun x H' => ∃ k, x = .bl k ∧ Q k H') : tB t σ H Q := q
theorem c_and {t u : TT} {Q : Bool → Hp → Prop} (q : t σ H fun c H1 => if c = true then u σ H1 Q else Q false H1) : tAnd t u σ H Q := q
theorem c_or {t u : TT} {Q : Bool → Hp → Prop} (q : t σ H fun c H1 => if c = true then Q true H1 else u σ H1 Q) : tOr t u σ H Q := q
theorem c_not {t : TT} {Q : Bool → Hp → Prop} (q : t σ H fun c H1 => Q (!c) H1) : tNot t σ H Q := q
theorem c_andV {ta tb : TE} (q : ta σ H fun x H1 => ∃ c, x = .bl c ∧ if c = true then tb σ H1 Q else Q (.bl false) H1) : tAndV ta tb σ H Q := q
theorem c_orV {ta tb : TE} (q : ta σ H fun x H1 => ∃ c, x = .bl c ∧ if c = true then Q (.bl true) H1 else tb σ H1 Q) : tOrV ta tb σ H Q := q
theorem c_notV {ta : TE} (q : ta σ H fun x H1 => ∃ c, x = .bl c ∧ Q (.bl (!c)) H1) : tNotV ta σ H Q := q
theorem c_if {t : TT} {ta tb : TE} (q : t σ H fun c H1 => if c = true then ta σ H1 Q else tb σ H1 Q) : tIf t ta tb σ H Q := q
theorem c_chain {r r' : R2} {ta tb tc : TE} (q : ta σ H fun x H1 => tb σ H1 fun y H2 => r x y H2 fun z H3 => ∃ k, z = .bl k ∧ (if k = true then tc σ H3 fun w' H4 => r' y w' H4 Q else Q (.bl false) H3)) : tChain r r' ta tb tc σ H Q := q
theorem c_nil {Q : List V → Hp → Prop} (q : Q [] H) : tNil σ H Q := q
theorem c_cons {ta : TE} {tr : TA} {Q : List V → Hp → Prop} (q : ta σ H fun x H1 => tr σ H1 fun xs H2 => Q (x :: xs) H2) : tCons ta tr σ H Q := q
theorem c_tup {t : TA} (q : t σ H fun xs H1 => xs.length ≤ sizeLine ∧ ∀ p, H1 p = none → Q (.ref p) (upd H1 p (.tup xs))) : tTup t σ H Q := q
theorem c_lst {t : TA} (q : t σ H fun xs H1 => xs.length ≤ sizeLine ∧ ∀ p, H1 p = none → Q (.ref p) (upd H1 p (.lst xs))) : tLst t σ H Q := q
theorem c_cb {r : List V → Hp → VK → Prop} {t : TA} (q : t σ H fun vs H1 => r vs H1 Q) : tCB r t σ H Q := q
theorem c_call {sp : Sp} {t : TA} (q : t σ H fun vs H1 => sp (vs ++ []) H1 Q E0) : tCall sp [] E0 t σ H Q := q
theorem c_fld {ta : TE} {f : Str} (q : ta σ H fun x H1 => ∃ a C dx fs v, x = .ref a ∧ H1 a = some (.ins C dx fs) ∧ Cls K C ∧ NoAttr K C f ∧ fs.lookup f = some v ∧ Q v H1) : tFld K ta f σ H Q := q
theorem c_part {t : TE} {Q : Option Int → Hp → Prop} (q : t σ H fun x H1 => ∃ i, x = .int i ∧ Q (some i) H1) : tPart t σ H Q := q
theorem c_nopart {Q : Option Int → Hp → Prop} (q : Q none H) : tNoPart σ H Q := q
theorem c_sl {r : V → Option Int → Option Int → Hp → VK → Prop} {te : TE} {tl th : TO} (q : te σ H fun x H1 => tl σ H1 fun l H2 => th σ H2 fun u H3 => r x l u H3 Q) : tSl r te tl th σ H Q := q
theorem c_bm {T : String} {r : V → List V → Hp → VK → Prop} {to : TE} {t : TA} (q : to σ H fun x H1 => tyV K T x H1 ∧ t σ H1 fun xs H2 => r x xs H2 Q) : tBM K T r to t σ H Q := q
theorem c_bm0 {T : String} {r : V → List V → Hp → VK → Prop} {to : TE} (q : to σ H fun x H1 => tyV K T x H1 ∧ r x [] H1 Q) : tBM0 K T r to σ H Q := q
theorem c_seq {t u : TS} (q : t { D with nx := u D } σ H) : tSeq t u D σ H := q
theorem c_next (q : D.nx σ H) : tNext D σ H := q
theorem c_asg {te : TE} {g : TG} (q : te σ H fun x H1 => g x σ H1 D.nx) : tAsg te g D σ H := q
theorem c_gname {i : Nat} {v : V} {Q : L2.St → Hp → Prop} (q : Q (σ.set i (some v)) H) : gName i v σ H Q := q
theorem c_ret {te : TE} (q : te σ H D.rt) : tRet te D σ H := q
theorem c_ifS {c : TT} {t u : TS} (q : c σ H fun b H1 => if b = true then t D σ H1 else u D σ H1) : tIfS c t u D σ H := q
theorem c_drop {te : TE} (q : te σ H fun _ H1 => D.nx σ H1) : tDrop te D σ H := q
theorem c_aug {i : Nat} {te : TE} {ti : TIp} {x : V} (h : σ[i]? = some (some x)) (q : te σ H fun y H1 => ti x y H1 fun z H2 => D.nx (σ.set i (some z)) H2) : tAug i te ti D σ H := ⟨x, h, q⟩
theorem c_ipI {f : Int → Int → Int} {i j : Int} (q : Q (.int (f i j)) H) : ipI f (.int i) (.int j) H Q := ⟨i, j, rfl, rfl, q⟩
theorem c_par {i j : Nat} {ta : TA} (q : ta σ H fun vs H1 => ∃ v w, vs = [v, w] ∧ D.nx ((σ.set i (some v)).set j (some w)) H1) : tPar i j ta D σ H := q
theorem c_bl {b : Bool} {P : Bool → Prop} (q : P b) : ∃ k, V.bl b = V.bl k ∧ P k := ⟨b, rfl, q⟩
theorem c_ei {b : Int} {P : Int → Prop} (q : P b) : ∃ k, V.int b = V.int k ∧ P k := ⟨b, rfl, q⟩
theorem c_par2 {v w : V} {P : V → V → Prop} (q : P v w) : ∃ v' w', [v, w] = [v', w'] ∧ P v' w' := ⟨v, w, rfl, q⟩
theorem c_augS {to ti te : TE} {tget : V → V → Hp → VK → Prop} {tip : TIp} {tset : TSet} (q : to σ H fun o H1 => ti σ H1 fun i H2 => tget o i H2 fun x H3 => te σ H3 fun y H4 => tip x y H4 fun z H5 => tset o i z H5 fun H6 => D.nx σ H6) : tAugS to ti te tget tip tset D σ H := q
theorem c_gtup {n : Nat} {t : TGs} {a : Addr} {xs : List V} {Q : L2.St → Hp → Prop} (h : SqT K H a xs) (hn : xs.length = n) (q : t xs σ H Q) : gTup K n t (.ref a) σ H Q := ⟨a, xs, rfl, h, hn, q⟩
theorem c_gcons {t : TG} {u : TGs} {v : V} {r : List V} {Q : L2.St → Hp → Prop} (q : t v σ H fun σ' H' => u r σ' H' Q) : gCons t u (v :: r) σ H Q := ⟨v, r, rfl, q⟩
theorem c_gnil {Q : L2.St → Hp → Prop} (q : Q σ H) : gNil [] σ H Q := ⟨rfl, q⟩
theorem c_intB {k : Bool} (q : Q (.int (if k then 1 else 0)) H) : (∃ i, [V.bl k] = [V.int i] ∧ Q (.int i) H) ∨ ∃ b, [V.bl k] = [V.bl b] ∧ Q (.int (if b then 1 else 0)) H := .inr ⟨k, rfl, q⟩
theorem c_len {p : Addr} {ys : List V} (h : SqL K H p ys ∨ SqT K H p ys) (q : Q (.int ys.length) H) : ∃ p' ys', [V.ref p] = [V.ref p'] ∧ (SqL K H p' ys' ∨ SqT K H p' ys') ∧ Q (.int ys'.length) H := ⟨p, ys, rfl, h, q⟩
theorem c_setL {p : Addr} {xs : List V} {k : Int} {j : Nat} {v : V} {Q : Hp → Prop} (h : H p = some (.lst xs)) (hj : ixN xs.length k = some j) (q : Q (upd H p (.lst (xs.set j v)))) : rSetL (.ref p) (.int k) v H Q := ⟨p, xs, k, j, rfl, rfl, h, hj, q⟩
theorem c_dget {td ty : TE} (q : td σ H fun x H1 => ty σ H1 fun y H2 => ∃ a v, x = .ref a ∧ DGet H2 a y (some v) ∧ Q v H2) : tDGet td ty σ H Q := q
theorem c_din {td ty : TE} (q : ty σ H fun y H1 => td σ H1 fun x H2 => ∃ a o, x = .ref a ∧ DGet H2 a y o ∧ Q (.bl o.isSome) H2) : tDIn ty td σ H Q := q
theorem c_dnotin {td ty : TE} (q : ty σ H fun y H1 => td σ H1 fun x H2 => ∃ a o, x = .ref a ∧ DGet H2 a y o ∧ Q (.bl (!o.isSome)) H2) : tDNotIn ty td σ H Q := q
theorem c_dput {td ty tv : TE} (q : tv σ H fun v H1 => td σ H1 fun x H2 => ty σ H2 fun y H3 => ∃ a H4, x = .ref a ∧ DPut H3 a y v H4 ∧ D.nx σ H4) : sDPut td ty tv D σ H := q
theorem c_for {wi : TI} {g : TG} {tb : TS} (q : wi σ H fun J H1 => ∃ W : Nat → Nat → L2.St → Hp → Prop, (∃ m, W 0 m σ H1) ∧ ∀ i m σ H, W i m σ H →
  (J.stop i H ∧ D.nx σ H) ∨ (J.go i H ∧ ∃ N : L2.St → Hp → Prop, (∀ σ' H', N σ' H' → ∃ m', m' < m ∧ W (i + 1) m' σ' H') ∧ ∀ x H', J.yld i H x H' → g x σ H' fun σ2 H2 => tb { D with nx := N, ct := N, bk := D.nx } σ2 H2)) : tFor wi g tb D σ H := q
theorem c_zip2 {ta : TA} {R : It → Hp → Prop} (q : ta σ H fun vs H1 => ∃ b1 b2 a b xs ys, vs = [.ref a, .ref b] ∧ SqB K b1 H1 a xs ∧ SqB K b2 H1 b ys ∧ R (Itz2 K b1 b2 a b xs ys) H1) : iZip2 K ta σ H R := q
theorem c_zip3 {ta : TA} {R : It → Hp → Prop} (q : ta σ H fun vs H1 => ∃ b1 b2 b3 a b c xs ys zs, vs = [.ref a, .ref b, .ref c] ∧ SqB K b1 H1 a xs ∧ SqB K b2 H1 b ys ∧ SqB K b3 H1 c zs ∧ R (Itz3 K b1 b2 b3 a b c xs ys zs) H1) : iZip3 K ta σ H R := q
theorem c_enum {ta : TA} {R : It → Hp → Prop} (q : ta σ H fun vs H1 => ∃ b a xs, vs = [.ref a] ∧ SqB K b H1 a xs ∧ R (IteB K b a xs) H1) : iEnumB K ta σ H R := q
theorem c_rng1 {ta : TA} {R : It → Hp → Prop} (q : ta σ H fun vs H1 => ∃ j : Int, vs = [.int j] ∧ -(2 ^ 62) ≤ j ∧ j < 2 ^ 62 ∧ R (Itr 0 j.toNat) H1) : iRng1 ta σ H R := q
theorem c_iList {tl : TE} {R : It → Hp → Prop} (q : tl σ H fun x H1 => ∃ a, x = .ref a ∧ (∃ xs, SqL K H1 a xs) ∧ R (Itl K a) H1) : iList K tl σ H R := q
theorem c_iTup {tl : TE} {R : It → Hp → Prop} (q : tl σ H fun x H1 => ∃ a, x = .ref a ∧ (∃ xs, SqT K H1 a xs) ∧ R (Itt K a) H1) : iTup K tl σ H R := q
theorem c_lc {wi : TI} {g : TG} {tt : TT} {te : TE} {vs : List Nat} (q : wi σ H fun J H1 => ∀ D, H1 D = none → ∃ W : Nat → Nat → Hp → Prop, (∃ m, W 0 m (upd H1 D (.lst []))) ∧ ∀ i m H, W i m H →
  (J.stop i H ∧ Q (.ref D) H) ∨ (J.go i H ∧ ∃ Nx : Hp → Prop, (∀ H', Nx H' → ∃ m', m' < m ∧ W (i + 1) m' H') ∧ ∀ x H', J.yld i H x H' → g x (wipe σ vs) H' fun σ2 H2 => wipe σ2 vs = wipe σ vs ∧ tt σ2 H2 fun b H3 =>
    if b = true then te σ2 H3 fun y H4 => ∃ acc, H4 D = some (.lst acc) ∧ acc.length < sizeLine ∧ Nx (upd H4 D (.lst (acc ++ [y]))) else Nx H3)) : tLc wi g tt te vs σ H Q := q
end
theorem at0 {α : Type} {x : α} {xs : List α} : atI (x :: xs) 0 = some x := atI_nat (j := 0) rfl
theorem at1 {α : Type} {a x : α} {xs : List α} : atI (a :: x :: xs) 1 = some x := atI_nat (j := 1) rfl
theorem at2' {α : Type} {a b x : α} {xs : List α} : atI (a :: b :: x :: xs) 2 = some x := atI_nat (j := 2) rfl
theorem at3 {α : Type} {a b c x : α} {xs : List α} : atI (a :: b :: c :: x :: xs) 3 = some x := atI_nat (j := 3) rfl
theorem at4 {α : Type} {a b c d x : α} {xs : List α} : atI (a :: b :: c :: d :: x :: xs) 4 = some x := atI_nat (j := 4) rfl
theorem atLast {α : Type} {xs : List α} {x : α} (h : xs[xs.length - 1]? = some x) : atI xs (-1) = some x := by
  have hl : 0 < xs.length := by
    have := (List.getElem?_eq_some_iff.mp h).1
    omega
  unfold atI ixN
  rw [if_neg (by decide), if_pos (by omega)]
  have e : (-1 + (xs.length : Int)).toNat = xs.length - 1 := by omega
  rw [e]
  exact h

/-! ### facts along the heap -/
theorem _root_.L2.Same.new {H : Hp} {p : Addr} {o : HO} (hp : H p = none) : Same H (upd H p o) := fun a u e => by
  rw [upd_ne (ne_of_none e hp)]; exact e
theorem _root_.L2.Same.mut {H H1 : Hp} {p : Addr} {o : HO} (e : Same H H1) (hp : H p = none) : Same H (upd H1 p o) := fun a u h => by
  rw [upd_ne (ne_of_none h hp)]; exact e a u h
theorem _root_.L2.Same.rd {H H' : Hp} {a : Addr} {u : HO} (e : Same H H') (h : Rd H a u) : Rd H' a u := by
  rcases h with h | ⟨o, h⟩
  · exact .inl (e _ _ h)
  · exact .inr ⟨o, e _ _ h⟩
theorem _root_.L2.Same.tup {K : PySem.W.Frag} {H H' : Hp} {a : Addr} {xs : List V} (e : Same H H') (h : SqT K H a xs) : SqT K H' a xs := by
  rcases h with h | h
  · exact .inl (e.rd h)
  · exact .inr h
theorem _root_.L2.Same.lst {K : PySem.W.Frag} {H H' : Hp} {a : Addr} {xs : List V} (e : Same H H') (h : SqL K H a xs) : SqL K H' a xs := by
  rcases h with h | h
  · exact .inl (e.rd h)
  · exact .inr h
theorem _root_.L2.Same.sqB {K : PySem.W.Frag} {b : Bool} {H H' : Hp} {a : Addr} {xs : List V} (e : Same H H') (h : SqB K b H a xs) : SqB K b H' a xs := by
  cases b
  · exact Same.lst e h
  · exact Same.tup e h
/-- tuples stay, whatever else is changed -/
def Tx (H H' : Hp) : Prop := ∀ a xs, Rd H a (.tup xs) → Rd H' a (.tup xs)
theorem Tx.refl (H : Hp) : Tx H H := fun _ _ h => h
theorem Tx.trans {H H1 H2 : Hp} (a : Tx H H1) (b : Tx H1 H2) : Tx H H2 := fun x o h => b x o (a x o h)
theorem Tx.of {H H' : Hp} (e : Same H H') : Tx H H' := fun _ _ h => e.rd h
theorem Tx.new {H : Hp} {p : Addr} {o : HO} (hp : H p = none) : Tx H (upd H p o) := Tx.of (Same.new hp)
def noTup : HO → Bool
  | .tup _ => false
  | .frz _ _ => false
  | _ => true
theorem Tx.mut {H : Hp} {p : Addr} {o u : HO} (hp : H p = some u) (hu : noTup u = true) : Tx H (upd H p o) := fun a xs h => by
  have ne : a ≠ p := fun e => by
    subst e
    rcases h with h | ⟨ob, h⟩
    · rw [h] at hp; cases hp; cases hu
    · rw [h] at hp; cases hp; cases hu
  rcases h with h | ⟨ob, h⟩
  · exact .inl (by rw [upd_ne ne]; exact h)
  · exact .inr ⟨ob, by rw [upd_ne ne]; exact h⟩
theorem Tx.mutL {H : Hp} {p : Addr} {o : HO} {xs : List V} (hp : H p = some (.lst xs)) : Tx H (upd H p o) := Tx.mut hp rfl
theorem Tx.mutI {H : Hp} {p : Addr} {o : HO} {C dx : Addr} {fs : List (Str × V)} (hp : H p = some (.ins C dx fs)) : Tx H (upd H p o) := Tx.mut hp rfl
theorem Tx.mutD {H : Hp} {p : Addr} {o : HO} {kvs : List (List Key × V)} (hp : H p = some (.dT kvs)) : Tx H (upd H p o) := Tx.mut hp rfl
theorem Tx.tup {K : PySem.W.Frag} {H H' : Hp} {a : Addr} {xs : List V} (e : Tx H H') (h : SqT K H a xs) : SqT K H' a xs := by
  rcases h with h | h
  · exact .inl (e _ _ h)
  · exact .inr h
theorem get_new {H : Hp} {p q : Addr} {o u : HO} (h : H p = some o) (hq : H q = none) : upd H q u p = some o := by rw [upd_ne (ne_of_none h hq)]; exact h
theorem get_mut {H : Hp} {p q : Addr} {o u : HO} (ne : p ≠ q) (h : H p = some o) : upd H q u p = some o := by rw [upd_ne ne]; exact h
theorem none_back {H H' : Hp} {p : Addr} (e : Same H H') (h : H' p = none) : H p = none := e.free h
theorem none_upd {H : Hp} {p q : Addr} {o : HO} (h : upd H q o p = none) : H p = none := by
  by_cases e : p = q
  · subst e; rw [upd_same] at h; cases h
  · rw [upd_ne e] at h; exact h
theorem ne_upd {H : Hp} {p q : Addr} {o : HO} (h : upd H q o p = none) : p ≠ q := fun e => by
  subst e; rw [upd_same] at h; cases h
theorem ne_had {H : Hp} {p q : Addr} {o : HO} (h : H q = some o) (hp : H p = none) : p ≠ q := fun e => by
  subst e; rw [h] at hp; cases hp
end HX

/-! How days, numbers and things stand in the heap. -/
namespace HX
open PySem PySem.Spec PyProof.Rows L2 Dry

/-! ### things of any kind -/
/-- a value whose kind is known -/
def Kn (K : PySem.W.Frag) (H : Hp) : V → Prop
  | .non => True
  | .bl _ => True
  | .int _ => True
  | .str _ => True
  | .ref a => (∃ xs, SqT K H a xs) ∨ ∃ xs, SqL K H a xs
  | _ => False
theorem ty_tup {K : PySem.W.Frag} {H : Hp} {a : Addr} {xs : List V} (h : SqT K H a xs) : TyX K H (.ref a) (.type "tuple") := by
  rcases h with (h | ⟨o, h⟩) | ⟨o, its, n, h, c, _⟩
  · exact .base (.tup h)
  · exact .fTuple h
  · exact .kTuple h c
theorem ty_lst {K : PySem.W.Frag} {H : Hp} {a : Addr} {xs : List V} (h : SqL K H a xs) : TyX K H (.ref a) (.type "list") := by
  rcases h with (h | ⟨o, h⟩) | ⟨o, its, n, h, c, _⟩
  · exact .base (.lst h)
  · exact .base (.frz h)
  · exact .kList h c
theorem c_isi {K : PySem.W.Frag} {H : Hp} {x : V} {n T : String} {b : Bool} {Q : VK} (ty : TyX K H x (.type n)) (hb : kitB n T = some b) (q : Q (.bl b) H) : rIsi K [x, .ty T] H Q :=
  ⟨x, .ty T, .type n, .type T, b, rfl, .ty T, ty, kit_ty hb, q⟩
theorem k_int_int : kitB "int" "int" = some true := by decide +kernel
theorem k_bool_int : kitB "bool" "int" = some true := by decide +kernel
theorem k_none_int : kitB "NoneType" "int" = some false := by decide +kernel
theorem k_str_int : kitB "str" "int" = some false := by decide +kernel
theorem k_tuple_int : kitB "tuple" "int" = some false := by decide +kernel
theorem k_list_int : kitB "list" "int" = some false := by decide +kernel
theorem k_int_bool : kitB "int" "bool" = some false := by decide +kernel
theorem k_bool_bool : kitB "bool" "bool" = some true := by decide +kernel
theorem k_none_bool : kitB "NoneType" "bool" = some false := by decide +kernel
theorem k_str_bool : kitB "str" "bool" = some false := by decide +kernel
theorem k_tuple_bool : kitB "tuple" "bool" = some false := by decide +kernel
theorem k_list_bool : kitB "list" "bool" = some false := by decide +kernel
theorem k_int_tuple : kitB "int" "tuple" = some false := by decide +kernel
theorem k_bool_tuple : kitB "bool" "tuple" = some false := by decide +kernel
theorem k_none_tuple : kitB "NoneType" "tuple" = some false := by decide +kernel
theorem k_str_tuple : kitB "str" "tuple" = some false := by decide +kernel
theorem k_tuple_tuple : kitB "tuple" "tuple" = some true := by decide +kernel
theorem k_list_tuple : kitB "list" "tuple" = some false := by decide +kernel
theorem k_int_str : kitB "int" "str" = some false := by decide +kernel
theorem k_bool_str : kitB "bool" "str" = some false := by decide +kernel
theorem k_none_str : kitB "NoneType" "str" = some false := by decide +kernel
theorem k_str_str : kitB "str" "str" = some true := by decide +kernel
theorem k_tuple_str : kitB "tuple" "str" = some false := by decide +kernel
theorem k_list_str : kitB "list" "str" = some false := by decide +kernel
def isIntV : V → Bool
  | .int _ => true
  | .bl _ => true
  | _ => false
def isBoolV : V → Bool
  | .bl _ => true
  | _ => false
theorem isi_int {K : PySem.W.Frag} {H : Hp} {x : V} {Q : VK} (h : Kn K H x) (q : Q (.bl (isIntV x)) H) : rIsi K [x, .ty "int"] H Q := by
  cases x with
  | non => exact c_isi (.base .non) k_none_int q
  | bl b => exact c_isi (.base (.bl b)) k_bool_int q
  | int i => exact c_isi (.base (.int i)) k_int_int q
  | str x => exact c_isi (.base (.str x)) k_str_int q
  | ref a =>
    rcases h with ⟨xs, h⟩ | ⟨xs, h⟩
    · exact c_isi (ty_tup h) k_tuple_int q
    · exact c_isi (ty_lst h) k_list_int q
  | byt _ => exact h.elim
  | flt _ => exact h.elim
  | ty _ => exact h.elim
theorem isi_bool {K : PySem.W.Frag} {H : Hp} {x : V} {Q : VK} (h : Kn K H x) (q : Q (.bl (isBoolV x)) H) : rIsi K [x, .ty "bool"] H Q := by
  cases x with
  | non => exact c_isi (.base .non) k_none_bool q
  | bl b => exact c_isi (.base (.bl b)) k_bool_bool q
  | int i => exact c_isi (.base (.int i)) k_int_bool q
  | str x => exact c_isi (.base (.str x)) k_str_bool q
  | ref a =>
    rcases h with ⟨xs, h⟩ | ⟨xs, h⟩
    · exact c_isi (ty_tup h) k_tuple_bool q
    · exact c_isi (ty_lst h) k_list_bool q
  | byt _ => exact h.elim
  | flt _ => exact h.elim
  | ty _ => exact h.elim
theorem isi_tuple {K : PySem.W.Frag} {H : Hp} {x : V} {Q : VK} (h : Kn K H x) (q1 : ∀ a xs, x = .ref a → SqT K H a xs → Q (.bl true) H) (q2 : Q (.bl false) H) : rIsi K [x, .ty "tuple"] H Q := by
  cases x with
  | non => exact c_isi (.base .non) k_none_tuple q2
  | bl b => exact c_isi (.base (.bl b)) k_bool_tuple q2
  | int i => exact c_isi (.base (.int i)) k_int_tuple q2
  | str x => exact c_isi (.base (.str x)) k_str_tuple q2
  | ref a =>
    rcases h with ⟨xs, h⟩ | ⟨xs, h⟩
    · exact c_isi (ty_tup h) k_tuple_tuple (q1 a xs rfl h)
    · exact c_isi (ty_lst h) k_list_tuple q2
  | byt _ => exact h.elim
  | flt _ => exact h.elim
  | ty _ => exact h.elim
theorem Kn.same {K : PySem.W.Frag} {H H' : Hp} {x : V} (e : Same H H') (h : Kn K H x) : Kn K H' x := by
  cases x with
  | ref a =>
    rcases h with ⟨xs, h⟩ | ⟨xs, h⟩
    · exact .inl ⟨xs, e.tup h⟩
    · exact .inr ⟨xs, e.lst h⟩
  | _ => exact h

def isFromV (x : V) (lo hi : Int) : Bool := match x with
  | .int i => decide (lo ≤ i) && decide (i ≤ hi)
  | _ => false

/-! ### ints -/
abbrev vI (ns : List Int) : List V := ns.map V.int
abbrev vN (ns : List Nat) : List V := ns.map fun (n : Nat) => V.int (n : Int)
theorem vI_get {ns : List Int} {i : Nat} (h : i < ns.length) : (vI ns)[i]? = some (.int (ns.getD i 0)) := by
  simp [List.getD_eq_getElem?_getD, h]
theorem vI_get' {ns : List Int} {i : Nat} {x : Int} (h : ns[i]? = some x) : (vI ns)[i]? = some (.int x) := by simp [h]
theorem vI_set (ns : List Int) (i : Nat) (x : Int) : (vI ns).set i (.int x) = vI (ns.set i x) := by simp [vI, List.map_set]
theorem ixN_nat {n i : Nat} (h : i < n) : ixN n (i : Int) = some i := by
  unfold ixN
  rw [if_pos (by omega), if_pos (by omega)]
  simp
theorem foldl_take {α β : Type} (f : β → α → β) (b : β) {l : List α} {i : Nat} {x : α} (h : l[i]? = some x) : (l.take (i + 1)).foldl f b = f ((l.take i).foldl f b) x := by
  obtain ⟨hl, rfl⟩ := List.getElem?_eq_some_iff.mp h
  rw [List.take_succ_eq_append_getElem hl, List.foldl_append]
  rfl
theorem zip_get {α β : Type} {a : List α} {b : List β} {i : Nat} {x : α} {y : β} (h1 : a[i]? = some x) (h2 : b[i]? = some y) : (a.zip b)[i]? = some (x, y) := by
  simp [List.zip, List.getElem?_zipWith, h1, h2]

/-! ### days -/
def wkV (w : Wk) : List V := [.int (w.h : Int), .int (w.b : Int), .int (w.e : Int), .bl w.wet, .int (w.r : Int)]
structure Wks (K : PySem.W.Frag) (H : Hp) (vs : List V) (ws : List Wk) : Prop where
  len : vs.length = ws.length
  at_ : ∀ (i : Nat) (w : Wk), ws[i]? = some w → ∃ x : Addr, vs[i]? = some (V.ref x) ∧ SqT K H x (wkV w)
structure DayAt (K : PySem.W.Frag) (H : Hp) (a aw : Addr) (vs : List V) (d : Day) : Prop where
  day : SqT K H a [.int (d.P : Int), .int (d.T : Int), .ref aw]
  seq : SqT K H aw vs
  wks : Wks K H vs d.ws
theorem Wks.tx {K : PySem.W.Frag} {H H' : Hp} {vs : List V} {ws : List Wk} (e : Tx H H') (h : Wks K H vs ws) : Wks K H' vs ws :=
  ⟨h.len, fun i w hi => let ⟨x, a, b⟩ := h.at_ i w hi; ⟨x, a, e.tup b⟩⟩
theorem DayAt.tx {K : PySem.W.Frag} {H H' : Hp} {a aw : Addr} {vs : List V} {d : Day} (e : Tx H H') (h : DayAt K H a aw vs d) : DayAt K H' a aw vs d :=
  ⟨e.tup h.day, e.tup h.seq, h.wks.tx e⟩
structure _root_.Dry.Day.Sm (d : Day) : Prop where
  P : d.P ≤ 1000
  T : d.T ≤ 1000
  W : d.ws.length ≤ 1000
theorem Wks.get {K : PySem.W.Frag} {H : Hp} {vs : List V} {ws : List Wk} (h : Wks K H vs ws) {i : Nat} {x : V} (hx : vs[i]? = some x) : ∃ w a, ws[i]? = some w ∧ x = .ref a ∧ SqT K H a (wkV w) := by
  have hl := (List.getElem?_eq_some_iff.mp hx).1
  have hw : ws[i]? = some (ws[i]'(by rw [← h.len]; exact hl)) := List.getElem?_eq_getElem _
  obtain ⟨y, h1, h2⟩ := h.at_ i _ hw
  rw [hx] at h1
  exact ⟨_, y, hw, Option.some.inj h1, h2⟩
theorem szl {n : Nat} (h : n ≤ 100000) : n ≤ sizeLine := Nat.le_trans h (by decide)
theorem szl' {n : Nat} (h : n < 100000) : n < sizeLine := Nat.lt_of_lt_of_le h (by decide)
end HX

/-! A dict whose keys are walks (tuples of ints and a truth), filled and sorted. -/
namespace HX
open PySem PySem.Spec PyProof.Rows L2 Dry

/-! ### tuples of ints and truths, by their order -/
inductive NumsAre : List Bool → List Value → List Int → Prop
  | nil : NumsAre [] [] []
  | int {ks : List Bool} {xs : List Value} {ns : List Int} (n : Int) (t : Tok) : NumsAre ks xs ns → NumsAre (false :: ks) (.int n t :: xs) (n :: ns)
  | bl {ks : List Bool} {xs : List Value} {ns : List Int} (b : Bool) : NumsAre ks xs ns → NumsAre (true :: ks) (.bool b :: xs) (b2i b :: ns)
theorem NumsAre.length {ks : List Bool} {xs : List Value} {ns : List Int} (h : NumsAre ks xs ns) : xs.length = ks.length ∧ ns.length = ks.length := by
  induction h with
  | nil => exact ⟨rfl, rfl⟩
  | int _ _ _ ih => simp [ih.1, ih.2]
  | bl _ _ ih => simp [ih.1, ih.2]
theorem NumsAre.inj {ks : List Bool} {xs : List Value} {ns ms : List Int} (h : NumsAre ks xs ns) (g : NumsAre ks xs ms) : ns = ms := by
  induction h generalizing ms with
  | nil => cases g; rfl
  | int n t _ ih => cases g with | int _ _ g => rw [ih g]
  | bl b _ ih => cases g with | bl _ g => rw [ih g]
section
variable {prog : Program} {w : World} {A : Around} {E : Value → Shared → Prop} {s : Shared} {Q : Bool → Shared → Prop}
theorem oneLt_bools {p q : Bool} (h : Q (decide (b2i p < b2i q)) s) : wpAny (model prog w) A (oneLt' false (.bool p) (.bool q)) Q E s :=
  PySem.W.kat_one _ _ (PyProof.Rows.lt_bool (Q := PySem.W.BoolBack Q) h)
theorem b2i_inj {p q : Bool} : (p == q) = (b2i p == b2i q) := by cases p <;> cases q <;> rfl
theorem lex_nums {B : Int} {b : Bool} {ks : List Bool} {xs ys : List Value} {ns ms : List Int} (i : Nat) (h0 : i ≠ 0 ∨ ks.head? ≠ some true) (hx : NumsAre ks xs ns) (hy : NumsAre ks ys ms) (h1 : TS.Bd B ns) (h2 : TS.Bd B ms)
    (h : Q (decide (TS.code B ns < TS.code B ms)) s) : PySem.W.KatLex prog w A b false Q (xs.zip ys) i s := by
  have step : ∀ (p q : Int) (ns ms : List Int), ns.length = ms.length → TS.Bd B ns → TS.Bd B ms → p ≠ q → decide (TS.code B (p :: ns) < TS.code B (q :: ms)) = decide (p < q) := by
    intro p q ns ms hl h1 h2 e
    refine decide_eq_decide.mpr ⟨fun x => ?_, fun x => TS.code_lt hl h1 h2 x⟩
    rcases Int.lt_trichotomy p q with y | y | y
    · exact y
    · exact absurd y e
    · have := TS.code_lt hl.symm h2 h1 y
      omega
  induction hx generalizing ys ms i with
  | nil =>
    cases hy with
    | nil =>
      have e : decide (TS.code B [] < TS.code B []) = false := decide_eq_false (Int.lt_irrefl _)
      rw [e] at h
      exact PySem.W.kat_nil h
  | @int ks xs ns p t hx ih =>
    cases hy with
    | @int _ ys ms q u hy =>
      have hl' : ns.length = ms.length := by rw [hx.length.2, hy.length.2]
      show PySem.W.KatLex prog w A b false Q ((Value.int p t, Value.int q u) :: xs.zip ys) i s
      refine PySem.W.kat_cons (wpAny_eqBool_int ?_)
      by_cases e : p = q
      · subst e
        rw [beq_self_eq_true]
        have d : decide (TS.code B (p :: ns) < TS.code B (p :: ms)) = decide (TS.code B ns < TS.code B ms) := decide_eq_decide.mpr (TS.code_same hl')
        rw [d] at h
        exact PySem.W.kat_yes (ih (i + 1) (.inl (Nat.succ_ne_zero _)) hy h1.tail h2.tail h)
      · rw [show (p == q) = false from beq_eq_false_iff_ne.mpr e]
        refine PySem.W.kat_no (TS.oneLt_ints _ ?_)
        rw [step p q ns ms hl' h1.tail h2.tail e] at h
        exact h
  | @bl ks xs ns p hx ih =>
    cases hy with
    | @bl _ ys ms q hy =>
      have hl' : ns.length = ms.length := by rw [hx.length.2, hy.length.2]
      show PySem.W.KatLex prog w A b false Q ((Value.bool p, Value.bool q) :: xs.zip ys) i s
      refine PySem.W.kat_cons (SeqAt.EqAt.bool_bool p q prog w _ _ ?_)
      by_cases e : b2i p = b2i q
      · rw [b2i_inj, e, beq_self_eq_true]
        have d : decide (TS.code B (b2i p :: ns) < TS.code B (b2i q :: ms)) = decide (TS.code B ns < TS.code B ms) := by rw [e]; exact decide_eq_decide.mpr (TS.code_same hl')
        rw [d] at h
        exact PySem.W.kat_yes (ih (i + 1) (.inl (Nat.succ_ne_zero _)) hy h1.tail h2.tail h)
      · rw [b2i_inj, show (b2i p == b2i q) = false from beq_eq_false_iff_ne.mpr e]
        have hi : (b && i == 0) = false := by
          rcases h0 with h0 | h0
          · have : (i == 0) = false := beq_eq_false_iff_ne.mpr h0
            rw [this]; cases b <;> rfl
          · exact absurd rfl h0
        refine PySem.W.kat_no ?_
        rw [hi]
        refine oneLt_bools ?_
        rw [step _ _ ns ms hl' h1.tail h2.tail e] at h
        exact h
end
def TupNums (ks : List Bool) (h : Heap) (v : Value) (ns : List Int) : Prop := ∃ a xs, v = .ref a ∧ IsTup h a xs ∧ NumsAre ks xs.toList ns
theorem TupNums.keeps {ks : List Bool} {h h' : Heap} {v : Value} {ns : List Int} (x : TupNums ks h v ns) (k : ∀ b o, h.get? b = some o → o.cls = .type "tuple" → h'.get? b = some o) : TupNums ks h' v ns := by
  obtain ⟨a, xs, e, ⟨o, ho, hc, hd⟩, i⟩ := x
  exact ⟨a, xs, e, ⟨o, k _ _ ho hc, hc, hd⟩, i⟩
theorem TupNums.inj {ks : List Bool} {h : Heap} {v : Value} {ns ms : List Int} (x : TupNums ks h v ns) (y : TupNums ks h v ms) : ns = ms := by
  obtain ⟨a, xs, rfl, ⟨o, ho, hc, n, hd⟩, i⟩ := x
  obtain ⟨a', xs', e, ⟨o', ho', hc', n', hd'⟩, i'⟩ := y
  cases e
  rw [ho] at ho'; cases ho'
  rw [hd] at hd'; cases hd'
  exact i.inj i'
def NumsOk (ks : List Bool) (h : Heap) (B : Int) (vs : List Value) : Prop := ∀ v, v ∈ vs → ∃ ns, TupNums ks h v ns ∧ TS.Bd B ns
theorem NumsOk.keeps {ks : List Bool} {h h' : Heap} {B : Int} {vs : List Value} (x : NumsOk ks h B vs) (k : ∀ b o, h.get? b = some o → o.cls = .type "tuple" → h'.get? b = some o) : NumsOk ks h' B vs := fun v hv =>
  let ⟨ns, t, r⟩ := x v hv; ⟨ns, t.keeps k, r⟩
theorem firsts_nums {h : Heap} {ks : List Bool} {B : Int} : ∀ vs : List Value, NumsOk (false :: ks) h B vs → ∃ fs, PySem.W.KatTups h vs fs ∧ fs.length = vs.length ∧ ∀ f, f ∈ fs → ∃ n t, f = Value.int n t
  | [], _ => ⟨[], PySem.W.KatTups.nil, rfl, fun f hf => by simp at hf⟩
  | v :: vs, x => by
    obtain ⟨fs, k, hl, hi⟩ := firsts_nums vs fun u hu => x u (List.mem_cons_of_mem _ hu)
    obtain ⟨ns, ⟨a, xs, rfl, ⟨o, ho, hc, n, hdt⟩, i⟩, _⟩ := x v (List.mem_cons_self ..)
    obtain ⟨y, ys, m, t, e, hy⟩ : ∃ y ys m t, xs.toList = y :: ys ∧ y = Value.int m t := by
      generalize xs.toList = l at i
      cases i with
      | int m t _ => exact ⟨_, _, m, t, rfl, rfl⟩
    refine ⟨y :: fs, PySem.W.KatTups.cons ho hc hdt ?_ k, by simp [hl], ?_⟩
    · have z := congrArg (fun l : List Value => l[0]?) e
      simpa using z
    · intro f hf
      rcases List.mem_cons.mp hf with rfl | hf
      · exact ⟨m, t, hy⟩
      · exact hi f hf
section
variable {prog : Program} {w : World} {A : Around} {E : Value → Shared → Prop} {s : Shared}
theorem kind_nums {ks : List Bool} {B : Int} {vs : List Value} (h2 : 2 ≤ vs.length) (x : NumsOk (false :: ks) s.heap B vs) (r : Value → Int) (hr : ∀ v, v ∈ vs → ∀ ns, TupNums (false :: ks) s.heap v ns → r v = TS.code B ns) (Q : SortKind → Shared → Prop)
    (h : ∀ κ, TS.Cmp prog w A s κ (pairsOf vs) r → Q κ s) : wpAny (model prog w) A (keyKind' vs.toArray) Q E s := by
  obtain ⟨fs, k, hl, hi⟩ := firsts_nums vs x
  refine PySem.W.kat_kind (T := Value.type "int") k (by omega) (fun f hf => ?_) rfl (h _ ?_)
  · obtain ⟨n, t, rfl⟩ := hi f hf
    exact PySem.W.Looks.of_pure rfl
  · intro p q hp hq Q' E' hQ
    rw [pairsOf_toList] at hp hq
    obtain ⟨ns, tp, bp⟩ := x _ (mem_zip_self hp).2
    obtain ⟨ms, tq, bq⟩ := x _ (mem_zip_self hq).2
    have ep := hr _ (mem_zip_self hp).2 _ tp
    have eq2 := hr _ (mem_zip_self hq).2 _ tq
    have hQ' : Q' (decide (TS.code B ns < TS.code B ms)) s := by
      have z : decide (r p.1 < r q.1) = decide (TS.code B ns < TS.code B ms) := by rw [ep, eq2]
      rw [← z]; exact hQ
    obtain ⟨a, xs, e1, ⟨o, ho, hc, n, hdt⟩, i⟩ := tp
    obtain ⟨a', ys, e2, ⟨o', ho', hc', n', hdt'⟩, i'⟩ := tq
    rw [e1, e2]
    refine PySem.W.kat_lt ho hdt ho' hdt' ?_
    have sz : decide (xs.size < ys.size) = false := by
      have l1 := i.length.1
      have l2 := i'.length.1
      rw [Array.length_toList] at l1 l2
      exact decide_eq_false (by omega)
    rw [sz]
    exact lex_nums 0 (.inr (by simp)) i i' bp bq hQ'
theorem sort_nums {ks : List Bool} {a : Addr} {vs : List Value} {n : Nat} {B : Int} {P : PySem.Fin → Shared → Prop} (ho : s.heap.get? a = some (seqObj "list" vs.toArray n)) (h64 : vs.length < 64) (x : NumsOk (false :: ks) s.heap B vs)
    (r : Value → Int) (hr : ∀ v, v ∈ vs → ∀ ns, TupNums (false :: ks) s.heap v ns → r v = TS.code B ns)
    (h : ∀ out : Array Value, out.toList.Perm vs → out.toList.Pairwise (fun u v => r u ≤ r v) → P (.done (.ret .none)) { s with heap := sortedHeap s.heap a vs out }) :
    wpAny (model prog w) A (Builtin.«list.sort» ⟨[.ref a], []⟩) P E s := by
  have keep : ∀ b o, s.heap.get? b = some o → o.cls = .type "tuple" → (TS.midHeap s.heap a vs).get? b = some o := fun b o e hc => by
    refine TS.midHeap_old ?_ e
    rintro rfl
    rw [ho] at e
    have e' : seqObj "list" vs.toArray n = o := Option.some.inj e
    rw [← e'] at hc
    have c' : Value.type "list" = Value.type "tuple" := hc
    injection c' with c''
    exact absurd c'' (by decide)
  refine SK.plain_sort (r := r) ho h64 (fun h2 Q hQ => ?_) fun ps out h1 h2 h3 => ?_
  · refine kind_nums (s := { s with heap := TS.midHeap s.heap a vs }) h2 (x.keeps keep) r (fun v hv ns t => ?_) Q hQ
    obtain ⟨ns0, t0, _⟩ := x v hv
    rw [t.inj (t0.keeps keep)]
    exact hr v hv ns0 t0
  · obtain ⟨p, o⟩ := TS.out_rank h1 h2 h3
    exact h out p o
end

/-! ### the dict of walks -/
def wkL (w : Wk) : List Leaf := [.num w.h, .num w.b, .num w.e, .num w.wi, .num w.r]
def wkN (w : Wk) : List Int := [w.h, w.b, w.e, w.wi, w.r]
def wkK : List Bool := [false, false, false, true, false]
theorem wkL_inj {v w : Wk} (e : wkL v = wkL w) : v = w := by
  unfold wkL at e
  injection e with e1 e; injection e with e2 e; injection e with e3 e; injection e with e4 e; injection e with e5 _
  injection e1 with e1; injection e2 with e2; injection e3 with e3; injection e4 with e4; injection e5 with e5
  obtain ⟨h, b, e, wt, r⟩ := v
  obtain ⟨h', b', e', wt', r'⟩ := w
  dsimp only at *
  have x1 : h = h' := by omega
  have x2 : b = b' := by omega
  have x3 : e = e' := by omega
  have x5 : r = r' := by omega
  have x4 : wt = wt' := by
    revert e4
    unfold Wk.wi
    cases wt <;> cases wt' <;> simp
  subst x1 x2 x3 x4 x5
  rfl
abbrev LK (P : Program) (w : World) : HeapKind P w (List Leaf) := tupleKind (leafKind P w)
def entW (q : Wk × Addr) : List Leaf × Addr × Value := (wkL q.1, q.2, .bool true)
def DictW (P : Program) (w : World) (h : Heap) (a : Addr) (L : List (Wk × Addr)) : Prop := (a == sysModules) = false ∧ ∃ o es ep, h.get? a = some o ∧ o.ExactDict ∧ o.data = .dict es ep ∧
  es.toList = (L.map entW).map (entryOfKey (LK P w)) ∧ (L.map (·.1)).Nodup
def DWO (P : Program) (w : World) (a : Addr) (L : List (Wk × Addr)) : HO := .ext fun h => DictW P w h a L
theorem dwo_new {P : Program} {w : World} {H : Hp} {h : Heap} {a : Addr} {L : List (Wk × Addr)} (R : DictW P w h a L) : ObjOk P w H h a (DWO P w a L) := by
  refine ⟨R, ?_, fun h1 h2 R1 k => ?_⟩
  · obtain ⟨_, o, _, _, e, _⟩ := R
    exact ⟨o, e⟩
  · obtain ⟨z, o, es, ep, e, r⟩ := R1
    exact ⟨z, o, es, ep, k _ e, r⟩
theorem items_wk {P : Program} {w : World} {v : Wk} {us : List Value} (h : Vals (wkV v) us) : PySem.ItemsAre (leafKind P w) (wkL v) us ∧ NumsAre wkK us (wkN v) := by
  unfold wkV at h
  cases h with
  | cons r1 h =>
    cases h with
    | cons r2 h =>
      cases h with
      | cons r3 h =>
        cases h with
        | cons r4 h =>
          cases h with
          | cons r5 h =>
            cases h
            obtain ⟨t1, rfl⟩ := r1
            obtain ⟨t2, rfl⟩ := r2
            obtain ⟨t3, rfl⟩ := r3
            obtain ⟨t5, rfl⟩ := r5
            cases r4
            have hw : Leaf.isOf (.num v.wi) (.bool v.wet) = true := by
              unfold Wk.wi
              cases v.wet <;> rfl
            have hb : b2i v.wet = v.wi := by
              unfold Wk.wi
              cases v.wet <;> rfl
            refine ⟨.cons (decide_eq_true rfl) (.cons (decide_eq_true rfl) (.cons (decide_eq_true rfl) (.cons hw (.cons (decide_eq_true rfl) .nil)))), ?_⟩
            show NumsAre wkK _ [_, _, _, v.wi, _]
            rw [← hb]
            exact .int _ _ (.int _ _ (.int _ _ (.bl _ (.int _ _ .nil))))
theorem wk_at {X : Cx} {pins : List (Addr × Obj)} {σ : L2.St} {H : Hp} {s : Shared} {b : Addr} {v : Wk} (I : Inv X pins σ H s) (h : SqT X.K H b (wkV v)) : IsTupleKey (leafKind X.prog X.w) s.heap (wkL v) b ∧ TupNums wkK s.heap (.ref b) (wkN v) := by
  obtain ⟨its, r, ⟨o, ho, hc, n, hd⟩, _⟩ := I.tuple h
  obtain ⟨i1, i2⟩ := items_wk (P := X.prog) (w := X.w) r
  exact ⟨⟨o, _, n, ho, hc, hd, i1⟩, b, _, rfl, ⟨o, ho, hc, n, hd⟩, i2⟩
def putW (L : List (Wk × Addr)) (v : Wk) (b : Addr) : List (Wk × Addr) := if v ∈ L.map (·.1) then L else L ++ [(v, b)]
theorem atKey_wk (L : List (Wk × Addr)) (v : Wk) : (atKey (L.map entW) (wkL v)).isSome = decide (v ∈ L.map (·.1)) := by
  unfold atKey
  rw [Option.isSome_map]
  apply Bool.eq_iff_iff.mpr
  rw [List.find?_isSome]
  simp only [decide_eq_true_eq, List.mem_map]
  constructor
  · rintro ⟨x, ⟨q, hq, rfl⟩, e⟩
    exact ⟨q, hq, wkL_inj e⟩
  · rintro ⟨q, hq, e⟩
    exact ⟨entW q, ⟨q, hq, rfl⟩, by show wkL q.1 = wkL v; rw [e]⟩
theorem stored_wk (L : List (Wk × Addr)) (v : Wk) (b : Addr) : storedH (L.map entW) (wkL v) b (.bool true) = (putW L v b).map entW := by
  unfold storedH putW
  rw [atKey_wk]
  by_cases h : v ∈ L.map (·.1)
  · rw [if_pos (decide_eq_true h), if_pos h, List.map_map]
    refine List.map_congr_left fun q _ => ?_
    show putAt (wkL v) (.bool true) (entW q) = entW q
    unfold putAt
    split <;> rfl
  · rw [if_neg (by simpa using h), if_neg h, List.map_append]
    rfl
theorem putW_nodup {L : List (Wk × Addr)} (h : (L.map (·.1)).Nodup) (v : Wk) (b : Addr) : ((putW L v b).map (·.1)).Nodup := by
  unfold putW
  split
  · exact h
  · rename_i hn
    rw [List.map_append, List.nodup_append]
    refine ⟨h, by simp, ?_⟩
    intro x hx y hy e
    simp at hy
    subst hy
    exact hn (e ▸ hx)
theorem dictW_full {X : Cx} {pins : List (Addr × Obj)} {σ : L2.St} {H : Hp} {s : Shared} {a : Addr} {L : List (Wk × Addr)} (I : Inv X pins σ H s) (R : DictW X.prog X.w s.heap a L) (hk : ∀ q ∈ L, SqT X.K H q.2 (wkV q.1)) : s.heap.DictOfH (LK X.prog X.w) a (L.map entW) := by
  obtain ⟨_, o, es, ep, h1, h2, h3, h4, h5⟩ := R
  refine ⟨o, es, ep, h1, h2, h3, h4, fun x hx => ?_, ?_⟩
  · obtain ⟨q, hq, rfl⟩ := List.mem_map.mp hx
    exact (wk_at I (hk q hq)).1
  · rw [List.map_map]
    rw [List.Nodup, List.pairwise_map] at h5 ⊢
    exact List.Pairwise.imp (fun {p q} ne e => ne (wkL_inj e)) h5
/-- {}, to be a dict of walks -/
def tDNewW (P : Program) (w : World) : TE := fun _ H Q => ∀ p, H p = none → Q (.ref p) (upd H p (DWO P w p []))
theorem pe_dnewW {X : Cx} {pos : Pos} : PE X (.Dict [] [] pos) (tDNewW X.prog X.w) := ⟨fun pins s σ H Q I h =>
  wpAny_Dict_empty ⟨.ref s.heap.objs.size, _, I.laid (a := s.heap.objs.size) (o := DWO X.prog X.w s.heap.objs.size []) (t' := s.toks) (fun _ _ q => Heap.get?_push_of_some _ q) (Nat.le_refl _)
    (dwo_new ⟨beq_eq_false_iff_ne.mpr (Ne.symm (Nat.ne_of_lt I.big)), _, #[], 0, Heap.get?_push_size _ rfl, ⟨rfl, rfl, rfl⟩, rfl, rfl, List.nodup_nil⟩), rfl, h _ (I.hok.fresh (Nat.le_refl _))⟩⟩
/-- d[walk] = True -/
def sWPut (K : PySem.W.Frag) (P : Program) (w : World) (td ty tv : TE) : TS := fun D σ H => tv σ H fun v H1 => td σ H1 fun x H2 => ty σ H2 fun y H3 => ∃ a b L k, v = .bl true ∧ x = .ref a ∧ y = .ref b ∧ H3 a = some (DWO P w a L) ∧
  (∀ q ∈ L, SqT K H3 q.2 (wkV q.1)) ∧ SqT K H3 b (wkV k) ∧ L.length < 1000 ∧ D.nx σ (upd H3 a (DWO P w a (putW L k b)))
theorem ps_dputW {X : Cx} {o i value : Expr} {td ty tv : TE} {pos pos' : Pos} (hu : X.A.units + 1 < cLine) (ho : PE X o td) (hi : PE X i ty) (hv : PE X value tv) (hs : swapsWith value (some (.Subscript o i pos')) pos.line X.env = pure false) :
    PS X (.Assign [.Subscript o i pos'] value pos) (sWPut X.K X.prog X.w td ty tv) := by
  refine ⟨fun pins s σ H D I h => ?_⟩
  refine wpAny_Assign_Subscript (thn (hv.run pins s σ H _ I h) fun r s1 ⟨v, H1, I1, rv, q1⟩ => thn (ho.run pins s1 σ H1 _ I1 q1) fun u s2 ⟨x, H2, I2, rx, q2⟩ => thn (hi.run pins s2 σ H2 _ I2 q2) fun iv s3 ⟨y, H3, I3, ry, a, b, L, k, ev, ex, ey, ha, hk, hb, hl, q3⟩ => ?_) hs
  subst ev ex ey
  obtain rfl : u = Value.ref a := rx
  obtain rfl : iv = Value.ref b := ry
  obtain rfl : r = Value.bool true := rv
  have R : DictW X.prog X.w s3.heap a L := (I3.hok a _ ha).1
  have dd := dictW_full I3 R hk
  refine wpAny_setItem_heap (hsz := by rw [List.length_map, sizeLine_eq]; omega) (tupleKind_room_in1 hu) (wk_at I3 hb).1 dd fun h' dd' hs' => ?_
  rw [stored_wk] at dd'
  obtain ⟨q, es, ep, hq, h2, h3, h4, _, _⟩ := dd'
  exact ⟨σ, _, d_write I3 (by rw [ha]; exact True.intro) hs' ⟨q, hq⟩ (dwo_new ⟨R.1, q, es, ep, hq, h2, h3, h4, putW_nodup (by obtain ⟨_, _, _, _, _, _, _, _, h5⟩ := R; exact h5) k b⟩), q3⟩
/-- sorted(d), the keys -/
def rSortedW (K : PySem.W.Frag) (P : Program) (w : World) : List V → Hp → VK → Prop := fun vs H Q => ∃ (a : Addr) (L : List (Wk × Addr)), vs = [V.ref a] ∧ H a = some (DWO P w a L) ∧ (∀ q ∈ L, SqT K H q.2 (wkV q.1)) ∧ L.length < 64 ∧ (∀ q ∈ L, TS.Bd 1000 (wkN q.1)) ∧
  ∀ (L' : List (Wk × Addr)) (p : Addr), L'.Perm L → (L'.map (·.1)).Nodup → L'.Pairwise (fun q r => TS.code 1000 (wkN q.1) ≤ TS.code 1000 (wkN r.1)) → H p = none → Q (.ref p) (upd H p (.lst (L'.map fun q => V.ref q.2)))
theorem vals_refs2 : ∀ (ks : List (Wk × Addr)), Vals (ks.map fun p => V.ref p.2) (ks.map fun p => Value.ref p.2)
  | [] => .nil
  | _ :: ks => .cons rfl (vals_refs2 ks)
theorem each_get {α β : Type} {f : β → α} : ∀ {l : List α} {L : List β}, l.length = L.length → (∀ (j : Nat) (v : α), l[j]? = some v → ∃ q, L[j]? = some q ∧ v = f q) → l = L.map f
  | [], [], _, _ => rfl
  | [], _ :: _, h, _ => by simp at h
  | _ :: _, [], h, _ => by simp at h
  | x :: l, q :: L, h, k => by
    obtain ⟨q', e1, e2⟩ := k 0 x rfl
    simp at e1
    subst e1
    rw [List.map_cons, ← e2, each_get (l := l) (L := L) (by simpa using h) (fun j v e => by
      have := k (j + 1) v (by simpa using e)
      simpa using this)]
theorem cr_sortedW {X : Cx} (hc : X.calm = true) : CallR X (.builtin "sorted") (rSortedW X.K X.prog X.w) := by
  intro pins s σ H vs us Q I r h
  obtain ⟨a, L, rfl, ha, hk, h64, hB, q⟩ := h
  have R : DictW X.prog X.w s.heap a L := (I.hok a _ ha).1
  rw [Vals.ref1 r]
  obtain ⟨lo, o, es, ep, h1, h2, h3, h4, h5⟩ := id R
  have hsz : es.size = L.length := by
    have := congrArg List.length h4
    simpa using this
  refine Calls.call_function_entry PyProof.Rows.kind_sorted PyProof.Rows.plain_sorted PyProof.Rows.entry_sorted (PyProof.Rows.args_sorted1 _) ?_
  unfold Builtin.«sorted»
  refine wpAny_bind (m := checkCount "sorted" 1 1 _) (wpAny_pure ?_)
  refine wpAny_bind (PySem.W.kdu_collect (A := X.A.in1) (KdlSrc.rawDict (prog := X.prog) (w := X.w) (d := a) (es := es) (ep := ep) lo) (I.ok.hd hc) ⟨o, h1, h2, h3⟩ (by rw [hsz, sizeLine_eq]; omega) fun h' tk acc hk' hacc => ?_)
  have hal : acc.toList.length = L.length := by rw [Array.length_toList, hacc.1, hsz]
  have hS : acc.toList = L.map fun q => Value.ref q.2 := each_get hal fun j v e => by
    obtain ⟨hj, e2⟩ := hacc.2 j v (by rw [← Array.getElem?_toList]; exact e)
    have hjL : j < L.length := by omega
    refine ⟨L[j], List.getElem?_eq_getElem hjL, ?_⟩
    have e3 : es[j]? = some es[j] := Array.getElem?_eq_getElem hj
    rw [← Array.getElem?_toList, h4] at e3
    simp only [List.getElem?_map, List.getElem?_eq_getElem hjL, Option.map_some, Option.some.injEq] at e3
    rw [e2, ← e3]
    rfl
  have I1 : Inv X pins σ H { s with heap := h', toks := tk } := I.kept hk'
  refine wpAny_bind (wpAny_newList ?_ (by rw [hal, sizeLine_eq]; omega))
  have hoL : (h'.push (seqObj "list" acc.toList.toArray 0)).get? h'.objs.size = some (seqObj "list" acc.toList.toArray 0) := Heap.get?_push_size _ rfl
  show wpAny _ _ _ _ _ { s with heap := h'.push (seqObj "list" acc.toList.toArray 0), toks := tk }
  have keep : ∀ b u, h'.get? b = some u → (h'.push (seqObj "list" acc.toList.toArray 0)).get? b = some u := fun b u e => Heap.get?_push_of_some _ e
  have tk1 : ∀ q ∈ L, TupNums wkK (h'.push (seqObj "list" acc.toList.toArray 0)) (.ref q.2) (wkN q.1) := fun q hq => (wk_at I1 (hk q hq)).2.keeps fun b u e _ => keep b u e
  have x : NumsOk wkK (h'.push (seqObj "list" acc.toList.toArray 0)) 1000 acc.toList := fun v hv => by
    rw [hS] at hv
    obtain ⟨q, hq, rfl⟩ := List.mem_map.mp hv
    exact ⟨_, tk1 q hq, hB q hq⟩
  have key1 : ∀ p ∈ L, ∀ q ∈ L, p.2 = q.2 → p = q := fun p hp q hq e => by
    have a1 := (wk_at I1 (hk p hp)).1
    have a2 := (wk_at I1 (hk q hq)).1
    rw [e] at a1
    exact Prod.ext (wkL_inj (a1.inj a2)) e
  let rk : Value → Int := fun v => match L.find? (fun q => decide (Value.ref q.2 = v)) with
    | some q => TS.code 1000 (wkN q.1)
    | none => 0
  have rk_eq : ∀ q ∈ L, rk (.ref q.2) = TS.code 1000 (wkN q.1) := fun q hq => by
    show (match L.find? (fun p => decide (Value.ref p.2 = Value.ref q.2)) with
      | some q => TS.code 1000 (wkN q.1)
      | none => 0) = _
    cases e : L.find? (fun p => decide (Value.ref p.2 = Value.ref q.2)) with
    | none =>
      have := List.find?_eq_none.mp e q hq
      simp at this
    | some p =>
      have h1 := List.mem_of_find?_eq_some e
      have h2 := List.find?_some e
      simp at h2
      have := key1 p h1 q hq h2
      rw [this]
  refine wpAny_bind (wpAny_holding (wpAny_call_entry PyProof.Rows.slot_list_sort ⟨_, hoL, rfl⟩ PyProof.Rows.entry_list_sort
    (sort_nums (ks := [false, false, true, false]) (s := { s with heap := h'.push (seqObj "list" acc.toList.toArray 0), toks := tk }) hoL (by rw [hal]; exact h64) x rk (fun v hv ns t => ?_) fun out g1 g2 => ⟨_, rfl, ?_⟩) (PyProof.Rows.args_list_sort _)))
  · rw [hS] at hv
    obtain ⟨q, hq, rfl⟩ := List.mem_map.mp hv
    rw [rk_eq q hq]
    have e := t.inj (tk1 q hq)
    rw [e]
  obtain ⟨e', he'⟩ := PyProof.Rows.sortedHeap_at (vs := acc.toList) (out := out) hoL
  rw [hS] at g1
  obtain ⟨L', hout, hm⟩ : ∃ L' : List (Wk × Addr), out.toList = L'.map (fun q => Value.ref q.2) ∧ ∀ q ∈ L', q ∈ L := by
    have ord : ∀ vs : List Value, (∀ v ∈ vs, ∃ q ∈ L, v = Value.ref q.2) → ∃ L1 : List (Wk × Addr), vs = L1.map (fun q => Value.ref q.2) ∧ ∀ q ∈ L1, q ∈ L := by
      intro vs
      induction vs with
      | nil => intro _; exact ⟨[], rfl, fun q hq => (by cases hq)⟩
      | cons v vs ih =>
        intro hv
        obtain ⟨q, hq, e⟩ := hv v List.mem_cons_self
        obtain ⟨L1, e1, hs⟩ := ih fun u hu => hv u (List.mem_cons_of_mem _ hu)
        refine ⟨q :: L1, by rw [List.map_cons, e, e1], fun r hr => ?_⟩
        rcases List.mem_cons.mp hr with z | z
        · rw [z]; exact hq
        · exact hs r z
    exact ord _ fun v hv => by
      obtain ⟨q, hq, e⟩ := List.mem_map.mp (g1.mem_iff.mp hv)
      exact ⟨q, hq, e.symm⟩
  have nL : L.Nodup := L2.nodup_of_map h5
  have nref : (L.map fun q => Value.ref q.2).Nodup := by
    refine List.pairwise_map.mpr (List.Pairwise.imp_of_mem (fun {q r} hq hr hne e => ?_) nL)
    injection e with e
    exact hne (key1 q hq r hr e)
  have pL : L'.Perm L := by
    rw [hout] at g1
    have n1 : L'.Nodup := L2.nodup_of_map (g1.nodup_iff.mpr nref)
    refine (List.perm_ext_iff_of_nodup n1 nL).mpr fun q => ⟨hm q, fun hq => ?_⟩
    have hm2 : Value.ref q.2 ∈ L'.map (fun q => Value.ref q.2) := g1.mem_iff.mpr (List.mem_map.mpr ⟨q, hq, rfl⟩)
    obtain ⟨r, hr, e⟩ := List.mem_map.mp hm2
    injection e with e
    rw [← key1 r (hm r hr) q hq e]
    exact hr
  have pw : L'.Pairwise (fun q r => TS.code 1000 (wkN q.1) ≤ TS.code 1000 (wkN r.1)) := by
    rw [hout] at g2
    refine List.Pairwise.imp_of_mem (fun {q r} hq hr hle => ?_) (List.pairwise_map.mp g2)
    rw [← rk_eq q (hm q hq), ← rk_eq r (hm r hr)]
    exact hle
  have hlen : (L'.map fun q => V.ref q.2).length ≤ sizeLine := by
    rw [List.length_map, pL.length_eq]
    exact Nat.le_trans (Nat.le_of_lt h64) (by decide)
  have hn : H h'.objs.size = none := I1.hok.fresh (Nat.le_refl _)
  refine wpAny_pure ⟨_, rfl, .ref h'.objs.size, upd H h'.objs.size (.lst (L'.map fun q => V.ref q.2)), I1.laid (t' := tk) (fun b u e => ?_) (Nat.le_refl _) ⟨hlen, out.toList, e', by rw [hout]; exact vals_refs2 L', by rw [Array.toArray_toList]; exact he'⟩, rfl, q L' _ pL ((pL.map (·.1)).nodup_iff.mpr h5) pw hn⟩
  have hlt := Heap.lt_size e
  show (sortedHeap (h'.push (seqObj "list" acc.toList.toArray 0)) h'.objs.size acc.toList out).get? b = some u
  rw [sortedHeap_old (Nat.ne_of_lt hlt) (by rw [size_push']; exact Nat.lt_succ_of_lt hlt)]
  exact Heap.get?_push_of_some _ e
end HX

/-! Lists of tuples and of lists; flows and what they have found, in the heap. -/
namespace HX
open PySem PySem.Spec PyProof.Rows L2 Dry

/-! ### lists of sequences -/
structure Refs (b : Bool) (K : PySem.W.Frag) (H : Hp) (rs : List V) (vss : List (List V)) : Prop where
  len : rs.length = vss.length
  at_ : ∀ (i : Nat) (vs : List V), vss[i]? = some vs → ∃ x : Addr, rs[i]? = some (V.ref x) ∧ SqB K b H x vs
theorem Refs.nil {b : Bool} {K : PySem.W.Frag} {H : Hp} : Refs b K H [] [] := ⟨rfl, fun i vs h => by simp at h⟩
theorem Refs.same {b : Bool} {K : PySem.W.Frag} {H H' : Hp} {rs : List V} {vss : List (List V)} (e : Same H H') (h : Refs b K H rs vss) : Refs b K H' rs vss :=
  ⟨h.len, fun i vs hi => let ⟨x, h1, h2⟩ := h.at_ i vs hi; ⟨x, h1, e.sqB h2⟩⟩
theorem Refs.tx {K : PySem.W.Frag} {H H' : Hp} {rs : List V} {vss : List (List V)} (e : Tx H H') (h : Refs true K H rs vss) : Refs true K H' rs vss :=
  ⟨h.len, fun i vs hi => let ⟨x, h1, h2⟩ := h.at_ i vs hi; ⟨x, h1, e.tup h2⟩⟩
theorem Refs.snoc {b : Bool} {K : PySem.W.Frag} {H : Hp} {rs : List V} {vss : List (List V)} {x : Addr} {vs : List V} (h : Refs b K H rs vss) (hx : SqB K b H x vs) : Refs b K H (rs ++ [V.ref x]) (vss ++ [vs]) := by
  refine ⟨by simp [h.len], fun i us hi => ?_⟩
  rw [List.getElem?_append] at hi
  by_cases hl : i < vss.length
  · rw [if_pos hl] at hi
    obtain ⟨y, h1, h2⟩ := h.at_ i us hi
    exact ⟨y, by rw [List.getElem?_append, if_pos (by rw [h.len]; exact hl)]; exact h1, h2⟩
  · rw [if_neg hl] at hi
    have e : i - vss.length = 0 := by
      by_cases z : i - vss.length = 0
      · exact z
      · rw [List.getElem?_eq_none (by simp; omega)] at hi; cases hi
    rw [e] at hi
    simp at hi
    subst hi
    exact ⟨x, by rw [List.getElem?_append, if_neg (by rw [h.len]; exact hl), h.len, e]; rfl, hx⟩
theorem Refs.get {b : Bool} {K : PySem.W.Frag} {H : Hp} {rs : List V} {vss : List (List V)} (h : Refs b K H rs vss) {i : Nat} {x : V} (hx : rs[i]? = some x) : ∃ vs a, vss[i]? = some vs ∧ x = .ref a ∧ SqB K b H a vs := by
  have hl := (List.getElem?_eq_some_iff.mp hx).1
  have hw : vss[i]? = some (vss[i]'(by rw [← h.len]; exact hl)) := List.getElem?_eq_getElem _
  obtain ⟨y, h1, h2⟩ := h.at_ i _ hw
  rw [hx] at h1
  exact ⟨_, y, hw, Option.some.inj h1, h2⟩
theorem take_succ_get {α : Type} {l : List α} {i : Nat} {x : α} (h : l[i]? = some x) : l.take (i + 1) = l.take i ++ [x] := by
  obtain ⟨hl, rfl⟩ := List.getElem?_eq_some_iff.mp h
  exact List.take_succ_eq_append_getElem hl
theorem range_succ_map {α : Type} (f : Nat → α) (n : Nat) : (List.range (n + 1)).map f = (List.range n).map f ++ [f n] := by rw [List.range_succ, List.map_append]; rfl
/-- the i-th item of a list of ints -/
theorem vI_inv {ns : List Int} {i : Nat} {x : V} (h : (vI ns)[i]? = some x) : ∃ n, ns[i]? = some n ∧ x = .int n := by
  rw [List.getElem?_map] at h
  cases e : ns[i]? with
  | none => rw [e] at h; cases h
  | some n => rw [e] at h; exact ⟨n, rfl, (Option.some.inj h).symm⟩
theorem getD_of {ns : List Int} {i : Nat} {n : Int} (h : ns[i]? = some n) : ns.getD i 0 = n := by simp [List.getD_eq_getElem?_getD, h]
theorem zip3_take (f : Int → Int → Int → Int) : ∀ (a b c : List Int) (i : Nat) (x y z : Int), a[i]? = some x → b[i]? = some y → c[i]? = some z → (zip3 f a b c)[i]? = some (f x y z)
  | [], _, _, _, _, _, _, h, _, _ => by simp at h
  | _ :: _, [], _, _, _, _, _, _, h, _ => by simp at h
  | _ :: _, _ :: _, [], _, _, _, _, _, _, h => by simp at h
  | a :: as, b :: bs, c :: cs, 0, x, y, z, h1, h2, h3 => by
    simp at h1 h2 h3
    subst h1 h2 h3
    rfl
  | a :: as, b :: bs, c :: cs, i + 1, x, y, z, h1, h2, h3 => by
    have := zip3_take f as bs cs i x y z (by simpa using h1) (by simpa using h2) (by simpa using h3)
    simpa [zip3] using this
theorem zipW_get {a b : List Int} {f : Int → Int → Int} {i : Nat} {x y : Int} (h1 : a[i]? = some x) (h2 : b[i]? = some y) : (List.zipWith f a b)[i]? = some (f x y) := by
  simp [List.getElem?_zipWith, h1, h2]

/-! ### flows -/
def ff (a g wa c m : Addr) : List (Str × V) := [("day", .ref a), ("given", .ref g), ("wanted", .ref wa), ("carried", .ref c), ("more", .ref m)]
section
variable {a g wa c m : Addr}
theorem ff_day : (ff a g wa c m).lookup ("day" : Str) = some (V.ref a) := rfl
theorem ff_given : (ff a g wa c m).lookup ("given" : Str) = some (V.ref g) := rfl
theorem ff_wanted : (ff a g wa c m).lookup ("wanted" : Str) = some (V.ref wa) := rfl
theorem ff_carried : (ff a g wa c m).lookup ("carried" : Str) = some (V.ref c) := rfl
theorem ff_more : (ff a g wa c m).lookup ("more" : Str) = some (V.ref m) := rfl
theorem ff_no1 : (ff a g wa c m).lookup ("starts" : Str) = none := rfl
theorem ff_no2 : (ff a g wa c m).lookup ("waits" : Str) = none := rfl
theorem ff_no3 : (ff a g wa c m).lookup ("steps" : Str) = none := rfl
theorem ff_no4 : (ff a g wa c m).lookup ("reached" : Str) = none := rfl
theorem ff_no5 : (ff a g wa c m).lookup ("lessen" : Str) = none := rfl
theorem ff_no6 : (ff a g wa c m).lookup ("settle" : Str) = none := rfl
theorem ff_no7 : (ff a g wa c m).lookup ("line" : Str) = none := rfl
theorem ff_put : putF "more" (.ref m) (putF "carried" (.ref c) (putF "wanted" (.ref wa) (putF "given" (.ref g) (putF "day" (.ref a) [])))) = ff a g wa c m := rfl
end
/-- what a flow is of -/
structure FlowS (K : PySem.W.Frag) (H : Hp) (d : Day) (a aw : Addr) (ds : List V) (g wa : Addr) (G W : List Int) : Prop where
  day : DayAt K H a aw ds d
  ok : d.Ok
  sm : d.Sm
  giv : SqT K H g (vI G)
  wan : SqT K H wa (vI W)
  lG : G.length = d.P
  lW : W.length = d.P
theorem FlowS.tx {K : PySem.W.Frag} {H H' : Hp} {d : Day} {a aw : Addr} {ds : List V} {g wa : Addr} {G W : List Int} (e : Tx H H') (h : FlowS K H d a aw ds g wa G W) : FlowS K H' d a aw ds g wa G W :=
  ⟨h.day.tx e, h.ok, h.sm, e.tup h.giv, e.tup h.wan, h.lG, h.lW⟩
/-- the flow itself -/
structure FlowO (C : Addr) (H : Hp) (p dx a g wa c m : Addr) (x : Fl) : Prop where
  ins : H p = some (.ins C dx (ff a g wa c m))
  car : H c = some (.lst (vI x.car))
  more : H m = some (.lst (vI x.more))
  cm : c ≠ m
theorem FlowO.same {C : Addr} {H H' : Hp} {p dx a g wa c m : Addr} {x : Fl} (e : Same H H') (h : FlowO C H p dx a g wa c m x) : FlowO C H' p dx a g wa c m x :=
  ⟨e _ _ h.ins, e _ _ h.car, e _ _ h.more, h.cm⟩
structure Ctx (K : PySem.W.Frag) (C : Addr) : Prop where
  cl : Cls K C
  day : NoAttr K C "day"
  given : NoAttr K C "given"
  wanted : NoAttr K C "wanted"
  carried : NoAttr K C "carried"
  more : NoAttr K C "more"

/-! ### what is found -/
def numV : Option Nat → V
  | none => .non
  | some n => .int (n : Int)
def stpV (s : Stp) : List V := [.int (s.1 : Int), .int (s.2.1 : Int), numV s.2.2.1, .int s.2.2.2]
def ndV (n : Nd) : List V := [.int (n.1 : Int), .int (n.2 : Int)]
def ndK (n : Nd) : List L2.Key := [.inl (n.1 : Int), .inl (n.2 : Int)]
theorem ndK_V (n : Nd) : (ndK n).map kV = ndV n := rfl
theorem ndK_inj {n m : Nd} (e : ndK n = ndK m) : n = m := by
  unfold ndK at e
  injection e with e1 e; injection e with e2 _
  injection e1 with e1; injection e2 with e2
  exact Prod.ext (by omega) (by omega)
def WayAt (H : Hp) (v : V) : Way → Prop
  | none => v = .non
  | some (here, num, sg) => ∃ t h : Addr, v = .ref t ∧ H t = some (.tup [.ref h, numV num, .int sg]) ∧ H h = some (.tup (ndV here))
/-- tuples stay -/
def Tp (H H' : Hp) : Prop := ∀ a xs, H a = some (.tup xs) → H' a = some (.tup xs)
theorem Tp.of {H H' : Hp} (e : Same H H') : Tp H H' := fun a xs h => e a _ h
theorem Tp.trans {H H1 H2 : Hp} (a : Tp H H1) (b : Tp H1 H2) : Tp H H2 := fun x o h => b x o (a x o h)
theorem Tp.mutL {H : Hp} {p : Addr} {o : HO} {xs : List V} (hp : H p = some (.lst xs)) : Tp H (upd H p o) := fun a ys h => by
  rw [upd_ne (ne_of h hp (fun z => nomatch z))]; exact h
theorem Tp.mutD {H : Hp} {p : Addr} {o : HO} {xs : List (List L2.Key × V)} (hp : H p = some (.dT xs)) : Tp H (upd H p o) := fun a ys h => by
  rw [upd_ne (ne_of h hp (fun z => nomatch z))]; exact h
theorem WayAt.tp {H H' : Hp} (e : Tp H H') {v : V} : ∀ {w : Way}, WayAt H v w → WayAt H' v w
  | none, h => h
  | some (_, _, _), ⟨t, hh, e1, e2, e3⟩ => ⟨t, hh, e1, e _ _ e2, e _ _ e3⟩
def FdAt (H : Hp) (kvs : List (List L2.Key × V)) (f : Fd) : Prop := Paired (fun kv e => kv.1 = ndK e.1 ∧ WayAt H kv.2 e.2) kvs f
theorem FdAt.tp {H H' : Hp} (e : Tp H H') {kvs : List (List L2.Key × V)} {f : Fd} (h : FdAt H kvs f) : FdAt H' kvs f := L2.Paired.mapP h fun _ _ z => ⟨z.1, z.2.tp e⟩
theorem FdAt.length {H : Hp} {kvs : List (List L2.Key × V)} {f : Fd} (h : FdAt H kvs f) : kvs.length = f.length := Paired.length h
theorem paired_snoc {α β : Type} {F : α → β → Prop} {x : α} {y : β} (r : F x y) : ∀ {l : List α} {m : List β}, Paired F l m → Paired F (l ++ [x]) (m ++ [y])
  | _, _, .nil => .cons r .nil
  | _, _, .cons q t => .cons q (paired_snoc r t)
theorem FdAt.val {H : Hp} {kvs : List (List L2.Key × V)} {f : Fd} (h : FdAt H kvs f) (n : Nd) :
    (valV kvs (ndK n)).isSome = decide (n ∈ keys f) ∧ ∀ way, f.lookup n = some way → ∃ v, valV kvs (ndK n) = some v ∧ WayAt H v way := by
  induction h with
  | nil => exact ⟨rfl, fun way e => by cases e⟩
  | @cons kv e kvs f r t ih =>
    obtain ⟨k, v⟩ := kv
    obtain ⟨m, way⟩ := e
    obtain ⟨e1, e2⟩ := r
    dsimp only at e1 e2
    subst e1
    by_cases c : m = n
    · subst c
      rw [valV_pos (p := (ndK m, v)) rfl]
      refine ⟨?_, fun way' e => ?_⟩
      · simp [keys]
      · simp [List.lookup] at e
        subst e
        exact ⟨v, rfl, e2⟩
    · rw [valV_neg (p := (ndK m, v)) (fun z => c (ndK_inj z))]
      refine ⟨?_, fun way' e => ?_⟩
      · rw [ih.1]
        apply decide_eq_decide.mpr
        constructor
        · intro h
          simp only [keys, List.map_cons, List.mem_cons]
          exact .inr h
        · intro h
          simp only [keys, List.map_cons, List.mem_cons] at h
          rcases h with h | h
          · exact absurd h.symm c
          · exact h
      · have : (n == m) = false := beq_eq_false_iff_ne.mpr (fun z => c z.symm)
        simp only [List.lookup, this] at e
        exact ih.2 way' e
theorem FdAt.put {H : Hp} {kvs : List (List L2.Key × V)} {f : Fd} (h : FdAt H kvs f) {n : Nd} {v : V} {way : Way} (hn : n ∉ keys f) (hv : WayAt H v way) : FdAt H (putK kvs (ndK n) v) (f ++ [(n, way)]) := by
  have h0 := (h.val n).1
  rw [decide_eq_false hn] at h0
  rw [putK_new v (by cases e : valV kvs (ndK n) with | none => rfl | some _ => rw [e] at h0; cases h0)]
  exact paired_snoc ⟨rfl, hv⟩ h
/-! ### built-ins, their readings by name -/
def rTupOf (K : PySem.W.Frag) : List V → Hp → VK → Prop := fun xs H Q => ∃ p ys, xs = [.ref p] ∧ ((SqL K H p ys ∧ ∀ l, H l = none → Q (.ref l) (upd H l (.tup ys))) ∨ (SqT K H p ys ∧ Q (.ref p) H))
def rListOf (K : PySem.W.Frag) : List V → Hp → VK → Prop := fun xs H Q => ∃ p ys, xs = [.ref p] ∧ (SqL K H p ys ∨ SqT K H p ys) ∧ ∀ l, H l = none → Q (.ref l) (upd H l (.lst ys))
def rLenS (K : PySem.W.Frag) : List V → Hp → VK → Prop := fun xs H Q => ∃ p ys, xs = [.ref p] ∧ (SqL K H p ys ∨ SqT K H p ys) ∧ Q (.int ys.length) H
def rInt1 : List V → Hp → VK → Prop := fun xs H Q => (∃ i, xs = [.int i] ∧ Q (.int i) H) ∨ ∃ k, xs = [.bl k] ∧ Q (.int (if k then 1 else 0)) H
def rMax2 : List V → Hp → VK → Prop := fun xs H Q => ∃ i j, xs = [.int i, .int j] ∧ Q (.int (if j > i then j else i)) H
def rMin2 : List V → Hp → VK → Prop := fun xs H Q => ∃ i j, xs = [.int i, .int j] ∧ Q (.int (if j < i then j else i)) H
section
variable {K : PySem.W.Frag} {H : Hp} {Q : VK} {p : Addr} {ys : List V}
theorem c_tupL (h : SqL K H p ys) (q : ∀ l, H l = none → Q (.ref l) (upd H l (.tup ys))) : rTupOf K [.ref p] H Q := ⟨p, ys, rfl, .inl ⟨h, q⟩⟩
theorem c_tupT (h : SqT K H p ys) (q : Q (.ref p) H) : rTupOf K [.ref p] H Q := ⟨p, ys, rfl, .inr ⟨h, q⟩⟩
theorem c_lisL (h : SqL K H p ys) (q : ∀ l, H l = none → Q (.ref l) (upd H l (.lst ys))) : rListOf K [.ref p] H Q := ⟨p, ys, rfl, .inl h, q⟩
theorem c_lisT (h : SqT K H p ys) (q : ∀ l, H l = none → Q (.ref l) (upd H l (.lst ys))) : rListOf K [.ref p] H Q := ⟨p, ys, rfl, .inr h, q⟩
theorem c_lenL (h : SqL K H p ys) (q : Q (.int ys.length) H) : rLenS K [.ref p] H Q := ⟨p, ys, rfl, .inl h, q⟩
theorem c_lenT (h : SqT K H p ys) (q : Q (.int ys.length) H) : rLenS K [.ref p] H Q := ⟨p, ys, rfl, .inr h, q⟩
theorem c_intI {i : Int} (q : Q (.int i) H) : rInt1 [.int i] H Q := .inl ⟨i, rfl, q⟩
theorem c_intBl {k : Bool} (q : Q (.int (if k then 1 else 0)) H) : rInt1 [.bl k] H Q := .inr ⟨k, rfl, q⟩
theorem c_intW {w : Wk} (q : Q (.int w.wi) H) : rInt1 [.bl w.wet] H Q := .inr ⟨w.wet, rfl, q⟩
theorem c_max {i j : Int} (q : Q (.int (if j > i then j else i)) H) : rMax2 [.int i, .int j] H Q := ⟨i, j, rfl, q⟩
theorem c_min {i j : Int} (q : Q (.int (if j < i then j else i)) H) : rMin2 [.int i, .int j] H Q := ⟨i, j, rfl, q⟩
theorem c_sum {ns : List Int} (h : SqL K H p (vI ns)) (q : Q (.int ns.sum) H) : rSum K [.ref p] H Q := ⟨p, ns, rfl, h, q⟩
theorem c_all {bs : List Bool} (h : SqL K H p (bs.map V.bl)) (q : Q (.bl (bs.all id)) H) : rAll K [.ref p] H Q := ⟨p, bs, rfl, h, q⟩
theorem c_any {bs : List Bool} (h : SqL K H p (bs.map V.bl)) (q : Q (.bl (bs.any id)) H) : rAny K [.ref p] H Q := ⟨p, bs, rfl, h, q⟩
theorem c_app {y : V} (h : H p = some (.lst ys)) (hl : ys.length < sizeLine) (q : Q .non (upd H p (.lst (ys ++ [y])))) : rAppend (.ref p) [y] H Q := ⟨p, ys, y, rfl, rfl, h, hl, q⟩
theorem ty_l (h : SqL K H p ys) : tyV K "list" (.ref p) H := .inl ⟨rfl, _, h⟩
end
theorem c_fldv {K : PySem.W.Frag} {H : Hp} {Q : V → Hp → Prop} {a C dx : Addr} {fs : List (Str × V)} {f : Str} {v : V} (h : H a = some (.ins C dx fs)) (cl : Cls K C) (na : NoAttr K C f) (hl : fs.lookup f = some v) (q : Q v H) :
    ∃ a' C' dx' fs' v', V.ref a = .ref a' ∧ H a' = some (.ins C' dx' fs') ∧ Cls K C' ∧ NoAttr K C' f ∧ fs'.lookup f = some v' ∧ Q v' H := ⟨a, C, dx, fs, v, rfl, h, cl, na, hl, q⟩
theorem c_meth {ta : TE} {t : TA} {C : Addr} {m : Str} {sp : Sp} {σ : L2.St} {H : Hp} {Q : VK} (q : ta σ H fun x H1 => ∃ a dx fs, x = .ref a ∧ H1 a = some (.ins C dx fs) ∧ fs.lookup m = none ∧ t σ H1 fun vs H2 => sp (x :: (vs ++ [])) H2 Q E0) : tMeth C m sp [] E0 ta t σ H Q := q
theorem c_methv {C a dx : Addr} {fs : List (Str × V)} {m : Str} {H : Hp} {P : Prop} (h : H a = some (.ins C dx fs)) (hl : fs.lookup m = none) (q : P) : ∃ a' dx' fs', V.ref a = .ref a' ∧ H a' = some (.ins C dx' fs') ∧ fs'.lookup m = none ∧ P := ⟨a, dx, fs, rfl, h, hl, q⟩
theorem c_make {C : Addr} {sp : Sp} {t : TA} {σ : L2.St} {H : Hp} {Q : VK} (q : t σ H fun vs H1 => ∀ x dx, H1 x = none → H1 dx = none → dx ≠ x → sp (.ref x :: (vs ++ [])) (upd (upd H1 dx (.own x)) x (.ins C dx [])) (fun v H2 => v = .non ∧ Q (.ref x) H2) E0) : tMake C sp [] E0 t σ H Q := q
theorem c_yes {σ : L2.St} {H : Hp} {Q : Bool → Hp → Prop} (q : Q true H) : tYes σ H Q := q
theorem walk_rng {n : Nat} : Walk (Itr 0 n) n (fun _ => True) (fun i H x H' => H' = H ∧ x = .int (i : Int)) :=
  walk_range.mono (fun _ h => h) fun i H x H' _ _ y => ⟨y.1, y.2.trans (by show V.int (0 + (i : Int)) = _; rw [Int.zero_add])⟩
theorem c_sfld {K : PySem.W.Frag} {ta tv : TE} {f : Str} {D : Ends} {σ : L2.St} {H : Hp} (q : tv σ H fun y H1 => ta σ H1 fun x H2 => ∃ a C dx fs, x = .ref a ∧ H2 a = some (.ins C dx fs) ∧ Cls K C ∧ NoAttr K C f ∧ fs.length < 1000 ∧ D.nx σ (upd H2 a (.ins C dx (putF f y fs)))) : sFld K ta tv f D σ H := q
theorem c_sfldv {K : PySem.W.Frag} {H : Hp} {R : Hp → Prop} {a C dx : Addr} {fs : List (Str × V)} {f : Str} {y : V} (h : H a = some (.ins C dx fs)) (cl : Cls K C) (na : NoAttr K C f) (hl : fs.length < 1000) (q : R (upd H a (.ins C dx (putF f y fs)))) :
    ∃ a' C' dx' fs', V.ref a = .ref a' ∧ H a' = some (.ins C' dx' fs') ∧ Cls K C' ∧ NoAttr K C' f ∧ fs'.length < 1000 ∧ R (upd H a' (.ins C' dx' (putF f y fs'))) := ⟨a, C, dx, fs, rfl, h, cl, na, hl, q⟩
theorem c_bml {K : PySem.W.Frag} {H : Hp} {p : Addr} {ys : List V} {P : Prop} (h : SqL K H p ys) (q : P) : tyV K "list" (.ref p) H ∧ P := ⟨ty_l h, q⟩
theorem c_selfld {K : PySem.W.Frag} {i : Nat} {f : Str} {σ : L2.St} {H : Hp} {Q : VK} {a C dx : Addr} {fs : List (Str × V)} {v : V} (hv : σ[i]? = some (some (.ref a))) (h : H a = some (.ins C dx fs)) (cl : Cls K C) (na : NoAttr K C f) (hl : fs.lookup f = some v) (q : Q v H) : tFld K (tVar i) f σ H Q :=
  ⟨_, hv, a, C, dx, fs, v, rfl, h, cl, na, hl, q⟩
theorem c_selmeth {t : TA} {i : Nat} {m : Str} {sp : Sp} {σ : L2.St} {H : Hp} {Q : VK} {a C dx : Addr} {fs : List (Str × V)} (hv : σ[i]? = some (some (.ref a))) (h : H a = some (.ins C dx fs)) (hl : fs.lookup m = none) (q : t σ H fun vs H2 => sp (.ref a :: (vs ++ [])) H2 Q E0) : tMeth C m sp [] E0 (tVar i) t σ H Q :=
  ⟨_, hv, a, dx, fs, rfl, h, hl, q⟩
/-! ### pairs of ints compared -/
theorem eqv_pair (a b c d : Int) : PyData.eqv (.tuple [.int a, .int b]) (.tuple [.int c, .int d]) = (decide (a = c) && decide (b = d)) := by
  simp only [PyData.eqv, PyData.eqvAll, Bool.and_true]
  rw [Bool.beq_eq_decide_eq, Bool.beq_eq_decide_eq]
theorem c_eqPair {K : PySem.W.Frag} {H : Hp} {Q : VK} {p q : Addr} {a b c d : Int} (h1 : SqT K H p [.int a, .int b]) (h2 : SqT K H q [.int c, .int d]) (k : Q (.bl (decide (a = c) && decide (b = d))) H) : rEqD K (.ref p) (.ref q) H Q :=
  ⟨_, _, .tup h1 (.cons (.int a) (.cons (.int b) .nil)), .tup h2 (.cons (.int c) (.cons (.int d) .nil)), rfl, rfl, by rw [eqv_pair]; exact k⟩
/-! ### a list of lists, each another than the list itself -/
structure RefsL (H : Hp) (fo : Addr) (rs : List V) (vss : List (List V)) : Prop where
  len : rs.length = vss.length
  at_ : ∀ (i : Nat) (vs : List V), vss[i]? = some vs → ∃ x : Addr, rs[i]? = some (V.ref x) ∧ H x = some (.lst vs) ∧ x ≠ fo
theorem RefsL.nil {H : Hp} {fo : Addr} : RefsL H fo [] [] := ⟨rfl, fun i vs h => by simp at h⟩
theorem RefsL.same {H H' : Hp} {fo : Addr} {rs : List V} {vss : List (List V)} (e : Same H H') (h : RefsL H fo rs vss) : RefsL H' fo rs vss :=
  ⟨h.len, fun i vs hi => let ⟨x, h1, h2, h3⟩ := h.at_ i vs hi; ⟨x, h1, e _ _ h2, h3⟩⟩
theorem RefsL.mut {H : Hp} {fo : Addr} {o : HO} {rs : List V} {vss : List (List V)} (h : RefsL H fo rs vss) : RefsL (upd H fo o) fo rs vss :=
  ⟨h.len, fun i vs hi => let ⟨x, h1, h2, h3⟩ := h.at_ i vs hi; ⟨x, h1, by rw [upd_ne h3]; exact h2, h3⟩⟩
theorem RefsL.refs {K : PySem.W.Frag} {H : Hp} {fo : Addr} {rs : List V} {vss : List (List V)} (h : RefsL H fo rs vss) : Refs false K H rs vss :=
  ⟨h.len, fun i vs hi => let ⟨x, h1, h2, _⟩ := h.at_ i vs hi; ⟨x, h1, SqL.of h2⟩⟩
theorem snoc_get {α : Type} {l : List α} {x : α} {i : Nat} {y : α} (h : (l ++ [x])[i]? = some y) : l[i]? = some y ∨ (i = l.length ∧ y = x) := by
  rw [List.getElem?_append] at h
  by_cases hl : i < l.length
  · rw [if_pos hl] at h; exact .inl h
  · rw [if_neg hl] at h
    by_cases z : i - l.length = 0
    · rw [z] at h; simp at h; exact .inr ⟨by omega, h.symm⟩
    · rw [List.getElem?_eq_none (by simp; omega)] at h; cases h
theorem get_snoc {α : Type} {l : List α} {x : α} {i : Nat} {y : α} (h : l[i]? = some y) : (l ++ [x])[i]? = some y := by
  rw [List.getElem?_append, if_pos (List.getElem?_eq_some_iff.mp h).1]; exact h
theorem RefsL.snoc {H : Hp} {fo : Addr} {rs : List V} {vss : List (List V)} {x : Addr} {vs : List V} (h : RefsL H fo rs vss) (hx : H x = some (.lst vs)) (nx : x ≠ fo) : RefsL H fo (rs ++ [V.ref x]) (vss ++ [vs]) := by
  refine ⟨by simp [h.len], fun i us hi => ?_⟩
  rcases snoc_get hi with hi | ⟨rfl, rfl⟩
  · obtain ⟨y, h1, h2⟩ := h.at_ i us hi
    exact ⟨y, get_snoc h1, h2⟩
  · exact ⟨x, by rw [← h.len]; simp, hx, nx⟩
/-- a block in two parts: what holds between them -/
theorem c_seqJ {t u : TS} {D : Ends} {σ : L2.St} {H : Hp} (I : L2.St → Hp → Prop) (h2 : ∀ σ H, I σ H → u D σ H) (h1 : ∀ R : L2.St → Hp → Prop, (∀ σ H, I σ H → R σ H) → t { D with nx := R } σ H) : tSeq t u D σ H := h1 (u D) h2
theorem Refs.app {K : PySem.W.Frag} {H : Hp} {fo t : Addr} {o : HO} {ss xs : List V} {vss : List (List V)} {vs : List V} (h : Refs true K H ss vss) (hfo : H fo = some (.lst xs)) (nt : H t = none) : Refs true K (upd (upd H t (.tup vs)) fo o) (ss ++ [V.ref t]) (vss ++ [vs]) :=
  (h.tx (Tx.trans (Tx.new nt) (Tx.mutL (get_new hfo nt)))).snoc (show SqT K _ _ _ from Tx.tup (Tx.mutL (get_new hfo nt)) (SqT.of upd_same))
theorem enumF_get : ∀ (ws : List Wk) (n i : Nat), (enumF n ws)[i]? = (ws[i]?).map fun w => (n + i, w)
  | [], n, i => by simp [enumF]
  | w :: ws, n, 0 => by simp [enumF]
  | w :: ws, n, i + 1 => by
    rw [enumF, List.getElem?_cons_succ, enumF_get ws (n + 1) i, List.getElem?_cons_succ]
    congr 1
    funext v
    congr 1
    omega
theorem enumF_length : ∀ (ws : List Wk) (n : Nat), (enumF n ws).length = ws.length
  | [], _ => rfl
  | _ :: ws, n => by simp [enumF, enumF_length ws (n + 1)]
theorem stepW_length (cs : List Int) (m p : Nat) (iw : Nat × Wk) : (stepW cs m p iw).length ≤ 2 := by
  unfold stepW
  rw [List.length_append]
  split <;> split <;> simp
theorem flat_length (cs : List Int) (m p : Nat) : ∀ l : List (Nat × Wk), (l.flatMap (stepW cs m p)).length ≤ 2 * l.length
  | [] => by simp
  | x :: l => by
    have h1 := flat_length cs m p l
    have h2 := stepW_length cs m p x
    rw [List.flatMap_cons, List.length_append, List.length_cons]
    omega
end HX

/-! The search's dict and row in the heap. -/
namespace HX
open PySem PySem.Spec PyProof.Rows L2 Dry

def NdAt (H : Hp) (rs : List V) (ns : List Nd) : Prop := Paired (fun v n => ∃ x : Addr, v = .ref x ∧ H x = some (.tup (ndV n))) rs ns
theorem NdAt.tp {H H' : Hp} (e : Tp H H') {rs : List V} {ns : List Nd} (h : NdAt H rs ns) : NdAt H' rs ns := L2.Paired.mapP h fun _ _ ⟨x, h1, h2⟩ => ⟨x, h1, e _ _ h2⟩
structure RQ (H : Hp) (fo ro : Addr) (kvs : List (List L2.Key × V)) (rs : List V) (f : Fd) (r : List Nd) : Prop where
  fo : H fo = some (.dT kvs)
  fd : FdAt H kvs f
  ro : H ro = some (.lst rs)
  nd : NdAt H rs r
theorem RQ.ne {H : Hp} {fo ro : Addr} {kvs : List (List L2.Key × V)} {rs : List V} {f : Fd} {r : List Nd} (h : RQ H fo ro kvs rs f r) : fo ≠ ro := ne_of h.fo h.ro (fun z => nomatch z)
theorem RQ.same {H H' : Hp} {fo ro : Addr} {kvs : List (List L2.Key × V)} {rs : List V} {f : Fd} {r : List Nd} (e : Same H H') (h : RQ H fo ro kvs rs f r) : RQ H' fo ro kvs rs f r :=
  ⟨e _ _ h.fo, h.fd.tp (.of e), e _ _ h.ro, h.nd.tp (.of e)⟩
theorem RQ.putD {H : Hp} {fo ro : Addr} {kvs : List (List L2.Key × V)} {rs : List V} {f : Fd} {r : List Nd} (h : RQ H fo ro kvs rs f r) {n : Nd} {v : V} {way : Way} (hn : n ∉ keys f) (hv : WayAt H v way) :
    RQ (upd H fo (.dT (putK kvs (ndK n) v))) fo ro (putK kvs (ndK n) v) rs (f ++ [(n, way)]) r :=
  ⟨upd_same, (h.fd.put hn hv).tp (Tp.mutD h.fo), by rw [upd_ne h.ne.symm]; exact h.ro, h.nd.tp (Tp.mutD h.fo)⟩
theorem RQ.app {H : Hp} {fo ro t : Addr} {kvs : List (List L2.Key × V)} {rs : List V} {f : Fd} {r : List Nd} (h : RQ H fo ro kvs rs f r) {n : Nd} (nt : H t = none) :
    RQ (upd (upd H t (.tup (ndV n))) ro (.lst (rs ++ [V.ref t]))) fo ro kvs (rs ++ [V.ref t]) f (r ++ [n]) := by
  have h1 := h.same (Same.new (o := .tup (ndV n)) nt)
  have e := Tp.mutL (o := .lst (rs ++ [V.ref t])) h1.ro
  exact ⟨by rw [upd_ne h.ne]; exact h1.fo, h1.fd.tp e, upd_same, paired_snoc ⟨t, rfl, e _ _ upd_same⟩ (h1.nd.tp e)⟩
theorem RQ.pop {H : Hp} {fo ro : Addr} {kvs : List (List L2.Key × V)} {rs : List V} {f : Fd} {n : Nd} {r : List Nd} (h : RQ H fo ro kvs rs f (n :: r)) :
    ∃ x rs', rs = .ref x :: rs' ∧ H x = some (.tup (ndV n)) ∧ RQ (upd H ro (.lst rs')) fo ro kvs rs' f r := by
  obtain ⟨h1, h2, h3, h4⟩ := id h
  cases h4 with
  | @cons v _ l _ q t =>
    obtain ⟨x, rfl, hx⟩ := q
    have e := Tp.mutL (o := .lst l) h3
    exact ⟨x, _, rfl, hx, by rw [upd_ne h.ne]; exact h1, h2.tp e, upd_same, NdAt.tp e t⟩
theorem RQ.empty {H : Hp} {fo ro : Addr} {kvs : List (List L2.Key × V)} {rs : List V} {f : Fd} (h : RQ H fo ro kvs rs f []) : rs = [] := by
  have := h.nd
  cases this
  rfl
theorem tp_tx {H : Hp} {p : Addr} {o u : HO} (hp : H p = some u) (hu : noTup u = true) : Tx H (upd H p o) := Tx.mut hp hu
def sinksI (d : Day) (wt : List (List Int)) (i : Nat) : List Nd := ((List.range i).filter (fun p => decide (0 < at2 wt d.T p))).map (fun p => (d.T, p))
theorem sinksI_succ (d : Day) (wt : List (List Int)) (i : Nat) : sinksI d wt (i + 1) = sinksI d wt i ++ (if 0 < at2 wt d.T i then [(d.T, i)] else []) := by
  unfold sinksI
  rw [List.range_succ, List.filter_append, List.map_append]
  congr 1
  by_cases h : 0 < at2 wt d.T i
  · simp [h]
  · simp [h]
theorem sinksI_new (d : Day) (wt : List (List Int)) (i : Nat) : (d.T, i) ∉ keys ((sinksI d wt i).map fun n => (n, (none : Way))) := by
  unfold keys
  rw [List.map_map]
  intro h
  obtain ⟨n, hn, e⟩ := List.mem_map.mp h
  unfold sinksI at hn
  obtain ⟨p, hp, rfl⟩ := List.mem_map.mp hn
  have := (List.mem_filter.mp hp).1
  have hlt := List.mem_range.mp this
  have e' : (d.T, p) = (d.T, i) := e
  injection e' with _ e2
  omega
theorem sinksI_length (d : Day) (wt : List (List Int)) (i : Nat) : (sinksI d wt i).length ≤ i := by
  unfold sinksI
  rw [List.length_map]
  exact Nat.le_trans (List.length_filter_le _ _) (by simp)
theorem count_small {d : Day} (sm : d.Sm) : (d.T + 1) * d.P ≤ 1001000 := Nat.le_trans (Nat.mul_le_mul (by have := sm.T; omega : d.T + 1 ≤ 1001) sm.P) (by decide)
theorem szm {n : Nat} (h : n ≤ 2000000) : n < sizeLine := Nat.lt_of_le_of_lt h (by decide)
theorem waits_rows {d : Day} (ok : d.Ok) (S W cs : List Int) (hl : cs.length = d.ws.length) (hS : S.length = d.P) (hW : W.length = d.P) : (waits d S W cs).length = d.T + 1 ∧ ∀ row ∈ waits d S W cs, row.length = d.P := by
  have rsp := rowAt_spec ok S cs hl hS
  refine ⟨by simp [waits], fun row h => ?_⟩
  unfold waits at h
  rcases List.mem_append.mp h with h | h
  · obtain ⟨t, _, rfl⟩ := List.mem_map.mp h
    have lf := left_fold t d.ws cs (rowAt d S cs t) (fun w hw => by rw [(rsp t).1]; exact ok.b w hw) hl.symm
    unfold leftRow
    rw [lf.1, (rsp t).1]
  · simp at h
    subst h
    rw [List.length_zipWith, (rsp d.T).1, hW, Nat.min_self]
theorem bfs_nil (d : Day) (cs : List Int) (wt : List (List Int)) (f : Fd) : ∀ n, bfs d cs wt n (f, []) = f
  | 0 => rfl
  | _ + 1 => rfl
theorem wt_at {d : Day} {wt : List (List Int)} {t p : Nat} {K : PySem.W.Frag} {H : Hp} {rs : List V} (hrs : Refs false K H rs (wt.map vI)) (hl : wt.length = d.T + 1) (hr : ∀ row ∈ wt, row.length = d.P) (ht : t ≤ d.T) (hp : p < d.P) :
    ∃ y : Addr, rs[t]? = some (V.ref y) ∧ SqL K H y (vI (wt.getD t [])) ∧ (vI (wt.getD t []))[p]? = some (.int (at2 wt t p)) := by
  have hwm : wt[t]? = some (wt.getD t []) := by
    have : t < wt.length := by omega
    simp [List.getD_eq_getElem?_getD, this]
  obtain ⟨y, hy1, hy2⟩ := hrs.at_ t (vI (wt.getD t [])) (by rw [List.getElem?_map, hwm]; rfl)
  exact ⟨y, hy1, hy2, vI_get (by rw [hr _ (List.mem_of_getElem? hwm)]; exact hp)⟩
theorem filt1 {q : Nat → Bool} {j : Nat} (h : q j = true) : [j].filter q = [j] := by simp [h]
theorem filt0 {q : Nat → Bool} {j : Nat} (h : q j = false) : [j].filter q = [] := by simp [h]
end HX

/-! What the laws draw from: bags; drawn days; things of any kind. -/
namespace HX
open PySem PySem.Spec PyProof.Rows L2 Dry

/-! ### all but one object stays -/
def Ov (r : Addr) (H H' : Hp) : Prop := ∀ a o, H a = some o → a ≠ r → H' a = some o
theorem Ov.refl (r : Addr) (H : Hp) : Ov r H H := fun _ _ h _ => h
theorem Ov.trans {r : Addr} {H H1 H2 : Hp} (a : Ov r H H1) (b : Ov r H1 H2) : Ov r H H2 := fun x o h n => b x o (a x o h n) n
theorem Ov.of {r : Addr} {H H' : Hp} (e : Same H H') : Ov r H H' := fun a o h _ => e a o h
theorem Ov.upd {r : Addr} {H : Hp} {o : HO} : Ov r H (upd H r o) := fun a u h n => by rw [upd_ne n]; exact h
theorem Ov.new {r p : Addr} {H : Hp} {o : HO} (hp : H p = none) : Ov r H (L2.upd H p o) := Ov.of (Same.new hp)
theorem Ov.mut {r p : Addr} {H H1 : Hp} {o : HO} (e : Ov r H H1) (hp : H p = none) : Ov r H (L2.upd H1 p o) := fun a u h n => by
  rw [upd_ne (ne_of_none h hp)]; exact e a u h n
theorem Ov.same {r : Addr} {H0 H H' : Hp} (s : Same H0 H) (e : Ov r H H') (hr : H0 r = none) : Same H0 H' := fun a o h => e a o (s a o h) (ne_of_none h hr)
theorem Ov.tx {r : Addr} {H H' : Hp} {xs : List V} (e : Ov r H H') (hr : H r = some (.lst xs)) : Tx H H' := fun a ys h => by
  rcases h with h | ⟨o, h⟩
  · exact .inl (e _ _ h (ne_of h hr (fun z => nomatch z)))
  · exact .inr ⟨o, e _ _ h (ne_of h hr (fun z => nomatch z))⟩
theorem Ov.tp {r : Addr} {H H' : Hp} {xs : List V} (e : Ov r H H') (hr : H r = some (.lst xs)) : Tp H H' := fun a ys h => e _ _ h (ne_of h hr (fun z => nomatch z))
theorem Ov.free {r : Addr} {H H' : Hp} {a : Addr} {o : HO} (e : Ov r H H') (hr : H' r = some o) (h : H' a = none) : H a = none := by
  cases q : H a with
  | none => rfl
  | some u =>
    have ne : a ≠ r := fun z => by rw [z, hr] at h; cases h
    rw [e a u q ne] at h; cases h
theorem Ov.sqL {r : Addr} {K : PySem.W.Frag} {H H' : Hp} {a : Addr} {xs : List V} (e : Ov r H H') (n : a ≠ r) (h : SqL K H a xs) : SqL K H' a xs := by
  rcases h with h | h
  · rcases h with h | ⟨o, h⟩
    · exact .inl (.inl (e _ _ h n))
    · exact .inl (.inr ⟨o, e _ _ h n⟩)
  · exact .inr h

/-! ### bags -/
def Bag (H : Hp) (r : Addr) : Prop := ∃ b0 b1 : Int, H r = some (.lst [.int b0, .int b1]) ∧ 0 ≤ b0 ∧ 0 ≤ b1 ∧ b1 < 2147483648
theorem Bag.lst {H : Hp} {r : Addr} (h : Bag H r) : ∃ xs, H r = some (.lst xs) := let ⟨_, _, h, _⟩ := h; ⟨_, h⟩
theorem Bag.same {H H' : Hp} {r : Addr} (e : Same H H') (h : Bag H r) : Bag H' r := let ⟨b0, b1, h1, h2⟩ := h; ⟨b0, b1, e _ _ h1, h2⟩
theorem Bag.mut {H : Hp} {r p : Addr} {o : HO} (h : Bag H r) (n : r ≠ p) : Bag (upd H p o) r := let ⟨b0, b1, h1, h2⟩ := h; ⟨b0, b1, by rw [upd_ne n]; exact h1, h2⟩
theorem Bag.ne {H : Hp} {r p : Addr} (h : Bag H r) (hp : H p = none) : p ≠ r := let ⟨_, _, h1, _⟩ := h; ne_had h1 hp
theorem Bag.tx {H H' : Hp} {r : Addr} (h : Bag H r) (e : Ov r H H') : Tx H H' := let ⟨_, h⟩ := h.lst; e.tx h
theorem Bag.free {H H' : Hp} {r a : Addr} (h : Bag H' r) (e : Ov r H H') (ha : H' a = none) : H a = none := let ⟨_, h⟩ := h.lst; e.free h ha

/-! ### readings with a condition -/
theorem c_I {C : Int → Int → Prop} {g : Int → Int → V} {i j : Int} {H : Hp} {Q : VK} (hc : C i j) (q : Q (g i j) H) : rI C g (.int i) (.int j) H Q := ⟨i, j, rfl, rfl, hc, q⟩

/-! ### drawn days -/
structure DayD (many hours walks : Nat) (d : Day) : Prop where
  ok : d.Ok
  P2 : 2 ≤ d.P
  PM : d.P ≤ many
  T1 : 1 ≤ d.T
  TM : d.T ≤ hours
  W : d.ws.length ≤ walks
  r3 : ∀ w ∈ d.ws, w.r ≤ 3
  ne : ∀ w ∈ d.ws, w.b ≠ w.e
  srt : d.ws.Pairwise fun v w => TS.code 1000 (wkN v) < TS.code 1000 (wkN w)
theorem DayD.sm {m h k : Nat} {d : Day} (D : DayD m h k d) (hm : m ≤ 1000) (hh : h ≤ 1000) (hk : k ≤ 1000) : d.Sm := ⟨Nat.le_trans D.PM hm, Nat.le_trans D.TM hh, Nat.le_trans D.W hk⟩

/-! ### things that are no tuples; tuples of things -/
def NTup (K : PySem.W.Frag) (H : Hp) : V → Prop
  | .non => True
  | .bl _ => True
  | .int _ => True
  | .str _ => True
  | .ref a => ∃ xs, SqL K H a xs
  | _ => False
theorem isi_ntup {K : PySem.W.Frag} {H : Hp} {x : V} {Q : VK} (h : NTup K H x) (q : Q (.bl false) H) : rIsi K [x, .ty "tuple"] H Q := by
  cases x with
  | non => exact c_isi (.base .non) k_none_tuple q
  | bl b => exact c_isi (.base (.bl b)) k_bool_tuple q
  | int i => exact c_isi (.base (.int i)) k_int_tuple q
  | str x => exact c_isi (.base (.str x)) k_str_tuple q
  | ref a => obtain ⟨xs, h⟩ := h; exact c_isi (ty_lst h) k_list_tuple q
  | byt _ => exact h.elim
  | flt _ => exact h.elim
  | ty _ => exact h.elim
theorem isi_tup {K : PySem.W.Frag} {H : Hp} {a : Addr} {xs : List V} {Q : VK} (h : SqT K H a xs) (q : Q (.bl true) H) : rIsi K [.ref a, .ty "tuple"] H Q := c_isi (ty_tup h) k_tuple_tuple q
/-- a tuple's items as numbers -/
def natV : V → Nat
  | .int i => i.toNat
  | _ => 0
theorem isFromV_nat {x : V} {n : Nat} (h : isFromV x 0 (n : Int) = true) : x = .int (natV x : Int) ∧ natV x ≤ n := by
  cases x <;> simp [isFromV, natV] at h ⊢
  omega
theorem allFrom {xs : List V} {n : Nat} (h : xs.all (fun x => isFromV x 0 (n : Int)) = true) : xs = vN (xs.map natV) ∧ ∀ m ∈ xs.map natV, m ≤ n := by
  induction xs with
  | nil => exact ⟨rfl, fun m h => by simp at h⟩
  | cons x xs ih =>
    rw [List.all_cons, Bool.and_eq_true] at h
    obtain ⟨h1, h2⟩ := isFromV_nat h.1
    obtain ⟨h3, h4⟩ := ih h.2
    refine ⟨?_, fun m hm => ?_⟩
    · show x :: xs = V.int (natV x : Int) :: vN (xs.map natV)
      rw [← h1, ← h3]
    · rcases List.mem_cons.mp hm with rfl | hm
      · exact h2
      · exact h4 m hm
theorem vN_all {ns : List Nat} {n : Nat} (h : ∀ m ∈ ns, m ≤ n) : (vN ns).all (fun x => isFromV x 0 (n : Int)) = true := by
  induction ns with
  | nil => rfl
  | cons m ns ih =>
    show (isFromV (.int (m : Int)) 0 (n : Int) && _) = true
    rw [Bool.and_eq_true]
    refine ⟨?_, ih fun k hk => h k (by simp [hk])⟩
    have := h m (by simp)
    simp [isFromV]
    omega
theorem vN_nat (ns : List Nat) : (vN ns).map natV = ns := by
  induction ns with
  | nil => rfl
  | cons m ns ih =>
    show natV (.int (m : Int)) :: (vN ns).map natV = _
    rw [ih]
    simp [natV]
/-- what a tuple shows as a line -/
def lineAns (d : Day) (W : List Int) (xs : List V) : V := if xs.length = d.P ∧ xs.all (fun x => isFromV x 0 ((d.T + 1 : Nat) : Int)) = true then .int (shows d W (kOf (xs.map natV))) else .non
theorem lineAns_yes {d : Day} {W : List Int} {ns : List Nat} (hl : ns.length = d.P) (h : ∀ m ∈ ns, m ≤ d.T + 1) : lineAns d W (vN ns) = .int (shows d W (kOf ns)) := by
  unfold lineAns
  rw [if_pos ⟨by simpa using hl, vN_all h⟩, vN_nat]
theorem c_gsub {to ti : TE} {tset : TSet} {v : V} {σ : L2.St} {H : Hp} {Q : L2.St → Hp → Prop} (q : to σ H fun o H1 => ti σ H1 fun i H2 => tset o i v H2 fun H3 => Q σ H3) : gSub to ti tset v σ H Q := q
/-- some positive number -/
def tSome : TE := fun _ H Q => ∀ n : Int, 0 < n → Q (.int n) H
theorem pe_some {X : Cx} {e : Expr} {i j : Int} (h : PE X e (tOp (rI CPow fun i j => .int (i ^ j.toNat)) (tC (.int i)) (tC (.int j)))) (hi : 0 < i) (hc : CPow i j) : PE X e tSome :=
  ⟨fun pins s σ H Q I q => h.run pins s σ H Q I ⟨i, j, rfl, rfl, hc, q _ (Int.pow_pos hi)⟩⟩
theorem c_wput {K : PySem.W.Frag} {P : Program} {w : World} {td ty tv : TE} {D : Ends} {σ : L2.St} {H : Hp} (q : tv σ H fun v H1 => td σ H1 fun x H2 => ty σ H2 fun y H3 => ∃ a b L k, v = .bl true ∧ x = .ref a ∧ y = .ref b ∧ H3 a = some (DWO P w a L) ∧
  (∀ q ∈ L, SqT K H3 q.2 (wkV q.1)) ∧ SqT K H3 b (wkV k) ∧ L.length < 1000 ∧ D.nx σ (upd H3 a (DWO P w a (putW L k b)))) : sWPut K P w td ty tv D σ H := q
theorem code_wk (w : Wk) : TS.code 1000 (wkN w) = (((w.h * 1000 + w.b : Int) * 1000 + w.e) * 1000 + w.wi) * 1000 + w.r := by
  simp only [TS.code, wkN, List.length_cons, List.length_nil]
  omega
structure WkB (P T : Nat) (w : Wk) : Prop where
  h : w.h < T
  b : w.b < P
  e : w.e < P
  ne : w.b ≠ w.e
  r1 : 1 ≤ w.r
  r3 : w.r ≤ 3
theorem WkB.bd {P T : Nat} {w : Wk} (h : WkB P T w) (hP : P ≤ 1000) (hT : T ≤ 1000) : TS.Bd 1000 (wkN w) := by
  intro m hm
  obtain ⟨h1, h2, h3, h4, h5, h6⟩ := h
  simp only [wkN, List.mem_cons, List.not_mem_nil, or_false] at hm
  have := wi_nn w
  have : w.wi ≤ 1 := by unfold Wk.wi; split <;> omega
  omega
theorem code_inj {P T : Nat} {v w : Wk} (hv : WkB P T v) (hw : WkB P T w) (hP : P ≤ 1000) (hT : T ≤ 1000) (e : TS.code 1000 (wkN v) = TS.code 1000 (wkN w)) : v = w := by
  rw [code_wk, code_wk] at e
  have := wi_nn v
  have := wi_nn w
  have a1 : v.wi ≤ 1 := by unfold Wk.wi; split <;> omega
  have a2 : w.wi ≤ 1 := by unfold Wk.wi; split <;> omega
  obtain ⟨h1, h2, h3, h4, h5, h6⟩ := hv
  obtain ⟨g1, g2, g3, g4, g5, g6⟩ := hw
  apply wkL_inj
  unfold wkL
  have x1 : (v.h : Int) = w.h := by omega
  have x2 : (v.b : Int) = w.b := by omega
  have x3 : (v.e : Int) = w.e := by omega
  have x4 : v.wi = w.wi := by omega
  have x5 : (v.r : Int) = w.r := by omega
  rw [x1, x2, x3, x4, x5]
theorem pw_strict {P T : Nat} (hP : P ≤ 1000) (hT : T ≤ 1000) {L : List (Wk × Addr)} (hb : ∀ q ∈ L, WkB P T q.1) (nd : (L.map (·.1)).Nodup) (s : L.Pairwise fun q r => TS.code 1000 (wkN q.1) ≤ TS.code 1000 (wkN r.1)) :
    (L.map (·.1)).Pairwise fun v w => TS.code 1000 (wkN v) < TS.code 1000 (wkN w) := by
  rw [List.Nodup, List.pairwise_map] at nd
  rw [List.pairwise_map]
  refine List.Pairwise.imp_of_mem (fun {q r} hq hr h => ?_) (nd.and s)
  have : TS.code 1000 (wkN q.1) ≠ TS.code 1000 (wkN r.1) := fun e => h.1 (code_inj (hb q hq) (hb r hr) hP hT e)
  have := h.2
  omega
theorem wks_of {K : PySem.W.Frag} {H : Hp} {L : List (Wk × Addr)} (h : ∀ q ∈ L, SqT K H q.2 (wkV q.1)) : Wks K H (L.map fun q => V.ref q.2) (L.map (·.1)) := by
  refine ⟨by simp, fun i w hw => ?_⟩
  rw [List.getElem?_map] at hw
  obtain ⟨q, hq, rfl⟩ := Option.map_eq_some_iff.mp hw
  exact ⟨q.2, by rw [List.getElem?_map, hq]; rfl, h q (List.mem_of_getElem? hq)⟩
theorem mod_other {b c P : Nat} (hb : b < P) (hc : c < P - 1) : (b + 1 + c) % P < P ∧ b ≠ (b + 1 + c) % P := by
  refine ⟨Nat.mod_lt _ (by omega), ?_⟩
  by_cases h : b + 1 + c < P
  · rw [Nat.mod_eq_of_lt h]; omega
  · rw [Nat.mod_eq_sub_mod (by omega), Nat.mod_eq_of_lt (by omega)]; omega
theorem sumWs_snoc (f : Wk → Int) (w : Wk) : ∀ l : List Wk, sumWs f (l ++ [w]) = sumWs f l + f w
  | [] => by simp [sumWs]
  | v :: l => by
    show f v + sumWs f (l ++ [w]) = f v + sumWs f l + f w
    rw [sumWs_snoc f w l]
    omega
theorem vN_get {ns : List Nat} {i : Nat} (h : i < ns.length) : (vN ns)[i]? = some (.int (kOf ns i : Int)) := by
  unfold kOf
  rw [List.getElem?_map, List.getElem?_eq_getElem h]
  simp [List.getD_eq_getElem?_getD, h]
theorem dec_nat {a b : Nat} : decide ((a : Int) < (b : Int)) = decide (a < b) := decide_eq_decide.mpr (by omega)
theorem dec_nat1 {a b : Nat} : decide ((a : Int) + 1 < (b : Int)) = decide (a + 1 < b) := decide_eq_decide.mpr (by omega)
theorem shows_eq {d : Day} {W : List Int} {k : Nat → Nat} : (if raw d W k > 0 then raw d W k else 0) = shows d W k := rfl
end HX

/-! Things that stay things of their kind; sequences made of sequences. -/
namespace HX
open PySem PySem.Spec PyProof.Rows L2 Dry

/-- tuples stay as they are, lists stay lists -/
structure Kp (H H' : Hp) : Prop where
  tx : Tx H H'
  ls : ∀ a xs, Rd H a (.lst xs) → ∃ ys, Rd H' a (.lst ys)
theorem Kp.refl (H : Hp) : Kp H H := ⟨Tx.refl H, fun _ xs h => ⟨xs, h⟩⟩
theorem Kp.trans {H H1 H2 : Hp} (a : Kp H H1) (b : Kp H1 H2) : Kp H H2 := ⟨a.tx.trans b.tx, fun x xs h => let ⟨ys, h1⟩ := a.ls x xs h; b.ls x ys h1⟩
theorem Kp.of {H H' : Hp} (e : Same H H') : Kp H H' := ⟨.of e, fun _ xs h => ⟨xs, e.rd h⟩⟩
theorem Kp.mutL {H : Hp} {p : Addr} {xs ys : List V} (hp : H p = some (.lst xs)) : Kp H (upd H p (.lst ys)) := by
  refine ⟨Tx.mutL hp, fun a zs h => ?_⟩
  by_cases e : a = p
  · subst e; exact ⟨ys, .inl upd_same⟩
  · refine ⟨zs, ?_⟩
    rcases h with h | ⟨o, h⟩
    · exact .inl (by rw [upd_ne e]; exact h)
    · exact .inr ⟨o, by rw [upd_ne e]; exact h⟩
theorem Kp.ov {r : Addr} {H H' : Hp} (e : Ov r H H') (hb : Bag H r) (hb' : Bag H' r) : Kp H H' := by
  refine ⟨hb.tx e, fun a zs h => ?_⟩
  by_cases q : a = r
  · subst q
    obtain ⟨xs, hx⟩ := hb'.lst
    exact ⟨xs, .inl hx⟩
  · refine ⟨zs, ?_⟩
    rcases h with h | ⟨o, h⟩
    · exact .inl (e _ _ h q)
    · exact .inr ⟨o, e _ _ h q⟩
theorem Kp.sqL {K : PySem.W.Frag} {H H' : Hp} {a : Addr} {xs : List V} (e : Kp H H') (h : SqL K H a xs) : ∃ ys, SqL K H' a ys := by
  rcases h with h | h
  · obtain ⟨ys, h⟩ := e.ls _ _ h
    exact ⟨ys, .inl h⟩
  · exact ⟨xs, .inr h⟩
theorem Kn.kp {K : PySem.W.Frag} {H H' : Hp} {x : V} (e : Kp H H') (h : Kn K H x) : Kn K H' x := by
  cases x with
  | ref a =>
    rcases h with ⟨xs, h⟩ | ⟨xs, h⟩
    · exact .inl ⟨xs, e.tx.tup h⟩
    · exact .inr (e.sqL h)
  | _ => exact h
theorem NTup.kp {K : PySem.W.Frag} {H H' : Hp} {x : V} (e : Kp H H') (h : NTup K H x) : NTup K H' x := by
  cases x with
  | ref a => obtain ⟨xs, h⟩ := h; exact e.sqL h
  | _ => exact h
/-- no tuple, or a tuple of things -/
def Tng (K : PySem.W.Frag) (H : Hp) (x : V) : Prop := NTup K H x ∨ ∃ t ys, x = .ref t ∧ SqT K H t ys ∧ (∀ y ∈ ys, Kn K H y) ∧ ys.length ≤ 1000
theorem Tng.kp {K : PySem.W.Frag} {H H' : Hp} {x : V} (e : Kp H H') (h : Tng K H x) : Tng K H' x := by
  rcases h with h | ⟨t, ys, rfl, h1, h2, h3⟩
  · exact .inl (h.kp e)
  · exact .inr ⟨t, ys, rfl, e.tx.tup h1, fun y hy => (h2 y hy).kp e, h3⟩
theorem kn_nat {K : PySem.W.Frag} {H : Hp} {ns : List Nat} : ∀ y ∈ vN ns, Kn K H y := fun y hy => by
  obtain ⟨n, _, rfl⟩ := List.mem_map.mp hy
  trivial
theorem kn_int {K : PySem.W.Frag} {H : Hp} {ns : List Int} : ∀ y ∈ vI ns, Kn K H y := fun y hy => by
  obtain ⟨n, _, rfl⟩ := List.mem_map.mp hy
  trivial
theorem cut_mem {xs : List V} {lo hi : Option Int} {y : V} (h : y ∈ cutV xs lo hi) : y ∈ xs := by
  unfold cutV at h
  exact List.mem_of_mem_drop (List.mem_of_mem_take h)
theorem cut_whole {xs : List V} {lo hi : Option Int} (h : HT.sIx xs.length 0 lo = 0 ∧ HT.sIx xs.length xs.length hi = xs.length) : cutV xs lo hi = xs := by
  unfold cutV
  rw [h.1, h.2]
  simp
section
variable {K : PySem.W.Frag} {H : Hp} {Q : VK} {a b : Addr} {xs ys : List V}
theorem c_catQ (ha : SqT K H a xs) (hb : SqT K H b ys) (hz : xs.length + ys.length ≤ sizeLine) (q : ∀ p H', Same H H' → SqT K H' p (xs ++ ys) → Q (.ref p) H') : rCatA K (.ref a) (.ref b) H Q :=
  ⟨a, b, xs, ys, rfl, rfl, ha, hb, hz, fun h => q b H (Same.refl _) (by rw [h]; exact hb), fun _ h => q a H (Same.refl _) (by rw [h, List.append_nil]; exact ha), fun _ _ p np => q p _ (Same.new np) (SqT.of upd_same)⟩
theorem c_slQ {lo hi : Option Int} (ha : SqT K H a xs) (q : ∀ p H', Same H H' → SqT K H' p (cutV xs lo hi) → Q (.ref p) H') : rSlA K (.ref a) lo hi H Q :=
  ⟨a, xs, rfl, ha, fun h => q a H (Same.refl _) (by rw [cut_whole h]; exact ha), fun _ p np => q p _ (Same.new np) (SqT.of upd_same)⟩
theorem c_repQ {n : Nat} {v : V} (ha : SqT K H a [v]) (h2 : 2 ≤ n) (hn : n ≤ 1000) (q : ∀ p H', Same H H' → H p = none → SqT K H' p (List.replicate n v) → Q (.ref p) H') : rRepT K (.ref a) (.int (n : Int)) H Q := by
  refine ⟨a, (n : Int), [v], rfl, rfl, ha, by simp, by omega, by omega, by simp, fun p np => q p _ (Same.new np) np ?_⟩
  have e : (List.replicate ((n : Int)).toNat [v]).flatten = List.replicate n v := by
    rw [Int.toNat_natCast]
    induction n with
    | zero => rfl
    | succ n ih =>
      rw [List.replicate_succ, List.flatten_cons, List.replicate_succ]
      congr 1
      clear ih q h2 hn
      induction n with
      | zero => rfl
      | succ n ih => rw [List.replicate_succ, List.flatten_cons, List.replicate_succ, ih]; rfl
  rw [e]
  exact SqT.of upd_same
theorem dp_ints : ∀ ns : List Int, DpAll K H (vI ns) (ns.map PyData.int)
  | [] => .nil
  | n :: ns => .cons (.int n) (dp_ints ns)
theorem c_eqNil {L : List Int} (ha : SqL K H a (vI L)) (hb : SqL K H b []) (q : Q (.bl L.isEmpty) H) : rEqD K (.ref a) (.ref b) H Q := by
  refine ⟨_, _, .lst ha (dp_ints L), .lst hb .nil, PySem.W.shaped_ints L, rfl, ?_⟩
  have e : PyData.eqv (.list (L.map PyData.int)) (.list []) = L.isEmpty := by
    cases L <;> simp [PyData.eqv, PyData.eqvAll]
  rw [e]
  exact q
theorem c_neNil {L : List Int} (ha : SqL K H a (vI L)) (hb : SqL K H b []) (q : Q (.bl (!L.isEmpty)) H) : rNeD K (.ref a) (.ref b) H Q := by
  refine ⟨_, _, .lst ha (dp_ints L), .lst hb .nil, PySem.W.shaped_ints L, rfl, ?_⟩
  have e : PyData.eqv (.list (L.map PyData.int)) (.list []) = L.isEmpty := by
    cases L <;> simp [PyData.eqv, PyData.eqvAll]
  rw [e]
  exact q
theorem isi_bool_non (q : Q (.bl false) H) : rIsi K [.non, .ty "bool"] H Q := c_isi (.base .non) k_none_bool q
theorem isi_bool_int {i : Int} (q : Q (.bl false) H) : rIsi K [.int i, .ty "bool"] H Q := c_isi (.base (.int i)) k_int_bool q
theorem isi_bool_bl {i : Bool} (q : Q (.bl true) H) : rIsi K [.bl i, .ty "bool"] H Q := c_isi (.base (.bl i)) k_bool_bool q
theorem c_neNon (q : Q (.bl false) H) : rNe .non .non H Q := ⟨rfl, by simpa using q⟩
end
/-! ### what stands while a cell is judged -/
structure Env3 (K : PySem.W.Frag) (Hs H : Hp) (r ad aw : Addr) (ds : List V) (d : Day) (wa : Addr) (W : List Int) : Prop where
  sm : Same Hs H
  nr : Hs r = none
  bag : Bag H r
  day : DayAt K H ad aw ds d
  wan : SqT K H wa (vI W)
theorem Env3.same {K : PySem.W.Frag} {Hs H H' : Hp} {r ad aw : Addr} {ds : List V} {d : Day} {wa : Addr} {W : List Int} (e : Same H H') (h : Env3 K Hs H r ad aw ds d wa W) : Env3 K Hs H' r ad aw ds d wa W :=
  ⟨h.sm.trans e, h.nr, h.bag.same e, h.day.tx (.of e), e.tup h.wan⟩
theorem Env3.ov {K : PySem.W.Frag} {Hs H H' : Hp} {r ad aw : Addr} {ds : List V} {d : Day} {wa : Addr} {W : List Int} (o : Ov r H H') (hb : Bag H' r) (h : Env3 K Hs H r ad aw ds d wa W) : Env3 K Hs H' r ad aw ds d wa W :=
  ⟨o.same h.sm h.nr, h.nr, hb, h.day.tx (h.bag.tx o), (h.bag.tx o).tup h.wan⟩
theorem Env3.mut {K : PySem.W.Frag} {Hs H : Hp} {r ad aw : Addr} {ds : List V} {d : Day} {wa : Addr} {W : List Int} {th : Addr} {xs ys : List V} (ht : H th = some (.lst xs)) (n : r ≠ th) (h0 : Hs th = none) (h : Env3 K Hs H r ad aw ds d wa W) : Env3 K Hs (upd H th (.lst ys)) r ad aw ds d wa W :=
  ⟨h.sm.mut h0, h.nr, h.bag.mut n, h.day.tx (.mutL ht), (Tx.mutL ht).tup h.wan⟩
theorem line_length (d : Day) (W : List Int) : (line d W).length = d.P := lineFl_length _ _ _ _
theorem line_bound {d : Day} (ok : d.Ok) (W : List Int) : ∀ m ∈ line d W, m ≤ d.T + 1 := by
  intro m hm
  obtain ⟨i, hi, rfl⟩ := List.getElem_of_mem hm
  have h := lineFl_le ok (zeros d) W (settled d (zeros d) W) i (by have := line_length d W; omega)
  have e : kOf (lineFl d (zeros d) W (settled d (zeros d) W)) i = (line d W)[i] := by
    show (line d W).getD i 0 = _
    simp [List.getD_eq_getElem?_getD, hi]
  omega
theorem Bag.tup {H H' : Hp} {r a : Addr} {xs : List V} (h : Bag H r) (o : Ov r H H') (ha : H a = some (.tup xs)) : H' a = some (.tup xs) := let ⟨_, hl⟩ := h.lst; o.tp hl _ _ ha
theorem filt_all {q : V → Bool} : ∀ xs : List V, decide ((xs.filter fun x => !q x).length = 0) = xs.all q
  | [] => rfl
  | x :: xs => by
    rw [List.all_cons, ← filt_all xs, List.filter_cons]
    cases q x <;> simp
theorem ones_empty (n : Nat) : (List.replicate n (1 : Int)).isEmpty = decide (n = 0) := by cases n <;> rfl
theorem vI_ones (n : Nat) : vI (List.replicate n 1) = List.replicate n (V.int 1) := by simp [vI]
theorem filtV1 {q : V → Bool} {z : V} (h : q z = false) : ([z].filter fun x => !q x).length = 1 := by simp [h]
theorem filtV0 {q : V → Bool} {z : V} (h : q z = true) : ([z].filter fun x => !q x).length = 0 := by simp [h]
theorem kOf_le {ns : List Nat} {n : Nat} (h : ∀ m ∈ ns, m ≤ n) (p : Nat) : kOf ns p ≤ n := by
  unfold kOf
  by_cases hp : p < ns.length
  · rw [show ns.getD p 0 = ns[p] by simp [List.getD_eq_getElem?_getD, hp]]
    exact h _ (List.getElem_mem hp)
  · rw [show ns.getD p 0 = 0 by simp [List.getD_eq_getElem?_getD, List.getElem?_eq_none (Nat.le_of_not_lt hp)]]
    omega
end HX

/-! From the head's facts to the bundles of defs. -/
namespace HX
open PySem PySem.Spec PyProof.Rows L2 Dry
abbrev fnD (x : Str) (st : Stmt) : He.FnD := ⟨(x, none), x, x, defArgs st, defBody st, defScope st⟩
abbrev fnM (c m qual : Str) (st : Stmt) : He.FnD := ⟨(c, some m), m, qual, defArgs st, defBody st, defScope st⟩
section
variable {K : PySem.W.Frag} {h : Heap} {mg : Str → Option Value} {fa : List He.Fa} {fn : List He.FnD}
theorem has_of (X : K.In h) (G : h.Ns mainGlobals mg) (c : He.SaysE fa fn K) {x : Str} {st : Stmt} (i j l : Nat) (hi : fn[i]? = some (fnD x st)) (hj : fa[j]? = some (.glo x)) (hl : fa[l]? = some (.keep x)) : Has K mg x st := by
  obtain ⟨oc, od, osl, kV, doc, pm, an, cdv, ct, h1, h2⟩ := c.def_ i (d := fnD x st) hi
  exact ⟨_, _, fun_mk (st := st) h1 h2 (c.fact l hl), He.glo_ok X G (c.fact j hj)⟩
theorem hasM_of (c : He.SaysE fa fn K) {x m qual : Str} {st : Stmt} (i j : Nat) (hi : fn[i]? = some (fnM x m qual st)) (hj : fa[j]? = some (.meth x m)) : HasM K (He.ga K x) m qual st := by
  obtain ⟨oc, od, osl, kV, doc, pm, an, cdv, ct, h1, h2⟩ := c.def_ i (d := fnM x m qual st) hi
  have hm := He.meth_ok (c.fact j hj)
  obtain ⟨m1, m2, m3⟩ := id hm
  exact ⟨_, _, fun_mk (st := st) h1 h2 m3, hm⟩
theorem hasI_of (X : K.In h) (G : h.Ns mainGlobals mg) (c : He.SaysE fa fn K) {x qual : Str} {st : Stmt} (i j l g : Nat) (hi : fn[i]? = some (fnM x "__init__" qual st)) (hj : fa[j]? = some (.meth x "__init__")) (hl : fa[l]? = some (.mkr x)) (hg : fa[g]? = some (.glo x)) : HasI K mg x (He.ga K x) qual st := by
  obtain ⟨oc, od, osl, kV, doc, pm, an, cdv, ct, h1, h2⟩ := c.def_ i (d := fnM x "__init__" qual st) hi
  obtain ⟨m1, m2, m3⟩ := He.meth_ok (c.fact j hj)
  exact ⟨_, _, fun_mk (st := st) h1 h2 m3, He.mkr_ok (c.fact l hl), He.glo_ok X G (c.fact g hg)⟩
theorem free_of (X : K.In h) (G : h.Ns mainGlobals mg) (c : He.SaysE fa fn K) {x : Str} (j : Nat) (hj : fa[j]? = some (.free x)) : mg x = none := He.free_ok X G (c.fact j hj)
theorem noat_of (c : He.SaysE fa fn K) {x f : Str} (j : Nat) (hj : fa[j]? = some (.noat x f)) : NoAttr K (He.ga K x) f := He.noat_ok (c.fact j hj)
theorem law_end {P : Program} {w : World} {base : Heap} {k : Nat} {sp : Sp} {f : Addr} (D : Df P w K mg base "law" k ["script"] sp) (hf : mg "law" = some (.ref f)) : ∃ fd : FuncData, FnOk P w K mg base CX0 k f fd ["script"] sp ∧ Binds K fd ["script"] [] := by
  obtain ⟨f', fd, F, hm, _, hb⟩ := D.ex
  rw [hf] at hm
  cases hm
  exact ⟨fd, F, hb⟩
end
end HX

/-! sum of a tuple; more readings of built-ins. -/
namespace HX
open PySem PySem.Spec PyProof.Rows L2 Dry
section
variable {prog : Program} {w : World} {A : Around} {E : Value → Shared → Prop} {s : Shared} {l : Addr} {its : List Value} {ns : List Int} {Q : Value → Shared → Prop}
theorem sum_rawT (hh : A.handled = none) (hl : s.heap.IsTuple l its.toArray) (hi : IntsAre its ns)
    (h : ∀ h' tk t', (∀ b o, s.heap.get? b = some o → h'.get? b = some o) → Q (.int ns.sum t') { s with heap := h', toks := tk }) : wpAny (model prog w) A (call (.builtin "sum") [.ref l]) Q E s := by
  obtain ⟨xs, e⟩ := hi.allInts.items
  have hn : numsOf (intItems xs).toList = ns := by rw [← e]; exact hi.numsOf
  rw [nums_intItems] at hn
  rw [e] at hl
  have hlt : l < s.heap.objs.size := by obtain ⟨_, e, _⟩ := hl; exact Heap.lt_size e
  refine call_sum_walkG (wpAny_pyIter_tuple hl ?_)
  refine ⟨_, _, _, _, _, _, numAt xs, rfl, Walks.tuple (A := A.in1) hh _ l (Nat.ne_of_lt hlt) (intItems xs), ⟨⟨_, Heap.get?_push_size _ rfl, rfl, rfl⟩, ?_⟩, fun b hb => ?_, (fun _ _ => intItems_at), fun h' tk t' hk => ?_⟩
  · obtain ⟨o, h1, h2, n, h3⟩ := hl
    exact ⟨o, Heap.get?_push_of_some _ h1, h2, n, h3⟩
  · show b < (s.heap.push _).objs.size
    rw [Heap.size_push]
    have e' : b = s.heap.objs.size ∨ b = l := by simpa using hb
    rcases e' with z | z
    · rw [z]; exact Nat.lt_succ_self _
    · rw [z]; exact Nat.lt_succ_of_lt hlt
  · have z := h h' tk t' (fun b o q => hk b o (fun hm => by
      have e' : b = s.heap.objs.size := by simpa using hm
      rw [e'] at q
      exact absurd (Heap.lt_size q) (Nat.lt_irrefl _)) (Heap.get?_push_of_some _ q))
    have ez : (intItems xs).size = xs.size := by simp [intItems]
    rw [ez, preSum_eq, List.take_of_length_le (by simp), hn]
    exact z
end
def rSumT (K : PySem.W.Frag) : List V → Hp → VK → Prop := fun vs H Q => ∃ (a : Addr) (ns : List Int), vs = [V.ref a] ∧ SqT K H a (ns.map V.int) ∧ Q (.int ns.sum) H
theorem cr_sumT {X : Cx} (hc : X.calm = true) : CallR X (.builtin "sum") (rSumT X.K) := by
  intro pins s σ H vs us Q I r h
  obtain ⟨a, ns, rfl, hs, q⟩ := h
  obtain ⟨its, rv, hl, _⟩ := I.tuple hs
  rw [Vals.ref1 r]
  exact sum_rawT (I.ok.hd hc) hl rv.ints fun h' tk t' hk => ⟨.int _, H, I.kept hk, ⟨_, rfl⟩, q⟩
section
variable {K : PySem.W.Frag} {H : Hp} {Q : VK} {p : Addr}
theorem c_sumT {ns : List Int} (h : SqT K H p (vI ns)) (q : Q (.int ns.sum) H) : rSumT K [.ref p] H Q := ⟨p, ns, rfl, h, q⟩
theorem c_maxL {ns : List Int} (h : SqL K H p (vI ns)) (hn : 0 < ns.length) (q : ∀ m, m ∈ ns → (∀ y, y ∈ ns → y ≤ m) → Q (.int m) H) : rMax K [.ref p] H Q := ⟨p, ns, rfl, h, hn, q⟩
theorem c_minL {ns : List Int} (h : SqL K H p (vI ns)) (hn : 0 < ns.length) (q : ∀ m, m ∈ ns → (∀ y, y ∈ ns → m ≤ y) → Q (.int m) H) : rMin K [.ref p] H Q := ⟨p, ns, rfl, h, hn, q⟩
end
end HX

/-! Plans as things: what the judges of plans tell. -/
namespace HX
open PySem PySem.Spec PyProof.Rows L2 Dry

def Fl3 : V → Prop
  | .non => True
  | .bl _ => True
  | .int _ => True
  | _ => False
theorem Fl3.kn {K : PySem.W.Frag} {H : Hp} {x : V} (h : Fl3 x) : Kn K H x := by cases x <;> first | trivial | exact h.elim
def intV : V → Int
  | .int i => i
  | _ => 0
theorem isFromV_int {x : V} {lo hi : Int} (h : isFromV x lo hi = true) : x = .int (intV x) ∧ lo ≤ intV x ∧ intV x ≤ hi := by
  cases x <;> simp [isFromV, intV] at h ⊢
  exact h
theorem isFromV_of {n lo hi : Int} (h1 : lo ≤ n) (h2 : n ≤ hi) : isFromV (.int n) lo hi = true := by simp [isFromV]; exact ⟨h1, h2⟩
theorem allInt {lo hi : Int} : ∀ {xs : List V}, xs.all (fun x => isFromV x lo hi) = true → xs = vI (xs.map intV)
  | [], _ => rfl
  | x :: xs, h => by
    rw [List.all_cons, Bool.and_eq_true] at h
    show x :: xs = V.int (intV x) :: vI (xs.map intV)
    rw [← (isFromV_int h.1).1, ← allInt h.2]
theorem vI_intV (ns : List Int) : (vI ns).map intV = ns := by
  induction ns with
  | nil => rfl
  | cons n ns ih => show n :: (vI ns).map intV = _; rw [ih]
/-- a thing as a tuple of plain things, or none -/
def TV (K : PySem.W.Frag) (H : Hp) (x : V) (o : Option (List V)) : Prop := (o = none ∧ NTup K H x) ∨ ∃ t ys, o = some ys ∧ x = .ref t ∧ SqT K H t ys ∧ (∀ y ∈ ys, Fl3 y) ∧ ys.length ≤ 1000
theorem TV.kp {K : PySem.W.Frag} {H H' : Hp} {x : V} {o : Option (List V)} (e : Kp H H') (h : TV K H x o) : TV K H' x o := by
  rcases h with ⟨h1, h2⟩ | ⟨t, ys, h1, h2, h3, h4, h5⟩
  · exact .inl ⟨h1, h2.kp e⟩
  · exact .inr ⟨t, ys, h1, h2, e.tx.tup h3, h4, h5⟩
def carAll : List Wk → List V → Bool
  | w :: ws, c :: cs => isFromV c w.wi (w.r : Int) && carAll ws cs
  | _, _ => true
def sOk (d : Day) (ss : List V) : Bool := decide (ss.length = d.P) && ss.all (fun x => isFromV x 0 99)
def cOk (d : Day) (cs : List V) : Bool := decide (cs.length = d.ws.length) && carAll d.ws cs
def planV (d : Day) (W : List Int) : Option (List V) → Option (List V) → Bool
  | some ss, some cs => sOk d ss && cOk d cs && planB d (ss.map intV) W (cs.map intV)
  | _, _ => false
theorem carAll_int : ∀ {ws : List Wk} {cs : List V}, cs.length = ws.length → carAll ws cs = true → cs = vI (cs.map intV)
  | [], [], _, _ => rfl
  | [], _ :: _, h, _ => by simp at h
  | _ :: _, [], h, _ => by simp at h
  | w :: ws, c :: cs, hl, h => by
    unfold carAll at h
    rw [Bool.and_eq_true] at h
    show c :: cs = V.int (intV c) :: vI (cs.map intV)
    rw [← (isFromV_int h.1).1, ← carAll_int (by simpa using hl) h.2]
theorem carAll_take_succ : ∀ {ws : List Wk} {cs : List V} {j : Nat} {w : Wk} {c : V}, ws[j]? = some w → cs[j]? = some c → carAll (ws.take (j + 1)) (cs.take (j + 1)) = (carAll (ws.take j) (cs.take j) && isFromV c w.wi (w.r : Int))
  | [], _, _, _, _, h, _ => by simp at h
  | _ :: _, [], _, _, _, _, h => by simp at h
  | w :: ws, c :: cs, 0, w', c', h1, h2 => by
    simp at h1 h2
    subst h1 h2
    simp [carAll]
  | w :: ws, c :: cs, j + 1, w', c', h1, h2 => by
    have ih := carAll_take_succ (ws := ws) (cs := cs) (j := j) (w := w') (c := c') (by simpa using h1) (by simpa using h2)
    show (isFromV c w.wi (w.r : Int) && carAll (ws.take (j + 1)) (cs.take (j + 1))) = ((isFromV c w.wi (w.r : Int) && carAll (ws.take j) (cs.take j)) && _)
    rw [ih, Bool.and_assoc]
theorem carAll_bad {ws : List Wk} {cs : List V} {j : Nat} {w : Wk} {c : V} (h1 : ws[j]? = some w) (h2 : cs[j]? = some c) (h : isFromV c w.wi (w.r : Int) = false) : carAll ws cs = false := by
  induction ws generalizing cs j with
  | nil => simp at h1
  | cons v ws ih =>
    cases cs with
    | nil => simp at h2
    | cons x cs =>
      unfold carAll
      cases j with
      | zero => simp at h1 h2; subst h1 h2; rw [h]; rfl
      | succ j => rw [ih (by simpa using h1) (by simpa using h2)]; simp
theorem carAll_get {ws : List Wk} {cs : List V} {j : Nat} {w : Wk} {c : V} (h1 : ws[j]? = some w) (h2 : cs[j]? = some c) (h : carAll ws cs = true) : isFromV c w.wi (w.r : Int) = true := by
  cases q : isFromV c w.wi (w.r : Int) with
  | true => rfl
  | false => rw [carAll_bad h1 h2 q] at h; cases h
theorem carAll_of : ∀ {ws : List Wk} {cs : List Int}, cs.length = ws.length → (∀ i w, ws[i]? = some w → w.wi ≤ cs.getD i 0 ∧ cs.getD i 0 ≤ (w.r : Int)) → carAll ws (vI cs) = true
  | [], [], _, _ => rfl
  | [], _ :: _, h, _ => by simp at h
  | _ :: _, [], h, _ => by simp at h
  | w :: ws, c :: cs, hl, h => by
    show (isFromV (.int c) w.wi (w.r : Int) && carAll ws (vI cs)) = true
    have h0 := h 0 w rfl
    simp at h0
    rw [isFromV_of h0.1 h0.2, carAll_of (by simpa using hl) (fun i v hv => by
      have := h (i + 1) v (by simpa using hv)
      simpa using this)]
    rfl
/-- a told plan is one -/
theorem planV_told {d : Day} (ok : d.Ok) {S W cs : List Int} (hS : S.length = d.P) (hW : W.length = d.P) (nn : ∀ p, 0 ≤ S.getD p 0) (hs : ∀ p, S.getD p 0 ≤ 99) (F : Feas d S W cs) : planV d W (some (vI S)) (some (vI cs)) = true := by
  show (sOk d (vI S) && cOk d (vI cs) && planB d ((vI S).map intV) W ((vI cs).map intV)) = true
  unfold sOk cOk
  rw [vI_intV, vI_intV, planB_feas ok hS hW F, carAll_of F.len (fun i w hw => ⟨F.lo i w hw, F.hi i w hw⟩)]
  have h1 : (vI S).all (fun x => isFromV x 0 99) = true := by
    rw [List.all_eq_true]
    intro x hx
    obtain ⟨n, hn, rfl⟩ := List.mem_map.mp hx
    obtain ⟨i, hi, rfl⟩ := List.getElem_of_mem hn
    have e : S.getD i 0 = S[i] := by simp [List.getD_eq_getElem?_getD, hi]
    exact isFromV_of (by rw [← e]; exact nn i) (by rw [← e]; exact hs i)
  rw [h1]
  simp [hS, F.len]
section
variable {K : PySem.W.Frag} {H : Hp} {Q : VK} {a b : Addr}
theorem dp_flat : ∀ L : List V, (∀ x ∈ L, Fl3 x) → ∃ ds, DpAll K H L ds ∧ ds.length = L.length ∧ PyData.canLayAll0 ds = true ∧ PyData.depthAll ds = 0
  | [], _ => ⟨[], .nil, rfl, by simp [PyData.canLayAll0], by simp [PyData.depthAll]⟩
  | x :: L, h => by
    obtain ⟨ds, h1, h2, h3, h4⟩ := dp_flat L (fun y hy => h y (by simp [hy]))
    have hx := h x (by simp)
    cases x with
    | non => exact ⟨_, .cons .non h1, by simp [h2], by simp [PyData.canLayAll0, PyData.canLay0, h3], by simp [PyData.depthAll, PyData.depth, h4]⟩
    | bl b => exact ⟨_, .cons (.bl b) h1, by simp [h2], by simp [PyData.canLayAll0, PyData.canLay0, h3], by simp [PyData.depthAll, PyData.depth, h4]⟩
    | int i => exact ⟨_, .cons (.int i) h1, by simp [h2], by simp [PyData.canLayAll0, PyData.canLay0, h3], by simp [PyData.depthAll, PyData.depth, h4]⟩
    | str _ => exact hx.elim
    | byt _ => exact hx.elim
    | flt _ => exact hx.elim
    | ref _ => exact hx.elim
    | ty _ => exact hx.elim
theorem c_neNilF {L : List V} (hF : ∀ x ∈ L, Fl3 x) (ha : SqL K H a L) (hb : SqL K H b []) (q : Q (.bl (!L.isEmpty)) H) : rNeD K (.ref a) (.ref b) H Q := by
  obtain ⟨ds, h1, h2, h3, h4⟩ := dp_flat (K := K) (H := H) L hF
  refine ⟨.list ds, .list [], .lst ha h1, .lst hb .nil, ?_, rfl, ?_⟩
  · show (PyData.canLay0 (.list ds) && decide (PyData.depth (.list ds) ≤ 64)) = true
    simp [PyData.canLay0, PyData.depth, h3, h4]
  · have e : PyData.eqv (.list ds) (.list []) = L.isEmpty := by
      cases ds with
      | nil =>
        have : L = [] := List.eq_nil_of_length_eq_zero h2.symm
        subst this
        simp [PyData.eqv, PyData.eqvAll]
      | cons d ds =>
        cases L with
        | nil => simp at h2
        | cons x L => simp [PyData.eqv, PyData.eqvAll]
    rw [e]
    exact q
end
theorem negs_eq (row : List Int) : decide ((row.filter fun x => decide (x < 0)).length = 0) = nnRow row := by
  unfold nnRow
  induction row with
  | nil => rfl
  | cons x row ih =>
    rw [List.all_cons, ← ih, List.filter_cons]
    by_cases h : x < 0
    · have h2 : ¬ 0 ≤ x := by omega
      simp [h, h2]
    · have h2 : 0 ≤ x := by omega
      simp [h, h2]
theorem bad_eq {lo hi : Int} : ∀ xs : List V, (xs.filter fun x => !isFromV x lo hi).isEmpty = xs.all (fun x => isFromV x lo hi)
  | [] => rfl
  | x :: xs => by
    rw [List.all_cons, ← bad_eq xs, List.filter_cons]
    cases isFromV x lo hi <;> simp
end HX

/-! All lines. -/
namespace HX
open PySem PySem.Spec PyProof.Rows L2 Dry
def linesN (T : Nat) : Nat → List (List Nat)
  | 0 => [[]]
  | n + 1 => (List.range (T + 2)).flatMap fun c => (linesN T n).map fun l => l ++ [c]
theorem mem_linesN {T : Nat} : ∀ {n : Nat} {l : List Nat}, l ∈ linesN T n ↔ l.length = n ∧ ∀ m ∈ l, m ≤ T + 1
  | 0, l => by
    unfold linesN
    constructor
    · intro h
      obtain rfl := List.mem_singleton.mp h
      exact ⟨rfl, fun m hm => by simp at hm⟩
    · rintro ⟨h, _⟩
      obtain rfl := List.eq_nil_of_length_eq_zero h
      simp
  | n + 1, l => by
    unfold linesN
    rw [List.mem_flatMap]
    constructor
    · rintro ⟨c, hc, h⟩
      obtain ⟨l', h', rfl⟩ := List.mem_map.mp h
      obtain ⟨h1, h2⟩ := mem_linesN.mp h'
      have := List.mem_range.mp hc
      refine ⟨by simp [h1], fun m hm => ?_⟩
      rcases List.mem_append.mp hm with hm | hm
      · exact h2 m hm
      · obtain rfl := List.mem_singleton.mp hm
        omega
    · rintro ⟨h1, h2⟩
      rcases List.eq_nil_or_concat l with rfl | ⟨l', c, rfl⟩
      · simp at h1
      · refine ⟨c, List.mem_range.mpr (by have := h2 c (by simp); omega), List.mem_map.mpr ⟨l', mem_linesN.mpr ⟨by simpa using h1, fun m hm => h2 m (by simp [hm])⟩, by simp⟩⟩
theorem flat_len {α β : Type} (f : α → List β) (n : Nat) : ∀ l : List α, (∀ x ∈ l, (f x).length = n) → (l.flatMap f).length = l.length * n
  | [], _ => by simp
  | x :: l, h => by
    rw [List.flatMap_cons, List.length_append, flat_len f n l (fun y hy => h y (by simp [hy])), h x (by simp), List.length_cons, Nat.add_mul]
    omega
theorem linesN_length (T : Nat) : ∀ n, (linesN T n).length = (T + 2) ^ n
  | 0 => rfl
  | n + 1 => by
    unfold linesN
    rw [flat_len _ ((T + 2) ^ n) _ (fun c _ => by rw [List.length_map, linesN_length T n]), List.length_range, Nat.pow_succ, Nat.mul_comm]
theorem Refs.append {b : Bool} {K : PySem.W.Frag} {H : Hp} {rs ss : List V} {us vs : List (List V)} (h1 : Refs b K H rs us) (h2 : Refs b K H ss vs) : Refs b K H (rs ++ ss) (us ++ vs) := by
  refine ⟨by simp [h1.len, h2.len], fun i x hx => ?_⟩
  rw [List.getElem?_append] at hx
  by_cases hl : i < us.length
  · rw [if_pos hl] at hx
    obtain ⟨y, a1, a2⟩ := h1.at_ i x hx
    exact ⟨y, by rw [List.getElem?_append, if_pos (by rw [h1.len]; exact hl)]; exact a1, a2⟩
  · rw [if_neg hl] at hx
    obtain ⟨y, a1, a2⟩ := h2.at_ _ x hx
    exact ⟨y, by rw [List.getElem?_append, if_neg (by rw [h1.len]; exact hl), h1.len]; exact a1, a2⟩
theorem pow_small {T P n : Nat} (hT : T ≤ 8) (hP : P ≤ 5) (hn : n ≤ P) : (T + 2) ^ n ≤ 100000 :=
  Nat.le_trans (Nat.pow_le_pow_left (by omega : T + 2 ≤ 10) n) (Nat.le_trans (Nat.pow_le_pow_right (by decide) (by omega : n ≤ 5)) (by decide))
end HX

/-! Verdicts as things. -/
namespace HX
open PySem PySem.Spec PyProof.Rows L2 Dry
/-- a block in a block: none of its names is of the outer one -/
theorem blkOk_nof {N : List Str} {sc scope : Scope} {own : List (Str × Nat)} (h : blkC N { kind := .function, names := [], isGenerator := false, isCoroutine := false } scope own = true) : BlkOk N sc scope own := by
  have b := blkOk_by h
  exact ⟨b.kind, b.uniq, b.ix, fun y hy e => (b.free y hy e).elim (fun h => nomatch h) (fun h => nomatch h), b.own⟩
def isStrV : V → Bool
  | .str _ => true
  | _ => false
theorem isi_str {K : PySem.W.Frag} {H : Hp} {x : V} {Q : VK} (h : Kn K H x) (q : Q (.bl (isStrV x)) H) : rIsi K [x, .ty "str"] H Q := by
  cases x with
  | non => exact c_isi (.base .non) k_none_str q
  | bl b => exact c_isi (.base (.bl b)) k_bool_str q
  | int i => exact c_isi (.base (.int i)) k_int_str q
  | str x => exact c_isi (.base (.str x)) k_str_str q
  | ref a =>
    rcases h with ⟨xs, h⟩ | ⟨xs, h⟩
    · exact c_isi (ty_tup h) k_tuple_str q
    · exact c_isi (ty_lst h) k_list_str q
  | byt _ => exact h.elim
  | flt _ => exact h.elim
  | ty _ => exact h.elim
theorem c_eqS {x y : Str} {H : Hp} {Q : VK} (q : Q (.bl (decide (x = y))) H) : rEq (.str x) (.str y) H Q := ⟨rfl, by
  have e : decide (V.str x = V.str y) = decide (x = y) := decide_eq_decide.mpr ⟨fun h => by cases h; rfl, fun h => by rw [h]⟩
  rw [e]; exact q⟩
theorem c_neS {x y : Str} {H : Hp} {Q : VK} (q : Q (.bl (!decide (x = y))) H) : rNe (.str x) (.str y) H Q := ⟨rfl, by
  have e : decide (V.str x = V.str y) = decide (x = y) := decide_eq_decide.mpr ⟨fun h => by cases h; rfl, fun h => by rw [h]⟩
  rw [e]; exact q⟩
/-- a line that shows more than start inside -/
def wetV (d : Day) (G W : List Int) : Option (List V) → Bool
  | none => false
  | some ys => match lineAns d W ys with
    | .int n => decide (inside d G (kOf (ys.map natV)) < n)
    | _ => false
def verdV (d : Day) (G W : List Int) (word : Str) (oz : Option (List V)) : Bool := if word = "dry" then planV d W (some (vI G)) oz else if word = "wet" then wetV d G W oz else false
theorem nn_mem {S : List Int} (h : ∀ p, 0 ≤ S.getD p 0) : ∀ x ∈ S, 0 ≤ x := fun x hx => by
  obtain ⟨i, hi, rfl⟩ := List.getElem_of_mem hx
  have e : S.getD i 0 = S[i] := by simp [List.getD_eq_getElem?_getD, hi]
  rw [← e]; exact h i
theorem nn_set {S : List Int} {i : Nat} {z : Int} (h : ∀ x ∈ S, 0 ≤ x) (hz : 0 ≤ z) : ∀ x ∈ S.set i z, 0 ≤ x := fun x hx => (List.mem_or_eq_of_mem_set hx).elim (h x) (fun e => e ▸ hz)
def cap20 (x : Int) : Int := if x < 20 then x else 20
theorem cap_ok {S : List Int} (h : ∀ x ∈ S, 0 ≤ x) (p : Nat) : 0 ≤ (S.map cap20).getD p 0 ∧ (S.map cap20).getD p 0 ≤ 20 := by
  rw [List.getD_eq_getElem?_getD, List.getElem?_map]
  cases e : S[p]? with
  | none => simp
  | some x =>
    have hx := h x (List.mem_of_getElem? e)
    show 0 ≤ cap20 x ∧ cap20 x ≤ 20
    unfold cap20
    split <;> omega
end HX

/-! Rows of counts, compared and looked for. -/
namespace HX
open PySem PySem.Spec PyProof.Rows L2 Dry
section
variable {K : PySem.W.Frag} {H : Hp} {Q : VK} {a b : Addr}
theorem dp_nats : ∀ ns : List Nat, DpAll K H (vN ns) (ns.map fun (n : Nat) => PyData.int (n : Int))
  | [] => .nil
  | n :: ns => .cons (.int n) (dp_nats ns)
def dRows (ls : List (List Nat)) : List PyData := ls.map fun l => PyData.tuple (l.map fun (n : Nat) => PyData.int (n : Int))
theorem dpAll_of : ∀ (rs : List V) (ds : List PyData), rs.length = ds.length → (∀ (i : Nat) (v : V) (dd : PyData), rs[i]? = some v → ds[i]? = some dd → Dp K H v dd) → DpAll K H rs ds
  | [], [], _, _ => .nil
  | [], _ :: _, h, _ => by simp at h
  | _ :: _, [], h, _ => by simp at h
  | r :: rs, d :: ds, h, f => .cons (f 0 r d rfl rfl) (dpAll_of rs ds (by simpa using h) fun i v dd h1 h2 => f (i + 1) v dd (by simpa using h1) (by simpa using h2))
theorem dp_rows {rs : List V} {ls : List (List Nat)} (h : Refs true K H rs (ls.map vN)) : DpAll K H rs (dRows ls) := by
  refine dpAll_of rs _ (by rw [h.len]; simp [dRows]) fun i v dd h1 h2 => ?_
  unfold dRows at h2
  rw [List.getElem?_map] at h2
  obtain ⟨l, hl, rfl⟩ := Option.map_eq_some_iff.mp h2
  obtain ⟨x, hx, hs⟩ := h.at_ i (vN l) (by rw [List.getElem?_map, hl]; rfl)
  rw [h1] at hx
  obtain rfl := Option.some.inj hx
  exact .tup hs (dp_nats l)
theorem ints_shape : ∀ l : List Nat, PyData.canLayAll0 (l.map fun (n : Nat) => PyData.int (n : Int)) = true ∧ PyData.depthAll (l.map fun (n : Nat) => PyData.int (n : Int)) = 0
  | [] => ⟨by simp [PyData.canLayAll0], by simp [PyData.depthAll]⟩
  | n :: l => by
    obtain ⟨h1, h2⟩ := ints_shape l
    exact ⟨by simp [PyData.canLayAll0, PyData.canLay0, h1], by simp [PyData.depthAll, PyData.depth, h2]⟩
theorem row_shape (l : List Nat) : SeqAt.shaped (.tuple (l.map fun (n : Nat) => PyData.int (n : Int))) = true := by
  obtain ⟨h1, h2⟩ := ints_shape l
  show (PyData.canLay0 _ && decide (PyData.depth _ ≤ 64)) = true
  simp [PyData.canLay0, PyData.depth, h1, h2]
theorem rows_shape : ∀ ls : List (List Nat), PyData.canLayAll0 (dRows ls) = true ∧ PyData.depthAll (dRows ls) ≤ 1
  | [] => ⟨by simp [dRows, PyData.canLayAll0], by simp [dRows, PyData.depthAll]⟩
  | l :: ls => by
    obtain ⟨h1, h2⟩ := rows_shape ls
    obtain ⟨h3, h4⟩ := ints_shape l
    unfold dRows at h1 h2 ⊢
    exact ⟨by simp [PyData.canLayAll0, PyData.canLay0, h1, h3], by simp [PyData.depthAll, PyData.depth, h4]; omega⟩
theorem rows_shaped (ls : List (List Nat)) : SeqAt.shaped (.list (dRows ls)) = true := by
  obtain ⟨h1, h2⟩ := rows_shape ls
  show (PyData.canLay0 _ && decide (PyData.depth _ ≤ 64)) = true
  simp [PyData.canLay0, PyData.depth, h1]; omega
theorem c_eqNilR {rs : List V} {ls : List (List Nat)} (ha : SqL K H a rs) (h : Refs true K H rs (ls.map vN)) (hb : SqL K H b []) (q : Q (.bl ls.isEmpty) H) : rEqD K (.ref a) (.ref b) H Q := by
  refine ⟨_, _, .lst ha (dp_rows h), .lst hb .nil, rows_shaped ls, rfl, ?_⟩
  have e : PyData.eqv (.list (dRows ls)) (.list []) = ls.isEmpty := by
    cases ls <;> simp [dRows, PyData.eqv, PyData.eqvAll]
  rw [e]
  exact q
theorem eqv_ints : ∀ l : List Nat, PyData.eqvAll (l.map fun (n : Nat) => PyData.int (n : Int)) (l.map fun (n : Nat) => PyData.int (n : Int)) = true
  | [] => by simp [PyData.eqvAll]
  | n :: l => by simp [PyData.eqvAll, PyData.eqv, eqv_ints l]
theorem c_notInR {rs : List V} {ls : List (List Nat)} {l : List Nat} (hl : SqT K H b (vN l)) (ha : SqL K H a rs) (h : Refs true K H rs (ls.map vN)) (hm : l ∈ ls) (q : Q (.bl false) H) : rNotInD K (.ref b) (.ref a) H Q := by
  refine ⟨_, _, .tup hl (dp_nats l), .lst ha (dp_rows h), row_shape l, rows_shaped ls, ?_⟩
  have e : ((dRows ls).any fun z => PyData.eqv z (.tuple (l.map fun (n : Nat) => PyData.int (n : Int)))) = true := by
    rw [List.any_eq_true]
    refine ⟨_, List.mem_map.mpr ⟨l, hm, rfl⟩, ?_⟩
    simp [PyData.eqv, eqv_ints l]
  rw [e]
  exact q
end
/-- pairs: what a line shows, and the line -/
def PairsAt (K : PySem.W.Frag) (H : Hp) (d : Day) (W : List Int) (rs : List V) (ls : List (List Nat)) : Prop :=
  rs.length = ls.length ∧ ∀ (i : Nat) (l : List Nat), ls[i]? = some l → ∃ p c : Addr, rs[i]? = some (V.ref p) ∧ SqT K H p [.int (shows d W (kOf l)), .ref c] ∧ SqT K H c (vN l)
theorem PairsAt.tx {K : PySem.W.Frag} {H H' : Hp} {d : Day} {W : List Int} {rs : List V} {ls : List (List Nat)} (e : Tx H H') (h : PairsAt K H d W rs ls) : PairsAt K H' d W rs ls :=
  ⟨h.1, fun i l hl => let ⟨p, c, h1, h2, h3⟩ := h.2 i l hl; ⟨p, c, h1, e.tup h2, e.tup h3⟩⟩
theorem PairsAt.nil {K : PySem.W.Frag} {H : Hp} {d : Day} {W : List Int} : PairsAt K H d W [] [] := ⟨rfl, fun i l h => by simp at h⟩
theorem PairsAt.snoc {K : PySem.W.Frag} {H : Hp} {d : Day} {W : List Int} {rs : List V} {ls : List (List Nat)} {l : List Nat} {p c : Addr} (h : PairsAt K H d W rs ls) (h2 : SqT K H p [.int (shows d W (kOf l)), .ref c]) (h3 : SqT K H c (vN l)) : PairsAt K H d W (rs ++ [V.ref p]) (ls ++ [l]) := by
  refine ⟨by simp [h.1], fun i u hu => ?_⟩
  by_cases hi : i < ls.length
  · rw [List.getElem?_append_left hi] at hu
    rw [List.getElem?_append_left (by rw [h.1]; exact hi)]
    exact h.2 i u hu
  · have hi2 : i = ls.length := by
      have := (List.getElem?_eq_some_iff.mp hu).1
      simp at this
      omega
    subst hi2
    rw [List.getElem?_append_right (Nat.le_refl _), Nat.sub_self] at hu
    have e : l = u := by simpa using hu
    subst e
    refine ⟨p, c, ?_, h2, h3⟩
    rw [← h.1, List.getElem?_append_right (Nat.le_refl _), Nat.sub_self]
    rfl
theorem PairsAt.get {K : PySem.W.Frag} {H : Hp} {d : Day} {W : List Int} {rs : List V} {ls : List (List Nat)} (h : PairsAt K H d W rs ls) {i : Nat} {x : V} (hx : rs[i]? = some x) : ∃ l p c, ls[i]? = some l ∧ x = .ref p ∧ SqT K H p [.int (shows d W (kOf l)), .ref c] ∧ SqT K H c (vN l) := by
  have hi : i < ls.length := by rw [← h.1]; exact (List.getElem?_eq_some_iff.mp hx).1
  obtain ⟨p, c, h1, h2, h3⟩ := h.2 i ls[i] (List.getElem?_eq_getElem hi)
  rw [hx] at h1
  exact ⟨ls[i], p, c, List.getElem?_eq_getElem hi, Option.some.inj h1, h2, h3⟩
theorem cut_put {xs : List V} {i : Nat} {y : V} (h : i < xs.length) : cutV xs none (some (i : Int)) ++ [y] ++ cutV xs (some ((i : Int) + 1)) none = xs.set i y := by
  have e1 : HT.sIx xs.length xs.length (some (i : Int)) = i := by unfold HT.sIx; dsimp only; split <;> omega
  have e2 : HT.sIx xs.length 0 (some ((i : Int) + 1)) = i + 1 := by unfold HT.sIx; dsimp only; split <;> omega
  unfold cutV
  rw [e1, e2]
  have e3 : HT.sIx xs.length 0 none = 0 := rfl
  have e4 : HT.sIx xs.length xs.length none = xs.length := rfl
  have e5 : (xs.drop (i + 1)).take (xs.length - (i + 1)) = xs.drop (i + 1) := List.take_of_length_le (by rw [List.length_drop]; exact Nat.le_refl _)
  rw [e3, e4, e5, List.drop_zero, Nat.sub_zero, List.set_eq_take_append_cons_drop, if_pos h, List.append_assoc]
  rfl
theorem set_ge {G : List Int} {i : Nat} {z : Int} (h : G.getD i 0 ≤ z) (p : Nat) : G.getD p 0 ≤ (G.set i z).getD p 0 := by
  rw [List.getD_eq_getElem?_getD, List.getD_eq_getElem?_getD, List.getElem?_set]
  by_cases hi : i = p
  · subst hi
    rw [if_pos rfl]
    by_cases hl : i < G.length
    · rw [if_pos hl]
      rw [List.getD_eq_getElem?_getD] at h
      exact h
    · rw [if_neg hl, List.getElem?_eq_none (by omega)]
      exact Int.le_refl _
  · rw [if_neg hi]
    exact Int.le_refl _
theorem hu65 {k : Nat} {A : Around} (r : Room k A) : A.units + 65 < cLine := by have := r.un; omega
theorem c_notB {a b : Bool} {H : Hp} {Q : VK} (q : Q (.bl (!decide (a = b))) H) : rNotB (.bl a) (.bl b) H Q := ⟨a, b, rfl, rfl, q⟩
theorem vN_natV : ∀ ns : List Nat, (vN ns).map natV = ns
  | [] => rfl
  | n :: ns => by
    show natV (.int (n : Int)) :: (vN ns).map natV = n :: ns
    rw [vN_natV ns]
    rfl
end HX

/-! Lists of numbers compared; what the lines show at most; a row with one walk otherwise. -/
namespace HX
open PySem PySem.Spec PyProof.Rows L2 Dry
section
variable {K : PySem.W.Frag} {H : Hp} {Q : VK} {a b : Addr}
def natD (n : Nat) : PyData := .int (n : Int)
theorem natsL_shaped (l : List Nat) : SeqAt.shaped (.list (l.map fun (n : Nat) => PyData.int (n : Int))) = true := by
  obtain ⟨h1, h2⟩ := ints_shape l
  show (PyData.canLay0 _ && decide (PyData.depth _ ≤ 64)) = true
  simp [PyData.canLay0, PyData.depth, h1, h2]
theorem c_neSame {l : List Nat} (ha : SqL K H a (vN l)) (hb : SqL K H b (vN l)) (q : Q (.bl false) H) : rNeD K (.ref a) (.ref b) H Q := by
  refine ⟨_, _, .lst ha (dp_nats l), .lst hb (dp_nats l), natsL_shaped l, natsL_shaped l, ?_⟩
  have e : PyData.eqv (.list (l.map fun (n : Nat) => PyData.int (n : Int))) (.list (l.map fun (n : Nat) => PyData.int (n : Int))) = true := by
    simp [PyData.eqv, eqv_ints l]
  rw [e]
  exact q
theorem c_notInN {l : List Nat} {n : Nat} (ha : SqL K H a (vN l)) (hm : n ∈ l) (q : Q (.bl false) H) : rNotInD K (.int (n : Int)) (.ref a) H Q := by
  refine ⟨_, _, .int _, .lst ha (dp_nats l), rfl, natsL_shaped l, ?_⟩
  have e : ((l.map fun (n : Nat) => PyData.int (n : Int)).any fun z => PyData.eqv z (.int (n : Int))) = true := by
    rw [List.any_eq_true]
    refine ⟨_, List.mem_map.mpr ⟨n, hm, rfl⟩, ?_⟩
    simp [PyData.eqv]
  rw [e]
  exact q
end
theorem line_mem {d : Day} (ok : d.Ok) (W : List Int) : line d W ∈ linesN d.T d.P := mem_linesN.mpr ⟨line_length d W, line_bound ok W⟩
theorem max_shows {d : Day} (ok : d.Ok) {W : List Int} (hW : W.length = d.P) (wn : ∀ p, 0 ≤ W.getD p 0) {m : Int} (h1 : m ∈ (linesN d.T d.P).map fun l => shows d W (kOf l)) (h2 : ∀ y ∈ (linesN d.T d.P).map fun l => shows d W (kOf l), y ≤ m) : m = (fewest d W).1 := by
  have h3 := h2 _ (List.mem_map.mpr ⟨_, line_mem ok W, rfl⟩)
  rw [Dry.line_shows ok hW wn] at h3
  obtain ⟨l, hl, rfl⟩ := List.mem_map.mp h1
  have h4 := shows_le ok hW wn (kOf l) (fun p _ => kOf_le (mem_linesN.mp hl).2 p)
  omega
theorem dry_lines {d : Day} (ok : d.Ok) {G W : List Int} (hG : G.length = d.P) (hW : W.length = d.P) (gn : ∀ p, 0 ≤ G.getD p 0) (wn : ∀ p, 0 ≤ W.getD p 0) :
    dryB d G W = (linesN d.T d.P).all fun l => decide (shows d W (kOf l) ≤ inside d G (kOf l)) := by
  rw [Bool.eq_iff_iff, dry_iff ok hG hW gn wn, List.all_eq_true]
  constructor
  · intro h l hl
    exact decide_eq_true (h _ (fun p _ => kOf_le (mem_linesN.mp hl).2 p))
  · intro h k hk
    have hl : (List.range d.P).map k ∈ linesN d.T d.P := mem_linesN.mpr ⟨by simp, fun m hm => by
      obtain ⟨p, hp, rfl⟩ := List.mem_map.mp hm
      exact hk p (List.mem_range.mp hp)⟩
    have h1 := of_decide_eq_true (h _ hl)
    have hk2 : ∀ p, p < d.P → kOf ((List.range d.P).map k) p = k p := fun p hp => by
      unfold kOf
      simp [List.getD_eq_getElem?_getD, hp]
    have e1 : inside d G (kOf ((List.range d.P).map k)) = inside d G k := sumP_congr _ fun p hp => by rw [hk2 p hp]
    have e2 : raw d W (kOf ((List.range d.P).map k)) = raw d W k := by
      unfold raw
      rw [sumP_congr (f := fun p => if kOf ((List.range d.P).map k) p = d.T + 1 then W.getD p 0 else 0) (g := fun p => if k p = d.T + 1 then W.getD p 0 else 0) d.P (fun p hp => by rw [hk2 p hp])]
      have e3 : ∀ ws : List Wk, (∀ w ∈ ws, w.b < d.P ∧ w.e < d.P) → sumWs (showW (kOf ((List.range d.P).map k))) ws = sumWs (showW k) ws := by
        intro ws
        induction ws with
        | nil => intro _; rfl
        | cons v ws ih =>
          intro hw
          have h0 := hw v (by simp)
          show showW _ v + _ = showW k v + _
          rw [ih (fun u hu => hw u (by simp [hu]))]
          congr 1
          unfold showW leaves comes
          rw [hk2 _ h0.1, hk2 _ h0.2]
      rw [e3 d.ws (fun w hw => ⟨ok.b w hw, ok.e w hw⟩)]
    have e4 : shows d W (kOf ((List.range d.P).map k)) = shows d W k := by unfold shows; rw [e2]
    rw [e1, e4] at h1
    exact h1
theorem lines_pos (T n : Nat) : 0 < (linesN T n).length := by rw [linesN_length]; exact Nat.pow_pos (by omega)
theorem wks_set {K : PySem.W.Frag} {H : Hp} {vs : List V} {ws : List Wk} (h : Wks K H vs ws) {i : Nat} {w : Wk} {x : Addr} (hx : SqT K H x (wkV w)) : Wks K H (vs.set i (.ref x)) (ws.set i w) := by
  refine ⟨by simp [h.len], fun j v hv => ?_⟩
  rw [List.getElem?_set] at hv
  by_cases e : i = j
  · subst e
    rw [if_pos rfl] at hv
    split at hv
    · rename_i hl
      cases hv
      exact ⟨x, by rw [List.getElem?_set, if_pos rfl, if_pos (by rw [h.len]; exact hl)], hx⟩
    · cases hv
  · rw [if_neg e] at hv
    obtain ⟨y, h1, h2⟩ := h.at_ j v hv
    exact ⟨y, by rw [List.getElem?_set, if_neg e]; exact h1, h2⟩
theorem filt_snoc {q : Nat → Bool} {n i : Nat} (hi : i < n) : ((List.range n).take (i + 1)).filter q = ((List.range n).take i).filter q ++ (if q i then [i] else []) := by
  rw [take_succ_get (show (List.range n)[i]? = some i by simp [hi]), List.filter_append]
  congr 1
  rw [List.filter_cons]
  split <;> rfl
theorem filt_le {q : Nat → Bool} {n i : Nat} : (((List.range n).take i).filter q).length ≤ n := by
  refine Nat.le_trans (List.length_filter_le _ _) ?_
  rw [List.length_take, List.length_range]
  omega
theorem cut3 {a b c x y : V} : cutV [a, b, c, x, y] none (some 3) = [a, b, c] := rfl
end HX

/-! Walks compared; things judged as days; tuples of the module. -/
namespace HX
open PySem PySem.Spec PyProof.Rows L2 Dry
/-! ### less, by data -/
def rLtD (K : PySem.W.Frag) : R2 := fun x y H Q => ∃ d e, Dp K H x d ∧ Dp K H y e ∧ PySem.W.alike d e = true ∧ d ≠ .none ∧ d.depth ≤ 60 ∧ Q (.bl (PySem.W.dataLt d e)) H
theorem op_ltD {X : Cx} (hu : X.A.units + 64 < cLine) : OpR X (compareOp .Lt) (rLtD X.K) := by
  intro pins s σ H x y v u Q I rx ry h
  obtain ⟨d, e, hd, he, ha, hn, hz, q⟩ := h
  obtain ⟨as, r1⟩ := Dp.reads I d x v hd rx
  obtain ⟨bs, r2⟩ := Dp.reads I e y u he ry
  exact PySem.W.lt_data r1 r2 ha hn (by have := Nat.min_le_left d.depth e.depth; omega) ⟨.bl _, H, I, rfl, q⟩
def wkD (w : Wk) : PyData := .tuple [.int (w.h : Int), .int (w.b : Int), .int (w.e : Int), .bool w.wet, .int (w.r : Int)]
def wkLt (v w : Wk) : Bool := if v.h = w.h then (if v.b = w.b then (if v.e = w.e then (if v.wet = w.wet then decide (v.r < w.r) else !v.wet) else decide (v.e < w.e)) else decide (v.b < w.b)) else decide (v.h < w.h)
theorem dp_wk {K : PySem.W.Frag} {H : Hp} {a : Addr} {w : Wk} (h : SqT K H a (wkV w)) : Dp K H (.ref a) (wkD w) := .tup h (.cons (.int _) (.cons (.int _) (.cons (.int _) (.cons (.bl _) (.cons (.int _) .nil)))))
theorem wk_alike (v w : Wk) : PySem.W.alike (wkD v) (wkD w) = true := by simp [wkD, PySem.W.alike, PySem.W.alikeAll]
theorem eqv_nat (a b : Nat) : PyData.eqv (.int (a : Int)) (.int (b : Int)) = decide (a = b) := by
  simp only [PyData.eqv]
  rw [Bool.beq_eq_decide_eq]
  exact decide_eq_decide.mpr (by omega)
open PySem.W in
theorem wk_dataLt (v w : Wk) : PySem.W.dataLt (wkD v) (wkD w) = wkLt v w := by
  unfold wkD wkLt
  rw [PySem.W.dataLt_tuple, PySem.W.dataLt_cons (by simp [PySem.W.alike]), PySem.W.dataLt_cons (by simp [PySem.W.alike]), PySem.W.dataLt_cons (by simp [PySem.W.alike]), PySem.W.dataLt_cons (by simp [PySem.W.alike]), PySem.W.dataLt_cons (by simp [PySem.W.alike])]
  rw [eqv_nat, eqv_nat, eqv_nat, eqv_nat, PySem.W.dataLt_int, PySem.W.dataLt_int, PySem.W.dataLt_int, PySem.W.dataLt_int, PySem.W.dataLt_bool]
  have e : PyProof.Rows.lexLt itemOrd (PySem.W.keyToksAll []) (PySem.W.keyToksAll []) = false := PyProof.Rows.lex_irrefl _
  rw [e]
  have d : ∀ a b : Nat, decide ((a : Int) < (b : Int)) = decide (a < b) := fun a b => dec_nat
  rw [d, d, d, d]
  have hb : PyData.eqv (.bool v.wet) (.bool w.wet) = decide (v.wet = w.wet) := by
    simp only [PyData.eqv]
    cases v.wet <;> cases w.wet <;> rfl
  rw [hb]
  by_cases h1 : v.h = w.h <;> simp only [h1, decide_true, decide_false, if_true, if_false, Bool.false_eq_true]
  by_cases h2 : v.b = w.b <;> simp only [h2, decide_true, decide_false, if_true, if_false, Bool.false_eq_true]
  by_cases h3 : v.e = w.e <;> simp only [h3, decide_true, decide_false, if_true, if_false, Bool.false_eq_true]
  by_cases h4 : v.wet = w.wet <;> simp only [h4, decide_true, decide_false, if_true, if_false, Bool.false_eq_true]
  · by_cases h5 : v.r = w.r <;> simp [h5]
  · cases hv : v.wet <;> cases hw : w.wet <;> simp [hv, hw] at h4 ⊢ <;> simp [b2i]
theorem wk_depth (w : Wk) : (wkD w).depth ≤ 60 := by simp [wkD, PyData.depth, PyData.depthAll]
theorem c_ltW {K : PySem.W.Frag} {H : Hp} {Q : VK} {a b : Addr} {v w : Wk} (ha : SqT K H a (wkV v)) (hb : SqT K H b (wkV w)) (q : Q (.bl (wkLt v w)) H) : rLtD K (.ref a) (.ref b) H Q :=
  ⟨_, _, dp_wk ha, dp_wk hb, wk_alike v w, (fun z => nomatch z), wk_depth v, by rw [wk_dataLt]; exact q⟩
theorem wkLt_code {P T : Nat} {v w : Wk} (hv : WkB P T v) (hw : WkB P T w) (hP : P ≤ 1000) (hT : T ≤ 1000) : wkLt v w = decide (TS.code 1000 (wkN v) < TS.code 1000 (wkN w)) := by
  rw [code_wk, code_wk]
  obtain ⟨h1, h2, h3, h4, h5, h6⟩ := hv
  obtain ⟨g1, g2, g3, g4, g5, g6⟩ := hw
  have a1 : v.wi = if v.wet then 1 else 0 := rfl
  have a2 : w.wi = if w.wet then 1 else 0 := rfl
  unfold wkLt
  by_cases e1 : v.h = w.h
  · rw [if_pos e1]
    by_cases e2 : v.b = w.b
    · rw [if_pos e2]
      by_cases e3 : v.e = w.e
      · rw [if_pos e3]
        by_cases e4 : v.wet = w.wet
        · rw [if_pos e4]
          rw [a1, a2, e4]
          exact decide_eq_decide.mpr (by split <;> omega)
        · rw [if_neg e4]
          cases hv : v.wet <;> cases hw : w.wet <;> rw [hv] at a1 e4 <;> rw [hw] at a2 e4 <;> simp at a1 a2 e4
          · rw [a1, a2]; symm; exact decide_eq_true (by omega)
          · rw [a1, a2]; symm; exact decide_eq_false (by omega)
      · rw [if_neg e3]
        exact decide_eq_decide.mpr (by split at a1 <;> split at a2 <;> omega)
    · rw [if_neg e2]
      exact decide_eq_decide.mpr (by split at a1 <;> split at a2 <;> omega)
  · rw [if_neg e1]
    exact decide_eq_decide.mpr (by split at a1 <;> split at a2 <;> omega)
/-! ### zip of a longer and a shorter one -/
theorem walk_zip2r {K : PySem.W.Frag} {b1 b2 : Bool} {a b : Addr} {xs ys : List V} {n : Nat} (hx : n ≤ xs.length) (hy : ys.length = n) :
    Walk (Itz2 K b1 b2 a b xs ys) n (fun H => SqB K b1 H a xs ∧ SqB K b2 H b ys) (YPair (fun i => xs[i]?) (fun i => ys[i]?)) :=
  ⟨fun i _ hi q => ⟨q.1, q.2, by omega, by omega⟩, fun _ q => ⟨q.1, q.2, by omega, by omega, by omega⟩, fun i H v H' _ q y => by
    obtain ⟨T, x, z, h1, h2, h3, h4, h5⟩ := y
    exact ⟨T, x, z, h1, h2, h3, h4, h5⟩⟩
/-! ### things as walks, as days -/
/-- a thing as a tuple of things of known kinds, or none -/
def TK (K : PySem.W.Frag) (H : Hp) (x : V) (o : Option (List V)) : Prop := (o = none ∧ NTup K H x) ∨ ∃ t ys, o = some ys ∧ x = .ref t ∧ SqT K H t ys ∧ (∀ y ∈ ys, Kn K H y) ∧ ys.length ≤ 1000
theorem TK.same {K : PySem.W.Frag} {H H' : Hp} {x : V} {o : Option (List V)} (e : Same H H') (h : TK K H x o) : TK K H' x o := by
  rcases h with ⟨h1, h2⟩ | ⟨t, ys, h1, h2, h3, h4, h5⟩
  · exact .inl ⟨h1, h2.kp (.of e)⟩
  · exact .inr ⟨t, ys, h1, h2, e.tup h3, fun y hy => (h4 y hy).same e, h5⟩
def wkOf : Option (List V) → Wk
  | some [h, b, e, .bl w, r] => ⟨natV h, natV b, natV e, w, natV r⟩
  | _ => ⟨0, 0, 0, false, 0⟩
def walkB (P T : Int) : Option (List V) → Bool
  | some [h, b, e, w, r] => isFromV h 0 (T - 1) && (isFromV b 0 (P - 1) && (isFromV e 0 (P - 1) && (!decide (intV b = intV e) && (isBoolV w && isFromV r 1 3))))
  | _ => false
def risingB : List Wk → Bool
  | v :: w :: ws => wkLt v w && risingB (w :: ws)
  | _ => true
/-- what a thing is as a day: what its three parts are, if it has three -/
abbrev DOf : Type := Option (V × V × Option (List (Option (List V))))
def dayB : DOf → Bool
  | some (p, h, some os) => isFromV p 2 5 && (isFromV h 1 8 && (decide (os.length ≤ 12) && (os.all (walkB (intV p) (intV h)) && risingB (os.map wkOf))))
  | _ => false
def WalksK (K : PySem.W.Frag) (H : Hp) (z : V) (ow : Option (List (Option (List V)))) : Prop := (ow = none ∧ NTup K H z) ∨ ∃ t ws os, ow = some os ∧ z = .ref t ∧ SqT K H t ws ∧ ws.length = os.length ∧ os.length ≤ 1000 ∧ ∀ (i : Nat) (x : V) (o : Option (List V)), ws[i]? = some x → os[i]? = some o → TK K H x o
def DK (K : PySem.W.Frag) (H : Hp) (x : V) (o : DOf) : Prop := (o = none ∧ (NTup K H x ∨ ∃ t ys, x = .ref t ∧ SqT K H t ys ∧ ys.length ≠ 3)) ∨ ∃ t p h z ow, o = some (p, h, ow) ∧ x = .ref t ∧ SqT K H t [p, h, z] ∧ Kn K H p ∧ Kn K H h ∧ WalksK K H z ow
theorem WalksK.same {K : PySem.W.Frag} {H H' : Hp} {x : V} {o : Option (List (Option (List V)))} (e : Same H H') (h : WalksK K H x o) : WalksK K H' x o := by
  rcases h with ⟨h1, h2⟩ | ⟨t, ws, os, h1, h2, h3, h4, h5, h6⟩
  · exact .inl ⟨h1, h2.kp (.of e)⟩
  · exact .inr ⟨t, ws, os, h1, h2, e.tup h3, h4, h5, fun i x o a b => (h6 i x o a b).same e⟩
theorem isFromV_ex {x : V} {lo hi : Int} (h : isFromV x lo hi = true) : ∃ i, x = .int i ∧ lo ≤ i ∧ i ≤ hi := ⟨_, isFromV_int h⟩
theorem walkB_of {P T : Int} {o : Option (List V)} (h : walkB P T o = true) : ∃ P' T' : Nat, (P' : Int) = P ∧ (T' : Int) = T ∧ WkB P' T' (wkOf o) ∧ o = some (wkV (wkOf o)) := by
  match o, h with
  | some [h, b, e, w, r], hh =>
    simp only [walkB, Bool.and_eq_true] at hh
    obtain ⟨h1, h2, h3, h4, h5, h6⟩ := hh
    obtain ⟨h', rfl, a1, a2⟩ := isFromV_ex h1
    obtain ⟨b', rfl, b1, b2⟩ := isFromV_ex h2
    obtain ⟨e', rfl, c1, c2⟩ := isFromV_ex h3
    obtain ⟨r', rfl, d1, d2⟩ := isFromV_ex h6
    cases w with
    | bl w =>
      have h4' : b' ≠ e' := fun z => by rw [z] at h4; simp at h4
      refine ⟨P.toNat, T.toNat, by omega, by omega, ⟨?_, ?_, ?_, ?_, ?_, ?_⟩, ?_⟩
      · show h'.toNat < _; omega
      · show b'.toNat < _; omega
      · show e'.toNat < _; omega
      · show b'.toNat ≠ e'.toNat; omega
      · show 1 ≤ r'.toNat; omega
      · show r'.toNat ≤ 3; omega
      · show _ = some [V.int (h'.toNat : Int), V.int (b'.toNat : Int), V.int (e'.toNat : Int), V.bl w, V.int (r'.toNat : Int)]
        rw [Int.toNat_of_nonneg a1, Int.toNat_of_nonneg b1, Int.toNat_of_nonneg c1, Int.toNat_of_nonneg (by omega)]
    | _ => cases h5
theorem wkOf_wk (w : Wk) : wkOf (some (wkV w)) = w := by
  show (⟨((w.h : Int)).toNat, ((w.b : Int)).toNat, ((w.e : Int)).toNat, w.wet, ((w.r : Int)).toNat⟩ : Wk) = w
  simp
theorem walkB_wk {P T : Nat} {w : Wk} (h : WkB P T w) : walkB (P : Int) (T : Int) (some (wkV w)) = true := by
  obtain ⟨h1, h2, h3, h4, h5, h6⟩ := h
  show (isFromV (.int (w.h : Int)) 0 ((T : Int) - 1) && (isFromV (.int (w.b : Int)) 0 ((P : Int) - 1) && (isFromV (.int (w.e : Int)) 0 ((P : Int) - 1) && (!decide ((w.b : Int) = (w.e : Int)) && (true && isFromV (.int (w.r : Int)) 1 3))))) = true
  rw [isFromV_of (by omega) (by omega), isFromV_of (by omega) (by omega), isFromV_of (by omega) (by omega), isFromV_of (by omega) (by omega), decide_eq_false (by omega)]
  rfl
theorem rising_of {P T : Nat} (hP : P ≤ 1000) (hT : T ≤ 1000) : ∀ {ws : List Wk}, (∀ w ∈ ws, WkB P T w) → (ws.Pairwise fun v w => TS.code 1000 (wkN v) < TS.code 1000 (wkN w)) → risingB ws = true
  | [], _, _ => rfl
  | [_], _, _ => rfl
  | v :: w :: ws, hb, hp => by
    show (wkLt v w && risingB (w :: ws)) = true
    rw [rising_of (ws := w :: ws) hP hT (fun u hu => hb u (by simp at hu ⊢; exact .inr hu)) (List.Pairwise.tail hp), wkLt_code (hb v (by simp)) (hb w (by simp)) hP hT]
    have := (List.pairwise_cons.mp hp).1 w (by simp)
    rw [decide_eq_true this]
    rfl
theorem rising_list : ∀ ws : List Wk, ((List.zipWith wkLt ws (ws.drop 1)).all id) = risingB ws
  | [] => rfl
  | [_] => rfl
  | v :: w :: ws => by
    have ih := rising_list (w :: ws)
    show (wkLt v w && ((List.zipWith wkLt (w :: ws) ((w :: ws).drop 1)).all id)) = _
    rw [ih]
    rfl
theorem cut1 (xs : List V) : cutV xs (some 1) none = xs.drop 1 := by
  unfold cutV
  have e2 : HT.sIx xs.length xs.length none = xs.length := rfl
  rw [e2]
  cases xs with
  | nil => rfl
  | cons x xs =>
    have e1 : HT.sIx (x :: xs).length 0 (some 1) = 1 := by unfold HT.sIx; dsimp only; simp
    rw [e1]
    exact List.take_of_length_le (by simp)
/-- a drawn day as a thing -/
theorem walksK_day {K : PySem.W.Frag} {H : Hp} {t : Addr} {ds : List V} {ws : List Wk} (hs : SqT K H t ds) (hw : Wks K H ds ws) (hl : ws.length ≤ 1000) : WalksK K H (.ref t) (some (ws.map fun w => some (wkV w))) := by
  refine .inr ⟨t, ds, _, rfl, rfl, hs, by rw [hw.len, List.length_map], by rw [List.length_map]; exact hl, fun i x o hx ho => ?_⟩
  obtain ⟨w, a, h1, rfl, h3⟩ := hw.get hx
  rw [List.getElem?_map, h1] at ho
  cases ho
  exact .inr ⟨a, _, rfl, rfl, h3, fun y hy => by simp [wkV] at hy; rcases hy with rfl | rfl | rfl | rfl | rfl <;> trivial, by simp [wkV]⟩
theorem dayB_day {P T : Nat} {ws : List Wk} (h2 : 2 ≤ P) (h5 : P ≤ 5) (t1 : 1 ≤ T) (t8 : T ≤ 8) (hl : ws.length ≤ 12) (hb : ∀ w ∈ ws, WkB P T w) (hp : ws.Pairwise fun v w => TS.code 1000 (wkN v) < TS.code 1000 (wkN w)) :
    dayB (some (.int (P : Int), .int (T : Int), some (ws.map fun w => some (wkV w)))) = true := by
  show (isFromV (.int (P : Int)) 2 5 && (isFromV (.int (T : Int)) 1 8 && (decide ((ws.map fun w => some (wkV w)).length ≤ 12) && ((ws.map fun w => some (wkV w)).all (walkB (P : Int) (T : Int)) && risingB ((ws.map fun w => some (wkV w)).map wkOf))))) = true
  rw [isFromV_of (by omega) (by omega), isFromV_of (by omega) (by omega), decide_eq_true (by rw [List.length_map]; exact hl)]
  have h1 : (ws.map fun w => some (wkV w)).all (walkB (P : Int) (T : Int)) = true := by
    rw [List.all_eq_true]
    intro o ho
    obtain ⟨w, hw, rfl⟩ := List.mem_map.mp ho
    exact walkB_wk (hb w hw)
  have h3 : (ws.map fun w => some (wkV w)).map wkOf = ws := by
    rw [List.map_map]
    have : (wkOf ∘ fun w => some (wkV w)) = id := funext fun w => wkOf_wk w
    rw [this, List.map_id]
  rw [h1, h3, rising_of (by omega) (by omega) hb hp]
  rfl
/-! ### tuples of the module -/
def obsT (fa : List He.Fa) (fn : List He.FnD) (ta : List (Str × List He.Dv)) (K : PySem.W.Frag) : He.Al := (((fa.all fun f => f.ok K) && fn.all fun d => (He.Fa.code d.at_ d.qual).ok K) && ta.all fun q => He.tupB K q.1 q.2, fn.map fun d => He.fnObs K d.at_)
def SaysT (fa : List He.Fa) (fn : List He.FnD) (ta : List (Str × List He.Dv)) (K : PySem.W.Frag) : Prop := obsT fa fn ta K = He.valE fn
def obsTG (n : Nat) (fa : List He.Fa) (fn : List He.FnD) (ta : List (Str × List He.Dv)) (g : Addr → Option Obj) : He.Al := obsT fa fn ta (He.frG g (He.asG g n))
def hookT (n : Nat) (fa : List He.Fa) (fn : List He.FnD) (ta : List (Str × List He.Dv)) : PySem.W.Hook where
  α := He.Al
  obs := fun s => obsTG n fa fn ta s.heap.get?
  val := fun _ => He.valE fn
  says := fun _ h => ∃ K : PySem.W.Frag, K.In h ∧ SaysT fa fn ta K
  of := fun _ _ e => ⟨_, He.frG_in, e⟩
  keeps := fun _ _ _ ⟨K, hK, c⟩ k => ⟨K, PySem.W.Frag.In.keeps hK k, c⟩
theorem obsTG_eq {n : Nat} {fa : List He.Fa} {fn : List He.FnD} {ta : List (Str × List He.Dv)} {g : Addr → Option Obj} {s : Shared} (h : ∀ a, g a = s.heap.get? a) : obsTG n fa fn ta g = (hookT n fa fn ta).obs s := by
  have e : g = s.heap.get? := funext h
  rw [e] <;> rfl
theorem SaysT.e {fa : List He.Fa} {fn : List He.FnD} {ta : List (Str × List He.Dv)} {K : PySem.W.Frag} (c : SaysT fa fn ta K) : He.SaysE fa fn K := by
  have c1 := (He.ba (show (((fa.all fun f => f.ok K) && fn.all fun d => (He.Fa.code d.at_ d.qual).ok K) && ta.all fun q => He.tupB K q.1 q.2) = true from congrArg (fun z : He.Al => z.1) c)).1
  have e : fn.map (fun d => He.fnObs K d.at_) = fn.map He.FnD.val := congrArg (fun z : He.Al => z.2) c
  show (_, _) = (_, _)
  rw [c1, e]
theorem SaysT.tup {fa : List He.Fa} {fn : List He.FnD} {ta : List (Str × List He.Dv)} {K : PySem.W.Frag} (c : SaysT fa fn ta K) (i : Nat) {x : Str} {vs : List He.Dv} (h : ta[i]? = some (x, vs)) : ∀ H, SqT K H (He.ga K x) (vs.map (He.Dv.v K)) := by
  have c2 := (He.ba (show (((fa.all fun f => f.ok K) && fn.all fun d => (He.Fa.code d.at_ d.qual).ok K) && ta.all fun q => He.tupB K q.1 q.2) = true from congrArg (fun z : He.Al => z.1) c)).2
  exact fun H => He.tupB_ok (List.all_eq_true.mp c2 (x, vs) (List.mem_of_getElem? h)) H
end HX

/-! len of a dict of walks. -/
namespace HX
open PySem PySem.Spec PyProof.Rows L2 Dry
def rLenW (K : PySem.W.Frag) (P : Program) (w : World) : List V → Hp → VK → Prop := fun vs H Q => ∃ (a : Addr) (L : List (Wk × Addr)), vs = [V.ref a] ∧ H a = some (DWO P w a L) ∧ (∀ q ∈ L, SqT K H q.2 (wkV q.1)) ∧ L.length ≤ 1000 ∧ Q (.int (L.length : Int)) H
theorem cr_lenW {X : Cx} : CallR X (.builtin "len") (rLenW X.K X.prog X.w) := by
  intro pins s σ H vs us Q I r h
  obtain ⟨a, L, rfl, ha, hk, hl, q⟩ := h
  have R : DictW X.prog X.w s.heap a L := (I.hok a _ ha).1
  rw [Vals.ref1 r]
  refine call_len_dictH (knd := LK X.prog X.w) R.1 (dictW_full I R hk) (by rw [List.length_map]; omega) ?_
  rw [List.length_map]
  exact ⟨.int (L.length : Int), H, I.tok _, ⟨_, rfl⟩, q⟩
theorem kn_days {K : PySem.W.Frag} {H : Hp} {a aw : Addr} {ds : List V} {d : Day} (h : DayAt K H a aw ds d) (hl : d.ws.length ≤ 1000) : DK K H (.ref a) (some (.int (d.P : Int), .int (d.T : Int), some (d.ws.map fun w => some (wkV w)))) :=
  .inr ⟨a, _, _, .ref aw, _, rfl, rfl, h.day, trivial, trivial, walksK_day h.seq h.wks hl⟩
theorem DayD.wkB {m h k : Nat} {d : Day} (D : DayD m h k d) : ∀ w ∈ d.ws, WkB d.P d.T w := fun w hw => ⟨D.ok.h w hw, D.ok.b w hw, D.ok.e w hw, D.ne w hw, D.ok.r w hw, D.r3 w hw⟩
theorem DayD.dayB {m h k : Nat} {d : Day} (D : DayD m h k d) (hm : m ≤ 5) (hh : h ≤ 8) (hk : k ≤ 12) : HX.dayB (some (.int (d.P : Int), .int (d.T : Int), some (d.ws.map fun w => some (wkV w)))) = true :=
  dayB_day D.P2 (Nat.le_trans D.PM hm) D.T1 (Nat.le_trans D.TM hh) (Nat.le_trans D.W hk) D.wkB D.srt
theorem wks_refs {K : PySem.W.Frag} {H : Hp} {vs : List V} {ws : List Wk} (h : Refs true K H vs (ws.map wkV)) : Wks K H vs ws :=
  ⟨by rw [h.len, List.length_map], fun i w hw => h.at_ i (wkV w) (by rw [List.getElem?_map, hw]; rfl)⟩
theorem tv_ints {K : PySem.W.Frag} {H : Hp} {a : Addr} {G : List Int} (h : SqT K H a (vI G)) (hl : G.length ≤ 1000) : TV K H (.ref a) (some (vI G)) :=
  .inr ⟨a, vI G, rfl, rfl, h, fun y hy => by obtain ⟨n, _, rfl⟩ := List.mem_map.mp hy; trivial, by rw [List.length_map]; exact hl⟩
theorem all_from {G : List Int} {hi : Int} (h : ∀ p, p < G.length → 0 ≤ G.getD p 0 ∧ G.getD p 0 ≤ hi) : (vI G).all (fun x => isFromV x 0 hi) = true := by
  rw [List.all_eq_true]
  intro x hx
  obtain ⟨n, hn, rfl⟩ := List.mem_map.mp hx
  obtain ⟨i, hi', rfl⟩ := List.getElem_of_mem hn
  have e : G.getD i 0 = G[i] := by simp [List.getD_eq_getElem?_getD, hi']
  have := h i hi'
  exact isFromV_of (by omega) (by omega)
end HX

/-! The first of a pair looked for among the two words. -/
namespace HX
open PySem PySem.Spec PyProof.Rows L2 Dry
section
variable {K : PySem.W.Frag}
theorem intsI_shape : ∀ l : List Int, PyData.canLayAll0 (l.map PyData.int) = true ∧ PyData.depthAll (l.map PyData.int) = 0
  | [] => ⟨by simp [PyData.canLayAll0], by simp [PyData.depthAll]⟩
  | n :: l => by
    obtain ⟨h1, h2⟩ := intsI_shape l
    exact ⟨by simp [PyData.canLayAll0, PyData.canLay0, h1], by simp [PyData.depthAll, PyData.depth, h2]⟩
theorem tup_shape (l : List Int) : SeqAt.shaped (.tuple (l.map PyData.int)) = true := by
  obtain ⟨h1, h2⟩ := intsI_shape l
  show (PyData.canLay0 _ && decide (PyData.depth _ ≤ 64)) = true
  simp [PyData.canLay0, PyData.depth, h1, h2]
/-- a first: a word, a truth value, a tuple of numbers -/
def Fst (K : PySem.W.Frag) (H : Hp) (y : V) : Prop := (∃ x, y = .str x ∧ SeqAt.shaped (.str x) = true) ∨ (∃ b, y = .bl b) ∨ ∃ t ns, y = .ref t ∧ SqT K H t (vI ns)
theorem Fst.kn {H : Hp} {y : V} (h : Fst K H y) : Kn K H y := by
  rcases h with ⟨x, rfl, _⟩ | ⟨b, rfl⟩ | ⟨t, ns, rfl, h⟩
  · trivial
  · trivial
  · exact .inl ⟨_, h⟩
theorem Fst.tx {H H' : Hp} {y : V} (e : Tx H H') (h : Fst K H y) : Fst K H' y := by
  rcases h with h | h | ⟨t, ns, h1, h⟩
  · exact .inl h
  · exact .inr (.inl h)
  · exact .inr (.inr ⟨t, ns, h1, e.tup h⟩)
theorem two_shape : SeqAt.shaped (.list [.str "dry", .str "wet"]) = true := by decide +kernel
theorem c_notWord {H : Hp} {Q : VK} {l : Addr} {y : V} (hy : Fst K H y) (hl : SqL K H l [.str "dry", .str "wet"]) (q1 : isStrV y = false → Q (.bl true) H) (q2 : ∀ word, y = .str word → Q (.bl (!(decide (word = "dry") || decide (word = "wet")))) H) : rNotInD K y (.ref l) H Q := by
  have hd : Dp K H (.ref l) (.list [.str "dry", .str "wet"]) := .lst hl (.cons (.str _) (.cons (.str _) .nil))
  rcases hy with ⟨x, rfl, hx⟩ | ⟨b, rfl⟩ | ⟨t, ns, rfl, h⟩
  · refine ⟨_, _, .str x, hd, hx, two_shape, ?_⟩
    have e : (([.str "dry", .str "wet"] : List PyData).any fun z => PyData.eqv z (.str x)) = (decide (x = "dry") || decide (x = "wet")) := by
      simp only [List.any_cons, List.any_nil, Bool.or_false, PyData.eqv]
      congr 1 <;> (rw [Bool.beq_eq_decide_eq]; exact decide_eq_decide.mpr ⟨Eq.symm, Eq.symm⟩)
    rw [e]
    exact q2 x rfl
  · refine ⟨_, _, .bl b, hd, rfl, two_shape, ?_⟩
    have e : (([.str "dry", .str "wet"] : List PyData).any fun z => PyData.eqv z (.bool b)) = false := by simp [PyData.eqv]
    rw [e]
    exact q1 rfl
  · refine ⟨_, _, .tup h (dp_ints ns), hd, tup_shape ns, two_shape, ?_⟩
    have e : (([.str "dry", .str "wet"] : List PyData).any fun z => PyData.eqv z (.tuple (ns.map PyData.int))) = false := by simp [PyData.eqv]
    rw [e]
    exact q1 rfl
end
end HX

/-! Things judged as verdicts. -/
namespace HX
open PySem PySem.Spec PyProof.Rows L2 Dry
/-- what a thing is as a verdict: its first, and its second as a tuple, if it is a pair -/
abbrev VD : Type := Option (V × Option (List V))
def vAns (d : Day) (G W : List Int) : VD → Bool
  | some (.str word, oz) => verdV d G W word oz
  | _ => false
def VT (K : PySem.W.Frag) (H : Hp) (x : V) (r : VD) : Prop :=
  (r = none ∧ (NTup K H x ∨ ∃ t xs, x = .ref t ∧ SqT K H t xs ∧ xs.length ≠ 2)) ∨ ∃ t y z oz, r = some (y, oz) ∧ x = .ref t ∧ SqT K H t [y, z] ∧ Fst K H y ∧ TV K H z oz
theorem VT.kp {K : PySem.W.Frag} {H H' : Hp} {x : V} {r : VD} (e : Kp H H') (h : VT K H x r) : VT K H' x r := by
  rcases h with ⟨h1, h2 | ⟨t, xs, h2, h3, h4⟩⟩ | ⟨t, y, z, oz, h1, h2, h3, h4, h5⟩
  · exact .inl ⟨h1, .inl (h2.kp e)⟩
  · exact .inl ⟨h1, .inr ⟨t, xs, h2, e.tx.tup h3, h4⟩⟩
  · exact .inr ⟨t, y, z, oz, h1, h2, e.tx.tup h3, h4.tx e.tx, h5.kp e⟩
def VTs (K : PySem.W.Frag) (H : Hp) (xs : List V) (rs : List VD) : Prop := xs.length = rs.length ∧ ∀ (i : Nat) (x : V) (r : VD), xs[i]? = some x → rs[i]? = some r → VT K H x r
theorem VTs.kp {K : PySem.W.Frag} {H H' : Hp} {xs : List V} {rs : List VD} (e : Kp H H') (h : VTs K H xs rs) : VTs K H' xs rs := ⟨h.1, fun i x r a b => (h.2 i x r a b).kp e⟩
theorem VTs.nil {K : PySem.W.Frag} {H : Hp} : VTs K H [] [] := ⟨rfl, fun i x r h => by simp at h⟩
theorem VTs.cons {K : PySem.W.Frag} {H : Hp} {xs : List V} {rs : List VD} {x : V} {r : VD} (h : VT K H x r) (t : VTs K H xs rs) : VTs K H (x :: xs) (r :: rs) := by
  refine ⟨by simp [t.1], fun i y s hy hs => ?_⟩
  cases i with
  | zero =>
    simp at hy hs
    subst hy hs
    exact h
  | succ i => exact t.2 i y s (by simpa using hy) (by simpa using hs)
theorem VTs.append {K : PySem.W.Frag} {H : Hp} {xs ys : List V} {rs ss : List VD} (h : VTs K H xs rs) (t : VTs K H ys ss) : VTs K H (xs ++ ys) (rs ++ ss) := by
  refine ⟨by simp [h.1, t.1], fun i y s hy hs => ?_⟩
  by_cases hi : i < xs.length
  · rw [List.getElem?_append_left hi] at hy
    rw [List.getElem?_append_left (by rw [← h.1]; exact hi)] at hs
    exact h.2 i y s hy hs
  · rw [List.getElem?_append_right (by omega)] at hy
    rw [List.getElem?_append_right (by rw [← h.1]; omega), ← h.1] at hs
    exact t.2 _ y s hy hs
theorem fst_str {K : PySem.W.Frag} {H : Hp} {x : Str} (h : SeqAt.shaped (.str x) = true) : Fst K H (.str x) := .inl ⟨x, rfl, h⟩
theorem sh_dry : SeqAt.shaped (.str "dry") = true := by decide +kernel
theorem sh_wet : SeqAt.shaped (.str "wet") = true := by decide +kernel
theorem sh_Dry : SeqAt.shaped (.str "Dry") = true := by decide +kernel
theorem sh_damp : SeqAt.shaped (.str "damp") = true := by decide +kernel
theorem vt_pair {K : PySem.W.Frag} {H : Hp} {t : Addr} {y z : V} {oz : Option (List V)} (h : SqT K H t [y, z]) (h1 : Fst K H y) (h2 : TV K H z oz) : VT K H (.ref t) (some (y, oz)) := .inr ⟨t, y, z, oz, rfl, rfl, h, h1, h2⟩
theorem vt_no {K : PySem.W.Frag} {H : Hp} {x : V} (h : NTup K H x) : VT K H x none := .inl ⟨rfl, .inl h⟩
theorem vt_odd {K : PySem.W.Frag} {H : Hp} {t : Addr} {xs : List V} (h : SqT K H t xs) (hl : xs.length ≠ 2) : VT K H (.ref t) none := .inl ⟨rfl, .inr ⟨t, xs, rfl, h, hl⟩⟩
theorem tv_flat {K : PySem.W.Frag} {H : Hp} {t : Addr} {ys : List V} (h : SqT K H t ys) (hf : ∀ y ∈ ys, Fl3 y) (hl : ys.length ≤ 1000) : TV K H (.ref t) (some ys) := .inr ⟨t, ys, rfl, rfl, h, hf, hl⟩
theorem fl_ints {G : List Int} : ∀ y ∈ vI G, Fl3 y := fun y hy => by obtain ⟨n, _, rfl⟩ := List.mem_map.mp hy; trivial
theorem fl_nats {G : List Nat} : ∀ y ∈ vN G, Fl3 y := fun y hy => by obtain ⟨n, _, rfl⟩ := List.mem_map.mp hy; trivial
theorem fl_cut {xs : List V} {lo hi : Option Int} (h : ∀ y ∈ xs, Fl3 y) : ∀ y ∈ cutV xs lo hi, Fl3 y := fun y hy => h y (cut_mem hy)
theorem fl_app {xs ys : List V} (h : ∀ y ∈ xs, Fl3 y) (g : ∀ y ∈ ys, Fl3 y) : ∀ y ∈ xs ++ ys, Fl3 y := fun y hy => (List.mem_append.mp hy).elim (h y) (g y)
theorem fl_one {x : V} (h : Fl3 x) : ∀ y ∈ [x], Fl3 y := fun y hy => by obtain rfl := List.mem_singleton.mp hy; exact h
theorem ite_word {word : Str} {σ : L2.St} {H : Hp} {Q : VK} (q : Q (.str (if word = "dry" then "wet" else "dry")) H) : if decide (word = "dry") = true then tC (.str "wet") σ H Q else tC (.str "dry") σ H Q := by
  by_cases h : word = "dry"
  · rw [if_pos h] at q
    rw [if_pos (decide_eq_true h)]
    exact q
  · rw [if_neg h] at q
    rw [if_neg (by simp [h])]
    exact q
theorem c_neB {a b : Bool} {H : Hp} {Q : VK} (q : Q (.bl (!decide (a = b))) H) : rNe (.bl a) (.bl b) H Q := ⟨rfl, by
  have e : decide (V.bl a = V.bl b) = decide (a = b) := decide_eq_decide.mpr ⟨fun h => by cases h; rfl, fun h => by rw [h]⟩
  rw [e]; exact q⟩
def rListK : List V → Hp → VK → Prop := fun xs H Q => ∃ (a : Addr) (kvs : List (L2.Key × V)), xs = [.ref a] ∧ Rd H a (.dK kvs) ∧ ∀ p, H p = none → Q (.ref p) (upd H p (.lst (kvs.map fun kv => kV kv.1)))
theorem call_listK {X : Cx} (hc : X.calm = true) : CallR X (.type "list") rListK := call_listD hc
theorem Tx.mutK {H : Hp} {p : Addr} {o : HO} {kvs : List (L2.Key × V)} (hp : H p = some (.dK kvs)) : Tx H (upd H p o) := Tx.mut hp rfl
theorem Kp.mutK {H : Hp} {p : Addr} {xs ys : List (L2.Key × V)} (hp : H p = some (.dK xs)) : Kp H (upd H p (.dK ys)) := by
  refine ⟨Tx.mutK hp, fun a zs h => ?_⟩
  have e : a ≠ p := fun z => by
    subst z
    rcases h with h | ⟨o, h⟩
    · rw [hp] at h; cases h
    · rw [hp] at h; cases h
  refine ⟨zs, ?_⟩
  rcases h with h | ⟨o, h⟩
  · exact .inl (by rw [upd_ne e]; exact h)
  · exact .inr ⟨o, by rw [upd_ne e]; exact h⟩
/-- a true verdict has the word that is told -/
theorem verdV_word {d : Day} (ok : d.Ok) {G W : List Int} (hG : G.length = d.P) (hW : W.length = d.P) (gn : ∀ p, 0 ≤ G.getD p 0) (wn : ∀ p, 0 ≤ W.getD p 0) {word : Str} {oz : Option (List V)} (h : verdV d G W word oz = true) :
    word = if (settled d G W).more.sum = 0 then ("dry" : Str) else "wet" := by
  unfold verdV at h
  by_cases h1 : word = "dry"
  · rw [if_pos h1] at h
    cases oz with
    | none => cases h
    | some cs =>
      have h' : (sOk d (vI G) && cOk d cs && planB d ((vI G).map intV) W (cs.map intV)) = true := h
      rw [Bool.and_eq_true, Bool.and_eq_true, vI_intV] at h'
      obtain ⟨⟨_, hc⟩, hp⟩ := h'
      unfold cOk at hc
      rw [Bool.and_eq_true] at hc
      have hl : cs.length = d.ws.length := of_decide_eq_true hc.1
      have hcs := carAll_int hl hc.2
      have hcl : (cs.map intV).length = d.ws.length := by rw [List.length_map, hl]
      have hget : ∀ i w, d.ws[i]? = some w → w.wi ≤ (cs.map intV).getD i 0 ∧ (cs.map intV).getD i 0 ≤ (w.r : Int) := by
        intro i w hw
        have hi : i < cs.length := by rw [hl]; exact (List.getElem?_eq_some_iff.mp hw).1
        have hci : cs[i]? = some cs[i] := List.getElem?_eq_getElem hi
        have := isFromV_int (carAll_get hw hci hc.2)
        rw [List.getD_eq_getElem?_getD, List.getElem?_map, hci]
        exact ⟨this.2.1, this.2.2⟩
      have F := feas_planB ok hcl hG hW (fun i w hw => (hget i w hw).1) (fun i w hw => (hget i w hw).2) hp
      have hd := of_decide_eq_true (feas_dry ok hG hW gn wn F)
      rw [if_pos hd, h1]
  · rw [if_neg h1] at h
    by_cases h2 : word = "wet"
    · rw [if_pos h2] at h
      have hnot : ¬ (settled d G W).more.sum = 0 := by
        intro hz
        cases oz with
        | none => cases h
        | some ys =>
          have h' : (match lineAns d W ys with | .int n => decide (inside d G (kOf (ys.map natV)) < n) | _ => false) = true := h
          by_cases hans : ys.length = d.P ∧ ys.all (fun x => isFromV x 0 ((d.T + 1 : Nat) : Int)) = true
          · have ha : lineAns d W ys = .int (shows d W (kOf (ys.map natV))) := by unfold lineAns; rw [if_pos hans]
            rw [ha] at h'
            have hlt := of_decide_eq_true h'
            have hb := (allFrom hans.2).2
            have := feas_shows ok gn (dry_feas ok hG hW gn wn hz) (kOf (ys.map natV)) (fun p _ => kOf_le hb p)
            omega
          · have ha : lineAns d W ys = .non := by unfold lineAns; rw [if_neg hans]
            rw [ha] at h'
            cases h'
      rw [if_neg hnot, h2]
    · rw [if_neg h2] at h
      cases h
end HX

/-! sorted of a list or a tuple of walks; a tuple turned round; a list unpacked. -/
namespace HX
open PySem PySem.Spec PyProof.Rows L2 Dry
section
variable {prog : Program} {w : World} {A : Around} {E : Value → Shared → Prop} {s : Shared}
/-- what a list or a tuple holds, collected -/
theorem collectQ {l : Addr} {T : String} {us : List Value} {n : Nat} {ob : Obj} {Q : List Value → Shared → Prop} (hT : T = "list" ∨ T = "tuple") (hg : s.heap.get? l = some ob) (hcl : ob.cls = .type T) (hdt : ob.data = .seq us.toArray n) (hz : us.length ≤ sizeLine)
    (q : Q us { s with heap := (s.heap.push (seqObj "list" #[] 0)).update s.heap.objs.size (Obj.mapSeq (· ++ us.toArray)) }) : wpAny (model prog w) A (collect (.ref l)) Q E s := by
  unfold collect
  refine wpAny_bind (wpAny_runValue (codeAny_builtin entry_proto_collect' ?_))
  show wpAny _ _ (do again (.builtin "list.__iadd__" ⟨[← newList [], .ref l], []⟩)) _ _ s
  refine wpAny_bind (wpAny_newList (wpAny_pure ⟨Code.quiet_builtin _ (by decide +kernel), codeAny_builtin entry_list_iadd' ?_⟩))
  show wpAny _ _ (Builtin.List.listExtendWith (.ref s.heap.objs.size) (.ref l) (.ref s.heap.objs.size)) _ _ { s with heap := s.heap.push (seqObj "list" #[] 0) }
  unfold Builtin.List.listExtendWith
  have hg1 : (s.heap.push (seqObj "list" #[] 0)).get? l = some ob := Heap.get?_push_of_some _ hg
  refine wpAny_bind (wpAny_typeOf (T := T) ⟨ob, hg1, hcl⟩ ?_)
  have hyes : (Value.type T == Value.type "list" || Value.type T == Value.type "tuple") = true := by
    rcases hT with rfl | rfl <;> rfl
  rw [if_pos (by rw [Bool.or_assoc, hyes, Bool.or_true])]
  refine wpAny_bind (listItems_at hg1 hdt (wpAny_bind (listItems_at (xs := #[]) (n := 0) (Heap.get?_push_size _ rfl) rfl ?_)))
  rw [if_neg (by simp)]
  have hz1 : (#[] ++ us.toArray).size ≤ sizeLine + 1 := by
    simp only [Array.size_append, List.size_toArray, List.length_nil]
    omega
  refine wpAny_bind (listUpdate_at (xs := #[]) (n := 0) (Heap.get?_push_size _ rfl) rfl (wpAny_pure ?_) (Nat.zero_le _) hz1)
  show wpAny (model prog w) A (load s.heap.objs.size >>= fun o => match o.data with
      | .seq xs _ => pure xs.toList
      | _ => unsupported "internal:collect") Q E _
  refine wpAny_bind (wpAny_load (get?_update_seq (Heap.get?_push_size _ rfl) _) ?_)
  have e : ((#[] : Array Value) ++ us.toArray).toList = us := by simp
  show wpAny _ _ (pure ((#[] : Array Value) ++ us.toArray).toList) Q E _
  rw [e]
  exact wpAny_pure q
/-- a slice object with the step -1, applied -/
theorem sliceBack {sl : Addr} {t : Tok} {n : Nat} {Q : Int × Int × Nat → Shared → Prop} (hs : s.heap.IsSliceOf sl .none .none (.int (-1) t)) (q : Q ((n : Int) - 1, -1, n) s) : wpAny (model prog w) A (Builtin.Slice.sliceApplied (.ref sl) (pure (n : Int))) Q E s := by
  obtain ⟨ob, hg, hcl, hdt⟩ := id hs
  unfold Builtin.Slice.sliceApplied Builtin.Slice.sliceFields
  refine wpAny_bind (wpAny_bind (wpAny_field hg hdt (x := .none) rfl (wpAny_bind (wpAny_field hg hdt (x := .none) rfl (wpAny_bind (wpAny_field hg hdt (x := .int (-1) t) rfl (wpAny_pure ?_)))))))
  refine wpAny_bind (slicePart_int ?_)
  show wpAny _ _ (if ((-1 : Int) == 0) = true then _ else _) _ _ s
  rw [if_neg (by decide)]
  refine wpAny_bind (slicePart_none (wpAny_bind (slicePart_none (wpAny_bind (wpAny_pure ?_)))))
  have e1 : Builtin.Slice.sliceAdjust none none (-1) (n : Int) = ((n : Int) - 1, -1) := by
    unfold Builtin.Slice.sliceAdjust
    simp
  have e2 : Builtin.Slice.slicePlaces ((n : Int) - 1) (-1) (-1) = n := by
    unfold Builtin.Slice.slicePlaces
    simp
    omega
  show wpAny _ _ (match Builtin.Slice.sliceAdjust none none (-1) (n : Int) with | (lo, hi) => pure (lo, (-1 : Int), Builtin.Slice.slicePlaces lo hi (-1))) _ _ s
  rw [e1]
  show wpAny _ _ (pure ((n : Int) - 1, (-1 : Int), Builtin.Slice.slicePlaces ((n : Int) - 1) (-1) (-1))) _ _ s
  rw [e2]
  exact wpAny_pure q
theorem pickBack (xs : Array Value) : ((List.range xs.size).filterMap fun (m : Nat) => xs[(((xs.size : Int) - 1) + (m : Int) * (-1)).toNat]?).toArray = xs.toList.reverse.toArray := by
  congr 1
  apply List.ext_getElem?
  intro i
  have key : ∀ n, n ≤ xs.size → ((List.range n).filterMap fun (m : Nat) => xs[(((xs.size : Int) - 1) + (m : Int) * (-1)).toNat]?) = (xs.toList.reverse).take n := by
    intro n
    induction n with
    | zero => intro _; rfl
    | succ n ih =>
      intro hn
      rw [List.range_succ, List.filterMap_append, ih (by omega)]
      have hi : (((xs.size : Int) - 1) + (n : Int) * (-1)).toNat = xs.size - 1 - n := by omega
      have hb : n < xs.toList.reverse.length := by rw [List.length_reverse, Array.length_toList]; omega
      have hb2 : xs.size - 1 - n < xs.size := by omega
      rw [List.take_succ_eq_append_getElem hb]
      congr 1
      have hx : xs[(((xs.size : Int) - 1) + (n : Int) * (-1)).toNat]? = some xs[xs.size - 1 - n] := by rw [hi, Array.getElem?_eq_getElem hb2]
      rw [List.filterMap_cons_some (f := fun (m : Nat) => xs[(((xs.size : Int) - 1) + (m : Int) * (-1)).toNat]?) (b := xs[xs.size - 1 - n]) hx]
      simp [List.getElem_reverse]
  rw [key xs.size (Nat.le_refl _), List.take_of_length_le (by simp)]
theorem itemBack {t sl : Addr} {tk : Tok} {items : Array Value} {Q : Value → Shared → Prop} (ht : IsTup s.heap t items) (hs : s.heap.IsSliceOf sl .none .none (.int (-1) tk))
    (q : Q (.ref s.heap.objs.size) { s with heap := s.heap.push { cls := .type "tuple", data := .seq items.toList.reverse.toArray } }) (hz : items.size ≤ sizeLine) : wpAny (model prog w) A (getItem (.ref t) (.ref sl)) Q E s := by
  have hroom : sizeOk (.seq items.toList.reverse.toArray) := by
    show items.toList.reverse.toArray.size ≤ sizeLine
    simpa using hz
  obtain ⟨ob, hg, hcl, hdt⟩ := id hs
  have hT : s.TypeIs (.ref sl) "slice" := ⟨ob, hg, hcl⟩
  unfold getItem
  try with_reducible refine wpAny_holding ?_
  first | refine wpAny_bind (wpAny_pure ?_) | skip
  refine wpAny_bind (wpAny_sequenceKey ht.typeIs (by decide) (wpAny_bind (wpAny_callSpecial?_slot (name := Str.ofString "__getitem__") ht.typeIs PyProof.Rows.slot_tuple_getitem
    (wpAny_call_entry PyProof.Rows.slot_tuple_getitem ht.typeIs entry_tuple_getitem ?_ (args_tuple_getitem _ _)))))
  show wpAny _ _ (Builtin.Tuple.tupleItemsOf (.ref t) >>= _) _ _ s
  refine wpAny_bind (tupleItemsOf_ ht (wpAny_bind (wpAny_typeOf hT ?_)))
  rw [if_pos (by decide)]
  refine wpAny_bind (sliceBack (n := items.size) hs ?_)
  have hno : ¬ ((((items.size : Int) - 1) == 0 && (-1 : Int) == 1 && items.size == items.size) = true) := by simp
  show wpAny _ _ (if (((items.size : Int) - 1) == 0 && (-1 : Int) == 1 && items.size == items.size) = true then _ else _) _ _ s
  rw [if_neg hno, pickBack]
  first
    | exact wpAny_bind (m := Builtin.Tuple.tupleExact _) (wpAny_newObj_type (wpAny_pure ⟨_, rfl, wpAny_pure q⟩) hroom)
    | exact wpAny_bind (m := Builtin.Tuple.tupleExact _) (wpAny_newObj_type (wpAny_bind (wpAny_pure (wpAny_pure ⟨_, rfl, wpAny_pure q⟩))) hroom)
    | exact wpAny_bind (wpAny_bind (m := Builtin.Tuple.tupleExact _) (wpAny_newObj_type (wpAny_pure (wpAny_pure ⟨_, rfl, wpAny_pure q⟩)) hroom))
    | exact wpAny_bind (wpAny_bind (m := Builtin.Tuple.tupleExact _) (wpAny_newObj_type (wpAny_pure ⟨_, rfl, wpAny_pure q⟩) hroom))
end
/-! ### t[::-1] -/
def tRevT (K : PySem.W.Frag) (te : TE) : TE := fun σ H Q => te σ H fun x H1 => ∃ a xs, x = .ref a ∧ SqT K H1 a xs ∧ ∀ p, H1 p = none → Q (.ref p) (upd H1 p (.tup xs.reverse))
theorem pe_revT {X : Cx} {e : Expr} {te : TE} {k : Nat} {p1 p2 p3 pos : Pos} (he : PE X e te) : PE X (.Subscript e (.Slice none none (some (.UnaryOp .USub (.Constant (.int 1) k p1) p2)) p3) pos) (tRevT X.K te) := by
  refine ⟨fun pins s σ H Q I h => Subscript_ (thn (he.run pins s σ H _ I h) fun v s1 ⟨x, H1, I1, r1, q1⟩ => ?_)⟩
  obtain ⟨a, xs, ex, hx, q⟩ := q1
  subst ex
  cases r1
  have hm1 : PO X (some (.UnaryOp .USub (.Constant (.int 1) k p1) p2)) (tPart (tUn (rU fun i => .int (-i)) (tC (.int 1)))) := po_some (pe_un un_neg pe_int)
  refine wpAny_Slice (thn (po_none.run pins s1 σ H1 (fun o H2 => o = none ∧ H2 = H1) I1 ⟨rfl, rfl⟩) fun vl s2 ⟨l, H2, I2, pl, el, e2⟩ => thn (po_none.run pins s2 σ H2 (fun o H3 => o = none ∧ H3 = H2) I2 ⟨rfl, rfl⟩) fun vu s3 ⟨u, H3, I3, pu, eu, e3⟩ => ?_)
  subst el e2 eu e3
  cases pl
  cases pu
  refine thn (hm1.run pins s3 σ H3 (fun o H4 => o = some (-1) ∧ H4 = H3) I3 ⟨1, rfl, -1, rfl, rfl, rfl⟩) fun vs s4 ⟨o, H4, I4, ps, eo, e4⟩ => ?_
  subst eo e4
  cases ps with
  | int i tk =>
    have I5 : Inv X pins σ H4 { s4 with heap := s4.heap.push { cls := .type "slice", data := .fields #[.none, .none, .int (-1) tk] } } := I4.kept (t' := s4.toks) fun b ob q => Heap.get?_push_of_some _ q
    obtain ⟨its, r, ht, hz⟩ := I5.tuple hx
    have hlen := r.length
    show wpAny (model X.prog X.w) X.A (subscriptTail e (.Slice none none (some (.UnaryOp .USub (.Constant (.int 1) k p1) p2)) p3) (.ref a) (.ref s4.heap.objs.size)) (EP X pins σ Q) X.xe _
    refine tail_any (ops := [.ref a, .ref s4.heap.objs.size]) ht.typeIs (PyProof.Rows.slot_tuple_getitem.lookup) ?_ (by with_unfolding_all rfl)
    refine itemBack ht (Heap.IsSliceOf.new _ .none .none (.int (-1) tk)) ?_ (by rw [List.size_toArray]; omega)
    refine ⟨.ref _, _, I5.laid (t' := s4.toks) (o := .tup xs.reverse) (fun b ob q => Heap.get?_push_of_some _ q) (Nat.le_refl _) ?_, rfl, q _ (I5.hok.fresh (Nat.le_refl _))⟩
    exact ⟨by rw [List.length_reverse]; exact hz, _, r.reverse, IsTup.new _ _⟩
theorem c_revT {K : PySem.W.Frag} {te : TE} {σ : L2.St} {H : Hp} {Q : VK} (q : te σ H fun x H1 => ∃ a xs, x = .ref a ∧ SqT K H1 a xs ∧ ∀ p, H1 p = none → Q (.ref p) (upd H1 p (.tup xs.reverse))) : tRevT K te σ H Q := q
/-! ### sorted -/
theorem perm_of_map {α β : Type} {f : β → α} {l m : List α} (h : l.Perm m) : ∀ L : List β, m = L.map f → ∃ L' : List β, L'.Perm L ∧ l = L'.map f := by
  induction h with
  | nil =>
    intro L e
    cases L with
    | nil => exact ⟨[], .nil, rfl⟩
    | cons _ _ => cases e
  | cons x _ ih =>
    intro L e
    cases L with
    | nil => cases e
    | cons q L =>
      rw [List.map_cons] at e
      injection e with e1 e2
      obtain ⟨L', p, e3⟩ := ih L e2
      exact ⟨q :: L', p.cons q, by rw [List.map_cons, e1, e3]⟩
  | swap x y l =>
    intro L e
    match L, e with
    | p :: q :: L, e =>
      simp only [List.map_cons, List.cons.injEq] at e
      exact ⟨q :: p :: L, .swap p q L, by simp [e.1, e.2.1, e.2.2]⟩
  | trans _ _ ih1 ih2 =>
    intro L e
    obtain ⟨L1, p1, e1⟩ := ih2 L e
    obtain ⟨L2, p2, e2⟩ := ih1 L1 e1
    exact ⟨L2, p2.trans p1, e2⟩
def rSortedQ (K : PySem.W.Frag) : List V → Hp → VK → Prop := fun vs H Q => ∃ (b : Bool) (a : Addr) (xs : List V) (ws : List Wk), vs = [V.ref a] ∧ SqB K b H a xs ∧ Wks K H xs ws ∧ ws.length < 64 ∧ (∀ v ∈ ws, TS.Bd 1000 (wkN v)) ∧
  ∀ (ys : List V) (us : List Wk) (p : Addr), us.Perm ws → us.Pairwise (fun v u => TS.code 1000 (wkN v) ≤ TS.code 1000 (wkN u)) → H p = none → Wks K H ys us → ys.length = us.length → Q (.ref p) (upd H p (.lst ys))
theorem wks_pairs {K : PySem.W.Frag} {H : Hp} : ∀ {xs : List V} {ws : List Wk}, Wks K H xs ws → ∃ L : List (Wk × Addr), xs = L.map (fun q => V.ref q.2) ∧ ws = L.map (·.1) ∧ ∀ q ∈ L, SqT K H q.2 (wkV q.1)
  | [], ws, h => by
    have : ws = [] := List.eq_nil_of_length_eq_zero h.len.symm
    subst this
    exact ⟨[], rfl, rfl, fun q hq => nomatch hq⟩
  | x :: xs, [], h => by cases h.len
  | x :: xs, v :: ws, h => by
    obtain ⟨a, h1, h2⟩ := h.at_ 0 v rfl
    simp at h1
    have ht : Wks K H xs ws := ⟨by have := h.len; simpa using this, fun i u hu => by
      obtain ⟨b, g1, g2⟩ := h.at_ (i + 1) u (by simpa using hu)
      exact ⟨b, by simpa using g1, g2⟩⟩
    obtain ⟨L, e1, e2, e3⟩ := wks_pairs ht
    refine ⟨(v, a) :: L, by rw [List.map_cons, h1, e1], by rw [List.map_cons, e2], fun q hq => ?_⟩
    rcases List.mem_cons.mp hq with rfl | hq
    · exact h2
    · exact e3 q hq
theorem items_at {b : Bool} {h : Heap} {a : Addr} {its : Array Value} (p : ItemsB b h a its) : ∃ ob n, h.get? a = some ob ∧ ob.cls = .type (if b then "tuple" else "list") ∧ ob.data = .seq its n := by
  cases b with
  | false => obtain ⟨ob, h1, h2, n, h3⟩ := p; exact ⟨ob, n, h1, h2, h3⟩
  | true => obtain ⟨ob, h1, h2, n, h3⟩ := p; exact ⟨ob, n, h1, h2, h3⟩
theorem cr_sortedQ {X : Cx} : CallR X (.builtin "sorted") (rSortedQ X.K) := by
  intro pins s σ H vs us Q I r h
  obtain ⟨b, a, xs, ws, rfl, hs, hw, h64, hB, q⟩ := h
  obtain ⟨L, rfl, rfl, hL⟩ := wks_pairs hw
  rw [List.length_map] at h64
  obtain ⟨its, rv, hit, _⟩ := seqB I hs
  rw [Vals.ref1 r]
  have hS : its = L.map fun q => Value.ref q.2 := by
    clear hit hw hs q h64 hB
    have : ∀ (L : List (Wk × Addr)) (its : List Value), Vals (L.map fun q => V.ref q.2) its → its = L.map fun q => Value.ref q.2 := by
      intro L
      induction L with
      | nil => intro its rv; cases rv; rfl
      | cons p L ih =>
        intro its rv
        cases rv with
        | cons r1 r2 =>
          cases r1
          rw [List.map_cons, ih _ r2]
    exact this L its rv
  have hil : its.length = L.length := by rw [hS, List.length_map]
  obtain ⟨ob, n, hg, hcl, hdt⟩ := items_at hit
  refine Calls.call_function_entry PyProof.Rows.kind_sorted PyProof.Rows.plain_sorted PyProof.Rows.entry_sorted (PyProof.Rows.args_sorted1 _) ?_
  unfold Builtin.«sorted»
  refine wpAny_bind (m := checkCount "sorted" 1 1 _) (wpAny_pure (wpAny_bind (collectQ (T := if b then "tuple" else "list") (by cases b <;> simp) hg hcl hdt (by rw [hil, sizeLine_eq]; omega) (wpAny_bind (wpAny_newList ?_ (by rw [hil, sizeLine_eq]; omega))))))
  generalize hh1 : (s.heap.push (seqObj "list" #[] 0)).update s.heap.objs.size (Obj.mapSeq (· ++ its.toArray)) = h1
  have hs1 : h1.objs.size = s.heap.objs.size + 1 := by rw [← hh1, Heap.size_update, size_push']
  have old1 : ∀ c u, s.heap.get? c = some u → h1.get? c = some u := fun c u e => by
    have hlt := Heap.lt_size e
    rw [← hh1, Heap.get?_update_ne _ _ _ _ (Nat.ne_of_lt hlt)]
    exact Heap.get?_push_of_some _ e
  have hoL : (h1.push (seqObj "list" its.toArray 0)).get? h1.objs.size = some (seqObj "list" its.toArray 0) := Heap.get?_push_size _ rfl
  have old2 : ∀ c u, s.heap.get? c = some u → (h1.push (seqObj "list" its.toArray 0)).get? c = some u := fun c u e => Heap.get?_push_of_some _ (old1 c u e)
  have tk1 : ∀ q ∈ L, TupNums wkK (h1.push (seqObj "list" its.toArray 0)) (.ref q.2) (wkN q.1) := fun q hq => (wk_at I (hL q hq)).2.keeps fun c u e _ => old2 c u e
  have x : NumsOk wkK (h1.push (seqObj "list" its.toArray 0)) 1000 its := fun v hv => by
    rw [hS] at hv
    obtain ⟨q, hq, rfl⟩ := List.mem_map.mp hv
    exact ⟨_, tk1 q hq, hB q.1 (List.mem_map.mpr ⟨q, hq, rfl⟩)⟩
  let rk : Value → Int := fun v => match L.find? (fun q => decide (Value.ref q.2 = v)) with
    | some q => TS.code 1000 (wkN q.1)
    | none => 0
  have rk_eq : ∀ q ∈ L, rk (.ref q.2) = TS.code 1000 (wkN q.1) := fun q hq => by
    show (match L.find? (fun p => decide (Value.ref p.2 = Value.ref q.2)) with
      | some q => TS.code 1000 (wkN q.1)
      | none => 0) = _
    cases e : L.find? (fun p => decide (Value.ref p.2 = Value.ref q.2)) with
    | none =>
      have := List.find?_eq_none.mp e q hq
      simp at this
    | some p =>
      have g1 := List.mem_of_find?_eq_some e
      have g2 := List.find?_some e
      simp at g2
      have t1 := tk1 p g1
      rw [g2] at t1
      show TS.code 1000 (wkN p.1) = _
      rw [t1.inj (tk1 q hq)]
  refine wpAny_bind (wpAny_holding (wpAny_call_entry PyProof.Rows.slot_list_sort ⟨_, hoL, rfl⟩ PyProof.Rows.entry_list_sort
    (sort_nums (ks := [false, false, true, false]) (s := { s with heap := h1.push (seqObj "list" its.toArray 0) }) hoL (by rw [hil]; exact h64) x rk (fun v hv ns t => ?_) fun out g1 g2 => ⟨_, rfl, ?_⟩) (PyProof.Rows.args_list_sort _)))
  · rw [hS] at hv
    obtain ⟨q, hq, rfl⟩ := List.mem_map.mp hv
    rw [rk_eq q hq, t.inj (tk1 q hq)]
  · obtain ⟨e', he'⟩ := PyProof.Rows.sortedHeap_at (vs := its) (out := out) hoL
    obtain ⟨L', pL, hout⟩ := perm_of_map g1 L hS
    have hm : ∀ q ∈ L', q ∈ L := fun q hq => pL.mem_iff.mp hq
    have pw : (L'.map (·.1)).Pairwise (fun v u => TS.code 1000 (wkN v) ≤ TS.code 1000 (wkN u)) := by
      rw [hout] at g2
      rw [List.pairwise_map]
      refine List.Pairwise.imp_of_mem (fun {q r} hq hr hle => ?_) (List.pairwise_map.mp g2)
      rw [← rk_eq q (hm q hq), ← rk_eq r (hm r hr)]
      exact hle
    have hlen : (L'.map fun q => V.ref q.2).length ≤ sizeLine := by
      rw [List.length_map, pL.length_eq]
      exact Nat.le_trans (Nat.le_of_lt h64) (by decide)
    have I1 : Inv X pins σ H { s with heap := h1 } := I.kept (t' := s.toks) fun c u e => old1 c u e
    have hn : H h1.objs.size = none := I1.hok.fresh (Nat.le_refl _)
    refine wpAny_pure ⟨_, rfl, .ref h1.objs.size, upd H h1.objs.size (.lst (L'.map fun q => V.ref q.2)), I1.laid (t' := s.toks) (fun c u e => ?_) (Nat.le_refl _) ⟨hlen, out.toList, e', by rw [hout]; exact vals_refs2 L', by rw [Array.toArray_toList]; exact he'⟩, rfl, q _ _ _ (pL.map (·.1)) pw hn (wks_of fun q hq => hL q (hm q hq)) (by simp)⟩
    have hlt := Heap.lt_size e
    show (sortedHeap (h1.push (seqObj "list" its.toArray 0)) h1.objs.size its out).get? c = some u
    rw [sortedHeap_old (Nat.ne_of_lt hlt) (by rw [size_push']; exact Nat.lt_succ_of_lt hlt)]
    exact Heap.get?_push_of_some _ e
theorem c_glst {K : PySem.W.Frag} {n : Nat} {t : TGs} {a : Addr} {xs : List V} {σ : L2.St} {H : Hp} {Q : L2.St → Hp → Prop} (h : SqL K H a xs) (hn : xs.length = n) (q : t xs σ H Q) : gLst K n t (.ref a) σ H Q := ⟨a, xs, rfl, h, hn, q⟩
end HX

/-! In a tuple of walks; rows of walks put together. -/
namespace HX
open PySem PySem.Spec PyProof.Rows L2 Dry
def rInT (K : PySem.W.Frag) : R2 := fun x y H Q => ∃ d ds, Dp K H x d ∧ Dp K H y (.tuple ds) ∧ SeqAt.shaped d = true ∧ SeqAt.shaped (.tuple ds) = true ∧ Q (.bl (ds.any fun z => PyData.eqv z d)) H
def rNotInT (K : PySem.W.Frag) : R2 := fun x y H Q => ∃ d ds, Dp K H x d ∧ Dp K H y (.tuple ds) ∧ SeqAt.shaped d = true ∧ SeqAt.shaped (.tuple ds) = true ∧ Q (.bl (!ds.any fun z => PyData.eqv z d)) H
theorem op_inT {X : Cx} (hu : X.A.units + 65 < cLine) : OpR X (compareOp .In) (rInT X.K) := by
  intro pins s σ H x y v u Q I rx ry ⟨d, ds, hd, he, sd, se, q⟩
  obtain ⟨as, r1⟩ := Dp.reads I d x v hd rx
  obtain ⟨bs, r2⟩ := Dp.reads I (.tuple ds) y u he ry
  exact SeqAt.in_tuple_reads r2 r1 (SeqAt.canLay_of_shaped se) (SeqAt.canLay_of_shaped sd) (room_in_shaped sd hu) ⟨.bl _, H, I, rfl, q⟩
theorem op_notInT {X : Cx} (hu : X.A.units + 65 < cLine) : OpR X (compareOp .NotIn) (rNotInT X.K) := by
  intro pins s σ H x y v u Q I rx ry ⟨d, ds, hd, he, sd, se, q⟩
  obtain ⟨as, r1⟩ := Dp.reads I d x v hd rx
  obtain ⟨bs, r2⟩ := Dp.reads I (.tuple ds) y u he ry
  exact SeqAt.notIn_tuple_reads r2 r1 (SeqAt.canLay_of_shaped se) (SeqAt.canLay_of_shaped sd) (room_in_shaped sd hu) ⟨.bl _, H, I, rfl, q⟩
section
variable {K : PySem.W.Frag} {H : Hp} {Q : VK} {a b : Addr}
theorem dp_wks {xs : List V} {ws : List Wk} (h : Wks K H xs ws) : DpAll K H xs (ws.map wkD) := by
  refine dpAll_of xs _ (by rw [h.len, List.length_map]) fun i v dd h1 h2 => ?_
  obtain ⟨w, c, g1, rfl, g3⟩ := h.get h1
  rw [List.getElem?_map, g1] at h2
  cases h2
  exact dp_wk g3
theorem wks_lay : ∀ ws : List Wk, PyData.canLayAll0 (ws.map wkD) = true ∧ PyData.depthAll (ws.map wkD) ≤ 1
  | [] => ⟨by simp [PyData.canLayAll0], by simp [PyData.depthAll]⟩
  | w :: ws => by
    obtain ⟨h1, h2⟩ := wks_lay ws
    exact ⟨by simp [PyData.canLayAll0, PyData.canLay0, wkD, h1], by simp [PyData.depthAll, PyData.depth, wkD]; omega⟩
theorem wks_shaped (ws : List Wk) : SeqAt.shaped (.tuple (ws.map wkD)) = true := by
  obtain ⟨h1, h2⟩ := wks_lay ws
  show (PyData.canLay0 _ && decide (PyData.depth _ ≤ 64)) = true
  simp [PyData.canLay0, PyData.depth, h1]; omega
theorem wk_shaped (w : Wk) : SeqAt.shaped (wkD w) = true := by
  show (PyData.canLay0 _ && decide (PyData.depth _ ≤ 64)) = true
  simp [wkD, PyData.canLay0, PyData.canLayAll0, PyData.depth, PyData.depthAll]
theorem c_inT {xs : List V} {ws : List Wk} {w : Wk} (h : SqT K H a (wkV w)) (hs : SqT K H b xs) (hw : Wks K H xs ws) (q : ∀ k, Q (.bl k) H) : rInT K (.ref a) (.ref b) H Q :=
  ⟨_, _, dp_wk h, .tup hs (dp_wks hw), wk_shaped w, wks_shaped ws, q _⟩
theorem c_notInT {xs : List V} {ws : List Wk} {w : Wk} (h : SqT K H a (wkV w)) (hs : SqT K H b xs) (hw : Wks K H xs ws) (q : ∀ k, Q (.bl k) H) : rNotInT K (.ref a) (.ref b) H Q :=
  ⟨_, _, dp_wk h, .tup hs (dp_wks hw), wk_shaped w, wks_shaped ws, q _⟩
theorem c_neEmpty {xs : List V} {ws : List Wk} (hs : SqT K H a xs) (hw : Wks K H xs ws) (hb : SqT K H b []) (q : Q (.bl (!ws.isEmpty)) H) : rNeD K (.ref a) (.ref b) H Q := by
  refine ⟨_, _, .tup hs (dp_wks hw), .tup hb .nil, wks_shaped ws, by decide +kernel, ?_⟩
  have e : PyData.eqv (.tuple (ws.map wkD)) (.tuple []) = ws.isEmpty := by
    cases ws <;> simp [PyData.eqv, PyData.eqvAll]
  rw [e]
  exact q
end
theorem _root_.HX.Wks.append {K : PySem.W.Frag} {H : Hp} {xs ys : List V} {us vs : List Wk} (h1 : Wks K H xs us) (h2 : Wks K H ys vs) : Wks K H (xs ++ ys) (us ++ vs) := by
  refine ⟨by simp [h1.len, h2.len], fun i w hw => ?_⟩
  by_cases hi : i < us.length
  · rw [List.getElem?_append_left hi] at hw
    rw [List.getElem?_append_left (by rw [h1.len]; exact hi)]
    exact h1.at_ i w hw
  · rw [List.getElem?_append_right (by omega)] at hw
    rw [List.getElem?_append_right (by rw [h1.len]; omega), h1.len]
    exact h2.at_ _ w hw
theorem _root_.HX.Wks.one {K : PySem.W.Frag} {H : Hp} {a : Addr} {w : Wk} (h : SqT K H a (wkV w)) : Wks K H [.ref a] [w] := by
  refine ⟨rfl, fun i v hv => ?_⟩
  cases i with
  | zero => simp at hv; subst hv; exact ⟨a, rfl, h⟩
  | succ i => simp at hv
theorem _root_.HX.Wks.take {K : PySem.W.Frag} {H : Hp} {xs : List V} {us : List Wk} (h : Wks K H xs us) (n : Nat) : Wks K H (xs.take n) (us.take n) := by
  refine ⟨by simp [h.len], fun i w hw => ?_⟩
  rw [List.getElem?_take] at hw ⊢
  split at hw
  · rename_i hi
    rw [if_pos hi]
    exact h.at_ i w hw
  · cases hw
theorem _root_.HX.Wks.drop {K : PySem.W.Frag} {H : Hp} {xs : List V} {us : List Wk} (h : Wks K H xs us) (n : Nat) : Wks K H (xs.drop n) (us.drop n) := by
  refine ⟨by simp [h.len], fun i w hw => ?_⟩
  rw [List.getElem?_drop] at hw ⊢
  exact h.at_ _ w hw
theorem _root_.HX.Wks.snoc {K : PySem.W.Frag} {H : Hp} {xs : List V} {us : List Wk} {a : Addr} {w : Wk} (h : Wks K H xs us) (hw : SqT K H a (wkV w)) : Wks K H (xs ++ [.ref a]) (us ++ [w]) := h.append (.one hw)
theorem _root_.HX.Wks.nil {K : PySem.W.Frag} {H : Hp} : Wks K H [] [] := ⟨rfl, fun i w h => by simp at h⟩
theorem cut_lo (xs : List V) (i : Nat) : cutV xs none (some (i : Int)) = xs.take i := by
  unfold cutV
  have e1 : HT.sIx xs.length 0 none = 0 := rfl
  rw [e1, HT.sIx_nat, List.drop_zero, Nat.sub_zero]
  by_cases h : i ≤ xs.length
  · rw [Nat.min_eq_left h]
  · rw [Nat.min_eq_right (by omega), List.take_of_length_le (Nat.le_refl _), List.take_of_length_le (by omega)]
theorem cut_hi (xs : List V) (i : Nat) : cutV xs (some ((i : Int) + 1)) none = xs.drop (i + 1) := by
  unfold cutV
  have e1 : HT.sIx xs.length xs.length none = xs.length := rfl
  rw [e1, show ((i : Int) + 1) = ((i + 1 : Nat) : Int) by omega, HT.sIx_nat]
  by_cases h : i + 1 ≤ xs.length
  · rw [Nat.min_eq_left h, List.take_of_length_le (by rw [List.length_drop]; exact Nat.le_refl _)]
  · rw [Nat.min_eq_right (by omega), Nat.sub_self, List.take_zero, List.drop_eq_nil_of_le (by omega)]
theorem cut4 {a b c x y : V} : cutV [a, b, c, x, y] none (some 4) = [a, b, c, x] := rfl
theorem mid_perm {ws : List Wk} {i : Nat} {w : Wk} (h : ws[i]? = some w) : (w :: (ws.take i ++ ws.drop (i + 1))).Perm ws := by
  obtain ⟨hi, rfl⟩ := List.getElem?_eq_some_iff.mp h
  have e : ws = ws.take i ++ ws[i] :: ws.drop (i + 1) := by
    rw [List.getElem_cons_drop hi]
    exact (List.take_append_drop i ws).symm
  conv => rhs; rw [e]
  exact List.perm_middle.symm
theorem wkB_bd {P T : Nat} {ws : List Wk} (h : ∀ w ∈ ws, WkB P T w) (hP : P ≤ 1000) (hT : T ≤ 1000) : ∀ v ∈ ws, TS.Bd 1000 (wkN v) := fun v hv => (h v hv).bd hP hT
theorem wkB_ok {P T : Nat} {ws : List Wk} (h : ∀ w ∈ ws, WkB P T w) : (⟨P, T, ws⟩ : Day).Ok := ⟨fun w hw => (h w hw).h, fun w hw => (h w hw).b, fun w hw => (h w hw).e, fun w hw => (h w hw).r1⟩
theorem wkB_wet {P T : Nat} {w : Wk} (h : WkB P T w) : WkB P T (wetWk w) := ⟨h.h, h.b, h.e, h.ne, h.r1, h.r3⟩
theorem wkB_wide {P T : Nat} {w : Wk} (h : WkB P T w) : WkB P T (wideWk w) := ⟨h.h, h.b, h.e, h.ne, by show 1 ≤ min 3 (w.r + 1); omega, by show min 3 (w.r + 1) ≤ 3; omega⟩
theorem wkB_back {P T : Nat} {w : Wk} (h : WkB P T w) : WkB P T (backWk T w) := ⟨by show T - 1 - w.h < T; have := h.h; omega, h.e, h.b, fun e => h.ne e.symm, h.r1, h.r3⟩
theorem wkB_turn {P T : Nat} {w : Wk} (h : WkB P T w) : WkB P T (turnWk P w) := by
  have h1 := h.b
  have h2 := h.e
  have h3 := h.ne
  exact ⟨h.h, by show P - 1 - w.b < P; omega, by show P - 1 - w.e < P; omega, by show P - 1 - w.b ≠ P - 1 - w.e; omega, h.r1, h.r3⟩
theorem wkB_perm {P T : Nat} {ws us : List Wk} (p : us.Perm ws) (h : ∀ w ∈ ws, WkB P T w) : ∀ w ∈ us, WkB P T w := fun w hw => h w (p.mem_iff.mp hw)
theorem code_srt {d : Day} {m h k : Nat} (D : DayD m h k d) : d.ws.Nodup := by
  have := D.srt
  rw [List.Nodup]
  exact List.Pairwise.imp (fun {a b} hab e => by subst e; omega) this
theorem strict_of {P T : Nat} (hP : P ≤ 1000) (hT : T ≤ 1000) {ws : List Wk} (hb : ∀ w ∈ ws, WkB P T w) (nd : ws.Nodup) (s : ws.Pairwise fun v w => TS.code 1000 (wkN v) ≤ TS.code 1000 (wkN w)) : ws.Pairwise fun v w => TS.code 1000 (wkN v) < TS.code 1000 (wkN w) := by
  rw [List.Nodup] at nd
  refine List.Pairwise.imp_of_mem (fun {v w} hv hw h => ?_) (nd.and s)
  have : TS.code 1000 (wkN v) ≠ TS.code 1000 (wkN w) := fun e => h.1 (code_inj (hb v hv) (hb w hw) hP hT e)
  have := h.2
  omega
theorem back_nodup {d : Day} {m h k : Nat} (D : DayD m h k d) : (d.ws.map (backWk d.T)).Nodup := by
  have nd := code_srt D
  rw [List.Nodup] at nd ⊢
  rw [List.pairwise_map]
  refine List.Pairwise.imp_of_mem (fun {v w} hv hw ne e => ne ?_) nd
  have h1 := congrArg (backWk d.T) e
  rw [back_back (D.ok.h v hv), back_back (D.ok.h w hw)] at h1
  exact h1
end HX

/-! What is never reached; told tuples compared; a house in the heap. -/
namespace HX
open PySem PySem.Spec PyProof.Rows L2 Dry
def tNot0 : TS := fun _ _ _ => False
theorem ps_not0 {X : Cx} {st : Stmt} : PS X st tNot0 := ⟨fun _ _ _ _ _ _ h => h.elim⟩
section
variable {K : PySem.W.Frag} {H : Hp} {Q : VK} {r t s c s' c' : Addr}
theorem ints_sh (l : List Int) : PyData.canLay0 (.tuple (l.map PyData.int)) = true ∧ PyData.depth (.tuple (l.map PyData.int)) ≤ 1 := by
  obtain ⟨h1, h2⟩ := intsI_shape l
  exact ⟨by simp [PyData.canLay0, h1], by simp [PyData.depth, h2]⟩
theorem eqvI : ∀ l : List Int, PyData.eqvAll (l.map PyData.int) (l.map PyData.int) = true
  | [] => by simp [PyData.eqvAll]
  | n :: l => by simp [PyData.eqvAll, PyData.eqv, eqvI l]
def d3 (n : Int) (S C : List Int) : PyData := .tuple [.int n, .tuple (S.map PyData.int), .tuple (C.map PyData.int)]
def d2 (n : Int) (S : List Int) : PyData := .tuple [.int n, .tuple (S.map PyData.int)]
theorem d3_sh (n : Int) (S C : List Int) : SeqAt.shaped (d3 n S C) = true := by
  obtain ⟨h1, h2⟩ := ints_sh S
  obtain ⟨h3, h4⟩ := ints_sh C
  show (PyData.canLay0 _ && decide (PyData.depth _ ≤ 64)) = true
  simp only [d3, PyData.canLay0, PyData.canLayAll0, PyData.depth, PyData.depthAll] at h1 h2 h3 h4 ⊢
  simp [h1, h3]
  omega
theorem d2_sh (n : Int) (S : List Int) : SeqAt.shaped (d2 n S) = true := by
  obtain ⟨h1, h2⟩ := ints_sh S
  show (PyData.canLay0 _ && decide (PyData.depth _ ≤ 64)) = true
  simp only [d2, PyData.canLay0, PyData.canLayAll0, PyData.depth, PyData.depthAll] at h1 h2 ⊢
  simp [h1]
  omega
theorem d3_eq (n : Int) (S C : List Int) : PyData.eqv (d3 n S C) (d3 n S C) = true := by simp [d3, PyData.eqv, PyData.eqvAll, eqvI]
theorem d2_eq (n : Int) (S : List Int) : PyData.eqv (d2 n S) (d2 n S) = true := by simp [d2, PyData.eqv, PyData.eqvAll, eqvI]
theorem c_ne3 {n : Int} {S C : List Int} (hr : SqT K H r [.int n, .ref s, .ref c]) (hs : SqT K H s (vI S)) (hc : SqT K H c (vI C)) (ht : SqT K H t [.int n, .ref s', .ref c']) (hs' : SqT K H s' (vI S)) (hc' : SqT K H c' (vI C)) (q : Q (.bl false) H) : rNeD K (.ref r) (.ref t) H Q :=
  ⟨d3 n S C, d3 n S C, .tup hr (.cons (.int n) (.cons (.tup hs (dp_ints S)) (.cons (.tup hc (dp_ints C)) .nil))), .tup ht (.cons (.int n) (.cons (.tup hs' (dp_ints S)) (.cons (.tup hc' (dp_ints C)) .nil))), d3_sh n S C, d3_sh n S C, by rw [d3_eq]; exact q⟩
theorem c_eq3 {n : Int} {S C : List Int} (hr : SqT K H r [.int n, .ref s, .ref c]) (hs : SqT K H s (vI S)) (hc : SqT K H c (vI C)) (ht : SqT K H t [.int n, .ref s', .ref c']) (hs' : SqT K H s' (vI S)) (hc' : SqT K H c' (vI C)) (q : Q (.bl true) H) : rEqD K (.ref r) (.ref t) H Q :=
  ⟨d3 n S C, d3 n S C, .tup hr (.cons (.int n) (.cons (.tup hs (dp_ints S)) (.cons (.tup hc (dp_ints C)) .nil))), .tup ht (.cons (.int n) (.cons (.tup hs' (dp_ints S)) (.cons (.tup hc' (dp_ints C)) .nil))), d3_sh n S C, d3_sh n S C, by rw [d3_eq]; exact q⟩
theorem c_ne2 {n : Int} {S : List Int} (hr : SqT K H r [.int n, .ref s]) (hs : SqT K H s (vI S)) (ht : SqT K H t [.int n, .ref s']) (hs' : SqT K H s' (vI S)) (q : Q (.bl false) H) : rNeD K (.ref r) (.ref t) H Q :=
  ⟨d2 n S, d2 n S, .tup hr (.cons (.int n) (.cons (.tup hs (dp_ints S)) .nil)), .tup ht (.cons (.int n) (.cons (.tup hs' (dp_ints S)) .nil)), d2_sh n S, d2_sh n S, by rw [d2_eq]; exact q⟩
theorem c_neTs {S : List Int} (hr : SqT K H r (vI S)) (ht : SqT K H t (vI S)) (q : Q (.bl false) H) : rNeD K (.ref r) (.ref t) H Q :=
  ⟨_, _, .tup hr (dp_ints S), .tup ht (dp_ints S), tup_shape S, tup_shape S, by rw [show PyData.eqv (.tuple (S.map PyData.int)) (.tuple (S.map PyData.int)) = true by simp [PyData.eqv, eqvI]]; exact q⟩
theorem c_eqTs {S : List Int} (hr : SqT K H r (vI S)) (ht : SqT K H t (vI S)) (q : Q (.bl true) H) : rEqD K (.ref r) (.ref t) H Q :=
  ⟨_, _, .tup hr (dp_ints S), .tup ht (dp_ints S), tup_shape S, tup_shape S, by rw [show PyData.eqv (.tuple (S.map PyData.int)) (.tuple (S.map PyData.int)) = true by simp [PyData.eqv, eqvI]]; exact q⟩
theorem c_eqSame {l : List Nat} (ha : SqL K H r (vN l)) (hb : SqL K H t (vN l)) (q : Q (.bl true) H) : rEqD K (.ref r) (.ref t) H Q := by
  refine ⟨_, _, .lst ha (dp_nats l), .lst hb (dp_nats l), natsL_shaped l, natsL_shaped l, ?_⟩
  have e : PyData.eqv (.list (l.map fun (n : Nat) => PyData.int (n : Int))) (.list (l.map fun (n : Nat) => PyData.int (n : Int))) = true := by
    simp [PyData.eqv, eqv_ints l]
  rw [e]
  exact q
end
/-! ### a house -/
structure CtxH (K : PySem.W.Frag) (C : Addr) : Prop where
  cl : Cls K C
  day : NoAttr K C "day"
  rows : NoAttr K C "rows"
  past : NoAttr K C "past"
def hf (ad ro pa : Addr) : List (Str × V) := [("day", .ref ad), ("rows", .ref ro), ("past", .ref pa)]
structure HouS (K : PySem.W.Frag) (C : Addr) (H : Hp) (h dx ad aw ro pa : Addr) (ds : List V) (d : Day) (Rs Cs : List (List Int)) : Prop where
  ins : H h = some (.ins C dx (hf ad ro pa))
  ne : ro ≠ pa
  ex : ∃ rs ps, H ro = some (.lst rs) ∧ H pa = some (.lst ps) ∧ Refs true K H rs (Rs.map vI) ∧ Refs true K H ps (Cs.map vI)
  day : DayAt K H ad aw ds d
  dd : DayD 5 8 12 d
  len : Rs.length = Cs.length + 1
  cap : Cs.length ≤ d.T
  row : ∀ R ∈ Rs, R.length = d.P ∧ ∀ p, 0 ≤ R.getD p 0
/-- all but a house's two lists stays -/
def Mh (ro pa : Addr) (H H' : Hp) : Prop := ∀ a o, H a = some o → a ≠ ro → a ≠ pa → H' a = some o
theorem Mh.of {ro pa : Addr} {H H' : Hp} (e : Same H H') : Mh ro pa H H' := fun a o h _ _ => e a o h
theorem Mh.trans {ro pa : Addr} {H H1 H2 : Hp} (a : Mh ro pa H H1) (b : Mh ro pa H1 H2) : Mh ro pa H H2 := fun x o h n m => b x o (a x o h n m) n m
theorem Mh.same {ro pa : Addr} {H0 H H' : Hp} (s : Same H0 H) (e : Mh ro pa H H') (h1 : H0 ro = none) (h2 : H0 pa = none) : Same H0 H' := fun a o h => e a o (s a o h) (ne_of_none h h1) (ne_of_none h h2)
theorem Mh.tx {ro pa : Addr} {H H' : Hp} {xs ys : List V} (e : Mh ro pa H H') (h1 : H ro = some (.lst xs)) (h2 : H pa = some (.lst ys)) : Tx H H' := fun a zs h => by
  rcases h with h | ⟨o, h⟩
  · exact .inl (e _ _ h (ne_of h h1 (fun z => nomatch z)) (ne_of h h2 (fun z => nomatch z)))
  · exact .inr ⟨o, e _ _ h (ne_of h h1 (fun z => nomatch z)) (ne_of h h2 (fun z => nomatch z))⟩
theorem HouS.tx {K : PySem.W.Frag} {C : Addr} {H H' : Hp} {h dx ad aw ro pa : Addr} {ds : List V} {d : Day} {Rs Cs : List (List Int)} (S : HouS K C H h dx ad aw ro pa ds d Rs Cs) (e : Mh ro pa H H') : Tx H H' := by
  obtain ⟨rs, ps, h1, h2, _⟩ := S.ex
  exact e.tx h1 h2
theorem HouS.same {K : PySem.W.Frag} {C : Addr} {H H' : Hp} {h dx ad aw ro pa : Addr} {ds : List V} {d : Day} {Rs Cs : List (List Int)} (e : Same H H') (S : HouS K C H h dx ad aw ro pa ds d Rs Cs) : HouS K C H' h dx ad aw ro pa ds d Rs Cs := by
  obtain ⟨rs, ps, h1, h2, h3, h4⟩ := S.ex
  exact ⟨e _ _ S.ins, S.ne, ⟨rs, ps, e _ _ h1, e _ _ h2, h3.same e, h4.same e⟩, S.day.tx (.of e), S.dd, S.len, S.cap, S.row⟩
/-- the walks of an hour -/
def hw (d : Day) (t : Nat) : List Wk := d.ws.filter fun w => decide (w.h = t)
def leave1 (l : List Int) (p : Wk × Int) : List Int := addAt l p.1.b (-p.2)
def come1 (l : List Int) (p : Wk × Int) : List Int := addAt l p.1.e p.2
def leaveH (d : Day) (t : Nat) (R cs : List Int) : List Int := ((hw d t).zip cs).foldl leave1 R
def hourH (d : Day) (t : Nat) (R cs : List Int) : List Int := ((hw d t).zip cs).foldl come1 (leaveH d t R cs)
def lastR (Rs : List (List Int)) : List Int := Rs.getD (Rs.length - 1) []
/-- the rest of a day -/
def restWk (n : Nat) (w : Wk) : Wk := ⟨w.h - n, w.b, w.e, w.wet, w.r⟩
def restD (d : Day) (n : Nat) : Day := ⟨d.P, d.T - n, (d.ws.filter fun w => decide (n ≤ w.h)).map (restWk n)⟩
def stayB (d : Day) (n : Nat) (R W : List Int) : Bool := if n = d.T then (List.zipWith (fun s l => decide (l ≤ s)) R W).all id else dryB (restD d n) R W
theorem restD_ok {d : Day} (ok : d.Ok) (n : Nat) : (restD d n).Ok := by
  have key : ∀ w ∈ (restD d n).ws, ∃ v ∈ d.ws, n ≤ v.h ∧ w = restWk n v := fun w hw => by
    obtain ⟨v, hv, rfl⟩ := List.mem_map.mp hw
    obtain ⟨h1, h2⟩ := List.mem_filter.mp hv
    exact ⟨v, h1, of_decide_eq_true h2, rfl⟩
  refine ⟨fun w hw => ?_, fun w hw => ?_, fun w hw => ?_, fun w hw => ?_⟩
  · obtain ⟨v, hv, hn, rfl⟩ := key w hw
    have := ok.h v hv
    show v.h - n < d.T - n
    omega
  · obtain ⟨v, hv, hn, rfl⟩ := key w hw
    exact ok.b v hv
  · obtain ⟨v, hv, hn, rfl⟩ := key w hw
    exact ok.e v hv
  · obtain ⟨v, hv, hn, rfl⟩ := key w hw
    exact ok.r v hv
theorem restD_len (d : Day) (n : Nat) : (restD d n).ws.length ≤ d.ws.length := by
  show ((d.ws.filter fun w => decide (n ≤ w.h)).map (restWk n)).length ≤ _
  rw [List.length_map]
  exact List.length_filter_le _ _
theorem fold_len {f : List Int → Wk × Int → List Int} (hf : ∀ l p, (f l p).length = l.length) : ∀ (ps : List (Wk × Int)) (l : List Int), (ps.foldl f l).length = l.length
  | [], _ => rfl
  | p :: ps, l => by rw [List.foldl_cons, fold_len hf ps, hf]
theorem leave1_len (l : List Int) (p : Wk × Int) : (leave1 l p).length = l.length := addAt_length _ _ _
theorem come1_len (l : List Int) (p : Wk × Int) : (come1 l p).length = l.length := addAt_length _ _ _
theorem leaveH_len (d : Day) (t : Nat) (R cs : List Int) : (leaveH d t R cs).length = R.length := fold_len leave1_len _ _
theorem hourH_len (d : Day) (t : Nat) (R cs : List Int) : (hourH d t R cs).length = R.length := by
  unfold hourH
  rw [fold_len come1_len, leaveH_len]
end HX

/-! A call with no arguments; written days. -/
namespace HX
open PySem PySem.Spec PyProof.Rows L2 Dry
theorem pe_df0 {X : Cx} {x : Str} {k : Nat} {ps : List Str} {sp : Sp} {p pos : Pos} (D : Df X.prog X.w X.K X.mg X.base x k ps sp) (hr : Room k X.A) (hg : Gl X x) (hdb : (x == ("__debug__" : Str)) = false := by decide) : PE X (.Call (.Name x p) [] [] pos) (tCall sp [] E0 tNil) := by
  obtain ⟨f, fd, F, hm, hk, hb⟩ := D.ex
  exact pe_call0 F hr hg hm hk hb .nil pass0 hdb
theorem sorted_eq : ∀ {ws us : List Wk}, ws.Pairwise (fun v w => TS.code 1000 (wkN v) < TS.code 1000 (wkN w)) → us.Perm ws → us.Pairwise (fun v w => TS.code 1000 (wkN v) ≤ TS.code 1000 (wkN w)) → us = ws
  | [], us, _, hp, _ => hp.eq_nil
  | w :: ws, [], _, hp, _ => by have := hp.length_eq; simp at this
  | w :: ws, u :: us, hs, hp, hu => by
    have h1 : u = w := by
      have hw : w ∈ u :: us := hp.mem_iff.mpr (by simp)
      have hu' : u ∈ w :: ws := hp.mem_iff.mp (by simp)
      rcases List.mem_cons.mp hu' with h | h
      · exact h
      · have a1 := (List.pairwise_cons.mp hs).1 u h
        rcases List.mem_cons.mp hw with g | g
        · exact g.symm
        · have a2 := (List.pairwise_cons.mp hu).1 w g
          omega
    subst h1
    rw [sorted_eq (List.pairwise_cons.mp hs).2 hp.cons_inv (List.pairwise_cons.mp hu).2]
theorem again_B {h r : Nat} (r1 : 1 ≤ r) (r3 : r ≤ 3) : ∀ w ∈ (againD h r).ws, WkB 2 (h + 3) w := by
  intro w hw
  simp only [againD, List.mem_cons, List.not_mem_nil, or_false] at hw
  rcases hw with rfl | rfl | rfl | rfl | rfl <;> constructor <;> dsimp only <;> omega
theorem again_ok {h r : Nat} (r1 : 1 ≤ r) (r3 : r ≤ 3) : (againD h r).Ok := wkB_ok (again_B r1 r3)
theorem again_srt (h : Nat) {r : Nat} (r3 : r ≤ 3) : (againD h r).ws.Pairwise (fun v w => TS.code 1000 (wkN v) < TS.code 1000 (wkN w)) := by
  simp only [againD, List.pairwise_cons, List.mem_cons, List.not_mem_nil, or_false, forall_eq_or_imp, forall_eq, code_wk, Wk.wi]
  refine ⟨⟨?_, ?_, ?_, ?_⟩, ⟨?_, ?_, ?_⟩, ⟨?_, ?_⟩, ?_, fun _ h => h.elim, List.Pairwise.nil⟩ <;> simp <;> omega
theorem again_D {h r : Nat} (hh : h < 5) (r1 : 1 ≤ r) (r3 : r ≤ 3) : DayD 5 8 12 (againD h r) :=
  ⟨again_ok r1 r3, by show 2 ≤ 2; omega, by show 2 ≤ 5; omega, by show 1 ≤ h + 3; omega, by show h + 3 ≤ 8; omega, by show 5 ≤ 12; omega, fun w hw => (again_B r1 r3 w hw).r3, fun w hw => (again_B r1 r3 w hw).ne, again_srt h r3⟩
theorem nn_of {l : List Int} (h : ∀ x ∈ l, 0 ≤ x) (p : Nat) : 0 ≤ l.getD p 0 := by
  by_cases hp : p < l.length
  · have e : l.getD p 0 = l[p] := by simp [List.getD_eq_getElem?_getD, hp]
    rw [e]
    exact h _ (List.getElem_mem hp)
  · rw [getD_big (by omega)]; exact Int.le_refl _
theorem le_of {l : List Int} {m : Int} (hm : 0 ≤ m) (h : ∀ x ∈ l, x ≤ m) (p : Nat) : l.getD p 0 ≤ m := by
  by_cases hp : p < l.length
  · have e : l.getD p 0 = l[p] := by simp [List.getD_eq_getElem?_getD, hp]
    rw [e]
    exact h _ (List.getElem_mem hp)
  · rw [getD_big (by omega)]; exact hm
theorem min2_eq (r : Nat) : (if (r : Int) < 2 then (r : Int) else 2) = m2 r := by unfold m2; split <;> split <;> omega
theorem min4_eq (r : Nat) : (if (r : Int) < 4 then (r : Int) else 4) = m4 r := by unfold m4; split <;> split <;> omega
theorem m2_bd {r : Nat} (r1 : 1 ≤ r) : 1 ≤ m2 r ∧ m2 r ≤ 2 := by unfold m2; split <;> omega
theorem day_ok2 {P T : Nat} {ws : List Wk} (h : ws.all (fun w => decide (w.h < T) && (decide (w.b < P) && (decide (w.e < P) && decide (1 ≤ w.r)))) = true) : (⟨P, T, ws⟩ : Day).Ok := by
  have key : ∀ w ∈ ws, w.h < T ∧ w.b < P ∧ w.e < P ∧ 1 ≤ w.r := fun w hw => by
    have := List.all_eq_true.mp h w hw
    simp only [Bool.and_eq_true] at this
    exact ⟨of_decide_eq_true this.1, of_decide_eq_true this.2.1, of_decide_eq_true this.2.2.1, of_decide_eq_true this.2.2.2⟩
  exact ⟨fun w hw => (key w hw).1, fun w hw => (key w hw).2.1, fun w hw => (key w hw).2.2.1, fun w hw => (key w hw).2.2.2⟩
theorem fro_ok (h : Nat) : (fro h).Ok := day_ok2 (by simp)
theorem there_ok (h : Nat) : (there h).Ok := day_ok2 (by simp)
theorem ring_ok (h : Nat) : (ring h).Ok := day_ok2 (by simp)
theorem row_ok : rowD.Ok := day_ok2 (by decide)
theorem idle_ok : idle.Ok := day_ok2 (by decide)
theorem sm_of {d : Day} (h1 : d.P ≤ 1000) (h2 : d.T ≤ 1000) (h3 : d.ws.length ≤ 1000) : d.Sm := ⟨h1, h2, h3⟩
theorem wks2 {K : PySem.W.Frag} {H : Hp} {a b : Addr} {u v : Wk} (h1 : SqT K H a (wkV u)) (h2 : SqT K H b (wkV v)) : Wks K H [.ref a, .ref b] [u, v] := (Wks.one h1).snoc h2
theorem wks3 {K : PySem.W.Frag} {H : Hp} {a b c : Addr} {u v x : Wk} (h1 : SqT K H a (wkV u)) (h2 : SqT K H b (wkV v)) (h3 : SqT K H c (wkV x)) : Wks K H [.ref a, .ref b, .ref c] [u, v, x] := (wks2 h1 h2).snoc h3
end HX

/-! A set of walks (tuples of four numbers and a truth), made of a tuple, sorted. -/
namespace HX
open PySem PySem.Spec PyProof.Rows L2 Dry
/-! ### a walk in the heap, as a set asks for it -/
abbrev hsW (P : Program) (w : World) (v : Wk) : Int := tupleKeyHash (leafKind P w) (wkL v)
def AtW (P : Program) (w : World) (h : Heap) (v : Wk) (b : Addr) : Prop := IsTupleKey (leafKind P w) h (wkL v) b ∧ TupNums wkK h (.ref b) (wkN v)
theorem AtW.keep {P : Program} {w : World} {h h' : Heap} {v : Wk} {b : Addr} (x : AtW P w h v b) (k : ∀ o, h.get? b = some o → h'.get? b = some o) : AtW P w h' v b := by
  obtain ⟨⟨o, its, n, e, r⟩, b', xs, eb, ⟨o', e', r'⟩, i⟩ := x
  cases eb
  exact ⟨⟨o, its, n, k o e, r⟩, b, xs, rfl, ⟨o', k o' e', r'⟩, i⟩
theorem AtW.one {P : Program} {w : World} {h : Heap} {v u : Wk} {b : Addr} (x : AtW P w h v b) (y : AtW P w h u b) : v = u := wkL_inj (x.1.inj y.1)
theorem plain_num {ks : List Bool} {xs : List Value} {ns : List Int} (h : NumsAre ks xs ns) : ∀ u ∈ xs, (∀ n, ofAClassStatement n u = pure false) ∧ ∀ n, hashByValue n u = pure true := by
  induction h with
  | nil => exact fun u hu => nomatch hu
  | int n t _ ih =>
    intro u hu
    rcases List.mem_cons.mp hu with rfl | hu
    · exact ⟨fun m => by cases m <;> rfl, fun m => by cases m <;> rfl⟩
    · exact ih u hu
  | bl b _ ih =>
    intro u hu
    rcases List.mem_cons.mp hu with rfl | hu
    · exact ⟨fun m => by cases m <;> rfl, fun m => by cases m <;> rfl⟩
    · exact ih u hu
theorem AtW.open_ {P : Program} {w : World} {h : Heap} {v : Wk} {b : Addr} (x : AtW P w h v b) : ∃ o its n, h.get? b = some o ∧ o.cls = .type "tuple" ∧ o.data = .seq its n ∧ ∀ u ∈ its.toList, (∀ n, ofAClassStatement n u = pure false) ∧ ∀ n, hashByValue n u = pure true := by
  obtain ⟨_, b', xs, eb, ⟨o, e, c, n, d⟩, i⟩ := x
  cases eb
  exact ⟨o, xs, n, e, c, d, plain_num i⟩
section
variable {P : Program} {w : World} {A : Around} {E : Value → Shared → Prop} {s : Shared} {a b : Addr} {v : Wk}
/-- asking each item of a tuple the same harmless question -/
theorem ask_each {its : Array Value} {β : Type} {body : Value → (Option β × PUnit) → Sem (ForInStep (Option β × PUnit))} {fin : Option β × PUnit → Sem Bool} {Q : Bool → Shared → Prop}
    (hb : ∀ u ∈ its.toList, ∀ r, body u r = pure (.yield (none, ⟨⟩))) (hf : wpAny (model P w) A (fin (none, ⟨⟩)) Q E s) : wpAny (model P w) A (forIn its (none, ⟨⟩) body >>= fin) Q E s := by
  rw [← Array.forIn_toList]
  generalize its.toList = l at hb
  have key : forIn (m := Sem) l ((none, ⟨⟩) : Option β × PUnit) body = pure (none, ⟨⟩) := by
    induction l with
    | nil => rfl
    | cons u l ih =>
      rw [List.forIn_cons, hb u List.mem_cons_self, pure_bind]
      exact ih fun u hu r => hb u (List.mem_cons_of_mem _ hu) r
  rw [key, pure_bind]
  exact hf
theorem noClass_wk {Q : Bool → Shared → Prop} (x : AtW P w s.heap v b) (q : Q false s) : wpAny (model P w) A (ofAClassStatement 8 (.ref b)) Q E s := by
  obtain ⟨o, its, n, e, c, d, pl⟩ := x.open_
  unfold ofAClassStatement
  refine wpAny_bind (wpAny_typeOf (T := "tuple") ⟨o, e, c⟩ ?_)
  have yes : (("tuple" : String) == "tuple") = true := rfl
  simp only [yes, if_true, Bool.not_true, pure_bind, Bool.false_eq_true, if_false]
  refine wpAny_bind (wpAny_seqItems e d ?_)
  refine ask_each (fun u hu r => ?_) (wpAny_pure q)
  rw [(pl u hu).1, pure_bind]
  rfl
theorem byVal_wk {Q : Bool → Shared → Prop} (x : AtW P w s.heap v b) (q : Q true s) : wpAny (model P w) A (hashByValue 8 (.ref b)) Q E s := by
  obtain ⟨o, its, n, e, c, d, pl⟩ := x.open_
  unfold hashByValue
  refine wpAny_bind (wpAny_specialOf ⟨o, e, c⟩ F.slot_tuple_hash.lookup ?_)
  refine wpAny_bind (wpAny_seqItems e d ?_)
  refine ask_each (fun u hu r => ?_) (wpAny_pure q)
  rw [(pl u hu).2, pure_bind]
  rfl
theorem unseen_wk {Q : Bool → Shared → Prop} (x : AtW P w s.heap v b) {ys : List Value} (hy : ∀ y ∈ ys, ∃ u c, y = Value.ref c ∧ AtW P w s.heap u c) (q : Q false s) : wpAny (model P w) A (searchCouldBeSeen (.ref b) ys) Q E s := by
  unfold searchCouldBeSeen
  refine wpAny_bind (wpAny_forIn_list _ (fun rest r s' => r.1 = none ∧ s' = s ∧ ∀ y ∈ rest, ∃ u c, y = Value.ref c ∧ AtW P w s.heap u c) _ ?_ ?_ _ _ ⟨rfl, rfl, hy⟩)
  · rintro y rest r s' ⟨hr, rfl, all⟩
    obtain ⟨u, c, rfl, hc⟩ := all y List.mem_cons_self
    have more : ∀ y ∈ rest, ∃ u c, y = Value.ref c ∧ AtW P w s'.heap u c := fun z hz => all z (List.mem_cons_of_mem _ hz)
    dsimp only
    by_cases same : (b == c || (carriedByValue (.ref b) && carriedByValue (.ref c))) = true
    · exact wp_if_pos same (wpAny_pure ⟨rfl, rfl, more⟩)
    · refine wp_if_neg same (wpAny_bind (wpAny_eqIsQuiet_tuple x.1 ?_))
      simp only [Bool.not_true, Bool.false_eq_true, if_false]
      refine wpAny_bind (wpAny_eqIsQuiet_tuple hc.1 ?_)
      simp only [Bool.not_true, Bool.false_eq_true, if_false]
      refine wpAny_bind (noClass_wk x ?_)
      simp only [Bool.false_eq_true, if_false]
      refine wpAny_bind (noClass_wk hc ?_)
      simp only [Bool.false_eq_true, if_false]
      exact wpAny_pure ⟨rfl, rfl, more⟩
  · rintro ⟨r1, r2⟩ s' ⟨hr, rfl, _⟩
    cases (show r1 = none from hr)
    exact wpAny_pure q
/-! ### the set: its rows are the walks L, with their addresses -/
def rowW (P : Program) (w : World) (q : Wk × Addr) : Int × Value := (hsW P w q.1, .ref q.2)
abbrev hsL (P : Program) (w : World) (L : List (Wk × Addr)) : List Int := L.map fun q => hsW P w q.1
structure SetW (P : Program) (w : World) (h : Heap) (a : Addr) (L : List (Wk × Addr)) (es : Array (Int × Value)) (ep : Nat) (t : SetTable) : Prop where
  ob : ∃ o, h.get? a = some o ∧ o.ExactSet ∧ o.data = .set es ep t
  rows : es.toList = L.map (rowW P w)
  tab : TabOk t (hsL P w L)
  nd : (L.map (·.1)).Nodup
  wk : ∀ q ∈ L, AtW P w h q.1 q.2
  plain : t.plain = true
  led : w.params.followText "set-order" = true ∨ t.led = true
  room : L.length * 5 < t.mask * 3
  few : L.length ≤ 13
variable {L : List (Wk × Addr)} {es : Array (Int × Value)} {ep : Nat} {t : SetTable}
theorem rows_len (h : es.toList = L.map (rowW P w)) : es.size = L.length := by
  rw [← Array.length_toList, h, List.length_map]
theorem rows_at (h : es.toList = L.map (rowW P w)) {i : Nat} {q : Wk × Addr} (hq : L[i]? = some q) : es[i]? = some (rowW P w q) := by
  rw [← Array.getElem?_toList, h, List.getElem?_map, hq, Option.map_some]
theorem fits_of (h1 : t.place.size = es.size) (h2 : t.dummies = #[]) (h3 : es.size ≤ t.mask) : t.fits es.size = true := by
  unfold SetTable.fits SetTable.fill
  simp only [h2, h1, List.size_toArray, List.length_nil, Nat.add_zero, BEq.rfl, Bool.true_and, decide_eq_true_eq]
  exact h3
theorem SetW.place (S : SetW P w s.heap a L es ep t) : t.place.size = es.size := by
  rw [S.tab.sz, List.length_map, rows_len S.rows]
theorem SetW.fits (S : SetW P w s.heap a L es ep t) : t.fits es.size = true := fits_of S.place S.tab.dm (by have := S.room; rw [rows_len S.rows]; omega)
theorem SetW.stays (S : SetW P w s.heap a L es ep t) : t.gaveWay = false := by
  unfold SetTable.gaveWay
  rw [mask_odd S.tab.mok]
  rfl
abbrev prbW (m : Nat) (h : Int) (c : Nat) : SetTable.Probe := nth m (runAt m (SetTable.bits h % (m + 1)) (SetTable.bits h)) c
theorem prb_dummy (m : Nat) : ∀ (n : Nat) (p : SetTable.Probe), p.dummy = none → (nth m p n).dummy = none
  | 0, _, h => h
  | n + 1, p, h => prb_dummy m n (adv m p) (by unfold adv; split <;> exact h)
/-- no step of the way from c to d leads to v -/
def PastW (t : SetTable) (L : List (Wk × Addr)) (h : Int) (v : Wk) (c d : Nat) : Prop := ∀ (k i : Nat) (q : Wk × Addr), c ≤ k → k < d → t.place.toList[i]? = some (way t.mask h k) → L[i]? = some q → q.1 ≠ v
theorem PastW.join {h : Int} {c d e : Nat} (x : PastW t L h v c d) (y : PastW t L h v d e) : PastW t L h v c e := fun k i q h1 h2 h3 h4 => by
  by_cases z : k < d
  · exact x k i q h1 z h3 h4
  · exact y k i q (by omega) h2 h3 h4
theorem probe_goW (t : SetTable) (g : Nat → Int) (h : Int) (p : SetTable.Probe) : t.probe g h p = SetTable.probe.go t g h (10 * SetTable.turns t.mask) p := rfl
theorem probeW (S : SetW P w s.heap a L es ep t) {K c : Nat} (hc : c ≤ K) (hKf : K < 10 * SetTable.turns t.mask) (hK : way t.mask (hsW P w v) K ∉ t.place.toList) (hKb : ∀ k, k < K → way t.mask (hsW P w v) k ∈ t.place.toList) :
    (∃ d i q, c ≤ d ∧ d < K ∧ t.place.toList[i]? = some (way t.mask (hsW P w v) d) ∧ L[i]? = some q ∧ PastW t L (hsW P w v) v c d ∧
      t.probe (fun i => (es[i]?.map (·.1)).getD 0) (hsW P w v) (prbW t.mask (hsW P w v) c) = some (.candidate (way t.mask (hsW P w v) d) i (prbW t.mask (hsW P w v) (d + 1)))) ∨
    (PastW t L (hsW P w v) v c K ∧ t.probe (fun i => (es[i]?.map (·.1)).getD 0) (hsW P w v) (prbW t.mask (hsW P w v) c) = some (.empty (way t.mask (hsW P w v) K) none)) := by
  have on : ∀ n, nth t.mask (prbW t.mask (hsW P w v) c) n = prbW t.mask (hsW P w v) (c + n) := fun n => (nth_add t.mask c _ n).symm
  have cK : c + (K - c) = K := by omega
  have word := go_spec t S.tab.ris S.tab.dm (fun i => (es[i]?.map (·.1)).getD 0) (hsW P w v) (10 * SetTable.turns t.mask) (K - c) (prbW t.mask (hsW P w v) c) (prb_dummy t.mask c _ rfl) (by omega)
    (fun n hn => by rw [on]; exact hKb _ (by omega)) (by rw [on, cK]; exact hK)
  have past : ∀ n, (∀ (k' i' : Nat), k' < n → t.place.toList[i']? = some (nth t.mask (prbW t.mask (hsW P w v) c) k').j → (es[i']?.map (·.1)).getD 0 ≠ hsW P w v) → PastW t L (hsW P w v) v c (c + n) := by
    intro n hn k i q h1 h2 h3 h4 e
    refine hn (k - c) i (by omega) (by rw [on, show c + (k - c) = k by omega]; exact h3) ?_
    rw [rows_at S.rows h4, ← e, Option.map_some, Option.getD_some]
    unfold rowW
    exact Eq.refl (hsW P w q.1)
  rw [probe_goW]
  rcases word with ⟨n, i, hn, hi, _, hp, hg⟩ | ⟨hp, hg⟩
  · rw [on] at hi
    rw [on, on] at hg
    have hl : i < L.length := by
      have h1 := (List.getElem?_eq_some_iff.mp hi).1
      rw [Array.length_toList, S.place, rows_len S.rows] at h1
      exact h1
    rw [show c + (n + 1) = c + n + 1 from rfl] at hg
    exact .inl ⟨c + n, i, L[i], by omega, by omega, hi, List.getElem?_eq_getElem hl, past n hp, hg⟩
  · rw [on, cK] at hg
    have := past (K - c) hp
    rw [cK] at this
    exact .inr ⟨this, hg⟩
theorem seekW (S : SetW P w s.heap a L es ep t) (x : AtW P w s.heap v b) (hu : A.units < cLine) {K : Nat} (hKf : K < 10 * SetTable.turns t.mask)
    (hK : way t.mask (hsW P w v) K ∉ t.place.toList) (hKb : ∀ k, k < K → way t.mask (hsW P w v) k ∈ t.place.toList) {Q : SetFound → Shared → Prop}
    (yes : v ∈ L.map (·.1) → Q (.there none) s) (no : v ∉ L.map (·.1) → Q (.free (way t.mask (hsW P w v) K) false) s) :
    ∀ (f c : Nat) (st : Option SetTable.Probe), st.getD (t.probeStart (hsW P w v)) = prbW t.mask (hsW P w v) c → c ≤ K → K - c < f → PastW t L (hsW P w v) v 0 c → wpAny (model P w) A (setSearchFrom a (.ref b) (hsW P w v) true f st) Q E s
  | 0, _, _, _, _, z, _ => absurd z (Nat.not_lt_zero _)
  | f + 1, c, st, hst, hc, hf, past => by
    obtain ⟨o, ho, _, hd⟩ := S.ob
    have state : ∀ {R : Array (Int × Value) × Nat × SetTable → Shared → Prop}, R (es, ep, t) s → wpAny (model P w) A (setState a) R E s := fun r => wpAny_setState_of ho hd S.fits r
    rw [setSearchFrom_succ]
    refine wpAny_bind (state ?_)
    dsimp only
    rw [S.stays, if_neg Bool.false_ne_true, hst]
    try rw [pure_bind]
    rcases probeW S hc hKf hK hKb with ⟨d, i, q, h1, h2, hi, hq, p2, hg⟩ | ⟨p2, hg⟩
    · rw [hg]
      dsimp only
      have hm : q ∈ L := List.mem_of_getElem? hq
      have rest : wpAny (model P w) A (searchRest a (.ref b) (hsW P w v) true f es t (way t.mask (hsW P w v) d) i (prbW t.mask (hsW P w v) (d + 1))) Q E s := by
        unfold searchRest
        rw [rows_at S.rows hq]
        dsimp only [rowW]
        refine wpAny_bind (wpAny_holding (wpAny_eqBool_tuple hu (S.wk q hm).1 x.1 (wpAny_bind (state ?_))))
        dsimp only
        by_cases e : q.1 = v
        · rw [e, decide_eq_true rfl]
          exact wpAny_pure (yes (List.mem_map.mpr ⟨q, hm, e⟩))
        · have e2 : wkL q.1 ≠ wkL v := fun z => e (wkL_inj z)
          rw [decide_eq_false e2]
          simp only [Bool.and_false, Bool.false_eq_true, if_false, pure_bind]
          rw [sameMem]
          dsimp only
          have hsl : t.slot (way t.mask (hsW P w v) d) = .live i := slot_live S.tab.ris hi
          simp only [if_true, hsl, rows_at S.rows hq, rowW]
          refine wpAny_bind (wpAny_isSame_ref_self (wpAny_bind (wpAny_pure ?_)))
          refine seekW S x hu hKf hK hKb yes no f (d + 1) _ rfl (by omega) (by omega) ((past.join p2).join fun k i' q' g1 g2 g3 g4 => ?_)
          obtain rfl : k = d := by omega
          have g5 := slot_live S.tab.ris g3
          rw [hsl] at g5
          injection g5 with g5
          rw [← g5, hq] at g4
          cases g4
          exact e
      cases hl : t.led with
      | true =>
        rw [if_neg (by decide)]
        exact rest
      | false =>
        simp only [Bool.not_false, if_true, bind_assoc]
        refine wpAny_bind (unseen_wk x (fun y hy => ?_) ?_)
        · obtain ⟨r, hr, rfl⟩ := List.mem_map.mp hy
          have hr2 : r ∈ es.toList := by
            have z : r ∈ es ∧ r.1 = hsW P w v := by simpa using hr
            simpa using z.1
          rw [S.rows] at hr2
          obtain ⟨q', hq', rfl⟩ := List.mem_map.mp hr2
          exact ⟨q'.1, q'.2, rfl, S.wk q' hq'⟩
        · simp only [Bool.false_eq_true, if_false, pure_bind]
          exact rest
    · rw [hg]
      dsimp only
      refine wpAny_pure (no fun hm => ?_)
      obtain ⟨q, hq, rfl⟩ := List.mem_map.mp hm
      obtain ⟨i, hi, rfl⟩ := List.getElem_of_mem hq
      have hp : i < t.place.toList.length := by rw [Array.length_toList, S.place, rows_len S.rows]; exact hi
      obtain ⟨k, hk, e⟩ := S.tab.before (h := hsW P w L[i].1) (i := i) hK (by rw [List.getElem?_map, List.getElem?_eq_getElem hi, Option.map_some]) (List.getElem?_eq_getElem hp)
      exact (past.join p2) k i L[i] (Nat.zero_le _) hk (by rw [e, List.getElem?_eq_getElem hp]) (List.getElem?_eq_getElem hi) rfl
theorem searchW (S : SetW P w s.heap a L es ep t) (x : AtW P w s.heap v b) (hu : A.units < cLine) {Q : SetFound → Shared → Prop} (yes : v ∈ L.map (·.1) → Q (.there none) s)
    (no : ∀ K, v ∉ L.map (·.1) → way t.mask (hsW P w v) K ∉ t.place.toList → (∀ k, k < K → way t.mask (hsW P w v) k ∈ t.place.toList) → Q (.free (way t.mask (hsW P w v) K) false) s) :
    wpAny (model P w) A (setSearch a (.ref b) (hsW P w v) true) Q E s := by
  have hr := S.room
  obtain ⟨K, hKf, hK, hKb⟩ := S.tab.first (by rw [List.length_map]; omega) (hsW P w v)
  have lim : 10 * SetTable.turns t.mask < 99999 := by
    unfold SetTable.turns
    rcases S.tab.mok with e | e | e <;> rw [e] <;> decide
  unfold setSearch
  exact seekW S x hu hKf hK hKb yes (fun hn => no K hn hK hKb) 100000 0 none rfl (Nat.zero_le _) (by omega) fun k i q _ z => absurd z (Nat.not_lt_zero _)
theorem AtW.other {h h' : Heap} {o : Obj} (x : AtW P w h v b) (ho : h.get? a = some o) (hd : o.data = .set es ep t) (sb : Heap.SameBut a h h') : AtW P w h' v b := by
  have ne : b ≠ a := by
    rintro rfl
    obtain ⟨⟨o', _, _, e, _, d, _⟩, _⟩ := x
    rw [ho] at e
    cases e
    rw [hd] at d
    cases d
  exact x.keep fun u e => (sb.2 b ne).trans e
/-- rows picked out by an order of all -/
theorem pickW {L : List (Wk × Addr)} {es : Array (Int × Value)} {order : Array Nat} (hr : es.toList = L.map (rowW P w)) (hp : order.toList.Perm (List.range L.length)) :
    ∃ M : List (Wk × Addr), (order.filterMap (es[·]?)).toList = M.map (rowW P w) ∧ M.Perm L ∧ hsL P w M = order.toList.map fun i => (es.map (·.1)).getD i 0 := by
  refine ⟨order.toList.filterMap fun i => L[i]?, ?_, ?_, ?_⟩
  · rw [Array.toList_filterMap, List.map_filterMap]
    congr 1
    funext i
    rw [← Array.getElem?_toList, hr, List.getElem?_map]
  · have all : (List.range L.length).filterMap (fun i => L[i]?) = L := by
      have key : ∀ n, n ≤ L.length → (List.range n).filterMap (fun i => L[i]?) = L.take n := fun n => by
        induction n with
        | zero => exact fun _ => rfl
        | succ n ih =>
          intro hn
          rw [List.range_succ, List.filterMap_append, ih (by omega), List.take_succ_eq_append_getElem hn]
          congr 1
          rw [List.filterMap_cons_some (f := fun i => L[i]?) (List.getElem?_eq_getElem hn), List.filterMap_nil]
      rw [key _ (Nat.le_refl _), List.take_length]
    have := hp.filterMap fun i => L[i]?
    rw [all] at this
    exact this
  · have inL : ∀ i ∈ order.toList, i < L.length := fun i hi => List.mem_range.mp (hp.mem_iff.mp hi)
    generalize order.toList = l at inL
    clear hp
    induction l with
    | nil => rfl
    | cons i l ih =>
      have hi := inL i List.mem_cons_self
      rw [List.filterMap_cons_some (f := fun i => L[i]?) (List.getElem?_eq_getElem hi)]
      unfold hsL at ih ⊢
      rw [List.map_cons, List.map_cons, ih fun j hj => inL j (List.mem_cons_of_mem _ hj)]
      congr 1
      have e : (es.map (·.1))[i]? = some (hsW P w L[i].1) := by
        rw [Array.getElem?_map, rows_at hr (List.getElem?_eq_getElem hi), Option.map_some]
        unfold rowW
        exact Eq.refl (some (hsW P w L[i].1))
      rw [Array.getD_eq_getD_getElem?, e, Option.getD_some]
/-- the table laid anew -/
theorem relayW {o : Obj} (ho : s.heap.get? a = some o) (hx : o.ExactSet) (hd : o.data = .set es ep t) (hr : es.toList = L.map (rowW P w)) (hz : t.place.size = es.size) (hdm : t.dummies = #[]) (hm : es.size ≤ t.mask)
    (nd : (L.map (·.1)).Nodup) (wk : ∀ q ∈ L, AtW P w s.heap q.1 q.2) (pl : t.plain = true) (ld : w.params.followText "set-order" = true ∨ t.led = true) (few : L.length ≤ 13) {n : Nat} (hn : SetTable.sizeAbove n = 32) {Q : Unit → Shared → Prop}
    (q : ∀ h' M es' ep' t', Heap.SameBut a s.heap h' → SetW P w h' a M es' ep' t' → M.Perm L → Q () { s with heap := h' }) : wpAny (model P w) A (setRelay a n) Q E s := by
  have len := rows_len hr
  obtain ⟨t', order, e, hp, tab, em, el, epl, _⟩ := relaid_ok t (hs := es.map (·.1)) (wanted := n) (M := 31) (by rw [hn]) (.inr (.inl rfl)) (by rw [Array.size_map]; omega)
  rw [Array.size_map, len] at hp
  obtain ⟨M, r1, r2, r3⟩ := pickW hr hp
  rw [← r3] at tab
  have len2 : (order.filterMap (es[·]?)).size = es.size := by rw [rows_len r1, r2.length_eq, len]
  rw [setRelay_eq]
  refine wpAny_bind (wpAny_setState_of ho hd (fits_of hz hdm hm) ?_)
  dsimp only
  rw [hn, if_neg (by rw [sizeLine_eq]; omega)]
  try rw [pure_bind]
  rw [e]
  dsimp only
  rw [len2, bne_self_eq_false, if_neg Bool.false_ne_true]
  simp only [pure_bind]
  refine wpAny_storeSet_of ho hd ?_ (by rw [len2, len, sizeLine_eq]; omega)
  have sb : Heap.SameBut a s.heap (s.heap.update a (Obj.putSet (order.filterMap (es[·]?)) t')) := Heap.SameBut.update ..
  refine q _ M _ (ep + 1) t' sb ⟨⟨_, store_at ho hd, ⟨hx.1, hx.2.1, hx.2.2⟩, rfl⟩, r1, tab, (r2.map (·.1)).nodup_iff.mpr nd, fun p hpm => (wk p (r2.mem_iff.mp hpm)).other ho hd sb, epl.trans pl, ?_, ?_, ?_⟩ r2
  · rw [el]; exact ld
  · rw [em, r2.length_eq]; omega
  · rw [r2.length_eq]; exact few
/-- one walk added -/
theorem addW (S : SetW P w s.heap a L es ep t) (x : AtW P w s.heap v b) (hu : A.units < cLine) (few : L.length + 1 ≤ 13) {Q : Bool → Shared → Prop}
    (q : ∀ r h' M es' ep' t', Heap.SameBut a s.heap h' → SetW P w h' a M es' ep' t' → (v ∈ L.map (·.1) → M = L) → (v ∉ L.map (·.1) → M.Perm ((v, b) :: L)) → Q r { s with heap := h' }) :
    wpAny (model P w) A (setAddHashed a (.ref b) (hsW P w v)) Q E s := by
  obtain ⟨o, ho, hx, hd⟩ := S.ob
  have len := rows_len S.rows
  have state : ∀ {R : Array (Int × Value) × Nat × SetTable → Shared → Prop}, R (es, ep, t) s → wpAny (model P w) A (setState a) R E s := fun r => wpAny_setState_of ho hd S.fits r
  unfold setAddHashed
  refine wpAny_holding ?_
  rw [show (100000 : Nat) = 99999 + 1 from rfl, setAddHashedIn_succ]
  refine wpAny_bind (state ?_)
  dsimp only
  have scan : byScan (.ref b) es = false := by simp [byScan, Value.scannable]
  rw [scan, if_neg Bool.false_ne_true]
  try rw [pure_bind]
  refine wpAny_bind (searchW S x hu (fun hm => wpAny_pure (q false s.heap L es ep t (Heap.SameBut.refl a s.heap) S (fun _ => rfl) fun z => absurd hm z)) fun K hm hK hb => ?_)
  dsimp only
  refine wpAny_bind (state ?_)
  dsimp only
  obtain ⟨e1, b1, tab1, em, el, epl, _, _, fil⟩ := S.tab.put hK hb
  generalize hj : t.put (way t.mask (hsW P w v) K) = tp at e1 tab1 em el epl fil ⊢
  generalize SetTable.below t.place (way t.mask (hsW P w v) K) = i at e1 b1 tab1
  obtain ⟨t1, i'⟩ := tp
  dsimp only at e1 tab1 em el epl fil ⊢
  subst e1
  rw [List.length_map] at fil b1
  have pl1 : t1.plain = true := epl.trans S.plain
  rw [pl1]
  simp only [if_true]
  refine wpAny_bind (byVal_wk x ?_)
  simp only [if_true]
  have rows1 : (SetTable.insertAt es i' (hsW P w v, Value.ref b)).toList = (L.take i' ++ (v, b) :: L.drop i').map (rowW P w) := by
    rw [SetTable.toList_insertAt, S.rows, List.map_append, List.map_cons, List.map_take, List.map_drop]
    rfl
  have pm := put_perm L i' (v, b)
  have hs1 : hsL P w (L.take i' ++ (v, b) :: L.drop i') = (hsL P w L).take i' ++ hsW P w v :: (hsL P w L).drop i' := by
    unfold hsL
    rw [List.map_append, List.map_cons, List.map_take, List.map_drop]
  rw [← hs1] at tab1
  generalize SetTable.insertAt es i' (hsW P w v, Value.ref b) = es1 at rows1 ⊢
  generalize L.take i' ++ (v, b) :: L.drop i' = M at rows1 pm tab1
  have lenM : M.length = L.length + 1 := pm.length_eq
  have len1 : es1.size = L.length + 1 := (rows_len rows1).trans lenM
  have nd1 : (M.map (·.1)).Nodup := (pm.map (·.1)).nodup_iff.mpr (List.nodup_cons.mpr ⟨hm, S.nd⟩)
  refine wpAny_bind (wpAny_storeSet_of ho hd ?_ (by rw [len1, sizeLine_eq]; omega))
  have sb : Heap.SameBut a s.heap (s.heap.update a (Obj.putSet es1 t1)) := Heap.SameBut.update ..
  have ho1 := store_at (es' := es1) (t' := t1) ho hd
  generalize s.heap.update a (Obj.putSet es1 t1) = h1 at sb ho1 ⊢
  have wk1 : ∀ p ∈ M, AtW P w h1 p.1 p.2 := fun p hp => by
    rcases List.mem_cons.mp (pm.mem_iff.mp hp) with e | hp
    · subst e
      exact x.other ho hd sb
    · exact (S.wk p hp).other ho hd sb
  have ld1 : w.params.followText "set-order" = true ∨ t1.led = true := by rw [el]; exact S.led
  have room := S.room
  have full : t1.tooFull = decide ((L.length + 1) * 5 ≥ t1.mask * 3) := by
    unfold SetTable.tooFull
    rw [fil]
  by_cases hf : (L.length + 1) * 5 ≥ t1.mask * 3
  · rw [full, decide_eq_true hf]
    simp only [Bool.not_false, Bool.and_true, if_true]
    rw [em] at hf
    have four : t.mask = 7 ∧ L.length = 4 := by
      rcases S.tab.mok with e | e | e <;> rw [e] at hf room <;> refine ⟨?_, ?_⟩ <;> omega
    refine wpAny_bind (relayW (s := { s with heap := h1 }) ho1 ⟨hx.1, hx.2.1, hx.2.2⟩ rfl rows1 (by rw [tab1.sz, List.length_map, lenM, len1]) tab1.dm (by rw [len1, em]; omega) nd1 wk1 pl1 ld1 (by omega) (by rw [len, four.2]; exact size_20) ?_)
    intro h2 M2 es2 ep2 t2 sb2 S2 pm2
    exact wpAny_pure (q true h2 M2 es2 ep2 t2 (sb.trans sb2) S2 (fun z => absurd z hm) fun _ => pm2.trans pm)
  · rw [full, decide_eq_false hf]
    simp only [Bool.and_false, Bool.false_eq_true, if_false, pure_bind]
    exact wpAny_pure (q true h1 M es1 (ep + 1) t1 sb ⟨⟨_, ho1, ⟨hx.1, hx.2.1, hx.2.2⟩, rfl⟩, rows1, tab1, nd1, wk1, pl1, ld1, by rw [lenM]; omega, by omega⟩ (fun z => absurd z hm) fun _ => pm)
theorem SetW.on {h h' : Heap} (S : SetW P w h a L es ep t) (ha : ∀ o, h.get? a = some o → h'.get? a = some o) (hw : ∀ q ∈ L, AtW P w h' q.1 q.2) : SetW P w h' a L es ep t := by
  obtain ⟨o, ho, r⟩ := S.ob
  exact { S with ob := ⟨o, ha o ho, r⟩, wk := hw }
/-- M is what a set has got of the first i of ks -/
def GotW (ks : List (Wk × Addr)) (i : Nat) (M : List (Wk × Addr)) : Prop := (∀ q ∈ M, q ∈ ks.take i) ∧ (∀ q ∈ ks.take i, q.1 ∈ M.map (·.1)) ∧ M.length ≤ i
theorem GotW.next {ks M M' : List (Wk × Addr)} {i : Nat} {p : Wk × Addr} (g : GotW ks i M) (hp : ks[i]? = some p) (c1 : p.1 ∈ M.map (·.1) → M' = M) (c2 : p.1 ∉ M.map (·.1) → M'.Perm (p :: M)) : GotW ks (i + 1) M' := by
  obtain ⟨g1, g2, g3⟩ := g
  have tk : ks.take (i + 1) = ks.take i ++ [p] := by rw [List.take_succ, hp]; rfl
  unfold GotW
  rw [tk]
  by_cases c : p.1 ∈ M.map (·.1)
  · rw [c1 c]
    refine ⟨fun q hq => List.mem_append_left _ (g1 q hq), fun q hq => ?_, by omega⟩
    rcases List.mem_append.mp hq with z | z
    · exact g2 q z
    · rw [List.mem_singleton.mp z]; exact c
  · have pm := c2 c
    refine ⟨fun q hq => ?_, fun q hq => ?_, by rw [pm.length_eq, List.length_cons]; omega⟩
    · rcases List.mem_cons.mp (pm.mem_iff.mp hq) with z | z
      · exact List.mem_append_right _ (List.mem_singleton.mpr z)
      · exact List.mem_append_left _ (g1 q z)
    · rw [(pm.map (·.1)).mem_iff, List.map_cons]
      rcases List.mem_append.mp hq with z | z
      · exact List.mem_cons_of_mem _ (g2 q z)
      · rw [List.mem_singleton.mp z]; exact List.mem_cons_self
/-- the loop of set.update over any walk of walks -/
theorem fillW {I : Addr} {fp wr : List Addr} {G : Array GenState → Array GenState → Prop} {n : Nat} {Pv : Nat → Value → Prop} {St : Nat → Shared → Prop} {R : Result → Shared → Prop} (W : WalksS P w A.in1 I fp wr G n Pv St) (hSf : a ∉ fp)
    (ks : List (Wk × Addr)) (hn : n = ks.length) (few : ks.length ≤ 12) (hval : ∀ i v, Pv i v → ∃ p, ks[i]? = some p ∧ v = .ref p.2) (h0 : Heap) (hk : ∀ p ∈ ks, AtW P w h0 p.1 p.2) (hS0 : h0.get? a = none) (hw0 : ∀ b ∈ wr, h0.get? b = none)
    (hu : A.in1.units < cLine) : ∀ (k i : Nat) (s : Shared), i + k = n → St i s → (∀ b o, h0.get? b = some o → s.heap.get? b = some o) → (∃ M es ep t, SetW P w s.heap a M es ep t ∧ GotW ks i M) →
      (∀ s' M es ep t, Moved (a :: wr) G s s' → SetW P w s'.heap a M es ep t → GotW ks n M → (∀ b o, h0.get? b = some o → s'.heap.get? b = some o) → R (.ok (.ret .none)) s') →
      codeAny (model P w) A (.builtin "set.update.loop" ⟨[.ref a, .ref I], []⟩) R s
  | k, i, s, hi, st, old, ⟨M, es, ep, t, S, g⟩, hR => by
    have out : a ∉ wr := fun z => hSf (W.sub _ z)
    have wider : ∀ b ∈ wr, b ∈ a :: wr := fun b z => List.mem_cons_of_mem _ z
    have sub : ∀ p ∈ M, p ∈ ks := fun p hp => List.mem_of_mem_take (g.1 p hp)
    have still : ∀ {s' : Shared}, Moved wr G s s' → (∀ b o, h0.get? b = some o → s'.heap.get? b = some o) ∧ SetW P w s'.heap a M es ep t := fun {s'} m => by
      have old' : ∀ b o, h0.get? b = some o → s'.heap.get? b = some o := fun b o e => m.heap b o (fun z => by rw [hw0 b z] at e; cases e) (old b o e)
      exact ⟨old', S.on (fun o e => m.heap a o out e) fun p hp => (hk p (sub p hp)).keep fun o e => old' _ o e⟩
    refine codeAny_builtin F.entry_set_update_loop ?_
    rw [Around.under_plainId F.plain_set_update_loop _]
    match k with
    | 0 =>
      obtain rfl : i = n := by omega
      refine wpAny_bind (m := pyNext (.ref I)) (W.done s _ _ st fun s' m => ?_)
      obtain ⟨old', S'⟩ := still m
      exact wpAny_pure (hR s' M es ep t (m.mono wider) S' g old')
    | k + 1 =>
      refine wpAny_bind (m := pyNext (.ref I)) (W.item i s _ _ (by omega) st fun v s' hv st' m => ?_)
      obtain ⟨p, hp, rfl⟩ := hval i v hv
      obtain ⟨old', S'⟩ := still m
      have x : AtW P w s'.heap p.1 p.2 := (hk p (List.mem_of_getElem? hp)).keep fun o e => old' _ o e
      refine wpAny_bind (m := holding [Value.ref p.2] (setAdd a (.ref p.2))) (wpAny_holding ?_)
      unfold setAdd
      refine wpAny_holding (wpAny_bind (wpAny_pyHash_tuple hu x.1 (addW (s := { s' with toks := s'.toks + ((wkL p.1).length + 1) }) S' x hu (by have := g.2.2; omega) fun r h' M' es' ep' t' sb S2 c1 c2 => ?_)))
      have old2 : ∀ b o, h0.get? b = some o → h'.get? b = some o := fun b o e => (sb.2 b fun z => by rw [z, hS0] at e; cases e).trans (old' b o e)
      refine wpAny_pure ⟨plainId_quiet F.plain_set_update_loop _, fillW W hSf ks hn few hval h0 hk hS0 hw0 hu k (i + 1) _ (by omega) (W.frame _ s' _ _ st' (Nat.le_add_right _ _) fun b hb o e => ?_) old2 ⟨M', es', ep', t', S2, g.next hp c1 c2⟩ fun s'' M2 es2 ep2 t2 m2 S3 g2 old3 => ?_⟩
      · rw [sb.2 b fun z : b = a => hSf (z ▸ hb)]
        exact e
      · refine hR s'' M2 es2 ep2 t2 (Moved.trans W.gtrans ((m.mono wider).then_heap (Nat.le_add_right _ _) fun b o hb e => ?_) m2) S3 g2 old3
        rw [sb.2 b fun z : b = a => hb (z ▸ List.mem_cons_self)]
        exact e
abbrev emptyW (w : World) : Obj := { cls := .type "set", dict := none, data := .set #[] 0 (.fresh 0 0 (!w.params.followText "set-order")) }
theorem setW_nil {h : Heap} (ho : h.get? a = some (emptyW w)) : SetW P w h a [] #[] 0 (.fresh 0 0 (!w.params.followText "set-order")) := by
  refine ⟨⟨_, ho, ⟨rfl, rfl, rfl⟩, rfl⟩, rfl, ⟨List.Pairwise.nil, rfl, rfl, .inl rfl, (fun x hx => nomatch hx), fun i h j hi => ?_⟩, List.nodup_nil, (fun q hq => nomatch hq), rfl, ?_, (by show 0 * 5 < 7 * 3; decide), (by show 0 ≤ 13; decide)⟩
  · simp at hi
  · by_cases e : w.params.followText "set-order" = true
    · exact .inl e
    · exact .inr (show (!w.params.followText "set-order") = true by simpa using e)
/-- set(t), t a tuple of walks -/
theorem call_setW {l : Addr} {its : Array Value} (ks : List (Wk × Addr)) {Q : Value → Shared → Prop} (calm : A.handled = none) (tup : s.heap.IsTuple l its) (hit : its.toList = ks.map fun p => Value.ref p.2) (hk : ∀ p ∈ ks, AtW P w s.heap p.1 p.2)
    (few : ks.length ≤ 12) (hu : A.units + 3 < cLine)
    (fin : ∀ (h' : Heap) (tk : Nat) M es ep t, SetW P w h' s.heap.objs.size M es ep t → GotW ks ks.length M → (∀ b o, s.heap.get? b = some o → h'.get? b = some o) → Q (.ref s.heap.objs.size) { s with heap := h', toks := tk }) :
    wpAny (model P w) A (call (.type "set") [.ref l]) Q E s := by
  have sz : its.size = ks.length := by rw [← Array.length_toList, hit, List.length_map]
  have ⟨_, _, m0⟩ := F.called_set.mro
  have m1 := F.called_set.made
  have m2 := F.called_set.sub
  have m3 := F.called_set.notType
  have m4 := F.called_set.canCreate
  have m5 := F.typeCall_set_1 (.ref l)
  refine wpAny_call (codeAny_of_tree (?_ : wpAny _ _ (callAny (.type "set") _) _ _ _))
  refine wpAny_pure ⟨Code.quiet_builtin _ (by decide +kernel), codeAny_builtin F.entry_type_call ?_⟩
  rw [Around.under_plain (weight_type_call_type "set" [.ref l] []) rfl]
  repeat (any_goals (first | assumption | wp_step))
  refine codeAny_mono (code_set_led1 (.ref l) (E := E) (Q₁ := fun u s1 => u = .ref s.heap.objs.size ∧ s1 = { s with heap := s.heap.push (emptyW w) }) ⟨rfl, rfl⟩) fun r s1 hr => ?_
  cases r with
  | error e => exact hr
  | ok fl =>
    cases fl with
    | ret u =>
      obtain ⟨rfl, rfl⟩ := hr
      have at1 : (s.heap.push (emptyW w)).get? s.heap.objs.size = some (emptyW w) := Heap.get?_push_size _ rfl
      have ty1 : Shared.TypeIs { s with heap := s.heap.push (emptyW w) } (.ref s.heap.objs.size) "set" := ⟨_, at1, rfl⟩
      have i1 := F.called_set.init.lookup
      have i2 := F.called_set.init.bind (.ref s.heap.objs.size)
      repeat (any_goals (first | assumption | wp_step))
      refine codeAny_mono (codeAny_call_builtin (R := wants (fun r s2 => r = .none ∧ ∃ h' tk M es ep t, s2 = { s with heap := h', toks := tk } ∧ SetW P w h' s.heap.objs.size M es ep t ∧ GotW ks ks.length M ∧
        ∀ b o, s.heap.get? b = some o → h'.get? b = some o) E) F.called_set.init.plain F.entry_set_init (check_set_init_1 ty1 ?_)) fun r s2 hr => ?_
      · obtain ⟨⟨ocls, odict, odata, oslots⟩, g1, g2, nl, g3⟩ := tup
        dsimp only at g2 g3
        subst g2 g3
        have g4 : (s.heap.push (emptyW w)).get? l = some { cls := .type "tuple", dict := odict, data := .seq its nl, slots := oslots } := Heap.get?_push_of_some _ g1
        have no1 := F.sub_tuple_set
        have no2 := F.sub_tuple_frozenset
        have no3 : (Value.type "tuple" == Value.type "dict") = false := by decide
        have tup1 : (s.heap.push (emptyW w)).IsTuple l its := ⟨_, g4, rfl, nl, rfl⟩
        unfold Builtin.«set.__init__» noKeywords Builtin.Frozenset.updateFrom
        generalize hPI : pyIter = PI
        wp_walk
        subst hPI
        refine wpAny_pyIter_tuple tup1 (wpAny_bind (wpAny_runValue ?_))
        have lt : l < s.heap.objs.size := Heap.lt_size g1
        have zp : (s.heap.push (emptyW w)).objs.size = s.heap.objs.size + 1 := Heap.size_push ..
        have none_of : ∀ b, s.heap.objs.size ≤ b → s.heap.get? b = none := fun b hb => by
          cases z : s.heap.get? b with
          | none => rfl
          | some o => exact absurd (Nat.lt_of_lt_of_le (Heap.lt_size z) hb) (Nat.lt_irrefl _)
        refine fillW (a := s.heap.objs.size) ((Walks.tuple (A := A.in1.in1.in1) (by simp [calm]) _ l (by rw [zp]; exact Nat.ne_of_lt (Nat.lt_succ_of_lt lt)) its).toS) ?_ ks sz few (fun i v hv => ?_) s.heap hk (none_of _ (Nat.le_refl _)) (fun b hb => none_of b ?_) hu its.size 0 _ (by omega)
          ⟨⟨_, Heap.get?_push_size _ rfl, rfl, rfl⟩, tup1.push _⟩ (fun b o e => Heap.get?_push_of_some _ (Heap.get?_push_of_some _ e)) ⟨[], #[], 0, _, setW_nil (Heap.get?_push_of_some _ at1), ?_⟩ ?_
        · rw [zp]
          intro z
          rcases List.mem_cons.mp z with z | z
          · exact absurd z (Nat.ne_of_lt (Nat.lt_succ_self _))
          · exact absurd (List.mem_singleton.mp z) (Nat.ne_of_gt lt)
        · have z : its.toList[i]? = some v := by rw [Array.getElem?_toList]; exact hv
          rw [hit, List.getElem?_map] at z
          obtain ⟨p, hp, e⟩ := Option.map_eq_some_iff.mp z
          exact ⟨p, hp, e.symm⟩
        · rw [List.mem_singleton.mp hb, zp]
          omega
        · exact ⟨(fun q hq => nomatch hq), (fun q hq => by simp at hq), Nat.le_refl _⟩
        · rintro ⟨h', g', d', tk', os'⟩ M es ep t m S' g2 old
          obtain rfl : g' = s.gens := m.gens
          obtain rfl : d' = s.drawn := m.drawn
          obtain rfl : os' = s.os := m.os
          rw [sz] at g2
          exact wpAny_pure (wpAny_pure ⟨rfl, h', tk', M, es, ep, t, rfl, S', g2, old⟩)
      · cases r with
        | error e => exact hr
        | ok fl =>
          cases fl with
          | ret u =>
            obtain ⟨rfl, h', tk, M, es, ep, t, rfl, S', g2, old⟩ := hr
            repeat (any_goals (first | assumption | wp_step))
            exact fin _ _ _ _ _ _ S' g2 old
          | _ => exact hr.elim
    | _ => exact hr.elim
end
end HX

/-! sorted(set(t)), t a tuple of walks. -/
namespace HX
open PySem PySem.Spec PyProof.Rows L2 Dry
/-- the set at a, without the walks themselves -/
def SetW0 (P : Program) (w : World) (h : Heap) (a : Addr) (L : List (Wk × Addr)) : Prop := ∃ (es : Array (Int × Value)) (ep : Nat) (t : SetTable), (∃ o, h.get? a = some o ∧ o.ExactSet ∧ o.data = .set es ep t) ∧ es.toList = L.map (rowW P w) ∧
  t.fits es.size = true ∧ Ris t.place.toList ∧ (L.map (·.1)).Nodup ∧ (w.params.followText "set-order" = true ∨ t.led = true) ∧ L.length ≤ 13
def SWO (P : Program) (w : World) (a : Addr) (L : List (Wk × Addr)) : HO := .ext fun h => SetW0 P w h a L
theorem swo_new {P : Program} {w : World} {H : Hp} {h : Heap} {a : Addr} {L : List (Wk × Addr)} (R : SetW0 P w h a L) : ObjOk P w H h a (SWO P w a L) := by
  refine ⟨R, ?_, fun h1 h2 R1 k => ?_⟩
  · obtain ⟨_, _, _, ⟨o, e, _⟩, _⟩ := R
    exact ⟨o, e⟩
  · obtain ⟨es, ep, t, ⟨o, e, r⟩, q⟩ := R1
    exact ⟨es, ep, t, ⟨o, k o e, r⟩, q⟩
theorem atW_at {X : Cx} {pins : List (Addr × Obj)} {σ : L2.St} {H : Hp} {s : Shared} {b : Addr} {v : Wk} (I : Inv X pins σ H s) (h : SqT X.K H b (wkV v)) : AtW X.prog X.w s.heap v b := wk_at I h
theorem vals_refs3 : ∀ {L : List (Wk × Addr)} {us : List Value}, Vals (L.map fun q => V.ref q.2) us → us = L.map fun q => Value.ref q.2
  | [], _, .nil => rfl
  | p :: L, _, .cons r t => by
    cases r
    rw [List.map_cons, ← vals_refs3 t]
/-- set(t) -/
def rSetW (K : PySem.W.Frag) (P : Program) (w : World) : List V → Hp → VK → Prop := fun vs H Q => ∃ (l : Addr) (xs : List V) (ws : List Wk), vs = [V.ref l] ∧ SqT K H l xs ∧ Wks K H xs ws ∧ ws.length ≤ 12 ∧
  ∀ (a : Addr) (L : List (Wk × Addr)), H a = none → (∀ q ∈ L, SqT K H q.2 (wkV q.1)) → (L.map (·.1)).Nodup → (∀ v, v ∈ L.map (·.1) ↔ v ∈ ws) → Q (.ref a) (upd H a (SWO P w a L))
theorem cr_setW {X : Cx} (hc : X.calm = true) (hu : X.A.units + 64 < cLine) : CallR X (.type "set") (rSetW X.K X.prog X.w) := by
  intro pins s σ H vs us Q I r h
  obtain ⟨l, xs, ws, rfl, hl, hw, few, q⟩ := h
  obtain ⟨ks, rfl, rfl, hk⟩ := wks_pairs hw
  rw [List.length_map] at few
  rw [Vals.ref1 r]
  obtain ⟨its, rv, tup, _⟩ := I.tuple hl
  have hn : H s.heap.objs.size = none := I.hok.fresh (Nat.le_refl _)
  refine call_setW (P := X.prog) (w := X.w) ks (I.ok.hd hc) tup (vals_refs3 rv) (fun p hp => atW_at I (hk p hp)) few (by omega) fun h' tk M es ep t S g old => ?_
  rw [GotW, List.take_length] at g
  refine ⟨.ref s.heap.objs.size, upd H s.heap.objs.size (SWO X.prog X.w s.heap.objs.size M), I.laid (t' := tk) old (Nat.le_refl _) (swo_new ⟨es, ep, t, S.ob, S.rows, S.fits (s := { s with heap := h' }), S.tab.ris, S.nd, S.led, S.few⟩), rfl, q _ M hn (fun p hp => hk p (g.1 p hp)) S.nd fun v => ⟨fun hv => ?_, fun hv => ?_⟩⟩
  · obtain ⟨p, hp, rfl⟩ := List.mem_map.mp hv
    exact List.mem_map.mpr ⟨p, g.1 p hp, rfl⟩
  · obtain ⟨p, hp, rfl⟩ := List.mem_map.mp hv
    exact g.2.1 p hp
/-- sorted(a set of walks) -/
def rSortedS (K : PySem.W.Frag) (P : Program) (w : World) : List V → Hp → VK → Prop := fun vs H Q => ∃ (a : Addr) (L : List (Wk × Addr)), vs = [V.ref a] ∧ H a = some (SWO P w a L) ∧ (∀ q ∈ L, SqT K H q.2 (wkV q.1)) ∧ (∀ q ∈ L, TS.Bd 1000 (wkN q.1)) ∧
  ∀ (L' : List (Wk × Addr)) (p : Addr), L'.Perm L → (L'.map (·.1)).Nodup → L'.Pairwise (fun q r => TS.code 1000 (wkN q.1) ≤ TS.code 1000 (wkN r.1)) → H p = none → Q (.ref p) (upd H p (.lst (L'.map fun q => V.ref q.2)))
theorem cr_sortedS {X : Cx} (hc : X.calm = true) : CallR X (.builtin "sorted") (rSortedS X.K X.prog X.w) := by
  intro pins s σ H vs us Q I r h
  obtain ⟨a, L, rfl, ha, hk, hB, q⟩ := h
  obtain ⟨es, ep, t, ⟨o, ho, hex, hd⟩, rows, fits, ris, nd, led, few⟩ : SetW0 X.prog X.w s.heap a L := (I.hok a _ ha).1
  rw [Vals.ref1 r]
  have len := rows_len rows
  refine Calls.call_function_entry PyProof.Rows.kind_sorted PyProof.Rows.plain_sorted PyProof.Rows.entry_sorted (PyProof.Rows.args_sorted1 _) ?_
  unfold Builtin.«sorted»
  refine wpAny_bind (m := checkCount "sorted" 1 1 _) (wpAny_pure (wpAny_bind (collect_set (A := X.A.in1) (I.ok.hd hc) ⟨o, ho, hex.1, hd⟩ fits (by unfold scanBound; omega) ris led fun s1 acc k1 hz g1 o1 pm => ?_)))
  have vals : es.toList.map (·.2) = L.map fun q => Value.ref q.2 := by
    rw [rows, List.map_map]
    rfl
  rw [vals] at pm
  obtain ⟨L1, p1, rfl⟩ := perm_of_map pm L rfl
  have l1 : L1.length ≤ 13 := by rw [p1.length_eq]; exact few
  have l1v : (L1.map fun q => Value.ref q.2).length = L1.length := List.length_map ..
  refine wpAny_bind (wpAny_newList ?_ (by rw [l1v, sizeLine_eq]; omega))
  generalize hvs : (L1.map fun q => Value.ref q.2) = vs at l1v ⊢
  have hoL : (s1.heap.push (seqObj "list" vs.toArray 0)).get? s1.heap.objs.size = some (seqObj "list" vs.toArray 0) := Heap.get?_push_size _ rfl
  have in1 : ∀ q ∈ L1, q ∈ L := fun q hq => p1.mem_iff.mp hq
  have num : ∀ q ∈ L1, TupNums wkK (s1.heap.push (seqObj "list" vs.toArray 0)) (.ref q.2) (wkN q.1) := fun q hq => (wk_at I (hk q (in1 q hq))).2.keeps fun b u e _ => Heap.get?_push_of_some _ (k1 b u e)
  have ok : NumsOk wkK (s1.heap.push (seqObj "list" vs.toArray 0)) 1000 vs := fun v hv => by
    rw [← hvs] at hv
    obtain ⟨q, hq, rfl⟩ := List.mem_map.mp hv
    exact ⟨_, num q hq, hB q (in1 q hq)⟩
  have one : ∀ p ∈ L1, ∀ q ∈ L1, p.2 = q.2 → p = q := fun p hp q hq e => by
    have a1 := (wk_at I (hk p (in1 p hp))).1
    have a2 := (wk_at I (hk q (in1 q hq))).1
    rw [e] at a1
    exact Prod.ext (wkL_inj (a1.inj a2)) e
  let rk : Value → Int := fun v => ((L1.find? fun q => decide (Value.ref q.2 = v)).map fun q => TS.code 1000 (wkN q.1)).getD 0
  have rk_eq : ∀ q ∈ L1, rk (.ref q.2) = TS.code 1000 (wkN q.1) := fun q hq => by
    show ((L1.find? fun p => decide (Value.ref p.2 = Value.ref q.2)).map fun q => TS.code 1000 (wkN q.1)).getD 0 = _
    cases e : L1.find? fun p => decide (Value.ref p.2 = Value.ref q.2) with
    | none =>
      have := List.find?_eq_none.mp e q hq
      simp at this
    | some p =>
      have h2 := List.find?_some e
      simp at h2
      rw [one p (List.mem_of_find?_eq_some e) q hq h2, Option.map_some, Option.getD_some]
  refine wpAny_bind (wpAny_holding (wpAny_call_entry PyProof.Rows.slot_list_sort ⟨_, hoL, rfl⟩ PyProof.Rows.entry_list_sort
    (sort_nums (ks := [false, false, true, false]) (s := { s1 with heap := s1.heap.push (seqObj "list" vs.toArray 0) }) hoL (by rw [l1v]; omega) ok rk (fun v hv ns tn => ?_) fun out a1 a2 => ⟨_, rfl, ?_⟩) (PyProof.Rows.args_list_sort _)))
  · rw [← hvs] at hv
    obtain ⟨q, hq, rfl⟩ := List.mem_map.mp hv
    rw [rk_eq q hq, tn.inj (num q hq)]
  obtain ⟨e', he'⟩ := PyProof.Rows.sortedHeap_at (vs := vs) (out := out) hoL
  obtain ⟨L', pL, hout⟩ := perm_of_map a1 L1 hvs.symm
  have inL : ∀ q ∈ L', q ∈ L1 := fun q hq => pL.mem_iff.mp hq
  have pw : L'.Pairwise (fun q r => TS.code 1000 (wkN q.1) ≤ TS.code 1000 (wkN r.1)) := by
    rw [hout] at a2
    refine List.Pairwise.imp_of_mem (fun {q r} hq hr le => ?_) (List.pairwise_map.mp a2)
    rw [← rk_eq q (inL q hq), ← rk_eq r (inL r hr)]
    exact le
  have all : L'.Perm L := pL.trans p1
  have room : (L'.map fun q => V.ref q.2).length ≤ sizeLine := by
    rw [List.length_map, all.length_eq, sizeLine_eq]
    omega
  have old : ∀ b u, s.heap.get? b = some u → (sortedHeap (s1.heap.push (seqObj "list" vs.toArray 0)) s1.heap.objs.size vs out).get? b = some u := fun b u e => by
    have lt := Heap.lt_size (k1 b u e)
    rw [sortedHeap_old (Nat.ne_of_lt lt) (by rw [size_push']; exact Nat.lt_succ_of_lt lt)]
    exact Heap.get?_push_of_some _ (k1 b u e)
  have free : H s1.heap.objs.size = none := I.hok.fresh hz
  have same : ({ s1 with heap := sortedHeap (s1.heap.push (seqObj "list" vs.toArray 0)) s1.heap.objs.size vs out } : Shared) = { s with heap := sortedHeap (s1.heap.push (seqObj "list" vs.toArray 0)) s1.heap.objs.size vs out, gens := s1.gens, drawn := s1.drawn, toks := s1.toks } := by
    rw [← o1]
  have J : Inv X pins σ (upd H s1.heap.objs.size (.lst (L'.map fun q => V.ref q.2))) { s with heap := sortedHeap (s1.heap.push (seqObj "list" vs.toArray 0)) s1.heap.objs.size vs out, gens := s1.gens, drawn := s1.drawn, toks := s1.toks } :=
    I.call (ch := []) (Un.laid old hz free) (I.hok.laid old hz ⟨room, out.toList, e', by rw [hout]; exact vals_refs2 L', by rw [Array.toArray_toList]; exact he'⟩) (by rw [g1]; exact I.bare) (fun _ z => nomatch z)
  rw [← same] at J
  exact wpAny_pure ⟨_, rfl, .ref s1.heap.objs.size, _, J, rfl, q L' _ all ((all.map (·.1)).nodup_iff.mpr nd) pw free⟩
theorem bt_set : bootBuiltins "set" = some (.type "set") := by decide +kernel
end HX

/-! Lists of walks compared; walks as one says of them ascending and each once. -/
namespace HX
open PySem PySem.Spec PyProof.Rows L2 Dry
theorem wkD_eqv (v u : Wk) : PyData.eqv (wkD v) (wkD u) = decide (v = u) := by
  obtain ⟨h, b, e, t, r⟩ := v
  obtain ⟨h', b', e', t', r'⟩ := u
  have hb : PyData.eqv (.bool t) (.bool t') = decide (t = t') := by
    simp only [PyData.eqv]
    cases t <;> cases t' <;> rfl
  simp only [wkD, PyData.eqv, PyData.eqvAll, Bool.and_true]
  have eI : ∀ a b : Nat, ((a : Int) == (b : Int)) = decide (a = b) := fun a b => by
    rw [Bool.beq_eq_decide_eq]
    exact decide_eq_decide.mpr (by omega)
  simp only [eI]
  apply Bool.eq_iff_iff.mpr
  cases t <;> cases t' <;> simp [b2i, Wk.mk.injEq]
theorem wkDs_eqv : ∀ (ws us : List Wk), PyData.eqvAll (ws.map wkD) (us.map wkD) = decide (ws = us)
  | [], [] => by simp [PyData.eqvAll]
  | [], _ :: _ => by simp [PyData.eqvAll]
  | _ :: _, [] => by simp [PyData.eqvAll]
  | v :: ws, u :: us => by
    rw [List.map_cons, List.map_cons, PyData.eqvAll, wkD_eqv, wkDs_eqv ws us]
    apply Bool.eq_iff_iff.mpr
    simp
theorem wkl_shaped (ws : List Wk) : SeqAt.shaped (.list (ws.map wkD)) = true := by
  have h := wks_shaped ws
  simp only [SeqAt.shaped, PyData.canLay0, PyData.depth] at h ⊢
  exact h
theorem c_eqWks {K : PySem.W.Frag} {H : Hp} {Q : VK} {a b : Addr} {xs ys : List V} {ws us : List Wk} (ha : SqL K H a xs) (hw : Wks K H xs ws) (hb : SqL K H b ys) (hu : Wks K H ys us) (q : Q (.bl (decide (ws = us))) H) : rEqD K (.ref a) (.ref b) H Q := by
  refine ⟨_, _, .lst ha (dp_wks hw), .lst hb (dp_wks hu), wkl_shaped ws, wkl_shaped us, ?_⟩
  have e : PyData.eqv (.list (ws.map wkD)) (.list (us.map wkD)) = decide (ws = us) := by
    rw [PyData.eqv, wkDs_eqv]
  rw [e]
  exact q
theorem rising_strict {P T : Nat} (hP : P ≤ 1000) (hT : T ≤ 1000) : ∀ {ws : List Wk}, (∀ w ∈ ws, WkB P T w) → risingB ws = true → ws.Pairwise fun v w => TS.code 1000 (wkN v) < TS.code 1000 (wkN w)
  | [], _, _ => .nil
  | [_], _, _ => List.pairwise_singleton _ _
  | v :: w :: ws, hb, hr => by
    have hr' : (wkLt v w && risingB (w :: ws)) = true := hr
    rw [Bool.and_eq_true, wkLt_code (hb v (by simp)) (hb w (by simp)) hP hT] at hr'
    have lt := of_decide_eq_true hr'.1
    have ih := rising_strict (ws := w :: ws) hP hT (fun u hu => hb u (List.mem_cons_of_mem _ hu)) hr'.2
    refine List.pairwise_cons.mpr ⟨fun u hu => ?_, ih⟩
    rcases List.mem_cons.mp hu with rfl | hu
    · exact lt
    · exact Int.lt_trans lt ((List.pairwise_cons.mp ih).1 u hu)
/-- a list is what sorted(set(..)) makes of it just where it rises -/
theorem once_rising {P T : Nat} (hP : P ≤ 1000) (hT : T ≤ 1000) {ws us : List Wk} (hb : ∀ w ∈ ws, WkB P T w) (nd : us.Nodup) (hm : ∀ v, v ∈ us ↔ v ∈ ws) (hs : us.Pairwise fun v w => TS.code 1000 (wkN v) ≤ TS.code 1000 (wkN w)) : decide (ws = us) = risingB ws := by
  cases hr : risingB ws with
  | true =>
    have st := rising_strict hP hT hb hr
    have nw : ws.Nodup := st.imp fun {v w} h e => by rw [e] at h; exact absurd h (Int.lt_irrefl _)
    have pm : us.Perm ws := (List.perm_ext_iff_of_nodup nd nw).mpr hm
    exact decide_eq_true (sorted_eq st pm hs).symm
  | false =>
    refine decide_eq_false fun e => ?_
    subst e
    rw [rising_of hP hT hb (strict_of hP hT hb nd hs)] at hr
    cases hr
end HX

/-! Values put together: what is known of them, whatever else is laid meanwhile. -/
namespace HX
open PySem PySem.Spec PyProof.Rows L2 Dry
abbrev Vp := V → Hp → Prop
def Stb (Φ : Vp) : Prop := ∀ x H H', Kp H H' → Φ x H → Φ x H'
/-- from H on t makes a value of which Φ holds, and changes nothing -/
def Mks (σ : L2.St) (H : Hp) (t : TE) (Φ : Vp) : Prop := ∀ H1, Same H H1 → ∀ Q : VK, (∀ x H2, Same H1 H2 → Φ x H2 → Q x H2) → t σ H1 Q
def MksA (σ : L2.St) (H : Hp) (t : TA) (Ψ : List V → Hp → Prop) : Prop := ∀ H1, Same H H1 → ∀ Q : List V → Hp → Prop, (∀ xs H2, Same H1 H2 → Ψ xs H2 → Q xs H2) → t σ H1 Q
def MksO (σ : L2.St) (t : TO) : Prop := ∀ (H : Hp) (Q : Option Int → Hp → Prop), (∀ o, Q o H) → t σ H Q
/-- a tuple (a list) of at most n values, each of them Φ -/
def TupOf (K : PySem.W.Frag) (n : Nat) (Φ : Vp) : Vp := fun x H => ∃ t xs, x = .ref t ∧ SqT K H t xs ∧ xs.length ≤ n ∧ ∀ y ∈ xs, Φ y H
def LstOf (n : Nat) (Φ : Vp) : Vp := fun x H => ∃ l xs, x = .ref l ∧ H l = some (.lst xs) ∧ xs.length ≤ n ∧ ∀ y ∈ xs, Φ y H
section
variable {K : PySem.W.Frag} {σ : L2.St} {H : Hp} {Φ Ψ : Vp} {n m : Nat} {ta tb te : TE}
theorem mk_use {Q : VK} (m : Mks σ H te Φ) (q : ∀ x H2, Same H H2 → Φ x H2 → Q x H2) : te σ H Q := m H (Same.refl _) Q q
theorem mk_at (m : Mks σ H te Φ) {H' : Hp} (e : Same H H') : Mks σ H' te Φ := fun H1 e1 Q q => m H1 (e.trans e1) Q q
theorem mk_var {i : Nat} {v : V} (h : σ[i]? = some (some v)) (hv : ∀ H1, Same H H1 → Φ v H1) : Mks σ H (tVar i) Φ := fun H1 e Q q => c_var h (q v H1 (Same.refl _) (hv H1 e))
theorem mk_c {v : V} (hv : ∀ H1, Φ v H1) : Mks σ H (tC v) Φ := fun H1 e Q q => q v H1 (Same.refl _) (hv H1)
theorem mk_imp (m : Mks σ H te Φ) (h : ∀ x H1, Same H H1 → Φ x H1 → Ψ x H1) : Mks σ H te Ψ := fun H1 e Q q => m H1 e Q fun x H2 e2 p => q x H2 e2 (h x H2 (e.trans e2) p)
theorem mka_nil : MksA σ H tNil (fun xs H1 => xs.length ≤ 0 ∧ ∀ y ∈ xs, Φ y H1) := fun H1 _ Q q => q [] H1 (Same.refl _) ⟨Nat.le_refl _, fun y hy => nomatch hy⟩
theorem mka_cons {tr : TA} (s : Stb Φ) (m1 : Mks σ H ta Φ) (m2 : MksA σ H tr (fun xs H1 => xs.length ≤ n ∧ ∀ y ∈ xs, Φ y H1)) : MksA σ H (tCons ta tr) (fun xs H1 => xs.length ≤ n + 1 ∧ ∀ y ∈ xs, Φ y H1) := fun H1 e Q q =>
  m1 H1 e _ fun x H2 e2 hx => m2 H2 (e.trans e2) _ fun xs H3 e3 hxs => q (x :: xs) H3 (e2.trans e3) ⟨Nat.succ_le_succ hxs.1, fun y hy => by
    rcases List.mem_cons.mp hy with rfl | hy
    · exact s _ _ _ (.of e3) hx
    · exact hxs.2 y hy⟩
theorem mk_tup {t : TA} (s : Stb Φ) (m1 : MksA σ H t (fun xs H1 => xs.length ≤ n ∧ ∀ y ∈ xs, Φ y H1)) (hn : n ≤ 1000) : Mks σ H (tTup t) (TupOf K n Φ) := fun H1 e Q q =>
  m1 H1 e _ fun xs H2 e2 hx => ⟨by rw [sizeLine_eq]; omega, fun p np => q _ _ (e2.trans (Same.new np)) ⟨p, xs, rfl, SqT.of upd_same, hx.1, fun y hy => s _ _ _ (.of (Same.new np)) (hx.2 y hy)⟩⟩
theorem mk_lst {t : TA} (s : Stb Φ) (m1 : MksA σ H t (fun xs H1 => xs.length ≤ n ∧ ∀ y ∈ xs, Φ y H1)) (hn : n ≤ 1000) : Mks σ H (tLst t) (LstOf n Φ) := fun H1 e Q q =>
  m1 H1 e _ fun xs H2 e2 hx => ⟨by rw [sizeLine_eq]; omega, fun p np => q _ _ (e2.trans (Same.new np)) ⟨p, xs, rfl, upd_same, hx.1, fun y hy => s _ _ _ (.of (Same.new np)) (hx.2 y hy)⟩⟩
theorem lstOf_same (s : Stb Φ) {x : V} {H' : Hp} (e : Same H H') (h : LstOf n Φ x H) : LstOf n Φ x H' := by
  obtain ⟨l, xs, rfl, h1, h2, h3⟩ := h
  exact ⟨l, xs, rfl, e _ _ h1, h2, fun y hy => s _ _ _ (.of e) (h3 y hy)⟩
theorem tupOf_stb (s : Stb Φ) : Stb (TupOf K n Φ) := fun x H H' e h => by
  obtain ⟨t, xs, rfl, h1, h2, h3⟩ := h
  exact ⟨t, xs, rfl, e.tx.tup h1, h2, fun y hy => s _ _ _ e (h3 y hy)⟩
theorem mk_catL (s : Stb Φ) (m1 : Mks σ H ta (LstOf n Φ)) (m2 : Mks σ H tb (LstOf m Φ)) (hz : n + m ≤ 1000) : Mks σ H (tOp rCat ta tb) (LstOf (n + m) Φ) := fun H1 e Q q =>
  m1 H1 e _ fun x H2 e2 hx => m2 H2 (e.trans e2) _ fun y H3 e3 hy => by
    obtain ⟨l, xs, rfl, h1, h2, h3⟩ := lstOf_same s e3 hx
    obtain ⟨l', ys, rfl, g1, g2, g3⟩ := hy
    refine ⟨l, l', xs, ys, rfl, rfl, h1, g1, by rw [sizeLine_eq]; omega, fun p np => q _ _ ((e2.trans e3).trans (Same.new np)) ⟨p, _, rfl, upd_same, by rw [List.length_append]; omega, fun y hy => s _ _ _ (.of (Same.new np)) ?_⟩⟩
    rcases List.mem_append.mp hy with hy | hy
    · exact h3 y hy
    · exact g3 y hy
theorem mk_catT (s : Stb Φ) (m1 : Mks σ H ta (TupOf K n Φ)) (m2 : Mks σ H tb (TupOf K m Φ)) (hz : n + m ≤ 1000) : Mks σ H (tOp (rCatA K) ta tb) (TupOf K (n + m) Φ) := fun H1 e Q q =>
  m1 H1 e _ fun x H2 e2 hx => m2 H2 (e.trans e2) _ fun y H3 e3 hy => by
    obtain ⟨l, xs, rfl, h1, h2, h3⟩ := tupOf_stb s _ _ _ (.of e3) hx
    obtain ⟨l', ys, rfl, g1, g2, g3⟩ := hy
    refine c_catQ h1 g1 (by rw [sizeLine_eq]; omega) fun p H4 e4 hp => q _ _ ((e2.trans e3).trans e4) ⟨p, _, rfl, hp, by rw [List.length_append]; omega, fun y hy => s _ _ _ (.of e4) ?_⟩
    rcases List.mem_append.mp hy with hy | hy
    · exact h3 y hy
    · exact g3 y hy
theorem mko_no : MksO σ tNoPart := fun H Q q => q none
theorem mko_c {i : Int} : MksO σ (tPart (tC (.int i))) := fun H Q q => ⟨i, rfl, q _⟩
theorem mko_v {j : Nat} {i : Int} (h : σ[j]? = some (some (.int i))) : MksO σ (tPart (tVar j)) := fun H Q q => c_part (c_var h ⟨i, rfl, q _⟩)
theorem mko_v1 {j : Nat} {i : Int} (h : σ[j]? = some (some (.int i))) : MksO σ (tPart (tOp (rI0 fun i j => .int (i + j)) (tVar j) (tC (.int 1)))) := fun H Q q => c_part (c_op (c_var h (c_c (c_I0 ⟨_, rfl, q _⟩))))
theorem mk_slT {tl th : TO} (s : Stb Φ) (m1 : Mks σ H ta (TupOf K n Φ)) (hl : MksO σ tl) (hh : MksO σ th) : Mks σ H (tSl (rSlA K) ta tl th) (TupOf K n Φ) := fun H1 e Q q =>
  m1 H1 e _ fun x H2 e2 hx => hl _ _ fun lo => hh _ _ fun hi => by
    obtain ⟨l, xs, rfl, h1, h2, h3⟩ := hx
    exact c_slQ h1 fun p H4 e4 hp => q _ _ (e2.trans e4) ⟨p, _, rfl, hp, Nat.le_trans (cutV_length _ _ _) h2, fun y hy => s _ _ _ (.of e4) (h3 y (cut_mem hy))⟩
theorem mk_revT (s : Stb Φ) (m1 : Mks σ H ta (TupOf K n Φ)) : Mks σ H (tRevT K ta) (TupOf K n Φ) := fun H1 e Q q =>
  m1 H1 e _ fun x H2 e2 hx => by
    obtain ⟨l, xs, rfl, h1, h2, h3⟩ := hx
    exact ⟨l, xs, rfl, h1, fun p np => q _ _ (e2.trans (Same.new np)) ⟨p, _, rfl, SqT.of upd_same, by rw [List.length_reverse]; exact h2, fun y hy => s _ _ _ (.of (Same.new np)) (h3 y (List.mem_reverse.mp hy))⟩⟩
theorem mk_lisT (s : Stb Φ) (m1 : Mks σ H ta (TupOf K n Φ)) : Mks σ H (tCB (rListOf K) (tCons ta tNil)) (LstOf n Φ) := fun H1 e Q q =>
  m1 H1 e _ fun x H2 e2 hx => by
    obtain ⟨l, xs, rfl, h1, h2, h3⟩ := hx
    exact c_lisT h1 fun p np => q _ _ (e2.trans (Same.new np)) ⟨p, _, rfl, upd_same, h2, fun y hy => s _ _ _ (.of (Same.new np)) (h3 y hy)⟩
theorem mk_tupL (s : Stb Φ) (m1 : Mks σ H ta (LstOf n Φ)) : Mks σ H (tCB (rTupOf K) (tCons ta tNil)) (TupOf K n Φ) := fun H1 e Q q =>
  m1 H1 e _ fun x H2 e2 hx => by
    obtain ⟨l, xs, rfl, h1, h2, h3⟩ := hx
    exact ⟨l, xs, rfl, .inl ⟨SqL.of h1, fun p np => q _ _ (e2.trans (Same.new np)) ⟨p, _, rfl, SqT.of upd_same, h2, fun y hy => s _ _ _ (.of (Same.new np)) (h3 y hy)⟩⟩⟩
/-- [te for x in tuple] -/
theorem mk_lcT {i : Nat} (sΦ : Stb Φ) (sΨ : Stb Ψ) (hn : n ≤ 1000) (hw : ∀ v, wipe ((wipe σ [i]).set i (some v)) [i] = wipe σ [i]) (m1 : Mks σ H ta (TupOf K n Φ)) (m2 : ∀ v H1, Kp H H1 → Φ v H1 → Mks ((wipe σ [i]).set i (some v)) H1 te Ψ) :
    Mks σ H (tLc (iTup K ta) (gName i) tYes te [i]) (LstOf n Ψ) := fun H1 e Q q =>
  m1 H1 e _ fun x H2 e2 hx => by
    obtain ⟨l, xs, rfl, h1, h2, h3⟩ := hx
    refine ⟨l, rfl, ⟨xs, h1⟩, fun D nD => ?_⟩
    refine lc_it (walk_tup (xs := xs)) (fun j H3 => Same H2 H3 ∧ ∃ acc, H3 D = some (.lst acc) ∧ acc.length ≤ j ∧ ∀ y ∈ acc, Ψ y H3) ⟨Same.new nD, [], upd_same, Nat.le_refl _, fun y hy => nomatch hy⟩ (fun j H3 _ h => h.1.tup h1) ?_ ?_
    · rintro j y H3 H4 hj ⟨e3, acc, hD, hl, ha⟩ ⟨rfl, hy⟩
      refine c_gname ⟨hw y, ?_⟩
      refine m2 y _ (.of ((e.trans e2).trans e3)) (sΦ _ _ _ (.of e3) (h3 y (List.mem_of_getElem? hy))) _ (Same.refl _) _ fun z H5 e5 hz => ?_
      have hD5 := e5 _ _ hD
      refine ⟨acc, hD5, by rw [sizeLine_eq]; omega, (e3.trans e5).mut nD, _, upd_same, by simp; omega, fun u hu => sΨ _ _ _ (.mutL hD5) ?_⟩
      rcases List.mem_append.mp hu with hu | hu
      · exact sΨ _ _ _ (.of e5) (ha u hu)
      · rw [List.mem_singleton.mp hu]; exact hz
    · rintro H3 ⟨e3, acc, hD, hl, ha⟩
      exact q _ _ (e2.trans e3) ⟨D, acc, rfl, hD, Nat.le_trans hl h2, ha⟩
end
/-! ### things that may be days -/
section
variable (K : PySem.W.Frag)
def KnP : Vp := fun x H => Kn K H x
def TkP : Vp := fun x H => ∃ o, TK K H x o
def WsP : Vp := fun x H => ∃ o, WalksK K H x o
def DkP : Vp := fun x H => ∃ o, DK K H x o
end
section
variable {K : PySem.W.Frag} {σ : L2.St} {H : Hp} {n : Nat} {ta tb tc te : TE}
theorem knP : Stb (KnP K) := fun x H H' e h => Kn.kp e h
theorem tk_kp {H H' : Hp} {x : V} {o : Option (List V)} (e : Kp H H') (h : TK K H x o) : TK K H' x o := by
  rcases h with ⟨h1, h2⟩ | ⟨t, ys, h1, h2, h3, h4, h5⟩
  · exact .inl ⟨h1, h2.kp e⟩
  · exact .inr ⟨t, ys, h1, h2, e.tx.tup h3, fun y hy => (h4 y hy).kp e, h5⟩
theorem ws_kp {H H' : Hp} {x : V} {o : Option (List (Option (List V)))} (e : Kp H H') (h : WalksK K H x o) : WalksK K H' x o := by
  rcases h with ⟨h1, h2⟩ | ⟨t, ws, os, h1, h2, h3, h4, h5, h6⟩
  · exact .inl ⟨h1, h2.kp e⟩
  · exact .inr ⟨t, ws, os, h1, h2, e.tx.tup h3, h4, h5, fun i x o a b => tk_kp e (h6 i x o a b)⟩
theorem dk_kp {H H' : Hp} {x : V} {o : DOf} (e : Kp H H') (h : DK K H x o) : DK K H' x o := by
  rcases h with ⟨h1, h2 | ⟨t, ys, h2, h3, h4⟩⟩ | ⟨t, p, h, z, ow, h1, h2, h3, h4, h5, h6⟩
  · exact .inl ⟨h1, .inl (h2.kp e)⟩
  · exact .inl ⟨h1, .inr ⟨t, ys, h2, e.tx.tup h3, h4⟩⟩
  · exact .inr ⟨t, p, h, z, ow, h1, h2, e.tx.tup h3, h4.kp e, h5.kp e, ws_kp e h6⟩
theorem tkP : Stb (TkP K) := fun x H H' e ⟨o, h⟩ => ⟨o, tk_kp e h⟩
theorem wsP : Stb (WsP K) := fun x H H' e ⟨o, h⟩ => ⟨o, ws_kp e h⟩
theorem dkP : Stb (DkP K) := fun x H H' e ⟨o, h⟩ => ⟨o, dk_kp e h⟩
theorem tk_tup {x : V} (hn : n ≤ 1000) (h : TupOf K n (KnP K) x H) : TkP K x H := by
  obtain ⟨t, xs, rfl, h1, h2, h3⟩ := h
  exact ⟨some xs, .inr ⟨t, xs, rfl, rfl, h1, h3, by omega⟩⟩
theorem tk_no {x : V} (h : NTup K H x) : TkP K x H := ⟨none, .inl ⟨rfl, h⟩⟩
theorem each_some {α β : Type} {R : α → β → Prop} : ∀ {xs : List α}, (∀ x ∈ xs, ∃ o, R x o) → ∃ os : List β, xs.length = os.length ∧ ∀ (i : Nat) (x : α) (o : β), xs[i]? = some x → os[i]? = some o → R x o
  | [], _ => ⟨[], rfl, fun i x o h => by simp at h⟩
  | x :: xs, h => by
    obtain ⟨o, ho⟩ := h x List.mem_cons_self
    obtain ⟨os, h1, h2⟩ := each_some (xs := xs) fun y hy => h y (List.mem_cons_of_mem _ hy)
    refine ⟨o :: os, by simp [h1], fun i y p hy hp => ?_⟩
    cases i with
    | zero =>
      simp at hy hp
      rw [← hy, ← hp]
      exact ho
    | succ i => exact h2 i y p (by simpa using hy) (by simpa using hp)
theorem ws_tup {x : V} (hn : n ≤ 1000) (h : TupOf K n (TkP K) x H) : WsP K x H := by
  obtain ⟨t, xs, rfl, h1, h2, h3⟩ := h
  obtain ⟨os, g1, g2⟩ := each_some h3
  exact ⟨some os, .inr ⟨t, xs, os, rfl, rfl, h1, g1, by omega, g2⟩⟩
theorem ws_no {x : V} (h : NTup K H x) : WsP K x H := ⟨none, .inl ⟨rfl, h⟩⟩
theorem dk_no {x : V} (h : NTup K H x) : DkP K x H := ⟨none, .inl ⟨rfl, .inl h⟩⟩
theorem dk_odd {t : Addr} {ys : List V} (h : SqT K H t ys) (h3 : ys.length ≠ 3) : DkP K (.ref t) H := ⟨none, .inl ⟨rfl, .inr ⟨t, ys, rfl, h, h3⟩⟩⟩
theorem mk_day (m1 : Mks σ H ta (KnP K)) (m2 : Mks σ H tb (KnP K)) (m3 : Mks σ H tc (WsP K)) : Mks σ H (tTup (tCons ta (tCons tb (tCons tc tNil)))) (DkP K) := fun H1 e Q q =>
  m1 H1 e _ fun x H2 e2 hx => m2 H2 (e.trans e2) _ fun y H3 e3 hy => m3 H3 ((e.trans e2).trans e3) _ fun z H4 e4 ⟨ow, hz⟩ =>
    ⟨szl (by simp), fun p np => q _ _ (((e2.trans e3).trans e4).trans (Same.new np)) ⟨some (x, y, ow), .inr ⟨p, x, y, z, ow, rfl, rfl, SqT.of upd_same, Kn.kp (.of ((e3.trans e4).trans (Same.new np))) hx, Kn.kp (.of (e4.trans (Same.new np))) hy, ws_kp (.of (Same.new np)) hz⟩⟩⟩
theorem mk_tupNil {Φ : Vp} (hΦ : ∀ p H1, SqT K H1 p [] → Φ (.ref p) H1) : Mks σ H (tTup tNil) Φ := fun H1 e Q q => ⟨szl (by simp), fun p np => q _ _ (Same.new np) (hΦ p _ (SqT.of upd_same))⟩
theorem ws_nil {p : Addr} (h : SqT K H p []) : WsP K (.ref p) H := ws_tup (n := 0) (by omega) ⟨p, [], rfl, h, Nat.le_refl _, fun y hy => nomatch hy⟩
theorem lst_ntup {Φ : Vp} {x : V} (h : LstOf n Φ x H) : NTup K H x := by
  obtain ⟨l, xs, rfl, h1, _⟩ := h
  exact ⟨xs, SqL.of h1⟩
end
end HX

namespace Dw
open PySem L2 HX Dry
def topS (i : Nat) : Stmt := PySem.Challenge.pw_drywalks_k01_what_are_days_and_plans.main.body.getD i (.Pass ⟨0, 0, 0, 0⟩)
abbrev s__wall : Stmt := topS 0
theorem sc__wall : FnScope ["k"] ["k"] (defScope s__wall) := ⟨rfl, rfl, rfl, by decide +kernel, rfl, by decide +kernel, by decide +kernel⟩
abbrev s_is_from : Stmt := topS 7
theorem sc_is_from : FnScope ["thing", "low", "high"] ["thing", "low", "high"] (defScope s_is_from) := ⟨rfl, rfl, rfl, by decide +kernel, rfl, by decide +kernel, by decide +kernel⟩
abbrev s_is_walk : Stmt := topS 8
theorem sc_is_walk : FnScope ["places", "hours", "thing", "hour", "begin", "end", "wet", "room"] ["places", "hours", "thing"] (defScope s_is_walk) := ⟨rfl, rfl, rfl, by decide +kernel, rfl, by decide +kernel, by decide +kernel⟩
abbrev s_is_day : Stmt := topS 9
theorem sc_is_day : FnScope ["thing", "places", "hours", "walks", "one", "other"] ["thing"] (defScope s_is_day) := ⟨rfl, rfl, rfl, by decide +kernel, rfl, by decide +kernel, by decide +kernel⟩
abbrev s_are_from : Stmt := topS 10
theorem sc_are_from : FnScope ["day", "thing", "high", "one"] ["day", "thing", "high"] (defScope s_are_from) := ⟨rfl, rfl, rfl, by decide +kernel, rfl, by decide +kernel, by decide +kernel⟩
abbrev s_are_numbers : Stmt := topS 11
theorem sc_are_numbers : FnScope ["day", "thing"] ["day", "thing"] (defScope s_are_numbers) := ⟨rfl, rfl, rfl, by decide +kernel, rfl, by decide +kernel, by decide +kernel⟩
abbrev s_moved : Stmt := topS 14
theorem sc_moved : FnScope ["day", "hour", "carried", "places", "out", "into", "walk", "many"] ["day", "hour", "carried", "places"] (defScope s_moved) := ⟨rfl, rfl, rfl, by decide +kernel, rfl, by decide +kernel, by decide +kernel⟩
abbrev s_standing : Stmt := topS 15
theorem sc_standing : FnScope ["day", "starts", "carried", "found", "hour", "out", "into", "stands", "less", "more"] ["day", "starts", "carried"] (defScope s_standing) := ⟨rfl, rfl, rfl, by decide +kernel, rfl, by decide +kernel, by decide +kernel⟩
abbrev s_are_carried : Stmt := topS 16
theorem sc_are_carried : FnScope ["walks", "thing", "walk", "many"] ["walks", "thing"] (defScope s_are_carried) := ⟨rfl, rfl, rfl, by decide +kernel, rfl, by decide +kernel, by decide +kernel⟩
abbrev s_is_plan : Stmt := topS 17
theorem sc_is_plan : FnScope ["day", "wanted", "thing", "starts", "carried", "rows", "hour", "out", "into", "stands", "less", "least"] ["day", "wanted", "thing"] (defScope s_is_plan) := ⟨rfl, rfl, rfl, by decide +kernel, rfl, by decide +kernel, by decide +kernel⟩
abbrev s_Flow___init__ : Stmt := inClass (topS 19) 0
theorem sc_Flow___init__ : FnScope ["self", "day", "given", "wanted", "walk"] ["self", "day", "given", "wanted"] (defScope s_Flow___init__) := ⟨rfl, rfl, rfl, by decide +kernel, rfl, by decide +kernel, by decide +kernel⟩
abbrev s_Flow_starts : Stmt := inClass (topS 19) 1
theorem sc_Flow_starts : FnScope ["self", "one", "other"] ["self"] (defScope s_Flow_starts) := ⟨rfl, rfl, rfl, by decide +kernel, rfl, by decide +kernel, by decide +kernel⟩
abbrev s_Flow_waits : Stmt := inClass (topS 19) 2
theorem sc_Flow_waits : FnScope ["self", "rows", "found", "hour", "left", "walk", "many", "stands", "least"] ["self"] (defScope s_Flow_waits) := ⟨rfl, rfl, rfl, by decide +kernel, rfl, by decide +kernel, by decide +kernel⟩
abbrev s_Flow_steps : Stmt := inClass (topS 19) 3
theorem sc_Flow_steps : FnScope ["self", "moment", "place", "waits", "found", "number", "walk"] ["self", "moment", "place", "waits"] (defScope s_Flow_steps) := ⟨rfl, rfl, rfl, by decide +kernel, rfl, by decide +kernel, by decide +kernel⟩
abbrev s_Flow_reached : Stmt := inClass (topS 19) 4
theorem sc_Flow_reached : FnScope ["self", "waits", "last", "found", "row", "place", "here", "moment", "number", "sign"] ["self"] (defScope s_Flow_reached) := ⟨rfl, rfl, rfl, by decide +kernel, rfl, by decide +kernel, by decide +kernel⟩
abbrev s_Flow_lessen : Stmt := inClass (topS 19) 5
theorem sc_Flow_lessen : FnScope ["self", "found", "some", "place", "way", "here", "number", "sign"] ["self"] (defScope s_Flow_lessen) := ⟨rfl, rfl, rfl, by decide +kernel, rfl, by decide +kernel, by decide +kernel⟩
abbrev s_Flow_settle : Stmt := inClass (topS 19) 6
theorem sc_Flow_settle : FnScope ["self", "going"] ["self"] (defScope s_Flow_settle) := ⟨rfl, rfl, rfl, by decide +kernel, rfl, by decide +kernel, by decide +kernel⟩
abbrev s_Flow_line : Stmt := inClass (topS 19) 7
theorem sc_Flow_line : FnScope ["self"] ["self"] (defScope s_Flow_line) := ⟨rfl, rfl, rfl, by decide +kernel, rfl, by decide +kernel, by decide +kernel⟩
abbrev s_settled : Stmt := topS 20
theorem sc_settled : FnScope ["day", "given", "wanted", "flow"] ["day", "given", "wanted"] (defScope s_settled) := ⟨rfl, rfl, rfl, by decide +kernel, rfl, by decide +kernel, by decide +kernel⟩
abbrev s_fewest : Stmt := topS 21
theorem sc_fewest : FnScope ["day", "wanted", "flow"] ["day", "wanted"] (defScope s_fewest) := ⟨rfl, rfl, rfl, by decide +kernel, rfl, by decide +kernel, by decide +kernel⟩
abbrev s__law_bag : Stmt := topS 23
theorem sc__law_bag : FnScope ["script", "k", "cell", "seed"] ["script", "k"] (defScope s__law_bag) := ⟨rfl, rfl, rfl, by decide +kernel, rfl, by decide +kernel, by decide +kernel⟩
abbrev s__law_take : Stmt := topS 24
theorem sc__law_take : FnScope ["bag", "count", "found"] ["bag", "count"] (defScope s__law_take) := ⟨rfl, rfl, rfl, by decide +kernel, rfl, by decide +kernel, by decide +kernel⟩
abbrev s__law_of : Stmt := topS 25
theorem sc__law_of : FnScope ["bag", "some"] ["bag", "some"] (defScope s__law_of) := ⟨rfl, rfl, rfl, by decide +kernel, rfl, by decide +kernel, by decide +kernel⟩
abbrev s__law_day : Stmt := topS 26
theorem sc__law_day : FnScope ["bag", "many", "hours", "walks", "places_so", "long", "found", "turn", "begin", "end", "wet", "room"] ["bag", "many", "hours", "walks"] (defScope s__law_day) := ⟨rfl, rfl, rfl, by decide +kernel, rfl, by decide +kernel, by decide +kernel⟩
abbrev s__law_wanted : Stmt := topS 27
theorem sc__law_wanted : FnScope ["bag", "day", "most", "place"] ["bag", "day", "most"] (defScope s__law_wanted) := ⟨rfl, rfl, rfl, by decide +kernel, rfl, by decide +kernel, by decide +kernel⟩
abbrev s__law_stands : Stmt := topS 28
theorem sc__law_stands : FnScope ["day", "starts", "carried", "found", "short", "hour", "here", "walk", "many"] ["day", "starts", "carried"] (defScope s__law_stands) := ⟨rfl, rfl, rfl, by decide +kernel, rfl, by decide +kernel, by decide +kernel⟩
abbrev s__law_is_number : Stmt := topS 29
theorem sc__law_is_number : FnScope ["thing", "least", "most"] ["thing", "least", "most"] (defScope s__law_is_number) := ⟨rfl, rfl, rfl, by decide +kernel, rfl, by decide +kernel, by decide +kernel⟩
abbrev s__law_is_plan : Stmt := topS 30
theorem sc__law_is_plan : FnScope ["day", "wanted", "thing", "starts", "carried", "one", "walk", "many", "rows", "least"] ["day", "wanted", "thing"] (defScope s__law_is_plan) := ⟨rfl, rfl, rfl, by decide +kernel, rfl, by decide +kernel, by decide +kernel⟩
abbrev s__law_is_day : Stmt := topS 31
theorem sc__law_is_day : FnScope ["thing", "walk", "odd_ends", "place"] ["thing"] (defScope s__law_is_day) := ⟨rfl, rfl, rfl, by decide +kernel, rfl, by decide +kernel, by decide +kernel⟩
abbrev s__law_are_numbers : Stmt := topS 32
theorem sc__law_are_numbers : FnScope ["day", "thing", "one"] ["day", "thing"] (defScope s__law_are_numbers) := ⟨rfl, rfl, rfl, by decide +kernel, rfl, by decide +kernel, by decide +kernel⟩
abbrev s__law_odd : Stmt := topS 33
theorem sc__law_odd : FnScope ["bag", "day", "places_so", "long", "walks", "walk", "full", "room", "many", "row", "some"] ["bag", "day"] (defScope s__law_odd) := ⟨rfl, rfl, rfl, by decide +kernel, rfl, by decide +kernel, by decide +kernel⟩
abbrev s__law_bent_plans : Stmt := topS 34
theorem sc__law_bent_plans : FnScope ["bag", "plan", "starts", "carried", "at", "number", "some", "turn"] ["bag", "plan"] (defScope s__law_bent_plans) := ⟨rfl, rfl, rfl, by decide +kernel, rfl, by decide +kernel, by decide +kernel⟩
abbrev s_law : Stmt := topS 35
theorem sc_law : FnScope ["script", "k", "bag", "day", "thing", "found", "wanted", "some", "told", "rows"] ["script"] (defScope s_law) := ⟨rfl, rfl, rfl, by decide +kernel, rfl, by decide +kernel, by decide +kernel⟩
end Dw


namespace Dw
open PySem L2 HX Dry
local macro_rules | `(tactic| walk_at "sm") => `(tactic| first
  | exact Same.refl _
  | assumption
  | (refine' Same.trans ?_ (L2.Same.new (by assumption)); walk_at "sm")
  | (refine' L2.Same.mut ?_ (by assumption); walk_at "sm")
  | (refine' Same.trans ?_ (by assumption); walk_at "sm"))
local macro_rules | `(tactic| walk_at "tx") => `(tactic| first
  | exact Tx.refl _
  | assumption
  | (refine' Tx.of ?_; walk_at "sm")
  | (refine' Tx.trans ?_ (Tx.new (by assumption)); walk_at "tx")
  | (refine' Tx.trans ?_ (Tx.mutL (by walk_at "gt")); walk_at "tx")
  | (refine' Tx.trans ?_ (Tx.mutI (by walk_at "gt")); walk_at "tx")
  | (refine' Tx.trans ?_ (Tx.mutD (by walk_at "gt")); walk_at "tx")
  | (refine' Tx.trans ?_ (Tx.of (by assumption)); walk_at "tx")
  | (refine' Tx.trans ?_ (by assumption); walk_at "tx"))
local macro_rules | `(tactic| walk_at "sq") => `(tactic| first
  | assumption
  | with_reducible exact SqT.of upd_same
  | with_reducible exact SqL.of upd_same
  | exact SqT.of (by assumption)
  | exact SqL.of (by assumption)
  | (refine' Tx.tup ?_ (by assumption); walk_at "tx")
  | (refine' L2.Same.lst ?_ (by assumption); walk_at "sm")
  | (refine' Tx.tup ?_ (SqT.of (by assumption)); walk_at "tx")
  | (refine' L2.Same.lst ?_ (SqL.of (by assumption)); walk_at "sm")
  | exact SqL.of (by walk_at "gt")
  | exact SqT.of (by walk_at "gt"))
local macro_rules | `(tactic| walk_at "gt") => `(tactic| first
  | assumption
  | with_reducible exact upd_same
  | ((with_reducible refine Eq.trans upd_same ?_); rfl)
  | ((with_reducible refine' get_new ?g1 ?g2); (case g2 => assumption); (case g1 => walk_at "gt"))
  | ((with_reducible refine' get_mut ?g1 ?g2); (case g1 => assumption); (case g2 => walk_at "gt"))
  | ((with_reducible refine' get_mut ?g1 ?g2); (case g1 => exact Ne.symm (by assumption)); (case g2 => walk_at "gt"))
  | (refine' (by assumption : Same _ _) _ _ ?_; walk_at "gt"))
local macro_rules | `(tactic| walk_at "ix") => `(tactic| first
  | exact at0 | exact at1 | exact at2' | exact at3 | exact at4
  | exact atI_nat (by assumption)
  | rfl)
local macro_rules | `(tactic| walk_at "cd") => `(tactic| first
  | (show (0 : Int) < _; omega)
  | exact And.intro (by omega) (by omega)
  | exact Or.inl (And.intro (by omega) (by omega))
  | exact Or.inr (And.intro (by omega) (by omega))
  | exact And.intro (by decide) (And.intro (by decide) (by decide)))
local macro_rules | `(tactic| walk_at "kc") => `(tactic| first | exact Ctx.cl (by assumption) | exact CtxH.cl (by assumption))
local macro_rules | `(tactic| walk_at "na") => `(tactic| first | exact CtxH.day (by assumption) | exact CtxH.rows (by assumption) | exact CtxH.past (by assumption) | exact Ctx.day (by assumption) | exact Ctx.given (by assumption) | exact Ctx.wanted (by assumption) | exact Ctx.carried (by assumption) | exact Ctx.more (by assumption))
local macro_rules | `(tactic| walk_at "few") => `(tactic| first | exact (by decide : 0 < 1000) | exact (by decide : 1 < 1000) | exact (by decide : 2 < 1000) | exact (by decide : 3 < 1000) | exact (by decide : 4 < 1000) | exact (by decide : 5 < 1000))
local macro_rules | `(tactic| walk_at "st") => `(tactic| first
  | with_reducible refine c_var rfl ?_
  | with_reducible refine c_c ?_
  | with_reducible refine c_op ?_
  | with_reducible refine c_I0 ?_
  | ((with_reducible refine' c_I ?k1 ?_); (case k1 => walk_at "cd"))
  | ((with_reducible refine' c_ixT ?k1 ?k2 ?_); (case k1 => walk_at "sq"); (case k2 => walk_at "ix"))
  | ((with_reducible refine' c_ixL ?k1 ?k2 ?_); (case k1 => walk_at "sq"); (case k2 => walk_at "ix"))
  | with_reducible refine c_eqI ?_
  | with_reducible refine c_neI ?_
  | with_reducible refine c_test ?_
  | with_reducible refine c_tB ?_
  | with_reducible refine c_and ?_
  | with_reducible refine c_or ?_
  | with_reducible refine c_not ?_
  | with_reducible refine c_andV ?_
  | with_reducible refine c_orV ?_
  | with_reducible refine c_notV ?_
  | with_reducible refine c_if ?_
  | with_reducible refine c_chain ?_
  | with_reducible refine c_nil ?_
  | with_reducible refine c_cons ?_
  | with_reducible refine c_tup ?_
  | with_reducible refine c_lst ?_
  | with_reducible refine c_cb ?_
  | with_reducible refine c_call ?_
  | ((with_reducible refine' c_selfld rfl ?k1 ?k0 ?k2 ?k3 ?_); (case k1 => walk_at "gt"); (case k0 => walk_at "kc"); (case k2 => walk_at "na"); (case k3 => exact rfl))
  | ((with_reducible refine' c_selmeth rfl ?k1 ?k2 ?_); (case k1 => walk_at "gt"); (case k2 => exact rfl))
  | with_reducible refine c_fld ?_
  | with_reducible refine c_part ?_
  | with_reducible refine c_nopart ?_
  | with_reducible refine c_sl ?_
  | with_reducible refine c_bm ?_
  | with_reducible refine c_bm0 ?_
  | with_reducible refine c_un ?_
  | with_reducible refine c_U ?_
  | with_reducible refine c_next ?_
  | with_reducible refine c_asg ?_
  | with_reducible refine c_gname ?_
  | with_reducible refine c_ret ?_
  | with_reducible refine c_ifS ?_
  | with_reducible refine c_drop ?_
  | with_reducible refine c_aug rfl ?_
  | with_reducible refine c_ipI ?_
  | with_reducible refine c_par ?_
  | with_reducible refine c_augS ?_
  | ((with_reducible refine' c_setL ?k1 ?k2 ?_); (case k1 => walk_at "gt"); (case k2 => assumption))
  | ((with_reducible refine' c_gtup ?k1 ?k2 ?_); (case k1 => walk_at "sq"); (case k2 => rfl))
  | with_reducible refine c_gcons ?_
  | with_reducible refine c_gnil ?_
  | with_reducible refine c_dget ?_
  | with_reducible refine c_din ?_
  | with_reducible refine c_dnotin ?_
  | with_reducible refine c_dput ?_
  | with_reducible refine c_for ?_
  | with_reducible refine c_zip2 ?_
  | with_reducible refine c_zip3 ?_
  | with_reducible refine c_enum ?_
  | with_reducible refine c_rng1 ?_
  | with_reducible refine c_iList ?_
  | with_reducible refine c_iTup ?_
  | with_reducible refine c_lc ?_
  | with_reducible refine c_bl ?_
  | with_reducible refine c_par2 ?_
  | with_reducible refine c_ei ?_
  | with_reducible refine c_tupL (SqL.of upd_same) ?_
  | with_reducible refine c_lisL (SqL.of upd_same) ?_
  | with_reducible refine c_lenL (SqL.of upd_same) ?_
  | with_reducible refine c_tupL (SqL.of (by assumption)) ?_
  | with_reducible refine c_lisL (SqL.of (by assumption)) ?_
  | with_reducible refine c_lenL (SqL.of (by assumption)) ?_
  | with_reducible refine c_lenL (by assumption) ?_
  | ((with_reducible refine' c_tupT ?k1 ?_); (case k1 => walk_at "sq"))
  | ((with_reducible refine' c_tupL ?k1 ?_); (case k1 => walk_at "sq"))
  | ((with_reducible refine' c_lisT ?k1 ?_); (case k1 => walk_at "sq"))
  | ((with_reducible refine' c_lisL ?k1 ?_); (case k1 => walk_at "sq"))
  | ((with_reducible refine' c_lenT ?k1 ?_); (case k1 => walk_at "sq"))
  | ((with_reducible refine' c_lenL ?k1 ?_); (case k1 => walk_at "sq"))
  | with_reducible refine c_intW ?_
  | with_reducible refine c_intI ?_
  | with_reducible refine c_intBl ?_
  | with_reducible refine c_max ?_
  | with_reducible refine c_min ?_
  | with_reducible refine c_meth ?_
  | with_reducible refine c_make ?_
  | with_reducible refine c_yes ?_
  | with_reducible refine c_gsub ?_
  | with_reducible refine c_wput ?_
  | with_reducible refine c_sfld ?_
  | ((with_reducible refine' c_sfldv ?k1 ?k0 ?k2 ?k3 ?_); (case k1 => walk_at "gt"); (case k0 => walk_at "kc"); (case k2 => walk_at "na"); (case k3 => walk_at "few"))
  | ((with_reducible refine' c_fldv ?k1 ?k0 ?k2 ?k3 ?_); (case k1 => walk_at "gt"); (case k0 => walk_at "kc"); (case k2 => walk_at "na"); (case k3 => exact rfl))
  | ((with_reducible refine' c_methv ?k1 ?k2 ?_); (case k1 => walk_at "gt"); (case k2 => exact rfl))
  | ((with_reducible refine' c_bml ?k1 ?_); (case k1 => walk_at "sq")))
local macro_rules | `(tactic| walk_at "go") => `(tactic| repeat (first | walk_at "st" | with_reducible refine c_seq ?_))
local macro_rules | `(tactic| walk_at "gn") => `(tactic| repeat (walk_at "st"))
section
variable {P : Program} {w : World} {K : PySem.W.Frag} {mg : Str → Option Value} {base : Heap}
def spIsFrom (K : PySem.W.Frag) : Sp := fun vs H Q _ => ∃ (x : V) (lo hi : Int), vs = [x, .int lo, .int hi] ∧ Kn K H x ∧ Q (.bl (isFromV x lo hi)) H
theorem df_is_from (B : Bl mg) (F : Has K mg "is_from" s_is_from) : Df P w K mg base "is_from" 1 ["thing", "low", "high"] (spIsFrom K) := by
  refine df_of F sc_is_from (fun _ _ _ _ _ _ us hl => match us, hl with | [_, _, _], _ => rfl) (fun vs H Q E h => ?_) (fun f cdv A outer s H vs Q E hr h => ?_)
  · obtain ⟨x, lo, hi, rfl, _⟩ := h
    rfl
  · obtain ⟨x, lo, hi, rfl, hk, k⟩ := h
    refine ⟨(tRet (tAndV (tCB (rIsi K) (tCons (tVar 0) (tCons (tC (.ty "int")) tNil))) (tAndV (tNotV (tCB (rIsi K) (tCons (tVar 0) (tCons (tC (.ty "bool")) tNil)))) (tChain (rI0 fun i j => .bl (decide (i ≤ j))) (rI0 fun i j => .bl (decide (i ≤ j))) (tVar 1) (tVar 0) (tVar 2))))),
      (pss_one (ps_ret (pe_and (pe_callB call_isi (by rfl) B.isinstance bt_isinstance (pa_cons (pv 0) (pa_cons (pe_bltn (v := .ty "int") (by rfl) B.int bt_int rfl) pa_nil))) (pe_and (pe_not (pe_callB call_isi (by rfl) B.isinstance bt_isinstance (pa_cons (pv 0) (pa_cons (pe_bltn (v := .ty "bool") (by rfl) B.bool bt_bool rfl) pa_nil)))) (pe_one (pe_chain op_le op_le (pv 1) (pv 0) (pv 2))))))), ?_⟩
    walk_at "go"
    refine isi_int hk ?_
    walk_at "go"
    cases x with
    | int i =>
      refine iteT ?_
      walk_at "go"
      refine isi_bool hk ?_
      walk_at "go"
      refine iteT ?_
      walk_at "go"
      refine ite2 (fun h1 => ?_) (fun h1 => ?_)
      · walk_at "go"
        have e : decide (i ≤ hi) = isFromV (.int i) lo hi := by
          show _ = (decide (lo ≤ i) && decide (i ≤ hi))
          rw [h1]; rfl
        rw [e]; exact k
      · have e : false = isFromV (.int i) lo hi := by
          show _ = (decide (lo ≤ i) && decide (i ≤ hi))
          rw [Bool.eq_false_iff.mpr h1]; rfl
        rw [e]; exact k
    | bl b =>
      refine iteT ?_
      walk_at "go"
      refine isi_bool hk ?_
      walk_at "go"
      exact iteF k
    | non => exact iteF k
    | str z => exact iteF k
    | ref a => exact iteF k
    | byt _ => exact hk.elim
    | flt _ => exact hk.elim
    | ty _ => exact hk.elim
def spMoved (K : PySem.W.Frag) : Sp := fun vs H Q _ => ∃ (a aw ac : Addr) (ds : List V) (d : Day) (hour : Nat) (b : Bool) (cs : List Int), vs = [.ref a, .int (hour : Int), .ref ac, .int (d.P : Int)] ∧ DayAt K H a aw ds d ∧ d.Ok ∧ d.Sm ∧
  SqB K b H ac (vI cs) ∧ cs.length = d.ws.length ∧ ∀ (H' : Hp) (t p q : Addr), Same H H' → H' t = some (.tup [.ref p, .ref q]) → H' p = some (.lst (vI (moved d hour cs).1)) → H' q = some (.lst (vI (moved d hour cs).2)) → Q (.ref t) H'
theorem rep0 (n : Nat) : (List.replicate n [V.int 0]).flatten = vI (List.replicate n 0) := by
  induction n with
  | zero => rfl
  | succ n ih =>
    rw [List.replicate_succ, List.flatten_cons, ih]
    rfl
theorem df_moved (B : Bl mg) (F : Has K mg "moved" s_moved) : Df P w K mg base "moved" 1 ["day", "hour", "carried", "places"] (spMoved K) := by
  refine df_of F sc_moved (fun _ _ _ _ _ _ us hl => match us, hl with | [_, _, _, _], _ => rfl) (fun vs H Q E h => ?_) (fun f cdv A outer s H vs Q E hr h => ?_)
  · obtain ⟨a, aw, ac, ds, d, hour, b, cs, rfl, _⟩ := h
    rfl
  · obtain ⟨a, aw, ac, ds, d, hour, b, cs, rfl, hd, ok, sm, hc, hl, k⟩ := h
    have hday := hd.day
    have hP := sm.P
    have hW := sm.W
    refine ⟨(tSeq (tPar 4 5 (tCons (tOp rRep (tLst (tCons (tC (.int 0)) tNil)) (tVar 3)) (tCons (tOp rRep (tLst (tCons (tC (.int 0)) tNil)) (tVar 3)) tNil))) (tSeq (tFor (iZip2 K (tCons (tOp (rIxT K) (tVar 0) (tC (.int 2))) (tCons (tVar 2) tNil))) (gTup K 2 (gCons (gName 6) (gCons (gName 7) gNil))) (tIfS (tTest (tOp rEq (tOp (rIxT K) (tVar 6) (tC (.int 0))) (tVar 1))) (tSeq (tAugS (tVar 4) (tOp (rIxT K) (tVar 6) (tC (.int 1))) (tVar 7) (rIxL K) (ipI fun i j => i + j) rSetL) (tAugS (tVar 5) (tOp (rIxT K) (tVar 6) (tC (.int 2))) (tVar 7) (rIxL K) (ipI fun i j => i + j) rSetL)) tNext)) (tRet (tTup (tCons (tVar 4) (tCons (tVar 5) tNil)))))),
      (pss_cons (ps_par (i := 4) (j := 5) (by rfl) sc_moved.nd rfl rfl (by decide) rfl rfl (pa_cons (pe_op op_rep (pe_lst (pa_cons pe_int pa_nil)) (pv 3)) (pa_cons (pe_op op_rep (pe_lst (pa_cons pe_int pa_nil)) (pv 3)) pa_nil)) (by rfl))
      (pss_cons (ps_for PassesOwn.never rfl (pi_zip2 (by rfl) B.zip (pa_cons (pe_ix ix_tup (pv 0) pe_int (fun _ _ => rfl)) (pa_cons (pv 2) pa_nil))) (pg_tup rfl (pgs_cons (pg_name (i := 6) sc_moved.nd rfl (by first | exact Or.inl rfl | exact Or.inr rfl)) (pgs_cons (pg_name (i := 7) sc_moved.nd rfl (by first | exact Or.inl rfl | exact Or.inr rfl)) pgs_nil)))
      (pss_one (ps_if (pt_cmpR op_eq (pe_ix ix_tup (pv 6) pe_int (fun _ _ => rfl)) (pv 1) (nomark _)) (pss_cons (ps_augS (pv 4) (pe_ix ix_tup (pv 6) pe_int (fun _ _ => rfl)) get_list (pv 7) ip_add set_list)
      (pss_one (ps_augS (pv 5) (pe_ix ix_tup (pv 6) pe_int (fun _ _ => rfl)) get_list (pv 7) ip_add set_list))) pss_nil)))
      (pss_one (ps_ret (pe_tup (pa_cons (pv 4) (pa_cons (pv 5) pa_nil))))))), ?_⟩
    walk_at "go"
    refine ⟨by decide, fun p1 np1 => ?_⟩
    walk_at "go"
    refine ⟨p1, (d.P : Int), [.int 0], rfl, rfl, upd_same, by omega, by omega, szl (by simp; omega), fun p np => ?_⟩
    walk_at "go"
    refine ⟨by decide, fun p2 np2 => ?_⟩
    walk_at "go"
    refine ⟨p2, (d.P : Int), [.int 0], rfl, rfl, upd_same, by omega, by omega, szl (by simp; omega), fun q nq => ?_⟩
    walk_at "go"
    have eP : ((d.P : Int)).toNat = d.P := by omega
    rw [eP, rep0] at np2 nq ⊢
    have np0 : H p = none := none_upd np
    have nq0 : H q = none := none_upd (none_upd (none_upd nq))
    have nqp : q ≠ p := ne_upd (none_upd nq)
    refine ⟨true, b, aw, ac, ds, vI cs, rfl, (show SqT K _ _ _ from by have := hd.seq; walk_at "sq"), L2.Same.sqB (by walk_at "sm") hc, ?_⟩
    refine for_it (walk_zip2 (n := d.ws.length) hd.wks.len (by simp [hl])) (fun i σ' H' => ∃ v6 v7, σ' = [some (.ref a), some (.int (hour : Int)), some (.ref ac), some (.int (d.P : Int)), some (.ref p), some (.ref q), v6, v7] ∧ Same H H' ∧
      H' p = some (.lst (vI (((d.ws.zip cs).take i).foldl (movedStep hour) (List.replicate d.P 0, List.replicate d.P 0)).1)) ∧ H' q = some (.lst (vI (((d.ws.zip cs).take i).foldl (movedStep hour) (List.replicate d.P 0, List.replicate d.P 0)).2)))
      ⟨_, _, rfl, by walk_at "sm", by walk_at "gt", by walk_at "gt"⟩ (fun i σ' H' _ ⟨_, _, _, e, _⟩ => ⟨e.tup hd.seq, e.sqB hc⟩) ?_ ?_
    · rintro i x σ' H' H2 hi ⟨v6, v7, rfl, e, hp, hq⟩ ⟨T, x, y, rfl, nT, rfl, hx, hy⟩
      obtain ⟨w, xw, hw, rfl, hwT⟩ := hd.wks.get hx
      obtain ⟨c, hcs, rfl⟩ : ∃ c, cs[i]? = some c ∧ y = .int c := by
        have : i < cs.length := by omega
        exact ⟨cs[i], List.getElem?_eq_getElem this, by
          have z : (vI cs)[i]? = some (.int cs[i]) := vI_get' (List.getElem?_eq_getElem this)
          dsimp only at hy
          rw [z] at hy; exact (Option.some.inj hy).symm⟩
      have hm := List.mem_of_getElem? hw
      have mv := moved_fold hour (d.ws.take i) (cs.take i) (List.replicate d.P 0, List.replicate d.P 0) (fun w hw => by simp; exact ⟨ok.b w (List.mem_of_mem_take hw), ok.e w (List.mem_of_mem_take hw)⟩) (by simp; omega)
      have et : (d.ws.take i).zip (cs.take i) = (d.ws.zip cs).take i := by simp [List.zip, List.take_zipWith]
      rw [et] at mv
      obtain ⟨l1, l2, _, _⟩ := mv
      rw [foldl_take _ _ (zip_get hw hcs)]
      generalize ((d.ws.zip cs).take i).foldl (movedStep hour) (List.replicate d.P 0, List.replicate d.P 0) = o at hp hq l1 l2 ⊢
      have b1 : w.b < o.1.length := by rw [l1]; simp; exact ok.b w hm
      have b2 : w.e < o.2.length := by rw [l2]; simp; exact ok.e w hm
      have g1 := vI_get b1
      have g2 := vI_get b2
      have j1 : ixN (vI o.1).length (w.b : Int) = some w.b := ixN_nat (by simpa using b1)
      have j2 : ixN (vI o.2).length (w.e : Int) = some w.e := ixN_nat (by simpa using b2)
      walk_at "go"
      refine ite2 (fun h => ?_) (fun h => ?_)
      · have hh : w.h = hour := by have := of_decide_eq_true h; omega
        walk_at "go"
        refine ⟨_, _, rfl, by walk_at "sm", ?_, ?_⟩
        · unfold movedStep
          rw [if_pos hh, vI_set]
          walk_at "gt"
        · unfold movedStep
          rw [if_pos hh, upd_same, vI_set]
          rfl
      · have hh : ¬ w.h = hour := fun z => h (decide_eq_true (by omega))
        unfold movedStep
        rw [if_neg hh]
        walk_at "go"
        exact ⟨_, _, rfl, by walk_at "sm", by walk_at "gt", by walk_at "gt"⟩
    · rintro σ' H' ⟨v6, v7, rfl, e, hp, hq⟩
      have et : (d.ws.zip cs).take d.ws.length = d.ws.zip cs := List.take_of_length_le (by simp [List.length_zip]; omega)
      rw [et] at hp hq
      walk_at "go"
      refine ⟨szl (by simp), fun t nt => ?_⟩
      exact k _ t p q (by walk_at "sm") upd_same (by walk_at "gt") (by walk_at "gt")
end
section
variable {P : Program} {w : World} {K : PySem.W.Frag} {mg : Str → Option Value} {base : Heap}
def spStanding (K : PySem.W.Frag) : Sp := fun vs H Q _ => ∃ (a aw as ac : Addr) (ds : List V) (d : Day) (b : Bool) (S cs : List Int), vs = [.ref a, .ref as, .ref ac] ∧ DayAt K H a aw ds d ∧ d.Ok ∧ d.Sm ∧
  SqT K H as (vI S) ∧ S.length = d.P ∧ SqB K b H ac (vI cs) ∧ cs.length = d.ws.length ∧ ∀ (H' : Hp) (r : Addr) (rs : List V), Same H H' → H r = none → H' r = some (.lst rs) → Refs true K H' rs ((standing d S cs).map vI) → Q (.ref r) H'
theorem df_standing (B : Bl mg) (D_moved : Df P w K mg base "moved" 1 ["day", "hour", "carried", "places"] (spMoved K)) (F : Has K mg "standing" s_standing) : Df P w K mg base "standing" 2 ["day", "starts", "carried"] (spStanding K) := by
  refine df_of F sc_standing (fun _ _ _ _ _ _ us hl => match us, hl with | [_, _, _], _ => rfl) (fun vs H Q E h => ?_) (fun f cdv A outer s H vs Q E hr h => ?_)
  · obtain ⟨a, aw, as, ac, ds, d, b, S, cs, rfl, _⟩ := h
    rfl
  · obtain ⟨a, aw, as, ac, ds, d, b, S, cs, rfl, hd, ok, sm, hS, hSl, hc, hl, k⟩ := h
    have hday := hd.day
    have hP := sm.P
    have hT := sm.T
    refine ⟨(tSeq (tAsg (tLst (tCons (tCB (rTupOf K) (tCons (tVar 1) tNil)) tNil)) (gName 3)) (tSeq (tFor (iRng1 (tCons (tOp (rIxT K) (tVar 0) (tC (.int 1))) tNil)) (gName 4) (tSeq (tAsg (tCall (spMoved K) [] E0 (tCons (tVar 0) (tCons (tVar 4) (tCons (tVar 2) (tCons (tOp (rIxT K) (tVar 0) (tC (.int 0))) tNil))))) (gTup K 2 (gCons (gName 5) (gCons (gName 6) gNil)))) (tDrop (tBM K "list" rAppend (tVar 3) (tCons (tCB (rTupOf K) (tCons (tLc (iZip3 K (tCons (tOp (rIxL K) (tVar 3) (tUn (rU fun i => .int (-i)) (tC (.int 1)))) (tCons (tVar 5) (tCons (tVar 6) tNil)))) (gTup K 3 (gCons (gName 7) (gCons (gName 8) (gCons (gName 9) gNil)))) tYes (tOp (rI0 fun i j => .int (i + j)) (tOp (rI0 fun i j => .int (i - j)) (tVar 7) (tVar 8)) (tVar 9)) [7, 8, 9]) tNil)) tNil))))) (tRet (tVar 3)))),
      (pss_cons (ps_set (i := 3) sc_standing.nd rfl (by first | exact Or.inl rfl | exact Or.inr rfl) (pe_lst (pa_cons (pe_callTy call_tuple_of (by rfl) B.tuple bt_tuple (pa_cons (pv 1) pa_nil)) pa_nil)))
      (pss_cons (ps_for PassesOwn.never rfl (pi_range1 (by rfl) B.range (pa_cons (pe_ix ix_tup (pv 0) pe_int (fun _ _ => rfl)) pa_nil)) (pg_name (i := 4) sc_standing.nd rfl (by first | exact Or.inl rfl | exact Or.inr rfl))
      (pss_cons (ps_asg (pe_df D_moved (hr.mono (by decide)) (by rfl) (pa_cons (pv 0) (pa_cons (pv 4) (pa_cons (pv 2) (pa_cons (pe_ix ix_tup (pv 0) pe_int (fun _ _ => rfl)) pa_nil))))) (pg_tup rfl (pgs_cons (pg_name (i := 5) sc_standing.nd rfl (by first | exact Or.inl rfl | exact Or.inr rfl)) (pgs_cons (pg_name (i := 6) sc_standing.nd rfl (by first | exact Or.inl rfl | exact Or.inr rfl)) pgs_nil))))
      (pss_one (ps_expr (pe_bm PySem.F.plainAttrs_list PySem.F.slot_list_append PySem.F.type_list_append mt_append (pv 3) (pa_cons (pe_callTy call_tuple_of (by rfl) B.tuple bt_tuple (pa_cons (pe_lc (own := [("stands", 7), ("less", 8), ("more", 9)]) (g := (gTup K 3 (gCons (gName 7) (gCons (gName 8) (gCons (gName 9) gNil))))) (tt := tYes) (te := (tOp (rI0 fun i j => .int (i + j)) (tOp (rI0 fun i j => .int (i - j)) (tVar 7) (tVar 8)) (tVar 9))) rfl sc_standing.nd (pi_zip3 (by rfl) B.zip (pa_cons (pe_ix ix_list (pv 3) (pe_un un_neg pe_int) (fun _ _ => rfl)) (pa_cons (pv 5) (pa_cons (pv 6) pa_nil)))) (blkOk_by (own := [("stands", 7), ("less", 8), ("more", 9)]) (N := ["day", "starts", "carried", "found", "hour", "out", "into", "stands", "less", "more"]) (sc := defScope s_standing) (by decide +kernel)) (fun _ _ _ _ _ => (pg_tup rfl (pgs_cons (pg_name (i := 7) sc_standing.nd rfl (by first | exact Or.inl rfl | exact Or.inr rfl)) (pgs_cons (pg_name (i := 8) sc_standing.nd rfl (by first | exact Or.inl rfl | exact Or.inr rfl)) (pgs_cons (pg_name (i := 9) sc_standing.nd rfl (by first | exact Or.inl rfl | exact Or.inr rfl)) pgs_nil))))) (fun _ _ _ _ _ => pts_nil) (fun _ _ _ _ _ => (pe_op op_add (pe_op op_sub (pv 7) (pv 8)) (pv 9)))) pa_nil)) pa_nil))))))
      (pss_one (ps_ret (pv 3))))), ?_⟩
    walk_at "go"
    refine ⟨szl (by simp), fun r nr => ?_⟩
    walk_at "go"
    refine ⟨_, rfl, by omega, by omega, ?_⟩
    rw [Int.toNat_natCast]
    refine for_it walk_rng (fun i σ' H' => ∃ v4 v5 v6 rs, σ' = [some (.ref a), some (.ref as), some (.ref ac), some (.ref r), v4, v5, v6, none, none, none] ∧ Same H H' ∧ H' r = some (.lst rs) ∧
      Refs true K H' rs (((List.range (i + 1)).map (rowAt d S cs)).map vI)) ⟨_, _, _, _, rfl, Same.new nr, upd_same, ?_⟩ (fun _ _ _ _ _ => trivial) ?_ ?_
    · exact Refs.nil.snoc (vss := []) (show SqT K _ _ _ from (Same.new nr).tup hS)
    · rintro i x σ' H' H2 hi ⟨v4, v5, v6, rs, rfl, e, hr', hrs⟩ ⟨rfl, rfl⟩
      have rsp := rowAt_spec ok S cs hl hSl
      have hdH := hd.tx (.of e)
      have hday' := hdH.day
      walk_at "go"
      refine ⟨a, aw, ac, ds, d, i, b, cs, rfl, hdH, ok, sm, e.sqB hc, hl, fun H1 t p q e1 ht hp hq => ?_⟩
      walk_at "go"
      have hrl : rs.length = i + 1 := by rw [hrs.len]; simp
      obtain ⟨x, hx, hxs⟩ := hrs.at_ i (vI (rowAt d S cs i)) (by simp [List.getElem?_range])
      have hr1 := e1 _ _ hr'
      walk_at "go"
      refine c_ixL (SqL.of hr1) (atLast (by rw [hrl]; exact hx)) ?_
      walk_at "go"
      obtain ⟨m1, m2, _, _⟩ := moved_spec ok i cs hl
      refine ⟨true, false, false, x, p, q, _, _, _, rfl, e1.tup hxs, SqL.of hp, SqL.of hq, fun D nD => ?_⟩
      refine lc_it (walk_zip3 (n := d.P) (by rw [List.length_map]; exact (rsp i).1) (by rw [List.length_map]; exact m1) (by rw [List.length_map]; exact m2))
        (fun j H2 => Same H1 H2 ∧ H2 D = some (.lst (vI ((rowAt d S cs (i + 1)).take j)))) ⟨Same.new nD, upd_same⟩ (fun j H2 _ h => ⟨h.1.tup (e1.tup hxs), h.1.lst (SqL.of hp), h.1.lst (SqL.of hq)⟩) ?_ ?_
      · rintro j y H2 H3 hj ⟨e2, hD⟩ ⟨T, x1, y1, z1, rfl, nT, rfl, hx1, hy1, hz1⟩
        obtain ⟨n1, f1, rfl⟩ := vI_inv hx1
        obtain ⟨n2, f2, rfl⟩ := vI_inv hy1
        obtain ⟨n3, f3, rfl⟩ := vI_inv hz1
        walk_at "go"
        refine ⟨rfl, ?_⟩
        walk_at "go"
        refine iteT ?_
        walk_at "go"
        refine ⟨_, get_new hD nT, szl' (by simp; omega), Same.mut (e2.trans (Same.new nT)) nD, ?_⟩
        rw [upd_same, take_succ_get (show (rowAt d S cs (i + 1))[j]? = _ from zip3_take _ _ _ _ _ _ _ _ f1 f2 f3)]
        simp
      · rintro H2 ⟨e2, hD⟩
        rw [List.take_of_length_le (by rw [(rsp (i + 1)).1]; exact Nat.le_refl _)] at hD
        walk_at "go"
        intro l nl
        walk_at "go"
        refine c_app (get_new (e2 _ _ hr1) nl) (szl' (by rw [hrl]; omega)) ?_
        have e3 := e1.trans (e2.trans (Same.new (o := .tup (vI (rowAt d S cs (i + 1)))) nl))
        refine ⟨_, _, _, _, rfl, Same.mut (e.trans e3) nr, upd_same, ?_⟩
        rw [range_succ_map _ (i + 1), List.map_append]
        exact (hrs.tx (Tx.trans (.of e3) (Tx.mutL (get_new (e2 _ _ hr1) nl)))).snoc (show SqT K _ _ _ from Tx.tup (Tx.mutL (get_new (e2 _ _ hr1) nl)) (SqT.of upd_same))
    · rintro σ' H' ⟨v4, v5, v6, rs, rfl, e, hr', hrs⟩
      walk_at "go"
      exact k _ r rs e nr hr' hrs
end
section
variable {P : Program} {w : World} {K : PySem.W.Frag} {mg : Str → Option Value} {base : Heap}
def spInit (K : PySem.W.Frag) (C : Addr) : Sp := fun vs H Q _ => ∃ (H0 : Hp) (p dx a aw g wa : Addr) (ds : List V) (d : Day) (G W : List Int), vs = [.ref p, .ref a, .ref g, .ref wa] ∧ Same H0 H ∧ H0 p = none ∧ H p = some (.ins C dx []) ∧
  FlowS K H0 d a aw ds g wa G W ∧ ∀ (H' : Hp) (c m : Addr), Same H0 H' → H0 c = none → H0 m = none → FlowO C H' p dx a g wa c m (flow0 d W) → Q .non H'
theorem mf_init (C : Addr) (T : Ctx K C) (B : Bl mg) (F : HasI K mg "Flow" C "Flow.__init__" s_Flow___init__) : Mkf P w K mg base "Flow" C 1 ["self", "day", "given", "wanted"] (spInit K C) := by
  refine mkf_of F sc_Flow___init__ (fun _ _ _ _ _ _ us hl => match us, hl with | [_, _, _, _], _ => rfl) (fun vs H Q E h => ?_) (fun f cdv A outer s H vs Q E hr h => ?_)
  · obtain ⟨H0, p, dx, a, aw, g, wa, ds, d, G, W, rfl, _⟩ := h
    rfl
  · obtain ⟨H0, p, dx, a, aw, g, wa, ds, d, G, W, rfl, s0, p0, hp, S, k⟩ := h
    have hday := S.day.day
    have hwan := S.wan
    have hW := S.sm.W
    refine ⟨(tSeq (sFld K (tVar 0) (tVar 1) "day") (tSeq (sFld K (tVar 0) (tVar 2) "given") (tSeq (sFld K (tVar 0) (tVar 3) "wanted") (tSeq (sFld K (tVar 0) (tLc (iTup K (tOp (rIxT K) (tVar 1) (tC (.int 2)))) (gName 4) tYes (tCB rInt1 (tCons (tOp (rIxT K) (tVar 4) (tC (.int 3))) tNil)) [4]) "carried") (tSeq (sFld K (tVar 0) (tCB (rListOf K) (tCons (tVar 3) tNil)) "more") (tFor (iTup K (tOp (rIxT K) (tVar 1) (tC (.int 2)))) (gName 4) (tAugS (tFld K (tVar 0) "more") (tOp (rIxT K) (tVar 4) (tC (.int 1))) (tCB rInt1 (tCons (tOp (rIxT K) (tVar 4) (tC (.int 3))) tNil)) (rIxL K) (ipI fun i j => i + j) rSetL))))))),
      (pss_cons (ps_fld (pv 0) (pv 1) rfl)
      (pss_cons (ps_fld (pv 0) (pv 2) rfl)
      (pss_cons (ps_fld (pv 0) (pv 3) rfl)
      (pss_cons (ps_fld (pv 0) (pe_lc (own := [("walk", 4)]) (g := (gName 4)) (tt := tYes) (te := (tCB rInt1 (tCons (tOp (rIxT K) (tVar 4) (tC (.int 3))) tNil))) rfl sc_Flow___init__.nd (pi_tup (pe_ix ix_tup (pv 1) pe_int (fun _ _ => rfl))) (blkOk_by (own := [("walk", 4)]) (N := ["self", "day", "given", "wanted", "walk"]) (sc := defScope s_Flow___init__) (by decide +kernel)) (fun _ _ _ _ _ => (pg_name (i := 4) sc_Flow___init__.nd rfl (by first | exact Or.inl rfl | exact Or.inr rfl))) (fun _ _ _ _ _ => pts_nil) (fun _ _ _ _ _ => (pe_callTy call_int1 (by rfl) B.int bt_int (pa_cons (pe_ix ix_tup (pv 4) pe_int (fun _ _ => rfl)) pa_nil)))) rfl)
      (pss_cons (ps_fld (pv 0) (pe_callTy call_list_of (by rfl) B.list bt_list (pa_cons (pv 3) pa_nil)) rfl)
      (pss_one (ps_for PassesOwn.never rfl (pi_tup (pe_ix ix_tup (pv 1) pe_int (fun _ _ => rfl))) (pg_name (i := 4) sc_Flow___init__.nd rfl (by first | exact Or.inl rfl | exact Or.inr rfl))
      (pss_one (ps_augS (pe_fld (pv 0) rfl) (pe_ix ix_tup (pv 4) pe_int (fun _ _ => rfl)) get_list (pe_callTy call_int1 (by rfl) B.int bt_int (pa_cons (pe_ix ix_tup (pv 4) pe_int (fun _ _ => rfl)) pa_nil)) ip_add set_list))))))))), ?_⟩
    walk_at "go"
    simp only [upd_upd]
    obtain ⟨H1, eH1⟩ : ∃ H1, H1 = upd H p (.ins C dx (putF "wanted" (.ref wa) (putF "given" (.ref g) (putF "day" (.ref a) [])))) := ⟨_, rfl⟩
    have e1 : Same H0 H1 := by rw [eH1]; exact s0.mut p0
    have hp1 : H1 p = some (.ins C dx (putF "wanted" (.ref wa) (putF "given" (.ref g) (putF "day" (.ref a) [])))) := by rw [eH1]; exact upd_same
    rw [← eH1]
    clear eH1
    refine ⟨aw, rfl, ⟨ds, e1.tup S.day.seq⟩, fun c nc => ?_⟩
    have ncp : c ≠ p := ne_had hp1 nc
    have hlw : (d.ws.map Wk.wi).length = ds.length := by rw [List.length_map, S.day.wks.len]
    refine lc_it (walk_tup (xs := ds)) (fun j H2 => Same H1 H2 ∧ H2 c = some (.lst (vI ((d.ws.map Wk.wi).take j)))) ⟨Same.new nc, upd_same⟩ (fun j H2 _ h => h.1.tup (e1.tup S.day.seq)) ?_ ?_
    · rintro j y H2 H3 hj ⟨e2, hc⟩ ⟨rfl, hy⟩
      obtain ⟨w, xw, hw, rfl, hwT⟩ := S.day.wks.get hy
      walk_at "go"
      refine ⟨rfl, ?_⟩
      walk_at "go"
      refine iteT ?_
      walk_at "go"
      refine ⟨_, hc, szl' (by simp; omega), Same.mut e2 nc, ?_⟩
      rw [upd_same, take_succ_get (show (d.ws.map Wk.wi)[j]? = some w.wi by simp [hw])]
      simp
    · rintro H2 ⟨e2, hc⟩
      rw [List.take_of_length_le (by rw [hlw]; exact Nat.le_refl _)] at hc
      have hp2 := e2 _ _ hp1
      have c0 : H0 c = none := none_back e1 nc
      walk_at "go"
      intro m nm
      have nmp : m ≠ p := ne_upd nm
      have m0 : H0 m = none := none_back (e1.trans e2) (none_upd nm)
      have ncm : c ≠ m := fun z => by
        rw [z] at hc
        rw [none_upd nm] at hc
        cases hc
      walk_at "go"
      refine ⟨aw, rfl, ⟨ds, by have := S.day.seq; walk_at "sq"⟩, for_it (walk_tup (xs := ds)) (fun i σ' H' => ∃ v4, σ' = [some (.ref p), some (.ref a), some (.ref g), some (.ref wa), v4] ∧ Same H0 H' ∧ H' p = some (.ins C dx (ff a g wa c m)) ∧
        H' c = some (.lst (vI (d.ws.map Wk.wi))) ∧ H' m = some (.lst (vI ((d.ws.take i).foldl (fun m w => addAt m w.b w.wi) W)))) ⟨_, rfl, by walk_at "sm", upd_same, by walk_at "gt", ?_⟩ (fun i σ' H' _ ⟨_, _, e, _⟩ => e.tup S.day.seq) ?_ ?_⟩
      · rw [upd_ne nmp, upd_same]
        rfl
      · rintro i y σ' H' H3 hi ⟨v4, rfl, e, hp', hc', hm'⟩ ⟨rfl, hy⟩
        obtain ⟨w, xw, hw, rfl, hwT⟩ := S.day.wks.get hy
        obtain ⟨l1, _⟩ := more0 (d.ws.take i) W (fun v hv => by rw [S.lW]; exact S.ok.b v (List.mem_of_mem_take hv))
        rw [foldl_take _ _ hw]
        generalize (d.ws.take i).foldl (fun m w => addAt m w.b w.wi) W = o at hm' l1 ⊢
        have b1 : w.b < o.length := by rw [l1, S.lW]; exact S.ok.b w (List.mem_of_getElem? hw)
        have g1 := vI_get b1
        have j1 : ixN (vI o).length (w.b : Int) = some w.b := ixN_nat (by simpa using b1)
        walk_at "go"
        refine ⟨_, rfl, by walk_at "sm", get_mut (Ne.symm nmp) hp', get_mut ncm hc', ?_⟩
        rw [upd_same, vI_set]
        rfl
      · rintro σ' H' ⟨v4, rfl, e, hp', hc', hm'⟩
        rw [List.take_of_length_le (by rw [S.day.wks.len]; exact Nat.le_refl _)] at hm'
        walk_at "go"
        exact k _ c m e c0 m0 ⟨hp', hc', hm', ncm⟩
end
section
variable {P : Program} {w : World} {K : PySem.W.Frag} {mg : Str → Option Value} {base : Heap}
def spStarts (K : PySem.W.Frag) (C : Addr) : Sp := fun vs H Q _ => ∃ (p dx a aw g wa c m : Addr) (ds : List V) (d : Day) (G W : List Int) (x : Fl), vs = [.ref p] ∧ FlowS K H d a aw ds g wa G W ∧ FlowO C H p dx a g wa c m x ∧ x.more.length = d.P ∧
  ∀ (H' : Hp) (r : Addr), Same H H' → H r = none → H' r = some (.tup (vI (addL G x.more))) → Q (.ref r) H'
theorem mf_starts (C : Addr) (T : Ctx K C) (B : Bl mg) (F : HasM K C "starts" "Flow.starts" s_Flow_starts) : Mf P w K mg base C "starts" 1 ["self"] (spStarts K C) := by
  refine mf_of F sc_Flow_starts (fun _ _ _ _ _ _ us hl => match us, hl with | [_], _ => rfl) (fun vs H Q E h => ?_) (fun f cdv A outer s H vs Q E hr h => ?_)
  · obtain ⟨p, dx, a, aw, g, wa, c, m, ds, d, G, W, x, rfl, _⟩ := h
    rfl
  · obtain ⟨p, dx, a, aw, g, wa, c, m, ds, d, G, W, x, rfl, S, ⟨hp, hc, hm, _⟩, hml, k⟩ := h
    have hP := S.sm.P
    refine ⟨(tRet (tCB (rTupOf K) (tCons (tLc (iZip2 K (tCons (tFld K (tVar 0) "given") (tCons (tFld K (tVar 0) "more") tNil))) (gTup K 2 (gCons (gName 1) (gCons (gName 2) gNil))) tYes (tOp (rI0 fun i j => .int (i + j)) (tVar 1) (tVar 2)) [1, 2]) tNil))),
      (pss_one (ps_ret (pe_callTy call_tuple_of (by rfl) B.tuple bt_tuple (pa_cons (pe_lc (own := [("one", 1), ("other", 2)]) (g := (gTup K 2 (gCons (gName 1) (gCons (gName 2) gNil)))) (tt := tYes) (te := (tOp (rI0 fun i j => .int (i + j)) (tVar 1) (tVar 2))) rfl sc_Flow_starts.nd (pi_zip2 (by rfl) B.zip (pa_cons (pe_fld (pv 0) rfl) (pa_cons (pe_fld (pv 0) rfl) pa_nil))) (blkOk_by (own := [("one", 1), ("other", 2)]) (N := ["self", "one", "other"]) (sc := defScope s_Flow_starts) (by decide +kernel)) (fun _ _ _ _ _ => (pg_tup rfl (pgs_cons (pg_name (i := 1) sc_Flow_starts.nd rfl (by first | exact Or.inl rfl | exact Or.inr rfl)) (pgs_cons (pg_name (i := 2) sc_Flow_starts.nd rfl (by first | exact Or.inl rfl | exact Or.inr rfl)) pgs_nil)))) (fun _ _ _ _ _ => pts_nil) (fun _ _ _ _ _ => (pe_op op_add (pv 1) (pv 2)))) pa_nil)))), ?_⟩
    walk_at "go"
    refine ⟨true, false, g, m, _, _, rfl, S.giv, SqL.of hm, fun D nD => ?_⟩
    have hal : (addL G x.more).length = d.P := addL_length S.lG hml
    refine lc_it (walk_zip2 (n := d.P) (by rw [List.length_map]; exact S.lG) (by rw [List.length_map]; exact hml))
      (fun j H2 => Same H H2 ∧ H2 D = some (.lst (vI ((addL G x.more).take j)))) ⟨Same.new nD, upd_same⟩ (fun j H2 _ h => ⟨h.1.tup S.giv, h.1.lst (SqL.of hm)⟩) ?_ ?_
    · rintro j y H2 H3 hj ⟨e2, hD⟩ ⟨T', x1, y1, rfl, nT, rfl, hx1, hy1⟩
      obtain ⟨n1, f1, rfl⟩ := vI_inv hx1
      obtain ⟨n2, f2, rfl⟩ := vI_inv hy1
      walk_at "go"
      refine ⟨rfl, ?_⟩
      walk_at "go"
      refine iteT ?_
      walk_at "go"
      refine ⟨_, get_new hD nT, szl' (by simp; omega), Same.mut (e2.trans (Same.new nT)) nD, ?_⟩
      rw [upd_same, take_succ_get (show (addL G x.more)[j]? = _ from zipW_get f1 f2)]
      simp
    · rintro H2 ⟨e2, hD⟩
      rw [List.take_of_length_le (by rw [hal]; exact Nat.le_refl _)] at hD
      walk_at "go"
      intro l nl
      walk_at "go"
      exact k _ l (by walk_at "sm") (none_back e2 nl) upd_same
end
section
variable {P : Program} {w : World} {K : PySem.W.Frag} {mg : Str → Option Value} {base : Heap}
def spWaits (K : PySem.W.Frag) (C : Addr) : Sp := fun vs H Q _ => ∃ (p dx a aw g wa c m : Addr) (ds : List V) (d : Day) (G W : List Int) (x : Fl), vs = [.ref p] ∧ FlowS K H d a aw ds g wa G W ∧ FlowO C H p dx a g wa c m x ∧ x.more.length = d.P ∧ x.car.length = d.ws.length ∧
  ∀ (H' : Hp) (r : Addr) (rs : List V), Same H H' → H r = none → H' r = some (.lst rs) → Refs false K H' rs ((waits d (addL G x.more) W x.car).map vI) → Q (.ref r) H'
theorem mf_waits (C : Addr) (T : Ctx K C) (B : Bl mg) (M_starts : Mf P w K mg base C "starts" 1 ["self"] (spStarts K C)) (D_standing : Df P w K mg base "standing" 2 ["day", "starts", "carried"] (spStanding K)) (F : HasM K C "waits" "Flow.waits" s_Flow_waits) : Mf P w K mg base C "waits" 3 ["self"] (spWaits K C) := by
  refine mf_of F sc_Flow_waits (fun _ _ _ _ _ _ us hl => match us, hl with | [_], _ => rfl) (fun vs H Q E h => ?_) (fun f cdv A outer s H vs Q E hr h => ?_)
  · obtain ⟨p, dx, a, aw, g, wa, c, m, ds, d, G, W, x, rfl, _⟩ := h
    rfl
  · obtain ⟨p, dx, a, aw, g, wa, c, m, ds, d, G, W, x, rfl, S, ⟨hp, hc, hm, cm⟩, hml, hcl, k⟩ := h
    have hP := S.sm.P
    have hT := S.sm.T
    have hday := S.day.day
    have hwan := S.wan
    have hal : (addL G x.more).length = d.P := addL_length S.lG hml
    refine ⟨(tSeq (tAsg (tCall (spStanding K) [] E0 (tCons (tFld K (tVar 0) "day") (tCons (tMeth C "starts" (spStarts K C) [] E0 (tVar 0) tNil) (tCons (tFld K (tVar 0) "carried") tNil)))) (gName 1)) (tSeq (tAsg (tLst tNil) (gName 2)) (tSeq (tFor (iRng1 (tCons (tOp (rIxT K) (tFld K (tVar 0) "day") (tC (.int 1))) tNil)) (gName 3) (tSeq (tAsg (tCB (rListOf K) (tCons (tOp (rIxL K) (tVar 1) (tVar 3)) tNil)) (gName 4)) (tSeq (tFor (iZip2 K (tCons (tOp (rIxT K) (tFld K (tVar 0) "day") (tC (.int 2))) (tCons (tFld K (tVar 0) "carried") tNil))) (gTup K 2 (gCons (gName 5) (gCons (gName 6) gNil))) (tIfS (tTest (tOp rEq (tOp (rIxT K) (tVar 5) (tC (.int 0))) (tVar 3))) (tAugS (tVar 4) (tOp (rIxT K) (tVar 5) (tC (.int 1))) (tVar 6) (rIxL K) (ipI fun i j => i - j) rSetL) tNext)) (tDrop (tBM K "list" rAppend (tVar 2) (tCons (tVar 4) tNil)))))) (tRet (tOp rCat (tVar 2) (tLst (tCons (tLc (iZip2 K (tCons (tOp (rIxL K) (tVar 1) (tUn (rU fun i => .int (-i)) (tC (.int 1)))) (tCons (tFld K (tVar 0) "wanted") tNil))) (gTup K 2 (gCons (gName 7) (gCons (gName 8) gNil))) tYes (tOp (rI0 fun i j => .int (i - j)) (tVar 7) (tVar 8)) [7, 8]) tNil))))))),
      (pss_cons (ps_set (i := 1) sc_Flow_waits.nd rfl (by first | exact Or.inl rfl | exact Or.inr rfl) (pe_df D_standing (hr.mono (by decide)) (by rfl) (pa_cons (pe_fld (pv 0) rfl) (pa_cons (pe_mf0 T.cl M_starts (hr.mono (by decide)) (pv 0)) (pa_cons (pe_fld (pv 0) rfl) pa_nil)))))
      (pss_cons (ps_set (i := 2) sc_Flow_waits.nd rfl (by first | exact Or.inl rfl | exact Or.inr rfl) (pe_lst pa_nil))
      (pss_cons (ps_for PassesOwn.never rfl (pi_range1 (by rfl) B.range (pa_cons (pe_ix ix_tup (pe_fld (pv 0) rfl) pe_int (fun _ _ => rfl)) pa_nil)) (pg_name (i := 3) sc_Flow_waits.nd rfl (by first | exact Or.inl rfl | exact Or.inr rfl))
      (pss_cons (ps_set (i := 4) sc_Flow_waits.nd rfl (by first | exact Or.inl rfl | exact Or.inr rfl) (pe_callTy call_list_of (by rfl) B.list bt_list (pa_cons (pe_ix ix_list (pv 1) (pv 3) (fun _ _ => rfl)) pa_nil)))
      (pss_cons (ps_for PassesOwn.never rfl (pi_zip2 (by rfl) B.zip (pa_cons (pe_ix ix_tup (pe_fld (pv 0) rfl) pe_int (fun _ _ => rfl)) (pa_cons (pe_fld (pv 0) rfl) pa_nil))) (pg_tup rfl (pgs_cons (pg_name (i := 5) sc_Flow_waits.nd rfl (by first | exact Or.inl rfl | exact Or.inr rfl)) (pgs_cons (pg_name (i := 6) sc_Flow_waits.nd rfl (by first | exact Or.inl rfl | exact Or.inr rfl)) pgs_nil)))
      (pss_one (ps_if (pt_cmpR op_eq (pe_ix ix_tup (pv 5) pe_int (fun _ _ => rfl)) (pv 3) (nomark _)) (pss_one (ps_augS (pv 4) (pe_ix ix_tup (pv 5) pe_int (fun _ _ => rfl)) get_list (pv 6) ip_sub set_list)) pss_nil)))
      (pss_one (ps_expr (pe_bm PySem.F.plainAttrs_list PySem.F.slot_list_append PySem.F.type_list_append mt_append (pv 2) (pa_cons (pv 4) pa_nil)))))))
      (pss_one (ps_ret (pe_op op_cat (pv 2) (pe_lst (pa_cons (pe_lc (own := [("stands", 7), ("least", 8)]) (g := (gTup K 2 (gCons (gName 7) (gCons (gName 8) gNil)))) (tt := tYes) (te := (tOp (rI0 fun i j => .int (i - j)) (tVar 7) (tVar 8))) rfl sc_Flow_waits.nd (pi_zip2 (by rfl) B.zip (pa_cons (pe_ix ix_list (pv 1) (pe_un un_neg pe_int) (fun _ _ => rfl)) (pa_cons (pe_fld (pv 0) rfl) pa_nil))) (blkOk_by (own := [("stands", 7), ("least", 8)]) (N := ["self", "rows", "found", "hour", "left", "walk", "many", "stands", "least"]) (sc := defScope s_Flow_waits) (by decide +kernel)) (fun _ _ _ _ _ => (pg_tup rfl (pgs_cons (pg_name (i := 7) sc_Flow_waits.nd rfl (by first | exact Or.inl rfl | exact Or.inr rfl)) (pgs_cons (pg_name (i := 8) sc_Flow_waits.nd rfl (by first | exact Or.inl rfl | exact Or.inr rfl)) pgs_nil)))) (fun _ _ _ _ _ => pts_nil) (fun _ _ _ _ _ => (pe_op op_sub (pv 7) (pv 8)))) pa_nil)))))))), ?_⟩
    walk_at "go"
    refine ⟨p, dx, a, aw, g, wa, c, m, ds, d, G, W, x, rfl, S, ⟨hp, hc, hm, cm⟩, hml, fun H1 r1 e1 n1 hr1 => ?_⟩
    have hp1 := e1 _ _ hp
    have hc1 := e1 _ _ hc
    walk_at "go"
    refine ⟨a, aw, r1, c, ds, d, false, addL G x.more, x.car, rfl, S.day.tx (.of e1), S.ok, S.sm, SqT.of hr1, hal, SqL.of hc1, hcl, fun H2 rr rs e2 nrr hrr hrs => ?_⟩
    have e02 : Same H H2 := e1.trans e2
    have S2 := S.tx (.of e02)
    have hp2 := e2 _ _ hp1
    have hc2 := e2 _ _ hc1
    have hday2 := S2.day.day
    have hwan2 := S2.wan
    have rsp := rowAt_spec S.ok (addL G x.more) x.car hcl hal
    have hrat : ∀ i, i ≤ d.T → ∃ xr : Addr, rs[i]? = some (V.ref xr) ∧ SqT K H2 xr (vI (rowAt d (addL G x.more) x.car i)) := fun i hi => hrs.at_ i _ (by
      unfold standing
      rw [List.getElem?_map, List.getElem?_map, List.getElem?_range (by omega)]
      rfl)
    have hrl : rs.length = d.T + 1 := by rw [hrs.len]; simp [standing]
    clear hday hwan hp hp1 hc hc1
    walk_at "go"
    refine ⟨szl (by simp), fun fo nfo => ?_⟩
    walk_at "go"
    refine ⟨_, rfl, by omega, by omega, ?_⟩
    rw [Int.toNat_natCast]
    refine for_it walk_rng (fun i σ' H' => ∃ v3 v4 v5 v6 fs, σ' = [some (.ref p), some (.ref rr), some (.ref fo), v3, v4, v5, v6, none, none] ∧ Same H2 H' ∧ H' fo = some (.lst fs) ∧
      RefsL H' fo fs (((List.range i).map (leftRow d (addL G x.more) x.car)).map vI)) ⟨_, _, _, _, _, rfl, Same.new nfo, upd_same, RefsL.nil⟩ (fun _ _ _ _ _ => trivial) ?_ ?_
    · rintro i y σ' H3 H4 hi ⟨v3, v4, v5, v6, fs, rfl, e3, hfo, hfs⟩ ⟨rfl, rfl⟩
      have hp3 := e3 _ _ hp2
      have hrr3 := e3 _ _ hrr
      have hday3 := e3.tup hday2
      obtain ⟨xr, hxr, hxs⟩ := hrat i (by omega)
      have hfl : fs.length = i := by rw [hfs.len]; simp
      walk_at "go"
      intro l nl
      walk_at "go"
      refine ⟨true, false, aw, c, ds, vI x.car, rfl, (show SqT K _ _ _ from by have := S2.day.seq; walk_at "sq"), (show SqL K _ _ _ from by walk_at "sq"), ?_⟩
      have nl2 : H2 l = none := none_back e3 nl
      refine for_it (walk_zip2 (n := d.ws.length) S.day.wks.len (by simp [hcl])) (fun j σ' H' => ∃ v5 v6, σ' = [some (.ref p), some (.ref rr), some (.ref fo), some (.int (i : Int)), some (.ref l), v5, v6, none, none] ∧ Same H4 H' ∧
        H' l = some (.lst (vI (((d.ws.zip x.car).take j).foldl (leftStep i) (rowAt d (addL G x.more) x.car i))))) ⟨_, _, rfl, Same.new nl, upd_same⟩ (fun j σ' H' _ ⟨_, _, _, e, _⟩ => ⟨(e3.trans e).tup S2.day.seq, (e3.trans e).lst (SqL.of hc2)⟩) ?_ ?_
      · rintro j y σ' H' H5 hj ⟨v5, v6, rfl, e, hl'⟩ ⟨T', x1, y1, rfl, nT, rfl, hx1, hy1⟩
        obtain ⟨w, xw, hw, rfl, hwT⟩ := S2.day.wks.get hx1
        obtain ⟨cc, hcs, rfl⟩ := vI_inv hy1
        obtain ⟨l1, _⟩ := left_fold i (d.ws.take j) (x.car.take j) (rowAt d (addL G x.more) x.car i) (fun w hw => by rw [(rsp i).1]; exact S.ok.b w (List.mem_of_mem_take hw)) (by simp; omega)
        have et : (d.ws.take j).zip (x.car.take j) = (d.ws.zip x.car).take j := by simp [List.zip, List.take_zipWith]
        rw [et, (rsp i).1] at l1
        rw [foldl_take _ _ (zip_get hw hcs)]
        generalize ((d.ws.zip x.car).take j).foldl (leftStep i) (rowAt d (addL G x.more) x.car i) = o at hl' l1 ⊢
        have b1 : w.b < o.length := by rw [l1]; exact S.ok.b w (List.mem_of_getElem? hw)
        have g1 := vI_get b1
        have j1 : ixN (vI o).length (w.b : Int) = some w.b := ixN_nat (by simpa using b1)
        walk_at "go"
        refine ite2 (fun h => ?_) (fun h => ?_)
        · have hh : w.h = i := by have := of_decide_eq_true h; omega
          walk_at "go"
          refine ⟨_, _, rfl, Same.mut (e.trans (Same.new nT)) nl, ?_⟩
          unfold leftStep
          rw [if_pos hh, upd_same, vI_set]
          rfl
        · have hh : ¬ w.h = i := fun z => h (decide_eq_true (by omega))
          unfold leftStep
          rw [if_neg hh]
          walk_at "go"
          exact ⟨_, _, rfl, e.trans (Same.new nT), get_new hl' nT⟩
      · rintro σ' H' ⟨v5, v6, rfl, e, hl'⟩
        have et : (d.ws.zip x.car).take d.ws.length = d.ws.zip x.car := List.take_of_length_le (by simp [List.length_zip]; omega)
        rw [et] at hl'
        have hfo' := e _ _ hfo
        have nlf : l ≠ fo := ne_had hfo nl
        walk_at "go"
        refine c_app hfo' (szl' (by omega)) ?_
        refine ⟨_, _, _, _, _, rfl, Same.mut (e3.trans e) nfo, upd_same, ?_⟩
        rw [range_succ_map, List.map_append]
        exact ((hfs.same e).mut).snoc (get_mut nlf hl') nlf
    · rintro σ' H3 ⟨v3, v4, v5, v6, fs, rfl, e3, hfo, hfs⟩
      have hp3 := e3 _ _ hp2
      have hrr3 := e3 _ _ hrr
      have hwan3 := e3.tup hwan2
      obtain ⟨xr, hxr, hxs⟩ := hrat d.T (by omega)
      have hfl : fs.length = d.T := by rw [hfs.len]; simp
      walk_at "go"
      refine c_ixL (SqL.of hrr3) (atLast (by rw [hrl]; exact hxr)) ?_
      walk_at "go"
      refine ⟨true, true, xr, wa, _, _, rfl, e3.tup hxs, hwan3, fun D nD => ?_⟩
      have nDf : D ≠ fo := ne_had hfo nD
      have hzl : (List.zipWith (fun s l => s - l) (rowAt d (addL G x.more) x.car d.T) W).length = d.P := by rw [List.length_zipWith, (rsp d.T).1, S.lW, Nat.min_self]
      refine lc_it (walk_zip2 (n := d.P) (by rw [List.length_map]; exact (rsp d.T).1) (by rw [List.length_map]; exact S.lW))
        (fun j H5 => Same H3 H5 ∧ H5 D = some (.lst (vI ((List.zipWith (fun s l => s - l) (rowAt d (addL G x.more) x.car d.T) W).take j)))) ⟨Same.new nD, upd_same⟩ (fun j H5 _ h => ⟨h.1.tup (e3.tup hxs), h.1.tup hwan3⟩) ?_ ?_
      · rintro j y H5 H6 hj ⟨e5, hD⟩ ⟨T', x1, y1, rfl, nT, rfl, hx1, hy1⟩
        obtain ⟨n1, f1, rfl⟩ := vI_inv hx1
        obtain ⟨n2, f2, rfl⟩ := vI_inv hy1
        walk_at "go"
        refine ⟨rfl, ?_⟩
        walk_at "go"
        refine iteT ?_
        walk_at "go"
        refine ⟨_, get_new hD nT, szl' (by simp; omega), Same.mut (e5.trans (Same.new nT)) nD, ?_⟩
        rw [upd_same, take_succ_get (show (List.zipWith (fun s l => s - l) (rowAt d (addL G x.more) x.car d.T) W)[j]? = _ from zipW_get f1 f2)]
        simp
      · rintro H5 ⟨e5, hD⟩
        rw [List.take_of_length_le (by rw [hzl]; exact Nat.le_refl _)] at hD
        have hfo5 := e5 _ _ hfo
        walk_at "go"
        refine ⟨szl (by simp), fun L nL => ?_⟩
        refine ⟨fo, L, fs, _, rfl, rfl, get_new hfo5 nL, upd_same, szl (by simp; omega), fun r nr => ?_⟩
        have nr5 := none_upd nr
        have nLf : L ≠ fo := ne_had hfo5 nL
        have nrf : r ≠ fo := ne_had hfo5 nr5
        have nDr : D ≠ r := fun z => by rw [z] at hD; rw [nr5] at hD; cases hD
        have er : Same H2 H5 := e3.trans e5
        have e6 : Same H5 (upd (upd H5 L (.lst [V.ref D])) r (.lst (fs ++ [V.ref D]))) := (Same.new nL).trans (Same.new nr)
        refine k _ r _ (e02.trans (er.trans e6)) (none_back (e02.trans er) nr5) upd_same ?_
        unfold waits
        rw [List.map_append]
        exact (RefsL.snoc ((hfs.same e5).same e6) (e6 _ _ hD) nDf).refs
end
section
variable {P : Program} {w : World} {K : PySem.W.Frag} {mg : Str → Option Value} {base : Heap}
def spSteps (K : PySem.W.Frag) (C : Addr) : Sp := fun vs H Q _ => ∃ (p dx a aw g wa c m awt : Addr) (ds rs : List V) (d : Day) (G W : List Int) (x : Fl) (mo pl : Nat) (wt : List (List Int)), vs = [.ref p, .int (mo : Int), .int (pl : Int), .ref awt] ∧ FlowS K H d a aw ds g wa G W ∧ FlowO C H p dx a g wa c m x ∧ x.car.length = d.ws.length ∧
  mo ≤ d.T ∧ pl < d.P ∧ SqL K H awt rs ∧ Refs false K H rs (wt.map vI) ∧ wt.length = d.T + 1 ∧ (∀ row ∈ wt, row.length = d.P) ∧
  ∀ (H' : Hp) (r : Addr) (ss : List V), Same H H' → H r = none → H' r = some (.lst ss) → Refs true K H' ss ((stepsOf d x.car wt mo pl).map stpV) → Q (.ref r) H'
theorem mf_steps (C : Addr) (T : Ctx K C) (B : Bl mg) (F : HasM K C "steps" "Flow.steps" s_Flow_steps) : Mf P w K mg base C "steps" 1 ["self", "moment", "place", "waits"] (spSteps K C) := by
  refine mf_of F sc_Flow_steps (fun _ _ _ _ _ _ us hl => match us, hl with | [_, _, _, _], _ => rfl) (fun vs H Q E h => ?_) (fun f cdv A outer s H vs Q E hr h => ?_)
  · obtain ⟨p, dx, a, aw, g, wa, c, m, awt, ds, rs, d, G, W, x, mo, pl, wt, rfl, _⟩ := h
    rfl
  · obtain ⟨p, dx, a, aw, g, wa, c, m, awt, ds, rs, d, G, W, x, mo, pl, wt, rfl, S, ⟨hp, hc, hm, cm⟩, hcl, hmo, hpl, hwt, hrs, hwl, hrow, k⟩ := h
    have hW := S.sm.W
    have hday := S.day.day
    refine ⟨(tSeq (tAsg (tLst tNil) (gName 4)) (tSeq (tIfS (tTest (tOp (rI0 fun i j => .bl (decide (i < j))) (tVar 1) (tOp (rIxT K) (tFld K (tVar 0) "day") (tC (.int 1))))) (tDrop (tBM K "list" rAppend (tVar 4) (tCons (tTup (tCons (tOp (rI0 fun i j => .int (i + j)) (tVar 1) (tC (.int 1))) (tCons (tVar 2) (tCons (tC .non) (tCons (tC (.int 0)) tNil))))) tNil))) tNext) (tSeq (tIfS (tAnd (tTest (tOp (rI0 fun i j => .bl (decide (j < i))) (tVar 1) (tC (.int 0)))) (tTest (tOp (rI0 fun i j => .bl (decide (j < i))) (tOp (rIxL K) (tOp (rIxL K) (tVar 3) (tOp (rI0 fun i j => .int (i - j)) (tVar 1) (tC (.int 1)))) (tVar 2)) (tC (.int 0))))) (tDrop (tBM K "list" rAppend (tVar 4) (tCons (tTup (tCons (tOp (rI0 fun i j => .int (i - j)) (tVar 1) (tC (.int 1))) (tCons (tVar 2) (tCons (tC .non) (tCons (tC (.int 0)) tNil))))) tNil))) tNext) (tSeq (tFor (iEnumB K (tCons (tOp (rIxT K) (tFld K (tVar 0) "day") (tC (.int 2))) tNil)) (gTup K 2 (gCons (gName 5) (gCons (gName 6) gNil))) (tSeq (tIfS (tAnd (tTest (tOp (rEqD K) (tTup (tCons (tOp (rI0 fun i j => .int (i + j)) (tOp (rIxT K) (tVar 6) (tC (.int 0))) (tC (.int 1))) (tCons (tOp (rIxT K) (tVar 6) (tC (.int 2))) tNil))) (tTup (tCons (tVar 1) (tCons (tVar 2) tNil))))) (tTest (tOp (rI0 fun i j => .bl (decide (j < i))) (tOp (rIxL K) (tFld K (tVar 0) "carried") (tVar 5)) (tCB rInt1 (tCons (tOp (rIxT K) (tVar 6) (tC (.int 3))) tNil))))) (tDrop (tBM K "list" rAppend (tVar 4) (tCons (tTup (tCons (tOp (rIxT K) (tVar 6) (tC (.int 0))) (tCons (tOp (rIxT K) (tVar 6) (tC (.int 1))) (tCons (tVar 5) (tCons (tUn (rU fun i => .int (-i)) (tC (.int 1))) tNil))))) tNil))) tNext) (tIfS (tAnd (tTest (tOp (rEqD K) (tTup (tCons (tOp (rIxT K) (tVar 6) (tC (.int 0))) (tCons (tOp (rIxT K) (tVar 6) (tC (.int 1))) tNil))) (tTup (tCons (tVar 1) (tCons (tVar 2) tNil))))) (tTest (tOp (rI0 fun i j => .bl (decide (i < j))) (tOp (rIxL K) (tFld K (tVar 0) "carried") (tVar 5)) (tOp (rIxT K) (tVar 6) (tC (.int 4)))))) (tDrop (tBM K "list" rAppend (tVar 4) (tCons (tTup (tCons (tOp (rI0 fun i j => .int (i + j)) (tOp (rIxT K) (tVar 6) (tC (.int 0))) (tC (.int 1))) (tCons (tOp (rIxT K) (tVar 6) (tC (.int 2))) (tCons (tVar 5) (tCons (tC (.int 1)) tNil))))) tNil))) tNext))) (tRet (tVar 4)))))),
      (pss_cons (ps_set (i := 4) sc_Flow_steps.nd rfl (by first | exact Or.inl rfl | exact Or.inr rfl) (pe_lst pa_nil))
      (pss_cons (ps_if (pt_cmpR op_lt (pv 1) (pe_ix ix_tup (pe_fld (pv 0) rfl) pe_int (fun _ _ => rfl)) (nomark _)) (pss_one (ps_expr (pe_bm PySem.F.plainAttrs_list PySem.F.slot_list_append PySem.F.type_list_append mt_append (pv 4) (pa_cons (pe_tup (pa_cons (pe_op op_add (pv 1) pe_int) (pa_cons (pv 2) (pa_cons pe_non (pa_cons pe_int pa_nil))))) pa_nil)))) pss_nil)
      (pss_cons (ps_if (PW.pt (pw_and (pt_cmpR op_gt (pv 1) pe_int (nomark _)) (pw_and1 (pt_cmpR op_gt (pe_ix ix_list (pe_ix ix_list (pv 3) (pe_op op_sub (pv 1) pe_int) (fun _ _ => rfl)) (pv 2) (fun _ _ => rfl)) pe_int (nomark _))))) (pss_one (ps_expr (pe_bm PySem.F.plainAttrs_list PySem.F.slot_list_append PySem.F.type_list_append mt_append (pv 4) (pa_cons (pe_tup (pa_cons (pe_op op_sub (pv 1) pe_int) (pa_cons (pv 2) (pa_cons pe_non (pa_cons pe_int pa_nil))))) pa_nil)))) pss_nil)
      (pss_cons (ps_for PassesOwn.never rfl (pi_enumB (by rfl) B.enumerate (pa_cons (pe_ix ix_tup (pe_fld (pv 0) rfl) pe_int (fun _ _ => rfl)) pa_nil)) (pg_tup rfl (pgs_cons (pg_name (i := 5) sc_Flow_steps.nd rfl (by first | exact Or.inl rfl | exact Or.inr rfl)) (pgs_cons (pg_name (i := 6) sc_Flow_steps.nd rfl (by first | exact Or.inl rfl | exact Or.inr rfl)) pgs_nil)))
      (pss_cons (ps_if (PW.pt (pw_and (pt_cmpR (op_eqD hr.units) (pe_tup (pa_cons (pe_op op_add (pe_ix ix_tup (pv 6) pe_int (fun _ _ => rfl)) pe_int) (pa_cons (pe_ix ix_tup (pv 6) pe_int (fun _ _ => rfl)) pa_nil))) (pe_tup (pa_cons (pv 1) (pa_cons (pv 2) pa_nil))) (nomark _)) (pw_and1 (pt_cmpR op_gt (pe_ix ix_list (pe_fld (pv 0) rfl) (pv 5) (fun _ _ => rfl)) (pe_callTy call_int1 (by rfl) B.int bt_int (pa_cons (pe_ix ix_tup (pv 6) pe_int (fun _ _ => rfl)) pa_nil)) (nomark _))))) (pss_one (ps_expr (pe_bm PySem.F.plainAttrs_list PySem.F.slot_list_append PySem.F.type_list_append mt_append (pv 4) (pa_cons (pe_tup (pa_cons (pe_ix ix_tup (pv 6) pe_int (fun _ _ => rfl)) (pa_cons (pe_ix ix_tup (pv 6) pe_int (fun _ _ => rfl)) (pa_cons (pv 5) (pa_cons (pe_un un_neg pe_int) pa_nil))))) pa_nil)))) pss_nil)
      (pss_one (ps_if (PW.pt (pw_and (pt_cmpR (op_eqD hr.units) (pe_tup (pa_cons (pe_ix ix_tup (pv 6) pe_int (fun _ _ => rfl)) (pa_cons (pe_ix ix_tup (pv 6) pe_int (fun _ _ => rfl)) pa_nil))) (pe_tup (pa_cons (pv 1) (pa_cons (pv 2) pa_nil))) (nomark _)) (pw_and1 (pt_cmpR op_lt (pe_ix ix_list (pe_fld (pv 0) rfl) (pv 5) (fun _ _ => rfl)) (pe_ix ix_tup (pv 6) pe_int (fun _ _ => rfl)) (nomark _))))) (pss_one (ps_expr (pe_bm PySem.F.plainAttrs_list PySem.F.slot_list_append PySem.F.type_list_append mt_append (pv 4) (pa_cons (pe_tup (pa_cons (pe_op op_add (pe_ix ix_tup (pv 6) pe_int (fun _ _ => rfl)) pe_int) (pa_cons (pe_ix ix_tup (pv 6) pe_int (fun _ _ => rfl)) (pa_cons (pv 5) (pa_cons pe_int pa_nil))))) pa_nil)))) pss_nil))))
      (pss_one (ps_ret (pv 4))))))), ?_⟩
    walk_at "go"
    refine ⟨szl (by simp), fun fo nfo => ?_⟩
    with_reducible refine c_gname ?_
    have J0 : ∃ J : Option V → Option V → List Stp → L2.St → Hp → Prop, J = fun v5 v6 L σ' H1 => ∃ ss, σ' = [some (.ref p), some (.int (mo : Int)), some (.int (pl : Int)), some (.ref awt), some (.ref fo), v5, v6] ∧ Same H H1 ∧ H1 fo = some (.lst ss) ∧ Refs true K H1 ss (L.map stpV) := ⟨_, rfl⟩
    obtain ⟨J, hJ⟩ := J0
    have put : ∀ (L : List Stp) (s : Stp) (v5 v6 : Option V) (ss : List V) (H1 : Hp) (t : Addr), Same H H1 → H1 fo = some (.lst ss) → Refs true K H1 ss (L.map stpV) → H1 t = none →
        J v5 v6 (L ++ [s]) [some (.ref p), some (.int (mo : Int)), some (.int (pl : Int)), some (.ref awt), some (.ref fo), v5, v6] (upd (upd H1 t (.tup (stpV s))) fo (.lst (ss ++ [V.ref t]))) := by
      intro L s v5 v6 ss H1 t e1 hf1 hr1 nt
      rw [hJ]
      exact ⟨_, rfl, Same.mut (e1.trans (Same.new nt)) nfo, upd_same, by rw [List.map_append]; exact hr1.app hf1 nt⟩
    with_reducible refine c_seqJ (J none none (if mo < d.T then [(mo + 1, pl, none, 0)] else [])) ?_ ?_
    · intro σ1 H1 h1
      rw [hJ] at h1
      obtain ⟨ss, rfl, e1, hf1, hr1⟩ := h1
      have hlen1 : ss.length ≤ 1 := by rw [hr1.len]; split <;> simp
      generalize hL1 : (if mo < d.T then [(mo + 1, pl, none, (0 : Int))] else []) = L1 at hr1
      with_reducible refine c_seqJ (J none none (L1 ++ (if 0 < mo ∧ 0 < at2 wt (mo - 1) pl then [(mo - 1, pl, none, 0)] else []))) ?_ ?_
      · intro σ2 H2 h2
        rw [hJ] at h2
        obtain ⟨ss, rfl, e2, hf2, hr2⟩ := h2
        have hlen2 : ss.length ≤ 2 := by
          rw [hr2.len, List.length_map, List.length_append, ← hL1]
          split <;> split <;> simp
        generalize hL2 : (L1 ++ (if 0 < mo ∧ 0 < at2 wt (mo - 1) pl then [(mo - 1, pl, none, (0 : Int))] else [])) = L2 at hr2
        have hp2 := e2 _ _ hp
        have hday2 := e2.tup hday
        walk_at "go"
        refine ⟨true, aw, ds, rfl, e2.tup S.day.seq, ?_⟩
        refine for_it walk_enumB (fun i σ' H' => ∃ v5 v6, J v5 v6 (L2 ++ ((enumF 0 d.ws).take i).flatMap (stepW x.car mo pl)) σ' H') ?_ (fun i σ' H' _ h => ?_) ?_ ?_
        · rw [hJ]
          exact ⟨_, _, ss, rfl, e2, hf2, by simpa using hr2⟩
        · rw [hJ] at h
          obtain ⟨_, _, _, _, e, _⟩ := h
          exact e.tup S.day.seq
        · intro i y σ3 H3 H4 hi h3 hy
          rw [hJ] at h3
          obtain ⟨v5, v6, ss, rfl, e3, hf3, hr3⟩ := h3
          obtain ⟨T', x1, y1, rfl, nT, rfl, hx1, hy1⟩ := hy
          obtain ⟨w, xw, hw, rfl, hwT⟩ := S.day.wks.get hy1
          cases hx1
          have hen : (enumF 0 d.ws)[i]? = some (i, w) := by rw [enumF_get, hw]; simp
          rw [take_succ_get hen, List.flatMap_append]
          have hfl := flat_length x.car mo pl ((enumF 0 d.ws).take i)
          have htl : ((enumF 0 d.ws).take i).length ≤ 1000 := by rw [List.length_take, enumF_length]; omega
          have hl2 : L2.length ≤ 2 := by rw [← hL2, List.length_append, ← hL1]; split <;> split <;> simp
          generalize hLi : L2 ++ ((enumF 0 d.ws).take i).flatMap (stepW x.car mo pl) = Li at hr3
          have hLl : Li.length ≤ 2002 := by rw [← hLi, List.length_append]; omega
          have e4 : Same H (upd H3 T' (.tup [.int (i : Int), .ref xw])) := e3.trans (Same.new nT)
          have hp4 := e4 _ _ hp
          have hc4 := e4 _ _ hc
          have hf4 : upd H3 T' (.tup [.int (i : Int), .ref xw]) fo = some (.lst ss) := get_new hf3 nT
          have hr4 := hr3.same (Same.new (o := .tup [.int (i : Int), .ref xw]) nT)
          have hic : i < x.car.length := by rw [hcl]; exact (List.getElem?_eq_some_iff.mp hw).1
          have gc := vI_get hic
          walk_at "gn"
          rw [← List.append_assoc, hLi]
          have hst : stepW x.car mo pl (i, w) = (if (w.h + 1 = mo ∧ w.e = pl) ∧ w.wi < x.car.getD i 0 then [(w.h, w.b, some i, -1)] else []) ++ (if (w.h = mo ∧ w.b = pl) ∧ x.car.getD i 0 < (w.r : Int) then [(w.h + 1, w.e, some i, 1)] else []) := rfl
          simp only [List.flatMap_cons, List.flatMap_nil, List.append_nil]
          rw [hst, ← List.append_assoc]
          generalize upd H3 T' (.tup [.int (i : Int), .ref xw]) = H4 at e4 hp4 hc4 hf4 hr4 ⊢
          with_reducible refine c_seqJ (J (some (.int (i : Int))) (some (.ref xw)) (Li ++ (if (w.h + 1 = mo ∧ w.e = pl) ∧ w.wi < x.car.getD i 0 then [(w.h, w.b, some i, -1)] else []))) ?_ ?_
          · intro σ5 H5 h5
            rw [hJ] at h5
            obtain ⟨ss, rfl, e5, hf5, hr5⟩ := h5
            generalize hLj : (Li ++ (if (w.h + 1 = mo ∧ w.e = pl) ∧ w.wi < x.car.getD i 0 then [(w.h, w.b, some i, (-1 : Int))] else [])) = Lj at hr5 ⊢
            have hLj2 : Lj.length ≤ 2003 := by
              rw [← hLj, List.length_append]
              split
              · simp; omega
              · simp; omega
            have hp5 := e5 _ _ hp
            have hc5 := e5 _ _ hc
            have hf5' := hf5
            have no : ∀ H1, Same H5 H1 → ¬ ((w.h = mo ∧ w.b = pl) ∧ x.car.getD i 0 < (w.r : Int)) → ∃ v5 v6, J v5 v6 (Lj ++ if (w.h = mo ∧ w.b = pl) ∧ x.car.getD i 0 < (w.r : Int) then [(w.h + 1, w.e, some i, 1)] else []) [some (.ref p), some (.int (mo : Int)), some (.int (pl : Int)), some (.ref awt), some (.ref fo), some (.int (i : Int)), some (.ref xw)] H1 := fun H1 e1 h => by
              rw [if_neg h, hJ, List.append_nil]
              exact ⟨_, _, _, rfl, e5.trans e1, e1 _ _ hf5, hr5.same e1⟩
            walk_at "go"
            refine ⟨szl (by simp), fun t1 nt1 => ?_⟩
            walk_at "go"
            refine ⟨szl (by simp), fun t2 nt2 => ?_⟩
            refine c_eqPair (SqT.of (get_new upd_same nt2)) (SqT.of upd_same) ?_
            have e6 : Same H5 (upd (upd H5 t1 (.tup [V.int ↑w.h, V.int ↑w.b])) t2 (.tup [V.int ↑mo, V.int ↑pl])) := (Same.new nt1).trans (Same.new nt2)
            have hp6 := e6 _ _ hp5
            have hc6 := e6 _ _ hc5
            have hf6 := e6 _ _ hf5
            have hr6 := hr5.same e6
            have e46 := e5.trans e6
            generalize upd (upd H5 t1 (.tup [V.int ↑w.h, V.int ↑w.b])) t2 (.tup [V.int ↑mo, V.int ↑pl]) = H6 at e6 hp6 hc6 hf6 hr6 e46 ⊢
            refine c_bl ?_
            refine ite2 (fun hk => ?_) (fun hk => ?_)
            · have hk' : w.h = mo ∧ w.b = pl := by
                simp at hk
                omega
              walk_at "go"
              refine ite2 (fun hq => ?_) (fun hq => ?_)
              · have hq' := of_decide_eq_true hq
                walk_at "go"
                refine ⟨szl (by simp), fun t3 nt3 => ?_⟩
                walk_at "go"
                refine c_app (get_new hf6 nt3) (szl' (by rw [hr6.len, List.length_map]; omega)) ?_
                rw [if_pos ⟨hk', hq'⟩]
                refine ⟨some (.int (i : Int)), some (.ref xw), ?_⟩
                exact put Lj (w.h + 1, w.e, some i, 1) _ _ ss H6 t3 e46 hf6 hr6 nt3
              · have hq' : ¬ x.car.getD i 0 < (w.r : Int) := fun z => hq (decide_eq_true z)
                walk_at "go"
                exact no _ e6 (fun z => hq' z.2)
            · refine iteF ?_
              walk_at "go"
              refine no _ e6 (fun z => hk ?_)
              obtain ⟨⟨z1, z2⟩, _⟩ := z
              subst z1 z2
              simp
          · intro R hR
            have no : ∀ H1, Same H4 H1 → ¬ ((w.h + 1 = mo ∧ w.e = pl) ∧ w.wi < x.car.getD i 0) → R [some (.ref p), some (.int (mo : Int)), some (.int (pl : Int)), some (.ref awt), some (.ref fo), some (.int (i : Int)), some (.ref xw)] H1 := fun H1 e1 h => by
              refine hR _ _ ?_
              rw [if_neg h, hJ, List.append_nil]
              exact ⟨_, rfl, e4.trans e1, e1 _ _ hf4, hr4.same e1⟩
            walk_at "go"
            refine ⟨szl (by simp), fun t1 nt1 => ?_⟩
            walk_at "go"
            refine ⟨szl (by simp), fun t2 nt2 => ?_⟩
            refine c_eqPair (SqT.of (get_new upd_same nt2)) (SqT.of upd_same) ?_
            have e6 : Same H4 (upd (upd H4 t1 (.tup [V.int (↑w.h + 1), V.int ↑w.e])) t2 (.tup [V.int ↑mo, V.int ↑pl])) := (Same.new nt1).trans (Same.new nt2)
            have hp6 := e6 _ _ hp4
            have hc6 := e6 _ _ hc4
            have hf6 := e6 _ _ hf4
            have hr6 := hr4.same e6
            have e46 := e4.trans e6
            generalize upd (upd H4 t1 (.tup [V.int (↑w.h + 1), V.int ↑w.e])) t2 (.tup [V.int ↑mo, V.int ↑pl]) = H6 at e6 hp6 hc6 hf6 hr6 e46 ⊢
            refine c_bl ?_
            refine ite2 (fun hk => ?_) (fun hk => ?_)
            · have hk' : w.h + 1 = mo ∧ w.e = pl := by
                simp at hk
                omega
              walk_at "go"
              refine ite2 (fun hq => ?_) (fun hq => ?_)
              · have hq' := of_decide_eq_true hq
                walk_at "go"
                refine ⟨szl (by simp), fun t3 nt3 => ?_⟩
                walk_at "go"
                refine c_app (get_new hf6 nt3) (szl' (by rw [hr6.len, List.length_map]; omega)) ?_
                refine hR _ _ ?_
                rw [if_pos ⟨hk', hq'⟩]
                exact put Li (w.h, w.b, some i, -1) _ _ ss H6 t3 e46 hf6 hr6 nt3
              · have hq' : ¬ w.wi < x.car.getD i 0 := fun z => hq (decide_eq_true z)
                walk_at "go"
                exact no _ e6 (fun z => hq' z.2)
            · refine iteF ?_
              walk_at "go"
              refine no _ e6 (fun z => hk ?_)
              obtain ⟨⟨z1, z2⟩, _⟩ := z
              subst z1 z2
              simp
        · intro σ3 H3 h3
          rw [hJ] at h3
          obtain ⟨v5, v6, ss, rfl, e3, hf3, hr3⟩ := h3
          rw [List.take_of_length_le (by rw [enumF_length, S.day.wks.len]; exact Nat.le_refl _)] at hr3
          walk_at "go"
          refine k _ fo ss e3 nfo hf3 ?_
          have : stepsOf d x.car wt mo pl = L2 ++ (enumF 0 d.ws).flatMap (stepW x.car mo pl) := by
            rw [← hL2, ← hL1]
            rfl
          rw [this]
          exact hr3
      · intro R hR
        have no : ¬ (0 < mo ∧ 0 < at2 wt (mo - 1) pl) → R [some (.ref p), some (.int (mo : Int)), some (.int (pl : Int)), some (.ref awt), some (.ref fo), none, none] H1 := fun h => by
          refine hR _ _ ?_
          rw [if_neg h, hJ, List.append_nil]
          exact ⟨_, rfl, e1, hf1, hr1⟩
        walk_at "go"
        refine ite2 (fun hq => ?_) (fun hq => ?_)
        · have hq' : 0 < mo := by have := of_decide_eq_true hq; omega
          have hm1 : (mo : Int) - 1 = ((mo - 1 : Nat) : Int) := by omega
          have hwm : wt[mo - 1]? = some (wt.getD (mo - 1) []) := by
            have : mo - 1 < wt.length := by omega
            simp [List.getD_eq_getElem?_getD, this]
          obtain ⟨y, hy1, hy2⟩ := hrs.at_ (mo - 1) (vI (wt.getD (mo - 1) [])) (by rw [List.getElem?_map, hwm]; rfl)
          have hpl2 : pl < (wt.getD (mo - 1) []).length := by rw [hrow _ (List.mem_of_getElem? hwm)]; exact hpl
          have hg := vI_get hpl2
          have hwt1 := e1.lst hwt
          have hy3 : SqL K H1 y (vI (wt.getD (mo - 1) [])) := e1.lst hy2
          walk_at "go"
          rw [hm1]
          walk_at "go"
          refine ite2 (fun hz => ?_) (fun hz => ?_)
          · walk_at "go"
            rw [hm1]
            refine ⟨szl (by simp), fun t nt => ?_⟩
            walk_at "go"
            refine c_app (get_new hf1 nt) (szl' (by omega)) ?_
            refine hR _ _ ?_
            rw [if_pos ⟨hq', of_decide_eq_true hz⟩]
            exact put L1 (mo - 1, pl, none, 0) _ _ ss H1 t e1 hf1 hr1 nt
          · walk_at "go"
            exact no (fun z => hz (decide_eq_true z.2))
        · refine iteF ?_
          walk_at "go"
          exact no (fun z => hq (decide_eq_true (by omega)))
    · intro R hR
      walk_at "go"
      refine ite2 (fun hq => ?_) (fun hq => ?_)
      · have hq' : mo < d.T := by have := of_decide_eq_true hq; omega
        walk_at "go"
        refine ⟨szl (by simp), fun t nt => ?_⟩
        walk_at "go"
        refine c_app (get_new upd_same nt) (szl' (by simp)) ?_
        refine hR _ _ ?_
        rw [if_pos hq']
        exact put [] (mo + 1, pl, none, 0) _ _ [] _ t (Same.new nfo) upd_same Refs.nil nt
      · have hq' : ¬ mo < d.T := fun z => hq (decide_eq_true (by omega))
        walk_at "go"
        refine hR _ _ ?_
        rw [if_neg hq', hJ]
        exact ⟨_, rfl, Same.new nfo, upd_same, Refs.nil⟩
end
section
variable {P : Program} {w : World} {K : PySem.W.Frag} {mg : Str → Option Value} {base : Heap}
def spReached (K : PySem.W.Frag) (C : Addr) : Sp := fun vs H Q _ => ∃ (p dx a aw g wa c m : Addr) (ds : List V) (d : Day) (G W : List Int) (x : Fl), vs = [.ref p] ∧ FlowS K H d a aw ds g wa G W ∧ FlowO C H p dx a g wa c m x ∧ x.more.length = d.P ∧ x.car.length = d.ws.length ∧
  ∀ (H' : Hp) (r : Addr) (kvs : List (List L2.Key × V)), Same H H' → H r = none → H' r = some (.dT kvs) → FdAt H' kvs (found d G W x) → Q (.ref r) H'
theorem mf_reached (C : Addr) (T : Ctx K C) (B : Bl mg) (M_waits : Mf P w K mg base C "waits" 3 ["self"] (spWaits K C)) (M_steps : Mf P w K mg base C "steps" 1 ["self", "moment", "place", "waits"] (spSteps K C)) (F : HasM K C "reached" "Flow.reached" s_Flow_reached) : Mf P w K mg base C "reached" 4 ["self"] (spReached K C) := by
  refine mf_of F sc_Flow_reached (fun _ _ _ _ _ _ us hl => match us, hl with | [_], _ => rfl) (fun vs H Q E h => ?_) (fun f cdv A outer s H vs Q E hr h => ?_)
  · obtain ⟨p, dx, a, aw, g, wa, c, m, ds, d, G, W, x, rfl, _⟩ := h
    rfl
  · obtain ⟨p, dx, a, aw, g, wa, c, m, ds, d, G, W, x, rfl, S, FO, hml, hcl, k⟩ := h
    have hal : (addL G x.more).length = d.P := addL_length S.lG hml
    have hP := S.sm.P
    have hT := S.sm.T
    have hday := S.day.day
    have hp := FO.ins
    have hcs := count_small S.sm
    refine ⟨(tSeq (tAsg (tMeth C "waits" (spWaits K C) [] E0 (tVar 0) tNil) (gName 1)) (tSeq (tAsg (tOp (rIxT K) (tFld K (tVar 0) "day") (tC (.int 1))) (gName 2)) (tSeq (tPar 3 4 (tCons tDNewT (tCons (tLst tNil) tNil))) (tSeq (tFor (iRng1 (tCons (tOp (rIxT K) (tFld K (tVar 0) "day") (tC (.int 0))) tNil)) (gName 5) (tIfS (tTest (tOp (rI0 fun i j => .bl (decide (j < i))) (tOp (rIxL K) (tOp (rIxL K) (tVar 1) (tVar 2)) (tVar 5)) (tC (.int 0)))) (tSeq (sDPut (tVar 3) (tTup (tCons (tVar 2) (tCons (tVar 5) tNil))) (tC .non)) (tDrop (tBM K "list" rAppend (tVar 4) (tCons (tTup (tCons (tVar 2) (tCons (tVar 5) tNil))) tNil)))) tNext)) (tSeq (tWhile (fun σ H Q => (tVar 4) σ H fun x H' => ∃ k, TruV K x H' k ∧ Q k H') (tSeq (tAsg (tBM K "list" rPopAt (tVar 4) (tCons (tC (.int 0)) tNil)) (gName 6)) (tFor (iList K (tMeth C "steps" (spSteps K C) [] E0 (tVar 0) (tCons (tOp (rIxT K) (tVar 6) (tC (.int 0))) (tCons (tOp (rIxT K) (tVar 6) (tC (.int 1))) (tCons (tVar 1) tNil))))) (gTup K 4 (gCons (gName 7) (gCons (gName 5) (gCons (gName 8) (gCons (gName 9) gNil))))) (tIfS (tB (tDNotIn (tTup (tCons (tVar 7) (tCons (tVar 5) tNil))) (tVar 3))) (tSeq (sDPut (tVar 3) (tTup (tCons (tVar 7) (tCons (tVar 5) tNil))) (tTup (tCons (tVar 6) (tCons (tVar 8) (tCons (tVar 9) tNil))))) (tDrop (tBM K "list" rAppend (tVar 4) (tCons (tTup (tCons (tVar 7) (tCons (tVar 5) tNil))) tNil)))) tNext)))) (tRet (tVar 3))))))),
      (pss_cons (ps_set (i := 1) sc_Flow_reached.nd rfl (by first | exact Or.inl rfl | exact Or.inr rfl) (pe_mf0 T.cl M_waits (hr.mono (by decide)) (pv 0)))
      (pss_cons (ps_set (i := 2) sc_Flow_reached.nd rfl (by first | exact Or.inl rfl | exact Or.inr rfl) (pe_ix ix_tup (pe_fld (pv 0) rfl) pe_int (fun _ _ => rfl)))
      (pss_cons (ps_par (i := 3) (j := 4) (by rfl) sc_Flow_reached.nd rfl rfl (by decide) rfl rfl (pa_cons pe_dnewT (pa_cons (pe_lst pa_nil) pa_nil)) (by rfl))
      (pss_cons (ps_for PassesOwn.never rfl (pi_range1 (by rfl) B.range (pa_cons (pe_ix ix_tup (pe_fld (pv 0) rfl) pe_int (fun _ _ => rfl)) pa_nil)) (pg_name (i := 5) sc_Flow_reached.nd rfl (by first | exact Or.inl rfl | exact Or.inr rfl))
      (pss_one (ps_if (pt_cmpR op_gt (pe_ix ix_list (pe_ix ix_list (pv 1) (pv 2) (fun _ _ => rfl)) (pv 5) (fun _ _ => rfl)) pe_int (nomark _)) (pss_cons (ps_dput (hu_of hr) (pv 3) (pe_tup (pa_cons (pv 2) (pa_cons (pv 5) pa_nil))) pe_non rfl)
      (pss_one (ps_expr (pe_bm PySem.F.plainAttrs_list PySem.F.slot_list_append PySem.F.type_list_append mt_append (pv 4) (pa_cons (pe_tup (pa_cons (pv 2) (pa_cons (pv 5) pa_nil))) pa_nil))))) pss_nil)))
      (pss_cons (ps_while PassesOwn.never (pt_truth (pv 4) (by intro _; rfl))
      (pss_cons (ps_set (i := 6) sc_Flow_reached.nd rfl (by first | exact Or.inl rfl | exact Or.inr rfl) (pe_bm PySem.F.plainAttrs_list PySem.F.slot_list_pop PySem.F.type_list_pop mt_popAt (pv 4) (pa_cons pe_int pa_nil)))
      (pss_one (ps_for PassesOwn.never rfl (pi_list (pe_mf T.cl M_steps (hr.mono (by decide)) (pv 0) (pa_cons (pe_ix ix_tup (pv 6) pe_int (fun _ _ => rfl)) (pa_cons (pe_ix ix_tup (pv 6) pe_int (fun _ _ => rfl)) (pa_cons (pv 1) pa_nil))))) (pg_tup rfl (pgs_cons (pg_name (i := 7) sc_Flow_reached.nd rfl (by first | exact Or.inl rfl | exact Or.inr rfl)) (pgs_cons (pg_name (i := 5) sc_Flow_reached.nd rfl (by first | exact Or.inl rfl | exact Or.inr rfl)) (pgs_cons (pg_name (i := 8) sc_Flow_reached.nd rfl (by first | exact Or.inl rfl | exact Or.inr rfl)) (pgs_cons (pg_name (i := 9) sc_Flow_reached.nd rfl (by first | exact Or.inl rfl | exact Or.inr rfl)) pgs_nil)))))
      (pss_one (ps_if (pt_cmp (pc_dnotin (hu_of hr) (pe_tup (pa_cons (pv 7) (pa_cons (pv 5) pa_nil))) (pv 3)) rfl) (pss_cons (ps_dput (hu_of hr) (pv 3) (pe_tup (pa_cons (pv 7) (pa_cons (pv 5) pa_nil))) (pe_tup (pa_cons (pv 6) (pa_cons (pv 8) (pa_cons (pv 9) pa_nil)))) rfl)
      (pss_one (ps_expr (pe_bm PySem.F.plainAttrs_list PySem.F.slot_list_append PySem.F.type_list_append mt_append (pv 4) (pa_cons (pe_tup (pa_cons (pv 7) (pa_cons (pv 5) pa_nil))) pa_nil))))) pss_nil))))))
      (pss_one (ps_ret (pv 3)))))))), ?_⟩
    walk_at "go"
    refine ⟨p, dx, a, aw, g, wa, c, m, ds, d, G, W, x, rfl, S, FO, hml, hcl, fun H1 wr rs e1 nwr hwr hrs => ?_⟩
    obtain ⟨hwl, hrow⟩ := waits_rows S.ok (addL G x.more) W x.car hcl hal S.lW
    generalize hwt : waits d (addL G x.more) W x.car = wt at hrs hwl hrow
    have S1 := S.tx (.of e1)
    have FO1 := FO.same e1
    have hp1 := FO1.ins
    have hday1 := S1.day.day
    have hw1 : SqL K H1 wr rs := SqL.of hwr
    have goal : found d G W x = reached d x.car wt := by unfold found; rw [hwt]
    walk_at "go"
    intro fo nfo
    walk_at "go"
    refine ⟨szl (by simp), fun ro nro => ?_⟩
    have nro1 := none_upd nro
    have nrf : ro ≠ fo := ne_upd nro
    walk_at "gn"
    with_reducible refine c_seqJ (fun σ' H' => ∃ v5 kvs rs', σ' = [some (.ref p), some (.ref wr), some (.int (d.T : Int)), some (.ref fo), some (.ref ro), v5, none, none, none, none] ∧ Same H1 H' ∧ RQ H' fo ro kvs rs' (bfs0 d wt).1 (bfs0 d wt).2) ?_ ?_
    · rintro σ2 H2 ⟨v5, kvs, rs', rfl, e2, rq⟩
      obtain ⟨Wp, hWp⟩ : ∃ Wp : Nat → L2.St → Hp → Prop, Wp = fun n σ' H' => ∃ v5 v6 v7 v8 v9 kvs rs' f r done, σ' = [some (.ref p), some (.ref wr), some (.int (d.T : Int)), some (.ref fo), some (.ref ro), v5, v6, v7, v8, v9] ∧ Same H1 H' ∧ RQ H' fo ro kvs rs' f r ∧
        PIv d x.car wt none f r ∧ done + r.length = f.length ∧ n + done = (d.T + 1) * d.P ∧ bfs d x.car wt n (f, r) = reached d x.car wt := ⟨_, rfl⟩
      walk_at "go"
      refine ⟨Wp, ⟨(d.T + 1) * d.P, by rw [hWp]; exact ⟨_, _, _, _, _, kvs, rs', _, _, 0, rfl, e2, rq, bfs0_spec, by simp [bfs0], rfl, rfl⟩⟩, ?_⟩
      intro n σ3 H3 h3
      rw [hWp] at h3
      obtain ⟨v5, v6, v7, v8, v9, kvs, rs', f, r, done, rfl, e3, rq, I, hd1, hd2, hb⟩ := h3
      refine ⟨_, rfl, !rs'.isEmpty, .inl ⟨rs', SqL.of rq.ro, rfl⟩, ?_⟩
      cases r with
      | nil =>
        obtain rfl := rq.empty
        refine iteF ?_
        walk_at "go"
        rw [bfs_nil] at hb
        exact k _ fo kvs (e1.trans e3) (none_back e1 nfo) rq.fo (by rw [goal, ← hb]; exact rq.fd)
      | cons here r' =>
        obtain ⟨xh, rs2, rfl, hxh, rq2⟩ := rq.pop
        refine iteT ?_
        have hcnt := I.count
        have hhere := I.val here (I.sub here (by simp))
        obtain ⟨n', rfl⟩ : ∃ n', n = n' + 1 := ⟨n - 1, by simp at hd1; omega⟩
        refine ⟨Wp n', fun σ' H' h => ⟨n', by omega, h⟩, ?_⟩
        have hro3 := rq.ro
        walk_at "go"
        refine ⟨ro, _, 0, 0, _, rfl, rfl, hro3, by decide, by decide, seqIndex_of (by decide) (by simp), rfl, ?_⟩
        have e4 : Same H1 (upd H3 ro (.lst rs2)) := e3.mut nro1
        have hxh4 : upd H3 ro (.lst rs2) xh = some (.tup [.int (here.1 : Int), .int (here.2 : Int)]) := Tp.mutL hro3 _ _ hxh
        have er : (V.ref xh :: rs2).eraseIdx 0 = rs2 := rfl
        rw [er]
        generalize upd H3 ro (.lst rs2) = H4 at e4 hxh4 rq2 ⊢
        have hp4 := e4 _ _ hp1
        walk_at "go"
        refine ⟨p, dx, a, aw, g, wa, c, m, wr, ds, rs, d, G, W, x, here.1, here.2, wt, rfl, S1.tx (.of e4), FO1.same e4, hcl, hhere.1, hhere.2, e4.lst hw1, hrs.same e4, hwl, hrow, fun H5 sr ss e5 nsr hsr hss => ?_⟩
        have rq5 := rq2.same e5
        have hxh5 := e5 _ _ hxh4
        have nsf : sr ≠ fo := ne_had rq2.fo nsr
        have nso : sr ≠ ro := ne_had rq2.ro nsr
        have T0 := I.turn S.ok
        have hh : here ∈ keys f := I.sub here (by simp)
        have I0 : PIv d x.car wt (some here) f r' := ⟨I.nd, I.val, I.wf, fun n hn => I.sub n (by simp [hn]), fun n hn => by
          rcases I.clo n hn with h | h | h
          · rcases List.mem_cons.mp h with rfl | h
            · exact .inr (.inl rfl)
            · exact .inl h
          · cases h
          · exact .inr (.inr h), I.snk⟩
        walk_at "go"
        refine ⟨sr, rfl, ⟨ss, SqL.of hsr⟩, ?_⟩
        refine for_it (walk_list (xs := ss)) (fun j σ' H' => ∃ v5 v7 v8 v9 kvs rs', σ' = [some (.ref p), some (.ref wr), some (.int (d.T : Int)), some (.ref fo), some (.ref ro), v5, some (.ref xh), v7, v8, v9] ∧ Same H1 H' ∧ Tp H5 H' ∧ Tx H5 H' ∧ H' sr = some (.lst ss) ∧
          RQ H' fo ro kvs rs' (((stepsOf d x.car wt here.1 here.2).take j).foldl (visit here) (f, r')).1 (((stepsOf d x.car wt here.1 here.2).take j).foldl (visit here) (f, r')).2)
          ⟨_, _, _, _, _, _, rfl, e4.trans e5, Tp.of (Same.refl _), Tx.refl _, hsr, rq5⟩ (fun j σ' H' _ ⟨_, _, _, _, _, _, _, _, _, _, h, _⟩ => SqL.of h) ?_ ?_
        · rintro j y σ' H6 H7 hj ⟨v5, v7, v8, v9, kvs, rs3, rfl, e6, t6, x6, hsr6, rq6⟩ ⟨rfl, hy⟩
          obtain ⟨vs, sa, hvs, rfl, hsa⟩ := hss.get hy
          rw [List.getElem?_map] at hvs
          obtain ⟨st, hst, rfl⟩ := Option.map_eq_some_iff.mp hvs
          have hsa6 : SqT K H7 sa [.int (st.1 : Int), .int (st.2.1 : Int), numV st.2.2.1, .int st.2.2.2] := x6.tup hsa
          have hxh6 := t6 _ _ hxh5
          have If := PIv.fold S.ok ((stepsOf d x.car wt here.1 here.2).take j) I0 hh (fun s hs => List.mem_of_mem_take hs)
          have hcn := If.1.count
          have hlj := If.2.2.2
          rw [foldl_take _ _ hst]
          generalize ((stepsOf d x.car wt here.1 here.2).take j).foldl (visit here) (f, r') = fr at rq6 hcn hlj ⊢
          obtain ⟨fj, rj⟩ := fr
          have hkl := rq6.fd.length
          have hrl := Paired.length rq6.nd
          dsimp only at rq6 hcn hkl hlj hrl
          walk_at "go"
          refine ⟨szl (by simp), fun t1 nt1 => ?_⟩
          walk_at "go"
          have rq7 := rq6.same (Same.new (o := .tup [V.int (st.1 : Int), V.int (st.2.1 : Int)]) nt1)
          refine ⟨fo, _, rfl, DGet.t (k := ndK (st.1, st.2.1)) rq7.fo upd_same, ?_⟩
          rw [(rq7.fd.val (st.1, st.2.1)).1]
          refine c_bl ?_
          have hv : visit here (fj, rj) st = if (st.1, st.2.1) ∈ keys fj then (fj, rj) else (fj ++ [((st.1, st.2.1), some (here, st.2.2))], rj ++ [(st.1, st.2.1)]) := rfl
          rw [hv]
          by_cases hm : (st.1, st.2.1) ∈ keys fj
          · rw [if_pos hm, decide_eq_true hm]
            refine iteF ?_
            walk_at "go"
            exact ⟨_, _, _, _, _, _, rfl, e6.trans (Same.new nt1), t6.trans (.of (Same.new nt1)), x6.trans (.new nt1), get_new hsr6 nt1, rq7⟩
          · rw [if_neg hm, decide_eq_false hm]
            refine iteT ?_
            have hxh7 := get_new (u := .tup [V.int (st.1 : Int), V.int (st.2.1 : Int)]) hxh6 nt1
            have e7 := e6.trans (Same.new (o := .tup [V.int (st.1 : Int), V.int (st.2.1 : Int)]) nt1)
            have t7 := t6.trans (.of (Same.new (o := .tup [V.int (st.1 : Int), V.int (st.2.1 : Int)]) nt1))
            have x7 := x6.trans (.new (o := .tup [V.int (st.1 : Int), V.int (st.2.1 : Int)]) nt1)
            have hsr7 := get_new (u := .tup [V.int (st.1 : Int), V.int (st.2.1 : Int)]) hsr6 nt1
            generalize upd H7 t1 (.tup [V.int (st.1 : Int), V.int (st.2.1 : Int)]) = H8 at rq7 hxh7 e7 t7 x7 hsr7 ⊢
            walk_at "go"
            refine ⟨szl (by simp), fun tw ntw => ?_⟩
            walk_at "go"
            refine ⟨szl (by simp), fun t2 nt2 => ?_⟩
            have e8 : Same H8 (upd (upd H8 tw (.tup [V.ref xh, numV st.2.2.1, V.int st.2.2.2])) t2 (.tup [V.int (st.1 : Int), V.int (st.2.1 : Int)])) := (Same.new ntw).trans (Same.new nt2)
            have rq8 := rq7.same e8
            have hway : WayAt (upd (upd H8 tw (.tup [V.ref xh, numV st.2.2.1, V.int st.2.2.2])) t2 (.tup [V.int (st.1 : Int), V.int (st.2.1 : Int)])) (.ref tw) (some (here, st.2.2)) := ⟨tw, xh, rfl, get_new upd_same nt2, e8 _ _ hxh7⟩
            have ht2 : upd (upd H8 tw (.tup [V.ref xh, numV st.2.2.1, V.int st.2.2.2])) t2 (.tup [V.int (st.1 : Int), V.int (st.2.1 : Int)]) t2 = some (.tup ((ndK (st.1, st.2.1)).map kV)) := upd_same
            generalize upd (upd H8 tw (.tup [V.ref xh, numV st.2.2.1, V.int st.2.2.2])) t2 (.tup [V.int (st.1 : Int), V.int (st.2.1 : Int)]) = H9 at e8 rq8 hway ht2 ⊢
            refine ⟨fo, _, rfl, DPut.t rq8.fo ht2 (szm (by omega)), ?_⟩
            have rq9 := rq8.putD hm hway
            have hro9 := rq9.ro
            have hmf := rq8.fo
            walk_at "go"
            refine ⟨szl (by simp), fun t3 nt3 => ?_⟩
            walk_at "go"
            refine c_app (get_new hro9 nt3) (szm ?_) ?_
            · simp at hd1
              omega
            · refine ⟨_, _, _, _, _, _, rfl, Same.mut ((Same.mut (e7.trans e8) nfo).trans (Same.new nt3)) nro1, ?_, ?_, ?_, rq9.app (n := (st.1, st.2.1)) nt3⟩
              · exact (t7.trans (.of e8)).trans ((Tp.mutD hmf).trans ((Tp.of (Same.new nt3)).trans (Tp.mutL (get_new hro9 nt3))))
              · exact (x7.trans (.of e8)).trans ((Tx.mutD hmf).trans ((Tx.new nt3).trans (Tx.mutL (get_new hro9 nt3))))
              · exact get_mut nso (get_new (get_mut nsf (e8 _ _ hsr7)) nt3)
        · rintro σ' H6 ⟨v5, v7, v8, v9, kvs, rs3, rfl, e6, t6, x6, hsr6, rq6⟩
          have hsl : ss.length = (stepsOf d x.car wt here.1 here.2).length := by rw [hss.len, List.length_map]
          rw [List.take_of_length_le (by rw [hsl]; exact Nat.le_refl _)] at rq6
          walk_at "go"
          rw [hWp]
          simp at hd1
          exact ⟨_, _, _, _, _, _, _, _, _, done + 1, rfl, e6, rq6, T0.1, by have := T0.2; omega, by omega, hb⟩
    · intro R hR
      walk_at "go"
      refine ⟨_, rfl, by omega, by omega, ?_⟩
      rw [Int.toNat_natCast]
      refine for_it walk_rng (fun i σ' H' => ∃ v5 kvs rs', σ' = [some (.ref p), some (.ref wr), some (.int (d.T : Int)), some (.ref fo), some (.ref ro), v5, none, none, none, none] ∧ Same H1 H' ∧ RQ H' fo ro kvs rs' ((sinksI d wt i).map fun n => (n, none)) (sinksI d wt i))
        ⟨_, [], [], rfl, (Same.new nfo).trans (Same.new nro), by rw [upd_ne nrf.symm]; exact upd_same, .nil, upd_same, .nil⟩ (fun _ _ _ _ _ => trivial) ?_ ?_
      · rintro i y σ' H2 H3 hi ⟨v5, kvs, rs', rfl, e2, rq⟩ ⟨rfl, rfl⟩
        obtain ⟨y, hy1, hy2, hy3⟩ := wt_at hrs hwl hrow (Nat.le_refl d.T) hi
        have hw3 := e2.lst hw1
        have hy4 := e2.lst hy2
        have hkl := rq.fd.length
        have hsl := sinksI_length d wt i
        have hrl := Paired.length rq.nd
        rw [List.length_map] at hkl
        rw [sinksI_succ]
        walk_at "go"
        refine ite2 (fun h => ?_) (fun h => ?_)
        · rw [if_pos (of_decide_eq_true h)]
          walk_at "go"
          refine ⟨szl (by simp), fun t nt => ?_⟩
          have rq1 := rq.same (Same.new (o := .tup [V.int (d.T : Int), V.int (i : Int)]) nt)
          refine ⟨fo, _, rfl, DPut.t (k := ndK (d.T, i)) rq1.fo upd_same (szm (by omega)), ?_⟩
          have rq2 := rq1.putD (n := (d.T, i)) (v := .non) (way := none) (sinksI_new d wt i) rfl
          have hro2 := rq2.ro
          walk_at "go"
          refine ⟨szl (by simp), fun t2 nt2 => ?_⟩
          walk_at "go"
          refine c_app (get_new hro2 nt2) (szm (by omega)) ?_
          have rq3 := rq2.app (n := (d.T, i)) nt2
          rw [List.map_append]
          exact ⟨_, _, _, rfl, Same.mut ((Same.mut (e2.trans (Same.new nt)) nfo).trans (Same.new nt2)) nro1, rq3⟩
        · rw [if_neg (fun z => h (decide_eq_true z)), List.append_nil]
          walk_at "go"
          exact ⟨_, _, _, rfl, e2, rq⟩
      · rintro σ' H' ⟨v5, kvs, rs', rfl, e2, rq⟩
        exact hR _ _ ⟨_, _, _, rfl, e2, rq⟩
end
section
variable {P : Program} {w : World} {K : PySem.W.Frag} {mg : Str → Option Value} {base : Heap}
def spLessen (K : PySem.W.Frag) (C : Addr) : Sp := fun vs H Q _ => ∃ (H0 : Hp) (p dx a aw g wa c m : Addr) (ds : List V) (d : Day) (G W : List Int) (x : Fl), vs = [.ref p] ∧ Same H0 H ∧ H0 p = none ∧ H0 c = none ∧ H0 m = none ∧ FlowS K H0 d a aw ds g wa G W ∧ FlowO C H p dx a g wa c m x ∧ Good d G W x ∧
  (lessen d G W x = none → ∀ H', Same H0 H' → FlowO C H' p dx a g wa c m x → Q (.bl false) H') ∧ (∀ y, lessen d G W x = some y → ∀ H', Same H0 H' → FlowO C H' p dx a g wa c m y → Q (.bl true) H')
theorem mf_lessen (C : Addr) (T : Ctx K C) (B : Bl mg) (M_reached : Mf P w K mg base C "reached" 4 ["self"] (spReached K C)) (F : HasM K C "lessen" "Flow.lessen" s_Flow_lessen) : Mf P w K mg base C "lessen" 5 ["self"] (spLessen K C) := by
  refine mf_of F sc_Flow_lessen (fun _ _ _ _ _ _ us hl => match us, hl with | [_], _ => rfl) (fun vs H Q E h => ?_) (fun f cdv A outer s H vs Q E hr h => ?_)
  · obtain ⟨H0, p, dx, a, aw, g, wa, c, m, ds, d, G, W, x, rfl, _⟩ := h
    rfl
  · obtain ⟨H0, p, dx, a, aw, g, wa, c, m, ds, d, G, W, x, rfl, s0, p0, c0, m0, S0, FO, gd, k1, k2⟩ := h
    have hP := S0.sm.P
    have S := S0.tx (.of s0)
    have hday := S.day.day
    have hml := gd.len
    have hcl := gd.feas.len
    have I := found_spec S0.ok G W x
    refine ⟨(tSeq (tAsg (tMeth C "reached" (spReached K C) [] E0 (tVar 0) tNil) (gName 1)) (tSeq (tAsg (tLc (iRng1 (tCons (tOp (rIxT K) (tFld K (tVar 0) "day") (tC (.int 0))) tNil)) (gName 3) (tAnd (tB (tDIn (tTup (tCons (tC (.int 0)) (tCons (tVar 3) tNil))) (tVar 1))) (tTest (tOp (rI0 fun i j => .bl (decide (j < i))) (tOp (rIxL K) (tFld K (tVar 0) "more") (tVar 3)) (tC (.int 0))))) (tVar 3) [3]) (gName 2)) (tSeq (tIfS (tNot (fun σ H Q => (tVar 2) σ H fun x H' => ∃ k, TruV K x H' k ∧ Q k H')) (tRet (tC (.bl false))) tNext) (tSeq (tAugS (tFld K (tVar 0) "more") (tOp (rIxL K) (tVar 2) (tC (.int 0))) (tC (.int 1)) (rIxL K) (ipI fun i j => i - j) rSetL) (tSeq (tAsg (tDGet (tVar 1) (tTup (tCons (tC (.int 0)) (tCons (tOp (rIxL K) (tVar 2) (tC (.int 0))) tNil)))) (gName 4)) (tSeq (tWhile (tTest (tOp (fun x y H Q => y = .non ∧ Q (.bl (!decide (x = .non))) H) (tVar 4) (tC .non))) (tSeq (tAsg (tVar 4) (gTup K 3 (gCons (gName 5) (gCons (gName 6) (gCons (gName 7) gNil))))) (tSeq (tIfS (tTest (tOp (fun x y H Q => y = .non ∧ Q (.bl (!decide (x = .non))) H) (tVar 6) (tC .non))) (tAugS (tFld K (tVar 0) "carried") (tVar 6) (tVar 7) (rIxL K) (ipI fun i j => i + j) rSetL) tNext) (tAsg (tDGet (tVar 1) (tVar 5)) (gName 4))))) (tRet (tC (.bl true))))))))),
      (pss_cons (ps_set (i := 1) sc_Flow_lessen.nd rfl (by first | exact Or.inl rfl | exact Or.inr rfl) (pe_mf0 T.cl M_reached (hr.mono (by decide)) (pv 0)))
      (pss_cons (ps_setLc (i := 2) (own := [("place", 3)]) (g := (gName 3)) (tt := (tAnd (tB (tDIn (tTup (tCons (tC (.int 0)) (tCons (tVar 3) tNil))) (tVar 1))) (tTest (tOp (rI0 fun i j => .bl (decide (j < i))) (tOp (rIxL K) (tFld K (tVar 0) "more") (tVar 3)) (tC (.int 0)))))) (te := (tVar 3)) rfl sc_Flow_lessen.nd rfl rfl (sw_true rfl rfl rfl (by decide +kernel)) (pi_range1 (by rfl) B.range (pa_cons (pe_ix ix_tup (pe_fld (pv 0) rfl) pe_int (fun _ _ => rfl)) pa_nil)) (blkOk_by (own := [("place", 3)]) (N := ["self", "found", "some", "place", "way", "here", "number", "sign"]) (sc := defScope s_Flow_lessen) (by decide +kernel)) (fun _ _ _ _ _ => (pg_name (i := 3) sc_Flow_lessen.nd rfl (by first | exact Or.inl rfl | exact Or.inr rfl))) (fun _ _ _ _ _ => (pts_one (PW.pt (pw_and (pt_cmp (pc_din (hu_of hr) (pe_tup (pa_cons pe_int (pa_cons (pv 3) pa_nil))) (pv 1)) rfl) (pw_and1 (pt_cmpR op_gt (pe_ix ix_list (pe_fld (pv 0) rfl) (pv 3) (fun _ _ => rfl)) pe_int (nomark _))))))) (fun _ _ _ _ _ => (pv 3)))
      (pss_cons (ps_if (pt_not (pt_truth (pv 2) (by intro _; rfl))) (pss_one (ps_ret pe_bl)) pss_nil)
      (pss_cons (ps_augS (pe_fld (pv 0) rfl) (pe_ix ix_list (pv 2) pe_int (fun _ _ => rfl)) get_list pe_int ip_sub set_list)
      (pss_cons (ps_set (i := 4) sc_Flow_lessen.nd rfl (by first | exact Or.inl rfl | exact Or.inr rfl) (pe_dget (hu_of hr) (pv 1) (pe_tup (pa_cons pe_int (pa_cons (pe_ix ix_list (pv 2) pe_int (fun _ _ => rfl)) pa_nil))) (fun _ _ => rfl)))
      (pss_cons (ps_while PassesOwn.never (pt_cmpR op_notN (pv 4) pe_non (nomark _))
      (pss_cons (ps_asg (pv 4) (pg_tup rfl (pgs_cons (pg_name (i := 5) sc_Flow_lessen.nd rfl (by first | exact Or.inl rfl | exact Or.inr rfl)) (pgs_cons (pg_name (i := 6) sc_Flow_lessen.nd rfl (by first | exact Or.inl rfl | exact Or.inr rfl)) (pgs_cons (pg_name (i := 7) sc_Flow_lessen.nd rfl (by first | exact Or.inl rfl | exact Or.inr rfl)) pgs_nil)))))
      (pss_cons (ps_if (pt_cmpR op_notN (pv 6) pe_non (nomark _)) (pss_one (ps_augS (pe_fld (pv 0) rfl) (pv 6) get_list (pv 7) ip_add set_list)) pss_nil)
      (pss_one (ps_set (i := 4) sc_Flow_lessen.nd rfl (by first | exact Or.inl rfl | exact Or.inr rfl) (pe_dget (hu_of hr) (pv 1) (pv 5) (fun _ _ => rfl)))))))
      (pss_one (ps_ret pe_bl)))))))), ?_⟩
    have hp := FO.ins
    walk_at "go"
    refine ⟨p, dx, a, aw, g, wa, c, m, ds, d, G, W, x, rfl, S, FO, hml, hcl, fun H1 fo kvs e1 nfo hfo hfd => ?_⟩
    have hle : lessen d G W x = match somes d (found d G W x) x with
      | [] => none
      | p :: _ => some ⟨addAt x.more p (-1), follow (found d G W x) (found d G W x).length (wayOf (found d G W x) (0, p)) x.car⟩ := rfl
    generalize found d G W x = f at hfd I hle
    have FO1 := FO.same e1
    have hp1 := FO1.ins
    have hm1 := FO1.more
    have hday1 := e1.tup hday
    have cm := FO.cm
    have nfm : fo ≠ m := ne_of hfo hm1 (fun z => nomatch z)
    have nfc : fo ≠ c := ne_of hfo FO1.car (fun z => nomatch z)
    walk_at "go"
    refine ⟨_, rfl, by omega, by omega, ?_⟩
    rw [Int.toNat_natCast]
    intro so nso
    have nsm : so ≠ m := ne_had hm1 nso
    refine lc_it walk_rng (fun j H2 => Same H1 H2 ∧ H2 so = some (.lst (vN ((List.range j).filter (fun p => decide ((0, p) ∈ keys f) && decide (0 < x.more.getD p 0)))))) ⟨Same.new nso, upd_same⟩ (fun _ _ _ _ => trivial) ?_ ?_
    · rintro j y H2 H3 hj ⟨e2, hD⟩ ⟨rfl, rfl⟩
      have hp2 := e2 _ _ hp1
      have hm2 := e2 _ _ hm1
      have hg := vI_get (show j < x.more.length by rw [hml]; exact hj)
      have hfl := List.length_filter_le (fun p => decide ((0, p) ∈ keys f) && decide (0 < x.more.getD p 0)) (List.range j)
      rw [List.length_range] at hfl
      rw [List.range_succ, List.filter_append]
      generalize hL : (List.range j).filter (fun p => decide ((0, p) ∈ keys f) && decide (0 < x.more.getD p 0)) = L at hD hfl ⊢
      walk_at "go"
      refine ⟨rfl, ?_⟩
      walk_at "go"
      refine ⟨szl (by simp), fun t nt => ?_⟩
      have hfo2 := get_new (u := .tup [V.int 0, V.int (j : Int)]) (e2 _ _ hfo) nt
      have e3 : Same H1 (upd H3 t (.tup [V.int 0, V.int (j : Int)])) := e2.trans (Same.new nt)
      have hD3 := get_new (u := .tup [V.int 0, V.int (j : Int)]) hD nt
      have hp3 := e3 _ _ hp1
      have hm3 := e3 _ _ hm1
      walk_at "go"
      refine ⟨fo, _, rfl, DGet.t (k := ndK (0, j)) hfo2 upd_same, ?_⟩
      rw [(hfd.val (0, j)).1]
      refine c_bl ?_
      refine ite2 (fun h1 => ?_) (fun h1 => ?_)
      · walk_at "go"
        refine ite2 (fun h2 => ?_) (fun h2 => ?_)
        · walk_at "go"
          refine ⟨_, hD3, szl' (by simp; omega), e3.mut nso, ?_⟩
          rw [upd_same, filt1 (q := fun p => decide ((0, p) ∈ keys f) && decide (0 < x.more.getD p 0)) (by show (_ && _) = true; rw [h1, h2]; rfl)]
          simp
        · refine ⟨e3, ?_⟩
          rw [hD3, filt0 (q := fun p => decide ((0, p) ∈ keys f) && decide (0 < x.more.getD p 0)) (by show (_ && _) = false; rw [h1, Bool.eq_false_iff.mpr h2]; rfl), List.append_nil]
      · refine iteF ?_
        refine ⟨e3, ?_⟩
        rw [hD3, filt0 (q := fun p => decide ((0, p) ∈ keys f) && decide (0 < x.more.getD p 0)) (by show (_ && _) = false; rw [Bool.eq_false_iff.mpr h1]; rfl), List.append_nil]
    · rintro H2 ⟨e2, hD⟩
      have hsm : somes d f x = (List.range d.P).filter (fun p => decide ((0, p) ∈ keys f) && decide (0 < x.more.getD p 0)) := rfl
      rw [← hsm] at hD
      have hmem : ∀ q, q ∈ somes d f x → q < d.P ∧ (0, q) ∈ keys f ∧ 0 < x.more.getD q 0 := fun q hq => somes_mem.mp hq
      have FO2 := FO1.same e2
      have hp2 := FO2.ins
      have hm2 := FO2.more
      have hfo2 := e2 _ _ hfo
      have hfd2 := hfd.tp (.of e2)
      have s2 : Same H0 H2 := s0.trans (e1.trans e2)
      walk_at "go"
      refine ⟨_, .inl ⟨_, SqL.of hD, rfl⟩, ?_⟩
      generalize hL : somes d f x = L at hD hle hmem
      cases L with
      | nil =>
        refine iteT ?_
        walk_at "go"
        exact k1 hle _ s2 FO2
      | cons q0 qs =>
        refine iteF ?_
        have hD2 : H2 so = some (.lst (V.int (q0 : Int) :: vN qs)) := hD
        obtain ⟨hq1, hq2, hq3⟩ := hmem q0 (by simp)
        have hqm : q0 < x.more.length := by rw [hml]; exact hq1
        have hg := vI_get hqm
        have hj : ixN (vI x.more).length (q0 : Int) = some q0 := ixN_nat (by simpa using hqm)
        have k2' := k2 _ hle
        clear k2 k1
        walk_at "go"
        refine ⟨szl (by simp), fun t nt => ?_⟩
        obtain ⟨H3, hH3⟩ : ∃ H3, H3 = upd (upd H2 m (.lst ((vI x.more).set q0 (V.int (x.more.getD q0 0 - 1))))) t (.tup [V.int 0, V.int (q0 : Int)]) := ⟨_, rfl⟩
        rw [← hH3]
        have hmt : upd H2 m (.lst ((vI x.more).set q0 (V.int (x.more.getD q0 0 - 1)))) m = some (.lst (vI (addAt x.more q0 (-1)))) := by
          rw [upd_same, vI_set]
          rfl
        have s3 : Same H0 H3 := by rw [hH3]; exact (s2.mut m0).trans (Same.new nt)
        have npm : p ≠ m := ne_of hp2 hm2 (fun z => nomatch z)
        have tp3 : Tp H2 H3 := by rw [hH3]; exact (Tp.mutL hm2).trans (.of (Same.new nt))
        have hp3 : H3 p = some (.ins C dx (ff a g wa c m)) := by rw [hH3]; exact get_new (get_mut npm hp2) nt
        have hc3 : H3 c = some (.lst (vI x.car)) := by rw [hH3]; exact get_new (get_mut cm FO2.car) nt
        have hm3 : H3 m = some (.lst (vI (addAt x.more q0 (-1)))) := by rw [hH3]; exact get_new hmt nt
        have hfo3 : H3 fo = some (.dT kvs) := by rw [hH3]; exact get_new (get_mut nfm hfo2) nt
        have ht3 : H3 t = some (.tup ((ndK (0, q0)).map kV)) := by rw [hH3]; exact upd_same
        have hfd3 := hfd2.tp tp3
        clear hH3 nt
        obtain ⟨⟨nd0, way0⟩, hx0, ex0⟩ := List.mem_map.mp hq2
        obtain ⟨pre0, post0, ef0⟩ := List.append_of_mem hx0
        cases ex0
        have hlk := lookup_split I.nd ef0
        have hwy : wayOf f (0, q0) = way0 := by unfold wayOf; rw [hlk]; rfl
        obtain ⟨v0, hv0, hw0⟩ := (hfd3.val (0, q0)).2 way0 hlk
        rw [hwy] at k2'
        refine ⟨fo, v0, rfl, by rw [← hv0]; exact DGet.t hfo3 ht3, ?_⟩
        obtain ⟨Wp, hWp⟩ : ∃ Wp : Nat → L2.St → Hp → Prop, Wp = fun n σ' H' => ∃ v3 v v5 v6 v7 way pre nd post cs fuel, σ' = [some (.ref p), some (.ref fo), some (.ref so), v3, some v, v5, v6, v7] ∧ Same H0 H' ∧ H' p = some (.ins C dx (ff a g wa c m)) ∧ H' c = some (.lst (vI cs)) ∧
          H' m = some (.lst (vI (addAt x.more q0 (-1)))) ∧ H' fo = some (.dT kvs) ∧ FdAt H' kvs f ∧ WayAt H' v way ∧ f = pre ++ (nd, way) :: post ∧ n = pre.length ∧ pre.length ≤ fuel ∧ follow f fuel way cs = follow f f.length way0 x.car ∧ cs.length = d.ws.length := ⟨_, rfl⟩
        walk_at "go"
        refine ⟨Wp, ⟨pre0.length, by rw [hWp]; exact ⟨_, v0, _, _, _, way0, pre0, (0, q0), post0, x.car, f.length, rfl, s3, hp3, hc3, hm3, hfo3, hfd3, hw0, ef0, rfl, by rw [ef0]; simp, rfl, hcl⟩⟩, ?_⟩
        intro n σ4 H4 h4
        rw [hWp] at h4
        obtain ⟨v3, v, v5, v6, v7, way, pre, nd, post, cs, fuel, rfl, s4, hp4, hc4, hm4, hfo4, hfd4, hw4, ef, rfl, hfu, hfol, hcsl⟩ := h4
        walk_at "go"
        refine ⟨rfl, ?_⟩
        refine c_bl ?_
        match way, hw4, ef, hfol with
        | none, hw4, ef, hfol =>
          obtain rfl : v = .non := hw4
          refine iteF ?_
          walk_at "go"
          have : follow f fuel none cs = cs := by cases fuel <;> rfl
          rw [this] at hfol
          exact k2' _ s4 ⟨hp4, by rw [← hfol]; exact hc4, hm4, cm⟩
        | some (here, num, sg), hw4, ef, hfol =>
          obtain ⟨tw, xh, rfl, htw, hxh⟩ := hw4
          obtain ⟨hk1, hk2⟩ := I.wf pre nd _ post ef
          obtain ⟨⟨nh, way'⟩, hxn, exn⟩ := List.mem_map.mp hk1
          obtain ⟨pre1, post1, ep1⟩ := List.append_of_mem hxn
          have exn' : here = nh := exn.symm
          subst exn'
          have ef1 : f = pre1 ++ (here, way') :: (post1 ++ (nd, some (here, num, sg)) :: post) := by rw [ef, ep1]; simp
          have hlk1 := lookup_split I.nd ef1
          have hwy1 : wayOf f here = way' := by unfold wayOf; rw [hlk1]; rfl
          have hpl : pre1.length < pre.length := by rw [ep1]; simp
          obtain ⟨fuel', rfl⟩ : ∃ fuel', fuel = fuel' + 1 := ⟨fuel - 1, by omega⟩
          rw [show (!decide (V.ref tw = V.non)) = true by rw [decide_eq_false (fun z => nomatch z)]; rfl]
          refine iteT ?_
          refine ⟨Wp pre1.length, fun σ' H' h => ⟨_, hpl, h⟩, ?_⟩
          with_reducible refine c_seq ?_
          walk_at "gn"
          with_reducible refine c_seqJ (fun σ' H' => ∃ cs', σ' = [some (.ref p), some (.ref fo), some (.ref so), v3, some (.ref tw), some (.ref xh), some (numV num), some (.int sg)] ∧ Same H0 H' ∧ H' p = some (.ins C dx (ff a g wa c m)) ∧ H' c = some (.lst (vI cs')) ∧
            H' m = some (.lst (vI (addAt x.more q0 (-1)))) ∧ H' fo = some (.dT kvs) ∧ Tp H4 H' ∧ follow f fuel' way' cs' = follow f f.length way0 x.car ∧ cs'.length = d.ws.length) ?_ ?_
          · rintro σ5 H5 ⟨cs', rfl, s5, hp5, hc5, hm5, hfo5, t5, hfol5, hcs5⟩
            have hfd5 := hfd4.tp t5
            obtain ⟨v', hv', hw'⟩ := (hfd5.val here).2 way' hlk1
            walk_at "go"
            refine ⟨fo, v', rfl, by rw [← hv']; exact DGet.t hfo5 (t5 _ _ hxh), ?_⟩
            walk_at "go"
            rw [hWp]
            exact ⟨_, v', _, _, _, way', pre1, here, _, cs', fuel', rfl, s5, hp5, hc5, hm5, hfo5, hfd5, hw', ef1, rfl, by omega, hfol5, hcs5⟩
          · intro R hR
            cases num with
            | none =>
              have h1 : follow f (fuel' + 1) (some (here, none, sg)) cs = follow f fuel' (wayOf f here) cs := rfl
              rw [h1, hwy1] at hfol
              walk_at "go"
              refine ⟨rfl, ?_⟩
              refine c_bl ?_
              refine iteF ?_
              walk_at "go"
              exact hR _ _ ⟨cs, rfl, s4, hp4, hc4, hm4, hfo4, .of (Same.refl _), hfol, hcsl⟩
            | some i =>
              have h1 : follow f (fuel' + 1) (some (here, some i, sg)) cs = follow f fuel' (wayOf f here) (addAt cs i sg) := rfl
              rw [h1, hwy1] at hfol
              have hi : i < cs.length := by
                rw [hcsl]
                rcases mem_steps.mp hk2 with ⟨_, z⟩ | ⟨_, z⟩ | ⟨i', w', hi', ⟨_, z⟩ | ⟨_, z⟩⟩
                · injection z with _ z; injection z with _ z; injection z with z _; cases z
                · injection z with _ z; injection z with _ z; injection z with z _; cases z
                · injection z with _ z; injection z with _ z; injection z with z _; injection z with z
                  rw [z]; exact (List.getElem?_eq_some_iff.mp hi').1
                · injection z with _ z; injection z with _ z; injection z with z _; injection z with z
                  rw [z]; exact (List.getElem?_eq_some_iff.mp hi').1
              have hgc := vI_get hi
              have hjc : ixN (vI cs).length (i : Int) = some i := ixN_nat (by simpa using hi)
              have npc : p ≠ c := ne_of hp4 hc4 (fun z => nomatch z)
              walk_at "go"
              refine ⟨rfl, ?_⟩
              refine c_bl ?_
              refine iteT ?_
              rw [show numV (some i) = V.int (i : Int) from rfl]
              walk_at "go"
              refine hR _ _ ⟨addAt cs i sg, rfl, s4.mut c0, get_mut npc hp4, ?_, get_mut cm.symm hm4, get_mut nfc hfo4, Tp.mutL hc4, hfol, by rw [addAt_length]; exact hcsl⟩
              rw [upd_same, vI_set]
              rfl
end
section
variable {P : Program} {w : World} {K : PySem.W.Frag} {mg : Str → Option Value} {base : Heap}
def spSettle (K : PySem.W.Frag) (C : Addr) : Sp := fun vs H Q _ => ∃ (H0 : Hp) (p dx a aw g wa c m : Addr) (ds : List V) (d : Day) (G W : List Int) (x : Fl), vs = [.ref p] ∧ Same H0 H ∧ H0 p = none ∧ H0 c = none ∧ H0 m = none ∧ FlowS K H0 d a aw ds g wa G W ∧ FlowO C H p dx a g wa c m x ∧ Good d G W x ∧
  ∀ H', Same H0 H' → FlowO C H' p dx a g wa c m (settle d G W x.more.sum.toNat x) → Q .non H'
theorem settle_none {d : Day} {G W : List Int} {x : Fl} (h : lessen d G W x = none) : ∀ n, settle d G W n x = x
  | 0 => rfl
  | n + 1 => by unfold Dry.settle; rw [h]
theorem mf_settle (C : Addr) (T : Ctx K C) (B : Bl mg) (M_lessen : Mf P w K mg base C "lessen" 5 ["self"] (spLessen K C)) (F : HasM K C "settle" "Flow.settle" s_Flow_settle) : Mf P w K mg base C "settle" 6 ["self"] (spSettle K C) := by
  refine mf_of F sc_Flow_settle (fun _ _ _ _ _ _ us hl => match us, hl with | [_], _ => rfl) (fun vs H Q E h => ?_) (fun f cdv A outer s H vs Q E hr h => ?_)
  · obtain ⟨H0, p, dx, a, aw, g, wa, c, m, ds, d, G, W, x, rfl, _⟩ := h
    rfl
  · obtain ⟨H0, p, dx, a, aw, g, wa, c, m, ds, d, G, W, x, rfl, s0, p0, c0, m0, S0, FO, gd, k⟩ := h
    refine ⟨(tSeq (tAsg (tC (.bl true)) (gName 1)) (tWhile (tB (tVar 1)) (tAsg (tMeth C "lessen" (spLessen K C) [] E0 (tVar 0) tNil) (gName 1)))),
      (pss_cons (ps_set (i := 1) sc_Flow_settle.nd rfl (by first | exact Or.inl rfl | exact Or.inr rfl) pe_bl)
      (pss_one (ps_while PassesOwn.never (pt_val (pv 1))
      (pss_one (ps_set (i := 1) sc_Flow_settle.nd rfl (by first | exact Or.inl rfl | exact Or.inr rfl) (pe_mf0 T.cl M_lessen (hr.mono (by decide)) (pv 0))))))), ?_⟩
    walk_at "go"
    obtain ⟨Wp, hWp⟩ : ∃ Wp : Nat → L2.St → Hp → Prop, Wp = fun n σ' H' => ∃ b y, σ' = [some (.ref p), some (.bl b)] ∧ Same H0 H' ∧ FlowO C H' p dx a g wa c m y ∧ Good d G W y ∧ settle d G W y.more.sum.toNat y = settle d G W x.more.sum.toNat x ∧ (b = true → n = y.more.sum.toNat + 1) ∧ (b = false → lessen d G W y = none) := ⟨_, rfl⟩
    refine ⟨Wp, ⟨x.more.sum.toNat + 1, by rw [hWp]; exact ⟨true, x, rfl, s0, FO, gd, rfl, fun _ => rfl, (fun z => Bool.noConfusion z)⟩⟩, ?_⟩
    intro n σ1 H1 h1
    rw [hWp] at h1
    obtain ⟨b, y, rfl, s1, FO1, g1, hs, hb1, hb2⟩ := h1
    have hp1 := FO1.ins
    walk_at "go"
    cases b with
    | false =>
      refine iteF ?_
      rw [settle_none (hb2 rfl)] at hs
      exact k _ s1 (by rw [← hs]; exact FO1)
    | true =>
      refine iteT ?_
      have hn := hb1 rfl
      refine ⟨fun σ' H' => ∃ m, m < n ∧ Wp m σ' H', fun _ _ h => h, ?_⟩
      walk_at "go"
      refine ⟨H0, p, dx, a, aw, g, wa, c, m, ds, d, G, W, y, rfl, s1, p0, c0, m0, S0, FO1, g1, fun hl H' s' FO' => ?_, fun z hl H' s' FO' => ?_⟩
      · walk_at "go"
        refine ⟨0, by omega, ?_⟩
        rw [hWp]
        exact ⟨false, y, rfl, s', FO', g1, hs, (fun z => Bool.noConfusion z), fun _ => hl⟩
      · walk_at "go"
        obtain ⟨gz, sz⟩ := lessen_good S0.ok S0.lG S0.lW g1 hl
        have nz := sum_nonneg gz.nn
        have e : y.more.sum.toNat = z.more.sum.toNat + 1 := by omega
        refine ⟨z.more.sum.toNat + 1, by omega, ?_⟩
        rw [hWp]
        refine ⟨true, z, rfl, s', FO', gz, ?_, fun _ => rfl, (fun z => Bool.noConfusion z)⟩
        rw [← hs, e]
        conv => rhs; unfold Dry.settle
        rw [hl]
def spFlowLine (K : PySem.W.Frag) (C : Addr) : Sp := fun vs H Q _ => ∃ (p dx a aw g wa c m : Addr) (ds : List V) (d : Day) (G W : List Int) (x : Fl), vs = [.ref p] ∧ FlowS K H d a aw ds g wa G W ∧ FlowO C H p dx a g wa c m x ∧ x.more.length = d.P ∧ x.car.length = d.ws.length ∧
  ∀ (H' : Hp) (r : Addr), Same H H' → H r = none → H' r = some (.tup (vN (lineFl d G W x))) → Q (.ref r) H'
end
section
variable {P : Program} {w : World} {K : PySem.W.Frag} {mg : Str → Option Value} {base : Heap}
def spSettled (K : PySem.W.Frag) (C : Addr) : Sp := fun vs H Q _ => ∃ (a aw g wa : Addr) (ds : List V) (d : Day) (G W : List Int), vs = [.ref a, .ref g, .ref wa] ∧ FlowS K H d a aw ds g wa G W ∧ (∀ p, 0 ≤ G.getD p 0) ∧ (∀ p, 0 ≤ W.getD p 0) ∧
  ∀ (H' : Hp) (p dx c m : Addr), Same H H' → FlowO C H' p dx a g wa c m (settled d G W) → Q (.ref p) H'
theorem df_settled (C : Addr) (T : Ctx K C) (B : Bl mg) (M_init : Mkf P w K mg base "Flow" C 1 ["self", "day", "given", "wanted"] (spInit K C)) (M_settle : Mf P w K mg base C "settle" 6 ["self"] (spSettle K C)) (F : Has K mg "settled" s_settled) : Df P w K mg base "settled" 7 ["day", "given", "wanted"] (spSettled K C) := by
  refine df_of F sc_settled (fun _ _ _ _ _ _ us hl => match us, hl with | [_, _, _], _ => rfl) (fun vs H Q E h => ?_) (fun f cdv A outer s H vs Q E hr h => ?_)
  · obtain ⟨a, aw, g, wa, ds, d, G, W, rfl, _⟩ := h
    rfl
  · obtain ⟨a, aw, g, wa, ds, d, G, W, rfl, S, gn, wn, k⟩ := h
    refine ⟨(tSeq (tAsg (tMake C (spInit K C) [] E0 (tCons (tVar 0) (tCons (tVar 1) (tCons (tVar 2) tNil)))) (gName 3)) (tSeq (tDrop (tMeth C "settle" (spSettle K C) [] E0 (tVar 3) tNil)) (tRet (tVar 3)))),
      (pss_cons (ps_set (i := 3) sc_settled.nd rfl (by first | exact Or.inl rfl | exact Or.inr rfl) (pe_mk M_init (hr.mono (by decide)) (by rfl) (pa_cons (pv 0) (pa_cons (pv 1) (pa_cons (pv 2) pa_nil)))))
      (pss_cons (ps_expr (pe_mf0 T.cl M_settle (hr.mono (by decide)) (pv 3)))
      (pss_one (ps_ret (pv 3))))), ?_⟩
    walk_at "go"
    intro p dx np ndx ne
    have np1 : upd H dx (.own p) p = none := by rw [upd_ne ne.symm]; exact np
    refine ⟨H, p, dx, a, aw, g, wa, ds, d, G, W, rfl, (Same.new ndx).trans (Same.new np1), np, upd_same, S, fun H1 c m e1 c0 m0 FO => ⟨rfl, ?_⟩⟩
    have hp1 := FO.ins
    walk_at "go"
    refine ⟨H, p, dx, a, aw, g, wa, c, m, ds, d, G, W, flow0 d W, rfl, e1, np, c0, m0, S, FO, flow0_good S.ok S.lG S.lW gn wn, fun H2 s2 FO2 => ?_⟩
    walk_at "go"
    exact k _ p dx c m s2 FO2
end
section
variable {P : Program} {w : World} {K : PySem.W.Frag} {mg : Str → Option Value} {base : Heap}
def spFewest (K : PySem.W.Frag) : Sp := fun vs H Q _ => ∃ (a aw wa : Addr) (ds : List V) (d : Day) (W : List Int), vs = [.ref a, .ref wa] ∧ DayAt K H a aw ds d ∧ d.Ok ∧ d.Sm ∧ 2 ≤ d.P ∧ SqT K H wa (vI W) ∧ W.length = d.P ∧ (∀ p, 0 ≤ W.getD p 0) ∧
  ∀ (H' : Hp) (r s c : Addr), Same H H' → H' r = some (.tup [.int (fewest d W).1, .ref s, .ref c]) → H' s = some (.tup (vI (fewest d W).2.1)) → H' c = some (.tup (vI (fewest d W).2.2)) → Q (.ref r) H'
theorem df_fewest (C : Addr) (T : Ctx K C) (B : Bl mg) (D_settled : Df P w K mg base "settled" 7 ["day", "given", "wanted"] (spSettled K C)) (M_starts : Mf P w K mg base C "starts" 1 ["self"] (spStarts K C)) (F : Has K mg "fewest" s_fewest) : Df P w K mg base "fewest" 8 ["day", "wanted"] (spFewest K) := by
  refine df_of F sc_fewest (fun _ _ _ _ _ _ us hl => match us, hl with | [_, _], _ => rfl) (fun vs H Q E h => ?_) (fun f cdv A outer s H vs Q E hr h => ?_)
  · obtain ⟨a, aw, wa, ds, d, W, rfl, _⟩ := h
    rfl
  · obtain ⟨a, aw, wa, ds, d, W, rfl, hd, ok, sm, h2, hW, lW, wn, k⟩ := h
    have hday := hd.day
    have hP := sm.P
    refine ⟨(tSeq (tAsg (tCall (spSettled K C) [] E0 (tCons (tVar 0) (tCons (tOp (rRepT K) (tTup (tCons (tC (.int 0)) tNil)) (tOp (rIxT K) (tVar 0) (tC (.int 0)))) (tCons (tVar 1) tNil)))) (gName 2)) (tRet (tTup (tCons (tCB (rSum K) (tCons (tFld K (tVar 2) "more") tNil)) (tCons (tMeth C "starts" (spStarts K C) [] E0 (tVar 2) tNil) (tCons (tCB (rTupOf K) (tCons (tFld K (tVar 2) "carried") tNil)) tNil)))))),
      (pss_cons (ps_set (i := 2) sc_fewest.nd rfl (by first | exact Or.inl rfl | exact Or.inr rfl) (pe_df D_settled (hr.mono (by decide)) (by rfl) (pa_cons (pv 0) (pa_cons (pe_op op_repT (pe_tup (pa_cons pe_int pa_nil)) (pe_ix ix_tup (pv 0) pe_int (fun _ _ => rfl))) (pa_cons (pv 1) pa_nil)))))
      (pss_one (ps_ret (pe_tup (pa_cons (pe_callB (cr_sum rfl) (by rfl) B.sum bt_sum (pa_cons (pe_fld (pv 2) rfl) pa_nil)) (pa_cons (pe_mf0 T.cl M_starts (hr.mono (by decide)) (pv 2)) (pa_cons (pe_callTy call_tuple_of (by rfl) B.tuple bt_tuple (pa_cons (pe_fld (pv 2) rfl) pa_nil)) pa_nil))))))), ?_⟩
    walk_at "go"
    refine ⟨szl (by simp), fun z nz => ?_⟩
    have hdz := (Same.new (o := .tup [V.int 0]) nz).tup hday
    walk_at "go"
    refine ⟨z, (d.P : Int), [.int 0], rfl, rfl, SqT.of upd_same, by simp, by omega, by omega, by simp, fun g ng => ?_⟩
    have eP : ((d.P : Int)).toNat = d.P := by omega
    rw [eP, rep0]
    have e1 : Same H (upd (upd H z (.tup [V.int 0])) g (.tup (vI (List.replicate d.P 0)))) := (Same.new nz).trans (Same.new ng)
    have hg : SqT K (upd (upd H z (.tup [V.int 0])) g (.tup (vI (List.replicate d.P 0)))) g (vI (zeros d)) := SqT.of upd_same
    generalize upd (upd H z (.tup [V.int 0])) g (.tup (vI (List.replicate d.P 0))) = H1 at e1 hg ⊢
    have S1 : FlowS K H1 d a aw ds g wa (zeros d) W := ⟨hd.tx (.of e1), ok, sm, hg, e1.tup hW, zeros_length d, lW⟩
    walk_at "go"
    have zn : ∀ p, 0 ≤ (zeros d).getD p 0 := fun p => by rw [zeros_getD]; exact Int.le_refl _
    refine ⟨a, aw, g, wa, ds, d, zeros d, W, rfl, S1, zn, wn, fun H2 p dx c m e2 FO => ?_⟩
    obtain ⟨gd, _⟩ := settled_good ok (zeros_length d) lW zn wn
    have hf : fewest d W = ((settled d (zeros d) W).more.sum, addL (zeros d) (settled d (zeros d) W).more, (settled d (zeros d) W).car) := rfl
    rw [hf] at k
    generalize settled d (zeros d) W = x at FO gd k
    have hp2 := FO.ins
    have hm2 := FO.more
    have hc2 := FO.car
    have S2 := S1.tx (.of e2)
    walk_at "go"
    refine c_sum (SqL.of hm2) ?_
    walk_at "go"
    refine ⟨p, dx, a, aw, g, wa, c, m, ds, d, zeros d, W, x, rfl, S2, FO, gd.len, fun H3 r e3 nr hr3 => ?_⟩
    have hp3 := e3 _ _ hp2
    have hc3 := e3 _ _ hc2
    walk_at "go"
    intro t nt
    walk_at "go"
    refine ⟨szl (by simp), fun q nq => ?_⟩
    exact k _ q r t (e1.trans (e2.trans (e3.trans ((Same.new nt).trans (Same.new nq))))) upd_same (get_new (get_new hr3 nt) nq) (get_new upd_same nq)
end
section
variable {P : Program} {w : World} {K : PySem.W.Frag} {mg : Str → Option Value} {base : Heap}
def spAreFrom (K : PySem.W.Frag) : Sp := fun vs H Q _ => ∃ (a aw : Addr) (d : Day) (x : V) (o : Option (List V)) (hi : Int), vs = [.ref a, x, .int hi] ∧ SqT K H a [.int (d.P : Int), .int (d.T : Int), .ref aw] ∧ TV K H x o ∧
  ∀ H', Same H H' → Q (.bl (match o with | none => false | some ss => decide (ss.length = d.P) && ss.all (fun x => isFromV x 0 hi))) H'
theorem df_are_from (B : Bl mg) (D_is_from : Df P w K mg base "is_from" 1 ["thing", "low", "high"] (spIsFrom K)) (F : Has K mg "are_from" s_are_from) : Df P w K mg base "are_from" 2 ["day", "thing", "high"] (spAreFrom K) := by
  refine df_of F sc_are_from (fun _ _ _ _ _ _ us hl => match us, hl with | [_, _, _], _ => rfl) (fun vs H Q E h => ?_) (fun f cdv A outer s H vs Q E hr h => ?_)
  · obtain ⟨a, aw, d, x, o, hi, rfl, _⟩ := h
    rfl
  · obtain ⟨a, aw, d, x, o, hi, rfl, hday, hx, k⟩ := h
    refine ⟨(tRet (tAndV (tCB (rIsi K) (tCons (tVar 1) (tCons (tC (.ty "tuple")) tNil))) (tAndV (tOp rEq (tCB (rLenS K) (tCons (tVar 1) tNil)) (tOp (rIxT K) (tVar 0) (tC (.int 0)))) (tCB (rAll K) (tCons (tLc (iTup K (tVar 1)) (gName 3) tYes (tCall (spIsFrom K) [] E0 (tCons (tVar 3) (tCons (tC (.int 0)) (tCons (tVar 2) tNil)))) [3]) tNil))))),
      (pss_one (ps_ret (pe_and (pe_callB call_isi (by rfl) B.isinstance bt_isinstance (pa_cons (pv 1) (pa_cons (pe_bltn (v := .ty "tuple") (by rfl) B.tuple bt_tuple rfl) pa_nil))) (pe_and (pe_cmpR op_eq (pe_callB call_len_seq (by rfl) B.len bt_len (pa_cons (pv 1) pa_nil)) (pe_ix ix_tup (pv 0) pe_int (fun _ _ => rfl)) (nomark _)) (pe_one (pe_callB (cr_all rfl) (by rfl) B.all bt_all (pa_cons (pe_lc (own := [("one", 3)]) (g := (gName 3)) (tt := tYes) (te := (tCall (spIsFrom K) [] E0 (tCons (tVar 3) (tCons (tC (.int 0)) (tCons (tVar 2) tNil))))) rfl sc_are_from.nd (pi_tup (pv 1)) (blkOk_by (own := [("one", 3)]) (N := ["day", "thing", "high", "one"]) (sc := defScope s_are_from) (by decide +kernel)) (fun _ _ _ _ _ => (pg_name (i := 3) sc_are_from.nd rfl (by first | exact Or.inl rfl | exact Or.inr rfl))) (fun _ _ _ _ _ => pts_nil) (fun _ _ _ _ _ => (pe_df D_is_from (hr.mono (by decide)) (by rfl) (pa_cons (pv 3) (pa_cons pe_int (pa_cons (pv 2) pa_nil)))))) pa_nil))))))), ?_⟩
    walk_at "go"
    rcases hx with ⟨rfl, hn⟩ | ⟨t, ss, rfl, rfl, ht, hf, hl⟩
    · refine isi_ntup hn ?_
      walk_at "go"
      refine iteF ?_
      exact k _ (Same.refl _)
    · refine isi_tup ht ?_
      walk_at "go"
      refine iteT ?_
      walk_at "go"
      dsimp only at k
      by_cases hP : ss.length = d.P
      · rw [show decide ((ss.length : Int) = (d.P : Int)) = true from decide_eq_true (by omega)]
        rw [decide_eq_true hP] at k
        refine iteT ?_
        walk_at "go"
        refine ⟨t, rfl, ⟨ss, ht⟩, fun D nD => ?_⟩
        refine lc_it (walk_tup (xs := ss)) (fun j H2 => Same H H2 ∧ H2 D = some (.lst (((ss.take j).map fun x => isFromV x 0 hi).map V.bl))) ⟨Same.new nD, upd_same⟩ (fun j H2 _ h => h.1.tup ht) ?_ ?_
        · rintro j y H2 H3 hj ⟨e2, hD⟩ ⟨rfl, hy⟩
          walk_at "go"
          refine ⟨rfl, ?_⟩
          walk_at "go"
          refine iteT ?_
          walk_at "go"
          refine ⟨y, 0, hi, rfl, (hf y (List.mem_of_getElem? hy)).kn, ?_⟩
          refine ⟨_, hD, szl' (by simp; omega), e2.mut nD, ?_⟩
          rw [upd_same, take_succ_get hy]
          simp
        · rintro H2 ⟨e2, hD⟩
          rw [List.take_length] at hD
          walk_at "go"
          refine c_all (SqL.of hD) ?_
          have hall : ((ss.map fun x => isFromV x 0 hi).all id) = ss.all (fun x => isFromV x 0 hi) := by simp [List.all_map, Function.comp_def]
          rw [hall]
          exact k _ e2
      · rw [show decide ((ss.length : Int) = (d.P : Int)) = false from decide_eq_false (by omega)]
        rw [decide_eq_false hP] at k
        refine iteF ?_
        exact k _ (Same.refl _)
def spAreCarried (K : PySem.W.Frag) : Sp := fun vs H Q _ => ∃ (aw : Addr) (ds : List V) (d : Day) (x : V) (o : Option (List V)), vs = [.ref aw, x] ∧ SqT K H aw ds ∧ Wks K H ds d.ws ∧ d.ws.length ≤ 1000 ∧ TV K H x o ∧
  ∀ H', Same H H' → Q (.bl (match o with | none => false | some cs => cOk d cs)) H'
theorem carAll_list {ws : List Wk} {cs : List V} (hl : cs.length = ws.length) : ((List.zipWith (fun (w : Wk) c => isFromV c w.wi (w.r : Int)) ws cs).all id) = carAll ws cs := by
  induction ws generalizing cs with
  | nil => cases cs <;> simp [carAll]
  | cons w ws ih =>
    cases cs with
    | nil => simp at hl
    | cons c cs =>
      rw [List.zipWith_cons_cons, List.all_cons, ih (by simpa using hl)]
      rfl
theorem df_are_carried (B : Bl mg) (D_is_from : Df P w K mg base "is_from" 1 ["thing", "low", "high"] (spIsFrom K)) (F : Has K mg "are_carried" s_are_carried) : Df P w K mg base "are_carried" 2 ["walks", "thing"] (spAreCarried K) := by
  refine df_of F sc_are_carried (fun _ _ _ _ _ _ us hl => match us, hl with | [_, _], _ => rfl) (fun vs H Q E h => ?_) (fun f cdv A outer s H vs Q E hr h => ?_)
  · obtain ⟨aw, ds, d, x, o, rfl, _⟩ := h
    rfl
  · obtain ⟨aw, ds, d, x, o, rfl, hseq, hwk, hWl, hx, k⟩ := h
    have hwl := hwk.len
    refine ⟨(tSeq (tIfS (tOr (tNot (tB (tCB (rIsi K) (tCons (tVar 1) (tCons (tC (.ty "tuple")) tNil))))) (tTest (tOp rNe (tCB (rLenS K) (tCons (tVar 1) tNil)) (tCB (rLenS K) (tCons (tVar 0) tNil))))) (tRet (tC (.bl false))) tNext) (tRet (tCB (rAll K) (tCons (tLc (iZip2 K (tCons (tVar 0) (tCons (tVar 1) tNil))) (gTup K 2 (gCons (gName 2) (gCons (gName 3) gNil))) tYes (tCall (spIsFrom K) [] E0 (tCons (tVar 3) (tCons (tCB rInt1 (tCons (tOp (rIxT K) (tVar 2) (tC (.int 3))) tNil)) (tCons (tOp (rIxT K) (tVar 2) (tC (.int 4))) tNil)))) [2, 3]) tNil)))),
      (pss_cons (ps_if (PW.pt (pw_or (pt_not (pt_val (pe_callB call_isi (by rfl) B.isinstance bt_isinstance (pa_cons (pv 1) (pa_cons (pe_bltn (v := .ty "tuple") (by rfl) B.tuple bt_tuple rfl) pa_nil))))) (pw_or1 (pt_cmpR op_ne (pe_callB call_len_seq (by rfl) B.len bt_len (pa_cons (pv 1) pa_nil)) (pe_callB call_len_seq (by rfl) B.len bt_len (pa_cons (pv 0) pa_nil)) (nomark _))))) (pss_one (ps_ret pe_bl)) pss_nil)
      (pss_one (ps_ret (pe_callB (cr_all rfl) (by rfl) B.all bt_all (pa_cons (pe_lc (own := [("walk", 2), ("many", 3)]) (g := (gTup K 2 (gCons (gName 2) (gCons (gName 3) gNil)))) (tt := tYes) (te := (tCall (spIsFrom K) [] E0 (tCons (tVar 3) (tCons (tCB rInt1 (tCons (tOp (rIxT K) (tVar 2) (tC (.int 3))) tNil)) (tCons (tOp (rIxT K) (tVar 2) (tC (.int 4))) tNil))))) rfl sc_are_carried.nd (pi_zip2 (by rfl) B.zip (pa_cons (pv 0) (pa_cons (pv 1) pa_nil))) (blkOk_by (own := [("walk", 2), ("many", 3)]) (N := ["walks", "thing", "walk", "many"]) (sc := defScope s_are_carried) (by decide +kernel)) (fun _ _ _ _ _ => (pg_tup rfl (pgs_cons (pg_name (i := 2) sc_are_carried.nd rfl (by first | exact Or.inl rfl | exact Or.inr rfl)) (pgs_cons (pg_name (i := 3) sc_are_carried.nd rfl (by first | exact Or.inl rfl | exact Or.inr rfl)) pgs_nil)))) (fun _ _ _ _ _ => pts_nil) (fun _ _ _ _ _ => (pe_df D_is_from (hr.mono (by decide)) (by rfl) (pa_cons (pv 3) (pa_cons (pe_callTy call_int1 (by rfl) B.int bt_int (pa_cons (pe_ix ix_tup (pv 2) pe_int (fun _ _ => rfl)) pa_nil)) (pa_cons (pe_ix ix_tup (pv 2) pe_int (fun _ _ => rfl)) pa_nil)))))) pa_nil))))), ?_⟩
    walk_at "go"
    rcases hx with ⟨rfl, hn⟩ | ⟨t, cs, rfl, rfl, ht, hf, hl⟩
    · refine isi_ntup hn ?_
      walk_at "go"
      refine iteT ?_
      refine iteT ?_
      walk_at "go"
      exact k _ (Same.refl _)
    · refine isi_tup ht ?_
      walk_at "go"
      refine iteF ?_
      walk_at "go"
      dsimp only at k
      unfold cOk at k
      by_cases hP : cs.length = d.ws.length
      · rw [show (!decide ((cs.length : Int) = (ds.length : Int))) = false by simp; omega]
        rw [decide_eq_true hP] at k
        refine iteF ?_
        walk_at "go"
        refine ⟨true, true, aw, t, ds, cs, rfl, hseq, ht, fun D nD => ?_⟩
        refine lc_it (walk_zip2 (n := d.ws.length) hwl hP) (fun j H2 => Same H H2 ∧ H2 D = some (.lst (((List.zipWith (fun (w : Wk) c => isFromV c w.wi (w.r : Int)) d.ws cs).take j).map V.bl))) ⟨Same.new nD, upd_same⟩ (fun j H2 _ h => ⟨h.1.tup hseq, h.1.tup ht⟩) ?_ ?_
        · rintro j y H2 H3 hj ⟨e2, hD⟩ ⟨T', x1, y1, rfl, nT, rfl, hx1, hy1⟩
          obtain ⟨w, xw, hw, rfl, hwT⟩ := hwk.get hx1
          have hcc : cs[j]? = some y1 := hy1
          walk_at "go"
          refine ⟨rfl, ?_⟩
          walk_at "go"
          refine iteT ?_
          walk_at "go"
          refine ⟨y1, w.wi, (w.r : Int), rfl, (hf y1 (List.mem_of_getElem? hcc)).kn, ?_⟩
          refine ⟨_, get_new hD nT, szl' (by simp; omega), (e2.trans (Same.new nT)).mut nD, ?_⟩
          rw [upd_same, take_succ_get (show (List.zipWith (fun (w : Wk) c => isFromV c w.wi (w.r : Int)) d.ws cs)[j]? = some (isFromV y1 w.wi (w.r : Int)) by simp [List.getElem?_zipWith, hw, hcc])]
          simp
        · rintro H2 ⟨e2, hD⟩
          rw [List.take_of_length_le (by rw [List.length_zipWith]; omega)] at hD
          walk_at "go"
          refine c_all (SqL.of hD) ?_
          rw [carAll_list hP]
          exact k _ e2
      · rw [show (!decide ((cs.length : Int) = (ds.length : Int))) = true by simp; omega]
        rw [decide_eq_false hP] at k
        refine iteT ?_
        walk_at "go"
        exact k _ (Same.refl _)
def spVerdict (K : PySem.W.Frag) : Sp := fun vs H Q _ => ∃ (a aw g wa : Addr) (ds : List V) (d : Day) (G W : List Int), vs = [.ref a, .ref g, .ref wa] ∧ FlowS K H d a aw ds g wa G W ∧ (∀ p, 0 ≤ G.getD p 0) ∧ (∀ p, 0 ≤ W.getD p 0) ∧
  ((settled d G W).more.sum = 0 → ∀ (H' : Hp) (r c : Addr), Same H H' → H' r = some (.tup [.str "dry", .ref c]) → H' c = some (.tup (vI (settled d G W).car)) → Q (.ref r) H') ∧
  ((settled d G W).more.sum ≠ 0 → ∀ (H' : Hp) (r l : Addr), Same H H' → H' r = some (.tup [.str "wet", .ref l]) → H' l = some (.tup (vN (lineFl d G W (settled d G W)))) → Q (.ref r) H')
end
section
variable {P : Program} {w : World} {K : PySem.W.Frag} {mg : Str → Option Value} {base : Heap}
def spIsWalk (K : PySem.W.Frag) : Sp := fun vs H Q _ => ∃ (P T : Int) (x : V) (o : Option (List V)), vs = [.int P, .int T, x] ∧ TK K H x o ∧ Q (.bl (walkB P T o)) H
theorem five_of {ys : List V} (h : ys.length = 5) : ∃ a b c d e, ys = [a, b, c, d, e] := by
  match ys, h with
  | [a, b, c, d, e], _ => exact ⟨a, b, c, d, e, rfl⟩
theorem walkB_no {P T : Int} {ys : List V} (h : ys.length ≠ 5) : walkB P T (some ys) = false := by
  match ys, h with
  | [], _ => rfl
  | [_], _ => rfl
  | [_, _], _ => rfl
  | [_, _, _], _ => rfl
  | [_, _, _, _], _ => rfl
  | [_, _, _, _, _], h => exact absurd rfl h
  | _ :: _ :: _ :: _ :: _ :: _ :: _, _ => rfl
theorem df_is_walk (B : Bl mg) (hROOM : ∃ t, mg "ROOM" = some (.int 3 t)) (D_is_from : Df P w K mg base "is_from" 1 ["thing", "low", "high"] (spIsFrom K)) (F : Has K mg "is_walk" s_is_walk) : Df P w K mg base "is_walk" 2 ["places", "hours", "thing"] (spIsWalk K) := by
  obtain ⟨tr, hROOM⟩ := hROOM
  refine df_of F sc_is_walk (fun _ _ _ _ _ _ us hl => match us, hl with | [_, _, _], _ => rfl) (fun vs H Q E h => ?_) (fun f cdv A outer s H vs Q E hr h => ?_)
  · obtain ⟨P, T, x, o, rfl, _⟩ := h
    rfl
  · obtain ⟨P, T, x, o, rfl, hx, k⟩ := h
    refine ⟨(tSeq (tIfS (tOr (tNot (tB (tCB (rIsi K) (tCons (tVar 2) (tCons (tC (.ty "tuple")) tNil))))) (tTest (tOp rNe (tCB (rLenS K) (tCons (tVar 2) tNil)) (tC (.int 5))))) (tRet (tC (.bl false))) tNext) (tSeq (tAsg (tVar 2) (gTup K 5 (gCons (gName 3) (gCons (gName 4) (gCons (gName 5) (gCons (gName 6) (gCons (gName 7) gNil))))))) (tSeq (tIfS (tOr (tNot (tB (tCall (spIsFrom K) [] E0 (tCons (tVar 3) (tCons (tC (.int 0)) (tCons (tOp (rI0 fun i j => .int (i - j)) (tVar 1) (tC (.int 1))) tNil)))))) (tOr (tNot (tB (tCall (spIsFrom K) [] E0 (tCons (tVar 4) (tCons (tC (.int 0)) (tCons (tOp (rI0 fun i j => .int (i - j)) (tVar 0) (tC (.int 1))) tNil)))))) (tNot (tB (tCall (spIsFrom K) [] E0 (tCons (tVar 5) (tCons (tC (.int 0)) (tCons (tOp (rI0 fun i j => .int (i - j)) (tVar 0) (tC (.int 1))) tNil)))))))) (tRet (tC (.bl false))) tNext) (tRet (tAndV (tOp rNe (tVar 4) (tVar 5)) (tAndV (tCB (rIsi K) (tCons (tVar 6) (tCons (tC (.ty "bool")) tNil))) (tCall (spIsFrom K) [] E0 (tCons (tVar 7) (tCons (tC (.int 1)) (tCons (tC (.int 3)) tNil)))))))))),
      (pss_cons (ps_if (PW.pt (pw_or (pt_not (pt_val (pe_callB call_isi (by rfl) B.isinstance bt_isinstance (pa_cons (pv 2) (pa_cons (pe_bltn (v := .ty "tuple") (by rfl) B.tuple bt_tuple rfl) pa_nil))))) (pw_or1 (pt_cmpR op_ne (pe_callB call_len_seq (by rfl) B.len bt_len (pa_cons (pv 2) pa_nil)) pe_int (nomark _))))) (pss_one (ps_ret pe_bl)) pss_nil)
      (pss_cons (ps_asg (pv 2) (pg_tup rfl (pgs_cons (pg_name (i := 3) sc_is_walk.nd rfl (by first | exact Or.inl rfl | exact Or.inr rfl)) (pgs_cons (pg_name (i := 4) sc_is_walk.nd rfl (by first | exact Or.inl rfl | exact Or.inr rfl)) (pgs_cons (pg_name (i := 5) sc_is_walk.nd rfl (by first | exact Or.inl rfl | exact Or.inr rfl)) (pgs_cons (pg_name (i := 6) sc_is_walk.nd rfl (by first | exact Or.inl rfl | exact Or.inr rfl)) (pgs_cons (pg_name (i := 7) sc_is_walk.nd rfl (by first | exact Or.inl rfl | exact Or.inr rfl)) pgs_nil)))))))
      (pss_cons (ps_if (PW.pt (pw_or (pt_not (pt_val (pe_df D_is_from (hr.mono (by decide)) (by rfl) (pa_cons (pv 3) (pa_cons pe_int (pa_cons (pe_op op_sub (pv 1) pe_int) pa_nil)))))) (pw_or (pt_not (pt_val (pe_df D_is_from (hr.mono (by decide)) (by rfl) (pa_cons (pv 4) (pa_cons pe_int (pa_cons (pe_op op_sub (pv 0) pe_int) pa_nil)))))) (pw_or1 (pt_not (pt_val (pe_df D_is_from (hr.mono (by decide)) (by rfl) (pa_cons (pv 5) (pa_cons pe_int (pa_cons (pe_op op_sub (pv 0) pe_int) pa_nil)))))))))) (pss_one (ps_ret pe_bl)) pss_nil)
      (pss_one (ps_ret (pe_and (pe_cmpR op_ne (pv 4) (pv 5) (nomark _)) (pe_and (pe_callB call_isi (by rfl) B.isinstance bt_isinstance (pa_cons (pv 6) (pa_cons (pe_bltn (v := .ty "bool") (by rfl) B.bool bt_bool rfl) pa_nil))) (pe_one (pe_df D_is_from (hr.mono (by decide)) (by rfl) (pa_cons (pv 7) (pa_cons pe_int (pa_cons (pe_glob (v := (.int 3)) (by rfl) hROOM ⟨_, rfl⟩) pa_nil)))))))))))), ?_⟩
    walk_at "go"
    rcases hx with ⟨rfl, hn⟩ | ⟨t, ys, rfl, rfl, ht, hk, hl⟩
    · refine isi_ntup hn ?_
      walk_at "go"
      refine iteT ?_
      refine iteT ?_
      walk_at "go"
      exact k
    · refine isi_tup ht ?_
      walk_at "go"
      refine iteF ?_
      walk_at "go"
      by_cases h5 : ys.length = 5
      · obtain ⟨h, b, e, wt, r, rfl⟩ := five_of h5
        refine iteF ?_
        walk_at "go"
        refine ⟨h, 0, T - 1, rfl, hk h (by simp), ?_⟩
        refine c_bl ?_
        have hw : walkB P T (some [h, b, e, wt, r]) = (isFromV h 0 (T - 1) && (isFromV b 0 (P - 1) && (isFromV e 0 (P - 1) && (!decide (intV b = intV e) && (isBoolV wt && isFromV r 1 3))))) := rfl
        rw [hw] at k
        cases q1 : isFromV h 0 (T - 1) with
        | false =>
          rw [q1] at k
          refine iteT ?_
          refine iteT ?_
          walk_at "go"
          exact k
        | true =>
          rw [q1, Bool.true_and] at k
          refine iteF ?_
          walk_at "go"
          refine ⟨b, 0, P - 1, rfl, hk b (by simp), ?_⟩
          refine c_bl ?_
          cases q2 : isFromV b 0 (P - 1) with
          | false =>
            rw [q2] at k
            refine iteT ?_
            refine iteT ?_
            walk_at "go"
            exact k
          | true =>
            rw [q2, Bool.true_and] at k
            refine iteF ?_
            walk_at "go"
            refine ⟨e, 0, P - 1, rfl, hk e (by simp), ?_⟩
            refine c_bl ?_
            cases q3 : isFromV e 0 (P - 1) with
            | false =>
              rw [q3] at k
              refine iteT ?_
              walk_at "go"
              exact k
            | true =>
              rw [q3, Bool.true_and] at k
              refine iteF ?_
              obtain ⟨b', rfl, _, _⟩ := isFromV_ex q2
              obtain ⟨e', rfl, _, _⟩ := isFromV_ex q3
              walk_at "go"
              have hi : (!decide (intV (V.int b') = intV (V.int e'))) = !decide (b' = e') := rfl
              rw [hi] at k
              cases q4 : !decide (b' = e') with
              | false =>
                rw [q4] at k
                exact iteF k
              | true =>
                rw [q4, Bool.true_and] at k
                refine iteT ?_
                walk_at "go"
                refine isi_bool (hk wt (by simp)) ?_
                refine c_bl ?_
                cases q5 : isBoolV wt with
                | false =>
                  rw [q5] at k
                  exact iteF k
                | true =>
                  rw [q5, Bool.true_and] at k
                  refine iteT ?_
                  walk_at "go"
                  exact ⟨r, 1, 3, rfl, hk r (by simp), k⟩
      · rw [show (!decide ((ys.length : Int) = 5)) = true by simp; omega]
        rw [walkB_no h5] at k
        refine iteT ?_
        walk_at "go"
        exact k
def spIsDay (K : PySem.W.Frag) : Sp := fun vs H Q _ => ∃ (x : V) (o : DOf), vs = [x] ∧ DK K H x o ∧ ∀ H', Same H H' → Q (.bl (dayB o)) H'
theorem df_is_day {aP : Addr} (B : Bl mg) (hPLACES : mg "PLACES" = some (.ref aP)) (hPl : ∀ H, SqT K H aP [.int 2, .int 5]) (hHOURS : ∃ t, mg "HOURS" = some (.int 8 t)) (hWALKS : ∃ t, mg "WALKS" = some (.int 12 t)) (D_is_from : Df P w K mg base "is_from" 1 ["thing", "low", "high"] (spIsFrom K)) (D_is_walk : Df P w K mg base "is_walk" 2 ["places", "hours", "thing"] (spIsWalk K)) (F : Has K mg "is_day" s_is_day) : Df P w K mg base "is_day" 3 ["thing"] (spIsDay K) := by
  obtain ⟨th, hHOURS⟩ := hHOURS
  obtain ⟨tw, hWALKS⟩ := hWALKS
  refine df_of F sc_is_day (fun _ _ _ _ _ _ us hl => match us, hl with | [_], _ => rfl) (fun vs H Q E h => ?_) (fun f cdv A outer s H vs Q E hr h => ?_)
  · obtain ⟨x, o, rfl, _⟩ := h
    rfl
  · obtain ⟨x, o, rfl, hx, k⟩ := h
    refine ⟨(tSeq (tIfS (tOr (tNot (tB (tCB (rIsi K) (tCons (tVar 0) (tCons (tC (.ty "tuple")) tNil))))) (tTest (tOp rNe (tCB (rLenS K) (tCons (tVar 0) tNil)) (tC (.int 3))))) (tRet (tC (.bl false))) tNext) (tSeq (tAsg (tVar 0) (gTup K 3 (gCons (gName 1) (gCons (gName 2) (gCons (gName 3) gNil))))) (tSeq (tIfS (tOr (tNot (tB (tCall (spIsFrom K) [] E0 (tCons (tVar 1) (tCons (tOp (rIxT K) (tC (.ref aP)) (tC (.int 0))) (tCons (tOp (rIxT K) (tC (.ref aP)) (tC (.int 1))) tNil)))))) (tNot (tB (tCall (spIsFrom K) [] E0 (tCons (tVar 2) (tCons (tC (.int 1)) (tCons (tC (.int 8)) tNil))))))) (tRet (tC (.bl false))) tNext) (tSeq (tIfS (tOr (tNot (tB (tCB (rIsi K) (tCons (tVar 3) (tCons (tC (.ty "tuple")) tNil))))) (tOr (tTest (tOp (rI0 fun i j => .bl (decide (j < i))) (tCB (rLenS K) (tCons (tVar 3) tNil)) (tC (.int 12)))) (tNot (tB (tCB (rAll K) (tCons (tLc (iTup K (tVar 3)) (gName 4) tYes (tCall (spIsWalk K) [] E0 (tCons (tVar 1) (tCons (tVar 2) (tCons (tVar 4) tNil)))) [4]) tNil)))))) (tRet (tC (.bl false))) tNext) (tRet (tCB (rAll K) (tCons (tLc (iZip2 K (tCons (tVar 3) (tCons (tSl (rSlA K) (tVar 3) (tPart (tC (.int 1))) tNoPart) tNil))) (gTup K 2 (gCons (gName 4) (gCons (gName 5) gNil))) tYes (tOp (rLtD K) (tVar 4) (tVar 5)) [4, 5]) tNil))))))),
      (pss_cons (ps_if (PW.pt (pw_or (pt_not (pt_val (pe_callB call_isi (by rfl) B.isinstance bt_isinstance (pa_cons (pv 0) (pa_cons (pe_bltn (v := .ty "tuple") (by rfl) B.tuple bt_tuple rfl) pa_nil))))) (pw_or1 (pt_cmpR op_ne (pe_callB call_len_seq (by rfl) B.len bt_len (pa_cons (pv 0) pa_nil)) pe_int (nomark _))))) (pss_one (ps_ret pe_bl)) pss_nil)
      (pss_cons (ps_asg (pv 0) (pg_tup rfl (pgs_cons (pg_name (i := 1) sc_is_day.nd rfl (by first | exact Or.inl rfl | exact Or.inr rfl)) (pgs_cons (pg_name (i := 2) sc_is_day.nd rfl (by first | exact Or.inl rfl | exact Or.inr rfl)) (pgs_cons (pg_name (i := 3) sc_is_day.nd rfl (by first | exact Or.inl rfl | exact Or.inr rfl)) pgs_nil)))))
      (pss_cons (ps_if (PW.pt (pw_or (pt_not (pt_val (pe_df D_is_from (hr.mono (by decide)) (by rfl) (pa_cons (pv 1) (pa_cons (pe_ix ix_tup (pe_glob (v := (.ref aP)) (by rfl) hPLACES rfl) pe_int (fun _ _ => rfl)) (pa_cons (pe_ix ix_tup (pe_glob (v := (.ref aP)) (by rfl) hPLACES rfl) pe_int (fun _ _ => rfl)) pa_nil)))))) (pw_or1 (pt_not (pt_val (pe_df D_is_from (hr.mono (by decide)) (by rfl) (pa_cons (pv 2) (pa_cons pe_int (pa_cons (pe_glob (v := (.int 8)) (by rfl) hHOURS ⟨_, rfl⟩) pa_nil))))))))) (pss_one (ps_ret pe_bl)) pss_nil)
      (pss_cons (ps_if (PW.pt (pw_or (pt_not (pt_val (pe_callB call_isi (by rfl) B.isinstance bt_isinstance (pa_cons (pv 3) (pa_cons (pe_bltn (v := .ty "tuple") (by rfl) B.tuple bt_tuple rfl) pa_nil))))) (pw_or (pt_cmpR op_gt (pe_callB call_len_seq (by rfl) B.len bt_len (pa_cons (pv 3) pa_nil)) (pe_glob (v := (.int 12)) (by rfl) hWALKS ⟨_, rfl⟩) (nomark _)) (pw_or1 (pt_not (pt_val (pe_callB (cr_all rfl) (by rfl) B.all bt_all (pa_cons (pe_lc (own := [("one", 4)]) (g := (gName 4)) (tt := tYes) (te := (tCall (spIsWalk K) [] E0 (tCons (tVar 1) (tCons (tVar 2) (tCons (tVar 4) tNil))))) rfl sc_is_day.nd (pi_tup (pv 3)) (blkOk_by (own := [("one", 4)]) (N := ["thing", "places", "hours", "walks", "one", "other"]) (sc := defScope s_is_day) (by decide +kernel)) (fun _ _ _ _ _ => (pg_name (i := 4) sc_is_day.nd rfl (by first | exact Or.inl rfl | exact Or.inr rfl))) (fun _ _ _ _ _ => pts_nil) (fun _ _ _ _ _ => (pe_df D_is_walk (hr.mono (by decide)) (by rfl) (pa_cons (pv 1) (pa_cons (pv 2) (pa_cons (pv 4) pa_nil)))))) pa_nil)))))))) (pss_one (ps_ret pe_bl)) pss_nil)
      (pss_one (ps_ret (pe_callB (cr_all rfl) (by rfl) B.all bt_all (pa_cons (pe_lc (own := [("one", 4), ("other", 5)]) (g := (gTup K 2 (gCons (gName 4) (gCons (gName 5) gNil)))) (tt := tYes) (te := (tOp (rLtD K) (tVar 4) (tVar 5))) rfl sc_is_day.nd (pi_zip2 (by rfl) B.zip (pa_cons (pv 3) (pa_cons (pe_slice sl_tupA (pv 3) (po_some pe_int) po_none) pa_nil))) (blkOk_by (own := [("one", 4), ("other", 5)]) (N := ["thing", "places", "hours", "walks", "one", "other"]) (sc := defScope s_is_day) (by decide +kernel)) (fun _ _ _ _ _ => (pg_tup rfl (pgs_cons (pg_name (i := 4) sc_is_day.nd rfl (by first | exact Or.inl rfl | exact Or.inr rfl)) (pgs_cons (pg_name (i := 5) sc_is_day.nd rfl (by first | exact Or.inl rfl | exact Or.inr rfl)) pgs_nil)))) (fun _ _ _ _ _ => pts_nil) (fun _ _ _ _ _ => (pe_cmpR (op_ltD hr.units) (pv 4) (pv 5) (nomark _)))) pa_nil)))))))), ?_⟩
    walk_at "go"
    rcases hx with ⟨rfl, hn | ⟨t, ys, rfl, ht, h3⟩⟩ | ⟨t, p, h, z, ow, rfl, rfl, ht, kp, kh, hz⟩
    · refine isi_ntup hn ?_
      walk_at "go"
      refine iteT ?_
      refine iteT ?_
      walk_at "go"
      exact k _ (Same.refl _)
    · refine isi_tup ht ?_
      walk_at "go"
      refine iteF ?_
      walk_at "go"
      rw [show (!decide ((ys.length : Int) = 3)) = true by simp; omega]
      refine iteT ?_
      walk_at "go"
      exact k _ (Same.refl _)
    · refine isi_tup ht ?_
      walk_at "go"
      refine iteF ?_
      walk_at "go"
      refine iteF ?_
      walk_at "go"
      refine c_ixT (hPl _) at0 ?_
      walk_at "go"
      refine c_ixT (hPl _) at1 ?_
      walk_at "go"
      refine ⟨p, 2, 5, rfl, kp, ?_⟩
      refine c_bl ?_
      have hd : dayB (some (p, h, ow)) = (isFromV p 2 5 && (isFromV h 1 8 && match ow with | none => false | some os => (decide (os.length ≤ 12) && (os.all (walkB (intV p) (intV h)) && risingB (os.map wkOf))))) := by
        cases ow with
        | none => show false = _; simp
        | some os => rfl
      rw [hd] at k
      cases q1 : isFromV p 2 5 with
      | false =>
        rw [q1] at k
        refine iteT ?_
        refine iteT ?_
        walk_at "go"
        exact k _ (Same.refl _)
      | true =>
        rw [q1, Bool.true_and] at k
        refine iteF ?_
        walk_at "go"
        refine ⟨h, 1, 8, rfl, kh, ?_⟩
        refine c_bl ?_
        cases q2 : isFromV h 1 8 with
        | false =>
          rw [q2] at k
          refine iteT ?_
          walk_at "go"
          exact k _ (Same.refl _)
        | true =>
          rw [q2, Bool.true_and] at k
          refine iteF ?_
          obtain ⟨P', rfl, p1, p2⟩ := isFromV_ex q1
          obtain ⟨T', rfl, t1, t2⟩ := isFromV_ex q2
          have hip : intV (V.int P') = P' := rfl
          have hih : intV (V.int T') = T' := rfl
          rw [hip, hih] at k
          walk_at "go"
          rcases hz with ⟨rfl, hz⟩ | ⟨tz, ws, os, rfl, rfl, htz, hwl, hol, hws⟩
          · refine isi_ntup hz ?_
            walk_at "go"
            refine iteT ?_
            refine iteT ?_
            walk_at "go"
            exact k _ (Same.refl _)
          · refine isi_tup htz ?_
            walk_at "go"
            refine iteF ?_
            walk_at "go"
            dsimp only at k
            by_cases h12 : os.length ≤ 12
            · rw [show decide ((12 : Int) < (ws.length : Int)) = false from decide_eq_false (by omega)]
              rw [decide_eq_true h12, Bool.true_and] at k
              refine iteF ?_
              walk_at "go"
              refine ⟨tz, rfl, ⟨ws, htz⟩, fun D nD => ?_⟩
              refine lc_it (walk_tup (xs := ws)) (fun j H2 => Same H H2 ∧ H2 D = some (.lst (((os.take j).map (walkB P' T')).map V.bl))) ⟨Same.new nD, upd_same⟩ (fun j H2 _ h => h.1.tup htz) ?_ ?_
              · rintro j y H2 H3 hj ⟨e2, hD⟩ ⟨rfl, hy⟩
                have hol' : j < os.length := by omega
                have ho : os[j]? = some os[j] := List.getElem?_eq_getElem hol'
                walk_at "go"
                refine ⟨rfl, ?_⟩
                walk_at "go"
                refine iteT ?_
                walk_at "go"
                refine ⟨P', T', y, os[j], rfl, (hws j y _ hy ho).same e2, ?_⟩
                refine ⟨_, hD, szl' (by simp; omega), e2.mut nD, ?_⟩
                rw [upd_same, take_succ_get ho, List.map_append, List.map_append]
                rfl
              · rintro H2 ⟨e2, hD⟩
                rw [List.take_of_length_le (by omega)] at hD
                walk_at "go"
                refine c_all (SqL.of hD) ?_
                have hall : ((os.map (walkB P' T')).all id) = os.all (walkB P' T') := by simp [List.all_map, Function.comp_def]
                rw [hall]
                refine c_bl ?_
                cases q3 : os.all (walkB P' T') with
                | false =>
                  rw [q3] at k
                  refine iteT ?_
                  walk_at "go"
                  exact k _ e2
                | true =>
                  rw [q3, Bool.true_and] at k
                  refine iteF ?_
                  have htz2 := e2.tup htz
                  walk_at "go"
                  refine c_slQ htz2 fun p1' H3 e3 h1 => ?_
                  rw [cut1] at h1
                  have htz3 := e3.tup htz2
                  have e03 := e2.trans e3
                  refine ⟨true, true, tz, p1', ws, ws.drop 1, rfl, htz3, h1, fun D2 nD2 => ?_⟩
                  have hos : ∀ (i : Nat) (x : V), ws[i]? = some x → ∃ (a : Addr) (wk : Wk), x = .ref a ∧ (os.map wkOf)[i]? = some wk ∧ SqT K H3 a (wkV wk) := by
                    intro i x hx
                    have hi := (List.getElem?_eq_some_iff.mp hx).1
                    have ho : os[i]? = some (os[i]'(by omega)) := List.getElem?_eq_getElem _
                    have hb := List.all_eq_true.mp q3 _ (List.mem_of_getElem? ho)
                    obtain ⟨_, _, _, _, _, ho2⟩ := walkB_of hb
                    rcases hws i x _ hx ho with ⟨hn, _⟩ | ⟨t', ys, h1, h2, h3, _⟩
                    · rw [ho2] at hn; cases hn
                    · rw [ho2] at h1
                      cases h1
                      exact ⟨t', _, h2, by rw [List.getElem?_map, ho]; rfl, e03.tup h3⟩
                  refine lc_it (walk_zip2r (n := ws.length - 1) (by omega) (by rw [List.length_drop])) (fun j H4 => Same H3 H4 ∧ H4 D2 = some (.lst (((List.zipWith wkLt (os.map wkOf) ((os.map wkOf).drop 1)).take j).map V.bl))) ⟨Same.new nD2, upd_same⟩ (fun j H4 _ h => ⟨h.1.tup htz3, h.1.tup h1⟩) ?_ ?_
                  · rintro j y H4 H5 hj ⟨e4, hD4⟩ ⟨T1, x1, y1, rfl, nT, rfl, hx1, hy1⟩
                    dsimp only at hx1 hy1
                    rw [List.getElem?_drop] at hy1
                    obtain ⟨a1, w1, rfl, g1, s1⟩ := hos _ _ hx1
                    obtain ⟨a2, w2, rfl, g2, s2⟩ := hos _ _ hy1
                    have e5 := e4.trans (Same.new (o := .tup [V.ref a1, V.ref a2]) nT)
                    walk_at "go"
                    refine ⟨rfl, ?_⟩
                    walk_at "go"
                    refine iteT ?_
                    walk_at "go"
                    refine c_ltW (e5.tup s1) (e5.tup s2) ?_
                    refine ⟨_, get_new hD4 nT, szl' (by simp; omega), e5.mut nD2, ?_⟩
                    rw [upd_same, take_succ_get (show (List.zipWith wkLt (os.map wkOf) ((os.map wkOf).drop 1))[j]? = some (wkLt w1 w2) by rw [List.getElem?_zipWith, g1, List.getElem?_drop, g2])]
                    simp
                  · rintro H4 ⟨e4, hD4⟩
                    rw [List.take_of_length_le (by rw [List.length_zipWith, List.length_drop, List.length_map]; omega)] at hD4
                    walk_at "go"
                    refine c_all (SqL.of hD4) ?_
                    rw [rising_list]
                    exact k _ (e03.trans e4)
            · rw [show decide ((12 : Int) < (ws.length : Int)) = true from decide_eq_true (by omega)]
              rw [decide_eq_false h12] at k
              refine iteT ?_
              refine iteT ?_
              walk_at "go"
              exact k _ (Same.refl _)
def spAreNumbers (K : PySem.W.Frag) : Sp := fun vs H Q _ => ∃ (a aw : Addr) (d : Day) (x : V) (o : Option (List V)), vs = [.ref a, x] ∧ SqT K H a [.int (d.P : Int), .int (d.T : Int), .ref aw] ∧ TV K H x o ∧
  ∀ H', Same H H' → Q (.bl (match o with | none => false | some ss => decide (ss.length = d.P) && ss.all (fun x => isFromV x 0 20))) H'
theorem df_are_numbers (B : Bl mg) (hMOST : ∃ t, mg "MOST" = some (.int 20 t)) (D_are_from : Df P w K mg base "are_from" 2 ["day", "thing", "high"] (spAreFrom K)) (F : Has K mg "are_numbers" s_are_numbers) : Df P w K mg base "are_numbers" 3 ["day", "thing"] (spAreNumbers K) := by
  obtain ⟨tm, hMOST⟩ := hMOST
  refine df_of F sc_are_numbers (fun _ _ _ _ _ _ us hl => match us, hl with | [_, _], _ => rfl) (fun vs H Q E h => ?_) (fun f cdv A outer s H vs Q E hr h => ?_)
  · obtain ⟨a, aw, d, x, o, rfl, _⟩ := h
    rfl
  · obtain ⟨a, aw, d, x, o, rfl, hday, hx, k⟩ := h
    refine ⟨(tRet (tCall (spAreFrom K) [] E0 (tCons (tVar 0) (tCons (tVar 1) (tCons (tC (.int 20)) tNil))))),
      (pss_one (ps_ret (pe_df D_are_from (hr.mono (by decide)) (by rfl) (pa_cons (pv 0) (pa_cons (pv 1) (pa_cons (pe_glob (v := (.int 20)) (by rfl) hMOST ⟨_, rfl⟩) pa_nil)))))), ?_⟩
    walk_at "go"
    exact ⟨a, aw, d, x, o, 20, rfl, hday, hx, k⟩
end
section
variable {P : Program} {w : World} {K : PySem.W.Frag} {mg : Str → Option Value} {base : Heap}
def spTake : Sp := fun vs H Q _ => ∃ (r : Addr) (n : Nat), vs = [.ref r, .int (n : Int)] ∧ Bag H r ∧ 1 ≤ n ∧ n ≤ 1000000 ∧ ∀ (v : Nat) (H' : Hp), v < n → Ov r H H' → Bag H' r → Q (.int (v : Int)) H'
theorem modN (x : Int) {n : Nat} (h : 1 ≤ n) : ∃ v : Nat, v < n ∧ x % (n : Int) = (v : Int) := by
  refine ⟨(x % (n : Int)).toNat, ?_, ?_⟩
  · have h1 := Int.emod_lt_of_pos x (show (0 : Int) < n by omega)
    have h2 := Int.emod_nonneg x (show (n : Int) ≠ 0 by omega)
    omega
  · have h2 := Int.emod_nonneg x (show (n : Int) ≠ 0 by omega)
    omega
theorem df_take (B : Bl mg) (F : Has K mg "_law_take" s__law_take) : Df P w K mg base "_law_take" 1 ["bag", "count"] spTake := by
  refine df_of F sc__law_take (fun _ _ _ _ _ _ us hl => match us, hl with | [_, _], _ => rfl) (fun vs H Q E h => ?_) (fun f cdv A outer s H vs Q E hr h => ?_)
  · obtain ⟨r, n, rfl, _⟩ := h
    rfl
  · obtain ⟨r, n, rfl, ⟨b0, b1, hb, h0, h1, h2⟩, n1, n2, k⟩ := h
    have i0 : ixN [V.int b0, V.int b1].length 0 = some 0 := rfl
    have i1 : ixN [V.int b0, V.int b1].length 1 = some 1 := rfl
    refine ⟨(tSeq (tIfS (tTest (tOp (rI0 fun i j => .bl (decide (j < i))) (tOp (rIxL K) (tVar 0) (tC (.int 0))) (tC (.int 0)))) (tSeq (tAsg (tOp (rI (fun _ j => 0 < j) fun i j => .int (i % j)) (tOp (rIxL K) (tVar 0) (tC (.int 0))) (tVar 1)) (gName 2)) (tSeq (tAsg (tOp (rI CDiv fun i j => .int (i / j)) (tOp (rIxL K) (tVar 0) (tC (.int 0))) (tVar 1)) (gSub (tVar 0) (tC (.int 0)) rSetL)) (tRet (tVar 2)))) tNext) (tSeq (tAsg (tOp (rI (fun _ j => 0 < j) fun i j => .int (i % j)) (tOp (rI CMul fun i j => .int (i * j)) (tOp (rIxL K) (tVar 0) (tC (.int 1))) (tC (.int 48271))) (tC (.int 2147483647))) (gSub (tVar 0) (tC (.int 1)) rSetL)) (tRet (tOp (rI (fun _ j => 0 < j) fun i j => .int (i % j)) (tOp (rI CDiv fun i j => .int (i / j)) (tOp (rI (fun _ j => 0 < j) fun i j => .int (i % j)) (tOp (rI CMul fun i j => .int (i * j)) (tOp (rI CDiv fun i j => .int (i / j)) (tOp (rIxL K) (tVar 0) (tC (.int 1))) (tC (.int 13))) (tOp (rI0 fun i j => .int (i + j)) (tOp (rI (fun _ j => 0 < j) fun i j => .int (i % j)) (tOp (rIxL K) (tVar 0) (tC (.int 1))) (tC (.int 32749))) (tC (.int 17)))) (tC (.int 2147483629))) (tC (.int 32))) (tVar 1))))),
      (pss_cons (ps_if (pt_cmpR op_gt (pe_ix ix_list (pv 0) pe_int (fun _ _ => rfl)) pe_int (nomark _)) (pss_cons (ps_set (i := 2) sc__law_take.nd rfl (by first | exact Or.inl rfl | exact Or.inr rfl) (pe_op op_mod (pe_ix ix_list (pv 0) pe_int (fun _ _ => rfl)) (pv 1)))
      (pss_cons (ps_asg (pe_op op_fdiv (pe_ix ix_list (pv 0) pe_int (fun _ _ => rfl)) (pv 1)) (pg_sub (pv 0) pe_int set_list))
      (pss_one (ps_ret (pv 2))))) pss_nil)
      (pss_cons (ps_asg (pe_op op_mod (pe_op op_mul (pe_ix ix_list (pv 0) pe_int (fun _ _ => rfl)) pe_int) pe_int) (pg_sub (pv 0) pe_int set_list))
      (pss_one (ps_ret (pe_op op_mod (pe_op op_fdiv (pe_op op_mod (pe_op op_mul (pe_op op_fdiv (pe_ix ix_list (pv 0) pe_int (fun _ _ => rfl)) pe_int) (pe_op op_add (pe_op op_mod (pe_ix ix_list (pv 0) pe_int (fun _ _ => rfl)) pe_int) pe_int)) pe_int) pe_int) (pv 1)))))), ?_⟩
    walk_at "go"
    refine ite2 (fun hq => ?_) (fun hq => ?_)
    · walk_at "go"
      obtain ⟨v, hv, ev⟩ := modN b0 n1
      rw [ev]
      have hdiv : 0 ≤ b0 / (n : Int) := Int.ediv_nonneg h0 (by omega)
      exact k v _ hv Ov.upd ⟨_, _, upd_same, hdiv, h1, h2⟩
    · walk_at "go"
      have hm1 := Int.emod_nonneg (b1 * 48271) (show (2147483647 : Int) ≠ 0 by decide)
      have hm2 := Int.emod_lt_of_pos (b1 * 48271) (show (0 : Int) < 2147483647 by decide)
      have hb' : upd H r (.lst ([V.int b0, V.int b1].set 1 (V.int (b1 * 48271 % 2147483647)))) r = some (.lst [V.int b0, V.int (b1 * 48271 % 2147483647)]) := upd_same
      generalize b1 * 48271 % 2147483647 = c1 at hm1 hm2 hb' ⊢
      walk_at "go"
      obtain ⟨v, hv, ev⟩ := modN (c1 / 13 * (c1 % 32749 + 17) % 2147483629 / 32) n1
      rw [ev]
      exact k v _ hv Ov.upd ⟨b0, c1, hb', h0, hm1, by omega⟩
def spOf (K : PySem.W.Frag) : Sp := fun vs H Q _ => ∃ (r l : Addr) (b : Bool) (xs : List V), vs = [.ref r, .ref l] ∧ Bag H r ∧ SqB K b H l xs ∧ l ≠ r ∧ 1 ≤ xs.length ∧ xs.length ≤ 1000000 ∧ ∀ (i : Nat) (v : V) (H' : Hp), xs[i]? = some v → Ov r H H' → Bag H' r → Q v H'
theorem df_of' (B : Bl mg) (D_take : Df P w K mg base "_law_take" 1 ["bag", "count"] spTake) (F : Has K mg "_law_of" s__law_of) : Df P w K mg base "_law_of" 2 ["bag", "some"] (spOf K) := by
  refine df_of F sc__law_of (fun _ _ _ _ _ _ us hl => match us, hl with | [_, _], _ => rfl) (fun vs H Q E h => ?_) (fun f cdv A outer s H vs Q E hr h => ?_)
  · obtain ⟨r, l, b, xs, rfl, _⟩ := h
    rfl
  · obtain ⟨r, l, b, xs, rfl, hb, hl, nlr, l1, l2, k⟩ := h
    refine ⟨(tRet (tOp (rIx K) (tVar 1) (tCall spTake [] E0 (tCons (tVar 0) (tCons (tCB (rLenS K) (tCons (tVar 1) tNil)) tNil))))),
      (pss_one (ps_ret (pe_ix ix_seq (pv 1) (pe_df D_take (hr.mono (by decide)) (by rfl) (pa_cons (pv 0) (pa_cons (pe_callB call_len_seq (by rfl) B.len bt_len (pa_cons (pv 1) pa_nil)) pa_nil))) (fun _ _ => rfl)))), ?_⟩
    have hlen : SqL K H l xs ∨ SqT K H l xs := by cases b; exact .inl hl; exact .inr hl
    have fin : ∀ (v : Nat) (H' : Hp), v < xs.length → Ov r H H' → Bag H' r → rIx K (.ref l) (.int (v : Int)) H' Q := by
      intro v H' hv e hb'
      have hx : xs[v]? = some xs[v] := List.getElem?_eq_getElem hv
      have fin := k v _ H' hx e hb'
      cases b with
      | false => exact .inl ⟨l, xs, (v : Int), _, rfl, rfl, e.sqL nlr hl, atI_nat hx, fin⟩
      | true => exact .inr (.inl ⟨l, xs, (v : Int), _, rfl, rfl, (hb.tx e).tup hl, atI_nat hx, fin⟩)
    clear hl k
    with_reducible refine c_ret ?_
    with_reducible refine c_op ?_
    with_reducible refine c_var rfl ?_
    with_reducible refine c_call ?_
    with_reducible refine c_cons ?_
    with_reducible refine c_var rfl ?_
    with_reducible refine c_cons ?_
    with_reducible refine c_cb ?_
    with_reducible refine c_cons ?_
    with_reducible refine c_var rfl ?_
    with_reducible refine c_nil ?_
    refine ⟨l, xs, rfl, hlen, ?_⟩
    refine c_nil ?_
    exact ⟨r, xs.length, rfl, hb, l1, l2, fun v H' hv e hb' => fin v H' hv e hb'⟩
end
section
variable {P : Program} {w : World} {K : PySem.W.Frag} {mg : Str → Option Value} {base : Heap}
def spBag (K : PySem.W.Frag) : Sp := fun vs H Q _ => ∃ (a : Addr) (k : Nat) (ns : List Int), vs = [.ref a, .int (k : Int)] ∧ SqL K H a (vI ns) ∧ k ≤ 1000 ∧ ∀ (H' : Hp) (r : Addr), Same H H' → H r = none → Bag H' r → Q (.ref r) H'
theorem df_bag (B : Bl mg) (F : Has K mg "_law_bag" s__law_bag) : Df P w K mg base "_law_bag" 1 ["script", "k"] (spBag K) := by
  refine df_of F sc__law_bag (fun _ _ _ _ _ _ us hl => match us, hl with | [_, _], _ => rfl) (fun vs H Q E h => ?_) (fun f cdv A outer s H vs Q E hr h => ?_)
  · obtain ⟨a, k, ns, rfl, _⟩ := h
    rfl
  · obtain ⟨a, j, ns, rfl, ha, hj, k⟩ := h
    refine ⟨(tSeq (tAsg (tC (.int 0)) (gName 2)) (tSeq (tIfS (tTest (tOp (rI0 fun i j => .bl (decide (i < j))) (tVar 1) (tCB (rLenS K) (tCons (tVar 0) tNil)))) (tAsg (tOp (rI (fun _ j => 0 < j) fun i j => .int (i % j)) (tOp (rIxL K) (tVar 0) (tVar 1)) tSome) (gName 2)) tNext) (tSeq (tAsg (tOp (rI0 fun i j => .int (i + j)) (tC (.int 1)) (tOp (rI (fun _ j => 0 < j) fun i j => .int (i % j)) (tOp (rI0 fun i j => .int (i + j)) (tOp (rI0 fun i j => .int (i + j)) (tOp (rI0 fun i j => .int (i + j)) (tOp (rI CMul fun i j => .int (i * j)) (tOp (rI (fun _ j => 0 < j) fun i j => .int (i % j)) (tVar 2) (tC (.int 2147483629))) (tC (.int 16807))) (tOp (rI CMul fun i j => .int (i * j)) (tOp (rI CMul fun i j => .int (i * j)) (tC (.int 40009)) (tVar 1)) (tVar 1))) (tOp (rI CMul fun i j => .int (i * j)) (tC (.int 7919)) (tVar 1))) (tC (.int 1009))) (tC (.int 2147483645)))) (gName 3)) (tSeq (tIfS (tTest (tOp (rI0 fun i j => .bl (decide (i < j))) (tVar 2) tSome)) (tRet (tLst (tCons (tC (.int 0)) (tCons (tVar 3) tNil)))) tNext) (tRet (tLst (tCons (tVar 2) (tCons (tVar 3) tNil)))))))),
      (pss_cons (ps_set (i := 2) sc__law_bag.nd rfl (by first | exact Or.inl rfl | exact Or.inr rfl) pe_int)
      (pss_cons (ps_if (pt_cmpR op_lt (pv 1) (pe_callB call_len_seq (by rfl) B.len bt_len (pa_cons (pv 0) pa_nil)) (nomark _)) (pss_one (ps_set (i := 2) sc__law_bag.nd rfl (by first | exact Or.inl rfl | exact Or.inr rfl) (pe_op op_mod (pe_ix ix_list (pv 0) (pv 1) (fun _ _ => rfl)) (pe_some (pe_op op_pow pe_int pe_int) (i := 10) (j := 60) (by decide) ⟨by decide, by decide, by decide⟩)))) pss_nil)
      (pss_cons (ps_set (i := 3) sc__law_bag.nd rfl (by first | exact Or.inl rfl | exact Or.inr rfl) (pe_op op_add pe_int (pe_op op_mod (pe_op op_add (pe_op op_add (pe_op op_add (pe_op op_mul (pe_op op_mod (pv 2) pe_int) pe_int) (pe_op op_mul (pe_op op_mul pe_int (pv 1)) (pv 1))) (pe_op op_mul pe_int (pv 1))) pe_int) pe_int)))
      (pss_cons (ps_if (pt_cmpR op_lt (pv 2) (pe_some (pe_op op_pow pe_int pe_int) (i := 10) (j := 18) (by decide) ⟨by decide, by decide, by decide⟩) (nomark _)) (pss_one (ps_ret (pe_lst (pa_cons pe_int (pa_cons (pv 3) pa_nil))))) pss_nil)
      (pss_one (ps_ret (pe_lst (pa_cons (pv 2) (pa_cons (pv 3) pa_nil))))))))), ?_⟩
    with_reducible refine c_seq ?_
    walk_at "gn"
    with_reducible refine c_seqJ (fun σ' H' => ∃ (cell : Int), σ' = [some (.ref a), some (.int (j : Int)), some (.int cell), none] ∧ H' = H ∧ 0 ≤ cell) ?_ ?_
    · rintro σ1 H1 ⟨cell, rfl, rfl, h0⟩
      have q1 := Int.emod_nonneg cell (show (2147483629 : Int) ≠ 0 by decide)
      have q2 := Int.emod_lt_of_pos cell (show (0 : Int) < 2147483629 by decide)
      walk_at "go"
      intro n hn
      have m1 := Int.emod_nonneg (cell % 2147483629 * 16807 + 40009 * ↑j * ↑j + 7919 * ↑j + 1009) (show (2147483645 : Int) ≠ 0 by decide)
      have m2 := Int.emod_lt_of_pos (cell % 2147483629 * 16807 + 40009 * ↑j * ↑j + 7919 * ↑j + 1009) (show (0 : Int) < 2147483645 by decide)
      generalize (cell % 2147483629 * 16807 + 40009 * ↑j * ↑j + 7919 * ↑j + 1009) % 2147483645 = sd at m1 m2 ⊢
      walk_at "go"
      refine ite2 (fun hq => ?_) (fun hq => ?_)
      · walk_at "go"
        refine ⟨szl (by simp), fun r nr => ?_⟩
        exact k _ r (Same.new nr) nr ⟨0, _, upd_same, Int.le_refl _, by omega, by omega⟩
      · walk_at "go"
        refine ⟨szl (by simp), fun r nr => ?_⟩
        exact k _ r (Same.new nr) nr ⟨cell, _, upd_same, h0, by omega, by omega⟩
    · intro R hR
      walk_at "go"
      refine ite2 (fun hq => ?_) (fun hq => ?_)
      · have hjl : j < ns.length := by have := of_decide_eq_true hq; simp at this; omega
        have hg := vI_get hjl
        walk_at "go"
        intro n hn
        walk_at "go"
        exact hR _ _ ⟨_, rfl, rfl, Int.emod_nonneg _ (by omega)⟩
      · walk_at "go"
        exact hR _ _ ⟨0, rfl, rfl, Int.le_refl _⟩
end
section
variable {P : Program} {w : World} {K : PySem.W.Frag} {mg : Str → Option Value} {base : Heap}
def spDay (K : PySem.W.Frag) : Sp := fun vs H Q _ => ∃ (r : Addr) (many hours walks : Nat), vs = [.ref r, .int (many : Int), .int (hours : Int), .int (walks : Int)] ∧ Bag H r ∧ 2 ≤ many ∧ many ≤ 100 ∧ 1 ≤ hours ∧ hours ≤ 100 ∧ walks ≤ 60 ∧
  ∀ (H' : Hp) (ad aw : Addr) (ds : List V) (d : Day), Ov r H H' → Bag H' r → DayAt K H' ad aw ds d → DayD many hours walks d → Q (.ref ad) H'
theorem df_day (B : Bl mg) (D_take : Df P w K mg base "_law_take" 1 ["bag", "count"] spTake) (D_of : Df P w K mg base "_law_of" 2 ["bag", "some"] (spOf K)) (F : Has K mg "_law_day" s__law_day) : Df P w K mg base "_law_day" 3 ["bag", "many", "hours", "walks"] (spDay K) := by
  refine df_of F sc__law_day (fun _ _ _ _ _ _ us hl => match us, hl with | [_, _, _, _], _ => rfl) (fun vs H Q E h => ?_) (fun f cdv A outer s H vs Q E hr h => ?_)
  · obtain ⟨r, many, hours, walks, rfl, _⟩ := h
    rfl
  · obtain ⟨r, many, hours, walks, rfl, hb, hm1, hm2, hh1, hh2, hw2, k⟩ := h
    refine ⟨(tSeq (tPar 4 5 (tCons (tOp (rI0 fun i j => .int (i + j)) (tC (.int 2)) (tCall spTake [] E0 (tCons (tVar 0) (tCons (tOp (rI0 fun i j => .int (i - j)) (tVar 1) (tC (.int 1))) tNil)))) (tCons (tOp (rI0 fun i j => .int (i + j)) (tC (.int 1)) (tCall spTake [] E0 (tCons (tVar 0) (tCons (tVar 2) tNil)))) tNil))) (tSeq (tAsg (tDNewW P w) (gName 6)) (tSeq (tFor (iRng1 (tCons (tCall spTake [] E0 (tCons (tVar 0) (tCons (tOp (rI0 fun i j => .int (i + j)) (tVar 3) (tC (.int 1))) tNil))) tNil)) (gName 7) (tSeq (tAsg (tCall spTake [] E0 (tCons (tVar 0) (tCons (tVar 4) tNil))) (gName 8)) (tSeq (tAsg (tOp (rI (fun _ j => 0 < j) fun i j => .int (i % j)) (tOp (rI0 fun i j => .int (i + j)) (tOp (rI0 fun i j => .int (i + j)) (tVar 8) (tC (.int 1))) (tCall spTake [] E0 (tCons (tVar 0) (tCons (tOp (rI0 fun i j => .int (i - j)) (tVar 4) (tC (.int 1))) tNil)))) (tVar 4)) (gName 9)) (tSeq (tPar 10 11 (tCons (tOp (rI0 fun i j => .bl (decide (j < i))) (tCall spTake [] E0 (tCons (tVar 0) (tCons (tC (.int 3)) tNil))) (tC (.int 0))) (tCons (tOp (rI0 fun i j => .int (i + j)) (tC (.int 1)) (tCall (spOf K) [] E0 (tCons (tVar 0) (tCons (tLst (tCons (tC (.int 0)) (tCons (tC (.int 0)) (tCons (tC (.int 1)) (tCons (tC (.int 2)) tNil))))) tNil)))) tNil))) (sWPut K P w (tVar 6) (tTup (tCons (tCall spTake [] E0 (tCons (tVar 0) (tCons (tVar 5) tNil))) (tCons (tVar 8) (tCons (tVar 9) (tCons (tVar 10) (tCons (tVar 11) tNil)))))) (tC (.bl true))))))) (tRet (tTup (tCons (tVar 4) (tCons (tVar 5) (tCons (tCB (rTupOf K) (tCons (tCB (rSortedW K P w) (tCons (tVar 6) tNil)) tNil)) tNil)))))))),
      (pss_cons (ps_par (i := 4) (j := 5) (by rfl) sc__law_day.nd rfl rfl (by decide) rfl rfl (pa_cons (pe_op op_add pe_int (pe_df D_take (hr.mono (by decide)) (by rfl) (pa_cons (pv 0) (pa_cons (pe_op op_sub (pv 1) pe_int) pa_nil)))) (pa_cons (pe_op op_add pe_int (pe_df D_take (hr.mono (by decide)) (by rfl) (pa_cons (pv 0) (pa_cons (pv 2) pa_nil)))) pa_nil)) (by rfl))
      (pss_cons (ps_set (i := 6) sc__law_day.nd rfl (by first | exact Or.inl rfl | exact Or.inr rfl) pe_dnewW)
      (pss_cons (ps_for PassesOwn.never rfl (pi_range1 (by rfl) B.range (pa_cons (pe_df D_take (hr.mono (by decide)) (by rfl) (pa_cons (pv 0) (pa_cons (pe_op op_add (pv 3) pe_int) pa_nil))) pa_nil)) (pg_name (i := 7) sc__law_day.nd rfl (by first | exact Or.inl rfl | exact Or.inr rfl))
      (pss_cons (ps_set (i := 8) sc__law_day.nd rfl (by first | exact Or.inl rfl | exact Or.inr rfl) (pe_df D_take (hr.mono (by decide)) (by rfl) (pa_cons (pv 0) (pa_cons (pv 4) pa_nil))))
      (pss_cons (ps_set (i := 9) sc__law_day.nd rfl (by first | exact Or.inl rfl | exact Or.inr rfl) (pe_op op_mod (pe_op op_add (pe_op op_add (pv 8) pe_int) (pe_df D_take (hr.mono (by decide)) (by rfl) (pa_cons (pv 0) (pa_cons (pe_op op_sub (pv 4) pe_int) pa_nil)))) (pv 4)))
      (pss_cons (ps_par (i := 10) (j := 11) (by rfl) sc__law_day.nd rfl rfl (by decide) rfl rfl (pa_cons (pe_cmpR op_gt (pe_df D_take (hr.mono (by decide)) (by rfl) (pa_cons (pv 0) (pa_cons pe_int pa_nil))) pe_int (nomark _)) (pa_cons (pe_op op_add pe_int (pe_df D_of (hr.mono (by decide)) (by rfl) (pa_cons (pv 0) (pa_cons (pe_lst (pa_cons pe_int (pa_cons pe_int (pa_cons pe_int (pa_cons pe_int pa_nil))))) pa_nil)))) pa_nil)) (by rfl))
      (pss_one (ps_dputW (hu_of hr) (pv 6) (pe_tup (pa_cons (pe_df D_take (hr.mono (by decide)) (by rfl) (pa_cons (pv 0) (pa_cons (pv 5) pa_nil))) (pa_cons (pv 8) (pa_cons (pv 9) (pa_cons (pv 10) (pa_cons (pv 11) pa_nil)))))) pe_bl rfl))))))
      (pss_one (ps_ret (pe_tup (pa_cons (pv 4) (pa_cons (pv 5) (pa_cons (pe_callTy call_tuple_of (by rfl) B.tuple bt_tuple (pa_cons (pe_callB (cr_sortedW rfl) (by rfl) B.sorted bt_sorted (pa_cons (pv 6) pa_nil)) pa_nil)) pa_nil))))))))), ?_⟩
    walk_at "go"
    refine ⟨r, many - 1, by rw [show ((many : Int) - 1) = ((many - 1 : Nat) : Int) by omega]; rfl, hb, by omega, by omega, fun p0 H1 hp0 e1 hb1 => ?_⟩
    walk_at "go"
    refine ⟨r, hours, rfl, hb1, by omega, by omega, fun t0 H2 ht0 e2 hb2 => ?_⟩
    walk_at "go"
    intro fo nfo
    have nfr : fo ≠ r := hb2.ne nfo
    have e3 : Ov r H (upd H2 fo (DWO P w fo [])) := (e1.trans e2).trans (.new nfo)
    have hb3 : Bag (upd H2 fo (DWO P w fo [])) r := hb2.mut nfr.symm
    walk_at "go"
    refine ⟨r, walks + 1, by simp, hb3, by omega, by omega, fun n H4 hn e4 hb4 => ?_⟩
    walk_at "go"
    refine ⟨_, rfl, by omega, by omega, ?_⟩
    rw [Int.toNat_natCast]
    have hP : (2 + (p0 : Int)) = ((p0 + 2 : Nat) : Int) := by omega
    have hT : (1 + (t0 : Int)) = ((t0 + 1 : Nat) : Int) := by omega
    rw [hP, hT]
    have hPm : p0 + 2 ≤ many := by omega
    have hTm : t0 + 1 ≤ hours := by omega
    have hP2 : 2 ≤ p0 + 2 := by omega
    have hT2 : 1 ≤ t0 + 1 := by omega
    generalize p0 + 2 = P0 at hPm hP2 ⊢
    generalize t0 + 1 = T0 at hTm hT2 ⊢
    have hnf : H fo = none := hb2.free (e1.trans e2) nfo
    have hfo4 : H4 fo = some (DWO P w fo []) := e4 _ _ upd_same nfr
    refine for_it walk_rng (fun i σ' H' => ∃ v7 v8 v9 v10 v11 L, σ' = [some (.ref r), some (.int (many : Int)), some (.int (hours : Int)), some (.int (walks : Int)), some (.int (P0 : Int)), some (.int (T0 : Int)), some (.ref fo), v7, v8, v9, v10, v11] ∧ Ov r H H' ∧ Bag H' r ∧
      H' fo = some (DWO P w fo L) ∧ (∀ q ∈ L, SqT K H' q.2 (wkV q.1)) ∧ (∀ q ∈ L, WkB P0 T0 q.1) ∧ L.length ≤ i)
      ⟨_, _, _, _, _, [], rfl, e3.trans e4, hb4, hfo4, by simp, by simp, Nat.le_refl _⟩ (fun _ _ _ _ _ => trivial) ?_ ?_
    · rintro i y σ' H5 H6 hi ⟨v7, v8, v9, v10, v11, L, rfl, e5, hb5, hfo5, hk5, hW5, hl5⟩ ⟨rfl, rfl⟩
      walk_at "go"
      refine ⟨r, P0, rfl, hb5, by omega, by omega, fun b H7 hb' e7 hb7 => ?_⟩
      have t7 := hb5.tx e7
      walk_at "go"
      refine ⟨r, P0 - 1, by rw [show ((P0 : Int) - 1) = ((P0 - 1 : Nat) : Int) by omega]; rfl, hb7, by omega, by omega, fun c H8 hc' e8 hb8 => ?_⟩
      have t8 := t7.trans (hb7.tx e8)
      have em : ((b : Int) + 1 + (c : Int)) % (P0 : Int) = (((b + 1 + c) % P0 : Nat) : Int) := by
        rw [show ((b : Int) + 1 + (c : Int)) = ((b + 1 + c : Nat) : Int) by omega]
        exact (Int.natCast_emod _ _).symm
      obtain ⟨he1, he2⟩ := mod_other hb' hc'
      walk_at "go"
      rw [em]
      generalize (b + 1 + c) % P0 = en at he1 he2 ⊢
      refine ⟨r, 3, rfl, hb8, by omega, by omega, fun v H9 hv' e9 hb9 => ?_⟩
      have t9 := t8.trans (hb8.tx e9)
      walk_at "go"
      refine ⟨szl (by simp), fun l nl => ?_⟩
      have nlr : l ≠ r := hb9.ne nl
      walk_at "go"
      refine ⟨r, l, false, _, rfl, hb9.mut nlr.symm, SqL.of upd_same, nlr, by simp, by simp, fun j u H10 hu e10 hb10 => ?_⟩
      obtain ⟨z, hz, rfl⟩ : ∃ z : Nat, z ≤ 2 ∧ u = .int (z : Int) := by
        match j, hu with
        | 0, hu => cases hu; exact ⟨0, by omega, rfl⟩
        | 1, hu => cases hu; exact ⟨0, by omega, rfl⟩
        | 2, hu => cases hu; exact ⟨1, by omega, rfl⟩
        | 3, hu => cases hu; exact ⟨2, by omega, rfl⟩
        | n + 4, hu => simp at hu
      have t10 := t9.trans ((Tx.new nl).trans ((hb9.mut nlr.symm).tx e10))
      walk_at "go"
      refine ⟨r, T0, rfl, hb10, by omega, by omega, fun h H11 hh' e11 hb11 => ?_⟩
      have t11 := t10.trans (hb10.tx e11)
      walk_at "go"
      refine ⟨szl (by simp), fun t nt => ?_⟩
      have o9 : Ov r H6 H9 := e7.trans (e8.trans e9)
      have o11 : Ov r H6 H11 := o9.trans ((Ov.new nl).trans (e10.trans e11))
      have hfo11 := o11 _ _ hfo5 nfr
      have ntf : t ≠ fo := ne_had hfo11 nt
      have ntr : t ≠ r := hb11.ne nt
      refine ⟨fo, t, L, ⟨h, b, en, decide ((0 : Int) < (v : Int)), 1 + z⟩, rfl, rfl, rfl, get_new hfo11 nt, fun q hq => (t11.trans (.new nt)).tup (hk5 q hq), SqT.of upd_same, by omega, ?_⟩
      have tl : Tx (upd H11 t (.tup [V.int (h : Int), V.int (b : Int), V.int (en : Int), V.bl (decide ((0 : Int) < (v : Int))), V.int (1 + (z : Int))])) (upd (upd H11 t (.tup [V.int (h : Int), V.int (b : Int), V.int (en : Int), V.bl (decide ((0 : Int) < (v : Int))), V.int (1 + (z : Int))])) fo (DWO P w fo (putW L ⟨h, b, en, decide ((0 : Int) < (v : Int)), 1 + z⟩ t))) := Tx.mut (get_new hfo11 nt) rfl
      have wb : WkB P0 T0 ⟨h, b, en, decide ((0 : Int) < (v : Int)), 1 + z⟩ := ⟨hh', hb', he1, he2, by show 1 ≤ 1 + z; omega, by show 1 + z ≤ 3; omega⟩
      refine ⟨_, _, _, _, _, _, rfl, ((e5.trans o11).trans (.new nt)).mut hnf, (hb11.mut ntr.symm).mut nfr.symm, upd_same, fun q hq => ?_, fun q hq => ?_, ?_⟩
      · unfold putW at hq
        split at hq
        · exact tl.tup ((t11.trans (.new nt)).tup (hk5 q hq))
        · rcases List.mem_append.mp hq with hq | hq
          · exact tl.tup ((t11.trans (.new nt)).tup (hk5 q hq))
          · obtain rfl := List.mem_singleton.mp hq
            exact tl.tup (SqT.of upd_same)
      · unfold putW at hq
        split at hq
        · exact hW5 q hq
        · rcases List.mem_append.mp hq with hq | hq
          · exact hW5 q hq
          · obtain rfl := List.mem_singleton.mp hq
            exact wb
      · unfold putW
        split
        · omega
        · simp; omega
    · rintro σ' H5 ⟨v7, v8, v9, v10, v11, L, rfl, e5, hb5, hfo5, hk5, hW5, hl5⟩
      walk_at "go"
      refine ⟨fo, L, rfl, hfo5, hk5, by omega, fun q hq => (hW5 q hq).bd (by omega) (by omega), fun L' p pm nd srt np => ?_⟩
      walk_at "go"
      intro t nt
      walk_at "go"
      refine ⟨szl (by simp), fun ad nad => ?_⟩
      have s1 : Same H5 (upd (upd (upd H5 p (.lst (L'.map fun q => V.ref q.2))) t (.tup (L'.map fun q => V.ref q.2))) ad (.tup [V.int (P0 : Int), V.int (T0 : Int), V.ref t])) := (Same.new np).trans ((Same.new nt).trans (Same.new nad))
      have hm : ∀ q ∈ L', q ∈ L := fun q hq => pm.mem_iff.mp hq
      have hm2 : ∀ v ∈ L'.map (·.1), WkB P0 T0 v := fun v hv => by
        obtain ⟨q, hq, rfl⟩ := List.mem_map.mp hv
        exact hW5 q (hm q hq)
      refine k _ ad t (L'.map fun q => V.ref q.2) ⟨P0, T0, L'.map (·.1)⟩ (e5.trans (.of s1)) (hb5.same s1) ⟨SqT.of upd_same, SqT.of (get_new upd_same nad), wks_of fun q hq => s1.tup (hk5 q (hm q hq))⟩ ?_
      refine ⟨⟨fun v hv => (hm2 v hv).h, fun v hv => (hm2 v hv).b, fun v hv => (hm2 v hv).e, fun v hv => (hm2 v hv).r1⟩, hP2, hPm, hT2, hTm, ?_, fun v hv => (hm2 v hv).r3, fun v hv => (hm2 v hv).ne, pw_strict (by omega) (by omega) (fun q hq => hW5 q (hm q hq)) nd srt⟩
      show (L'.map (·.1)).length ≤ walks
      rw [List.length_map, pm.length_eq]
      omega
end
section
variable {P : Program} {w : World} {K : PySem.W.Frag} {mg : Str → Option Value} {base : Heap}
def spWanted (K : PySem.W.Frag) : Sp := fun vs H Q _ => ∃ (r ad aw : Addr) (most : Nat) (d : Day), vs = [.ref r, .ref ad, .int (most : Int)] ∧ Bag H r ∧ SqT K H ad [.int (d.P : Int), .int (d.T : Int), .ref aw] ∧ 2 ≤ d.P ∧ d.P ≤ 1000 ∧ most ≤ 1000 ∧
  ∀ (H' : Hp) (wa : Addr) (W : List Int), Ov r H H' → Bag H' r → SqT K H' wa (vI W) → W.length = d.P → (∀ p, 0 ≤ W.getD p 0) → (∀ p, W.getD p 0 ≤ (most : Int)) → Q (.ref wa) H'
theorem rep0' (n : Nat) : (List.replicate n [V.int 0]).flatten = vI (List.replicate n 0) := by
  induction n with
  | zero => rfl
  | succ n ih =>
    rw [List.replicate_succ, List.flatten_cons, ih]
    rfl
theorem df_wanted (B : Bl mg) (D_take : Df P w K mg base "_law_take" 1 ["bag", "count"] spTake) (F : Has K mg "_law_wanted" s__law_wanted) : Df P w K mg base "_law_wanted" 2 ["bag", "day", "most"] (spWanted K) := by
  refine df_of F sc__law_wanted (fun _ _ _ _ _ _ us hl => match us, hl with | [_, _, _], _ => rfl) (fun vs H Q E h => ?_) (fun f cdv A outer s H vs Q E hr h => ?_)
  · obtain ⟨r, ad, aw, most, d, rfl, _⟩ := h
    rfl
  · obtain ⟨r, ad, aw, most, d, rfl, hb, hd, h2, hP, hm, k⟩ := h
    refine ⟨(tSeq (tIfS (tTest (tOp rEq (tCall spTake [] E0 (tCons (tVar 0) (tCons (tC (.int 2)) tNil))) (tC (.int 0)))) (tRet (tOp (rRepT K) (tTup (tCons (tC (.int 0)) tNil)) (tOp (rIxT K) (tVar 1) (tC (.int 0))))) tNext) (tRet (tCB (rTupOf K) (tCons (tLc (iRng1 (tCons (tOp (rIxT K) (tVar 1) (tC (.int 0))) tNil)) (gName 3) tYes (tCall spTake [] E0 (tCons (tVar 0) (tCons (tOp (rI0 fun i j => .int (i + j)) (tVar 2) (tC (.int 1))) tNil))) [3]) tNil)))),
      (pss_cons (ps_if (pt_cmpR op_eq (pe_df D_take (hr.mono (by decide)) (by rfl) (pa_cons (pv 0) (pa_cons pe_int pa_nil))) pe_int (nomark _)) (pss_one (ps_ret (pe_op op_repT (pe_tup (pa_cons pe_int pa_nil)) (pe_ix ix_tup (pv 1) pe_int (fun _ _ => rfl))))) pss_nil)
      (pss_one (ps_ret (pe_callTy call_tuple_of (by rfl) B.tuple bt_tuple (pa_cons (pe_lc (own := [("place", 3)]) (g := (gName 3)) (tt := tYes) (te := (tCall spTake [] E0 (tCons (tVar 0) (tCons (tOp (rI0 fun i j => .int (i + j)) (tVar 2) (tC (.int 1))) tNil)))) rfl sc__law_wanted.nd (pi_range1 (by rfl) B.range (pa_cons (pe_ix ix_tup (pv 1) pe_int (fun _ _ => rfl)) pa_nil)) (blkOk_by (own := [("place", 3)]) (N := ["bag", "day", "most", "place"]) (sc := defScope s__law_wanted) (by decide +kernel)) (fun _ _ _ _ _ => (pg_name (i := 3) sc__law_wanted.nd rfl (by first | exact Or.inl rfl | exact Or.inr rfl))) (fun _ _ _ _ _ => pts_nil) (fun _ _ _ _ _ => (pe_df D_take (hr.mono (by decide)) (by rfl) (pa_cons (pv 0) (pa_cons (pe_op op_add (pv 2) pe_int) pa_nil))))) pa_nil))))), ?_⟩
    walk_at "go"
    refine ⟨r, 2, rfl, hb, by omega, by omega, fun v H1 hv e1 hb1 => ?_⟩
    have hd1 := (hb.tx e1).tup hd
    walk_at "go"
    refine ite2 (fun hq => ?_) (fun hq => ?_)
    · walk_at "go"
      refine ⟨szl (by simp), fun z nz => ?_⟩
      have hdz := (Same.new (o := .tup [V.int 0]) nz).tup hd1
      walk_at "go"
      refine ⟨z, (d.P : Int), [.int 0], rfl, rfl, SqT.of upd_same, by simp, by omega, by omega, by simp, fun g ng => ?_⟩
      have eP : ((d.P : Int)).toNat = d.P := by omega
      rw [eP, rep0']
      have s1 := (Same.new (o := .tup [V.int 0]) nz).trans (Same.new (o := .tup (vI (List.replicate d.P 0))) ng)
      exact k _ g (List.replicate d.P 0) (e1.trans (.of s1)) (hb1.same s1) (SqT.of upd_same) (by simp) (fun p => by rw [replicate_getD]; exact Int.le_refl _) (fun p => by rw [replicate_getD]; omega)
    · walk_at "go"
      refine ⟨_, rfl, by omega, by omega, ?_⟩
      rw [Int.toNat_natCast]
      intro D nD
      have nDr : D ≠ r := hb1.ne nD
      refine lc_it walk_rng (fun j H2 => ∃ W : List Int, Ov r H1 H2 ∧ Bag H2 r ∧ H2 D = some (.lst (vI W)) ∧ W.length = j ∧ (∀ x ∈ W, 0 ≤ x ∧ x ≤ (most : Int))) ⟨[], .new nD, hb1.mut nDr.symm, upd_same, rfl, by simp⟩ (fun _ _ _ _ => trivial) ?_ ?_
      · rintro j y H2 H3 hj ⟨W, e2, hb2, hD, hl, hw⟩ ⟨rfl, rfl⟩
        walk_at "go"
        refine ⟨rfl, ?_⟩
        walk_at "go"
        refine iteT ?_
        walk_at "go"
        refine ⟨r, most + 1, by simp, hb2, by omega, by omega, fun v H4 hv e4 hb4 => ?_⟩
        refine ⟨_, e4 _ _ hD nDr, szl' (by simp; omega), W ++ [(v : Int)], (e2.trans e4).mut nD, hb4.mut nDr.symm, ?_, by simp [hl], fun x hx => ?_⟩
        · rw [upd_same]; simp
        · rcases List.mem_append.mp hx with hx | hx
          · exact hw x hx
          · obtain rfl := List.mem_singleton.mp hx
            omega
      · rintro H2 ⟨W, e2, hb2, hD, hl, hw⟩
        walk_at "go"
        intro t nt
        have s1 := Same.new (o := .tup (vI W)) nt
        have hwg : ∀ p, 0 ≤ W.getD p 0 ∧ W.getD p 0 ≤ (most : Int) := fun p => by
          by_cases hp : p < W.length
          · have e : W.getD p 0 = W[p] := by simp [List.getD_eq_getElem?_getD, hp]
            rw [e]
            exact hw _ (List.getElem_mem hp)
          · rw [getD_big (by omega)]; omega
        walk_at "go"
        exact k _ t W ((e1.trans e2).trans (.of s1)) (hb2.same s1) (SqT.of upd_same) hl (fun p => (hwg p).1) (fun p => (hwg p).2)
theorem df_is_number (B : Bl mg) (F : Has K mg "_law_is_number" s__law_is_number) : Df P w K mg base "_law_is_number" 1 ["thing", "least", "most"] (spIsFrom K) := by
  refine df_of F sc__law_is_number (fun _ _ _ _ _ _ us hl => match us, hl with | [_, _, _], _ => rfl) (fun vs H Q E h => ?_) (fun f cdv A outer s H vs Q E hr h => ?_)
  · obtain ⟨x, lo, hi, rfl, _⟩ := h
    rfl
  · obtain ⟨x, lo, hi, rfl, hk, k⟩ := h
    refine ⟨(tRet (tAndV (tCB (rIsi K) (tCons (tVar 0) (tCons (tC (.ty "int")) tNil))) (tAndV (tNotV (tCB (rIsi K) (tCons (tVar 0) (tCons (tC (.ty "bool")) tNil)))) (tChain (rI0 fun i j => .bl (decide (i ≤ j))) (rI0 fun i j => .bl (decide (i ≤ j))) (tVar 1) (tVar 0) (tVar 2))))),
      (pss_one (ps_ret (pe_and (pe_callB call_isi (by rfl) B.isinstance bt_isinstance (pa_cons (pv 0) (pa_cons (pe_bltn (v := .ty "int") (by rfl) B.int bt_int rfl) pa_nil))) (pe_and (pe_not (pe_callB call_isi (by rfl) B.isinstance bt_isinstance (pa_cons (pv 0) (pa_cons (pe_bltn (v := .ty "bool") (by rfl) B.bool bt_bool rfl) pa_nil)))) (pe_one (pe_chain op_le op_le (pv 1) (pv 0) (pv 2))))))), ?_⟩
    walk_at "go"
    refine isi_int hk ?_
    walk_at "go"
    cases x with
    | int i =>
      refine iteT ?_
      walk_at "go"
      refine isi_bool hk ?_
      walk_at "go"
      refine iteT ?_
      walk_at "go"
      refine ite2 (fun h1 => ?_) (fun h1 => ?_)
      · walk_at "go"
        have e : decide (i ≤ hi) = isFromV (.int i) lo hi := by
          show _ = (decide (lo ≤ i) && decide (i ≤ hi))
          rw [h1]; rfl
        rw [e]; exact k
      · have e : false = isFromV (.int i) lo hi := by
          show _ = (decide (lo ≤ i) && decide (i ≤ hi))
          rw [Bool.eq_false_iff.mpr h1]; rfl
        rw [e]; exact k
    | bl b =>
      refine iteT ?_
      walk_at "go"
      refine isi_bool hk ?_
      walk_at "go"
      exact iteF k
    | non => exact iteF k
    | str z => exact iteF k
    | ref a => exact iteF k
    | byt _ => exact hk.elim
    | flt _ => exact hk.elim
    | ty _ => exact hk.elim
end
section
variable {P : Program} {w : World} {K : PySem.W.Frag} {mg : Str → Option Value} {base : Heap}
def spLawStands (K : PySem.W.Frag) : Sp := fun vs H Q _ => ∃ (a aw as ac : Addr) (ds : List V) (d : Day) (S cs : List Int), vs = [.ref a, .ref as, .ref ac] ∧ DayAt K H a aw ds d ∧ d.Ok ∧ d.Sm ∧ 1 ≤ d.P ∧
  SqT K H as (vI S) ∧ S.length = d.P ∧ SqT K H ac (vI cs) ∧ cs.length = d.ws.length ∧
  (lawOk d S cs d.T = true → ∀ (H' : Hp) (r : Addr) (rs : List V), Same H H' → H' r = some (.lst rs) → Refs true K H' rs ((standing d S cs).map vI) → Q (.ref r) H') ∧ (lawOk d S cs d.T = false → ∀ H', Same H H' → Q .non H')
theorem df_stands (B : Bl mg) (F : Has K mg "_law_stands" s__law_stands) : Df P w K mg base "_law_stands" 1 ["day", "starts", "carried"] (spLawStands K) := by
  refine df_of F sc__law_stands (fun _ _ _ _ _ _ us hl => match us, hl with | [_, _, _], _ => rfl) (fun vs H Q E h => ?_) (fun f cdv A outer s H vs Q E hr h => ?_)
  · obtain ⟨a, aw, as, ac, ds, d, S, cs, rfl, _⟩ := h
    rfl
  · obtain ⟨a, aw, as, ac, ds, d, S, cs, rfl, hd, ok, sm, hP1, hS, hSl, hc, hl, k1, k2⟩ := h
    have hday := hd.day
    have hP := sm.P
    have hT := sm.T
    refine ⟨(tSeq (tPar 3 4 (tCons (tLst (tCons (tCB (rTupOf K) (tCons (tVar 1) tNil)) tNil)) (tCons (tC (.bl false)) tNil))) (tSeq (tFor (iRng1 (tCons (tOp (rIxT K) (tVar 0) (tC (.int 1))) tNil)) (gName 5) (tSeq (tAsg (tCB (rListOf K) (tCons (tOp (rIxL K) (tVar 3) (tUn (rU fun i => .int (-i)) (tC (.int 1)))) tNil)) (gName 6)) (tSeq (tFor (iZip2 K (tCons (tOp (rIxT K) (tVar 0) (tC (.int 2))) (tCons (tVar 2) tNil))) (gTup K 2 (gCons (gName 7) (gCons (gName 8) gNil))) (tIfS (tTest (tOp rEq (tOp (rIxT K) (tVar 7) (tC (.int 0))) (tVar 5))) (tAsg (tOp (rI0 fun i j => .int (i - j)) (tOp (rIxL K) (tVar 6) (tOp (rIxT K) (tVar 7) (tC (.int 1)))) (tVar 8)) (gSub (tVar 6) (tOp (rIxT K) (tVar 7) (tC (.int 1))) rSetL)) tNext)) (tSeq (tAsg (tOrV (tVar 4) (tOp (rI0 fun i j => .bl (decide (i < j))) (tCB (rMin K) (tCons (tVar 6) tNil)) (tC (.int 0)))) (gName 4)) (tSeq (tFor (iZip2 K (tCons (tOp (rIxT K) (tVar 0) (tC (.int 2))) (tCons (tVar 2) tNil))) (gTup K 2 (gCons (gName 7) (gCons (gName 8) gNil))) (tIfS (tTest (tOp rEq (tOp (rIxT K) (tVar 7) (tC (.int 0))) (tVar 5))) (tAsg (tOp (rI0 fun i j => .int (i + j)) (tOp (rIxL K) (tVar 6) (tOp (rIxT K) (tVar 7) (tC (.int 2)))) (tVar 8)) (gSub (tVar 6) (tOp (rIxT K) (tVar 7) (tC (.int 2))) rSetL)) tNext)) (tDrop (tBM K "list" rAppend (tVar 3) (tCons (tCB (rTupOf K) (tCons (tVar 6) tNil)) tNil)))))))) (tRet (tIf (tB (tVar 4)) (tC .non) (tVar 3))))),
      (pss_cons (ps_par (i := 3) (j := 4) (by rfl) sc__law_stands.nd rfl rfl (by decide) rfl rfl (pa_cons (pe_lst (pa_cons (pe_callTy call_tuple_of (by rfl) B.tuple bt_tuple (pa_cons (pv 1) pa_nil)) pa_nil)) (pa_cons pe_bl pa_nil)) (by rfl))
      (pss_cons (ps_for PassesOwn.never rfl (pi_range1 (by rfl) B.range (pa_cons (pe_ix ix_tup (pv 0) pe_int (fun _ _ => rfl)) pa_nil)) (pg_name (i := 5) sc__law_stands.nd rfl (by first | exact Or.inl rfl | exact Or.inr rfl))
      (pss_cons (ps_set (i := 6) sc__law_stands.nd rfl (by first | exact Or.inl rfl | exact Or.inr rfl) (pe_callTy call_list_of (by rfl) B.list bt_list (pa_cons (pe_ix ix_list (pv 3) (pe_un un_neg pe_int) (fun _ _ => rfl)) pa_nil)))
      (pss_cons (ps_for PassesOwn.never rfl (pi_zip2 (by rfl) B.zip (pa_cons (pe_ix ix_tup (pv 0) pe_int (fun _ _ => rfl)) (pa_cons (pv 2) pa_nil))) (pg_tup rfl (pgs_cons (pg_name (i := 7) sc__law_stands.nd rfl (by first | exact Or.inl rfl | exact Or.inr rfl)) (pgs_cons (pg_name (i := 8) sc__law_stands.nd rfl (by first | exact Or.inl rfl | exact Or.inr rfl)) pgs_nil)))
      (pss_one (ps_if (pt_cmpR op_eq (pe_ix ix_tup (pv 7) pe_int (fun _ _ => rfl)) (pv 5) (nomark _)) (pss_one (ps_asg (pe_op op_sub (pe_ix ix_list (pv 6) (pe_ix ix_tup (pv 7) pe_int (fun _ _ => rfl)) (fun _ _ => rfl)) (pv 8)) (pg_sub (pv 6) (pe_ix ix_tup (pv 7) pe_int (fun _ _ => rfl)) set_list))) pss_nil)))
      (pss_cons (ps_set (i := 4) sc__law_stands.nd rfl (by first | exact Or.inl rfl | exact Or.inr rfl) (pe_or (pv 4) (pe_one (pe_cmpR op_lt (pe_callB (cr_min rfl) (by rfl) B.min bt_min (pa_cons (pv 6) pa_nil)) pe_int (nomark _)))))
      (pss_cons (ps_for PassesOwn.never rfl (pi_zip2 (by rfl) B.zip (pa_cons (pe_ix ix_tup (pv 0) pe_int (fun _ _ => rfl)) (pa_cons (pv 2) pa_nil))) (pg_tup rfl (pgs_cons (pg_name (i := 7) sc__law_stands.nd rfl (by first | exact Or.inl rfl | exact Or.inr rfl)) (pgs_cons (pg_name (i := 8) sc__law_stands.nd rfl (by first | exact Or.inl rfl | exact Or.inr rfl)) pgs_nil)))
      (pss_one (ps_if (pt_cmpR op_eq (pe_ix ix_tup (pv 7) pe_int (fun _ _ => rfl)) (pv 5) (nomark _)) (pss_one (ps_asg (pe_op op_add (pe_ix ix_list (pv 6) (pe_ix ix_tup (pv 7) pe_int (fun _ _ => rfl)) (fun _ _ => rfl)) (pv 8)) (pg_sub (pv 6) (pe_ix ix_tup (pv 7) pe_int (fun _ _ => rfl)) set_list))) pss_nil)))
      (pss_one (ps_expr (pe_bm PySem.F.plainAttrs_list PySem.F.slot_list_append PySem.F.type_list_append mt_append (pv 3) (pa_cons (pe_callTy call_tuple_of (by rfl) B.tuple bt_tuple (pa_cons (pv 6) pa_nil)) pa_nil)))))))))
      (pss_one (ps_ret (pe_ifExp (pt_val (pv 4)) pe_non (pv 3)))))), ?_⟩
    walk_at "go"
    refine ⟨szl (by simp), fun r nr => ?_⟩
    walk_at "go"
    refine ⟨_, rfl, by omega, by omega, ?_⟩
    rw [Int.toNat_natCast]
    have rsp := rowAt_spec ok S cs hl hSl
    refine for_it walk_rng (fun i σ' H' => ∃ v5 v6 v7 v8 rs, σ' = [some (.ref a), some (.ref as), some (.ref ac), some (.ref r), some (.bl (!lawOk d S cs i)), v5, v6, v7, v8] ∧ Same H H' ∧ H' r = some (.lst rs) ∧
      Refs true K H' rs (((List.range (i + 1)).map (rowAt d S cs)).map vI)) ⟨_, _, _, _, _, rfl, Same.new nr, upd_same, ?_⟩ (fun _ _ _ _ _ => trivial) ?_ ?_
    · exact Refs.nil.snoc (vss := []) (show SqT K _ _ _ from (Same.new nr).tup hS)
    · rintro i x σ' H1 H2 hi ⟨v5, v6, v7, v8, rs, rfl, e, hr', hrs⟩ ⟨rfl, rfl⟩
      have hrl : rs.length = i + 1 := by rw [hrs.len]; simp
      obtain ⟨x, hx, hxs⟩ := hrs.at_ i (vI (rowAt d S cs i)) (by simp [List.getElem?_range])
      have hday2 := e.tup hday
      have hxs2 : SqT K H2 x (vI (rowAt d S cs i)) := hxs
      walk_at "go"
      refine c_ixL (SqL.of hr') (atLast (by rw [hrl]; exact hx)) ?_
      walk_at "go"
      intro l nl
      have nl0 : H l = none := none_back e nl
      have nlr : r ≠ l := (ne_had hr' nl).symm
      walk_at "gn"
      with_reducible refine c_seqJ (fun σ' H' => ∃ v7 v8, σ' = [some (.ref a), some (.ref as), some (.ref ac), some (.ref r), some (.bl (!lawOk d S cs i)), some (.int (i : Int)), some (.ref l), v7, v8] ∧ Same H2 H' ∧ H' l = some (.lst (vI (leftRow d S cs i)))) ?_ ?_
      · rintro σ3 H3 ⟨w7, w8, rfl, e3, hl3⟩
        have hll := leftRow_length ok S cs hl hSl i
        walk_at "gn"
        with_reducible refine c_seqJ (fun σ' H' => σ' = [some (.ref a), some (.ref as), some (.ref ac), some (.ref r), some (.bl (!lawOk d S cs (i + 1))), some (.int (i : Int)), some (.ref l), w7, w8] ∧ H' = H3) ?_ ?_
        · rintro σ4 H4 ⟨rfl, rfl⟩
          have e04 := e.trans e3
          have hday4 := e04.tup hday
          with_reducible refine c_seqJ (fun σ' H' => ∃ v7 v8, σ' = [some (.ref a), some (.ref as), some (.ref ac), some (.ref r), some (.bl (!lawOk d S cs (i + 1))), some (.int (i : Int)), some (.ref l), v7, v8] ∧ Same H2 H' ∧ H' l = some (.lst (vI (rowAt d S cs (i + 1))))) ?_ ?_
          · rintro σ5 H5 ⟨w7', w8', rfl, e5, hl5⟩
            have hr5 := e5 _ _ hr'
            walk_at "go"
            intro t nt
            walk_at "go"
            refine c_app (get_new hr5 nt) (szl' (by rw [hrl]; omega)) ?_
            refine ⟨_, _, _, _, _, rfl, Same.mut (e.trans (e5.trans (Same.new nt))) nr, upd_same, ?_⟩
            rw [range_succ_map _ (i + 1), List.map_append]
            exact (hrs.same e5).app hr5 nt
          · intro R hR
            walk_at "go"
            refine ⟨true, true, aw, ac, ds, vI cs, rfl, e04.tup hd.seq, e04.tup hc, ?_⟩
            refine for_it (walk_zip2 (n := d.ws.length) hd.wks.len (by simp [hl])) (fun j σ' H' => ∃ v7 v8, σ' = [some (.ref a), some (.ref as), some (.ref ac), some (.ref r), some (.bl (!lawOk d S cs (i + 1))), some (.int (i : Int)), some (.ref l), v7, v8] ∧ Same H2 H' ∧
              H' l = some (.lst (vI (((d.ws.zip cs).take j).foldl (addStep i) (leftRow d S cs i))))) ⟨_, _, rfl, e3, hl3⟩ (fun j σ' H' _ ⟨_, _, _, e', _⟩ => ⟨(e.trans e').tup hd.seq, (e.trans e').tup hc⟩) ?_ ?_
            · rintro j y σ' H' H5 hj ⟨v7, v8, rfl, e', hl'⟩ ⟨T', x1, y1, rfl, nT, rfl, hx1, hy1⟩
              obtain ⟨w, xw, hw, rfl, hwT⟩ := hd.wks.get hx1
              obtain ⟨cc, hcs, rfl⟩ := vI_inv hy1
              obtain ⟨l1, _⟩ := add_fold i (d.ws.take j) (cs.take j) (leftRow d S cs i) (fun w hw => by rw [hll]; exact ok.e w (List.mem_of_mem_take hw)) (by simp; omega)
              have et : (d.ws.take j).zip (cs.take j) = (d.ws.zip cs).take j := by simp [List.zip, List.take_zipWith]
              rw [et, hll] at l1
              rw [foldl_take _ _ (zip_get hw hcs)]
              generalize ((d.ws.zip cs).take j).foldl (addStep i) (leftRow d S cs i) = o at hl' l1 ⊢
              have b1 : w.e < o.length := by rw [l1]; exact ok.e w (List.mem_of_getElem? hw)
              have g1 := vI_get b1
              have j1 : ixN (vI o).length (w.e : Int) = some w.e := ixN_nat (by simpa using b1)
              have eH := e.trans e'
              walk_at "go"
              refine ite2 (fun h => ?_) (fun h => ?_)
              · have hh : w.h = i := by have := of_decide_eq_true h; omega
                walk_at "go"
                refine ⟨_, _, rfl, Same.mut (e'.trans (Same.new nT)) nl, ?_⟩
                unfold addStep
                rw [if_pos hh, upd_same, vI_set]
                rfl
              · have hh : ¬ w.h = i := fun z => h (decide_eq_true (by omega))
                unfold addStep
                rw [if_neg hh]
                walk_at "go"
                exact ⟨_, _, rfl, e'.trans (Same.new nT), get_new hl' nT⟩
            · rintro σ' H' ⟨v7, v8, rfl, e', hl'⟩
              rw [List.take_of_length_le (by simp [List.length_zip]; omega), addRow_eq ok S cs hl hSl] at hl'
              exact hR _ _ ⟨_, _, rfl, e', hl'⟩
        · intro R hR
          rw [lawOk_succ] at hR
          walk_at "go"
          cases hk : lawOk d S cs i with
          | false =>
            rw [hk] at hR
            refine iteT ?_
            walk_at "go"
            exact hR _ _ ⟨rfl, rfl⟩
          | true =>
            rw [hk] at hR
            refine iteF ?_
            walk_at "go"
            refine c_minL (SqL.of hl3) (by rw [hll]; omega) fun m hm hmin => ?_
            walk_at "go"
            rw [nnRow_min hm hmin]
            exact hR _ _ ⟨rfl, rfl⟩
      · intro R hR
        walk_at "go"
        refine ⟨true, true, aw, ac, ds, vI cs, rfl, (show SqT K _ _ _ from ((Same.new nl).tup (e.tup hd.seq))), (show SqT K _ _ _ from ((Same.new nl).tup (e.tup hc))), ?_⟩
        refine for_it (walk_zip2 (n := d.ws.length) hd.wks.len (by simp [hl])) (fun j σ' H' => ∃ v7 v8, σ' = [some (.ref a), some (.ref as), some (.ref ac), some (.ref r), some (.bl (!lawOk d S cs i)), some (.int (i : Int)), some (.ref l), v7, v8] ∧ Same H2 H' ∧
          H' l = some (.lst (vI (((d.ws.zip cs).take j).foldl (leftStep i) (rowAt d S cs i))))) ⟨_, _, rfl, Same.new nl, upd_same⟩ (fun j σ' H' _ ⟨_, _, _, e', _⟩ => ⟨(e.trans e').tup hd.seq, (e.trans e').tup hc⟩) ?_ ?_
        · rintro j y σ' H' H5 hj ⟨v7, v8, rfl, e', hl'⟩ ⟨T', x1, y1, rfl, nT, rfl, hx1, hy1⟩
          obtain ⟨w, xw, hw, rfl, hwT⟩ := hd.wks.get hx1
          obtain ⟨cc, hcs, rfl⟩ := vI_inv hy1
          obtain ⟨l1, _⟩ := left_fold i (d.ws.take j) (cs.take j) (rowAt d S cs i) (fun w hw => by rw [(rsp i).1]; exact ok.b w (List.mem_of_mem_take hw)) (by simp; omega)
          have et : (d.ws.take j).zip (cs.take j) = (d.ws.zip cs).take j := by simp [List.zip, List.take_zipWith]
          rw [et, (rsp i).1] at l1
          rw [foldl_take _ _ (zip_get hw hcs)]
          generalize ((d.ws.zip cs).take j).foldl (leftStep i) (rowAt d S cs i) = o at hl' l1 ⊢
          have b1 : w.b < o.length := by rw [l1]; exact ok.b w (List.mem_of_getElem? hw)
          have g1 := vI_get b1
          have j1 : ixN (vI o).length (w.b : Int) = some w.b := ixN_nat (by simpa using b1)
          have eH := e.trans e'
          walk_at "go"
          refine ite2 (fun h => ?_) (fun h => ?_)
          · have hh : w.h = i := by have := of_decide_eq_true h; omega
            walk_at "go"
            refine ⟨_, _, rfl, Same.mut (e'.trans (Same.new nT)) nl, ?_⟩
            unfold leftStep
            rw [if_pos hh, upd_same, vI_set]
            rfl
          · have hh : ¬ w.h = i := fun z => h (decide_eq_true (by omega))
            unfold leftStep
            rw [if_neg hh]
            walk_at "go"
            exact ⟨_, _, rfl, e'.trans (Same.new nT), get_new hl' nT⟩
        · rintro σ' H' ⟨v7, v8, rfl, e', hl'⟩
          rw [List.take_of_length_le (by simp [List.length_zip]; omega)] at hl'
          exact hR _ _ ⟨_, _, rfl, e', hl'⟩
    · rintro σ' H1 ⟨v5, v6, v7, v8, rs, rfl, e, hr', hrs⟩
      walk_at "go"
      cases hk : lawOk d S cs d.T with
      | false =>
        refine iteT ?_
        walk_at "go"
        exact k2 hk _ e
      | true =>
        refine iteF ?_
        walk_at "go"
        exact k1 hk _ r rs e hr' hrs
end
section
variable {P : Program} {w : World} {K : PySem.W.Frag} {mg : Str → Option Value} {base : Heap}
def spIsPlan (K : PySem.W.Frag) : Sp := fun vs H Q _ => ∃ (a aw wa : Addr) (ds : List V) (d : Day) (W : List Int) (x : V), vs = [.ref a, .ref wa, x] ∧ DayAt K H a aw ds d ∧ d.Ok ∧ d.Sm ∧ 1 ≤ d.P ∧ SqT K H wa (vI W) ∧ W.length = d.P ∧
  ((NTup K H x ∧ ∀ H', Same H H' → Q (.bl false) H') ∨ ∃ t xs, x = .ref t ∧ SqT K H t xs ∧ ((xs.length ≠ 2 ∧ ∀ H', Same H H' → Q (.bl false) H') ∨ ∃ s c os oc, xs = [s, c] ∧ TV K H s os ∧ TV K H c oc ∧ ∀ H', Same H H' → Q (.bl (planV d W os oc)) H'))
theorem df_law_is_plan (B : Bl mg) (D_is_number : Df P w K mg base "_law_is_number" 1 ["thing", "least", "most"] (spIsFrom K)) (D_stands : Df P w K mg base "_law_stands" 1 ["day", "starts", "carried"] (spLawStands K)) (F : Has K mg "_law_is_plan" s__law_is_plan) : Df P w K mg base "_law_is_plan" 2 ["day", "wanted", "thing"] (spIsPlan K) := by
  refine df_of F sc__law_is_plan (fun _ _ _ _ _ _ us hl => match us, hl with | [_, _, _], _ => rfl) (fun vs H Q E h => ?_) (fun f cdv A outer s H vs Q E hr h => ?_)
  · obtain ⟨a, aw, wa, ds, d, W, x, rfl, _⟩ := h
    rfl
  · obtain ⟨a, aw, wa, ds, d, W, x, rfl, hd, ok, sm, hP1, hW, lW, hx⟩ := h
    have hday := hd.day
    have hP := sm.P
    have hseq := hd.seq
    have hWs := sm.W
    refine ⟨(tSeq (tIfS (tOr (tNot (tB (tCB (rIsi K) (tCons (tVar 2) (tCons (tC (.ty "tuple")) tNil))))) (tTest (tOp rNe (tCB (rLenS K) (tCons (tVar 2) tNil)) (tC (.int 2))))) (tRet (tC (.bl false))) tNext) (tSeq (tAsg (tVar 2) (gTup K 2 (gCons (gName 3) (gCons (gName 4) gNil)))) (tSeq (tIfS (tOr (tNot (tB (tCB (rIsi K) (tCons (tVar 3) (tCons (tC (.ty "tuple")) tNil))))) (tTest (tOp rNe (tCB (rLenS K) (tCons (tVar 3) tNil)) (tOp (rIxT K) (tVar 0) (tC (.int 0)))))) (tRet (tC (.bl false))) tNext) (tSeq (tIfS (tTest (tOp (rNeD K) (tLc (iTup K (tVar 3)) (gName 5) (tNot (tB (tCall (spIsFrom K) [] E0 (tCons (tVar 5) (tCons (tC (.int 0)) (tCons (tC (.int 99)) tNil)))))) (tVar 5) [5]) (tLst tNil))) (tRet (tC (.bl false))) tNext) (tSeq (tIfS (tOr (tNot (tB (tCB (rIsi K) (tCons (tVar 4) (tCons (tC (.ty "tuple")) tNil))))) (tTest (tOp rNe (tCB (rLenS K) (tCons (tVar 4) tNil)) (tCB (rLenS K) (tCons (tOp (rIxT K) (tVar 0) (tC (.int 2))) tNil))))) (tRet (tC (.bl false))) tNext) (tSeq (tFor (iZip2 K (tCons (tOp (rIxT K) (tVar 0) (tC (.int 2))) (tCons (tVar 4) tNil))) (gTup K 2 (gCons (gName 6) (gCons (gName 7) gNil))) (tIfS (tNot (tB (tCall (spIsFrom K) [] E0 (tCons (tVar 7) (tCons (tCB rInt1 (tCons (tOp (rIxT K) (tVar 6) (tC (.int 3))) tNil)) (tCons (tOp (rIxT K) (tVar 6) (tC (.int 4))) tNil)))))) (tRet (tC (.bl false))) tNext)) (tSeq (tAsg (tCall (spLawStands K) [] E0 (tCons (tVar 0) (tCons (tVar 3) (tCons (tVar 4) tNil)))) (gName 8)) (tRet (tAndV (tOp (fun x y H Q => y = .non ∧ Q (.bl (!decide (x = .non))) H) (tVar 8) (tC .non)) (tOp (rEqD K) (tLc (iZip2 K (tCons (tOp (rIxL K) (tVar 8) (tUn (rU fun i => .int (-i)) (tC (.int 1)))) (tCons (tVar 1) tNil))) (gTup K 2 (gCons (gName 5) (gCons (gName 9) gNil))) (tTest (tOp (rI0 fun i j => .bl (decide (i < j))) (tVar 5) (tVar 9))) (tC (.int 1)) [5, 9]) (tLst tNil))))))))))),
      (pss_cons (ps_if (PW.pt (pw_or (pt_not (pt_val (pe_callB call_isi (by rfl) B.isinstance bt_isinstance (pa_cons (pv 2) (pa_cons (pe_bltn (v := .ty "tuple") (by rfl) B.tuple bt_tuple rfl) pa_nil))))) (pw_or1 (pt_cmpR op_ne (pe_callB call_len_seq (by rfl) B.len bt_len (pa_cons (pv 2) pa_nil)) pe_int (nomark _))))) (pss_one (ps_ret pe_bl)) pss_nil)
      (pss_cons (ps_asg (pv 2) (pg_tup rfl (pgs_cons (pg_name (i := 3) sc__law_is_plan.nd rfl (by first | exact Or.inl rfl | exact Or.inr rfl)) (pgs_cons (pg_name (i := 4) sc__law_is_plan.nd rfl (by first | exact Or.inl rfl | exact Or.inr rfl)) pgs_nil))))
      (pss_cons (ps_if (PW.pt (pw_or (pt_not (pt_val (pe_callB call_isi (by rfl) B.isinstance bt_isinstance (pa_cons (pv 3) (pa_cons (pe_bltn (v := .ty "tuple") (by rfl) B.tuple bt_tuple rfl) pa_nil))))) (pw_or1 (pt_cmpR op_ne (pe_callB call_len_seq (by rfl) B.len bt_len (pa_cons (pv 3) pa_nil)) (pe_ix ix_tup (pv 0) pe_int (fun _ _ => rfl)) (nomark _))))) (pss_one (ps_ret pe_bl)) pss_nil)
      (pss_cons (ps_if (pt_cmpR (op_neD hr.units) (pe_lc (own := [("one", 5)]) (g := (gName 5)) (tt := (tNot (tB (tCall (spIsFrom K) [] E0 (tCons (tVar 5) (tCons (tC (.int 0)) (tCons (tC (.int 99)) tNil))))))) (te := (tVar 5)) rfl sc__law_is_plan.nd (pi_tup (pv 3)) (blkOk_by (own := [("one", 5)]) (N := ["day", "wanted", "thing", "starts", "carried", "one", "walk", "many", "rows", "least"]) (sc := defScope s__law_is_plan) (by decide +kernel)) (fun _ _ _ _ _ => (pg_name (i := 5) sc__law_is_plan.nd rfl (by first | exact Or.inl rfl | exact Or.inr rfl))) (fun _ _ _ _ _ => (pts_one (pt_not (pt_val (pe_df D_is_number (hr.mono (by decide)) (by rfl) (pa_cons (pv 5) (pa_cons pe_int (pa_cons pe_int pa_nil)))))))) (fun _ _ _ _ _ => (pv 5))) (pe_lst pa_nil) (nomark _)) (pss_one (ps_ret pe_bl)) pss_nil)
      (pss_cons (ps_if (PW.pt (pw_or (pt_not (pt_val (pe_callB call_isi (by rfl) B.isinstance bt_isinstance (pa_cons (pv 4) (pa_cons (pe_bltn (v := .ty "tuple") (by rfl) B.tuple bt_tuple rfl) pa_nil))))) (pw_or1 (pt_cmpR op_ne (pe_callB call_len_seq (by rfl) B.len bt_len (pa_cons (pv 4) pa_nil)) (pe_callB call_len_seq (by rfl) B.len bt_len (pa_cons (pe_ix ix_tup (pv 0) pe_int (fun _ _ => rfl)) pa_nil)) (nomark _))))) (pss_one (ps_ret pe_bl)) pss_nil)
      (pss_cons (ps_for PassesOwn.never rfl (pi_zip2 (by rfl) B.zip (pa_cons (pe_ix ix_tup (pv 0) pe_int (fun _ _ => rfl)) (pa_cons (pv 4) pa_nil))) (pg_tup rfl (pgs_cons (pg_name (i := 6) sc__law_is_plan.nd rfl (by first | exact Or.inl rfl | exact Or.inr rfl)) (pgs_cons (pg_name (i := 7) sc__law_is_plan.nd rfl (by first | exact Or.inl rfl | exact Or.inr rfl)) pgs_nil)))
      (pss_one (ps_if (pt_not (pt_val (pe_df D_is_number (hr.mono (by decide)) (by rfl) (pa_cons (pv 7) (pa_cons (pe_callTy call_int1 (by rfl) B.int bt_int (pa_cons (pe_ix ix_tup (pv 6) pe_int (fun _ _ => rfl)) pa_nil)) (pa_cons (pe_ix ix_tup (pv 6) pe_int (fun _ _ => rfl)) pa_nil)))))) (pss_one (ps_ret pe_bl)) pss_nil)))
      (pss_cons (ps_set (i := 8) sc__law_is_plan.nd rfl (by first | exact Or.inl rfl | exact Or.inr rfl) (pe_df D_stands (hr.mono (by decide)) (by rfl) (pa_cons (pv 0) (pa_cons (pv 3) (pa_cons (pv 4) pa_nil)))))
      (pss_one (ps_ret (pe_and (pe_cmpR op_notN (pv 8) pe_non (nomark _)) (pe_one (pe_cmpR (op_eqD hr.units) (pe_lc (own := [("one", 5), ("least", 9)]) (g := (gTup K 2 (gCons (gName 5) (gCons (gName 9) gNil)))) (tt := (tTest (tOp (rI0 fun i j => .bl (decide (i < j))) (tVar 5) (tVar 9)))) (te := (tC (.int 1))) rfl sc__law_is_plan.nd (pi_zip2 (by rfl) B.zip (pa_cons (pe_ix ix_list (pv 8) (pe_un un_neg pe_int) (fun _ _ => rfl)) (pa_cons (pv 1) pa_nil))) (blkOk_by (own := [("one", 5), ("least", 9)]) (N := ["day", "wanted", "thing", "starts", "carried", "one", "walk", "many", "rows", "least"]) (sc := defScope s__law_is_plan) (by decide +kernel)) (fun _ _ _ _ _ => (pg_tup rfl (pgs_cons (pg_name (i := 5) sc__law_is_plan.nd rfl (by first | exact Or.inl rfl | exact Or.inr rfl)) (pgs_cons (pg_name (i := 9) sc__law_is_plan.nd rfl (by first | exact Or.inl rfl | exact Or.inr rfl)) pgs_nil)))) (fun _ _ _ _ _ => (pts_one (pt_cmpR op_lt (pv 5) (pv 9) (nomark _)))) (fun _ _ _ _ _ => pe_int)) (pe_lst pa_nil) (nomark _))))))))))))), ?_⟩
    rcases hx with ⟨hn, k⟩ | ⟨t, xs, rfl, ht, hx⟩
    · walk_at "go"
      refine isi_ntup hn ?_
      walk_at "go"
      refine iteT ?_
      refine iteT ?_
      walk_at "go"
      exact k _ (Same.refl _)
    · walk_at "go"
      refine isi_tup ht ?_
      walk_at "go"
      refine iteF ?_
      walk_at "go"
      rcases hx with ⟨hl, k⟩ | ⟨sv, cv, os, oc, rfl, hs, hc, k⟩
      · rw [show (!decide ((xs.length : Int) = 2)) = true by simp; omega]
        refine iteT ?_
        walk_at "go"
        exact k _ (Same.refl _)
      · refine iteF ?_
        walk_at "go"
        rcases hs with ⟨rfl, hs⟩ | ⟨ts, ss, rfl, rfl, hts, hsf, hsl⟩
        · refine isi_ntup hs ?_
          walk_at "go"
          refine iteT ?_
          refine iteT ?_
          walk_at "go"
          exact k _ (Same.refl _)
        · refine isi_tup hts ?_
          walk_at "go"
          refine iteF ?_
          walk_at "go"
          by_cases hsP : ss.length = d.P
          · rw [show (!decide ((ss.length : Int) = (d.P : Int))) = false by simp [hsP]]
            refine iteF ?_
            walk_at "go"
            refine ⟨ts, rfl, ⟨ss, hts⟩, fun D nD => ?_⟩
            refine lc_it (walk_tup (xs := ss)) (fun q H' => Same H H' ∧ H' D = some (.lst ((ss.take q).filter fun x => !isFromV x 0 99))) ⟨Same.new nD, upd_same⟩ (fun q H' _ h => h.1.tup hts) ?_ ?_
            · rintro q z H1 H2 hq ⟨e1, hD⟩ ⟨rfl, hz⟩
              have hfl := List.length_filter_le (fun x => !isFromV x 0 99) (ss.take q)
              rw [List.length_take] at hfl
              rw [take_succ_get hz, List.filter_append]
              walk_at "go"
              refine ⟨rfl, ?_⟩
              walk_at "go"
              refine ⟨z, 0, 99, rfl, (hsf z (List.mem_of_getElem? hz)).kn, ?_⟩
              refine c_bl ?_
              cases hv : isFromV z 0 99 with
              | false =>
                refine iteT ?_
                walk_at "go"
                refine ⟨_, hD, szl' (by omega), e1.mut nD, ?_⟩
                rw [upd_same]
                simp [hv]
              | true =>
                refine iteF ⟨e1, ?_⟩
                rw [hD]
                simp [hv]
            · rintro H1 ⟨e1, hD⟩
              rw [List.take_length] at hD
              walk_at "go"
              refine ⟨szl (by simp), fun E0' nE => ?_⟩
              have s2 := Same.new (o := .lst []) nE
              refine c_neNilF (fun x hx => hsf x ((List.mem_filter.mp hx).1)) (SqL.of (s2 _ _ hD)) (SqL.of upd_same) ?_
              rw [bad_eq]
              have e2 := e1.trans s2
              generalize upd H1 E0' (.lst []) = H2 at s2 e2 ⊢
              clear s2 hD nE nD e1
              have hday2 := e2.tup hday
              walk_at "go"
              cases hsa : ss.all (fun x => isFromV x 0 99) with
              | false =>
                refine iteT ?_
                walk_at "go"
                have hv : planV d W (some ss) oc = false := by
                  cases oc with
                  | none => rfl
                  | some cs => show (sOk d ss && cOk d cs && _) = false; unfold sOk; rw [hsa]; simp
                rw [hv] at k
                exact k _ e2
              | true =>
                refine iteF ?_
                walk_at "go"
                have hseq2 := e2.tup hseq
                rcases hc with ⟨rfl, hc⟩ | ⟨tc, cs, rfl, rfl, htc, hcf, hcl⟩
                · refine isi_ntup (hc.kp (.of e2)) ?_
                  walk_at "go"
                  refine iteT ?_
                  refine iteT ?_
                  walk_at "go"
                  exact k _ e2
                · have htc2 := e2.tup htc
                  refine isi_tup htc2 ?_
                  walk_at "go"
                  refine iteF ?_
                  walk_at "go"
                  have hwl := hd.wks.len
                  by_cases hcP : cs.length = d.ws.length
                  · rw [show (!decide ((cs.length : Int) = (ds.length : Int))) = false by simp; omega]
                    refine iteF ?_
                    walk_at "gn"
                    with_reducible refine c_seqJ (fun σ' H' => ∃ v6 v7, σ' = [some (.ref a), some (.ref wa), some (.ref t), some (.ref ts), some (.ref tc), none, v6, v7, none, none] ∧ Same H H' ∧ carAll d.ws cs = true) ?_ ?_
                    · rintro σ3 H3 ⟨v6, v7, rfl, e3, hca⟩
                      have es := allInt hsa
                      have ec := carAll_int hcP hca
                      have hpv : planV d W (some ss) (some cs) = planB d (ss.map intV) W (cs.map intV) := by
                        show (sOk d ss && cOk d cs && _) = _
                        unfold sOk cOk
                        rw [hsa, hca]
                        simp [hsP, hcP]
                      rw [hpv, planB_eq] at k
                      have hSl : (ss.map intV).length = d.P := by rw [List.length_map, hsP]
                      have hCl : (cs.map intV).length = d.ws.length := by rw [List.length_map, hcP]
                      have hts3 := e3.tup hts
                      have htc3 := e3.tup htc
                      generalize ss.map intV = S at es k hSl
                      generalize cs.map intV = C at ec k hCl
                      subst es ec
                      walk_at "go"
                      refine ⟨a, aw, ts, tc, ds, d, S, C, rfl, hd.tx (.of e3), ok, sm, hP1, hts3, hSl, htc3, hCl, fun hlo H4 r rs e4 hr4 hrs => ?_, fun hlo H4 e4 => ?_⟩
                      · rw [hlo] at k
                        have e04 := e3.trans e4
                        walk_at "go"
                        refine ⟨rfl, ?_⟩
                        refine c_bl ?_
                        rw [show (!decide (V.ref r = V.non)) = true by rw [decide_eq_false (fun z => nomatch z)]; rfl]
                        refine iteT ?_
                        have hrl : rs.length = d.T + 1 := by rw [hrs.len]; simp [standing]
                        obtain ⟨x, hx, hxs⟩ := hrs.at_ d.T (vI (rowAt d S C d.T)) (by unfold standing; rw [List.getElem?_map, List.getElem?_map, List.getElem?_range (by omega)]; rfl)
                        have hxs' : SqT K H4 x (vI (rowAt d S C d.T)) := hxs
                        walk_at "go"
                        refine c_ixL (SqL.of hr4) (atLast (by rw [hrl]; exact hx)) ?_
                        walk_at "go"
                        refine ⟨true, true, x, wa, _, _, rfl, hxs', e04.tup hW, fun D nD => ?_⟩
                        have rsp := rowAt_spec ok S C hCl hSl d.T
                        have hzl : (List.zipWith (fun s l => s - l) (rowAt d S C d.T) W).length = d.P := by rw [List.length_zipWith, rsp.1, lW, Nat.min_self]
                        refine lc_it (walk_zip2 (n := d.P) (by rw [List.length_map]; exact rsp.1) (by rw [List.length_map]; exact lW))
                          (fun j H5 => Same H4 H5 ∧ H5 D = some (.lst (vI (List.replicate (((List.zipWith (fun s l => s - l) (rowAt d S C d.T) W).take j).filter fun x => decide (x < 0)).length 1)))) ⟨Same.new nD, upd_same⟩ (fun j H5 _ h => ⟨h.1.tup hxs', h.1.tup (e04.tup hW)⟩) ?_ ?_
                        · rintro j y H5 H6 hj ⟨e5, hD⟩ ⟨T', x1, y1, rfl, nT, rfl, hx1, hy1⟩
                          obtain ⟨n1, f1, rfl⟩ := vI_inv hx1
                          obtain ⟨n2, f2, rfl⟩ := vI_inv hy1
                          have hfl := List.length_filter_le (fun x => decide (x < 0)) ((List.zipWith (fun s l => s - l) (rowAt d S C d.T) W).take j)
                          rw [List.length_take] at hfl
                          rw [take_succ_get (show (List.zipWith (fun s l => s - l) (rowAt d S C d.T) W)[j]? = _ from zipW_get f1 f2), List.filter_append, List.length_append]
                          walk_at "go"
                          refine ⟨rfl, ?_⟩
                          walk_at "go"
                          refine ite2 (fun hq => ?_) (fun hq => ?_)
                          · have hq' : n1 - n2 < 0 := by have := of_decide_eq_true hq; omega
                            walk_at "go"
                            refine ⟨_, get_new hD nT, szl' (by rw [List.length_map, List.length_replicate]; omega), Same.mut (e5.trans (Same.new nT)) nD, ?_⟩
                            rw [upd_same, vI_ones, vI_ones, show ([n1 - n2].filter fun x => decide (x < 0)).length = 1 by simp [hq'], List.replicate_succ']
                          · have hq' : ¬ n1 - n2 < 0 := fun z => hq (decide_eq_true (by omega))
                            refine ⟨e5.trans (Same.new nT), ?_⟩
                            rw [show ([n1 - n2].filter fun x => decide (x < 0)).length = 0 by simp [hq']]
                            exact get_new hD nT
                        · rintro H5 ⟨e5, hD⟩
                          rw [List.take_of_length_le (by rw [hzl]; exact Nat.le_refl _)] at hD
                          walk_at "go"
                          refine ⟨szl (by simp), fun E0' nE => ?_⟩
                          have s6 := Same.new (o := .lst []) nE
                          refine c_eqNil (SqL.of (s6 _ _ hD)) (SqL.of upd_same) ?_
                          rw [ones_empty, negs_eq]
                          exact k _ (e04.trans (e5.trans s6))
                      · rw [hlo] at k
                        walk_at "go"
                        refine ⟨rfl, ?_⟩
                        refine c_bl ?_
                        refine iteF ?_
                        exact k _ (e3.trans e4)
                    · intro R hR
                      walk_at "go"
                      refine ⟨true, true, aw, tc, ds, cs, rfl, hseq2, htc2, ?_⟩
                      refine for_it (walk_zip2 (n := d.ws.length) hd.wks.len hcP) (fun j σ' H' => ∃ v6 v7, σ' = [some (.ref a), some (.ref wa), some (.ref t), some (.ref ts), some (.ref tc), none, v6, v7, none, none] ∧ Same H H' ∧ carAll (d.ws.take j) (cs.take j) = true) ⟨_, _, rfl, e2, rfl⟩ (fun j σ' H' _ ⟨_, _, _, e', _⟩ => ⟨e'.tup hseq, e'.tup htc⟩) ?_ ?_
                      · rintro j y σ' H3 H4 hj ⟨v6, v7, rfl, e3, hca⟩ ⟨T', x1, y1, rfl, nT, rfl, hx1, hy1⟩
                        obtain ⟨w, xw, hw, rfl, hwT⟩ := hd.wks.get hx1
                        have hcc : cs[j]? = some y1 := hy1
                        rw [carAll_take_succ hw hcc, hca]
                        walk_at "go"
                        refine ⟨y1, w.wi, (w.r : Int), rfl, (hcf y1 (List.mem_of_getElem? hcc)).kn, ?_⟩
                        refine c_bl ?_
                        cases hv : isFromV y1 w.wi (w.r : Int) with
                        | false =>
                          refine iteT ?_
                          walk_at "go"
                          have hpv : planV d W (some ss) (some cs) = false := by
                            show (sOk d ss && cOk d cs && _) = _
                            unfold cOk
                            rw [carAll_bad hw hcc hv]
                            simp
                          rw [hpv] at k
                          exact k _ (e3.trans (Same.new nT))
                        | true =>
                          refine iteF ?_
                          walk_at "go"
                          exact ⟨_, _, rfl, e3.trans (Same.new nT), rfl⟩
                      · rintro σ' H3 ⟨v6, v7, rfl, e3, hca⟩
                        rw [List.take_of_length_le (Nat.le_refl _), List.take_of_length_le (by rw [hcP]; exact Nat.le_refl _)] at hca
                        exact hR _ _ ⟨_, _, rfl, e3, hca⟩
                  · rw [show (!decide ((cs.length : Int) = (ds.length : Int))) = true by simp; omega]
                    refine iteT ?_
                    walk_at "go"
                    have hpv : planV d W (some ss) (some cs) = false := by
                      show (sOk d ss && cOk d cs && _) = _
                      unfold cOk
                      rw [decide_eq_false hcP]
                      simp
                    rw [hpv] at k
                    exact k _ e2
          · rw [show (!decide ((ss.length : Int) = (d.P : Int))) = true by simp; omega]
            refine iteT ?_
            walk_at "go"
            have hv : planV d W (some ss) oc = false := by
              cases oc with
              | none => rfl
              | some cs => show (sOk d ss && cOk d cs && _) = false; unfold sOk; rw [decide_eq_false hsP]; simp
            rw [hv] at k
            exact k _ (Same.refl _)
end
section
variable {P : Program} {w : World} {K : PySem.W.Frag} {mg : Str → Option Value} {base : Heap}
theorem nn_any {xs : List Int} : ((xs.map fun x => decide (x < 0)).any id) = !nnRow xs := by
  unfold nnRow
  induction xs with
  | nil => rfl
  | cons x xs ih =>
    rw [List.map_cons, List.any_cons, ih, List.all_cons]
    by_cases h : x < 0
    · have h2 : ¬ 0 ≤ x := by omega
      simp [h, h2]
    · have h2 : 0 ≤ x := by omega
      simp [h, h2]
theorem nn_all {xs : List Int} : ((xs.map fun x => decide (0 ≤ x)).all id) = nnRow xs := by
  unfold nnRow
  simp [List.all_map, Function.comp_def]
theorem df_is_plan (B : Bl mg) (hFAR : ∃ t, mg "FAR" = some (.int 99 t)) (D_moved : Df P w K mg base "moved" 1 ["day", "hour", "carried", "places"] (spMoved K)) (D_standing : Df P w K mg base "standing" 2 ["day", "starts", "carried"] (spStanding K)) (D_are_from : Df P w K mg base "are_from" 2 ["day", "thing", "high"] (spAreFrom K)) (D_are_carried : Df P w K mg base "are_carried" 2 ["walks", "thing"] (spAreCarried K)) (F : Has K mg "is_plan" s_is_plan) : Df P w K mg base "is_plan" 3 ["day", "wanted", "thing"] (spIsPlan K) := by
  obtain ⟨ti, hFAR⟩ := hFAR
  refine df_of F sc_is_plan (fun _ _ _ _ _ _ us hl => match us, hl with | [_, _, _], _ => rfl) (fun vs H Q E h => ?_) (fun f cdv A outer s H vs Q E hr h => ?_)
  · obtain ⟨a, aw, wa, ds, d, W, x, rfl, _⟩ := h
    rfl
  · obtain ⟨a, aw, wa, ds, d, W, x, rfl, hd, ok, sm, hP1, hW, lW, hx⟩ := h
    have hday := hd.day
    have hP := sm.P
    have hT := sm.T
    have hseq := hd.seq
    have hWs := sm.W
    refine ⟨(tSeq (tIfS (tOr (tNot (tB (tCB (rIsi K) (tCons (tVar 2) (tCons (tC (.ty "tuple")) tNil))))) (tTest (tOp rNe (tCB (rLenS K) (tCons (tVar 2) tNil)) (tC (.int 2))))) (tRet (tC (.bl false))) tNext) (tSeq (tAsg (tVar 2) (gTup K 2 (gCons (gName 3) (gCons (gName 4) gNil)))) (tSeq (tIfS (tOr (tNot (tB (tCall (spAreFrom K) [] E0 (tCons (tVar 0) (tCons (tVar 3) (tCons (tC (.int 99)) tNil)))))) (tNot (tB (tCall (spAreCarried K) [] E0 (tCons (tOp (rIxT K) (tVar 0) (tC (.int 2))) (tCons (tVar 4) tNil)))))) (tRet (tC (.bl false))) tNext) (tSeq (tAsg (tCall (spStanding K) [] E0 (tCons (tVar 0) (tCons (tVar 3) (tCons (tVar 4) tNil)))) (gName 5)) (tSeq (tFor (iRng1 (tCons (tOp (rIxT K) (tVar 0) (tC (.int 1))) tNil)) (gName 6) (tSeq (tAsg (tCall (spMoved K) [] E0 (tCons (tVar 0) (tCons (tVar 6) (tCons (tVar 4) (tCons (tOp (rIxT K) (tVar 0) (tC (.int 0))) tNil))))) (gTup K 2 (gCons (gName 7) (gCons (gName 8) gNil)))) (tIfS (tB (tCB (rAny K) (tCons (tLc (iZip2 K (tCons (tOp (rIxL K) (tVar 5) (tVar 6)) (tCons (tVar 7) tNil))) (gTup K 2 (gCons (gName 9) (gCons (gName 10) gNil))) tYes (tOp (rI0 fun i j => .bl (decide (j < i))) (tVar 10) (tVar 9)) [9, 10]) tNil))) (tRet (tC (.bl false))) tNext))) (tRet (tCB (rAll K) (tCons (tLc (iZip2 K (tCons (tOp (rIxL K) (tVar 5) (tUn (rU fun i => .int (-i)) (tC (.int 1)))) (tCons (tVar 1) tNil))) (gTup K 2 (gCons (gName 9) (gCons (gName 11) gNil))) tYes (tOp (rI0 fun i j => .bl (decide (j ≤ i))) (tVar 9) (tVar 11)) [9, 11]) tNil)))))))),
      (pss_cons (ps_if (PW.pt (pw_or (pt_not (pt_val (pe_callB call_isi (by rfl) B.isinstance bt_isinstance (pa_cons (pv 2) (pa_cons (pe_bltn (v := .ty "tuple") (by rfl) B.tuple bt_tuple rfl) pa_nil))))) (pw_or1 (pt_cmpR op_ne (pe_callB call_len_seq (by rfl) B.len bt_len (pa_cons (pv 2) pa_nil)) pe_int (nomark _))))) (pss_one (ps_ret pe_bl)) pss_nil)
      (pss_cons (ps_asg (pv 2) (pg_tup rfl (pgs_cons (pg_name (i := 3) sc_is_plan.nd rfl (by first | exact Or.inl rfl | exact Or.inr rfl)) (pgs_cons (pg_name (i := 4) sc_is_plan.nd rfl (by first | exact Or.inl rfl | exact Or.inr rfl)) pgs_nil))))
      (pss_cons (ps_if (PW.pt (pw_or (pt_not (pt_val (pe_df D_are_from (hr.mono (by decide)) (by rfl) (pa_cons (pv 0) (pa_cons (pv 3) (pa_cons (pe_glob (v := (.int 99)) (by rfl) hFAR ⟨_, rfl⟩) pa_nil)))))) (pw_or1 (pt_not (pt_val (pe_df D_are_carried (hr.mono (by decide)) (by rfl) (pa_cons (pe_ix ix_tup (pv 0) pe_int (fun _ _ => rfl)) (pa_cons (pv 4) pa_nil)))))))) (pss_one (ps_ret pe_bl)) pss_nil)
      (pss_cons (ps_set (i := 5) sc_is_plan.nd rfl (by first | exact Or.inl rfl | exact Or.inr rfl) (pe_df D_standing (hr.mono (by decide)) (by rfl) (pa_cons (pv 0) (pa_cons (pv 3) (pa_cons (pv 4) pa_nil)))))
      (pss_cons (ps_for PassesOwn.never rfl (pi_range1 (by rfl) B.range (pa_cons (pe_ix ix_tup (pv 0) pe_int (fun _ _ => rfl)) pa_nil)) (pg_name (i := 6) sc_is_plan.nd rfl (by first | exact Or.inl rfl | exact Or.inr rfl))
      (pss_cons (ps_asg (pe_df D_moved (hr.mono (by decide)) (by rfl) (pa_cons (pv 0) (pa_cons (pv 6) (pa_cons (pv 4) (pa_cons (pe_ix ix_tup (pv 0) pe_int (fun _ _ => rfl)) pa_nil))))) (pg_tup rfl (pgs_cons (pg_name (i := 7) sc_is_plan.nd rfl (by first | exact Or.inl rfl | exact Or.inr rfl)) (pgs_cons (pg_name (i := 8) sc_is_plan.nd rfl (by first | exact Or.inl rfl | exact Or.inr rfl)) pgs_nil))))
      (pss_one (ps_if (pt_val (pe_callB (cr_any rfl) (by rfl) B.any bt_any (pa_cons (pe_lc (own := [("stands", 9), ("less", 10)]) (g := (gTup K 2 (gCons (gName 9) (gCons (gName 10) gNil)))) (tt := tYes) (te := (tOp (rI0 fun i j => .bl (decide (j < i))) (tVar 10) (tVar 9))) rfl sc_is_plan.nd (pi_zip2 (by rfl) B.zip (pa_cons (pe_ix ix_list (pv 5) (pv 6) (fun _ _ => rfl)) (pa_cons (pv 7) pa_nil))) (blkOk_by (own := [("stands", 9), ("less", 10)]) (N := ["day", "wanted", "thing", "starts", "carried", "rows", "hour", "out", "into", "stands", "less", "least"]) (sc := defScope s_is_plan) (by decide +kernel)) (fun _ _ _ _ _ => (pg_tup rfl (pgs_cons (pg_name (i := 9) sc_is_plan.nd rfl (by first | exact Or.inl rfl | exact Or.inr rfl)) (pgs_cons (pg_name (i := 10) sc_is_plan.nd rfl (by first | exact Or.inl rfl | exact Or.inr rfl)) pgs_nil)))) (fun _ _ _ _ _ => pts_nil) (fun _ _ _ _ _ => (pe_cmpR op_gt (pv 10) (pv 9) (nomark _)))) pa_nil))) (pss_one (ps_ret pe_bl)) pss_nil))))
      (pss_one (ps_ret (pe_callB (cr_all rfl) (by rfl) B.all bt_all (pa_cons (pe_lc (own := [("stands", 9), ("least", 11)]) (g := (gTup K 2 (gCons (gName 9) (gCons (gName 11) gNil)))) (tt := tYes) (te := (tOp (rI0 fun i j => .bl (decide (j ≤ i))) (tVar 9) (tVar 11))) rfl sc_is_plan.nd (pi_zip2 (by rfl) B.zip (pa_cons (pe_ix ix_list (pv 5) (pe_un un_neg pe_int) (fun _ _ => rfl)) (pa_cons (pv 1) pa_nil))) (blkOk_by (own := [("stands", 9), ("least", 11)]) (N := ["day", "wanted", "thing", "starts", "carried", "rows", "hour", "out", "into", "stands", "less", "least"]) (sc := defScope s_is_plan) (by decide +kernel)) (fun _ _ _ _ _ => (pg_tup rfl (pgs_cons (pg_name (i := 9) sc_is_plan.nd rfl (by first | exact Or.inl rfl | exact Or.inr rfl)) (pgs_cons (pg_name (i := 11) sc_is_plan.nd rfl (by first | exact Or.inl rfl | exact Or.inr rfl)) pgs_nil)))) (fun _ _ _ _ _ => pts_nil) (fun _ _ _ _ _ => (pe_cmpR op_ge (pv 9) (pv 11) (nomark _)))) pa_nil))))))))), ?_⟩
    rcases hx with ⟨hn, k⟩ | ⟨t, xs, rfl, ht, hx⟩
    · walk_at "go"
      refine isi_ntup hn ?_
      walk_at "go"
      refine iteT ?_
      refine iteT ?_
      walk_at "go"
      exact k _ (Same.refl _)
    · walk_at "go"
      refine isi_tup ht ?_
      walk_at "go"
      refine iteF ?_
      walk_at "go"
      rcases hx with ⟨hl, k⟩ | ⟨sv, cv, os, oc, rfl, hs, hc, k⟩
      · rw [show (!decide ((xs.length : Int) = 2)) = true by simp; omega]
        refine iteT ?_
        walk_at "go"
        exact k _ (Same.refl _)
      · refine iteF ?_
        walk_at "go"
        refine ⟨a, aw, d, sv, os, 99, rfl, hday, hs, fun H1 e1 => ?_⟩
        refine c_bl ?_
        have hday1 := e1.tup hday
        rcases hs with ⟨rfl, hs⟩ | ⟨ts, ss, rfl, rfl, hts, hsf, hsl⟩
        · refine iteT ?_
          refine iteT ?_
          walk_at "go"
          exact k _ e1
        · dsimp only
          refine ite2 (fun hso => ?_) (fun hso => ?_)
          · have hso : (decide (ss.length = d.P) && ss.all fun x => isFromV x 0 99) = false := by
              cases hq : (decide (ss.length = d.P) && ss.all fun x => isFromV x 0 99) with
              | false => rfl
              | true => rw [hq] at hso; cases hso
            refine iteT ?_
            walk_at "go"
            have hv : planV d W (some ss) oc = false := by
              cases oc with
              | none => rfl
              | some cs => show (sOk d ss && cOk d cs && _) = false; unfold sOk; rw [hso]; simp
            rw [hv] at k
            exact k _ e1
          · have hso : (decide (ss.length = d.P) && ss.all fun x => isFromV x 0 99) = true := by
              cases hq : (decide (ss.length = d.P) && ss.all fun x => isFromV x 0 99) with
              | true => rfl
              | false => exact absurd (by rw [hq]; rfl) hso
            walk_at "go"
            refine ⟨aw, ds, d, cv, oc, rfl, e1.tup hseq, hd.wks.tx (.of e1), by omega, hc.kp (.of e1), fun H2 e2 => ?_⟩
            have e12 := e1.trans e2
            refine c_bl ?_
            rcases hc with ⟨rfl, hc⟩ | ⟨tc, cs, rfl, rfl, htc, hcf, hcl⟩
            · refine iteT ?_
              walk_at "go"
              exact k _ e12
            · dsimp only
              refine ite2 (fun hco => ?_) (fun hco => ?_)
              · have hco : cOk d cs = false := by
                  cases hq : cOk d cs with
                  | false => rfl
                  | true => rw [hq] at hco; cases hco
                walk_at "go"
                have hv : planV d W (some ss) (some cs) = false := by
                  show (sOk d ss && cOk d cs && _) = false
                  rw [hco]; simp
                rw [hv] at k
                exact k _ e12
              · have hco : cOk d cs = true := by
                  cases hq : cOk d cs with
                  | true => rfl
                  | false => exact absurd (by rw [hq]; rfl) hco
                rw [Bool.and_eq_true] at hso
                obtain ⟨hsP, hsa⟩ := hso
                have hsP := of_decide_eq_true hsP
                have hco' := hco
                unfold cOk at hco'
                rw [Bool.and_eq_true] at hco'
                obtain ⟨hcP, hca⟩ := hco'
                have hcP := of_decide_eq_true hcP
                have es := allInt hsa
                have ec := carAll_int hcP hca
                have hpv : planV d W (some ss) (some cs) = planB d (ss.map intV) W (cs.map intV) := by
                  show (sOk d ss && cOk d cs && _) = _
                  unfold sOk
                  rw [hsa, hco]
                  simp [hsP]
                rw [hpv, planB_eq] at k
                have hSl : (ss.map intV).length = d.P := by rw [List.length_map, hsP]
                have hCl : (cs.map intV).length = d.ws.length := by rw [List.length_map, hcP]
                generalize ss.map intV = S at es k hSl
                generalize cs.map intV = C at ec k hCl
                subst es ec
                have hts2 := e12.tup hts
                have htc2 := e12.tup htc
                have hd2 := hd.tx (.of e12)
                walk_at "go"
                refine ⟨a, aw, ts, tc, ds, d, true, S, C, rfl, hd2, ok, sm, hts2, hSl, htc2, hCl, fun H3 r rs e3 nr hr3 hrs => ?_⟩
                have e13 := e12.trans e3
                have hd3 := hd2.tx (.of e3)
                have hday3 := hd3.day
                have htc3 := e3.tup htc2
                have hrl : rs.length = d.T + 1 := by rw [hrs.len]; simp [standing]
                have rsp := rowAt_spec ok S C hCl hSl
                walk_at "gn"
                with_reducible refine c_seqJ (fun σ' H' => ∃ v6 v7 v8, σ' = [some (.ref a), some (.ref wa), some (.ref t), some (.ref ts), some (.ref tc), some (.ref r), v6, v7, v8, none, none, none] ∧ Same H3 H' ∧ lawOk d S C d.T = true) ?_ ?_
                · rintro σ4 H4 ⟨v6, v7, v8, rfl, e4, hlo⟩
                  rw [hlo] at k
                  have hr4 := e4 _ _ hr3
                  have hrs4 := hrs.tx (.of e4)
                  obtain ⟨x, hx, hxs⟩ := hrs4.at_ d.T (vI (rowAt d S C d.T)) (by unfold standing; rw [List.getElem?_map, List.getElem?_map, List.getElem?_range (by omega)]; rfl)
                  have hxs' : SqT K H4 x (vI (rowAt d S C d.T)) := hxs
                  have hW4 := (e13.trans e4).tup hW
                  walk_at "go"
                  refine c_ixL (SqL.of hr4) (atLast (by rw [hrl]; exact hx)) ?_
                  walk_at "go"
                  refine ⟨true, true, x, wa, _, _, rfl, hxs', hW4, fun D nD => ?_⟩
                  have hzl : (List.zipWith (fun s l => s - l) (rowAt d S C d.T) W).length = d.P := by rw [List.length_zipWith, (rsp d.T).1, lW, Nat.min_self]
                  refine lc_it (walk_zip2 (n := d.P) (by rw [List.length_map]; exact (rsp d.T).1) (by rw [List.length_map]; exact lW))
                    (fun j H5 => Same H4 H5 ∧ H5 D = some (.lst ((((List.zipWith (fun s l => s - l) (rowAt d S C d.T) W).take j).map fun x => decide (0 ≤ x)).map V.bl))) ⟨Same.new nD, upd_same⟩ (fun j H5 _ h => ⟨h.1.tup hxs', h.1.tup hW4⟩) ?_ ?_
                  · rintro j y H5 H6 hj ⟨e5, hD⟩ ⟨T', x1, y1, rfl, nT, rfl, hx1, hy1⟩
                    obtain ⟨n1, f1, rfl⟩ := vI_inv hx1
                    obtain ⟨n2, f2, rfl⟩ := vI_inv hy1
                    walk_at "go"
                    refine ⟨rfl, ?_⟩
                    walk_at "go"
                    refine iteT ?_
                    walk_at "go"
                    refine ⟨_, get_new hD nT, szl' (by simp; omega), Same.mut (e5.trans (Same.new nT)) nD, ?_⟩
                    rw [upd_same, take_succ_get (show (List.zipWith (fun s l => s - l) (rowAt d S C d.T) W)[j]? = _ from zipW_get f1 f2)]
                    have hdd : decide (n2 ≤ n1) = decide (0 ≤ n1 - n2) := decide_eq_decide.mpr (by omega)
                    rw [hdd]
                    simp
                  · rintro H5 ⟨e5, hD⟩
                    rw [List.take_of_length_le (by rw [hzl]; exact Nat.le_refl _)] at hD
                    walk_at "go"
                    refine c_all (SqL.of hD) ?_
                    rw [nn_all]
                    exact k _ (e13.trans (e4.trans e5))
                · intro R hR
                  walk_at "go"
                  refine ⟨_, rfl, by omega, by omega, ?_⟩
                  rw [Int.toNat_natCast]
                  refine for_it walk_rng (fun i σ' H' => ∃ v6 v7 v8, σ' = [some (.ref a), some (.ref wa), some (.ref t), some (.ref ts), some (.ref tc), some (.ref r), v6, v7, v8, none, none, none] ∧ Same H3 H' ∧ lawOk d S C i = true) ⟨_, _, _, rfl, Same.refl _, rfl⟩ (fun _ _ _ _ _ => trivial) ?_ ?_
                  · rintro i y σ' H4 H5 hi ⟨v6, v7, v8, rfl, e4, hlo⟩ ⟨rfl, rfl⟩
                    have hd4 := hd3.tx (.of e4)
                    have hday4 := hd4.day
                    walk_at "go"
                    refine ⟨a, aw, tc, ds, d, i, true, C, rfl, hd4, ok, sm, e4.tup htc3, hCl, fun H6 mt p q e6 hmt hp hq => ?_⟩
                    walk_at "go"
                    have e46 := e4.trans e6
                    have hr6 := e46 _ _ hr3
                    obtain ⟨x, hx, hxs⟩ := (hrs.tx (.of e46)).at_ i (vI (rowAt d S C i)) (by unfold standing; rw [List.getElem?_map, List.getElem?_map, List.getElem?_range (by omega)]; rfl)
                    have hxs' : SqT K H6 x (vI (rowAt d S C i)) := hxs
                    obtain ⟨m1, m2, _, _⟩ := moved_spec ok i C hCl
                    walk_at "go"
                    refine ⟨true, false, x, p, _, _, rfl, hxs', SqL.of hp, fun D nD => ?_⟩
                    have hzl : (List.zipWith (fun s l => s - l) (rowAt d S C i) (moved d i C).1).length = d.P := by rw [List.length_zipWith, (rsp i).1, m1, Nat.min_self]
                    refine lc_it (walk_zip2 (n := d.P) (by rw [List.length_map]; exact (rsp i).1) (by rw [List.length_map]; exact m1))
                      (fun j H7 => Same H6 H7 ∧ H7 D = some (.lst ((((List.zipWith (fun s l => s - l) (rowAt d S C i) (moved d i C).1).take j).map fun x => decide (x < 0)).map V.bl))) ⟨Same.new nD, upd_same⟩ (fun j H7 _ h => ⟨h.1.tup hxs', h.1.lst (SqL.of hp)⟩) ?_ ?_
                    · rintro j y H7 H8 hj ⟨e7, hD⟩ ⟨T', x1, y1, rfl, nT, rfl, hx1, hy1⟩
                      obtain ⟨n1, f1, rfl⟩ := vI_inv hx1
                      obtain ⟨n2, f2, rfl⟩ := vI_inv hy1
                      walk_at "go"
                      refine ⟨rfl, ?_⟩
                      walk_at "go"
                      refine iteT ?_
                      walk_at "go"
                      refine ⟨_, get_new hD nT, szl' (by simp; omega), Same.mut (e7.trans (Same.new nT)) nD, ?_⟩
                      rw [upd_same, take_succ_get (show (List.zipWith (fun s l => s - l) (rowAt d S C i) (moved d i C).1)[j]? = _ from zipW_get f1 f2)]
                      have hdd : decide (n1 < n2) = decide (n1 - n2 < 0) := decide_eq_decide.mpr (by omega)
                      rw [hdd]
                      simp
                    · rintro H7 ⟨e7, hD⟩
                      rw [List.take_of_length_le (by rw [hzl]; exact Nat.le_refl _)] at hD
                      walk_at "go"
                      refine c_any (SqL.of hD) ?_
                      rw [nn_any, ← leftRow_eq ok S C hCl hSl]
                      cases hv : nnRow (leftRow d S C i) with
                      | false =>
                        refine c_bl ?_
                        refine iteT ?_
                        walk_at "go"
                        have hlf : lawOk d S C d.T = false := by
                          unfold lawOk
                          rw [Bool.eq_false_iff]
                          intro z
                          have := List.all_eq_true.mp z i (List.mem_range.mpr hi)
                          rw [hv] at this
                          cases this
                        rw [hlf] at k
                        exact k _ (e13.trans (e46.trans e7))
                      | true =>
                        refine c_bl ?_
                        refine iteF ?_
                        walk_at "go"
                        exact ⟨_, _, _, rfl, e46.trans e7, by rw [lawOk_succ, hlo, hv]; rfl⟩
                  · rintro σ' H4 ⟨v6, v7, v8, rfl, e4, hlo⟩
                    exact hR _ _ ⟨_, _, _, rfl, e4, hlo⟩
end
section
variable {P : Program} {w : World} {K : PySem.W.Frag} {mg : Str → Option Value} {base : Heap}
theorem all_bad {α : Type} {f : α → Bool} {l : List α} {i : Nat} {x : α} (h : l[i]? = some x) (hf : f x = false) : l.all f = false := by
  cases e : l.all f with
  | false => rfl
  | true =>
    rw [List.all_eq_true.mp e x (List.mem_of_getElem? h)] at hf
    cases hf
theorem take_all {α : Type} {f : α → Bool} {l : List α} {i : Nat} {x : α} (h : l[i]? = some x) (ht : (l.take i).all f = true) (hf : f x = true) : (l.take (i + 1)).all f = true := by
  rw [take_succ_get h, List.all_append, ht, List.all_cons, hf]
  rfl
theorem cut13 (h b e wt r : V) : cutV [h, b, e, wt, r] (some 1) (some 3) = [b, e] := rfl
theorem df_law_is_day (B : Bl mg) (hset : mg "set" = none) (D_is_number : Df P w K mg base "_law_is_number" 1 ["thing", "least", "most"] (spIsFrom K)) (F : Has K mg "_law_is_day" s__law_is_day) : Df P w K mg base "_law_is_day" 3 ["thing"] (spIsDay K) := by
  refine df_of F sc__law_is_day (fun _ _ _ _ _ _ us hl => match us, hl with | [_], _ => rfl) (fun vs H Q E h => ?_) (fun f cdv A outer s H vs Q E hr h => ?_)
  · obtain ⟨x, o, rfl, _⟩ := h
    rfl
  · obtain ⟨x, o, rfl, hx, k⟩ := h
    refine ⟨(tSeq (tIfS (tOr (tNot (tB (tCB (rIsi K) (tCons (tVar 0) (tCons (tC (.ty "tuple")) tNil))))) (tOr (tTest (tOp rNe (tCB (rLenS K) (tCons (tVar 0) tNil)) (tC (.int 3)))) (tNot (tB (tCall (spIsFrom K) [] E0 (tCons (tOp (rIxT K) (tVar 0) (tC (.int 0))) (tCons (tC (.int 2)) (tCons (tC (.int 5)) tNil)))))))) (tRet (tC (.bl false))) tNext) (tSeq (tIfS (tOr (tNot (tB (tCall (spIsFrom K) [] E0 (tCons (tOp (rIxT K) (tVar 0) (tC (.int 1))) (tCons (tC (.int 1)) (tCons (tC (.int 8)) tNil)))))) (tOr (tNot (tB (tCB (rIsi K) (tCons (tOp (rIxT K) (tVar 0) (tC (.int 2))) (tCons (tC (.ty "tuple")) tNil))))) (tTest (tOp (rI0 fun i j => .bl (decide (j < i))) (tCB (rLenS K) (tCons (tOp (rIxT K) (tVar 0) (tC (.int 2))) tNil)) (tC (.int 12)))))) (tRet (tC (.bl false))) tNext) (tSeq (tFor (iTup K (tOp (rIxT K) (tVar 0) (tC (.int 2)))) (gName 1) (tSeq (tIfS (tOr (tNot (tB (tCB (rIsi K) (tCons (tVar 1) (tCons (tC (.ty "tuple")) tNil))))) (tOr (tTest (tOp rNe (tCB (rLenS K) (tCons (tVar 1) tNil)) (tC (.int 5)))) (tNot (tB (tCB (rIsi K) (tCons (tOp (rIxT K) (tVar 1) (tC (.int 3))) (tCons (tC (.ty "bool")) tNil))))))) (tRet (tC (.bl false))) tNext) (tSeq (tIfS (tOr (tNot (tB (tCall (spIsFrom K) [] E0 (tCons (tOp (rIxT K) (tVar 1) (tC (.int 0))) (tCons (tC (.int 0)) (tCons (tOp (rI0 fun i j => .int (i - j)) (tOp (rIxT K) (tVar 0) (tC (.int 1))) (tC (.int 1))) tNil)))))) (tNot (tB (tCall (spIsFrom K) [] E0 (tCons (tOp (rIxT K) (tVar 1) (tC (.int 4))) (tCons (tC (.int 1)) (tCons (tC (.int 3)) tNil))))))) (tRet (tC (.bl false))) tNext) (tSeq (tAsg (tLc (iTup K (tSl (rSlA K) (tVar 1) (tPart (tC (.int 1))) (tPart (tC (.int 3))))) (gName 3) (tNot (tB (tCall (spIsFrom K) [] E0 (tCons (tVar 3) (tCons (tC (.int 0)) (tCons (tOp (rI0 fun i j => .int (i - j)) (tOp (rIxT K) (tVar 0) (tC (.int 0))) (tC (.int 1))) tNil)))))) (tC (.int 1)) [3]) (gName 2)) (tIfS (tOr (tTest (tOp (rNeD K) (tVar 2) (tLst tNil))) (tTest (tOp rEq (tOp (rIxT K) (tVar 1) (tC (.int 1))) (tOp (rIxT K) (tVar 1) (tC (.int 2)))))) (tRet (tC (.bl false))) tNext))))) (tRet (tOp (rEqD K) (tCB (rListOf K) (tCons (tOp (rIxT K) (tVar 0) (tC (.int 2))) tNil)) (tCB (rSortedS K P w) (tCons (tCB (rSetW K P w) (tCons (tOp (rIxT K) (tVar 0) (tC (.int 2))) tNil)) tNil))))))),
      (pss_cons (ps_if (PW.pt (pw_or (pt_not (pt_val (pe_callB call_isi (by rfl) B.isinstance bt_isinstance (pa_cons (pv 0) (pa_cons (pe_bltn (v := .ty "tuple") (by rfl) B.tuple bt_tuple rfl) pa_nil))))) (pw_or (pt_cmpR op_ne (pe_callB call_len_seq (by rfl) B.len bt_len (pa_cons (pv 0) pa_nil)) pe_int (nomark _)) (pw_or1 (pt_not (pt_val (pe_df D_is_number (hr.mono (by decide)) (by rfl) (pa_cons (pe_ix ix_tup (pv 0) pe_int (fun _ _ => rfl)) (pa_cons pe_int (pa_cons pe_int pa_nil)))))))))) (pss_one (ps_ret pe_bl)) pss_nil)
      (pss_cons (ps_if (PW.pt (pw_or (pt_not (pt_val (pe_df D_is_number (hr.mono (by decide)) (by rfl) (pa_cons (pe_ix ix_tup (pv 0) pe_int (fun _ _ => rfl)) (pa_cons pe_int (pa_cons pe_int pa_nil)))))) (pw_or (pt_not (pt_val (pe_callB call_isi (by rfl) B.isinstance bt_isinstance (pa_cons (pe_ix ix_tup (pv 0) pe_int (fun _ _ => rfl)) (pa_cons (pe_bltn (v := .ty "tuple") (by rfl) B.tuple bt_tuple rfl) pa_nil))))) (pw_or1 (pt_cmpR op_gt (pe_callB call_len_seq (by rfl) B.len bt_len (pa_cons (pe_ix ix_tup (pv 0) pe_int (fun _ _ => rfl)) pa_nil)) pe_int (nomark _)))))) (pss_one (ps_ret pe_bl)) pss_nil)
      (pss_cons (ps_for PassesOwn.never rfl (pi_tup (pe_ix ix_tup (pv 0) pe_int (fun _ _ => rfl))) (pg_name (i := 1) sc__law_is_day.nd rfl (by first | exact Or.inl rfl | exact Or.inr rfl))
      (pss_cons (ps_if (PW.pt (pw_or (pt_not (pt_val (pe_callB call_isi (by rfl) B.isinstance bt_isinstance (pa_cons (pv 1) (pa_cons (pe_bltn (v := .ty "tuple") (by rfl) B.tuple bt_tuple rfl) pa_nil))))) (pw_or (pt_cmpR op_ne (pe_callB call_len_seq (by rfl) B.len bt_len (pa_cons (pv 1) pa_nil)) pe_int (nomark _)) (pw_or1 (pt_not (pt_val (pe_callB call_isi (by rfl) B.isinstance bt_isinstance (pa_cons (pe_ix ix_tup (pv 1) pe_int (fun _ _ => rfl)) (pa_cons (pe_bltn (v := .ty "bool") (by rfl) B.bool bt_bool rfl) pa_nil))))))))) (pss_one (ps_ret pe_bl)) pss_nil)
      (pss_cons (ps_if (PW.pt (pw_or (pt_not (pt_val (pe_df D_is_number (hr.mono (by decide)) (by rfl) (pa_cons (pe_ix ix_tup (pv 1) pe_int (fun _ _ => rfl)) (pa_cons pe_int (pa_cons (pe_op op_sub (pe_ix ix_tup (pv 0) pe_int (fun _ _ => rfl)) pe_int) pa_nil)))))) (pw_or1 (pt_not (pt_val (pe_df D_is_number (hr.mono (by decide)) (by rfl) (pa_cons (pe_ix ix_tup (pv 1) pe_int (fun _ _ => rfl)) (pa_cons pe_int (pa_cons pe_int pa_nil))))))))) (pss_one (ps_ret pe_bl)) pss_nil)
      (pss_cons (ps_setLc (i := 2) (own := [("place", 3)]) (g := (gName 3)) (tt := (tNot (tB (tCall (spIsFrom K) [] E0 (tCons (tVar 3) (tCons (tC (.int 0)) (tCons (tOp (rI0 fun i j => .int (i - j)) (tOp (rIxT K) (tVar 0) (tC (.int 0))) (tC (.int 1))) tNil))))))) (te := (tC (.int 1))) rfl sc__law_is_day.nd rfl rfl (sw_true rfl rfl rfl (by decide +kernel)) (pi_tup (pe_slice sl_tupA (pv 1) (po_some pe_int) (po_some pe_int))) (blkOk_by (own := [("place", 3)]) (N := ["thing", "walk", "odd_ends", "place"]) (sc := defScope s__law_is_day) (by decide +kernel)) (fun _ _ _ _ _ => (pg_name (i := 3) sc__law_is_day.nd rfl (by first | exact Or.inl rfl | exact Or.inr rfl))) (fun _ _ _ _ _ => (pts_one (pt_not (pt_val (pe_df D_is_number (hr.mono (by decide)) (by rfl) (pa_cons (pv 3) (pa_cons pe_int (pa_cons (pe_op op_sub (pe_ix ix_tup (pv 0) pe_int (fun _ _ => rfl)) pe_int) pa_nil)))))))) (fun _ _ _ _ _ => pe_int))
      (pss_one (ps_if (PW.pt (pw_or (pt_cmpR (op_neD hr.units) (pv 2) (pe_lst pa_nil) (nomark _)) (pw_or1 (pt_cmpR op_eq (pe_ix ix_tup (pv 1) pe_int (fun _ _ => rfl)) (pe_ix ix_tup (pv 1) pe_int (fun _ _ => rfl)) (nomark _))))) (pss_one (ps_ret pe_bl)) pss_nil))))))
      (pss_one (ps_ret (pe_cmpR (op_eqD hr.units) (pe_callTy call_list_of (by rfl) B.list bt_list (pa_cons (pe_ix ix_tup (pv 0) pe_int (fun _ _ => rfl)) pa_nil)) (pe_callB (cr_sortedS rfl) (by rfl) B.sorted bt_sorted (pa_cons (pe_callTy (cr_setW rfl hr.units) (by rfl) hset bt_set (pa_cons (pe_ix ix_tup (pv 0) pe_int (fun _ _ => rfl)) pa_nil)) pa_nil)) (nomark _))))))), ?_⟩
    walk_at "go"
    rcases hx with ⟨rfl, hn | ⟨t, ys, rfl, ht, h3⟩⟩ | ⟨t, p, h, z, ow, rfl, rfl, ht, kp, kh, hz⟩
    · refine isi_ntup hn ?_
      walk_at "go"
      refine iteT ?_
      refine iteT ?_
      walk_at "go"
      exact k _ (Same.refl _)
    · refine isi_tup ht ?_
      walk_at "go"
      refine iteF ?_
      walk_at "go"
      rw [show (!decide ((ys.length : Int) = 3)) = true by simp; omega]
      refine iteT ?_
      refine iteT ?_
      walk_at "go"
      exact k _ (Same.refl _)
    · refine isi_tup ht ?_
      walk_at "go"
      refine iteF ?_
      walk_at "go"
      refine iteF ?_
      walk_at "go"
      refine ⟨p, 2, 5, rfl, kp, ?_⟩
      refine c_bl ?_
      have hd : dayB (some (p, h, ow)) = (isFromV p 2 5 && (isFromV h 1 8 && match ow with | none => false | some os => (decide (os.length ≤ 12) && (os.all (walkB (intV p) (intV h)) && risingB (os.map wkOf))))) := by
        cases ow with
        | none => show false = _; simp
        | some os => rfl
      rw [hd] at k
      cases q1 : isFromV p 2 5 with
      | false =>
        rw [q1] at k
        refine iteT ?_
        walk_at "go"
        exact k _ (Same.refl _)
      | true =>
        rw [q1, Bool.true_and] at k
        refine iteF ?_
        walk_at "go"
        refine ⟨h, 1, 8, rfl, kh, ?_⟩
        refine c_bl ?_
        cases q2 : isFromV h 1 8 with
        | false =>
          rw [q2] at k
          refine iteT ?_
          refine iteT ?_
          walk_at "go"
          exact k _ (Same.refl _)
        | true =>
          rw [q2, Bool.true_and] at k
          refine iteF ?_
          obtain ⟨P', rfl, p1, p2⟩ := isFromV_ex q1
          obtain ⟨T', rfl, t1, t2⟩ := isFromV_ex q2
          have hip : intV (V.int P') = P' := rfl
          have hih : intV (V.int T') = T' := rfl
          rw [hip, hih] at k
          walk_at "go"
          rcases hz with ⟨rfl, hz⟩ | ⟨tz, ws, os, rfl, rfl, htz, hwl, hol, hws⟩
          · refine isi_ntup hz ?_
            walk_at "go"
            refine iteT ?_
            refine iteT ?_
            walk_at "go"
            exact k _ (Same.refl _)
          · refine isi_tup htz ?_
            walk_at "go"
            refine iteF ?_
            walk_at "go"
            dsimp only at k
            by_cases h12 : os.length ≤ 12
            · rw [show decide ((12 : Int) < (ws.length : Int)) = false from decide_eq_false (by omega)]
              rw [decide_eq_true h12, Bool.true_and] at k
              refine iteF ?_
              walk_at "gn"
              with_reducible refine c_seqJ (fun σ' H' => ∃ v1 v2, σ' = [some (.ref t), v1, v2, none] ∧ Same H H' ∧ os.all (walkB P' T') = true) ?_ ?_
              · rintro σ3 H3 ⟨v1, v2, rfl, e3, hall⟩
                rw [hall, Bool.true_and] at k
                have ht3 := e3.tup ht
                have htz3 := e3.tup htz
                have hb : ∀ v ∈ os.map wkOf, WkB P'.toNat T'.toNat v := fun v hv => by
                  obtain ⟨o, ho, rfl⟩ := List.mem_map.mp hv
                  obtain ⟨P2, T2, a1, a2, a3, _⟩ := walkB_of (List.all_eq_true.mp hall o ho)
                  obtain rfl : P2 = P'.toNat := by omega
                  obtain rfl : T2 = T'.toNat := by omega
                  exact a3
                have hwk : Wks K H3 ws (os.map wkOf) := ⟨by rw [List.length_map, hwl], fun i v hv => by
                  rw [List.getElem?_map] at hv
                  obtain ⟨o, ho, rfl⟩ := Option.map_eq_some_iff.mp hv
                  obtain ⟨_, _, _, _, _, ho2⟩ := walkB_of (List.all_eq_true.mp hall o (List.mem_of_getElem? ho))
                  have hi : i < ws.length := by rw [hwl]; exact (List.getElem?_eq_some_iff.mp ho).1
                  rcases hws i _ _ (List.getElem?_eq_getElem hi) ho with ⟨hn, _⟩ | ⟨t', ys, h1, h2, h3, _⟩
                  · rw [ho2] at hn; cases hn
                  · rw [ho2] at h1
                    cases h1
                    exact ⟨t', by rw [List.getElem?_eq_getElem hi, h2], e3.tup h3⟩⟩
                walk_at "go"
                intro l nl
                have e4 : Same H3 (upd H3 l (.lst ws)) := Same.new nl
                have hl4 : SqL K (upd H3 l (.lst ws)) l ws := SqL.of upd_same
                generalize upd H3 l (.lst ws) = H4 at e4 hl4 ⊢
                have e04 := e3.trans e4
                have ht4 := e04.tup ht
                have htz4 := e04.tup htz
                walk_at "go"
                refine ⟨tz, ws, os.map wkOf, rfl, htz4, hwk.tx (.of e4), by rw [List.length_map]; exact h12, fun a L na hL nd hm => ?_⟩
                have e5 : Same H4 (upd H4 a (SWO P w a L)) := Same.new na
                walk_at "go"
                refine ⟨a, L, rfl, upd_same, fun q hq => e5.tup (hL q hq), fun q hq => ?_, fun L' p' pm nd' pw np => ?_⟩
                · exact (hb q.1 ((hm q.1).mp (List.mem_map.mpr ⟨q, hq, rfl⟩))).bd (by omega) (by omega)
                · have e6 : Same (upd H4 a (SWO P w a L)) (upd (upd H4 a (SWO P w a L)) p' (.lst (L'.map fun q => V.ref q.2))) := Same.new np
                  have e46 := e5.trans e6
                  have hw' : Wks K (upd (upd H4 a (SWO P w a L)) p' (.lst (L'.map fun q => V.ref q.2))) (L'.map fun q => V.ref q.2) (L'.map (·.1)) := wks_of fun q hq => e46.tup (hL q (pm.mem_iff.mp hq))
                  refine c_eqWks (e46.lst hl4) ((hwk.tx (.of e4)).tx (.of e46)) (SqL.of upd_same) hw' ?_
                  rw [once_rising (P := P'.toNat) (T := T'.toNat) (by omega) (by omega) hb nd' (fun v => by rw [(pm.map (·.1)).mem_iff]; exact hm v) (List.pairwise_map.mpr pw)]
                  exact k _ (e04.trans e46)
              · intro R hR
                walk_at "go"
                refine ⟨tz, rfl, ⟨ws, htz⟩, ?_⟩
                refine for_it (walk_tup (xs := ws)) (fun j σ' H' => ∃ v1 v2, σ' = [some (.ref t), v1, v2, none] ∧ Same H H' ∧ (os.take j).all (walkB P' T') = true) ⟨_, _, rfl, Same.refl _, rfl⟩ (fun j σ' H' _ ⟨_, _, _, e', _⟩ => e'.tup htz) ?_ ?_
                · rintro j y σ' H3 H4 hj ⟨v1, v2, rfl, e3, hall⟩ ⟨rfl, hy⟩
                  have hjo : j < os.length := by omega
                  have ho : os[j]? = some os[j] := List.getElem?_eq_getElem hjo
                  have ht3 := e3.tup ht
                  have bad : walkB P' T' os[j] = false → ∀ H', Same H H' → Q (.bl false) H' := fun hb H' e' => by
                    have := k _ e'
                    rw [all_bad ho hb] at this
                    exact this
                  walk_at "go"
                  rcases (hws j y _ hy ho).same e3 with ⟨hon, hny⟩ | ⟨ty, ys, hos, rfl, hty, hk, hl⟩
                  · refine isi_ntup hny ?_
                    walk_at "go"
                    refine iteT ?_
                    refine iteT ?_
                    walk_at "go"
                    exact bad (by rw [hon]; rfl) _ e3
                  · refine isi_tup hty ?_
                    walk_at "go"
                    refine iteF ?_
                    walk_at "go"
                    by_cases h5 : ys.length = 5
                    · obtain ⟨h, b, e, wt, r, rfl⟩ := five_of h5
                      have hw : walkB P' T' os[j] = (isFromV h 0 (T' - 1) && (isFromV b 0 (P' - 1) && (isFromV e 0 (P' - 1) && (!decide (intV b = intV e) && (isBoolV wt && isFromV r 1 3))))) := by rw [hos]; rfl
                      refine iteF ?_
                      walk_at "go"
                      refine isi_bool (hk wt (by simp)) ?_
                      refine c_bl ?_
                      cases q5 : isBoolV wt with
                      | false =>
                        refine iteT ?_
                        walk_at "go"
                        exact bad (by rw [hw, q5]; simp) _ e3
                      | true =>
                        refine iteF ?_
                        walk_at "go"
                        refine ⟨h, 0, T' - 1, rfl, hk h (by simp), ?_⟩
                        refine c_bl ?_
                        cases q6 : isFromV h 0 (T' - 1) with
                        | false =>
                          refine iteT ?_
                          refine iteT ?_
                          walk_at "go"
                          exact bad (by rw [hw, q6]; simp) _ e3
                        | true =>
                          refine iteF ?_
                          walk_at "go"
                          refine ⟨r, 1, 3, rfl, hk r (by simp), ?_⟩
                          refine c_bl ?_
                          cases q7 : isFromV r 1 3 with
                          | false =>
                            refine iteT ?_
                            walk_at "go"
                            exact bad (by rw [hw, q7]; simp) _ e3
                          | true =>
                            refine iteF ?_
                            walk_at "go"
                            refine c_slQ hty fun p1' H4 e4 h1 => ?_
                            rw [cut13] at h1
                            have ht4 := e4.tup ht3
                            refine ⟨p1', rfl, ⟨_, h1⟩, fun D nD => ?_⟩
                            refine lc_it (walk_tup (xs := [b, e])) (fun i H5 => Same H4 H5 ∧ H5 D = some (.lst ((([b, e].take i).filter fun x => !isFromV x 0 (P' - 1)).map fun _ => V.int 1))) ⟨Same.new nD, upd_same⟩ (fun i H5 _ h => h.1.tup h1) ?_ ?_
                            · rintro i x H5 H6 hi ⟨e5, hD⟩ ⟨rfl, hx⟩
                              have hmx : x ∈ [b, e] := List.mem_of_getElem? hx
                              have ht5 := e5.tup ht4
                              have hfl := List.length_filter_le (fun x => !isFromV x 0 (P' - 1)) ([b, e].take i)
                              rw [List.length_take] at hfl
                              simp only [List.length_cons, List.length_nil] at hfl hi
                              rw [take_succ_get hx, List.filter_append, List.map_append]
                              walk_at "go"
                              refine ⟨rfl, ?_⟩
                              walk_at "go"
                              refine ⟨x, 0, P' - 1, rfl, (hk x (by simp at hmx ⊢; rcases hmx with rfl | rfl <;> simp)).same (e4.trans e5), ?_⟩
                              refine c_bl ?_
                              cases hv : isFromV x 0 (P' - 1) with
                              | false =>
                                refine iteT ?_
                                walk_at "go"
                                refine ⟨_, hD, szl' (by rw [List.length_map]; omega), e5.mut nD, ?_⟩
                                rw [upd_same]
                                simp [hv]
                              | true =>
                                refine iteF ⟨e5, ?_⟩
                                rw [hD]
                                simp [hv]
                            · rintro H5 ⟨e5, hD⟩
                              rw [List.take_of_length_le (Nat.le_refl _)] at hD
                              walk_at "go"
                              refine ⟨szl (by simp), fun E0' nE => ?_⟩
                              have s6 := Same.new (o := .lst []) nE
                              have hty6 := ((e4.trans e5).trans s6).tup hty
                              refine c_neNilF (fun x hx => by obtain ⟨_, _, rfl⟩ := List.mem_map.mp hx; trivial) (SqL.of (s6 _ _ hD)) (SqL.of upd_same) ?_
                              rw [List.isEmpty_map]
                              have e6 := ((e3.trans e4).trans e5).trans s6
                              generalize upd H5 E0' (.lst []) = H6 at e6 hty6 ⊢
                              walk_at "go"
                              cases q8 : isFromV b 0 (P' - 1) with
                              | false =>
                                rw [show ([b, e].filter fun x => !isFromV x 0 (P' - 1)).isEmpty = false by rw [List.filter_cons_of_pos (by rw [q8]; rfl)]; rfl]
                                refine iteT ?_
                                refine iteT ?_
                                walk_at "go"
                                exact bad (by rw [hw, q8]; simp) _ e6
                              | true =>
                                cases q9 : isFromV e 0 (P' - 1) with
                                | false =>
                                  rw [show ([b, e].filter fun x => !isFromV x 0 (P' - 1)).isEmpty = false by rw [List.filter_cons_of_neg (by rw [q8]; decide), List.filter_cons_of_pos (by rw [q9]; rfl)]; rfl]
                                  refine iteT ?_
                                  refine iteT ?_
                                  walk_at "go"
                                  exact bad (by rw [hw, q9]; simp) _ e6
                                | true =>
                                  rw [show ([b, e].filter fun x => !isFromV x 0 (P' - 1)).isEmpty = true by rw [List.filter_cons_of_neg (by rw [q8]; decide), List.filter_cons_of_neg (by rw [q9]; decide)]; rfl]
                                  refine iteF ?_
                                  obtain ⟨b', rfl, _, _⟩ := isFromV_ex q8
                                  obtain ⟨e', rfl, _, _⟩ := isFromV_ex q9
                                  walk_at "go"
                                  have hi : (!decide (intV (V.int b') = intV (V.int e'))) = !decide (b' = e') := rfl
                                  rw [hi, q5, q6, q7, q8, q9] at hw
                                  cases q10 : decide (b' = e') with
                                  | true =>
                                    refine iteT ?_
                                    walk_at "go"
                                    exact bad (by rw [hw, q10]; rfl) _ e6
                                  | false =>
                                    refine iteF ?_
                                    walk_at "go"
                                    exact ⟨_, _, rfl, e6, take_all ho hall (by rw [hw, q10]; rfl)⟩
                    · rw [show (!decide ((ys.length : Int) = 5)) = true by simp; omega]
                      refine iteT ?_
                      refine iteT ?_
                      walk_at "go"
                      exact bad (by rw [hos]; exact walkB_no h5) _ e3
                · rintro σ' H3 ⟨v1, v2, rfl, e3, hall⟩
                  rw [List.take_of_length_le (by omega)] at hall
                  exact hR _ _ ⟨_, _, rfl, e3, hall⟩
            · rw [show decide ((12 : Int) < (ws.length : Int)) = true from decide_eq_true (by omega)]
              rw [decide_eq_false h12] at k
              refine iteT ?_
              walk_at "go"
              exact k _ (Same.refl _)
theorem c_eqNilF {K : PySem.W.Frag} {H : Hp} {Q : VK} {a b : Addr} {L : List V} (hF : ∀ x ∈ L, Fl3 x) (ha : SqL K H a L) (hb : SqL K H b []) (q : Q (.bl L.isEmpty) H) : rEqD K (.ref a) (.ref b) H Q := by
  obtain ⟨d, e, h1, h2, h3, h4, h5⟩ := c_neNilF (Q := fun v H' => v = .bl (!L.isEmpty) ∧ H' = H) hF ha hb ⟨rfl, rfl⟩
  refine ⟨d, e, h1, h2, h3, h4, ?_⟩
  have h6 : (!PyData.eqv d e) = !L.isEmpty := by
    have := h5.1
    injection this
  have h7 : PyData.eqv d e = L.isEmpty := by
    cases z : PyData.eqv d e <;> cases y : L.isEmpty <;> rw [z, y] at h6 <;> simp at h6 <;> rfl
  rw [h7]
  exact q
theorem df_law_are_numbers (B : Bl mg) (D_is_number : Df P w K mg base "_law_is_number" 1 ["thing", "least", "most"] (spIsFrom K)) (F : Has K mg "_law_are_numbers" s__law_are_numbers) : Df P w K mg base "_law_are_numbers" 3 ["day", "thing"] (spAreNumbers K) := by
  refine df_of F sc__law_are_numbers (fun _ _ _ _ _ _ us hl => match us, hl with | [_, _], _ => rfl) (fun vs H Q E h => ?_) (fun f cdv A outer s H vs Q E hr h => ?_)
  · obtain ⟨a, aw, d, x, o, rfl, _⟩ := h
    rfl
  · obtain ⟨a, aw, d, x, o, rfl, hday, hx, k⟩ := h
    refine ⟨(tSeq (tIfS (tOr (tNot (tB (tCB (rIsi K) (tCons (tVar 1) (tCons (tC (.ty "tuple")) tNil))))) (tTest (tOp rNe (tCB (rLenS K) (tCons (tVar 1) tNil)) (tOp (rIxT K) (tVar 0) (tC (.int 0)))))) (tRet (tC (.bl false))) tNext) (tRet (tOp (rEqD K) (tLc (iTup K (tVar 1)) (gName 2) (tNot (tB (tCall (spIsFrom K) [] E0 (tCons (tVar 2) (tCons (tC (.int 0)) (tCons (tC (.int 20)) tNil)))))) (tVar 2) [2]) (tLst tNil)))),
      (pss_cons (ps_if (PW.pt (pw_or (pt_not (pt_val (pe_callB call_isi (by rfl) B.isinstance bt_isinstance (pa_cons (pv 1) (pa_cons (pe_bltn (v := .ty "tuple") (by rfl) B.tuple bt_tuple rfl) pa_nil))))) (pw_or1 (pt_cmpR op_ne (pe_callB call_len_seq (by rfl) B.len bt_len (pa_cons (pv 1) pa_nil)) (pe_ix ix_tup (pv 0) pe_int (fun _ _ => rfl)) (nomark _))))) (pss_one (ps_ret pe_bl)) pss_nil)
      (pss_one (ps_ret (pe_cmpR (op_eqD hr.units) (pe_lc (own := [("one", 2)]) (g := (gName 2)) (tt := (tNot (tB (tCall (spIsFrom K) [] E0 (tCons (tVar 2) (tCons (tC (.int 0)) (tCons (tC (.int 20)) tNil))))))) (te := (tVar 2)) rfl sc__law_are_numbers.nd (pi_tup (pv 1)) (blkOk_by (own := [("one", 2)]) (N := ["day", "thing", "one"]) (sc := defScope s__law_are_numbers) (by decide +kernel)) (fun _ _ _ _ _ => (pg_name (i := 2) sc__law_are_numbers.nd rfl (by first | exact Or.inl rfl | exact Or.inr rfl))) (fun _ _ _ _ _ => (pts_one (pt_not (pt_val (pe_df D_is_number (hr.mono (by decide)) (by rfl) (pa_cons (pv 2) (pa_cons pe_int (pa_cons pe_int pa_nil)))))))) (fun _ _ _ _ _ => (pv 2))) (pe_lst pa_nil) (nomark _))))), ?_⟩
    walk_at "go"
    rcases hx with ⟨rfl, hn⟩ | ⟨t, ss, rfl, rfl, ht, hf, hl⟩
    · refine isi_ntup hn ?_
      walk_at "go"
      refine iteT ?_
      refine iteT ?_
      walk_at "go"
      exact k _ (Same.refl _)
    · refine isi_tup ht ?_
      walk_at "go"
      refine iteF ?_
      walk_at "go"
      dsimp only at k
      by_cases hP : ss.length = d.P
      · rw [show (!decide ((ss.length : Int) = (d.P : Int))) = false by simp [hP]]
        rw [decide_eq_true hP, Bool.true_and] at k
        refine iteF ?_
        walk_at "go"
        refine ⟨t, rfl, ⟨ss, ht⟩, fun D nD => ?_⟩
        refine lc_it (walk_tup (xs := ss)) (fun q H' => Same H H' ∧ H' D = some (.lst ((ss.take q).filter fun x => !isFromV x 0 20))) ⟨Same.new nD, upd_same⟩ (fun q H' _ h => h.1.tup ht) ?_ ?_
        · rintro q z H1 H2 hq ⟨e1, hD⟩ ⟨rfl, hz⟩
          have hfl := List.length_filter_le (fun x => !isFromV x 0 20) (ss.take q)
          rw [List.length_take] at hfl
          rw [take_succ_get hz, List.filter_append]
          walk_at "go"
          refine ⟨rfl, ?_⟩
          walk_at "go"
          refine ⟨z, 0, 20, rfl, (hf z (List.mem_of_getElem? hz)).kn, ?_⟩
          refine c_bl ?_
          cases hv : isFromV z 0 20 with
          | false =>
            refine iteT ?_
            walk_at "go"
            refine ⟨_, hD, szl' (by omega), e1.mut nD, ?_⟩
            rw [upd_same]
            simp [hv]
          | true =>
            refine iteF ⟨e1, ?_⟩
            rw [hD]
            simp [hv]
        · rintro H1 ⟨e1, hD⟩
          rw [List.take_length] at hD
          walk_at "go"
          refine ⟨szl (by simp), fun E0' nE => ?_⟩
          have s2 := Same.new (o := .lst []) nE
          refine c_eqNilF (fun x hx => hf x ((List.mem_filter.mp hx).1)) (SqL.of (s2 _ _ hD)) (SqL.of upd_same) ?_
          rw [bad_eq]
          exact k _ (e1.trans s2)
      · rw [show (!decide ((ss.length : Int) = (d.P : Int))) = true by simp; omega]
        rw [decide_eq_false hP] at k
        refine iteT ?_
        walk_at "go"
        exact k _ (Same.refl _)
end
section
variable {P : Program} {w : World} {K : PySem.W.Frag} {mg : Str → Option Value} {base : Heap}
theorem c_catN {K : PySem.W.Frag} {H : Hp} {Q : VK} {a b : Addr} {xs ys : List V} (ha : SqT K H a xs) (hb : SqT K H b ys) (hne : ys ≠ []) (hz : xs.length + ys.length ≤ sizeLine) (q : ∀ p H', Same H H' → (p = b ∨ H p = none) → SqT K H' p (xs ++ ys) → Q (.ref p) H') : rCatA K (.ref a) (.ref b) H Q :=
  ⟨a, b, xs, ys, rfl, rfl, ha, hb, hz, fun h => q b H (Same.refl _) (.inl rfl) (by rw [h]; exact hb), fun _ h => absurd h hne, fun _ _ p np => q p _ (Same.new np) (.inr np) (SqT.of upd_same)⟩
theorem mk_kI {K : PySem.W.Frag} {σ : L2.St} {H : Hp} {i : Int} : Mks σ H (tC (.int i)) (KnP K) := mk_c fun _ => trivial
theorem mk_kB {K : PySem.W.Frag} {σ : L2.St} {H : Hp} {i : Bool} : Mks σ H (tC (.bl i)) (KnP K) := mk_c fun _ => trivial
def spOdd (K : PySem.W.Frag) : Sp := fun vs H Q _ => ∃ (r ad aw : Addr) (ds : List V) (d : Day), vs = [.ref r, .ref ad] ∧ Bag H r ∧ DayAt K H ad aw ds d ∧ d.ws.length ≤ 100 ∧
  ∀ (H' : Hp) (l : Addr) (xs : List V), Ov r H H' → Bag H' r → H' l = some (.lst xs) → xs.length ≤ 100 → (∀ x ∈ xs, DkP K x H') → Q (.ref l) H'
theorem df_odd (B : Bl mg) (D_take : Df P w K mg base "_law_take" 1 ["bag", "count"] spTake) (D_of : Df P w K mg base "_law_of" 2 ["bag", "some"] (spOf K)) (F : Has K mg "_law_odd" s__law_odd) : Df P w K mg base "_law_odd" 3 ["bag", "day"] (spOdd K) := by
  refine df_of F sc__law_odd (fun _ _ _ _ _ _ us hl => match us, hl with | [_, _], _ => rfl) (fun vs H Q E h => ?_) (fun f cdv A outer s H vs Q E hr h => ?_)
  · obtain ⟨r, ad, aw, ds, d, rfl, _⟩ := h
    rfl
  · obtain ⟨r, ad, aw, ds, d, rfl, hb, hd, hWl, k⟩ := h
    have hday := hd.day
    have hseq := hd.seq
    have hwl := hd.wks.len
    refine ⟨(tSeq (tAsg (tVar 1) (gTup K 3 (gCons (gName 2) (gCons (gName 3) (gCons (gName 4) gNil))))) (tSeq (tAsg (tCB (rListOf K) (tCons (tCall (spOf K) [] E0 (tCons (tVar 0) (tCons (tOp (rCatA K) (tVar 4) (tTup (tCons (tTup (tCons (tC (.int 0)) (tCons (tC (.int 0)) (tCons (tC (.int 1)) (tCons (tC (.bl true)) (tCons (tC (.int 1)) tNil)))))) tNil))) tNil))) tNil)) (gName 5)) (tSeq (tAsg (tCall (spOf K) [] E0 (tCons (tVar 0) (tCons (tLst (tCons (tC (.int 0)) (tCons (tC (.int 1)) (tCons (tC (.int 2)) (tCons (tC (.int 3)) (tCons (tC (.int 4)) (tCons (tC (.int 5)) (tCons (tC (.int 8)) (tCons (tUn (rU fun i => .int (-i)) (tC (.int 1))) (tCons (tC (.bl true)) (tCons (tC (.bl false)) (tCons (tC .non) (tCons (tC (.str "0")) tNil))))))))))))) tNil))) (gSub (tVar 5) (tCall spTake [] E0 (tCons (tVar 0) (tCons (tC (.int 5)) tNil))) rSetL)) (tSeq (tAsg (tOp (rCatA K) (tCB (rTupOf K) (tCons (tLc (iTup K (tTup (tCons (tC (.int 1)) (tCons (tC (.int 2)) (tCons (tC (.int 3)) tNil))))) (gName 7) tYes (tTup (tCons (tC (.int 0)) (tCons (tC (.int 0)) (tCons (tC (.int 1)) (tCons (tC (.bl false)) (tCons (tVar 7) tNil)))))) [7]) tNil)) (tCB (rTupOf K) (tCons (tLc (iTup K (tTup (tCons (tC (.int 1)) (tCons (tC (.int 2)) (tCons (tC (.int 3)) tNil))))) (gName 7) tYes (tTup (tCons (tC (.int 0)) (tCons (tC (.int 0)) (tCons (tC (.int 1)) (tCons (tC (.bl true)) (tCons (tVar 7) tNil)))))) [7]) tNil))) (gName 6)) (tSeq (tAsg (tOp (rCatA K) (tVar 6) (tCB (rTupOf K) (tCons (tLc (iTup K (tVar 6)) (gName 9) tYes (tOp (rCatA K) (tTup (tCons (tC (.int 1)) tNil)) (tSl (rSlA K) (tVar 9) (tPart (tC (.int 1))) tNoPart)) [9]) tNil))) (gName 8)) (tSeq (tAsg (tLst (tCons (tVar 1) (tCons (tCB (rListOf K) (tCons (tVar 1) tNil)) (tCons (tSl (rSlA K) (tVar 1) tNoPart (tPart (tC (.int 2)))) (tCons (tOp (rCatA K) (tVar 1) (tTup (tCons (tTup tNil) tNil))) (tCons (tTup (tCons (tC (.int 1)) (tCons (tVar 3) (tCons (tTup tNil) tNil)))) (tCons (tTup (tCons (tC (.int 6)) (tCons (tVar 3) (tCons (tTup tNil) tNil)))) (tCons (tTup (tCons (tVar 2) (tCons (tC (.int 9)) (tCons (tVar 4) tNil)))) tNil)))))))) (gName 10)) (tSeq (tAsg (tOp rCat (tVar 10) (tLst (tCons (tTup (tCons (tC (.bl true)) (tCons (tC (.int 1)) (tCons (tTup tNil) tNil)))) (tCons (tTup (tCons (tC (.int 2)) (tCons (tC (.int 2)) (tCons (tVar 8) tNil)))) (tCons (tTup (tCons (tC (.int 2)) (tCons (tC (.int 2)) (tCons (tOp (rCatA K) (tVar 8) (tTup (tCons (tTup (tCons (tC (.int 1)) (tCons (tC (.int 1)) (tCons (tC (.int 0)) (tCons (tC (.bl true)) (tCons (tC (.int 1)) tNil)))))) tNil))) tNil)))) (tCons (tC .non) (tCons (tC (.int 5)) (tCons (tTup tNil) (tCons (tC (.str "day")) tNil))))))))) (gName 10)) (tSeq (tAsg (tOp rCat (tVar 10) (tLst (tCons (tTup (tCons (tVar 2) (tCons (tVar 3) (tCons (tOp (rCatA K) (tVar 4) (tSl (rSlA K) (tVar 4) tNoPart (tPart (tC (.int 1))))) tNil)))) (tCons (tTup (tCons (tVar 2) (tCons (tVar 3) (tCons (tRevT K (tVar 4)) tNil)))) (tCons (tTup (tCons (tTup tNil) (tCons (tC (.int 1)) (tCons (tC (.int 2)) tNil)))) tNil))))) (gName 10)) (tSeq (tAsg (tOp rCat (tVar 10) (tLst (tCons (tTup (tCons (tVar 2) (tCons (tVar 3) (tCons (tCB (rListOf K) (tCons (tVar 4) tNil)) tNil)))) (tCons (tTup (tCons (tVar 2) (tCons (tC (.int 0)) (tCons (tTup tNil) tNil)))) (tCons (tTup (tCons (tVar 2) (tCons (tVar 3) (tCons (tTup (tCons (tCB (rTupOf K) (tCons (tVar 5) tNil)) tNil)) tNil)))) tNil))))) (gName 10)) (tRet (tOp rCat (tVar 10) (tLst (tCons (tTup (tCons (tVar 2) (tCons (tVar 3) (tCons (tOp (rCatA K) (tVar 4) (tTup (tCons (tCB (rTupOf K) (tCons (tVar 5) tNil)) tNil))) tNil)))) (tCons (tTup (tCons (tVar 2) (tCons (tVar 3) (tCons (tTup (tCons (tVar 5) tNil)) tNil)))) tNil)))))))))))))),
      (pss_cons (ps_asg (pv 1) (pg_tup rfl (pgs_cons (pg_name (i := 2) sc__law_odd.nd rfl (by first | exact Or.inl rfl | exact Or.inr rfl)) (pgs_cons (pg_name (i := 3) sc__law_odd.nd rfl (by first | exact Or.inl rfl | exact Or.inr rfl)) (pgs_cons (pg_name (i := 4) sc__law_odd.nd rfl (by first | exact Or.inl rfl | exact Or.inr rfl)) pgs_nil)))))
      (pss_cons (ps_set (i := 5) sc__law_odd.nd rfl (by first | exact Or.inl rfl | exact Or.inr rfl) (pe_callTy call_list_of (by rfl) B.list bt_list (pa_cons (pe_df D_of (hr.mono (by decide)) (by rfl) (pa_cons (pv 0) (pa_cons (pe_op op_catA (pv 4) (pe_tup (pa_cons (pe_tup (pa_cons pe_int (pa_cons pe_int (pa_cons pe_int (pa_cons pe_bl (pa_cons pe_int pa_nil)))))) pa_nil))) pa_nil))) pa_nil)))
      (pss_cons (ps_asg (pe_df D_of (hr.mono (by decide)) (by rfl) (pa_cons (pv 0) (pa_cons (pe_lst (pa_cons pe_int (pa_cons pe_int (pa_cons pe_int (pa_cons pe_int (pa_cons pe_int (pa_cons pe_int (pa_cons pe_int (pa_cons (pe_un un_neg pe_int) (pa_cons pe_bl (pa_cons pe_bl (pa_cons pe_non (pa_cons pe_str pa_nil))))))))))))) pa_nil))) (pg_sub (pv 5) (pe_df D_take (hr.mono (by decide)) (by rfl) (pa_cons (pv 0) (pa_cons pe_int pa_nil))) set_list))
      (pss_cons (ps_set (i := 6) sc__law_odd.nd rfl (by first | exact Or.inl rfl | exact Or.inr rfl) (pe_op op_catA (pe_callTy call_tuple_of (by rfl) B.tuple bt_tuple (pa_cons (pe_lc (own := [("room", 7)]) (g := (gName 7)) (tt := tYes) (te := (tTup (tCons (tC (.int 0)) (tCons (tC (.int 0)) (tCons (tC (.int 1)) (tCons (tC (.bl false)) (tCons (tVar 7) tNil))))))) rfl sc__law_odd.nd (pi_tup (pe_tup (pa_cons pe_int (pa_cons pe_int (pa_cons pe_int pa_nil))))) (blkOk_by (own := [("room", 7)]) (N := ["bag", "day", "places_so", "long", "walks", "walk", "full", "room", "many", "row", "some"]) (sc := defScope s__law_odd) (by decide +kernel)) (fun _ _ _ _ _ => (pg_name (i := 7) sc__law_odd.nd rfl (by first | exact Or.inl rfl | exact Or.inr rfl))) (fun _ _ _ _ _ => pts_nil) (fun _ _ _ _ _ => (pe_tup (pa_cons pe_int (pa_cons pe_int (pa_cons pe_int (pa_cons pe_bl (pa_cons (pv 7) pa_nil)))))))) pa_nil)) (pe_callTy call_tuple_of (by rfl) B.tuple bt_tuple (pa_cons (pe_lc (own := [("room", 7)]) (g := (gName 7)) (tt := tYes) (te := (tTup (tCons (tC (.int 0)) (tCons (tC (.int 0)) (tCons (tC (.int 1)) (tCons (tC (.bl true)) (tCons (tVar 7) tNil))))))) rfl sc__law_odd.nd (pi_tup (pe_tup (pa_cons pe_int (pa_cons pe_int (pa_cons pe_int pa_nil))))) (blkOk_by (own := [("room", 7)]) (N := ["bag", "day", "places_so", "long", "walks", "walk", "full", "room", "many", "row", "some"]) (sc := defScope s__law_odd) (by decide +kernel)) (fun _ _ _ _ _ => (pg_name (i := 7) sc__law_odd.nd rfl (by first | exact Or.inl rfl | exact Or.inr rfl))) (fun _ _ _ _ _ => pts_nil) (fun _ _ _ _ _ => (pe_tup (pa_cons pe_int (pa_cons pe_int (pa_cons pe_int (pa_cons pe_bl (pa_cons (pv 7) pa_nil)))))))) pa_nil))))
      (pss_cons (ps_set (i := 8) sc__law_odd.nd rfl (by first | exact Or.inl rfl | exact Or.inr rfl) (pe_op op_catA (pv 6) (pe_callTy call_tuple_of (by rfl) B.tuple bt_tuple (pa_cons (pe_lc (own := [("row", 9)]) (g := (gName 9)) (tt := tYes) (te := (tOp (rCatA K) (tTup (tCons (tC (.int 1)) tNil)) (tSl (rSlA K) (tVar 9) (tPart (tC (.int 1))) tNoPart))) rfl sc__law_odd.nd (pi_tup (pv 6)) (blkOk_by (own := [("row", 9)]) (N := ["bag", "day", "places_so", "long", "walks", "walk", "full", "room", "many", "row", "some"]) (sc := defScope s__law_odd) (by decide +kernel)) (fun _ _ _ _ _ => (pg_name (i := 9) sc__law_odd.nd rfl (by first | exact Or.inl rfl | exact Or.inr rfl))) (fun _ _ _ _ _ => pts_nil) (fun _ _ _ _ _ => (pe_op op_catA (pe_tup (pa_cons pe_int pa_nil)) (pe_slice sl_tupA (pv 9) (po_some pe_int) po_none)))) pa_nil))))
      (pss_cons (ps_set (i := 10) sc__law_odd.nd rfl (by first | exact Or.inl rfl | exact Or.inr rfl) (pe_lst (pa_cons (pv 1) (pa_cons (pe_callTy call_list_of (by rfl) B.list bt_list (pa_cons (pv 1) pa_nil)) (pa_cons (pe_slice sl_tupA (pv 1) po_none (po_some pe_int)) (pa_cons (pe_op op_catA (pv 1) (pe_tup (pa_cons (pe_tup pa_nil) pa_nil))) (pa_cons (pe_tup (pa_cons pe_int (pa_cons (pv 3) (pa_cons (pe_tup pa_nil) pa_nil)))) (pa_cons (pe_tup (pa_cons pe_int (pa_cons (pv 3) (pa_cons (pe_tup pa_nil) pa_nil)))) (pa_cons (pe_tup (pa_cons (pv 2) (pa_cons pe_int (pa_cons (pv 4) pa_nil)))) pa_nil)))))))))
      (pss_cons (ps_set (i := 10) sc__law_odd.nd rfl (by first | exact Or.inl rfl | exact Or.inr rfl) (pe_op op_cat (pv 10) (pe_lst (pa_cons (pe_tup (pa_cons pe_bl (pa_cons pe_int (pa_cons (pe_tup pa_nil) pa_nil)))) (pa_cons (pe_tup (pa_cons pe_int (pa_cons pe_int (pa_cons (pv 8) pa_nil)))) (pa_cons (pe_tup (pa_cons pe_int (pa_cons pe_int (pa_cons (pe_op op_catA (pv 8) (pe_tup (pa_cons (pe_tup (pa_cons pe_int (pa_cons pe_int (pa_cons pe_int (pa_cons pe_bl (pa_cons pe_int pa_nil)))))) pa_nil))) pa_nil)))) (pa_cons pe_non (pa_cons pe_int (pa_cons (pe_tup pa_nil) (pa_cons pe_str pa_nil))))))))))
      (pss_cons (ps_set (i := 10) sc__law_odd.nd rfl (by first | exact Or.inl rfl | exact Or.inr rfl) (pe_op op_cat (pv 10) (pe_lst (pa_cons (pe_tup (pa_cons (pv 2) (pa_cons (pv 3) (pa_cons (pe_op op_catA (pv 4) (pe_slice sl_tupA (pv 4) po_none (po_some pe_int))) pa_nil)))) (pa_cons (pe_tup (pa_cons (pv 2) (pa_cons (pv 3) (pa_cons (pe_revT (pv 4)) pa_nil)))) (pa_cons (pe_tup (pa_cons (pe_tup pa_nil) (pa_cons pe_int (pa_cons pe_int pa_nil)))) pa_nil))))))
      (pss_cons (ps_set (i := 10) sc__law_odd.nd rfl (by first | exact Or.inl rfl | exact Or.inr rfl) (pe_op op_cat (pv 10) (pe_lst (pa_cons (pe_tup (pa_cons (pv 2) (pa_cons (pv 3) (pa_cons (pe_callTy call_list_of (by rfl) B.list bt_list (pa_cons (pv 4) pa_nil)) pa_nil)))) (pa_cons (pe_tup (pa_cons (pv 2) (pa_cons pe_int (pa_cons (pe_tup pa_nil) pa_nil)))) (pa_cons (pe_tup (pa_cons (pv 2) (pa_cons (pv 3) (pa_cons (pe_tup (pa_cons (pe_callTy call_tuple_of (by rfl) B.tuple bt_tuple (pa_cons (pv 5) pa_nil)) pa_nil)) pa_nil)))) pa_nil))))))
      (pss_one (ps_ret (pe_op op_cat (pv 10) (pe_lst (pa_cons (pe_tup (pa_cons (pv 2) (pa_cons (pv 3) (pa_cons (pe_op op_catA (pv 4) (pe_tup (pa_cons (pe_callTy call_tuple_of (by rfl) B.tuple bt_tuple (pa_cons (pv 5) pa_nil)) pa_nil))) pa_nil)))) (pa_cons (pe_tup (pa_cons (pv 2) (pa_cons (pv 3) (pa_cons (pe_tup (pa_cons (pv 5) pa_nil)) pa_nil)))) pa_nil))))))))))))))), ?_⟩
    walk_at "go"
    refine ⟨szl (by simp), fun t1 n1 => ?_⟩
    have s1 := Same.new (o := .tup [V.int 0, V.int 0, V.int 1, V.bl true, V.int 1]) n1
    have h1 : SqT K (upd H t1 (.tup [V.int 0, V.int 0, V.int 1, V.bl true, V.int 1])) t1 [V.int 0, V.int 0, V.int 1, V.bl true, V.int 1] := SqT.of upd_same
    generalize upd H t1 (.tup [V.int 0, V.int 0, V.int 1, V.bl true, V.int 1]) = H1 at s1 h1 ⊢
    walk_at "go"
    refine ⟨szl (by simp), fun t2 n2 => ?_⟩
    have s2 := Same.new (o := .tup [V.ref t1]) n2
    have hb2 := (hb.same s1).same s2
    have n2r : t2 ≠ r := (hb.same s1).ne n2
    refine c_catN ((s1.trans s2).tup hseq) (SqT.of upd_same) (by simp) (szl (by simp; omega)) fun p H3 s3 hp hp3 => ?_
    have hpr : p ≠ r := by
      rcases hp with rfl | hp
      · exact n2r
      · exact hb2.ne hp
    have s03 := (s1.trans s2).trans s3
    have hb3 := hb.same s03
    have five : ∀ v ∈ ds ++ [V.ref t1], ∃ a ys, v = V.ref a ∧ SqT K H3 a ys ∧ ys.length = 5 ∧ ∀ y ∈ ys, ∀ H', Kn K H' y := by
      intro v hv
      rcases List.mem_append.mp hv with hv | hv
      · obtain ⟨i, hi, rfl⟩ := List.getElem_of_mem hv
        obtain ⟨wk, a, _, e, hs⟩ := hd.wks.get (List.getElem?_eq_getElem hi)
        refine ⟨a, _, e, s03.tup hs, rfl, fun y hy H' => ?_⟩
        simp [wkV] at hy
        rcases hy with rfl | rfl | rfl | rfl | rfl <;> trivial
      · rw [List.mem_singleton.mp hv]
        refine ⟨t1, _, rfl, (s2.trans s3).tup h1, rfl, fun y hy H' => ?_⟩
        simp at hy
        rcases hy with rfl | rfl | rfl | rfl <;> trivial
    walk_at "go"
    refine ⟨r, p, true, _, rfl, hb3, hp3, hpr, by simp, by simp; omega, fun i v H4 hv o4 hb4 => ?_⟩
    obtain ⟨va, ys, rfl, hys, hy5, hyk⟩ := five v (List.mem_of_getElem? hv)
    have hys4 := (hb3.tx o4).tup hys
    have o04 := (Ov.of s03).trans o4
    clear five hp hp3 hv
    walk_at "go"
    intro wl nwl
    have s5 := Same.new (o := .lst ys) nwl
    have hw5 : upd H4 wl (.lst ys) wl = some (.lst ys) := upd_same
    have hb5 := hb4.same s5
    have nwr : wl ≠ r := hb4.ne nwl
    have nw0 : H wl = none := hb4.free o04 nwl
    generalize upd H4 wl (.lst ys) = H5 at s5 hw5 hb5 ⊢
    have o05 := o04.trans (.of s5)
    walk_at "go"
    refine ⟨szl (by simp), fun ml nml => ?_⟩
    have s6 := Same.new (o := .lst [V.int 0, V.int 1, V.int 2, V.int 3, V.int 4, V.int 5, V.int 8, V.int (-1), V.bl true, V.bl false, V.non, V.str "0"]) nml
    refine ⟨r, ml, false, _, rfl, hb5.same s6, SqL.of upd_same, hb5.ne nml, by simp, by simp, fun i2 u H7 hu o7 hb7 => ?_⟩
    have hku : ∀ H', Kn K H' u := by
      have hm := List.mem_of_getElem? hu
      intro H'
      simp at hm
      rcases hm with rfl | rfl | rfl | rfl | rfl | rfl | rfl | rfl | rfl | rfl | rfl | rfl <;> trivial
    have o57 : Ov r H5 H7 := (Ov.of s6).trans o7
    have hw7 := o57 _ _ hw5 nwr
    have o07 := o05.trans o57
    walk_at "go"
    refine ⟨r, 5, rfl, hb7, by omega, by omega, fun j H8 hj o8 hb8 => ?_⟩
    have hw8 := o8 _ _ hw7 nwr
    have o08 := o07.trans o8
    refine c_setL hw8 (show ixN ys.length (j : Int) = some j by unfold ixN; rw [if_pos (by omega), if_pos (by omega)]; simp) ?_
    have hb9 : Bag (upd H8 wl (.lst (ys.set j u))) r := hb8.mut nwr.symm
    have o09 : Ov r H (upd H8 wl (.lst (ys.set j u))) := o08.mut nw0
    have hw9 : upd H8 wl (.lst (ys.set j u)) wl = some (.lst (ys.set j u)) := upd_same
    generalize upd H8 wl (.lst (ys.set j u)) = H9 at hb9 o09 hw9 ⊢
    have hzl : (ys.set j u).length ≤ 5 := by rw [List.length_set]; omega
    have hzk : ∀ y ∈ ys.set j u, ∀ H', Kn K H' y := fun y hy H' => by
      rcases List.mem_or_eq_of_mem_set hy with hy | rfl
      · exact hyk y hy H'
      · exact hku H'
    generalize ys.set j u = zs at hw9 hzl hzk
    have tx9 := hb.tx o09
    have hd9 := hd.tx tx9
    clear s1 s2 s3 s5 s6 o4 o04 o05 o57 o07 o08 o7 o8 hb2 hb3 hb4 hb5 hb7 hb8 hw5 hw7 hw8 h1 hys hys4 hday hseq tx9 hd s03
    have hday9 := hd9.day
    have hseq9 := hd9.seq
    have hwks9 : ∀ H1, Same H9 H1 → TupOf K 100 (TkP K) (.ref aw) H1 := fun H1 e => ⟨aw, ds, rfl, e.tup hseq9, by omega, fun y hy => by
      obtain ⟨i, hi, rfl⟩ := List.getElem_of_mem hy
      obtain ⟨wk, a, _, e1, hs⟩ := hd9.wks.get (List.getElem?_eq_getElem hi)
      rw [e1]
      refine tk_tup (n := 5) (by omega) ⟨a, _, rfl, e.tup hs, Nat.le_refl _, fun z hz => ?_⟩
      simp [wkV] at hz
      rcases hz with rfl | rfl | rfl | rfl | rfl <;> trivial⟩
    have hwalk9 : ∀ H1, Same H9 H1 → LstOf 5 (KnP K) (.ref wl) H1 := fun H1 e => ⟨wl, zs, rfl, e _ _ hw9, hzl, fun y hy => hzk y hy H1⟩
    have hdk9 : ∀ H1, Same H9 H1 → DkP K (.ref ad) H1 := fun H1 e => by
      obtain ⟨o, ho⟩ := ws_tup (by omega) (hwks9 H1 e)
      exact ⟨_, .inr ⟨ad, _, _, _, o, rfl, rfl, e.tup hday9, trivial, trivial, ho⟩⟩
    clear hw9 hzl hzk hyk hku
    -- full
    with_reducible refine c_seq (c_asg (mk_use (Φ := TupOf K (3 + 3) (TupOf K 5 (KnP K))) ?_ fun vf H10 e10 hf => c_gname ?_))
    · have one : ∀ b : Bool, Mks [some (.ref r), some (.ref ad), some (.int (d.P : Int)), some (.int (d.T : Int)), some (.ref aw), some (.ref wl), none, none, none, none, none] H9 (tCB (rTupOf K) (tCons (tLc (iTup K (tTup (tCons (tC (.int 1)) (tCons (tC (.int 2)) (tCons (tC (.int 3)) tNil))))) (gName 7) tYes (tTup (tCons (tC (.int 0)) (tCons (tC (.int 0)) (tCons (tC (.int 1)) (tCons (tC (.bl b)) (tCons (tVar 7) tNil)))))) [7]) tNil)) (TupOf K 3 (TupOf K 5 (KnP K))) := fun b =>
        mk_tupL (tupOf_stb knP) (mk_lcT knP (tupOf_stb knP) (by omega) (fun _ => rfl) (mk_tup knP (mka_cons knP mk_kI (mka_cons knP mk_kI (mka_cons knP mk_kI mka_nil))) (by omega)) fun v H1 e hv =>
          mk_tup knP (mka_cons knP mk_kI (mka_cons knP mk_kI (mka_cons knP mk_kI (mka_cons knP mk_kB (mka_cons knP (mk_var rfl fun H2 e2 => knP _ _ _ (.of e2) hv) mka_nil))))) (by omega))
      exact mk_catT (tupOf_stb knP) (one false) (one true) (by omega)
    -- many
    with_reducible refine c_seq (c_asg (mk_use (Φ := TupOf K (6 + 6) (TkP K)) ?_ fun vm H11 e11 hm => c_gname ?_))
    · have vfull : Mks [some (.ref r), some (.ref ad), some (.int (d.P : Int)), some (.int (d.T : Int)), some (.ref aw), some (.ref wl), some vf, none, none, none, none] H10 (tVar 6) (TupOf K 6 (TupOf K 5 (KnP K))) := mk_var rfl fun H1 e => tupOf_stb (tupOf_stb knP) _ _ _ (.of e) hf
      exact mk_catT tkP (mk_imp vfull fun x H1 _ ⟨t, xs, h1, h2, h3, h4⟩ => ⟨t, xs, h1, h2, h3, fun y hy => tk_tup (by omega) (h4 y hy)⟩)
        (mk_tupL tkP (mk_lcT (tupOf_stb knP) tkP (by omega) (fun _ => rfl) vfull fun v H1 e hv =>
          mk_imp (mk_catT knP (mk_tup knP (mka_cons knP mk_kI mka_nil) (by omega)) (mk_slT knP (mk_var rfl fun H2 e2 => tupOf_stb knP _ _ _ (.of e2) hv) mko_c mko_no) (by omega)) fun x H2 _ h => tk_tup (by omega) h)) (by omega)
    have e911 := e10.trans e11
    have many : ∀ {o : Option V} {H1 : Hp}, Same H11 H1 → Mks [some (.ref r), some (.ref ad), some (.int (d.P : Int)), some (.int (d.T : Int)), some (.ref aw), some (.ref wl), some vf, none, some vm, none, o] H1 (tVar 8) (TupOf K 12 (TkP K)) := fun e => mk_var rfl fun H2 e2 => tupOf_stb tkP _ _ _ (.of (e.trans e2)) hm
    have walks : ∀ {o : Option V} {H1 : Hp}, Same H9 H1 → Mks [some (.ref r), some (.ref ad), some (.int (d.P : Int)), some (.int (d.T : Int)), some (.ref aw), some (.ref wl), some vf, none, some vm, none, o] H1 (tVar 4) (TupOf K 100 (TkP K)) := fun e => mk_var rfl fun H2 e2 => hwks9 _ (e.trans e2)
    have walk : ∀ {o : Option V} {H1 : Hp}, Same H9 H1 → Mks [some (.ref r), some (.ref ad), some (.int (d.P : Int)), some (.int (d.T : Int)), some (.ref aw), some (.ref wl), some vf, none, some vm, none, o] H1 (tVar 5) (LstOf 5 (KnP K)) := fun e => mk_var rfl fun H2 e2 => hwalk9 _ (e.trans e2)
    have pl : ∀ {o : Option V} {H1 : Hp}, Mks [some (.ref r), some (.ref ad), some (.int (d.P : Int)), some (.int (d.T : Int)), some (.ref aw), some (.ref wl), some vf, none, some vm, none, o] H1 (tVar 2) (KnP K) := mk_var rfl fun H2 e2 => trivial
    have lo : ∀ {o : Option V} {H1 : Hp}, Mks [some (.ref r), some (.ref ad), some (.int (d.P : Int)), some (.int (d.T : Int)), some (.ref aw), some (.ref wl), some vf, none, some vm, none, o] H1 (tVar 3) (KnP K) := mk_var rfl fun H2 e2 => trivial
    have nilW : ∀ {o : Option V} {H1 : Hp}, Mks [some (.ref r), some (.ref ad), some (.int (d.P : Int)), some (.int (d.T : Int)), some (.ref aw), some (.ref wl), some vf, none, some vm, none, o] H1 (tTup tNil) (WsP K) := mk_tupNil fun p H1 h => ws_nil h
    have toW : ∀ {n : Nat} {o : Option V} {H1 : Hp} {te : TE}, n ≤ 1000 → Mks [some (.ref r), some (.ref ad), some (.int (d.P : Int)), some (.int (d.T : Int)), some (.ref aw), some (.ref wl), some vf, none, some vm, none, o] H1 te (TupOf K n (TkP K)) → Mks [some (.ref r), some (.ref ad), some (.int (d.P : Int)), some (.int (d.T : Int)), some (.ref aw), some (.ref wl), some vf, none, some vm, none, o] H1 te (WsP K) := fun h m => mk_imp m fun x H2 _ hx => ws_tup h hx
    have toT : ∀ {n : Nat} {o : Option V} {H1 : Hp} {te : TE}, n ≤ 1000 → Mks [some (.ref r), some (.ref ad), some (.int (d.P : Int)), some (.int (d.T : Int)), some (.ref aw), some (.ref wl), some vf, none, some vm, none, o] H1 te (TupOf K n (KnP K)) → Mks [some (.ref r), some (.ref ad), some (.int (d.P : Int)), some (.int (d.T : Int)), some (.ref aw), some (.ref wl), some vf, none, some vm, none, o] H1 te (TkP K) := fun h m => mk_imp m fun x H2 _ hx => tk_tup h hx
    have oneT : ∀ {o : Option V} {H1 : Hp} {te : TE}, Mks [some (.ref r), some (.ref ad), some (.int (d.P : Int)), some (.int (d.T : Int)), some (.ref aw), some (.ref wl), some vf, none, some vm, none, o] H1 te (TkP K) → Mks [some (.ref r), some (.ref ad), some (.int (d.P : Int)), some (.int (d.T : Int)), some (.ref aw), some (.ref wl), some vf, none, some vm, none, o] H1 (tTup (tCons te tNil)) (TupOf K 1 (TkP K)) := fun m => mk_tup tkP (mka_cons tkP m mka_nil) (by omega)
    have noD : ∀ {o : Option V} {H1 : Hp} {v : V}, (∀ H', NTup K H' v) → Mks [some (.ref r), some (.ref ad), some (.int (d.P : Int)), some (.int (d.T : Int)), some (.ref aw), some (.ref wl), some vf, none, some vm, none, o] H1 (tC v) (DkP K) := fun h => mk_c fun H' => dk_no (h H')
    -- the first seven
    with_reducible refine c_seq (c_asg (mk_use (Φ := LstOf 7 (DkP K)) ?_ fun v1 H12 e12 hs1 => c_gname ?_))
    · have c1 : Mks [some (.ref r), some (.ref ad), some (.int (d.P : Int)), some (.int (d.T : Int)), some (.ref aw), some (.ref wl), some vf, none, some vm, none, none] H11 (tVar 1) (DkP K) := mk_var rfl fun H1 e => hdk9 _ (e911.trans e)
      have c2 : Mks [some (.ref r), some (.ref ad), some (.int (d.P : Int)), some (.int (d.T : Int)), some (.ref aw), some (.ref wl), some vf, none, some vm, none, none] H11 (tCB (rListOf K) (tCons (tVar 1) tNil)) (DkP K) := mk_imp (mk_lisT (n := 3) (Φ := fun _ _ => True) (fun _ _ _ _ _ => trivial) (mk_var rfl fun H1 e => ⟨ad, _, rfl, (e911.trans e).tup hday9, Nat.le_refl _, fun _ _ => trivial⟩)) fun x H1 _ h => dk_no (lst_ntup h)
      have c3 : Mks [some (.ref r), some (.ref ad), some (.int (d.P : Int)), some (.int (d.T : Int)), some (.ref aw), some (.ref wl), some vf, none, some vm, none, none] H11 (tSl (rSlA K) (tVar 1) tNoPart (tPart (tC (.int 2)))) (DkP K) := fun H1 e Q q => c_sl (c_var rfl (c_nopart (c_part ⟨2, rfl, c_slQ ((e911.trans e).tup hday9) fun p H2 e2 hp => q _ _ e2 (dk_odd hp (fun z => nomatch (show (2 : Nat) = 3 from z)))⟩)))
      have c4 : Mks [some (.ref r), some (.ref ad), some (.int (d.P : Int)), some (.int (d.T : Int)), some (.ref aw), some (.ref wl), some vf, none, some vm, none, none] H11 (tOp (rCatA K) (tVar 1) (tTup (tCons (tTup tNil) tNil))) (DkP K) := fun H1 e Q q => c_op (c_var rfl (c_tup (c_cons (c_tup (c_nil ⟨szl (by simp), fun p np => c_nil ⟨szl (by simp), fun p2 np2 =>
        c_catQ (((e911.trans e).trans ((Same.new np).trans (Same.new np2))).tup hday9) (SqT.of upd_same) (szl (by simp)) fun p3 H3 e3 hp => q _ _ (((Same.new np).trans (Same.new np2)).trans e3) (dk_odd hp (by simp))⟩⟩)))))
      exact mk_lst dkP (mka_cons dkP c1 (mka_cons dkP c2 (mka_cons dkP c3 (mka_cons dkP c4 (mka_cons dkP (mk_day mk_kI lo nilW) (mka_cons dkP (mk_day mk_kI lo nilW) (mka_cons dkP (mk_day pl mk_kI (toW (by omega) (walks e911))) mka_nil))))))) (by omega)
    have e912 := e911.trans e12
    with_reducible refine c_seq (c_asg (mk_use (Φ := LstOf (7 + 7) (DkP K)) ?_ fun v2 H13 e13 hs2 => c_gname ?_))
    · refine mk_catL dkP (mk_var (σ := [some (.ref r), some (.ref ad), some (.int (d.P : Int)), some (.int (d.T : Int)), some (.ref aw), some (.ref wl), some vf, none, some vm, none, some v1]) rfl fun H1 e => lstOf_same dkP e hs1) (mk_lst dkP (mka_cons dkP (mk_day mk_kB mk_kI nilW) (mka_cons dkP (mk_day mk_kI mk_kI (toW (by omega) (many e12))) (mka_cons dkP (mk_day mk_kI mk_kI (toW (by omega) (mk_catT tkP (many e12) (oneT (toT (by omega) (mk_tup knP (mka_cons knP mk_kI (mka_cons knP mk_kI (mka_cons knP mk_kI (mka_cons knP mk_kB (mka_cons knP mk_kI mka_nil))))) (by omega)))) (by omega)))) (mka_cons dkP (noD fun _ => trivial) (mka_cons dkP (noD fun _ => trivial) (mka_cons dkP (mk_tupNil fun p H1 h => dk_odd h (by simp)) (mka_cons dkP (noD fun _ => trivial) mka_nil))))))) (by omega)) (by omega)
    have e913 := e912.trans e13
    with_reducible refine c_seq (c_asg (mk_use (Φ := LstOf (14 + 3) (DkP K)) ?_ fun v3 H14 e14 hs3 => c_gname ?_))
    · refine mk_catL dkP (mk_var (σ := [some (.ref r), some (.ref ad), some (.int (d.P : Int)), some (.int (d.T : Int)), some (.ref aw), some (.ref wl), some vf, none, some vm, none, some v2]) rfl fun H1 e => lstOf_same dkP e hs2) (mk_lst dkP (mka_cons dkP (mk_day pl lo (toW (by omega) (mk_catT tkP (walks e913) (mk_slT tkP (walks e913) mko_no mko_c) (by omega)))) (mka_cons dkP (mk_day pl lo (toW (by omega) (mk_revT tkP (walks e913)))) (mka_cons dkP (mk_day (mk_tupNil fun p H1 h => .inl ⟨_, h⟩) mk_kI (mk_c fun _ => ws_no trivial)) mka_nil))) (by omega)) (by omega)
    have e914 := e913.trans e14
    have tw : ∀ {o : Option V} {H1 : Hp}, Same H9 H1 → Mks [some (.ref r), some (.ref ad), some (.int (d.P : Int)), some (.int (d.T : Int)), some (.ref aw), some (.ref wl), some vf, none, some vm, none, o] H1 (tCB (rTupOf K) (tCons (tVar 5) tNil)) (TkP K) := fun e => toT (n := 5) (by omega) (mk_tupL knP (walk e))
    with_reducible refine c_seq (c_asg (mk_use (Φ := LstOf (17 + 3) (DkP K)) ?_ fun v4 H15 e15 hs4 => c_gname ?_))
    · refine mk_catL dkP (mk_var (σ := [some (.ref r), some (.ref ad), some (.int (d.P : Int)), some (.int (d.T : Int)), some (.ref aw), some (.ref wl), some vf, none, some vm, none, some v3]) rfl fun H1 e => lstOf_same dkP e hs3) (mk_lst dkP (mka_cons dkP (mk_day pl lo (mk_imp (mk_lisT tkP (walks e914)) fun x H1 _ h => ws_no (lst_ntup h))) (mka_cons dkP (mk_day pl mk_kI nilW) (mka_cons dkP (mk_day pl lo (toW (by omega) (oneT (tw e914)))) mka_nil))) (by omega)) (by omega)
    have e915 := e914.trans e15
    dsimp only
    refine c_ret (mk_use (Φ := LstOf (20 + 2) (DkP K)) ?_ fun x H16 e16 ⟨l, xs, hx, h1, h2, h3⟩ => ?_)
    · refine mk_catL dkP (mk_var (σ := [some (.ref r), some (.ref ad), some (.int (d.P : Int)), some (.int (d.T : Int)), some (.ref aw), some (.ref wl), some vf, none, some vm, none, some v4]) rfl fun H1 e => lstOf_same dkP e hs4) (mk_lst dkP (mka_cons dkP (mk_day pl lo (toW (by omega) (mk_catT tkP (walks e915) (oneT (tw e915)) (by omega)))) (mka_cons dkP (mk_day pl lo (toW (by omega) (oneT (mk_imp (walk e915) fun x H1 _ h => tk_no (lst_ntup h))))) mka_nil)) (by omega)) (by omega)
    · subst hx
      have e916 := e915.trans e16
      exact k H16 l xs (o09.trans (.of e916)) (hb9.same e916) h1 (by omega) h3
end
section
variable {P : Program} {w : World} {K : PySem.W.Frag} {mg : Str → Option Value} {base : Heap}
def TvP (K : PySem.W.Frag) : Vp := fun x H => ∃ o, TV K H x o
def PlP (K : PySem.W.Frag) : Vp := fun x H => NTup K H x ∨ (∃ t xs, x = .ref t ∧ SqT K H t xs ∧ xs.length ≠ 2) ∨ ∃ t s c os oc, x = .ref t ∧ SqT K H t [s, c] ∧ TV K H s os ∧ TV K H c oc
def FlP : Vp := fun x _ => Fl3 x
theorem flP : Stb FlP := fun _ _ _ _ h => h
theorem tvP {K : PySem.W.Frag} : Stb (TvP K) := fun x H H' e ⟨o, h⟩ => ⟨o, h.kp e⟩
theorem plP {K : PySem.W.Frag} : Stb (PlP K) := fun x H H' e h => by
  rcases h with h | ⟨t, xs, h1, h2, h3⟩ | ⟨t, s, c, os, oc, h1, h2, h3, h4⟩
  · exact .inl (h.kp e)
  · exact .inr (.inl ⟨t, xs, h1, e.tx.tup h2, h3⟩)
  · exact .inr (.inr ⟨t, s, c, os, oc, h1, e.tx.tup h2, h3.kp e, h4.kp e⟩)
theorem tv_tup {K : PySem.W.Frag} {H : Hp} {n : Nat} {x : V} (hn : n ≤ 1000) (h : TupOf K n FlP x H) : TvP K x H := by
  obtain ⟨t, xs, rfl, h1, h2, h3⟩ := h
  exact ⟨some xs, .inr ⟨t, xs, rfl, rfl, h1, h3, by omega⟩⟩
theorem tv_no {K : PySem.W.Frag} {H : Hp} {x : V} (h : NTup K H x) : TvP K x H := ⟨none, .inl ⟨rfl, h⟩⟩
theorem mk_pair {K : PySem.W.Frag} {σ : L2.St} {H : Hp} {ta tb : TE} (m1 : Mks σ H ta (TvP K)) (m2 : Mks σ H tb (TvP K)) : Mks σ H (tTup (tCons ta (tCons tb tNil))) (PlP K) := fun H1 e Q q =>
  m1 H1 e _ fun x H2 e2 ⟨os, hx⟩ => m2 H2 (e.trans e2) _ fun y H3 e3 ⟨oc, hy⟩ => ⟨szl (by simp), fun p np => q _ _ ((e2.trans e3).trans (Same.new np)) (.inr (.inr ⟨p, x, y, os, oc, rfl, SqT.of upd_same, hx.kp (.of (e3.trans (Same.new np))), hy.kp (.of (Same.new np))⟩))⟩
theorem mk_one {K : PySem.W.Frag} {σ : L2.St} {H : Hp} {ta : TE} {Φ : Vp} (m1 : Mks σ H ta Φ) : Mks σ H (tTup (tCons ta tNil)) (PlP K) := fun H1 e Q q =>
  m1 H1 e _ fun x H2 e2 hx => ⟨szl (by simp), fun p np => q _ _ (e2.trans (Same.new np)) (.inr (.inl ⟨p, [x], rfl, SqT.of upd_same, by simp⟩))⟩
theorem c_neNilT {K : PySem.W.Frag} {H : Hp} {Q : VK} {a b : Addr} {C : List Int} (ha : SqT K H a (vI C)) (hb : SqT K H b []) (q : Q (.bl (!C.isEmpty)) H) : rNeD K (.ref a) (.ref b) H Q := by
  refine ⟨_, _, .tup ha (dp_ints C), .tup hb .nil, tup_shape C, by decide +kernel, ?_⟩
  have e : PyData.eqv (.tuple (C.map PyData.int)) (.tuple []) = C.isEmpty := by
    cases C <;> simp [PyData.eqv, PyData.eqvAll]
  rw [e]
  exact q
def spBent (K : PySem.W.Frag) : Sp := fun vs H Q _ => ∃ (r pl sa ca : Addr) (S C : List Int), vs = [.ref r, .ref pl] ∧ Bag H r ∧ SqT K H pl [.ref sa, .ref ca] ∧ SqT K H sa (vI S) ∧ SqT K H ca (vI C) ∧ 1 ≤ S.length ∧ S.length ≤ 100 ∧ C.length ≤ 100 ∧
  ∀ (H' : Hp) (l : Addr) (xs : List V), Ov r H H' → Bag H' r → H' l = some (.lst xs) → xs.length ≤ 100 → (∀ x ∈ xs, PlP K x H') → Q (.ref l) H'
theorem df_bent (B : Bl mg) (D_take : Df P w K mg base "_law_take" 1 ["bag", "count"] spTake) (D_of : Df P w K mg base "_law_of" 2 ["bag", "some"] (spOf K)) (F : Has K mg "_law_bent_plans" s__law_bent_plans) : Df P w K mg base "_law_bent_plans" 3 ["bag", "plan"] (spBent K) := by
  refine df_of F sc__law_bent_plans (fun _ _ _ _ _ _ us hl => match us, hl with | [_, _], _ => rfl) (fun vs H Q E h => ?_) (fun f cdv A outer s H vs Q E hr h => ?_)
  · obtain ⟨r, pl, sa, ca, S, C, rfl, _⟩ := h
    rfl
  · obtain ⟨r, pl, sa, ca, S, C, rfl, hb, hpl, hS, hC, l1, l2, l3, k⟩ := h
    refine ⟨(tSeq (tAsg (tVar 1) (gTup K 2 (gCons (gName 2) (gCons (gName 3) gNil)))) (tSeq (tAsg (tCall spTake [] E0 (tCons (tVar 0) (tCons (tCB (rLenS K) (tCons (tVar 2) tNil)) tNil))) (gName 4)) (tSeq (tAsg (tOp (rI0 fun i j => .int (i + j)) (tOp (rIxT K) (tVar 2) (tVar 4)) (tCall (spOf K) [] E0 (tCons (tVar 0) (tCons (tLst (tCons (tC (.int 1)) (tCons (tUn (rU fun i => .int (-i)) (tC (.int 1))) (tCons (tC (.int 99)) tNil)))) tNil)))) (gName 5)) (tSeq (tAsg (tLst (tCons (tVar 1) (tCons (tCB (rListOf K) (tCons (tVar 1) tNil)) (tCons (tTup (tCons (tVar 2) (tCons (tCB (rListOf K) (tCons (tVar 3) tNil)) tNil))) (tCons (tTup (tCons (tOp (rCatA K) (tOp (rCatA K) (tSl (rSlA K) (tVar 2) tNoPart (tPart (tVar 4))) (tTup (tCons (tVar 5) tNil))) (tSl (rSlA K) (tVar 2) (tPart (tOp (rI0 fun i j => .int (i + j)) (tVar 4) (tC (.int 1)))) tNoPart)) (tCons (tVar 3) tNil))) tNil))))) (gName 6)) (tSeq (tAsg (tOp rCat (tVar 6) (tLst (tCons (tTup (tCons (tVar 2) tNil)) (tCons (tTup (tCons (tSl (rSlA K) (tVar 2) (tPart (tC (.int 1))) tNoPart) (tCons (tVar 3) tNil))) (tCons (tTup (tCons (tVar 2) (tCons (tOp (rCatA K) (tVar 3) (tTup (tCons (tC (.int 1)) tNil))) tNil))) (tCons (tTup (tCons (tVar 3) (tCons (tVar 2) tNil))) (tCons (tC .non) (tCons (tC (.int 7)) tNil)))))))) (gName 6)) (tSeq (tAsg (tOp rCat (tVar 6) (tLst (tCons (tTup (tCons (tVar 2) (tCons (tC .non) tNil))) (tCons (tTup (tCons (tTup tNil) (tCons (tTup tNil) tNil))) tNil)))) (gName 6)) (tSeq (tFor (iRng1 (tCons (tOp (rI CMul fun i j => .int (i * j)) (tC (.int 4)) (tCB rInt1 (tCons (tOp (rNeD K) (tVar 3) (tTup tNil)) tNil))) tNil)) (gName 7) (tSeq (tAsg (tCall spTake [] E0 (tCons (tVar 0) (tCons (tCB (rLenS K) (tCons (tVar 3) tNil)) tNil))) (gName 4)) (tSeq (tAsg (tCall (spOf K) [] E0 (tCons (tVar 0) (tCons (tLst (tCons (tOp (rI0 fun i j => .int (i + j)) (tOp (rIxT K) (tVar 3) (tVar 4)) (tC (.int 1))) (tCons (tOp (rI0 fun i j => .int (i - j)) (tOp (rIxT K) (tVar 3) (tVar 4)) (tC (.int 1))) (tCons (tC (.int 0)) (tCons (tC (.bl true)) (tCons (tC .non) tNil)))))) tNil))) (gName 5)) (tDrop (tBM K "list" rAppend (tVar 6) (tCons (tTup (tCons (tVar 2) (tCons (tOp (rCatA K) (tOp (rCatA K) (tSl (rSlA K) (tVar 3) tNoPart (tPart (tVar 4))) (tTup (tCons (tVar 5) tNil))) (tSl (rSlA K) (tVar 3) (tPart (tOp (rI0 fun i j => .int (i + j)) (tVar 4) (tC (.int 1)))) tNoPart)) tNil))) tNil)))))) (tRet (tVar 6))))))))),
      (pss_cons (ps_asg (pv 1) (pg_tup rfl (pgs_cons (pg_name (i := 2) sc__law_bent_plans.nd rfl (by first | exact Or.inl rfl | exact Or.inr rfl)) (pgs_cons (pg_name (i := 3) sc__law_bent_plans.nd rfl (by first | exact Or.inl rfl | exact Or.inr rfl)) pgs_nil))))
      (pss_cons (ps_set (i := 4) sc__law_bent_plans.nd rfl (by first | exact Or.inl rfl | exact Or.inr rfl) (pe_df D_take (hr.mono (by decide)) (by rfl) (pa_cons (pv 0) (pa_cons (pe_callB call_len_seq (by rfl) B.len bt_len (pa_cons (pv 2) pa_nil)) pa_nil))))
      (pss_cons (ps_set (i := 5) sc__law_bent_plans.nd rfl (by first | exact Or.inl rfl | exact Or.inr rfl) (pe_op op_add (pe_ix ix_tup (pv 2) (pv 4) (fun _ _ => rfl)) (pe_df D_of (hr.mono (by decide)) (by rfl) (pa_cons (pv 0) (pa_cons (pe_lst (pa_cons pe_int (pa_cons (pe_un un_neg pe_int) (pa_cons pe_int pa_nil)))) pa_nil)))))
      (pss_cons (ps_set (i := 6) sc__law_bent_plans.nd rfl (by first | exact Or.inl rfl | exact Or.inr rfl) (pe_lst (pa_cons (pv 1) (pa_cons (pe_callTy call_list_of (by rfl) B.list bt_list (pa_cons (pv 1) pa_nil)) (pa_cons (pe_tup (pa_cons (pv 2) (pa_cons (pe_callTy call_list_of (by rfl) B.list bt_list (pa_cons (pv 3) pa_nil)) pa_nil))) (pa_cons (pe_tup (pa_cons (pe_op op_catA (pe_op op_catA (pe_slice sl_tupA (pv 2) po_none (po_some (pv 4))) (pe_tup (pa_cons (pv 5) pa_nil))) (pe_slice sl_tupA (pv 2) (po_some (pe_op op_add (pv 4) pe_int)) po_none)) (pa_cons (pv 3) pa_nil))) pa_nil))))))
      (pss_cons (ps_set (i := 6) sc__law_bent_plans.nd rfl (by first | exact Or.inl rfl | exact Or.inr rfl) (pe_op op_cat (pv 6) (pe_lst (pa_cons (pe_tup (pa_cons (pv 2) pa_nil)) (pa_cons (pe_tup (pa_cons (pe_slice sl_tupA (pv 2) (po_some pe_int) po_none) (pa_cons (pv 3) pa_nil))) (pa_cons (pe_tup (pa_cons (pv 2) (pa_cons (pe_op op_catA (pv 3) (pe_tup (pa_cons pe_int pa_nil))) pa_nil))) (pa_cons (pe_tup (pa_cons (pv 3) (pa_cons (pv 2) pa_nil))) (pa_cons pe_non (pa_cons pe_int pa_nil)))))))))
      (pss_cons (ps_set (i := 6) sc__law_bent_plans.nd rfl (by first | exact Or.inl rfl | exact Or.inr rfl) (pe_op op_cat (pv 6) (pe_lst (pa_cons (pe_tup (pa_cons (pv 2) (pa_cons pe_non pa_nil))) (pa_cons (pe_tup (pa_cons (pe_tup pa_nil) (pa_cons (pe_tup pa_nil) pa_nil))) pa_nil)))))
      (pss_cons (ps_for PassesOwn.never rfl (pi_range1 (by rfl) B.range (pa_cons (pe_op op_mul pe_int (pe_callTy call_int1 (by rfl) B.int bt_int (pa_cons (pe_cmpR (op_neD hr.units) (pv 3) (pe_tup pa_nil) (nomark _)) pa_nil))) pa_nil)) (pg_name (i := 7) sc__law_bent_plans.nd rfl (by first | exact Or.inl rfl | exact Or.inr rfl))
      (pss_cons (ps_set (i := 4) sc__law_bent_plans.nd rfl (by first | exact Or.inl rfl | exact Or.inr rfl) (pe_df D_take (hr.mono (by decide)) (by rfl) (pa_cons (pv 0) (pa_cons (pe_callB call_len_seq (by rfl) B.len bt_len (pa_cons (pv 3) pa_nil)) pa_nil))))
      (pss_cons (ps_set (i := 5) sc__law_bent_plans.nd rfl (by first | exact Or.inl rfl | exact Or.inr rfl) (pe_df D_of (hr.mono (by decide)) (by rfl) (pa_cons (pv 0) (pa_cons (pe_lst (pa_cons (pe_op op_add (pe_ix ix_tup (pv 3) (pv 4) (fun _ _ => rfl)) pe_int) (pa_cons (pe_op op_sub (pe_ix ix_tup (pv 3) (pv 4) (fun _ _ => rfl)) pe_int) (pa_cons pe_int (pa_cons pe_bl (pa_cons pe_non pa_nil)))))) pa_nil))))
      (pss_one (ps_expr (pe_bm PySem.F.plainAttrs_list PySem.F.slot_list_append PySem.F.type_list_append mt_append (pv 6) (pa_cons (pe_tup (pa_cons (pv 2) (pa_cons (pe_op op_catA (pe_op op_catA (pe_slice sl_tupA (pv 3) po_none (po_some (pv 4))) (pe_tup (pa_cons (pv 5) pa_nil))) (pe_slice sl_tupA (pv 3) (po_some (pe_op op_add (pv 4) pe_int)) po_none)) pa_nil))) pa_nil)))))))
      (pss_one (ps_ret (pv 6)))))))))), ?_⟩
    walk_at "go"
    refine ⟨r, S.length, by simp, hb, by omega, by omega, fun at_ H1 hat o1 hb1 => ?_⟩
    have hS1 := (hb.tx o1).tup hS
    have hg := vI_get (ns := S) (i := at_) hat
    walk_at "go"
    refine ⟨szl (by simp), fun ml nml => ?_⟩
    have s2 := Same.new (o := .lst [V.int 1, V.int (-1), V.int 99]) nml
    refine ⟨r, ml, false, _, rfl, hb1.same s2, SqL.of upd_same, hb1.ne nml, by simp, by simp, fun i u H3 hu o3 hb3 => ?_⟩
    obtain ⟨z, rfl⟩ : ∃ z : Int, u = .int z := by
      have hm := List.mem_of_getElem? hu
      simp at hm
      rcases hm with rfl | rfl | rfl <;> exact ⟨_, rfl⟩
    have o03 : Ov r H H3 := (o1.trans (.of s2)).trans o3
    clear o3 s2 hb1 nml hu hS1
    refine c_I0 ?_
    generalize S.getD at_ 0 + z = num
    have tx3 := hb.tx o03
    have hpl3 := tx3.tup hpl
    have hS3 := tx3.tup hS
    have hC3 := tx3.tup hC
    have hSt : ∀ H1, Same H3 H1 → TupOf K 100 FlP (.ref sa) H1 := fun H1 e => ⟨sa, _, rfl, e.tup hS3, by rw [List.length_map]; exact l2, fun y hy => fl_ints y hy⟩
    have hCt : ∀ H1, Same H3 H1 → TupOf K 100 FlP (.ref ca) H1 := fun H1 e => ⟨ca, _, rfl, e.tup hC3, by rw [List.length_map]; exact l3, fun y hy => fl_ints y hy⟩
    have st : ∀ {a n o t : Option V} {H1 : Hp}, Same H3 H1 → Mks [some (.ref r), some (.ref pl), some (.ref sa), some (.ref ca), a, n, o, t] H1 (tVar 2) (TupOf K 100 FlP) := fun e => mk_var rfl fun H2 e2 => hSt _ (e.trans e2)
    have ct : ∀ {a n o t : Option V} {H1 : Hp}, Same H3 H1 → Mks [some (.ref r), some (.ref pl), some (.ref sa), some (.ref ca), a, n, o, t] H1 (tVar 3) (TupOf K 100 FlP) := fun e => mk_var rfl fun H2 e2 => hCt _ (e.trans e2)
    have tv : ∀ {m : Nat} {σ : L2.St} {H1 : Hp} {te : TE}, m ≤ 1000 → Mks σ H1 te (TupOf K m FlP) → Mks σ H1 te (TvP K) := fun h m => mk_imp m fun x H2 _ hx => tv_tup h hx
    have sv : ∀ {a n o t : Option V} {H1 : Hp}, Same H3 H1 → Mks [some (.ref r), some (.ref pl), some (.ref sa), some (.ref ca), a, n, o, t] H1 (tVar 2) (TvP K) := fun e => tv (by omega) (st e)
    have cv : ∀ {a n o t : Option V} {H1 : Hp}, Same H3 H1 → Mks [some (.ref r), some (.ref pl), some (.ref sa), some (.ref ca), a, n, o, t] H1 (tVar 3) (TvP K) := fun e => tv (by omega) (ct e)
    have hpp : ∀ H1, Same H3 H1 → PlP K (.ref pl) H1 := fun H1 e => by
      obtain ⟨os, h1⟩ := tv_tup (by omega) (hSt H1 e)
      obtain ⟨oc, h2⟩ := tv_tup (by omega) (hCt H1 e)
      exact .inr (.inr ⟨pl, _, _, os, oc, rfl, e.tup hpl3, h1, h2⟩)
    with_reducible refine c_gname (c_seq (c_asg (mk_use (Φ := LstOf 4 (PlP K)) ?_ fun v1 H4 e4 hs1 => c_gname ?_)))
    · have c1 : Mks [some (.ref r), some (.ref pl), some (.ref sa), some (.ref ca), some (.int (at_ : Int)), some (.int num), none, none] H3 (tVar 1) (PlP K) := mk_var rfl fun H1 e => hpp _ e
      have c2 : Mks [some (.ref r), some (.ref pl), some (.ref sa), some (.ref ca), some (.int (at_ : Int)), some (.int num), none, none] H3 (tCB (rListOf K) (tCons (tVar 1) tNil)) (PlP K) := mk_imp (mk_lisT (n := 2) (Φ := fun _ _ => True) (fun _ _ _ _ _ => trivial) (mk_var rfl fun H1 e => ⟨pl, _, rfl, e.tup hpl3, Nat.le_refl _, fun _ _ => trivial⟩)) fun x H1 _ h => .inl (lst_ntup h)
      exact mk_lst plP (mka_cons plP c1 (mka_cons plP c2 (mka_cons plP (mk_pair (sv (Same.refl _)) (mk_imp (mk_lisT flP (ct (Same.refl _))) fun x H1 _ h => tv_no (lst_ntup h))) (mka_cons plP (mk_pair (tv (m := 100 + 1 + 100) (by omega)
        (mk_catT flP (mk_catT flP (mk_slT flP (st (Same.refl _)) mko_no (mko_v rfl)) (mk_tup flP (mka_cons flP (mk_var rfl fun _ _ => trivial) mka_nil) (by omega)) (by omega)) (mk_slT flP (st (Same.refl _)) (mko_v1 rfl) mko_no) (by omega))) (cv (Same.refl _))) mka_nil)))) (by omega)
    with_reducible refine c_seq (c_asg (mk_use (Φ := LstOf (4 + 6) (PlP K)) ?_ fun v2 H5 e5 hs2 => c_gname ?_))
    · refine mk_catL plP (mk_var (σ := [some (.ref r), some (.ref pl), some (.ref sa), some (.ref ca), some (.int (at_ : Int)), some (.int num), some v1, none]) rfl fun H1 e => lstOf_same plP e hs1) (mk_lst plP (mka_cons plP (mk_one (sv e4)) (mka_cons plP (mk_pair (tv (m := 100) (by omega) (mk_slT flP (st e4) mko_c mko_no)) (cv e4)) (mka_cons plP (mk_pair (sv e4) (tv (m := 100 + 1) (by omega) (mk_catT flP (ct e4) (mk_tup flP (mka_cons flP (mk_c fun _ => trivial) mka_nil) (by omega)) (by omega))))
        (mka_cons plP (mk_pair (cv e4) (sv e4)) (mka_cons plP (mk_c fun _ => .inl trivial) (mka_cons plP (mk_c fun _ => .inl trivial) mka_nil)))))) (by omega)) (by omega)
    have e35 := e4.trans e5
    with_reducible refine c_seq (c_asg (c_op (c_var rfl (mk_use (Φ := LstOf 2 (PlP K)) ?_ fun y Hy ey hy => ?_))))
    · have nilT : Mks [some (.ref r), some (.ref pl), some (.ref sa), some (.ref ca), some (.int (at_ : Int)), some (.int num), some v2, none] H5 (tTup tNil) (TvP K) := mk_tupNil fun p H1 h => tv_tup (n := 0) (by omega) ⟨p, [], rfl, h, Nat.le_refl _, fun y hy => nomatch hy⟩
      exact mk_lst plP (mka_cons plP (mk_pair (sv e35) (mk_c fun _ => tv_no trivial)) (mka_cons plP (mk_pair nilT nilT) mka_nil)) (by omega)
    obtain ⟨la1, xs1, rfl, g1, g2, g3⟩ := lstOf_same plP ey hs2
    obtain ⟨la2, xs2, rfl, g4, g5, g6⟩ := hy
    refine ⟨la1, la2, xs1, xs2, rfl, rfl, g1, g4, by rw [sizeLine_eq]; omega, fun so nso0 => ?_⟩
    have nsr : so ≠ r := (hb3.same (e35.trans ey)).ne nso0
    have e36 : Same H3 (upd Hy so (.lst (xs1 ++ xs2))) := e35.trans (ey.trans (Same.new nso0))
    have hso6 : upd Hy so (.lst (xs1 ++ xs2)) so = some (.lst (xs1 ++ xs2)) := upd_same
    have hX0 : (xs1 ++ xs2).length ≤ 12 := by rw [List.length_append]; omega
    have hX6 : ∀ x ∈ xs1 ++ xs2, PlP K x (upd Hy so (.lst (xs1 ++ xs2))) := fun x hx => plP _ _ _ (.of (Same.new nso0)) (by
      rcases List.mem_append.mp hx with hx | hx
      · exact g3 x hx
      · exact g6 x hx)
    have nso3 : H3 so = none := none_back (e35.trans ey) nso0
    have nsoH : H so = none := hb3.free o03 nso3
    generalize upd Hy so (.lst (xs1 ++ xs2)) = H6 at e36 hso6 hX6 ⊢
    generalize xs1 ++ xs2 = X0 at hso6 hX0 hX6
    have hb6 := hb3.same e36
    have o06 : Ov r H H6 := o03.trans (.of e36)
    have hC6 := e36.tup hC3
    have hS6 := e36.tup hS3
    clear st ct tv sv cv hpp hSt hCt e4 e5 ey e35 hs1 hs2 hpl3 hS3 hC3 g1 g2 g3 g4 g5 g6
    refine c_gname ?_
    walk_at "go"
    refine ⟨szl (by simp), fun np nnp => ?_⟩
    have s7 := Same.new (o := .tup []) nnp
    have o07 : Ov r H (upd H6 np (.tup [])) := o06.trans (.of s7)
    have hb7 := hb6.same s7
    have hC7 := s7.tup hC6
    have hS7 := s7.tup hS6
    have hn7 : SqT K (upd H6 np (.tup [])) np [] := SqT.of upd_same
    have hso7 := s7 _ _ hso6
    have hX7 : ∀ x ∈ X0, PlP K x (upd H6 np (.tup [])) := fun x hx => plP _ _ _ (.of s7) (hX6 x hx)
    generalize upd H6 np (.tup []) = H7 at s7 o07 hb7 hC7 hn7 hso7 hX7 hS7 ⊢
    clear o06 hb6 hC6 hS6 hso6 hX6 s7 nnp
    refine c_neNilT hC7 hn7 ?_
    walk_at "go"
    have hm4 : (4 * (if (!C.isEmpty) = true then (1 : Int) else 0)).toNat ≤ 4 ∧ (0 < (4 * (if (!C.isEmpty) = true then (1 : Int) else 0)).toNat → 1 ≤ C.length) := by
      cases C with
      | nil => exact ⟨by decide, fun h => absurd h (by decide)⟩
      | cons c C => exact ⟨by simp, fun _ => by simp⟩
    have hjb : -(2 ^ 62) ≤ 4 * (if (!C.isEmpty) = true then (1 : Int) else 0) ∧ 4 * (if (!C.isEmpty) = true then (1 : Int) else 0) < 2 ^ 62 := by
      split <;> decide
    refine ⟨_, rfl, hjb.1, hjb.2, ?_⟩
    generalize (4 * (if (!C.isEmpty) = true then (1 : Int) else 0)).toNat = m at hm4
    obtain ⟨hm, hmC⟩ := hm4
    refine for_it walk_rng (fun j σ' H' => ∃ v4 v5 v7 X, σ' = [some (.ref r), some (.ref pl), some (.ref sa), some (.ref ca), v4, v5, some (.ref so), v7] ∧ Ov r H H' ∧ Bag H' r ∧ H' so = some (.lst X) ∧ X.length ≤ 12 + j ∧ (∀ x ∈ X, PlP K x H') ∧ SqT K H' sa (vI S) ∧ SqT K H' ca (vI C)) ⟨_, _, _, X0, rfl, o07, hb7, hso7, hX0, hX7, hS7, hC7⟩ (fun _ _ _ _ _ => trivial) ?_ ?_
    · rintro j y σ' H8 H9 hj ⟨v4, v5, v7, X, rfl, o9, hb9, hso9, hXl, hX9, hS9, hC9⟩ ⟨rfl, rfl⟩
      have hCl := hmC (by omega)
      walk_at "go"
      refine ⟨r, C.length, by simp, hb9, by omega, by omega, fun at2 H10 hat2 o10 hb10 => ?_⟩
      have tx10 := hb9.tx o10
      have hC10 := tx10.tup hC9
      have hS10 := tx10.tup hS9
      have hso10 := o10 _ _ hso9 nsr
      have hX10 : ∀ x ∈ X, PlP K x H10 := fun x hx => plP _ _ _ (.ov o10 hb9 hb10) (hX9 x hx)
      have hg2 := vI_get (ns := C) (i := at2) hat2
      walk_at "go"
      refine ⟨szl (by simp), fun ml nml => ?_⟩
      have s11 := Same.new (o := .lst [V.int (C.getD at2 0 + 1), V.int (C.getD at2 0 - 1), V.int 0, V.bl true, V.non]) nml
      refine ⟨r, ml, false, _, rfl, hb10.same s11, SqL.of upd_same, hb10.ne nml, by simp, by simp, fun i u H12 hu o12 hb12 => ?_⟩
      have hfu : Fl3 u := by
        have hm := List.mem_of_getElem? hu
        simp at hm
        rcases hm with rfl | rfl | rfl | rfl | rfl <;> trivial
      have o912 : Ov r H10 H12 := (Ov.of s11).trans o12
      have tx12 := hb10.tx o912
      have hC12 := tx12.tup hC10
      have hS12 := tx12.tup hS10
      have hso12 := o912 _ _ hso10 nsr
      have hX12 : ∀ x ∈ X, PlP K x H12 := fun x hx => plP _ _ _ (.ov o912 hb10 hb12) (hX10 x hx)
      have o012 : Ov r H H12 := (o9.trans o10).trans o912
      clear hC9 hS9 hso9 hX9 hC10 hS10 hso10 hX10 tx10 tx12 s11 o12 o912 hb9 hb10 o9 o10 hu nml hg2
      refine c_gname ?_
      with_reducible refine c_drop (c_bm (c_var rfl ⟨ty_l (SqL.of hso12), c_cons (mk_use (Φ := PlP K) ?_ fun z H13 e13 hz => c_nil ?_)⟩))
      · have hCt : ∀ H1, Same H12 H1 → TupOf K 100 FlP (.ref ca) H1 := fun H1 e => ⟨ca, _, rfl, e.tup hC12, by rw [List.length_map]; exact l3, fun y hy => fl_ints y hy⟩
        have hSt : ∀ H1, Same H12 H1 → TupOf K 100 FlP (.ref sa) H1 := fun H1 e => ⟨sa, _, rfl, e.tup hS12, by rw [List.length_map]; exact l2, fun y hy => fl_ints y hy⟩
        have ct : Mks [some (.ref r), some (.ref pl), some (.ref sa), some (.ref ca), some (.int (at2 : Int)), some u, some (.ref so), some (.int (j : Int))] H12 (tVar 3) (TupOf K 100 FlP) := mk_var rfl hCt
        have st : Mks [some (.ref r), some (.ref pl), some (.ref sa), some (.ref ca), some (.int (at2 : Int)), some u, some (.ref so), some (.int (j : Int))] H12 (tVar 2) (TvP K) := mk_imp (mk_var rfl hSt) fun x H2 _ hx => tv_tup (by omega) hx
        refine mk_pair st (mk_imp (mk_catT flP (mk_catT flP (mk_slT flP ct mko_no (mko_v rfl)) (mk_tup flP (mka_cons flP (mk_var rfl fun _ _ => hfu) mka_nil) (by omega)) (by omega)) (mk_slT flP ct (mko_v1 rfl) mko_no) (by omega)) fun x H2 _ hx => tv_tup (n := 100 + 1 + 100) (by omega) hx)
      · have hso13 := e13 _ _ hso12
        refine c_app hso13 (by rw [sizeLine_eq]; omega) ?_
        refine ⟨_, _, _, X ++ [z], rfl, (o012.trans (.of e13)).mut nsoH, (hb12.same e13).mut nsr.symm, upd_same, by simp; omega, fun x hx => plP _ _ _ (.mutL hso13) ?_, (Tx.mutL hso13).tup (e13.tup hS12), (Tx.mutL hso13).tup (e13.tup hC12)⟩
        rcases List.mem_append.mp hx with hx | hx
        · exact plP _ _ _ (.of e13) (hX12 x hx)
        · rw [List.mem_singleton.mp hx]; exact hz
    · rintro σ8 H8 ⟨v4, v5, v7, X, rfl, o8, hb8, hso8, hXl, hX8, _, _⟩
      walk_at "go"
      exact k H8 so X o8 hb8 hso8 (by omega) hX8
end
section
variable {P : Program} {w : World} {K : PySem.W.Frag} {mg : Str → Option Value} {base : Heap}
def dRowsI (ls : List (List Int)) : List PyData := ls.map fun l => PyData.tuple (l.map PyData.int)
theorem dp_rowsI {K : PySem.W.Frag} {H : Hp} {rs : List V} {ls : List (List Int)} (h : Refs true K H rs (ls.map vI)) : DpAll K H rs (dRowsI ls) := by
  refine dpAll_of rs _ (by rw [h.len]; simp [dRowsI]) fun i v dd h1 h2 => ?_
  unfold dRowsI at h2
  rw [List.getElem?_map] at h2
  obtain ⟨l, hl, rfl⟩ := Option.map_eq_some_iff.mp h2
  obtain ⟨x, hx, hs⟩ := h.at_ i (vI l) (by rw [List.getElem?_map, hl]; rfl)
  rw [h1] at hx
  obtain rfl := Option.some.inj hx
  exact .tup hs (dp_ints l)
theorem rowsI_shape : ∀ ls : List (List Int), PyData.canLayAll0 (dRowsI ls) = true ∧ PyData.depthAll (dRowsI ls) ≤ 1
  | [] => ⟨by simp [dRowsI, PyData.canLayAll0], by simp [dRowsI, PyData.depthAll]⟩
  | l :: ls => by
    obtain ⟨h1, h2⟩ := rowsI_shape ls
    obtain ⟨h3, h4⟩ := intsI_shape l
    unfold dRowsI at h1 h2 ⊢
    exact ⟨by simp [PyData.canLayAll0, PyData.canLay0, h1, h3], by simp [PyData.depthAll, PyData.depth, h4]; omega⟩
theorem rowsI_shaped (ls : List (List Int)) : SeqAt.shaped (.list (dRowsI ls)) = true := by
  obtain ⟨h1, h2⟩ := rowsI_shape ls
  show (PyData.canLay0 _ && decide (PyData.depth _ ≤ 64)) = true
  simp [PyData.canLay0, PyData.depth, h1]; omega
theorem eqv_intsI : ∀ l : List Int, PyData.eqvAll (l.map PyData.int) (l.map PyData.int) = true
  | [] => by simp [PyData.eqvAll]
  | n :: l => by simp [PyData.eqvAll, PyData.eqv, eqv_intsI l]
theorem eqv_rowsI : ∀ ls : List (List Int), PyData.eqvAll (dRowsI ls) (dRowsI ls) = true
  | [] => by simp [dRowsI, PyData.eqvAll]
  | l :: ls => by
    have ih := eqv_rowsI ls
    unfold dRowsI at ih ⊢
    simp [PyData.eqvAll, PyData.eqv, eqv_intsI l, ih]
theorem c_neRowsI {K : PySem.W.Frag} {H : Hp} {Q : VK} {a b : Addr} {rs rs' : List V} {ls : List (List Int)} (ha : SqL K H a rs) (h : Refs true K H rs (ls.map vI)) (hb : SqL K H b rs') (h' : Refs true K H rs' (ls.map vI)) (q : Q (.bl false) H) : rNeD K (.ref a) (.ref b) H Q := by
  refine ⟨_, _, .lst ha (dp_rowsI h), .lst hb (dp_rowsI h'), rowsI_shaped ls, rowsI_shaped ls, ?_⟩
  have e : PyData.eqv (.list (dRowsI ls)) (.list (dRowsI ls)) = true := by simp [PyData.eqv, eqv_rowsI ls]
  rw [e]
  exact q
theorem ne_self (b : Bool) : (!decide (b = b)) = false := by simp
def PlR (K : PySem.W.Frag) (H : Hp) (d : Day) (W : List Int) (x : V) (b : Bool) : Prop := (b = false ∧ (NTup K H x ∨ ∃ t xs, x = .ref t ∧ SqT K H t xs ∧ xs.length ≠ 2)) ∨ ∃ t s c os oc, x = .ref t ∧ SqT K H t [s, c] ∧ TV K H s os ∧ TV K H c oc ∧ b = planV d W os oc
theorem PlR.kp {K : PySem.W.Frag} {H H' : Hp} {d : Day} {W : List Int} {x : V} {b : Bool} (e : Kp H H') (h : PlR K H d W x b) : PlR K H' d W x b := by
  rcases h with ⟨h0, h | ⟨t, xs, h1, h2, h3⟩⟩ | ⟨t, s, c, os, oc, h1, h2, h3, h4, h5⟩
  · exact .inl ⟨h0, .inl (h.kp e)⟩
  · exact .inl ⟨h0, .inr ⟨t, xs, h1, e.tx.tup h2, h3⟩⟩
  · exact .inr ⟨t, s, c, os, oc, h1, e.tx.tup h2, h3.kp e, h4.kp e, h5⟩
theorem plR_of {K : PySem.W.Frag} {H : Hp} {d : Day} {W : List Int} {x : V} (h : PlP K x H) : ∃ b, PlR K H d W x b := by
  rcases h with h | h | ⟨t, s, c, os, oc, h1, h2, h3, h4⟩
  · exact ⟨false, .inl ⟨rfl, .inl h⟩⟩
  · exact ⟨false, .inl ⟨rfl, .inr h⟩⟩
  · exact ⟨_, .inr ⟨t, s, c, os, oc, h1, h2, h3, h4, rfl⟩⟩
def spPl (K : PySem.W.Frag) : Sp := fun vs H Q _ => ∃ (a aw wa : Addr) (ds : List V) (d : Day) (W : List Int) (x : V) (b : Bool), vs = [.ref a, .ref wa, x] ∧ DayAt K H a aw ds d ∧ d.Ok ∧ d.Sm ∧ 1 ≤ d.P ∧ SqT K H wa (vI W) ∧ W.length = d.P ∧ PlR K H d W x b ∧ ∀ H', Same H H' → Q (.bl b) H'
theorem sp_pl {K : PySem.W.Frag} : ∀ vs H Q E, spPl K vs H Q E → spIsPlan K vs H Q E := fun vs H Q E ⟨a, aw, wa, ds, d, W, x, b, e, hd, ok, sm, hP, hW, lW, hp, k⟩ => ⟨a, aw, wa, ds, d, W, x, e, hd, ok, sm, hP, hW, lW, by
  rcases hp with ⟨rfl, h | ⟨t, xs, h1, h2, h3⟩⟩ | ⟨t, s, c, os, oc, h1, h2, h3, h4, rfl⟩
  · exact .inl ⟨h, k⟩
  · exact .inr ⟨t, xs, h1, h2, .inl ⟨h3, k⟩⟩
  · exact .inr ⟨t, _, h1, h2, .inr ⟨s, c, os, oc, rfl, h3, h4, k⟩⟩⟩
theorem mk_repT {K : PySem.W.Frag} {σ : L2.St} {H : Hp} {v : V} {n : Nat} {ad : Addr} {y z : V} (hv : Fl3 v) (hσ : σ[3]? = some (some (.ref ad))) (hd : ∀ H1, Same H H1 → SqT K H1 ad [.int (n : Int), y, z]) (h2 : 2 ≤ n) (hn : n ≤ 1000) : Mks σ H (tOp (rRepT K) (tTup (tCons (tC v) tNil)) (tOp (rIxT K) (tVar 3) (tC (.int 0)))) (TvP K) := fun H1 e Q q =>
  c_op (c_tup (c_cons (c_c (c_nil ⟨szl (by simp), fun p np => c_op (c_var hσ (c_c (c_ixT (hd _ (e.trans (Same.new np))) at0 (c_repQ (SqT.of upd_same) h2 hn fun p2 H2 e2 _ h => q _ _ ((Same.new np).trans e2) ⟨some _, .inr ⟨p2, _, rfl, rfl, h, fun y hy => by rw [List.eq_of_mem_replicate hy]; exact hv, by simp; omega⟩⟩))))⟩))))
def spLaw (K : PySem.W.Frag) : Sp := fun vs H Q _ => ∃ (a : Addr) (ns : List Int), vs = [.ref a] ∧ SqL K H a (ns.map V.int) ∧ ns.length ≤ 63 ∧ ∀ H', Q (.bl true) H'
theorem fn_law {f : Addr} {fd : FuncData} (B : Bl mg) (D_bag : Df P w K mg base "_law_bag" 1 ["script", "k"] (spBag K)) (D_take : Df P w K mg base "_law_take" 1 ["bag", "count"] spTake) (D_day : Df P w K mg base "_law_day" 3 ["bag", "many", "hours", "walks"] (spDay K)) (D_wanted : Df P w K mg base "_law_wanted" 2 ["bag", "day", "most"] (spWanted K))
    (D_odd : Df P w K mg base "_law_odd" 3 ["bag", "day"] (spOdd K)) (D_bent : Df P w K mg base "_law_bent_plans" 3 ["bag", "plan"] (spBent K)) (D_is_day : Df P w K mg base "is_day" 3 ["thing"] (spIsDay K)) (D_law_is_day : Df P w K mg base "_law_is_day" 3 ["thing"] (spIsDay K))
    (D_are_numbers : Df P w K mg base "are_numbers" 3 ["day", "thing"] (spAreNumbers K)) (D_law_are_numbers : Df P w K mg base "_law_are_numbers" 3 ["day", "thing"] (spAreNumbers K)) (D_fewest : Df P w K mg base "fewest" 8 ["day", "wanted"] (spFewest K)) (D_is_plan : Df P w K mg base "is_plan" 3 ["day", "wanted", "thing"] (spIsPlan K)) (D_law_is_plan : Df P w K mg base "_law_is_plan" 2 ["day", "wanted", "thing"] (spIsPlan K))
    (D_standing : Df P w K mg base "standing" 2 ["day", "starts", "carried"] (spStanding K)) (D_stands : Df P w K mg base "_law_stands" 1 ["day", "starts", "carried"] (spLawStands K)) (F : Fun K "law" "law" s_law f fd) : FnOk P w K mg base CX0 10 f fd ["script"] (spLaw K) := by
  have D_isp := D_is_plan.imp sp_pl
  have D_lisp := D_law_is_plan.imp sp_pl
  refine F.ok sc_law (fun vs H Q E h => ?_) (fun cdv A outer s H vs Q E hr h => ?_)
  · obtain ⟨a, ns, rfl, _⟩ := h
    rfl
  · obtain ⟨a, ns, rfl, hS, hlen, k⟩ := h
    refine ⟨(tSeq (tFor (iRng1 (tCons (tOp (rI0 fun i j => .int (i + j)) (tCB rMin2 (tCons (tCB (rLenS K) (tCons (tVar 0) tNil)) (tCons (tC (.int 8)) tNil))) (tC (.int 2))) tNil)) (gName 1) (tSeq (tAsg (tCall (spBag K) [] E0 (tCons (tVar 0) (tCons (tVar 1) tNil))) (gName 2)) (tSeq (tAsg (tCall (spDay K) [] E0 (tCons (tVar 2) (tCons (tC (.int 5)) (tCons (tC (.int 8)) (tCons (tC (.int 12)) tNil))))) (gName 3)) (tSeq (tFor (iList K (tCall (spOdd K) [] E0 (tCons (tVar 2) (tCons (tVar 3) tNil)))) (gName 4) (tSeq (tAsg (tCall (spIsDay K) [] E0 (tCons (tVar 4) tNil)) (gName 5)) (tIfS (tOr (tNot (tB (tCB (rIsi K) (tCons (tVar 5) (tCons (tC (.ty "bool")) tNil))))) (tTest (tOp rNe (tVar 5) (tCall (spIsDay K) [] E0 (tCons (tVar 4) tNil))))) (tRet (tC (.bl false))) tNext))) (tSeq (tAsg (tCall (spWanted K) [] E0 (tCons (tVar 2) (tCons (tVar 3) (tCons (tC (.int 3)) tNil)))) (gName 6)) (tSeq (tAsg (tLst (tCons (tVar 6) (tCons (tSl (rSlA K) (tVar 6) (tPart (tC (.int 1))) tNoPart) (tCons (tOp (rCatA K) (tVar 6) (tTup (tCons (tC (.int 0)) tNil))) (tCons (tCB (rListOf K) (tCons (tVar 6) tNil)) (tCons (tOp (rRepT K) (tTup (tCons (tC (.int 20)) tNil)) (tOp (rIxT K) (tVar 3) (tC (.int 0)))) (tCons (tOp (rRepT K) (tTup (tCons (tC (.int 21)) tNil)) (tOp (rIxT K) (tVar 3) (tC (.int 0)))) (tCons (tOp (rRepT K) (tTup (tCons (tC (.bl true)) tNil)) (tOp (rIxT K) (tVar 3) (tC (.int 0)))) tNil)))))))) (gName 7)) (tSeq (tFor (iList K (tOp rCat (tVar 7) (tLst (tCons (tC .non) tNil)))) (gName 4) (tSeq (tAsg (tCall (spAreNumbers K) [] E0 (tCons (tVar 3) (tCons (tVar 4) tNil))) (gName 5)) (tIfS (tOr (tNot (tB (tCB (rIsi K) (tCons (tVar 5) (tCons (tC (.ty "bool")) tNil))))) (tTest (tOp rNe (tVar 5) (tCall (spAreNumbers K) [] E0 (tCons (tVar 3) (tCons (tVar 4) tNil)))))) (tRet (tC (.bl false))) tNext))) (tSeq (tAsg (tCall (spFewest K) [] E0 (tCons (tVar 3) (tCons (tVar 6) tNil))) (gName 8)) (tSeq (tFor (iList K (tCall (spBent K) [] E0 (tCons (tVar 2) (tCons (tSl (rSlA K) (tVar 8) (tPart (tC (.int 1))) tNoPart) tNil)))) (gName 4) (tSeq (tAsg (tCall (spPl K) [] E0 (tCons (tVar 3) (tCons (tVar 6) (tCons (tVar 4) tNil)))) (gName 5)) (tIfS (tOr (tNot (tB (tCB (rIsi K) (tCons (tVar 5) (tCons (tC (.ty "bool")) tNil))))) (tTest (tOp rNe (tVar 5) (tCall (spPl K) [] E0 (tCons (tVar 3) (tCons (tVar 6) (tCons (tVar 4) tNil))))))) (tRet (tC (.bl false))) tNext))) (tSeq (tAsg (tCall (spStanding K) [] E0 (tCons (tVar 3) (tCons (tOp (rIxT K) (tVar 8) (tC (.int 1))) (tCons (tOp (rIxT K) (tVar 8) (tC (.int 2))) tNil)))) (gName 9)) (tSeq (tIfS (tTest (tOp (rNeD K) (tVar 9) (tCall (spLawStands K) [] E0 (tCons (tVar 3) (tCons (tOp (rIxT K) (tVar 8) (tC (.int 1))) (tCons (tOp (rIxT K) (tVar 8) (tC (.int 2))) tNil)))))) (tRet (tC (.bl false))) tNext) (tSeq (tDrop (tBM0 K "list" rPop (tVar 9))) (tIfS (tTest (tOp (rNeD K) (tCall (spStanding K) [] E0 (tCons (tVar 3) (tCons (tOp (rIxT K) (tVar 8) (tC (.int 1))) (tCons (tOp (rIxT K) (tVar 8) (tC (.int 2))) tNil)))) (tCall (spLawStands K) [] E0 (tCons (tVar 3) (tCons (tOp (rIxT K) (tVar 8) (tC (.int 1))) (tCons (tOp (rIxT K) (tVar 8) (tC (.int 2))) tNil)))))) (tRet (tC (.bl false))) tNext))))))))))))) (tRet (tC (.bl true)))),
      (pss_cons (ps_for PassesOwn.never rfl (pi_range1 (by rfl) B.range (pa_cons (pe_op op_add (pe_callB (call_min2 rfl) (by rfl) B.min bt_min (pa_cons (pe_callB call_len_seq (by rfl) B.len bt_len (pa_cons (pv 0) pa_nil)) (pa_cons pe_int pa_nil))) pe_int) pa_nil)) (pg_name (i := 1) sc_law.nd rfl (by first | exact Or.inl rfl | exact Or.inr rfl))
      (pss_cons (ps_set (i := 2) sc_law.nd rfl (by first | exact Or.inl rfl | exact Or.inr rfl) (pe_df D_bag (hr.mono (by decide)) (by rfl) (pa_cons (pv 0) (pa_cons (pv 1) pa_nil))))
      (pss_cons (ps_set (i := 3) sc_law.nd rfl (by first | exact Or.inl rfl | exact Or.inr rfl) (pe_df D_day (hr.mono (by decide)) (by rfl) (pa_cons (pv 2) (pa_cons pe_int (pa_cons pe_int (pa_cons pe_int pa_nil))))))
      (pss_cons (ps_for PassesOwn.never rfl (pi_list (pe_df D_odd (hr.mono (by decide)) (by rfl) (pa_cons (pv 2) (pa_cons (pv 3) pa_nil)))) (pg_name (i := 4) sc_law.nd rfl (by first | exact Or.inl rfl | exact Or.inr rfl))
      (pss_cons (ps_set (i := 5) sc_law.nd rfl (by first | exact Or.inl rfl | exact Or.inr rfl) (pe_df D_is_day (hr.mono (by decide)) (by rfl) (pa_cons (pv 4) pa_nil)))
      (pss_one (ps_if (PW.pt (pw_or (pt_not (pt_val (pe_callB call_isi (by rfl) B.isinstance bt_isinstance (pa_cons (pv 5) (pa_cons (pe_bltn (v := .ty "bool") (by rfl) B.bool bt_bool rfl) pa_nil))))) (pw_or1 (pt_cmpR op_ne (pv 5) (pe_df D_law_is_day (hr.mono (by decide)) (by rfl) (pa_cons (pv 4) pa_nil)) (nomark _))))) (pss_one (ps_ret pe_bl)) pss_nil))))
      (pss_cons (ps_set (i := 6) sc_law.nd rfl (by first | exact Or.inl rfl | exact Or.inr rfl) (pe_df D_wanted (hr.mono (by decide)) (by rfl) (pa_cons (pv 2) (pa_cons (pv 3) (pa_cons pe_int pa_nil)))))
      (pss_cons (ps_set (i := 7) sc_law.nd rfl (by first | exact Or.inl rfl | exact Or.inr rfl) (pe_lst (pa_cons (pv 6) (pa_cons (pe_slice sl_tupA (pv 6) (po_some pe_int) po_none) (pa_cons (pe_op op_catA (pv 6) (pe_tup (pa_cons pe_int pa_nil))) (pa_cons (pe_callTy call_list_of (by rfl) B.list bt_list (pa_cons (pv 6) pa_nil)) (pa_cons (pe_op op_repT (pe_tup (pa_cons pe_int pa_nil)) (pe_ix ix_tup (pv 3) pe_int (fun _ _ => rfl))) (pa_cons (pe_op op_repT (pe_tup (pa_cons pe_int pa_nil)) (pe_ix ix_tup (pv 3) pe_int (fun _ _ => rfl))) (pa_cons (pe_op op_repT (pe_tup (pa_cons pe_bl pa_nil)) (pe_ix ix_tup (pv 3) pe_int (fun _ _ => rfl))) pa_nil)))))))))
      (pss_cons (ps_for PassesOwn.never rfl (pi_list (pe_op op_cat (pv 7) (pe_lst (pa_cons pe_non pa_nil)))) (pg_name (i := 4) sc_law.nd rfl (by first | exact Or.inl rfl | exact Or.inr rfl))
      (pss_cons (ps_set (i := 5) sc_law.nd rfl (by first | exact Or.inl rfl | exact Or.inr rfl) (pe_df D_are_numbers (hr.mono (by decide)) (by rfl) (pa_cons (pv 3) (pa_cons (pv 4) pa_nil))))
      (pss_one (ps_if (PW.pt (pw_or (pt_not (pt_val (pe_callB call_isi (by rfl) B.isinstance bt_isinstance (pa_cons (pv 5) (pa_cons (pe_bltn (v := .ty "bool") (by rfl) B.bool bt_bool rfl) pa_nil))))) (pw_or1 (pt_cmpR op_ne (pv 5) (pe_df D_law_are_numbers (hr.mono (by decide)) (by rfl) (pa_cons (pv 3) (pa_cons (pv 4) pa_nil))) (nomark _))))) (pss_one (ps_ret pe_bl)) pss_nil))))
      (pss_cons (ps_set (i := 8) sc_law.nd rfl (by first | exact Or.inl rfl | exact Or.inr rfl) (pe_df D_fewest (hr.mono (by decide)) (by rfl) (pa_cons (pv 3) (pa_cons (pv 6) pa_nil))))
      (pss_cons (ps_for PassesOwn.never rfl (pi_list (pe_df D_bent (hr.mono (by decide)) (by rfl) (pa_cons (pv 2) (pa_cons (pe_slice sl_tupA (pv 8) (po_some pe_int) po_none) pa_nil)))) (pg_name (i := 4) sc_law.nd rfl (by first | exact Or.inl rfl | exact Or.inr rfl))
      (pss_cons (ps_set (i := 5) sc_law.nd rfl (by first | exact Or.inl rfl | exact Or.inr rfl) (pe_df D_isp (hr.mono (by decide)) (by rfl) (pa_cons (pv 3) (pa_cons (pv 6) (pa_cons (pv 4) pa_nil)))))
      (pss_one (ps_if (PW.pt (pw_or (pt_not (pt_val (pe_callB call_isi (by rfl) B.isinstance bt_isinstance (pa_cons (pv 5) (pa_cons (pe_bltn (v := .ty "bool") (by rfl) B.bool bt_bool rfl) pa_nil))))) (pw_or1 (pt_cmpR op_ne (pv 5) (pe_df D_lisp (hr.mono (by decide)) (by rfl) (pa_cons (pv 3) (pa_cons (pv 6) (pa_cons (pv 4) pa_nil)))) (nomark _))))) (pss_one (ps_ret pe_bl)) pss_nil))))
      (pss_cons (ps_set (i := 9) sc_law.nd rfl (by first | exact Or.inl rfl | exact Or.inr rfl) (pe_df D_standing (hr.mono (by decide)) (by rfl) (pa_cons (pv 3) (pa_cons (pe_ix ix_tup (pv 8) pe_int (fun _ _ => rfl)) (pa_cons (pe_ix ix_tup (pv 8) pe_int (fun _ _ => rfl)) pa_nil)))))
      (pss_cons (ps_if (pt_cmpR (op_neD hr.units) (pv 9) (pe_df D_stands (hr.mono (by decide)) (by rfl) (pa_cons (pv 3) (pa_cons (pe_ix ix_tup (pv 8) pe_int (fun _ _ => rfl)) (pa_cons (pe_ix ix_tup (pv 8) pe_int (fun _ _ => rfl)) pa_nil)))) (nomark _)) (pss_one (ps_ret pe_bl)) pss_nil)
      (pss_cons (ps_expr (pe_bm0 PySem.F.plainAttrs_list PySem.F.slot_list_pop PySem.F.type_list_pop mt_pop (pv 9)))
      (pss_one (ps_if (pt_cmpR (op_neD hr.units) (pe_df D_standing (hr.mono (by decide)) (by rfl) (pa_cons (pv 3) (pa_cons (pe_ix ix_tup (pv 8) pe_int (fun _ _ => rfl)) (pa_cons (pe_ix ix_tup (pv 8) pe_int (fun _ _ => rfl)) pa_nil)))) (pe_df D_stands (hr.mono (by decide)) (by rfl) (pa_cons (pv 3) (pa_cons (pe_ix ix_tup (pv 8) pe_int (fun _ _ => rfl)) (pa_cons (pe_ix ix_tup (pv 8) pe_int (fun _ _ => rfl)) pa_nil)))) (nomark _)) (pss_one (ps_ret pe_bl)) pss_nil))))))))))))))
      (pss_one (ps_ret pe_bl))), ?_⟩
    walk_at "go"
    refine ⟨_, rfl, by simp; omega, by simp; omega, ?_⟩
    generalize hm : ((if (8 : Int) < ((List.map V.int ns).length : Int) then (8 : Int) else ((List.map V.int ns).length : Int)) + 2).toNat = m
    have hm8 : m ≤ 1000 := by rw [← hm]; split <;> omega
    clear hm
    refine for_it walk_rng (fun i σ' H' => ∃ v1 v2 v3 v4 v5 v6 v7 v8 v9, σ' = [some (.ref a), v1, v2, v3, v4, v5, v6, v7, v8, v9] ∧ Same H H') ⟨_, _, _, _, _, _, _, _, _, rfl, Same.refl _⟩ (fun _ _ _ _ _ => trivial) ?_ ?_
    · rintro i y σ' H0 Hs hi ⟨v1, v2, v3, v4, v5, v6, v7, v8, v9, rfl, e0⟩ ⟨rfl, rfl⟩
      walk_at "go"
      refine ⟨a, i, ns, rfl, e0.lst hS, by omega, fun H1 r e1 nr hb1 => ?_⟩
      walk_at "go"
      refine ⟨r, 5, 8, 12, rfl, hb1, by omega, by omega, by omega, by omega, by omega, fun H2 ad aw ds d o2 hb2 hd DD => ?_⟩
      have hP := DD.PM
      have hT := DD.TM
      have hT1 := DD.T1
      have hP2 := DD.P2
      have hWl := DD.W
      have ok := DD.ok
      have sm := DD.sm (by omega) (by decide) (by decide)
      have e2 : Same Hs H2 := o2.same e1 nr
      clear o2 hb1 e1
      walk_at "go"
      refine ⟨r, ad, aw, ds, d, rfl, hb2, hd, by omega, fun H3 l xs o3 hb3 hl hxl hxs => ?_⟩
      have e3 : Same Hs H3 := o3.same e2 nr
      have hd3 := hd.tx (hb2.tx o3)
      clear o3 hb2 e2 hd
      refine ⟨l, rfl, ⟨xs, SqL.of hl⟩, ?_⟩
      refine for_it (walk_list (xs := xs)) (fun j σ' H' => ∃ w4 w5, σ' = [some (.ref a), some (.int (i : Int)), some (.ref r), some (.ref ad), w4, w5, v6, v7, v8, v9] ∧ Same H3 H') ⟨_, _, rfl, Same.refl _⟩ (fun j σ' H' _ ⟨_, _, _, e⟩ => e.lst (SqL.of hl)) ?_ ?_
      · rintro j y σ' H4 H5 hj ⟨w4, w5, rfl, e5⟩ ⟨rfl, hy⟩
        obtain ⟨o, ho⟩ := hxs y (List.mem_of_getElem? hy)
        have ho5 := dk_kp (.of e5) ho
        walk_at "go"
        refine ⟨y, o, rfl, ho5, fun H6 e6 => ?_⟩
        walk_at "go"
        refine isi_bool_bl ?_
        refine c_bl ?_
        refine iteF ?_
        walk_at "go"
        refine ⟨y, o, rfl, dk_kp (.of e6) ho5, fun H7 e7 => ?_⟩
        refine c_neB ?_
        refine c_bl ?_
        rw [ne_self]
        refine iteF ?_
        walk_at "go"
        exact ⟨_, _, rfl, (e5.trans e6).trans e7⟩
      rintro σ4 H4 ⟨w4, w5, rfl, e4⟩
      have hd4 := hd3.tx (.of e4)
      have hb4 := hb3.same e4
      have e04 := e3.trans e4
      clear hxs hl hxl hb3 hd3 e3 e4
      walk_at "go"
      refine ⟨r, ad, aw, 3, d, rfl, hb4, hd4.day, hP2, by omega, by omega, fun H5 wa W o5 hb5 hW lW wn wm => ?_⟩
      have hd5 := hd4.tx (hb4.tx o5)
      have e05 : Same Hs H5 := o5.same e04 nr
      clear o5 hb4 e04 hd4
      with_reducible refine c_gname (c_seq (c_asg (mk_use (Φ := LstOf 7 (TvP K)) ?_ fun v7 H6 e6 hs => c_gname ?_)))
      · have wt : Mks [some (.ref a), some (.int (i : Int)), some (.ref r), some (.ref ad), w4, w5, some (.ref wa), v7, v8, v9] H5 (tVar 6) (TupOf K 100 FlP) := mk_var rfl fun H1 e => ⟨wa, _, rfl, e.tup hW, by rw [List.length_map]; omega, fun y hy => fl_ints y hy⟩
        have tv : ∀ {m : Nat} {σ : L2.St} {H1 : Hp} {te : TE}, m ≤ 1000 → Mks σ H1 te (TupOf K m FlP) → Mks σ H1 te (TvP K) := fun h m => mk_imp m fun x H2 _ hx => tv_tup h hx
        have rp : ∀ {v : V}, Fl3 v → Mks [some (.ref a), some (.int (i : Int)), some (.ref r), some (.ref ad), w4, w5, some (.ref wa), v7, v8, v9] H5 (tOp (rRepT K) (tTup (tCons (tC v) tNil)) (tOp (rIxT K) (tVar 3) (tC (.int 0)))) (TvP K) := fun hv => mk_repT hv rfl (fun H1 e => e.tup hd5.day) hP2 (by omega)
        exact mk_lst tvP (mka_cons tvP (tv (by omega) wt) (mka_cons tvP (tv (m := 100) (by omega) (mk_slT flP wt mko_c mko_no)) (mka_cons tvP (tv (m := 100 + 1) (by omega) (mk_catT flP wt (mk_tup flP (mka_cons flP (mk_c fun _ => trivial) mka_nil) (by omega)) (by omega)))
          (mka_cons tvP (mk_imp (mk_lisT flP wt) fun x H1 _ h => tv_no (lst_ntup h)) (mka_cons tvP (rp trivial) (mka_cons tvP (rp trivial) (mka_cons tvP (rp trivial) mka_nil))))))) (by omega)
      have hd6 := hd5.tx (.of e6)
      have e06 := e05.trans e6
      have hW6 := e6.tup hW
      have hb6 := hb5.same e6
      clear hd5 e05 hW hb5 e6
      with_reducible refine c_seq (c_for (c_iList (mk_use (Φ := LstOf (7 + 1) (TvP K)) ?_ fun vl H7 e7 hl => ?_)))
      · exact mk_catL tvP (mk_var (σ := [some (.ref a), some (.int (i : Int)), some (.ref r), some (.ref ad), w4, w5, some (.ref wa), some v7, v8, v9]) rfl fun H1 e => lstOf_same tvP e hs) (mk_lst tvP (mka_cons tvP (mk_c fun _ => tv_no trivial) mka_nil) (by omega)) (by omega)
      clear hs
      obtain ⟨l2, xs2, rfl, hl2, hxl2, hxs2⟩ := hl
      have hd7 := hd6.tx (.of e7)
      have e07 := e06.trans e7
      have hW7 := e7.tup hW6
      have hb7 := hb6.same e7
      clear hd6 e06 hW6 hb6 e7
      refine ⟨l2, rfl, ⟨xs2, SqL.of hl2⟩, ?_⟩
      refine for_it (walk_list (xs := xs2)) (fun j σ' H' => ∃ w4 w5, σ' = [some (.ref a), some (.int (i : Int)), some (.ref r), some (.ref ad), w4, w5, some (.ref wa), some v7, v8, v9] ∧ Same H7 H') ⟨_, _, rfl, Same.refl _⟩ (fun j σ' H' _ ⟨_, _, _, e⟩ => e.lst (SqL.of hl2)) ?_ ?_
      · rintro j y σ' H8 H9 hj ⟨w4, w5, rfl, e9⟩ ⟨rfl, hy⟩
        obtain ⟨o, ho⟩ := hxs2 y (List.mem_of_getElem? hy)
        have ho9 := ho.kp (.of e9)
        have hday9 := e9.tup hd7.day
        walk_at "go"
        refine ⟨ad, aw, d, y, o, rfl, hday9, ho9, fun H10 e10 => ?_⟩
        walk_at "go"
        refine isi_bool_bl ?_
        refine c_bl ?_
        refine iteF ?_
        walk_at "go"
        refine ⟨ad, aw, d, y, o, rfl, e10.tup hday9, ho9.kp (.of e10), fun H11 e11 => ?_⟩
        refine c_neB ?_
        refine c_bl ?_
        rw [ne_self]
        refine iteF ?_
        walk_at "go"
        exact ⟨_, _, rfl, (e9.trans e10).trans e11⟩
      rintro σ8 H8 ⟨x4, x5, rfl, e8⟩
      have hd8 := hd7.tx (.of e8)
      have e08 := e07.trans e8
      have hW8 := e8.tup hW7
      have hb8 := hb7.same e8
      clear hd7 e07 hW7 hb7 e8 hxs2 hl2 hxl2
      walk_at "go"
      refine ⟨ad, aw, wa, ds, d, W, rfl, hd8, ok, sm, hP2, hW8, lW, wn, fun H9 fr fs fc e9 hfr hfs hfc => ?_⟩
      have hTold := fewest_told ok lW wn
      have hSl := hTold.len
      have hCl := hTold.feas.len
      have hlaw : lawOk d (fewest d W).2.1 (fewest d W).2.2 d.T = true := by
        have h := planB_feas ok hTold.len lW hTold.feas
        rw [planB_eq, Bool.and_eq_true] at h
        exact h.1
      generalize (fewest d W).2.1 = S at hfs hSl hlaw
      generalize (fewest d W).2.2 = C at hfc hCl hlaw
      generalize (fewest d W).1 = N at hfr
      clear hTold
      have hd9 := hd8.tx (.of e9)
      have e09 := e08.trans e9
      have hW9 := e9.tup hW8
      have hb9 := hb8.same e9
      clear hd8 e08 hW8 hb8 e9
      walk_at "go"
      refine c_slQ (SqT.of hfr) fun p H10 e10 hp => ?_
      rw [cut1] at hp
      have hd10 := hd9.tx (.of e10)
      have e010 := e09.trans e10
      have hW10 := e10.tup hW9
      have hb10 := hb9.same e10
      have hfr10 := e10 _ _ hfr
      have hfs10 := e10 _ _ hfs
      have hfc10 := e10 _ _ hfc
      clear hd9 e09 hW9 hb9 e10 hfr hfs hfc
      walk_at "go"
      refine ⟨r, p, fs, fc, S, C, rfl, hb10, hp, SqT.of hfs10, SqT.of hfc10, by omega, by omega, by omega, fun H11 l3 xs3 o11 hb11 hl3 hxl3 hxs3 => ?_⟩
      have tx11 := hb10.tx o11
      have hd11 := hd10.tx tx11
      have e011 : Same Hs H11 := o11.same e010 nr
      have hW11 := tx11.tup hW10
      have hfr11 : SqT K H11 fr [.int N, .ref fs, .ref fc] := tx11.tup (SqT.of hfr10)
      have hfs11 : SqT K H11 fs (vI S) := tx11.tup (SqT.of hfs10)
      have hfc11 : SqT K H11 fc (vI C) := tx11.tup (SqT.of hfc10)
      clear hd10 e010 hW10 hb10 hfr10 hfs10 hfc10 o11 tx11 hp
      refine ⟨l3, rfl, ⟨xs3, SqL.of hl3⟩, ?_⟩
      refine for_it (walk_list (xs := xs3)) (fun j σ' H' => ∃ w4 w5, σ' = [some (.ref a), some (.int (i : Int)), some (.ref r), some (.ref ad), w4, w5, some (.ref wa), some v7, some (.ref fr), v9] ∧ Same H11 H') ⟨_, _, rfl, Same.refl _⟩ (fun j σ' H' _ ⟨_, _, _, e⟩ => e.lst (SqL.of hl3)) ?_ ?_
      · rintro j y σ' H12 H13 hj ⟨w4, w5, rfl, e13⟩ ⟨rfl, hy⟩
        obtain ⟨b, hb⟩ := plR_of (d := d) (W := W) (hxs3 y (List.mem_of_getElem? hy))
        have hb13 := hb.kp (.of e13)
        have hd13 := hd11.tx (.of e13)
        have hW13 := e13.tup hW11
        walk_at "go"
        refine ⟨ad, aw, wa, ds, d, W, y, b, rfl, hd13, ok, sm, by omega, hW13, lW, hb13, fun H14 e14 => ?_⟩
        walk_at "go"
        refine isi_bool_bl ?_
        refine c_bl ?_
        refine iteF ?_
        walk_at "go"
        refine ⟨ad, aw, wa, ds, d, W, y, b, rfl, hd13.tx (.of e14), ok, sm, by omega, e14.tup hW13, lW, hb13.kp (.of e14), fun H15 e15 => ?_⟩
        refine c_neB ?_
        refine c_bl ?_
        rw [ne_self]
        refine iteF ?_
        walk_at "go"
        exact ⟨_, _, rfl, (e13.trans e14).trans e15⟩
      rintro σ12 H12 ⟨y4, y5, rfl, e12⟩
      have hd12 := hd11.tx (.of e12)
      have e012 := e011.trans e12
      have hfr12 := e12.tup hfr11
      have hfs12 := e12.tup hfs11
      have hfc12 := e12.tup hfc11
      clear hd11 e011 hW11 hb11 e12 hfr11 hfs11 hfc11 hxs3 hl3 hxl3
      walk_at "go"
      refine ⟨ad, aw, fs, fc, ds, d, true, S, C, rfl, hd12, ok, sm, hfs12, hSl, hfc12, hCl, fun H13 rw_ rs e13 nrw hrw hrs => ?_⟩
      have hd13 := hd12.tx (.of e13)
      have hfr13 := e13.tup hfr12
      have hfs13 := e13.tup hfs12
      have hfc13 := e13.tup hfc12
      walk_at "go"
      refine ⟨ad, aw, fs, fc, ds, d, S, C, rfl, hd13, ok, sm, by omega, hfs13, hSl, hfc13, hCl, fun _ H14 r2 rs2 e14 hr2 hrs2 => ?_, fun z => by rw [hlaw] at z; cases z⟩
      have hrw14 := e14 _ _ hrw
      refine c_neRowsI (SqL.of hrw14) (hrs.same e14) (SqL.of hr2) hrs2 ?_
      refine c_bl ?_
      refine iteF ?_
      walk_at "go"
      have hrl : rs.length = d.T + 1 := by rw [hrs.len, List.length_map]; unfold standing; rw [List.length_map, List.length_range]
      refine ⟨rw_, rs, _, rfl, rfl, hrw14, List.getElem?_eq_getElem (by omega), ?_⟩
      have tx15 : Tx H14 (upd H14 rw_ (.lst rs.dropLast)) := Tx.mutL hrw14
      have e015 : Same Hs (upd H14 rw_ (.lst rs.dropLast)) := (e012.trans (e13.trans e14)).mut (none_back e012 nrw)
      generalize upd H14 rw_ (.lst rs.dropLast) = H15 at tx15 e015 ⊢
      have hd15 := hd13.tx ((Tx.of e14).trans tx15)
      have hfr15 := tx15.tup (e14.tup hfr13)
      have hfs15 := tx15.tup (e14.tup hfs13)
      have hfc15 := tx15.tup (e14.tup hfc13)
      clear hd12 hd13 hfr12 hfr13 hfs12 hfs13 hfc12 hfc13 tx15 hrs hrs2 hr2 hrw14 hrw e13 e14
      walk_at "go"
      refine ⟨ad, aw, fs, fc, ds, d, true, S, C, rfl, hd15, ok, sm, hfs15, hSl, hfc15, hCl, fun H16 r3 rs3 e16 nr3 hr3 hrs3 => ?_⟩
      have hd16 := hd15.tx (.of e16)
      have hfr16 := e16.tup hfr15
      have hfs16 := e16.tup hfs15
      have hfc16 := e16.tup hfc15
      walk_at "go"
      refine ⟨ad, aw, fs, fc, ds, d, S, C, rfl, hd16, ok, sm, by omega, hfs16, hSl, hfc16, hCl, fun _ H17 r4 rs4 e17 hr4 hrs4 => ?_, fun z => by rw [hlaw] at z; cases z⟩
      refine c_neRowsI (SqL.of (e17 _ _ hr3)) (hrs3.same e17) (SqL.of hr4) hrs4 ?_
      refine c_bl ?_
      refine iteF ?_
      walk_at "go"
      exact ⟨_, _, _, _, _, _, _, _, _, rfl, e0.trans (e015.trans (e16.trans e17))⟩
    · rintro σ2 H2 ⟨v1, v2, v3, v4, v5, v6, v7, v8, v9, rfl, e2⟩
      walk_at "go"
      exact k _
end
end Dw

namespace Dw
open PySem L2 HX Dry
def fnL0 : List He.FnD := [fnD "is_from" s_is_from, fnD "is_walk" s_is_walk, fnD "is_day" s_is_day, fnD "are_from" s_are_from, fnD "are_numbers" s_are_numbers, fnD "moved" s_moved, fnD "standing" s_standing, fnD "are_carried" s_are_carried, fnD "is_plan" s_is_plan, fnD "settled" s_settled, fnD "fewest" s_fewest, fnD "_law_bag" s__law_bag, fnD "_law_take" s__law_take, fnD "_law_of" s__law_of, fnD "_law_day" s__law_day, fnD "_law_wanted" s__law_wanted, fnD "_law_stands" s__law_stands, fnD "_law_is_number" s__law_is_number, fnD "_law_is_plan" s__law_is_plan, fnD "_law_is_day" s__law_is_day]
def fnL1 : List He.FnD := [fnD "_law_are_numbers" s__law_are_numbers, fnD "_law_odd" s__law_odd, fnD "_law_bent_plans" s__law_bent_plans, fnD "law" s_law, fnM "Flow" "__init__" "Flow.__init__" s_Flow___init__, fnM "Flow" "starts" "Flow.starts" s_Flow_starts, fnM "Flow" "waits" "Flow.waits" s_Flow_waits, fnM "Flow" "steps" "Flow.steps" s_Flow_steps, fnM "Flow" "reached" "Flow.reached" s_Flow_reached, fnM "Flow" "lessen" "Flow.lessen" s_Flow_lessen, fnM "Flow" "settle" "Flow.settle" s_Flow_settle]
def fnL : List He.FnD := fnL0 ++ fnL1
def faL0 : List He.Fa := [.glo "is_from", .keep "is_from", .glo "is_walk", .keep "is_walk", .glo "is_day", .keep "is_day", .glo "are_from", .keep "are_from", .glo "are_numbers", .keep "are_numbers", .glo "moved", .keep "moved", .glo "standing", .keep "standing", .glo "are_carried", .keep "are_carried", .glo "is_plan", .keep "is_plan", .glo "settled", .keep "settled"]
def faL1 : List He.Fa := [.glo "fewest", .keep "fewest", .glo "_law_bag", .keep "_law_bag", .glo "_law_take", .keep "_law_take", .glo "_law_of", .keep "_law_of", .glo "_law_day", .keep "_law_day", .glo "_law_wanted", .keep "_law_wanted", .glo "_law_stands", .keep "_law_stands", .glo "_law_is_number", .keep "_law_is_number", .glo "_law_is_plan", .keep "_law_is_plan", .glo "_law_is_day", .keep "_law_is_day"]
def faL2 : List He.Fa := [.glo "_law_are_numbers", .keep "_law_are_numbers", .glo "_law_odd", .keep "_law_odd", .glo "_law_bent_plans", .keep "_law_bent_plans", .glo "law", .keep "law", .glo "Flow", .cls "Flow", .mkr "Flow", .meth "Flow" "__init__", .meth "Flow" "starts", .meth "Flow" "waits", .meth "Flow" "steps", .meth "Flow" "reached", .meth "Flow" "lessen", .meth "Flow" "settle", .noat "Flow" "day", .noat "Flow" "given"]
def faL3 : List He.Fa := [.noat "Flow" "wanted", .noat "Flow" "carried", .noat "Flow" "more", .free "len", .free "int", .free "bool", .free "str", .free "tuple", .free "list", .free "isinstance", .free "sum", .free "max", .free "min", .free "all", .free "any", .free "zip", .free "range", .free "enumerate", .free "sorted", .free "set"]
def faL4 : List He.Fa := [.int "FAR" 99, .int "HOURS" 8, .int "WALKS" 12, .int "ROOM" 3, .int "MOST" 20, .glo "PLACES"]
def faL : List He.Fa := faL0 ++ faL1 ++ faL2 ++ faL3 ++ faL4
def looseL0 : List PySem.Str := ["_wall", "__name__", "PLACES", "HOURS", "WALKS", "ROOM", "MOST", "is_from", "is_walk", "is_day", "are_from", "are_numbers", "FAR", "moved", "standing", "are_carried", "is_plan", "Flow", "settled", "fewest"]
def looseL1 : List PySem.Str := ["_law_bag", "_law_take", "_law_of", "_law_day", "_law_wanted", "_law_stands", "_law_is_number", "_law_is_plan", "_law_is_day", "_law_are_numbers", "_law_odd", "_law_bent_plans"]
def looseL : List PySem.Str := looseL0 ++ looseL1
def taL : List (PySem.Str × List He.Dv) := [("PLACES", [.int (2), .int (5)])]
abbrev RR : PySem.W.OpenRow := PySem.W.OpenLaw.row PySem.Challenge.rw_drywalks_k01_what_are_days_and_plans
abbrev hkE : PySem.W.Hook := hookT 5 faL fnL taL
def obE (s : PySem.W.SharedT) : He.Al := obsTG 5 faL fnL taL (HandSHeadRun.getT s)
theorem obE_eq (s : PySem.W.SharedT) : obE s = hkE.obs s.abs := obsTG_eq (HandSHeadRun.getT_eq s)
set_option maxHeartbeats 0 in
theorem runE (w : World) : HandSHeadRun.RunEq RR (PySem.W.view RR.prog [35]) hkE obE 4000 looseL w := by
  intro os
  kernel_rfl
theorem factsE {P : Program} {w : World} {K : PySem.W.Frag} {h : Heap} {mg : Str → Option Value} {f : Addr} (X : K.In h) (G : h.Ns mainGlobals mg) (hfa : mg ("law" : Str) = some (.ref f)) (c : SaysT faL fnL taL K) :
    ∃ fd : FuncData, (∀ (s : Shared) (v : Value), BindsTo s fd ⟨[v], []⟩ [("script", v)]) ∧ ∀ base : Heap, K.In base → base.Ns mainGlobals mg → FnOk P w K mg base CX0 10 f fd ["script"] (spLaw K) := by
  have cT := c
  replace c := c.e
  have B : Bl mg := ⟨(free_of X G c 63 rfl), (free_of X G c 64 rfl), (free_of X G c 65 rfl), (free_of X G c 66 rfl), (free_of X G c 67 rfl), (free_of X G c 68 rfl), (free_of X G c 69 rfl), (free_of X G c 70 rfl), (free_of X G c 71 rfl), (free_of X G c 72 rfl), (free_of X G c 73 rfl), (free_of X G c 74 rfl), (free_of X G c 75 rfl), (free_of X G c 76 rfl), (free_of X G c 77 rfl), (free_of X G c 78 rfl)⟩
  have hset : mg "set" = none := (free_of X G c 79 rfl)
  have F_is_from : Has K mg "is_from" s_is_from := has_of X G c 0 0 1 rfl rfl rfl
  have F_is_walk : Has K mg "is_walk" s_is_walk := has_of X G c 1 2 3 rfl rfl rfl
  have F_is_day : Has K mg "is_day" s_is_day := has_of X G c 2 4 5 rfl rfl rfl
  have F_are_from : Has K mg "are_from" s_are_from := has_of X G c 3 6 7 rfl rfl rfl
  have F_are_numbers : Has K mg "are_numbers" s_are_numbers := has_of X G c 4 8 9 rfl rfl rfl
  have F_moved : Has K mg "moved" s_moved := has_of X G c 5 10 11 rfl rfl rfl
  have F_standing : Has K mg "standing" s_standing := has_of X G c 6 12 13 rfl rfl rfl
  have F_are_carried : Has K mg "are_carried" s_are_carried := has_of X G c 7 14 15 rfl rfl rfl
  have F_is_plan : Has K mg "is_plan" s_is_plan := has_of X G c 8 16 17 rfl rfl rfl
  have F_settled : Has K mg "settled" s_settled := has_of X G c 9 18 19 rfl rfl rfl
  have F_fewest : Has K mg "fewest" s_fewest := has_of X G c 10 20 21 rfl rfl rfl
  have F__law_bag : Has K mg "_law_bag" s__law_bag := has_of X G c 11 22 23 rfl rfl rfl
  have F__law_take : Has K mg "_law_take" s__law_take := has_of X G c 12 24 25 rfl rfl rfl
  have F__law_of : Has K mg "_law_of" s__law_of := has_of X G c 13 26 27 rfl rfl rfl
  have F__law_day : Has K mg "_law_day" s__law_day := has_of X G c 14 28 29 rfl rfl rfl
  have F__law_wanted : Has K mg "_law_wanted" s__law_wanted := has_of X G c 15 30 31 rfl rfl rfl
  have F__law_stands : Has K mg "_law_stands" s__law_stands := has_of X G c 16 32 33 rfl rfl rfl
  have F__law_is_number : Has K mg "_law_is_number" s__law_is_number := has_of X G c 17 34 35 rfl rfl rfl
  have F__law_is_plan : Has K mg "_law_is_plan" s__law_is_plan := has_of X G c 18 36 37 rfl rfl rfl
  have F__law_is_day : Has K mg "_law_is_day" s__law_is_day := has_of X G c 19 38 39 rfl rfl rfl
  have F__law_are_numbers : Has K mg "_law_are_numbers" s__law_are_numbers := has_of X G c 20 40 41 rfl rfl rfl
  have F__law_odd : Has K mg "_law_odd" s__law_odd := has_of X G c 21 42 43 rfl rfl rfl
  have F__law_bent_plans : Has K mg "_law_bent_plans" s__law_bent_plans := has_of X G c 22 44 45 rfl rfl rfl
  have F_law : Has K mg "law" s_law := has_of X G c 23 46 47 rfl rfl rfl
  have F_Flow___init__ : HasI K mg "Flow" (He.ga K "Flow") "Flow.__init__" s_Flow___init__ := hasI_of X G c 24 51 50 48 rfl rfl rfl rfl
  have F_Flow_starts : HasM K (He.ga K "Flow") "starts" "Flow.starts" s_Flow_starts := hasM_of c 25 52 rfl rfl
  have F_Flow_waits : HasM K (He.ga K "Flow") "waits" "Flow.waits" s_Flow_waits := hasM_of c 26 53 rfl rfl
  have F_Flow_steps : HasM K (He.ga K "Flow") "steps" "Flow.steps" s_Flow_steps := hasM_of c 27 54 rfl rfl
  have F_Flow_reached : HasM K (He.ga K "Flow") "reached" "Flow.reached" s_Flow_reached := hasM_of c 28 55 rfl rfl
  have F_Flow_lessen : HasM K (He.ga K "Flow") "lessen" "Flow.lessen" s_Flow_lessen := hasM_of c 29 56 rfl rfl
  have F_Flow_settle : HasM K (He.ga K "Flow") "settle" "Flow.settle" s_Flow_settle := hasM_of c 30 57 rfl rfl
  have T_Flow : Ctx K (He.ga K "Flow") := ⟨He.cls_ok (c.fact 49 rfl), noat_of c 58 rfl, noat_of c 59 rfl, noat_of c 60 rfl, noat_of c 61 rfl, noat_of c 62 rfl⟩
  have hPLACES : mg "PLACES" = some (.ref (He.ga K "PLACES")) := He.glo_ok X G (c.fact 85 rfl)
  have hT_PLACES : ∀ H, SqT K H (He.ga K "PLACES") [.int (2), .int (5)] := cT.tup 0 rfl
  have hFAR : ∃ t, mg "FAR" = some (.int 99 t) := He.int_ok X G (c.fact 80 rfl)
  have hHOURS : ∃ t, mg "HOURS" = some (.int 8 t) := He.int_ok X G (c.fact 81 rfl)
  have hWALKS : ∃ t, mg "WALKS" = some (.int 12 t) := He.int_ok X G (c.fact 82 rfl)
  have hROOM : ∃ t, mg "ROOM" = some (.int 3 t) := He.int_ok X G (c.fact 83 rfl)
  have hMOST : ∃ t, mg "MOST" = some (.int 20 t) := He.int_ok X G (c.fact 84 rfl)
  obtain ⟨fL, fdL, FL, hmL⟩ := F_law.ex
  rw [hfa] at hmL
  cases hmL
  have bL := FL.binds (ps := ["script"]) fun _ _ _ _ _ _ us hl => match us, hl with | [_], _ => rfl
  refine ⟨fdL, fun s v => ?_, fun base _ _ => ?_⟩
  · obtain ⟨oc, od, kV, doc, pm, an, cdv, ct, osl, rfl, _, _⟩ := FL.ex
    exact .of_eq rfl
  · have D_is_from := df_is_from (P := P) (w := w) (base := base) B F_is_from
    have D_is_walk := df_is_walk (P := P) (w := w) (base := base) B hROOM D_is_from F_is_walk
    have D_is_day := df_is_day (P := P) (w := w) (base := base) B hPLACES hT_PLACES hHOURS hWALKS D_is_from D_is_walk F_is_day
    have D_are_from := df_are_from (P := P) (w := w) (base := base) B D_is_from F_are_from
    have D_are_numbers := df_are_numbers (P := P) (w := w) (base := base) B hMOST D_are_from F_are_numbers
    have D_moved := df_moved (P := P) (w := w) (base := base) B F_moved
    have D_standing := df_standing (P := P) (w := w) (base := base) B D_moved F_standing
    have D_are_carried := df_are_carried (P := P) (w := w) (base := base) B D_is_from F_are_carried
    have T := T_Flow
    have M_init := mf_init (P := P) (w := w) (base := base) _ T B F_Flow___init__
    have M_starts := mf_starts (P := P) (w := w) (base := base) _ T B F_Flow_starts
    have M_waits := mf_waits (P := P) (w := w) (base := base) _ T B M_starts D_standing F_Flow_waits
    have M_steps := mf_steps (P := P) (w := w) (base := base) _ T B F_Flow_steps
    have M_reached := mf_reached (P := P) (w := w) (base := base) _ T B M_waits M_steps F_Flow_reached
    have M_lessen := mf_lessen (P := P) (w := w) (base := base) _ T B M_reached F_Flow_lessen
    have M_settle := mf_settle (P := P) (w := w) (base := base) _ T B M_lessen F_Flow_settle
    have D_settled := df_settled (P := P) (w := w) (base := base) _ T B M_init M_settle F_settled
    have D_fewest := df_fewest (P := P) (w := w) (base := base) _ T B D_settled M_starts F_fewest
    have D_is_plan := df_is_plan (P := P) (w := w) (base := base) B hFAR D_moved D_standing D_are_from D_are_carried F_is_plan
    have D_bag := df_bag (P := P) (w := w) (base := base) B F__law_bag
    have D_take := df_take (P := P) (w := w) (base := base) B F__law_take
    have D_of := df_of' (P := P) (w := w) (base := base) B D_take F__law_of
    have D_day := df_day (P := P) (w := w) (base := base) B D_take D_of F__law_day
    have D_wanted := df_wanted (P := P) (w := w) (base := base) B D_take F__law_wanted
    have D_is_number := df_is_number (P := P) (w := w) (base := base) B F__law_is_number
    have D_stands := df_stands (P := P) (w := w) (base := base) B F__law_stands
    have D_law_is_plan := df_law_is_plan (P := P) (w := w) (base := base) B D_is_number D_stands F__law_is_plan
    have D_law_is_day := df_law_is_day (P := P) (w := w) (base := base) B hset D_is_number F__law_is_day
    have D_law_are_numbers := df_law_are_numbers (P := P) (w := w) (base := base) B D_is_number F__law_are_numbers
    have D_odd := df_odd (P := P) (w := w) (base := base) B D_take D_of F__law_odd
    have D_bent := df_bent (P := P) (w := w) (base := base) B D_take D_of F__law_bent_plans
    exact fn_law B D_bag D_take D_day D_wanted D_odd D_bent D_is_day D_law_is_day D_are_numbers D_law_are_numbers D_fewest D_is_plan D_law_is_plan D_standing D_stands FL
end Dw
open PySem PySem.W PySem.Calls PyProof.Rows in
set_option maxRecDepth 100000 in
set_option maxHeartbeats 0 in
theorem PySem.Challenge.cw_drywalks_k01_what_are_days_and_plans_holds : PySem.Challenge.rw_drywalks_k01_what_are_days_and_plans.Holds := by
  w_on; o_law
  refine HandSHeadRun.head_any (r := OpenLaw.row PySem.Challenge.rw_drywalks_k01_what_are_days_and_plans) (q := view (OpenLaw.row PySem.Challenge.rw_drywalks_k01_what_are_days_and_plans).prog [35]) (H := Dw.hkE) (ob := Dw.obE) (M := 4000) (loose := Dw.looseL) (d := HandSHeadRun.topDef (OpenLaw.row PySem.Challenge.rw_drywalks_k01_what_are_days_and_plans).prog 35) (kwd := []) Dw.obE_eq
    (by kernel_rfl) (fun s => by kernel_rfl) Dw.runE (by kernel_rfl) (by kernel_rfl) (by kernel_rfl) (by rfl) (by first | assumption | decide +kernel) (by decide +kernel) ⟨rfl, rfl, rfl, rfl, rfl, by decide +kernel⟩ ?hw ?hc
  case hw => w_witness2
  case hc =>
    refine L2.walk_ofE (l := PySem.Challenge.rw_drywalks_k01_what_are_days_and_plans) (n := 63) (k := 10) (x := "script") (CX := L2.CX0) rfl (by decide) (by kernel_rfl) ⟨rfl, by decide, by decide⟩ ?F (fun _ _ _ _ z => z)
    intro w mg fa h Y G hmg0
    obtain ⟨K, KX, c⟩ := Y
    have hmg : mg ("law" : PySem.Str) = some (.ref fa) := by
      have e : (HandSHeadRun.topDef (OpenLaw.row PySem.Challenge.rw_drywalks_k01_what_are_days_and_plans).prog 35).name = ("law" : PySem.Str) := by kernel_rfl
      rw [← e]
      exact hmg0
    obtain ⟨fd, hb, hF⟩ := Dw.factsE (P := (PySem.Challenge.rw_drywalks_k01_what_are_days_and_plans).prog) (w := w) KX G hmg c
    exact ⟨K, fd, Dw.spLaw K, KX, hb, fun H a ns hl _ hS => ⟨a, ns, rfl, hS, hl, fun _ => rfl⟩, hF⟩
#print axioms PySem.Challenge.cw_drywalks_k01_what_are_days_and_plans_holds
