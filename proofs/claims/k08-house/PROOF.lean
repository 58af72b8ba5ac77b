import PyProof.Rows.All
import Wide.All
import OpenK.AllK
import Wide.FinOn
import HandS.ForMost
import HandS.Zip
import HandS.Walk
import KE.GoesMore
import KE.GoesEnum
import KE.GoesZip
import HandS.TupMul
import HandS.TupAny
import HandS.IsInst
import HandS.Evl
import HandS.TupSets
import KE.KDictCopyH
import KE.KDictKeyed
import KE.KDictSum
import KE.KStateDown
import HandS.Words
import HandS.WordsExc
import HandS.Defaults
import HandS.Head0
import HandS.Head1
import HandS.Head2
import HandS.HeadEnd
import HandS.HeadHook1
import PyProof.Rows.SumAny
import HandS.Deep
import HandS.Style
import KE.SortData
import KE.DataCmp
import HandS.HeadHook2
import HandS.TupLen
import HandS.More
import HandS.TryOnly
import HandS.HotCalls
import HandS.ExcIs
import HandS.ExcField
import HandS.ExcInit
import KE.KExcIs
import HandS.OwnEq
import PyProof.TupleIter
import HandS.Text
import PySem.Challenge.RW_drywalks_k08_whole_a_house_hour_by_hour
set_option Elab.async false
set_option linter.all false
set_option maxRecDepth 100000
set_option maxHeartbeats 4000001
/-! The mirror of the program in plain Lean, and its mathematics: flows over moments of places, lines as cuts. -/
namespace Dry

structure Wk where
  h : Nat
  b : Nat
  e : Nat
  wet : Bool
  r : Nat
deriving DecidableEq

def Wk.wi (w : Wk) : Int := if w.wet then 1 else 0

structure Day where
  P : Nat
  T : Nat
  ws : List Wk

structure Day.Ok (d : Day) : Prop where
  h : ∀ w ∈ d.ws, w.h < d.T
  b : ∀ w ∈ d.ws, w.b < d.P
  e : ∀ w ∈ d.ws, w.e < d.P
  r : ∀ w ∈ d.ws, 1 ≤ w.r

/-! ### lists changed by place -/
def addAt (xs : List Int) (i : Nat) (x : Int) : List Int := xs.set i (xs.getD i 0 + x)

theorem addAt_length (xs : List Int) (i : Nat) (x : Int) : (addAt xs i x).length = xs.length := by
  simp [addAt]
theorem addAt_getD (xs : List Int) (i : Nat) (x : Int) (j : Nat) (h : i < xs.length) :
    (addAt xs i x).getD j 0 = xs.getD j 0 + (if i = j then x else 0) := by
  unfold addAt
  simp only [List.getD_eq_getElem?_getD, List.getElem?_set]
  by_cases e : i = j
  · subst e; simp [h]
  · simp [e]

/-! ### sums -/
/-- the sum of what walks of a kind carry -/
def sw (q : Wk → Bool) : List Wk → List Int → Int
  | w :: ws, c :: cs => (if q w then c else 0) + sw q ws cs
  | _, _ => 0
def sumWs (f : Wk → Int) : List Wk → Int
  | [] => 0
  | w :: ws => f w + sumWs f ws
def sumWc (f : Wk → Int → Int) : List Wk → List Int → Int
  | w :: ws, c :: cs => f w c + sumWc f ws cs
  | _, _ => 0
def sumP (f : Nat → Int) : Nat → Int
  | 0 => 0
  | n + 1 => sumP f n + f n

theorem sumP_congr {f g : Nat → Int} : ∀ n, (∀ p, p < n → f p = g p) → sumP f n = sumP g n
  | 0, _ => rfl
  | n + 1, h => by
    unfold sumP
    rw [sumP_congr n (fun p hp => h p (by omega)), h n (by omega)]
theorem sumP_le {f g : Nat → Int} : ∀ n, (∀ p, p < n → f p ≤ g p) → sumP f n ≤ sumP g n
  | 0, _ => Int.le_refl _
  | n + 1, h => by
    unfold sumP
    have h1 := sumP_le n (fun p hp => h p (by omega))
    have h2 := h n (by omega)
    omega
theorem sumP_add (f g : Nat → Int) : ∀ n, sumP (fun p => f p + g p) n = sumP f n + sumP g n
  | 0 => rfl
  | n + 1 => by
    unfold sumP
    rw [sumP_add f g n]; omega
theorem sumP_sub (f g : Nat → Int) : ∀ n, sumP (fun p => f p - g p) n = sumP f n - sumP g n
  | 0 => rfl
  | n + 1 => by
    unfold sumP
    rw [sumP_sub f g n]; omega
theorem sumP_zero : ∀ n, sumP (fun _ => 0) n = 0
  | 0 => rfl
  | n + 1 => by
    unfold sumP
    rw [sumP_zero n]; rfl
theorem sumP_nonneg {f : Nat → Int} (n : Nat) (h : ∀ p, p < n → 0 ≤ f p) : 0 ≤ sumP f n := by
  have := sumP_le (f := fun _ => 0) (g := f) n h
  rwa [sumP_zero] at this
theorem sumP_single (x : Int) (j : Nat) : ∀ n, sumP (fun p => if j = p then x else 0) n = if j < n then x else 0
  | 0 => by simp [sumP]
  | n + 1 => by
    unfold sumP
    rw [sumP_single x j n]
    by_cases h : j < n
    · rw [if_pos h, if_neg (by omega), if_pos (by omega)]; omega
    · by_cases e : j = n
      · subst e; simp
      · rw [if_neg h, if_neg e, if_neg (by omega)]; rfl
/-- the sum of a list is the sum over its places -/
theorem sum_getD : ∀ (xs : List Int), xs.sum = sumP (fun p => xs.getD p 0) xs.length := by
  intro xs
  suffices h : ∀ n, n ≤ xs.length → (xs.take n).sum = sumP (fun p => xs.getD p 0) n by
    have := h xs.length (Nat.le_refl _)
    rwa [List.take_length] at this
  intro n
  induction n with
  | zero => intro _; simp [sumP]
  | succ n ih =>
    intro hn
    have hl : n < xs.length := by omega
    rw [List.take_succ_eq_append_getElem hl, List.sum_append, ih (by omega)]
    show _ = sumP (fun p => xs.getD p 0) n + xs.getD n 0
    have e : xs.getD n 0 = xs[n] := by simp [List.getD_eq_getElem?_getD, hl]
    rw [e]
    simp

theorem sw_congr {q q' : Wk → Bool} : ∀ (ws : List Wk) (cs : List Int), (∀ w ∈ ws, q w = q' w) → sw q ws cs = sw q' ws cs
  | [], _, _ => by simp [sw]
  | _ :: _, [], _ => by simp [sw]
  | w :: ws, c :: cs, h => by
    unfold sw
    rw [h w (by simp), sw_congr ws cs (fun v hv => h v (by simp [hv]))]
theorem sw_false {q : Wk → Bool} (ws : List Wk) (cs : List Int) (h : ∀ w ∈ ws, q w = false) : sw q ws cs = 0 := by
  induction ws generalizing cs with
  | nil => simp [sw]
  | cons w ws ih =>
    cases cs with
    | nil => simp [sw]
    | cons c cs =>
      unfold sw
      rw [h w (by simp), ih cs (fun v hv => h v (by simp [hv]))]
      rfl
/-- summed over places, each walk counts once -/
theorem sumP_sw (P : Nat) (k : Wk → Nat → Bool) (at_ : Wk → Nat) : ∀ (ws : List Wk) (cs : List Int), (∀ w ∈ ws, at_ w < P) →
    sumP (fun p => sw (fun w => k w p && decide (at_ w = p)) ws cs) P = sw (fun w => k w (at_ w)) ws cs
  | [], _, _ => by simp [sw, sumP_zero]
  | _ :: _, [], _ => by simp [sw, sumP_zero]
  | w :: ws, c :: cs, h => by
    have ih := sumP_sw P k at_ ws cs (fun v hv => h v (by simp [hv]))
    have e : sumP (fun p => sw (fun w => k w p && decide (at_ w = p)) (w :: ws) (c :: cs)) P
        = sumP (fun p => (if at_ w = p then (if k w (at_ w) then c else 0) else 0)) P + sumP (fun p => sw (fun w => k w p && decide (at_ w = p)) ws cs) P := by
      rw [← sumP_add]
      refine sumP_congr P fun p _ => ?_
      show (if (k w p && decide (at_ w = p)) = true then c else 0) + _ = _
      by_cases e : at_ w = p
      · subst e; simp
      · simp [e]
    rw [e, sumP_single, if_pos (h w (by simp)), ih]
    rfl
/-- one walk's carrying changed -/
theorem sw_addAt (q : Wk → Bool) (x : Int) : ∀ (ws : List Wk) (cs : List Int) (i : Nat) (w : Wk), ws[i]? = some w → i < cs.length →
    sw q ws (addAt cs i x) = sw q ws cs + (if q w then x else 0)
  | [], _, _, _, h, _ => by simp at h
  | _ :: _, [], _, _, _, h => by simp at h
  | v :: ws, c :: cs, 0, w, h, _ => by
    simp at h; subst h
    show sw q (v :: ws) ((c + x) :: cs) = _
    unfold sw
    by_cases e : q v = true <;> simp [e]; omega
  | v :: ws, c :: cs, i + 1, w, h, hl => by
    have ih := sw_addAt q x ws cs i w (by simpa using h) (by simpa using hl)
    have e : addAt (c :: cs) (i + 1) x = c :: addAt cs i x := by simp [addAt]
    rw [e]
    unfold sw
    rw [ih]; omega

/-! ### what stands, what waits -/
def inS (ws : List Wk) (cs : List Int) (t p : Nat) : Int := sw (fun w => decide (w.h < t) && decide (w.e = p)) ws cs
def outS (ws : List Wk) (cs : List Int) (t p : Nat) : Int := sw (fun w => decide (w.h < t) && decide (w.b = p)) ws cs
/-- what stands at a place at a moment -/
def stand (ws : List Wk) (S cs : List Int) (t p : Nat) : Int := S.getD p 0 + inS ws cs t p - outS ws cs t p
/-- what waits there to the next moment -/
def wait (ws : List Wk) (S cs : List Int) (t p : Nat) : Int := S.getD p 0 + inS ws cs t p - outS ws cs (t + 1) p

theorem wait_last {d : Day} (ok : d.Ok) (S cs : List Int) (p : Nat) : wait d.ws S cs d.T p = stand d.ws S cs d.T p := by
  unfold wait stand
  have : outS d.ws cs (d.T + 1) p = outS d.ws cs d.T p := sw_congr _ _ fun w hw => by
    have := ok.h w hw
    have h1 : decide (w.h < d.T + 1) = true := by simp; omega
    have h2 : decide (w.h < d.T) = true := by simp; omega
    rw [h1, h2]
  rw [this]

/-- what must be left -/
def low (T : Nat) (W : List Int) (t p : Nat) : Int := if t = T then W.getD p 0 else 0
/-- what can be had -/
def res (d : Day) (S W cs : List Int) (t p : Nat) : Int := wait d.ws S cs t p - low d.T W t p

structure Feas (d : Day) (S W cs : List Int) : Prop where
  len : cs.length = d.ws.length
  lo : ∀ i w, d.ws[i]? = some w → w.wi ≤ cs.getD i 0
  hi : ∀ i w, d.ws[i]? = some w → cs.getD i 0 ≤ (w.r : Int)
  st : ∀ t p, t ≤ d.T → p < d.P → 0 ≤ res d S W cs t p

/-! ### lines -/
def leaves (k : Nat → Nat) (w : Wk) : Bool := decide (w.h < k w.b)
def comes (k : Nat → Nat) (w : Wk) : Bool := decide (w.h + 1 < k w.e)
def showW (k : Nat → Nat) (w : Wk) : Int := if leaves k w && !comes k w then w.wi else if comes k w && !leaves k w then -(w.r : Int) else 0
def raw (d : Day) (W : List Int) (k : Nat → Nat) : Int := sumP (fun p => if k p = d.T + 1 then W.getD p 0 else 0) d.P + sumWs (showW k) d.ws
def inside (d : Day) (S : List Int) (k : Nat → Nat) : Int := sumP (fun p => if 0 < k p then S.getD p 0 else 0) d.P

theorem sw_diff (k : Nat → Nat) : ∀ (ws : List Wk) (cs : List Int), sw (leaves k) ws cs - sw (comes k) ws cs
    = sumWc (fun w c => if leaves k w && !comes k w then c else if comes k w && !leaves k w then -c else 0) ws cs
  | [], _ => by simp [sw, sumWc]
  | _ :: _, [] => by simp [sw, sumWc]
  | w :: ws, c :: cs => by
    have ih := sw_diff k ws cs
    unfold sw sumWc
    rw [← ih]
    cases leaves k w <;> cases comes k w <;> simp <;> omega

/-- what starts inside goes out, stays, or is there at the end -/
theorem balance {d : Day} (ok : d.Ok) (S cs : List Int) (k : Nat → Nat) :
    inside d S k = sumP (fun p => if 0 < k p then wait d.ws S cs (k p - 1) p else 0) d.P
      + sumWc (fun w c => if leaves k w && !comes k w then c else if comes k w && !leaves k w then -c else 0) d.ws cs := by
  have e1 : sumP (fun p => sw (fun w => decide (w.h + 1 < k p) && decide (w.e = p)) d.ws cs) d.P = sw (comes k) d.ws cs :=
    sumP_sw d.P (fun w p => decide (w.h + 1 < k p)) (fun w => w.e) d.ws cs ok.e
  have e2 : sumP (fun p => sw (fun w => decide (w.h < k p) && decide (w.b = p)) d.ws cs) d.P = sw (leaves k) d.ws cs :=
    sumP_sw d.P (fun w p => decide (w.h < k p)) (fun w => w.b) d.ws cs ok.b
  have e3 : sumP (fun p => if 0 < k p then wait d.ws S cs (k p - 1) p else 0) d.P
      = inside d S k + sumP (fun p => sw (fun w => decide (w.h + 1 < k p) && decide (w.e = p)) d.ws cs) d.P
        - sumP (fun p => sw (fun w => decide (w.h < k p) && decide (w.b = p)) d.ws cs) d.P := by
    unfold inside
    rw [← sumP_add, ← sumP_sub]
    refine sumP_congr d.P fun p _ => ?_
    by_cases h : 0 < k p
    · rw [if_pos h, if_pos h]
      unfold wait
      have a1 : inS d.ws cs (k p - 1) p = sw (fun w => decide (w.h + 1 < k p) && decide (w.e = p)) d.ws cs := sw_congr _ _ fun w _ => by
        have : decide (w.h < k p - 1) = decide (w.h + 1 < k p) := by
          by_cases hh : w.h + 1 < k p
          · rw [decide_eq_true hh, decide_eq_true (by omega)]
          · rw [decide_eq_false hh, decide_eq_false (by omega)]
        rw [this]
      have a2 : outS d.ws cs (k p - 1 + 1) p = sw (fun w => decide (w.h < k p) && decide (w.b = p)) d.ws cs := by
        have : k p - 1 + 1 = k p := by omega
        rw [this]; rfl
      rw [a1, a2]
    · rw [if_neg h, if_neg h]
      have z : k p = 0 := by omega
      rw [sw_false d.ws cs (fun w _ => by rw [z]; simp), sw_false d.ws cs (fun w _ => by rw [z]; simp)]
      rfl
  rw [e3, e1, e2, ← sw_diff]
  omega

theorem sumWs_le_sumWc {f : Wk → Int} {g : Wk → Int → Int} : ∀ (ws : List Wk) (cs : List Int), cs.length = ws.length →
    (∀ i w, ws[i]? = some w → f w ≤ g w (cs.getD i 0)) → sumWs f ws ≤ sumWc g ws cs
  | [], _, _, _ => by simp [sumWs, sumWc]
  | _ :: _, [], h, _ => by simp at h
  | w :: ws, c :: cs, h, k => by
    have ih := sumWs_le_sumWc ws cs (by simpa using h) (fun i v hv => by
      have := k (i + 1) v (by simpa using hv)
      simpa using this)
    have h0 := k 0 w rfl
    simp at h0
    unfold sumWs sumWc
    omega
theorem sumWs_eq_sumWc {f : Wk → Int} {g : Wk → Int → Int} : ∀ (ws : List Wk) (cs : List Int), cs.length = ws.length →
    (∀ i w, ws[i]? = some w → f w = g w (cs.getD i 0)) → sumWs f ws = sumWc g ws cs
  | [], _, _, _ => by simp [sumWs, sumWc]
  | _ :: _, [], h, _ => by simp at h
  | w :: ws, c :: cs, h, k => by
    have ih := sumWs_eq_sumWc ws cs (by simpa using h) (fun i v hv => by
      have := k (i + 1) v (by simpa using hv)
      simpa using this)
    have h0 := k 0 w rfl
    simp at h0
    unfold sumWs sumWc
    omega

/-- no line shows more than start inside, in any plan -/
theorem weak {d : Day} (ok : d.Ok) {S W cs : List Int} (F : Feas d S W cs) (k : Nat → Nat) (hk : ∀ p, p < d.P → k p ≤ d.T + 1) :
    raw d W k ≤ inside d S k := by
  rw [balance ok S cs k]
  unfold raw
  have h1 : sumP (fun p => if k p = d.T + 1 then W.getD p 0 else 0) d.P ≤ sumP (fun p => if 0 < k p then wait d.ws S cs (k p - 1) p else 0) d.P := by
    refine sumP_le d.P fun p hp => ?_
    by_cases h0 : 0 < k p
    · rw [if_pos h0]
      have h := F.st (k p - 1) p (by have := hk p hp; omega) hp
      unfold res low at h
      by_cases e : k p = d.T + 1
      · rw [if_pos e]
        rw [if_pos (by omega)] at h
        omega
      · rw [if_neg e]
        rw [if_neg (by omega)] at h
        omega
    · rw [if_neg h0, if_neg (by omega)]
      exact Int.le_refl _
  have h2 : sumWs (showW k) d.ws ≤ sumWc (fun w c => if leaves k w && !comes k w then c else if comes k w && !leaves k w then -c else 0) d.ws cs := by
    refine sumWs_le_sumWc d.ws cs F.len fun i w hw => ?_
    have a := F.lo i w hw
    have b := F.hi i w hw
    unfold showW
    generalize cs.getD i 0 = c at a b
    cases leaves k w <;> cases comes k w <;> simp <;> omega
  omega
/-- where all is tight, a line shows just what starts inside -/
theorem tight {d : Day} (ok : d.Ok) {S W cs : List Int} (hl : cs.length = d.ws.length) (k : Nat → Nat)
    (h0 : ∀ p, p < d.P → 0 < k p → res d S W cs (k p - 1) p = 0) (hk : ∀ p, p < d.P → k p ≤ d.T + 1)
    (h1 : ∀ i w, d.ws[i]? = some w → leaves k w = true → comes k w = false → cs.getD i 0 = w.wi)
    (h2 : ∀ i w, d.ws[i]? = some w → leaves k w = false → comes k w = true → cs.getD i 0 = (w.r : Int)) :
    raw d W k = inside d S k := by
  rw [balance ok S cs k]
  unfold raw
  have e1 : sumP (fun p => if k p = d.T + 1 then W.getD p 0 else 0) d.P = sumP (fun p => if 0 < k p then wait d.ws S cs (k p - 1) p else 0) d.P := by
    refine sumP_congr d.P fun p hp => ?_
    by_cases q : 0 < k p
    · rw [if_pos q]
      have h := h0 p hp q
      unfold res low at h
      by_cases e : k p = d.T + 1
      · rw [if_pos e]
        rw [if_pos (by omega)] at h
        omega
      · rw [if_neg e]
        rw [if_neg (by have := hk p hp; omega)] at h
        omega
    · rw [if_neg q, if_neg (by omega)]
  have e2 : sumWs (showW k) d.ws = sumWc (fun w c => if leaves k w && !comes k w then c else if comes k w && !leaves k w then -c else 0) d.ws cs := by
    refine sumWs_eq_sumWc d.ws cs hl fun i w hw => ?_
    have a := h1 i w hw
    have b := h2 i w hw
    unfold showW
    cases hL : leaves k w <;> cases hC : comes k w <;> simp
    · exact (b hL hC).symm
    · exact (a hL hC).symm
  omega
end Dry

/-! The mirror of the class Flow. -/
namespace Dry

/-! ### the mirror -/
def movedStep (hour : Nat) (o : List Int × List Int) (wc : Wk × Int) : List Int × List Int :=
  if wc.1.h = hour then (addAt o.1 wc.1.b wc.2, addAt o.2 wc.1.e wc.2) else o
def moved (d : Day) (hour : Nat) (cs : List Int) : List Int × List Int :=
  (d.ws.zip cs).foldl (movedStep hour) (List.replicate d.P 0, List.replicate d.P 0)
def zip3 (f : Int → Int → Int → Int) : List Int → List Int → List Int → List Int
  | a :: as, b :: bs, c :: cs => f a b c :: zip3 f as bs cs
  | _, _, _ => []
def rowAt (d : Day) (S cs : List Int) : Nat → List Int
  | 0 => S
  | t + 1 => zip3 (fun s l m => s - l + m) (rowAt d S cs t) (moved d t cs).1 (moved d t cs).2
def standing (d : Day) (S cs : List Int) : List (List Int) := (List.range (d.T + 1)).map (rowAt d S cs)
def leftStep (hour : Nat) (l : List Int) (wc : Wk × Int) : List Int := if wc.1.h = hour then addAt l wc.1.b (-wc.2) else l
def leftRow (d : Day) (S cs : List Int) (t : Nat) : List Int := (d.ws.zip cs).foldl (leftStep t) (rowAt d S cs t)
def waits (d : Day) (S W cs : List Int) : List (List Int) :=
  (List.range d.T).map (leftRow d S cs) ++ [List.zipWith (fun s l => s - l) (rowAt d S cs d.T) W]
def at2 (rows : List (List Int)) (t p : Nat) : Int := (rows.getD t []).getD p 0

abbrev Nd := Nat × Nat
abbrev Stp := Nat × Nat × Option Nat × Int
def stepW (cs : List Int) (m p : Nat) (iw : Nat × Wk) : List Stp :=
  (if (iw.2.h + 1 = m ∧ iw.2.e = p) ∧ iw.2.wi < cs.getD iw.1 0 then [(iw.2.h, iw.2.b, some iw.1, -1)] else []) ++
  (if (iw.2.h = m ∧ iw.2.b = p) ∧ cs.getD iw.1 0 < (iw.2.r : Int) then [(iw.2.h + 1, iw.2.e, some iw.1, 1)] else [])
def enumF (n : Nat) : List Wk → List (Nat × Wk)
  | [] => []
  | w :: ws => (n, w) :: enumF (n + 1) ws
def stepsOf (d : Day) (cs : List Int) (wt : List (List Int)) (m p : Nat) : List Stp :=
  (if m < d.T then [(m + 1, p, none, 0)] else []) ++ (if 0 < m ∧ 0 < at2 wt (m - 1) p then [(m - 1, p, none, 0)] else []) ++
  (enumF 0 d.ws).flatMap (stepW cs m p)

abbrev Way := Option (Nd × Option Nat × Int)
abbrev Fd := List (Nd × Way)
def keys (f : Fd) : List Nd := f.map (·.1)
def sinks (d : Day) (wt : List (List Int)) : List Nd := ((List.range d.P).filter (fun p => decide (0 < at2 wt d.T p))).map (fun p => (d.T, p))
def visit (here : Nd) (fr : Fd × List Nd) (s : Stp) : Fd × List Nd :=
  if (s.1, s.2.1) ∈ keys fr.1 then fr else (fr.1 ++ [((s.1, s.2.1), some (here, s.2.2))], fr.2 ++ [(s.1, s.2.1)])
def bfs (d : Day) (cs : List Int) (wt : List (List Int)) : Nat → Fd × List Nd → Fd
  | 0, fr => fr.1
  | _ + 1, (f, []) => f
  | n + 1, (f, here :: r) => bfs d cs wt n ((stepsOf d cs wt here.1 here.2).foldl (visit here) (f, r))
def bfs0 (d : Day) (wt : List (List Int)) : Fd × List Nd := ((sinks d wt).map (fun n => (n, none)), sinks d wt)
def reached (d : Day) (cs : List Int) (wt : List (List Int)) : Fd := bfs d cs wt ((d.T + 1) * d.P) (bfs0 d wt)
def wayOf (f : Fd) (n : Nd) : Way := (f.lookup n).getD none
def follow (f : Fd) : Nat → Way → List Int → List Int
  | _, none, cs => cs
  | 0, some _, cs => cs
  | n + 1, some (here, none, _), cs => follow f n (wayOf f here) cs
  | n + 1, some (here, some i, s), cs => follow f n (wayOf f here) (addAt cs i s)

structure Fl where
  more : List Int
  car : List Int
def addL (a b : List Int) : List Int := List.zipWith (fun x y => x + y) a b
def flow0 (d : Day) (W : List Int) : Fl := ⟨d.ws.foldl (fun m w => addAt m w.b w.wi) W, d.ws.map Wk.wi⟩
def found (d : Day) (G W : List Int) (x : Fl) : Fd := reached d x.car (waits d (addL G x.more) W x.car)
def somes (d : Day) (f : Fd) (x : Fl) : List Nat := (List.range d.P).filter (fun p => decide ((0, p) ∈ keys f) && decide (0 < x.more.getD p 0))
def lessen (d : Day) (G W : List Int) (x : Fl) : Option Fl :=
  let f := found d G W x
  match somes d f x with
  | [] => none
  | p :: _ => some ⟨addAt x.more p (-1), follow f f.length (wayOf f (0, p)) x.car⟩
def settle (d : Day) (G W : List Int) : Nat → Fl → Fl
  | 0, x => x
  | n + 1, x => match lessen d G W x with
    | none => x
    | some y => settle d G W n y
def settled (d : Day) (G W : List Int) : Fl := settle d G W (flow0 d W).more.sum.toNat (flow0 d W)
def lineOf (d : Day) (f : Fd) : List Nat := (List.range d.P).map fun p => ((List.range (d.T + 1)).filter fun m => decide ((m, p) ∉ keys f)).length
def lineFl (d : Day) (G W : List Int) (x : Fl) : List Nat := lineOf d (found d G W x)
def zeros (d : Day) : List Int := List.replicate d.P 0
def fewest (d : Day) (W : List Int) : Int × List Int × List Int :=
  let x := settled d (zeros d) W
  (x.more.sum, addL (zeros d) x.more, x.car)
def line (d : Day) (W : List Int) : List Nat := lineFl d (zeros d) W (settled d (zeros d) W)

/-! ### what the rows hold -/
theorem moved_fold (hour : Nat) : ∀ (ws : List Wk) (cs : List Int) (o : List Int × List Int), (∀ w ∈ ws, w.b < o.1.length ∧ w.e < o.2.length) → ws.length = cs.length →
    let r := (ws.zip cs).foldl (movedStep hour) o
    r.1.length = o.1.length ∧ r.2.length = o.2.length ∧
    (∀ p, r.1.getD p 0 = o.1.getD p 0 + sw (fun w => decide (w.h = hour) && decide (w.b = p)) ws cs) ∧
    (∀ p, r.2.getD p 0 = o.2.getD p 0 + sw (fun w => decide (w.h = hour) && decide (w.e = p)) ws cs)
  | [], _, o, _, _ => by simp [sw]
  | _ :: _, [], _, _, h => by simp at h
  | w :: ws, c :: cs, o, hb, hl => by
    have hw := hb w (by simp)
    show let r := (ws.zip cs).foldl (movedStep hour) (movedStep hour o (w, c)); _
    have L : (movedStep hour o (w, c)).1.length = o.1.length ∧ (movedStep hour o (w, c)).2.length = o.2.length := by
      unfold movedStep; split <;> simp [addAt_length]
    have ih := moved_fold hour ws cs (movedStep hour o (w, c)) (fun v hv => by rw [L.1, L.2]; exact hb v (by simp [hv])) (by simpa using hl)
    obtain ⟨a, b, c1, c2⟩ := ih
    refine ⟨a.trans L.1, b.trans L.2, fun p => ?_, fun p => ?_⟩
    · show ((ws.zip cs).foldl (movedStep hour) (movedStep hour o (w, c))).1.getD p 0 = _ + ((if (decide (w.h = hour) && decide (w.b = p)) = true then c else 0) + _)
      rw [c1 p]
      unfold movedStep
      by_cases e : w.h = hour
      · rw [if_pos e]
        show (addAt o.1 w.b c).getD p 0 + _ = _
        rw [addAt_getD _ _ _ _ hw.1]
        simp [e]; omega
      · rw [if_neg e]; simp [e]
    · show ((ws.zip cs).foldl (movedStep hour) (movedStep hour o (w, c))).2.getD p 0 = _ + ((if (decide (w.h = hour) && decide (w.e = p)) = true then c else 0) + _)
      rw [c2 p]
      unfold movedStep
      by_cases e : w.h = hour
      · rw [if_pos e]
        show (addAt o.2 w.e c).getD p 0 + _ = _
        rw [addAt_getD _ _ _ _ hw.2]
        simp [e]; omega
      · rw [if_neg e]; simp [e]
theorem replicate_getD (n p : Nat) : (List.replicate n (0 : Int)).getD p 0 = 0 := by
  simp [List.getD_eq_getElem?_getD, List.getElem?_replicate]
  split <;> rfl
theorem moved_spec {d : Day} (ok : d.Ok) (hour : Nat) (cs : List Int) (hl : cs.length = d.ws.length) :
    (moved d hour cs).1.length = d.P ∧ (moved d hour cs).2.length = d.P ∧
    (∀ p, (moved d hour cs).1.getD p 0 = sw (fun w => decide (w.h = hour) && decide (w.b = p)) d.ws cs) ∧
    (∀ p, (moved d hour cs).2.getD p 0 = sw (fun w => decide (w.h = hour) && decide (w.e = p)) d.ws cs) := by
  have h := moved_fold hour d.ws cs (List.replicate d.P 0, List.replicate d.P 0) (fun w hw => by simp; exact ⟨ok.b w hw, ok.e w hw⟩) hl.symm
  obtain ⟨a, b, c1, c2⟩ := h
  refine ⟨by unfold moved; simpa using a, by unfold moved; simpa using b, fun p => ?_, fun p => ?_⟩
  · have := c1 p
    rw [show (List.replicate d.P (0 : Int), List.replicate d.P (0 : Int)).1 = List.replicate d.P 0 from rfl, replicate_getD] at this
    unfold moved; rw [this]; omega
  · have := c2 p
    rw [show (List.replicate d.P (0 : Int), List.replicate d.P (0 : Int)).2 = List.replicate d.P 0 from rfl, replicate_getD] at this
    unfold moved; rw [this]; omega
theorem zip3_spec (f : Int → Int → Int → Int) : ∀ (n : Nat) (a b c : List Int), a.length = n → b.length = n → c.length = n →
    (zip3 f a b c).length = n ∧ ∀ p, p < n → (zip3 f a b c).getD p 0 = f (a.getD p 0) (b.getD p 0) (c.getD p 0)
  | 0, a, b, c, h1, h2, h3 => by
    obtain rfl := List.eq_nil_of_length_eq_zero h1
    simp [zip3]
  | n + 1, [], _, _, h1, _, _ => by simp at h1
  | n + 1, _ :: _, [], _, _, h2, _ => by simp at h2
  | n + 1, _ :: _, _ :: _, [], _, _, h3 => by simp at h3
  | n + 1, a :: as, b :: bs, c :: cs, h1, h2, h3 => by
    have ih := zip3_spec f n as bs cs (by simpa using h1) (by simpa using h2) (by simpa using h3)
    refine ⟨by simp [zip3, ih.1], fun p hp => ?_⟩
    cases p with
    | zero => simp [zip3]
    | succ p =>
      have := ih.2 p (by omega)
      simpa [zip3] using this
theorem sw_split (q1 q2 q : Wk → Bool) : ∀ (ws : List Wk) (cs : List Int), (∀ w ∈ ws, (if q w then (1 : Int) else 0) = (if q1 w then 1 else 0) + (if q2 w then 1 else 0)) → sw q ws cs = sw q1 ws cs + sw q2 ws cs
  | [], _, _ => by simp [sw]
  | _ :: _, [], _ => by simp [sw]
  | w :: ws, c :: cs, h => by
    have ih := sw_split q1 q2 q ws cs (fun v hv => h v (by simp [hv]))
    have h0 := h w (by simp)
    unfold sw
    rw [ih]
    revert h0
    cases q w <;> cases q1 w <;> cases q2 w <;> simp <;> omega
theorem inS_succ (ws : List Wk) (cs : List Int) (t p : Nat) : inS ws cs (t + 1) p = inS ws cs t p + sw (fun w => decide (w.h = t) && decide (w.e = p)) ws cs := by
  unfold inS
  refine sw_split _ _ _ ws cs fun w _ => ?_
  by_cases e : w.e = p
  · by_cases a : w.h < t
    · have : ¬ w.h = t := by omega
      simp [e, a, this]; omega
    · by_cases b : w.h = t
      · simp [e, b]
      · have : ¬ w.h < t + 1 := by omega
        simp [e, a, b, this]
  · simp [e]
theorem outS_succ (ws : List Wk) (cs : List Int) (t p : Nat) : outS ws cs (t + 1) p = outS ws cs t p + sw (fun w => decide (w.h = t) && decide (w.b = p)) ws cs := by
  unfold outS
  refine sw_split _ _ _ ws cs fun w _ => ?_
  by_cases e : w.b = p
  · by_cases a : w.h < t
    · have : ¬ w.h = t := by omega
      simp [e, a, this]; omega
    · by_cases b : w.h = t
      · simp [e, b]
      · have : ¬ w.h < t + 1 := by omega
        simp [e, a, b, this]
  · simp [e]
theorem rowAt_spec {d : Day} (ok : d.Ok) (S cs : List Int) (hl : cs.length = d.ws.length) (hS : S.length = d.P) :
    ∀ t, (rowAt d S cs t).length = d.P ∧ ∀ p, p < d.P → (rowAt d S cs t).getD p 0 = stand d.ws S cs t p
  | 0 => by
    refine ⟨hS, fun p _ => ?_⟩
    unfold stand inS outS
    rw [sw_false _ _ (fun w _ => by simp), sw_false _ _ (fun w _ => by simp)]
    show S.getD p 0 = _
    omega
  | t + 1 => by
    obtain ⟨ih1, ih2⟩ := rowAt_spec ok S cs hl hS t
    obtain ⟨m1, m2, m3, m4⟩ := moved_spec ok t cs hl
    obtain ⟨z1, z2⟩ := zip3_spec (fun s l m => s - l + m) d.P _ _ _ ih1 m1 m2
    refine ⟨z1, fun p hp => ?_⟩
    show (zip3 _ _ _ _).getD p 0 = _
    rw [z2 p hp, ih2 p hp, m3 p, m4 p]
    unfold stand
    rw [inS_succ, outS_succ]
    omega
theorem left_fold (hour : Nat) : ∀ (ws : List Wk) (cs l : List Int), (∀ w ∈ ws, w.b < l.length) → ws.length = cs.length →
    ((ws.zip cs).foldl (leftStep hour) l).length = l.length ∧
    ∀ p, ((ws.zip cs).foldl (leftStep hour) l).getD p 0 = l.getD p 0 - sw (fun w => decide (w.h = hour) && decide (w.b = p)) ws cs
  | [], _, _, _, _ => by simp [sw]
  | _ :: _, [], _, _, h => by simp at h
  | w :: ws, c :: cs, l, hb, hl => by
    have L : (leftStep hour l (w, c)).length = l.length := by
      unfold leftStep; split <;> simp [addAt_length]
    have ih := left_fold hour ws cs (leftStep hour l (w, c)) (fun v hv => by rw [L]; exact hb v (by simp [hv])) (by simpa using hl)
    refine ⟨ih.1.trans L, fun p => ?_⟩
    show ((ws.zip cs).foldl (leftStep hour) (leftStep hour l (w, c))).getD p 0 = _
    rw [ih.2 p]
    show _ = _ - ((if (decide (w.h = hour) && decide (w.b = p)) = true then c else 0) + _)
    unfold leftStep
    by_cases e : w.h = hour
    · rw [if_pos e]
      show (addAt l w.b (-c)).getD p 0 - _ = _
      rw [addAt_getD _ _ _ _ (hb w (by simp))]
      by_cases e2 : w.b = p <;> simp [e, e2] <;> omega
    · rw [if_neg e]; simp [e]
theorem waits_spec {d : Day} (ok : d.Ok) (S W cs : List Int) (hl : cs.length = d.ws.length) (hS : S.length = d.P) (hW : W.length = d.P) (t p : Nat) (ht : t ≤ d.T) (hp : p < d.P) :
    at2 (waits d S W cs) t p = res d S W cs t p := by
  obtain ⟨r1, r2⟩ := rowAt_spec ok S cs hl hS t
  unfold at2 waits res low
  by_cases e : t = d.T
  · subst e
    have : ((List.range d.T).map (leftRow d S cs) ++ [List.zipWith (fun s l => s - l) (rowAt d S cs d.T) W]).getD d.T [] = List.zipWith (fun s l => s - l) (rowAt d S cs d.T) W := by
      simp [List.getD_eq_getElem?_getD]
    rw [this, if_pos rfl, wait_last ok, ← r2 p hp]
    simp [List.getD_eq_getElem?_getD, List.getElem?_zipWith]
    have h1 : p < (rowAt d S cs d.T).length := by omega
    have h2 : p < W.length := by omega
    simp [h1, h2]
  · have hlt : t < d.T := by omega
    have : ((List.range d.T).map (leftRow d S cs) ++ [List.zipWith (fun s l => s - l) (rowAt d S cs d.T) W]).getD t [] = leftRow d S cs t := by
      simp [List.getD_eq_getElem?_getD, List.getElem?_append, hlt]
    rw [this, if_neg e]
    have lf := left_fold t d.ws cs (rowAt d S cs t) (fun w hw => by rw [r1]; exact ok.b w hw) hl.symm
    unfold leftRow
    rw [lf.2 p, r2 p hp]
    unfold wait stand
    rw [outS_succ]
    omega
end Dry

/-! The search, one umbrella less along a way, and the line at the end. -/
namespace Dry

theorem mem_enumF : ∀ (ws : List Wk) (n i : Nat) (w : Wk), (i, w) ∈ enumF n ws ↔ ∃ j, i = n + j ∧ ws[j]? = some w
  | [], n, i, w => by simp [enumF]
  | v :: ws, n, i, w => by
    rw [enumF, List.mem_cons, mem_enumF ws (n + 1) i w]
    constructor
    · rintro (h | ⟨j, h1, h2⟩)
      · cases h; exact ⟨0, rfl, rfl⟩
      · exact ⟨j + 1, by omega, by simpa using h2⟩
    · rintro ⟨j, h1, h2⟩
      cases j with
      | zero =>
        left
        simp at h2; subst h2; simp at h1; rw [h1]
      | succ j => exact .inr ⟨j, by omega, by simpa using h2⟩

theorem mem_steps {d : Day} {cs : List Int} {wt : List (List Int)} {m p : Nat} {s : Stp} : s ∈ stepsOf d cs wt m p ↔
    (m < d.T ∧ s = (m + 1, p, none, 0)) ∨ ((0 < m ∧ 0 < at2 wt (m - 1) p) ∧ s = (m - 1, p, none, 0)) ∨
    ∃ i w, d.ws[i]? = some w ∧ ((((w.h + 1 = m ∧ w.e = p) ∧ w.wi < cs.getD i 0) ∧ s = (w.h, w.b, some i, -1)) ∨ (((w.h = m ∧ w.b = p) ∧ cs.getD i 0 < (w.r : Int)) ∧ s = (w.h + 1, w.e, some i, 1))) := by
  unfold stepsOf
  rw [List.mem_append, List.mem_append, List.mem_flatMap]
  constructor
  · rintro ((h | h) | ⟨⟨i, w⟩, hi, h⟩)
    · split at h
      · rename_i q; simp at h; exact .inl ⟨q, h⟩
      · simp at h
    · split at h
      · rename_i q; simp at h; exact .inr (.inl ⟨q, h⟩)
      · simp at h
    · obtain ⟨j, h1, h2⟩ := (mem_enumF _ _ _ _).mp hi
      have e : i = j := by omega
      subst e
      refine .inr (.inr ⟨i, w, h2, ?_⟩)
      unfold stepW at h
      rw [List.mem_append] at h
      rcases h with h | h
      · split at h
        · rename_i q; simp at h; exact .inl ⟨q, h⟩
        · simp at h
      · split at h
        · rename_i q; simp at h; exact .inr ⟨q, h⟩
        · simp at h
  · rintro (⟨q, rfl⟩ | ⟨q, rfl⟩ | ⟨i, w, hi, h⟩)
    · left; left; rw [if_pos q]; simp
    · left; right; rw [if_pos q]; simp
    · right
      refine ⟨(i, w), (mem_enumF _ _ _ _).mpr ⟨i, by omega, hi⟩, ?_⟩
      unfold stepW
      rw [List.mem_append]
      rcases h with ⟨q, rfl⟩ | ⟨q, rfl⟩
      · left; rw [if_pos q]; simp
      · right; rw [if_pos q]; simp

/-! ### the search -/
def WayOk (d : Day) (cs : List Int) (wt : List (List Int)) (pre : Fd) (n : Nd) : Way → Prop
  | none => n.1 = d.T ∧ 0 < at2 wt d.T n.2
  | some (here, num, sg) => here ∈ keys pre ∧ (n.1, n.2, num, sg) ∈ stepsOf d cs wt here.1 here.2
def WF (d : Day) (cs : List Int) (wt : List (List Int)) (f : Fd) : Prop := ∀ pre n way post, f = pre ++ (n, way) :: post → WayOk d cs wt pre n way

theorem steps_valid {d : Day} (ok : d.Ok) {cs : List Int} {wt : List (List Int)} {n : Nd} {s : Stp} (hn : n.1 ≤ d.T ∧ n.2 < d.P) (h : s ∈ stepsOf d cs wt n.1 n.2) : s.1 ≤ d.T ∧ s.2.1 < d.P := by
  rcases mem_steps.mp h with ⟨q, rfl⟩ | ⟨q, rfl⟩ | ⟨i, w, hi, ⟨q, rfl⟩ | ⟨q, rfl⟩⟩
  · exact ⟨q, hn.2⟩
  · exact ⟨by show n.1 - 1 ≤ _; omega, hn.2⟩
  · have hw := List.mem_of_getElem? hi
    have := ok.h w hw
    exact ⟨by show w.h ≤ _; omega, ok.b w hw⟩
  · have hw := List.mem_of_getElem? hi
    exact ⟨ok.h w hw, ok.e w hw⟩

structure PIv (d : Day) (cs : List Int) (wt : List (List Int)) (here : Option Nd) (f : Fd) (r : List Nd) : Prop where
  nd : (keys f).Nodup
  val : ∀ n ∈ keys f, n.1 ≤ d.T ∧ n.2 < d.P
  wf : WF d cs wt f
  sub : ∀ n ∈ r, n ∈ keys f
  clo : ∀ n ∈ keys f, n ∈ r ∨ some n = here ∨ ∀ s ∈ stepsOf d cs wt n.1 n.2, (s.1, s.2.1) ∈ keys f
  snk : ∀ p, p < d.P → 0 < at2 wt d.T p → (d.T, p) ∈ keys f

theorem keys_append (f g : Fd) : keys (f ++ g) = keys f ++ keys g := by simp [keys]
theorem append_cons_split {α : Type} {f pre post : List α} {x y : α} (h : f ++ [x] = pre ++ y :: post) : (pre = f ∧ y = x ∧ post = []) ∨ ∃ post', post = post' ++ [x] ∧ f = pre ++ y :: post' := by
  rcases List.eq_nil_or_concat post with rfl | ⟨p', z, rfl⟩
  · left
    have h' : f ++ [x] = pre ++ [y] := by simpa using h
    have := List.append_inj' h' rfl
    exact ⟨this.1.symm, by simpa using this.2.symm, rfl⟩
  · right
    have h' : f ++ [x] = (pre ++ y :: p') ++ [z] := by simpa using h
    have := List.append_inj' h' rfl
    refine ⟨p', ?_, this.1⟩
    have e : x = z := by simpa using this.2
    rw [e]
    simp

theorem PIv.visit1 {d : Day} (ok : d.Ok) {cs : List Int} {wt : List (List Int)} {here : Nd} {f : Fd} {r : List Nd} {s : Stp} (I : PIv d cs wt (some here) f r) (hh : here ∈ keys f) (hs : s ∈ stepsOf d cs wt here.1 here.2) :
    PIv d cs wt (some here) (visit here (f, r) s).1 (visit here (f, r) s).2 ∧ (∀ n ∈ keys f, n ∈ keys (visit here (f, r) s).1) ∧ (s.1, s.2.1) ∈ keys (visit here (f, r) s).1 ∧
    (visit here (f, r) s).1.length + r.length = f.length + (visit here (f, r) s).2.length := by
  unfold visit
  by_cases hm : (s.1, s.2.1) ∈ keys f
  · rw [if_pos hm]
    exact ⟨I, fun _ h => h, hm, rfl⟩
  · rw [if_neg hm]
    have kk : keys (f ++ [((s.1, s.2.1), some (here, s.2.2))]) = keys f ++ [(s.1, s.2.1)] := by simp [keys]
    refine ⟨⟨?_, ?_, ?_, ?_, ?_, ?_⟩, ?_, ?_, ?_⟩
    · show (keys (f ++ [((s.1, s.2.1), some (here, s.2.2))])).Nodup
      rw [kk, List.nodup_append]
      refine ⟨I.nd, by simp, ?_⟩
      intro a ha b hb e
      simp at hb
      subst hb; subst e
      exact hm ha
    · intro n hn
      rw [kk] at hn
      rcases List.mem_append.mp hn with h | h
      · exact I.val n h
      · simp at h; subst h
        exact steps_valid ok (I.val here hh) hs
    · intro pre n way post e
      rcases append_cons_split e with ⟨rfl, e2, _⟩ | ⟨post', _, e2⟩
      · cases e2
        exact ⟨hh, hs⟩
      · exact I.wf pre n way post' e2
    · intro n hn
      show n ∈ keys (f ++ [((s.1, s.2.1), some (here, s.2.2))])
      rw [kk]
      rcases List.mem_append.mp hn with h | h
      · exact List.mem_append_left _ (I.sub n h)
      · exact List.mem_append_right _ h
    · intro n hn
      rw [kk] at hn ⊢
      rcases List.mem_append.mp hn with h | h
      · rcases I.clo n h with h | h | h
        · exact .inl (List.mem_append_left _ h)
        · exact .inr (.inl h)
        · exact .inr (.inr fun t ht => List.mem_append_left _ (h t ht))
      · exact .inl (List.mem_append_right _ h)
    · intro p hp h
      rw [kk]
      exact List.mem_append_left _ (I.snk p hp h)
    · intro n hn
      rw [kk]
      exact List.mem_append_left _ hn
    · rw [kk]; simp
    · simp; omega
theorem PIv.fold {d : Day} (ok : d.Ok) {cs : List Int} {wt : List (List Int)} {here : Nd} : ∀ (ss : List Stp) {f : Fd} {r : List Nd}, PIv d cs wt (some here) f r → here ∈ keys f → (∀ s ∈ ss, s ∈ stepsOf d cs wt here.1 here.2) →
    PIv d cs wt (some here) (ss.foldl (visit here) (f, r)).1 (ss.foldl (visit here) (f, r)).2 ∧ (∀ n ∈ keys f, n ∈ keys (ss.foldl (visit here) (f, r)).1) ∧ (∀ s ∈ ss, (s.1, s.2.1) ∈ keys (ss.foldl (visit here) (f, r)).1) ∧
    (ss.foldl (visit here) (f, r)).1.length + r.length = f.length + (ss.foldl (visit here) (f, r)).2.length
  | [], f, r, I, _, _ => ⟨I, fun _ h => h, fun _ h => by simp at h, rfl⟩
  | s :: ss, f, r, I, hh, hs => by
    obtain ⟨I1, m1, k1, l1⟩ := I.visit1 ok hh (hs s (by simp))
    obtain ⟨I2, m2, k2, l2⟩ := PIv.fold ok ss I1 (m1 _ hh) (fun t ht => hs t (by simp [ht]))
    refine ⟨I2, fun n hn => m2 n (m1 n hn), fun t ht => ?_, ?_⟩
    · rcases List.mem_cons.mp ht with rfl | ht
      · exact m2 _ k1
      · exact k2 t ht
    · show (ss.foldl (visit here) (visit here (f, r) s)).1.length + r.length = f.length + (ss.foldl (visit here) (visit here (f, r) s)).2.length
      have l3 : (ss.foldl (visit here) (visit here (f, r) s)).1.length + (visit here (f, r) s).2.length = (visit here (f, r) s).1.length + (ss.foldl (visit here) (visit here (f, r) s)).2.length := l2
      omega
/-- one taken from the row -/
theorem PIv.turn {d : Day} (ok : d.Ok) {cs : List Int} {wt : List (List Int)} {here : Nd} {f : Fd} {r : List Nd} (I : PIv d cs wt none f (here :: r)) :
    let fr := (stepsOf d cs wt here.1 here.2).foldl (visit here) (f, r)
    PIv d cs wt none fr.1 fr.2 ∧ fr.1.length + r.length = f.length + fr.2.length := by
  have hh : here ∈ keys f := I.sub here (by simp)
  have I0 : PIv d cs wt (some here) f r := ⟨I.nd, I.val, I.wf, fun n hn => I.sub n (by simp [hn]), fun n hn => by
    rcases I.clo n hn with h | h | h
    · rcases List.mem_cons.mp h with rfl | h
      · exact .inr (.inl rfl)
      · exact .inl h
    · cases h
    · exact .inr (.inr h), I.snk⟩
  obtain ⟨I1, m1, k1, l1⟩ := PIv.fold ok _ I0 hh (fun _ h => h)
  refine ⟨⟨I1.nd, I1.val, I1.wf, I1.sub, fun n hn => ?_, I1.snk⟩, l1⟩
  rcases I1.clo n hn with h | h | h
  · exact .inl h
  · cases h
    exact .inr (.inr k1)
  · exact .inr (.inr h)

theorem nodup_lt : ∀ (N : Nat) (l : List Nat), l.Nodup → (∀ x ∈ l, x < N) → l.length ≤ N
  | 0, [], _, _ => Nat.le_refl _
  | 0, x :: _, _, h => absurd (h x (by simp)) (by omega)
  | N + 1, l, hd, h => by
    by_cases hm : N ∈ l
    · have h1 := nodup_lt N (l.erase N) (hd.erase N) (fun x hx => by
        have h2 := (hd.mem_erase_iff).mp hx
        have := h x h2.2
        have := h2.1
        omega)
      rw [List.length_erase_of_mem hm] at h1
      omega
    · have := nodup_lt N l hd (fun x hx => by
        have h1 := h x hx
        have : x ≠ N := fun e => hm (e ▸ hx)
        omega)
      omega
theorem PIv.count {d : Day} {cs : List Int} {wt : List (List Int)} {o : Option Nd} {f : Fd} {r : List Nd} (I : PIv d cs wt o f r) : f.length ≤ (d.T + 1) * d.P := by
  have h := nodup_lt ((d.T + 1) * d.P) ((keys f).map fun n => n.1 * d.P + n.2) (by
    rw [List.Nodup, List.pairwise_map]
    refine List.Pairwise.imp_of_mem ?_ I.nd
    intro a b ha hb ne e
    apply ne
    have va := I.val a ha
    have vb := I.val b hb
    have e1 : a.1 = b.1 := by
      have x1 : (a.1 * d.P + a.2) / d.P = a.1 := by
        rw [Nat.mul_comm, Nat.mul_add_div (by omega), Nat.div_eq_of_lt va.2]; rfl
      have x2 : (b.1 * d.P + b.2) / d.P = b.1 := by
        rw [Nat.mul_comm, Nat.mul_add_div (by omega), Nat.div_eq_of_lt vb.2]; rfl
      rw [← x1, ← x2, e]
    have e2 : a.2 = b.2 := by
      rw [e1] at e
      omega
    exact Prod.ext e1 e2) (by
    intro x hx
    obtain ⟨n, hn, rfl⟩ := List.mem_map.mp hx
    have v := I.val n hn
    have : n.1 * d.P ≤ d.T * d.P := Nat.mul_le_mul_right _ v.1
    have e : (d.T + 1) * d.P = d.T * d.P + d.P := by rw [Nat.add_mul]; simp
    omega)
  simpa [keys] using h
theorem bfs_spec {d : Day} (ok : d.Ok) {cs : List Int} {wt : List (List Int)} : ∀ (n : Nat) (f : Fd) (r : List Nd) (done : Nat), PIv d cs wt none f r → done + r.length = f.length → (d.T + 1) * d.P ≤ n + done →
    PIv d cs wt none (bfs d cs wt n (f, r)) []
  | 0, f, r, done, I, h1, h2 => by
    have := I.count
    have e : r = [] := List.eq_nil_of_length_eq_zero (by omega)
    subst e
    exact I
  | n + 1, f, [], done, I, _, _ => I
  | n + 1, f, here :: r, done, I, h1, h2 => by
    have t := I.turn ok
    refine bfs_spec ok n _ _ (done + 1) t.1 ?_ (by omega)
    have := t.2
    simp at h1
    omega
theorem range_filter_mem {n p : Nat} {q : Nat → Bool} : p ∈ (List.range n).filter q ↔ p < n ∧ q p = true := by simp
theorem bfs0_spec {d : Day} {cs : List Int} {wt : List (List Int)} : PIv d cs wt none (bfs0 d wt).1 (bfs0 d wt).2 := by
  have hk : keys (bfs0 d wt).1 = sinks d wt := by
    unfold keys bfs0
    rw [List.map_map]
    exact List.map_id' _
  have hm : ∀ n, n ∈ sinks d wt ↔ ∃ p, (p < d.P ∧ 0 < at2 wt d.T p) ∧ (d.T, p) = n := by
    intro n
    unfold sinks
    simp [List.mem_map]
  refine ⟨?_, ?_, ?_, ?_, ?_, ?_⟩
  · rw [hk]
    unfold sinks
    rw [List.Nodup, List.pairwise_map]
    refine List.Pairwise.imp ?_ (List.Pairwise.filter _ List.nodup_range)
    intro a b h e
    exact h (by injection e)
  · rw [hk]
    intro n hn
    obtain ⟨p, ⟨h1, h2⟩, rfl⟩ := (hm n).mp hn
    exact ⟨Nat.le_refl _, h1⟩
  · intro pre n way post e
    have : (n, way) ∈ (bfs0 d wt).1 := by rw [e]; simp
    unfold bfs0 at this
    obtain ⟨x, hx, e2⟩ := List.mem_map.mp this
    cases e2
    obtain ⟨p, ⟨h1, h2⟩, rfl⟩ := (hm _).mp hx
    exact ⟨rfl, h2⟩
  · rw [hk]; exact fun n h => h
  · rw [hk]; exact fun n h => .inl h
  · rw [hk]
    intro p hp h
    exact (hm _).mpr ⟨p, ⟨hp, h⟩, rfl⟩
theorem reached_spec {d : Day} (ok : d.Ok) (cs : List Int) (wt : List (List Int)) : PIv d cs wt none (reached d cs wt) [] := by
  refine bfs_spec ok _ _ _ 0 bfs0_spec ?_ (by omega)
  simp

/-! ### one less along a way -/
theorem wait_addAt {ws : List Wk} (S cs : List Int) {i : Nat} {w : Wk} (x : Int) (t p : Nat) (hi : ws[i]? = some w) (hl : i < cs.length) :
    wait ws S (addAt cs i x) t p = wait ws S cs t p + (if w.h < t ∧ w.e = p then x else 0) - (if w.h ≤ t ∧ w.b = p then x else 0) := by
  unfold wait inS outS
  rw [sw_addAt _ x ws cs i w hi hl, sw_addAt _ x ws cs i w hi hl]
  have e1 : (if (decide (w.h < t) && decide (w.e = p)) = true then x else 0) = (if w.h < t ∧ w.e = p then x else 0) := by simp
  have e2 : (if (decide (w.h < t + 1) && decide (w.b = p)) = true then x else 0) = (if w.h ≤ t ∧ w.b = p then x else 0) := by
    simp [Nat.lt_succ_iff]
  rw [e1, e2]
  omega
theorem res_addAt {d : Day} (S W cs : List Int) {i : Nat} {w : Wk} (x : Int) (t p : Nat) (hi : d.ws[i]? = some w) (hl : i < cs.length) :
    res d S W (addAt cs i x) t p = res d S W cs t p + (if w.h < t ∧ w.e = p then x else 0) - (if w.h ≤ t ∧ w.b = p then x else 0) := by
  unfold res
  rw [wait_addAt S cs x t p hi hl]
  omega
def owed (v : Nd) (t p : Nat) : Int := if p = v.2 ∧ v.1 ≤ t then 1 else 0
structure Mid (d : Day) (S W cs0 : List Int) (wt : List (List Int)) (pre : Fd) (v : Nd) (cs : List Int) : Prop where
  len : cs.length = d.ws.length
  nn : ∀ t p, t ≤ d.T → p < d.P → 0 ≤ res d S W cs t p + owed v t p
  ge : ∀ n : Nd, n = v ∨ n ∈ keys pre → at2 wt n.1 n.2 ≤ res d S W cs n.1 n.2 + owed v n.1 n.2
  gT : ∀ p, p < d.P → at2 wt d.T p ≤ res d S W cs d.T p + owed v d.T p
  lo : ∀ i w, d.ws[i]? = some w → w.wi ≤ cs.getD i 0
  hi : ∀ i w, d.ws[i]? = some w → cs.getD i 0 ≤ (w.r : Int)
  cl : ∀ i w, d.ws[i]? = some w → ((w.h, w.b) = v ∨ (w.h, w.b) ∈ keys pre) → cs0.getD i 0 ≤ cs.getD i 0
  ch : ∀ i w, d.ws[i]? = some w → ((w.h + 1, w.e) = v ∨ (w.h + 1, w.e) ∈ keys pre) → cs.getD i 0 ≤ cs0.getD i 0

theorem lookup_split {f pre post : Fd} {n : Nd} {way : Way} (hn : (keys f).Nodup) (e : f = pre ++ (n, way) :: post) : f.lookup n = some way := by
  subst e
  have hp : n ∉ keys pre := by
    unfold keys at hn ⊢
    rw [List.map_append, List.nodup_append] at hn
    intro h
    exact hn.2.2 n h n (by simp) rfl
  clear hn
  induction pre with
  | nil => simp
  | cons x pre ih =>
    obtain ⟨k, w⟩ := x
    have hk : n ≠ k := fun e => hp (by simp [keys, e])
    have : (n == k) = false := by simpa using hk
    simp only [List.cons_append, List.lookup, this]
    exact ih (fun h => hp (by unfold keys at h ⊢; simp at h ⊢; exact .inr h))

theorem follow_ok {d : Day} (ok : d.Ok) {S W cs0 : List Int} {wt : List (List Int)} {f : Fd} (hn : (keys f).Nodup) (hv : ∀ n ∈ keys f, n.1 ≤ d.T ∧ n.2 < d.P) (wf : WF d cs0 wt f) :
    ∀ (k : Nat) (pre : Fd) (v : Nd) (way : Way) (post : Fd) (cs : List Int), pre.length ≤ k → f = pre ++ (v, way) :: post → Mid d S W cs0 wt pre v cs → Feas d S W (follow f k way cs)
  | k, pre, v, none, post, cs, _, e, M => by
    obtain ⟨h1, h2⟩ : v.1 = d.T ∧ 0 < at2 wt d.T v.2 := wf pre v none post e
    have hvv := hv v (by rw [e]; simp [keys])
    have ef : follow f k none cs = cs := by cases k <;> rfl
    rw [ef]
    refine ⟨M.len, M.lo, M.hi, fun t p ht hp => ?_⟩
    have a := M.nn t p ht hp
    unfold owed at a
    by_cases q : p = v.2 ∧ v.1 ≤ t
    · have et : t = d.T := by omega
      have b := M.gT p hp
      unfold owed at b
      rw [← et] at b
      rw [if_pos q] at b
      have : 0 < at2 wt t p := by rw [et, q.1]; exact h2
      omega
    · rw [if_neg q] at a
      omega
  | 0, pre, v, some (here, num, sg), post, cs, hk, e, M => by
    have h := wf pre v _ post e
    have : pre = [] := List.eq_nil_of_length_eq_zero (by omega)
    subst this
    exact absurd h.1 (by simp [keys])
  | k + 1, pre, v, some (here, num, sg), post, cs, hk, e, M => by
    obtain ⟨hh, hs⟩ : here ∈ keys pre ∧ (v.1, v.2, num, sg) ∈ stepsOf d cs0 wt here.1 here.2 := wf pre v _ post e
    obtain ⟨pre1, way1, mid, e1⟩ : ∃ pre1 way1 mid, pre = pre1 ++ (here, way1) :: mid := by
      obtain ⟨⟨h', way1⟩, hx, ex⟩ := List.mem_map.mp hh
      obtain ⟨pre1, mid, e1⟩ := List.append_of_mem hx
      cases ex
      exact ⟨pre1, way1, mid, e1⟩
    have e2 : f = pre1 ++ (here, way1) :: (mid ++ (v, some (here, num, sg)) :: post) := by rw [e, e1]; simp
    have ew : wayOf f here = way1 := by
      unfold wayOf
      rw [lookup_split hn e2]
      rfl
    have hvp : v ∉ keys pre := by
      rw [e] at hn
      unfold keys at hn ⊢
      rw [List.map_append, List.nodup_append] at hn
      intro h
      exact hn.2.2 v h v (by simp) rfl
    have hhv := hv here (by rw [e2]; simp [keys])
    have up : ∀ n : Nd, n = here ∨ n ∈ keys pre1 → n ∈ keys pre := by
      intro n h
      rw [e1]
      rcases h with rfl | h
      · simp [keys]
      · unfold keys at h ⊢
        simp at h ⊢
        exact .inl h
    have ne : ∀ n : Nd, n = here ∨ n ∈ keys pre1 → n ≠ v := fun n h q => hvp (q ▸ up n h)
    have hl : pre1.length ≤ k := by
      have : pre.length = pre1.length + (mid.length + 1) := by rw [e1]; simp
      omega
    rcases mem_steps.mp hs with ⟨q, es⟩ | ⟨q, es⟩ | ⟨i, w, hi, ⟨q, es⟩ | ⟨q, es⟩⟩
    · -- later: more waits
      simp only [Prod.mk.injEq] at es
      obtain ⟨v1, v2, rfl, rfl⟩ := es
      have ef : follow f (k + 1) (some (here, none, 0)) cs = follow f k (wayOf f here) cs := rfl
      rw [ef, ew]
      have ow : ∀ t p, owed v t p ≤ owed here t p := by
        intro t p
        unfold owed
        split <;> split <;> omega
      refine follow_ok ok hn hv wf k pre1 here way1 _ cs hl e2 ⟨M.len, fun t p ht hp => ?_, fun n h => ?_, fun p hp => ?_, M.lo, M.hi, fun i w hi h => M.cl i w hi (.inr (up _ h)), fun i w hi h => M.ch i w hi (.inr (up _ h))⟩
      · have := M.nn t p ht hp
        have := ow t p
        omega
      · have := M.ge n (.inr (up n h))
        have := ow n.1 n.2
        omega
      · have := M.gT p hp
        have := ow d.T p
        omega
    · -- earlier: less waits
      simp only [Prod.mk.injEq] at es
      obtain ⟨v1, v2, rfl, rfl⟩ := es
      have ef : follow f (k + 1) (some (here, none, 0)) cs = follow f k (wayOf f here) cs := rfl
      rw [ef, ew]
      have ow : ∀ t p, ¬ (t = v.1 ∧ p = v.2) → owed here t p = owed v t p := by
        intro t p h
        unfold owed
        split <;> split <;> omega
      have ov : owed here v.1 v.2 = owed v v.1 v.2 - 1 := by
        unfold owed
        split <;> split <;> omega
      have big : 1 ≤ res d S W cs v.1 v.2 + owed v v.1 v.2 := by
        have := M.ge v (.inl rfl)
        have h2 := q.2
        rw [← v1, ← v2] at h2
        omega
      refine follow_ok ok hn hv wf k pre1 here way1 _ cs hl e2 ⟨M.len, fun t p ht hp => ?_, fun n h => ?_, fun p hp => ?_, M.lo, M.hi, fun i w hi h => M.cl i w hi (.inr (up _ h)), fun i w hi h => M.ch i w hi (.inr (up _ h))⟩
      · by_cases c : t = v.1 ∧ p = v.2
        · rw [c.1, c.2, ov]; omega
        · rw [ow t p c]; exact M.nn t p ht hp
      · rw [ow n.1 n.2 (fun c => ne n h (Prod.ext c.1 c.2))]
        exact M.ge n (.inr (up n h))
      · rw [ow d.T p (fun c => by omega)]
        exact M.gT p hp
    · -- a walk carries one less
      simp only [Prod.mk.injEq] at es
      obtain ⟨v1, v2, rfl, rfl⟩ := es
      have il : i < cs.length := by rw [M.len]; exact (List.getElem?_eq_some_iff.mp hi).1
      have ef : follow f (k + 1) (some (here, some i, -1)) cs = follow f k (wayOf f here) (addAt cs i (-1)) := rfl
      rw [ef, ew]
      have er : ∀ t p, res d S W (addAt cs i (-1)) t p + owed here t p = res d S W cs t p + owed v t p := by
        intro t p
        rw [res_addAt S W cs (-1) t p hi il]
        unfold owed
        rw [v1, v2, ← q.1.1, ← q.1.2]
        split <;> split <;> split <;> split <;> omega
      have ec : ∀ j, (addAt cs i (-1)).getD j 0 = cs.getD j 0 + (if i = j then -1 else 0) := fun j => addAt_getD cs i (-1) j il
      have ev : (w.h, w.b) = v := Prod.ext v1.symm v2.symm
      have hm := M.cl i w hi (.inl ev)
      refine follow_ok ok hn hv wf k pre1 here way1 _ _ hl e2 ⟨by rw [addAt_length]; exact M.len, fun t p ht hp => ?_, fun n h => ?_, fun p hp => ?_, fun j u hj => ?_, fun j u hj => ?_, fun j u hj h => ?_, fun j u hj h => ?_⟩
      · rw [er]; exact M.nn t p ht hp
      · rw [er]; exact M.ge n (.inr (up n h))
      · rw [er]; exact M.gT p hp
      · rw [ec j]
        by_cases c : i = j
        · subst c
          rw [hi] at hj; cases hj
          have := q.2
          rw [if_pos rfl]; omega
        · rw [if_neg c]; have := M.lo j u hj; omega
      · rw [ec j]
        have := M.hi j u hj
        split <;> omega
      · rw [ec j]
        by_cases c : i = j
        · subst c
          rw [hi] at hj; cases hj
          exact absurd ev (ne _ h)
        · rw [if_neg c]; have := M.cl j u hj (.inr (up _ h)); omega
      · rw [ec j]
        have := M.ch j u hj (.inr (up _ h))
        split <;> omega
    · -- a walk carries one more
      simp only [Prod.mk.injEq] at es
      obtain ⟨v1, v2, rfl, rfl⟩ := es
      have il : i < cs.length := by rw [M.len]; exact (List.getElem?_eq_some_iff.mp hi).1
      have ef : follow f (k + 1) (some (here, some i, 1)) cs = follow f k (wayOf f here) (addAt cs i 1) := rfl
      rw [ef, ew]
      have er : ∀ t p, res d S W (addAt cs i 1) t p + owed here t p = res d S W cs t p + owed v t p := by
        intro t p
        rw [res_addAt S W cs 1 t p hi il]
        unfold owed
        rw [v1, v2, ← q.1.1, ← q.1.2]
        split <;> split <;> split <;> split <;> omega
      have ec : ∀ j, (addAt cs i 1).getD j 0 = cs.getD j 0 + (if i = j then 1 else 0) := fun j => addAt_getD cs i 1 j il
      have ev : (w.h + 1, w.e) = v := Prod.ext v1.symm v2.symm
      have hm := M.ch i w hi (.inl ev)
      refine follow_ok ok hn hv wf k pre1 here way1 _ _ hl e2 ⟨by rw [addAt_length]; exact M.len, fun t p ht hp => ?_, fun n h => ?_, fun p hp => ?_, fun j u hj => ?_, fun j u hj => ?_, fun j u hj h => ?_, fun j u hj h => ?_⟩
      · rw [er]; exact M.nn t p ht hp
      · rw [er]; exact M.ge n (.inr (up n h))
      · rw [er]; exact M.gT p hp
      · rw [ec j]
        have := M.lo j u hj
        split <;> omega
      · rw [ec j]
        by_cases c : i = j
        · subst c
          rw [hi] at hj; cases hj
          have := q.2
          rw [if_pos rfl]; omega
        · rw [if_neg c]; have := M.hi j u hj; omega
      · rw [ec j]
        have := M.cl j u hj (.inr (up _ h))
        split <;> omega
      · rw [ec j]
        by_cases c : i = j
        · subst c
          rw [hi] at hj; cases hj
          exact absurd ev (ne _ h)
        · rw [if_neg c]; have := M.ch j u hj (.inr (up _ h)); omega
end Dry

/-! The promise: the told umbrellas are a plan, and no line shows more. -/
namespace Dry

theorem addL_length {P : Nat} {a b : List Int} (ha : a.length = P) (hb : b.length = P) : (addL a b).length = P := by
  simp [addL, ha, hb]
theorem addL_getD {P : Nat} {a b : List Int} (ha : a.length = P) (hb : b.length = P) (p : Nat) : (addL a b).getD p 0 = a.getD p 0 + b.getD p 0 := by
  unfold addL
  simp only [List.getD_eq_getElem?_getD, List.getElem?_zipWith]
  by_cases h : p < P
  · have h1 : p < a.length := by omega
    have h2 : p < b.length := by omega
    simp [h1, h2]
  · have h1 : ¬ p < a.length := by omega
    have h2 : ¬ p < b.length := by omega
    simp [h1, h2]
theorem getD_big {xs : List Int} {p : Nat} (h : xs.length ≤ p) : xs.getD p 0 = 0 := by
  simp [List.getD_eq_getElem?_getD, h]

structure Good (d : Day) (G W : List Int) (x : Fl) : Prop where
  len : x.more.length = d.P
  nn : ∀ p, 0 ≤ x.more.getD p 0
  feas : Feas d (addL G x.more) W x.car

theorem somes_mem {d : Day} {f : Fd} {x : Fl} {p : Nat} : p ∈ somes d f x ↔ p < d.P ∧ (0, p) ∈ keys f ∧ 0 < x.more.getD p 0 := by
  unfold somes
  simp

theorem found_spec {d : Day} (ok : d.Ok) (G W : List Int) (x : Fl) : PIv d x.car (waits d (addL G x.more) W x.car) none (found d G W x) [] := reached_spec ok _ _

theorem res_start {d : Day} {S S' W cs : List Int} {p0 : Nat} (h : ∀ p, S'.getD p 0 = S.getD p 0 - (if p = p0 then 1 else 0)) (t p : Nat) : res d S' W cs t p = res d S W cs t p - (if p = p0 then 1 else 0) := by
  unfold res wait
  rw [h p]
  omega

theorem lessen_good {d : Day} (ok : d.Ok) {G W : List Int} (hG : G.length = d.P) (hW : W.length = d.P) {x y : Fl} (g : Good d G W x) (h : lessen d G W x = some y) :
    Good d G W y ∧ y.more.sum = x.more.sum - 1 := by
  unfold lessen at h
  have I := found_spec ok G W x
  revert h
  generalize hf : found d G W x = f at I
  intro h
  dsimp only at h
  split at h
  · cases h
  · rename_i p rest hs
    cases h
    have hp : p ∈ somes d f x := by rw [hs]; simp
    obtain ⟨hp1, hp2, hp3⟩ := somes_mem.mp hp
    have pl : p < x.more.length := by rw [g.len]; exact hp1
    have gm : ∀ q, (addAt x.more p (-1)).getD q 0 = x.more.getD q 0 + (if p = q then -1 else 0) := fun q => addAt_getD _ _ _ _ pl
    have hl : (addAt x.more p (-1)).length = d.P := by rw [addAt_length]; exact g.len
    refine ⟨⟨hl, fun q => ?_, ?_⟩, ?_⟩
    · show 0 ≤ (addAt x.more p (-1)).getD q 0
      rw [gm q]
      have := g.nn q
      by_cases e : p = q
      · subst e; rw [if_pos rfl]; omega
      · rw [if_neg e]; omega
    · show Feas d (addL G (addAt x.more p (-1))) W (follow f f.length (wayOf f (0, p)) x.car)
      obtain ⟨⟨n, way⟩, hx, ex⟩ := List.mem_map.mp hp2
      obtain ⟨pre, post, e1⟩ := List.append_of_mem hx
      cases ex
      have ew : wayOf f (0, p) = way := by
        unfold wayOf
        rw [lookup_split I.nd e1]
        rfl
      rw [ew]
      have hS : ∀ q, (addL G (addAt x.more p (-1))).getD q 0 = (addL G x.more).getD q 0 - (if q = p then 1 else 0) := by
        intro q
        rw [addL_getD hG hl, addL_getD hG g.len, gm q]
        by_cases e : p = q
        · subst e; rw [if_pos rfl, if_pos rfl]; omega
        · rw [if_neg e, if_neg (fun z => e z.symm)]; omega
      have er : ∀ t q, res d (addL G (addAt x.more p (-1))) W x.car t q + owed (0, p) t q = res d (addL G x.more) W x.car t q := by
        intro t q
        rw [res_start hS]
        unfold owed
        by_cases e : q = p
        · rw [if_pos e, if_pos ⟨e, Nat.zero_le _⟩]; omega
        · rw [if_neg e, if_neg (fun z => e z.1)]; omega
      have sp : ∀ t q, t ≤ d.T → q < d.P → at2 (waits d (addL G x.more) W x.car) t q = res d (addL G x.more) W x.car t q := fun t q ht hq =>
        waits_spec ok _ W x.car g.feas.len (addL_length hG g.len) hW t q ht hq
      refine follow_ok ok I.nd I.val I.wf f.length pre (0, p) way post x.car (by rw [e1]; simp) e1 ⟨g.feas.len, fun t q ht hq => ?_, fun n h => ?_, fun q hq => ?_, g.feas.lo, g.feas.hi, fun _ _ _ _ => Int.le_refl _, fun _ _ _ _ => Int.le_refl _⟩
      · rw [er]; exact g.feas.st t q ht hq
      · have hn : n ∈ keys f := by
          rw [e1]
          rcases h with rfl | h
          · simp [keys]
          · unfold keys at h ⊢
            simp at h ⊢
            exact .inl h
        have v := I.val n hn
        rw [er, sp n.1 n.2 v.1 v.2]
        exact Int.le_refl _
      · rw [er, sp d.T q (Nat.le_refl _) hq]
        exact Int.le_refl _
    · show (addAt x.more p (-1)).sum = _
      rw [sum_getD, sum_getD x.more, addAt_length]
      have : sumP (fun q => (addAt x.more p (-1)).getD q 0) x.more.length = sumP (fun q => x.more.getD q 0) x.more.length + sumP (fun q => if p = q then -1 else 0) x.more.length := by
        rw [← sumP_add]
        exact sumP_congr _ fun q _ => gm q
      rw [this, sumP_single, if_pos pl]
      omega

theorem sum_zero_all {xs : List Int} (nn : ∀ p, 0 ≤ xs.getD p 0) (h : xs.sum ≤ 0) (p : Nat) : xs.getD p 0 = 0 := by
  by_cases hp : p < xs.length
  · rw [sum_getD] at h
    have h1 : sumP (fun q => if p = q then xs.getD p 0 else 0) xs.length ≤ sumP (fun q => xs.getD q 0) xs.length := by
      refine sumP_le _ fun q _ => ?_
      by_cases e : p = q
      · subst e; rw [if_pos rfl]; exact Int.le_refl _
      · rw [if_neg e]; exact nn q
    rw [sumP_single, if_pos hp] at h1
    have := nn p
    omega
  · exact getD_big (by omega)
theorem sum_nonneg {xs : List Int} (nn : ∀ p, 0 ≤ xs.getD p 0) : 0 ≤ xs.sum := by
  rw [sum_getD]
  exact sumP_nonneg _ fun p _ => nn p
theorem lessen_none_iff {d : Day} {G W : List Int} {x : Fl} : lessen d G W x = none ↔ somes d (found d G W x) x = [] := by
  unfold lessen
  dsimp only
  split
  · rename_i h; simp [h]
  · rename_i p r h; simp [h]
theorem settle_good {d : Day} (ok : d.Ok) {G W : List Int} (hG : G.length = d.P) (hW : W.length = d.P) : ∀ (n : Nat) (x : Fl), Good d G W x → x.more.sum ≤ n →
    Good d G W (settle d G W n x) ∧ lessen d G W (settle d G W n x) = none
  | 0, x, g, h => by
    refine ⟨g, lessen_none_iff.mpr ?_⟩
    rw [List.eq_nil_iff_forall_not_mem]
    intro p hp
    have := (somes_mem.mp hp).2.2
    have z := sum_zero_all g.nn h p
    show False
    have e : settle d G W 0 x = x := rfl
    rw [e] at this
    omega
  | n + 1, x, g, h => by
    unfold settle
    split
    · rename_i e; exact ⟨g, e⟩
    · rename_i y e
      have hy := lessen_good ok hG hW g e
      exact settle_good ok hG hW n y hy.1 (by rw [hy.2]; omega)

/-! ### at first -/
theorem wi_nn (w : Wk) : 0 ≤ w.wi := by unfold Wk.wi; split <;> omega
theorem wi_le_r {w : Wk} (h : 1 ≤ w.r) : w.wi ≤ (w.r : Int) := by unfold Wk.wi; split <;> omega
theorem more0 : ∀ (ws : List Wk) (W : List Int), (∀ w ∈ ws, w.b < W.length) → (ws.foldl (fun m w => addAt m w.b w.wi) W).length = W.length ∧
    ∀ p, (ws.foldl (fun m w => addAt m w.b w.wi) W).getD p 0 = W.getD p 0 + sw (fun w => decide (w.b = p)) ws (ws.map Wk.wi)
  | [], W, _ => by simp [sw]
  | w :: ws, W, h => by
    have ih := more0 ws (addAt W w.b w.wi) (fun v hv => by rw [addAt_length]; exact h v (by simp [hv]))
    refine ⟨by rw [List.foldl_cons, ih.1, addAt_length], fun p => ?_⟩
    rw [List.foldl_cons, ih.2 p, addAt_getD _ _ _ _ (h w (by simp))]
    show _ = _ + ((if decide (w.b = p) = true then w.wi else 0) + _)
    simp
    omega
theorem sw_nn (q : Wk → Bool) : ∀ ws : List Wk, 0 ≤ sw q ws (ws.map Wk.wi)
  | [] => by simp [sw]
  | w :: ws => by
    have := sw_nn q ws
    have := wi_nn w
    show 0 ≤ (if q w = true then w.wi else 0) + sw q ws (ws.map Wk.wi)
    split <;> omega
theorem sw_le {q q' : Wk → Bool} (h : ∀ w, q w = true → q' w = true) : ∀ ws : List Wk, sw q ws (ws.map Wk.wi) ≤ sw q' ws (ws.map Wk.wi)
  | [] => by simp [sw]
  | w :: ws => by
    have := sw_le h ws
    have := wi_nn w
    have h1 := h w
    show (if q w = true then w.wi else 0) + sw q ws (ws.map Wk.wi) ≤ (if q' w = true then w.wi else 0) + sw q' ws (ws.map Wk.wi)
    by_cases a : q w = true
    · rw [if_pos a, if_pos (h1 a)]; omega
    · rw [if_neg a]
      split <;> omega
theorem flow0_good {d : Day} (ok : d.Ok) {G W : List Int} (hG : G.length = d.P) (hW : W.length = d.P) (gn : ∀ p, 0 ≤ G.getD p 0) (wn : ∀ p, 0 ≤ W.getD p 0) : Good d G W (flow0 d W) := by
  obtain ⟨m1, m2⟩ := more0 d.ws W (fun w hw => by rw [hW]; exact ok.b w hw)
  have hl : (flow0 d W).more.length = d.P := by show (d.ws.foldl _ W).length = _; rw [m1, hW]
  have cg : ∀ i w, d.ws[i]? = some w → (d.ws.map Wk.wi).getD i 0 = w.wi := fun i w hi => by simp [List.getD_eq_getElem?_getD, hi]
  refine ⟨hl, fun p => ?_, ⟨by simp [flow0], fun i w hi => ?_, fun i w hi => ?_, fun t p ht hp => ?_⟩⟩
  · show 0 ≤ (d.ws.foldl _ W).getD p 0
    rw [m2 p]
    have := wn p
    have := sw_nn (fun w => decide (w.b = p)) d.ws
    omega
  · show _ ≤ (d.ws.map Wk.wi).getD i 0
    rw [cg i w hi]; exact Int.le_refl _
  · show (d.ws.map Wk.wi).getD i 0 ≤ _
    rw [cg i w hi]; exact wi_le_r (ok.r w (List.mem_of_getElem? hi))
  · show 0 ≤ res d _ W (d.ws.map Wk.wi) t p
    unfold res wait
    rw [addL_getD hG hl]
    have e : (flow0 d W).more.getD p 0 = W.getD p 0 + sw (fun w => decide (w.b = p)) d.ws (d.ws.map Wk.wi) := m2 p
    rw [e]
    have a := gn p
    have b : 0 ≤ inS d.ws (d.ws.map Wk.wi) t p := sw_nn _ d.ws
    have c : outS d.ws (d.ws.map Wk.wi) (t + 1) p ≤ sw (fun w => decide (w.b = p)) d.ws (d.ws.map Wk.wi) := sw_le (fun w h => by simp at h ⊢; exact h.2) d.ws
    have l : low d.T W t p ≤ W.getD p 0 := by
      unfold low
      split
      · exact Int.le_refl _
      · exact wn p
    omega
theorem settled_good {d : Day} (ok : d.Ok) {G W : List Int} (hG : G.length = d.P) (hW : W.length = d.P) (gn : ∀ p, 0 ≤ G.getD p 0) (wn : ∀ p, 0 ≤ W.getD p 0) :
    Good d G W (settled d G W) ∧ lessen d G W (settled d G W) = none := by
  have g := flow0_good ok hG hW gn wn
  exact settle_good ok hG hW _ _ g (by have := sum_nonneg g.nn; omega)

/-! ### the line at the end -/
theorem count_prefix (q : Nat → Bool) : ∀ n, (∀ m, m + 1 < n → q (m + 1) = true → q m = true) → ∃ k, k ≤ n ∧ ((List.range n).filter q).length = k ∧ ∀ m, m < n → (q m = true ↔ m < k)
  | 0, _ => ⟨0, by omega, rfl, fun m h => by omega⟩
  | n + 1, h => by
    obtain ⟨k, k1, k2, k3⟩ := count_prefix q n (fun m hm => h m (by omega))
    rw [List.range_succ, List.filter_append, List.length_append]
    by_cases e : q n = true
    · have ek : k = n := by
        cases n with
        | zero => omega
        | succ n =>
          have := (k3 n (by omega)).mp (h n (by omega) e)
          omega
      refine ⟨n + 1, by omega, ?_, fun m hm => ?_⟩
      · simp [e]; omega
      · by_cases c : m = n
        · subst c; simp [e]
        · rw [k3 m (by omega)]; omega
    · refine ⟨k, by omega, ?_, fun m hm => ?_⟩
      · simp [e]; omega
      · by_cases c : m = n
        · subst c; simp [e]; omega
        · exact k3 m (by omega)
def kOf (l : List Nat) (p : Nat) : Nat := l.getD p 0
theorem lineOf_spec {d : Day} {cs : List Int} {wt : List (List Int)} {f : Fd} (I : PIv d cs wt none f []) (p : Nat) (hp : p < d.P) :
    kOf (lineOf d f) p ≤ d.T + 1 ∧ ∀ m, m ≤ d.T → ((m, p) ∉ keys f ↔ m < kOf (lineOf d f) p) := by
  obtain ⟨k, k1, k2, k3⟩ := count_prefix (fun m => decide ((m, p) ∉ keys f)) (d.T + 1) (fun m hm h => by
    simp at h ⊢
    intro hin
    apply h
    rcases I.clo (m, p) hin with c | c | c
    · simp at c
    · cases c
    · exact c (m + 1, p, none, 0) (mem_steps.mpr (.inl ⟨by show m < d.T; omega, rfl⟩)))
  have e : kOf (lineOf d f) p = k := by
    unfold kOf lineOf
    simp only [List.getD_eq_getElem?_getD, List.getElem?_map, List.getElem?_range hp, Option.map_some, Option.getD_some]
    exact k2
  rw [e]
  refine ⟨k1, fun m hm => ?_⟩
  have := k3 m (by omega)
  simpa using this
theorem cut_tight {d : Day} (ok : d.Ok) {G W : List Int} (hG : G.length = d.P) (hW : W.length = d.P) {x : Fl} (g : Good d G W x) :
    raw d W (kOf (lineFl d G W x)) = inside d (addL G x.more) (kOf (lineFl d G W x)) := by
  have I := found_spec ok G W x
  have sp : ∀ t q, t ≤ d.T → q < d.P → at2 (waits d (addL G x.more) W x.car) t q = res d (addL G x.more) W x.car t q := fun t q ht hq =>
    waits_spec ok _ W x.car g.feas.len (addL_length hG g.len) hW t q ht hq
  have ls := fun p hp => lineOf_spec I p hp
  have clo : ∀ n ∈ keys (found d G W x), ∀ s ∈ stepsOf d x.car (waits d (addL G x.more) W x.car) n.1 n.2, (s.1, s.2.1) ∈ keys (found d G W x) := fun n hn => by
    rcases I.clo n hn with c | c | c
    · simp at c
    · cases c
    · exact c
  unfold lineFl
  refine tight ok g.feas.len _ (fun p hp h => ?_) (fun p hp => (ls p hp).1) (fun i w hi hL hC => ?_) (fun i w hi hL hC => ?_)
  · obtain ⟨a, b⟩ := ls p hp
    generalize kOf (lineOf d (found d G W x)) p = k at a b h
    have nn := g.feas.st (k - 1) p (by omega) hp
    have h1 : (k - 1, p) ∉ keys (found d G W x) := (b (k - 1) (by omega)).mpr (by omega)
    by_cases c : k = d.T + 1
    · have e : k - 1 = d.T := by omega
      rw [e] at nn h1 ⊢
      have : ¬ 0 < at2 (waits d (addL G x.more) W x.car) d.T p := fun q => h1 (I.snk p hp q)
      rw [sp d.T p (Nat.le_refl _) hp] at this
      omega
    · have h2 : (k, p) ∈ keys (found d G W x) := by
        have := b k (by omega)
        by_cases z : (k, p) ∈ keys (found d G W x)
        · exact z
        · have := this.mp z; omega
      have : ¬ 0 < at2 (waits d (addL G x.more) W x.car) (k - 1) p := fun q => h1 (clo (k, p) h2 (k - 1, p, none, 0) (mem_steps.mpr (.inr (.inl ⟨⟨h, q⟩, rfl⟩))))
      rw [sp (k - 1) p (by omega) hp] at this
      omega
  · have hw := List.mem_of_getElem? hi
    have hT := ok.h w hw
    have a := (ls w.b (ok.b w hw)).2 w.h (by omega)
    have b := (ls w.e (ok.e w hw)).2 (w.h + 1) (by omega)
    unfold leaves at hL
    unfold comes at hC
    have n1 := a.mpr (by simpa using hL)
    have n2 : (w.h + 1, w.e) ∈ keys (found d G W x) := by
      by_cases z : (w.h + 1, w.e) ∈ keys (found d G W x)
      · exact z
      · have := b.mp z
        simp at hC
        omega
    have : ¬ w.wi < x.car.getD i 0 := fun q => n1 (clo _ n2 (w.h, w.b, some i, -1) (mem_steps.mpr (.inr (.inr ⟨i, w, hi, .inl ⟨⟨⟨rfl, rfl⟩, q⟩, rfl⟩⟩))))
    have := g.feas.lo i w hi
    omega
  · have hw := List.mem_of_getElem? hi
    have hT := ok.h w hw
    have a := (ls w.b (ok.b w hw)).2 w.h (by omega)
    have b := (ls w.e (ok.e w hw)).2 (w.h + 1) (by omega)
    unfold leaves at hL
    unfold comes at hC
    have n1 := b.mpr (by simpa using hC)
    have n2 : (w.h, w.b) ∈ keys (found d G W x) := by
      by_cases z : (w.h, w.b) ∈ keys (found d G W x)
      · exact z
      · have := a.mp z
        simp at hL
        omega
    have : ¬ x.car.getD i 0 < (w.r : Int) := fun q => n1 (clo _ n2 (w.h + 1, w.e, some i, 1) (mem_steps.mpr (.inr (.inr ⟨i, w, hi, .inr ⟨⟨⟨rfl, rfl⟩, q⟩, rfl⟩⟩))))
    have := g.feas.hi i w hi
    omega
theorem lineFl_le {d : Day} (ok : d.Ok) (G W : List Int) (x : Fl) (p : Nat) (hp : p < d.P) : kOf (lineFl d G W x) p ≤ d.T + 1 := (lineOf_spec (found_spec ok G W x) p hp).1
theorem lineFl_length (d : Day) (G W : List Int) (x : Fl) : (lineFl d G W x).length = d.P := by simp [lineFl, lineOf]
/-- what starts inside: the given, and all that is more -/
theorem cut_inside {d : Day} (ok : d.Ok) {G W : List Int} (hG : G.length = d.P) {x : Fl} (g : Good d G W x) (hn : lessen d G W x = none) :
    inside d (addL G x.more) (kOf (lineFl d G W x)) = inside d G (kOf (lineFl d G W x)) + x.more.sum := by
  rw [sum_getD, g.len]
  unfold inside
  rw [← sumP_add]
  refine sumP_congr _ fun p hp => ?_
  by_cases h : 0 < kOf (lineFl d G W x) p
  · rw [if_pos h, if_pos h, addL_getD hG g.len]
  · rw [if_neg h, if_neg h]
    have hin : (0, p) ∈ keys (found d G W x) := by
      have := (lineOf_spec (found_spec ok G W x) p hp).2 0 (Nat.zero_le _)
      by_cases z : (0, p) ∈ keys (found d G W x)
      · exact z
      · exact absurd (this.mp z) h
    have hs := lessen_none_iff.mp hn
    have : ¬ 0 < x.more.getD p 0 := fun q => by
      have hm : p ∈ somes d (found d G W x) x := somes_mem.mpr ⟨hp, hin, q⟩
      rw [hs] at hm
      simp at hm
    have := g.nn p
    omega

/-! ### what is told -/
theorem zeros_length (d : Day) : (zeros d).length = d.P := by simp [zeros]
theorem zeros_getD (d : Day) (p : Nat) : (zeros d).getD p 0 = 0 := replicate_getD _ _
theorem inside_zeros (d : Day) (k : Nat → Nat) : inside d (zeros d) k = 0 := by
  unfold inside
  rw [sumP_congr d.P (g := fun _ => 0) (fun p _ => by rw [zeros_getD]; split <;> rfl), sumP_zero]
theorem inside_le_sum {d : Day} {S : List Int} (hS : S.length = d.P) (nn : ∀ p, 0 ≤ S.getD p 0) (k : Nat → Nat) : inside d S k ≤ S.sum := by
  rw [sum_getD, hS]
  refine sumP_le _ fun p _ => ?_
  have := nn p
  split <;> omega
theorem inside_nn {d : Day} {S : List Int} (nn : ∀ p, 0 ≤ S.getD p 0) (k : Nat → Nat) : 0 ≤ inside d S k :=
  sumP_nonneg _ fun p _ => by
    have := nn p
    split <;> omega

def shows (d : Day) (W : List Int) (k : Nat → Nat) : Int := if raw d W k > 0 then raw d W k else 0

structure Told (d : Day) (W : List Int) (n : Int) (S cs : List Int) : Prop where
  len : S.length = d.P
  nn : ∀ p, 0 ≤ S.getD p 0
  sum : S.sum = n
  feas : Feas d S W cs

theorem addL_zeros {d : Day} {a : List Int} (ha : a.length = d.P) : addL (zeros d) a = a := by
  apply List.ext_getElem?
  intro p
  have h := addL_getD (zeros_length d) ha p
  have l := addL_length (zeros_length d) ha
  by_cases hp : p < d.P
  · have h1 : p < a.length := by omega
    have h2 : p < (addL (zeros d) a).length := by omega
    rw [zeros_getD] at h
    simp only [List.getD_eq_getElem?_getD, List.getElem?_eq_getElem h1, List.getElem?_eq_getElem h2, Option.getD_some] at h
    rw [List.getElem?_eq_getElem h1, List.getElem?_eq_getElem h2, h]
    simp
  · rw [List.getElem?_eq_none (by omega), List.getElem?_eq_none (by omega)]

theorem fewest_told {d : Day} (ok : d.Ok) {W : List Int} (hW : W.length = d.P) (wn : ∀ p, 0 ≤ W.getD p 0) : Told d W (fewest d W).1 (fewest d W).2.1 (fewest d W).2.2 := by
  have g := settled_good ok (zeros_length d) hW (fun p => by rw [zeros_getD]; exact Int.le_refl _) wn
  have e := addL_zeros (d := d) g.1.len
  refine ⟨addL_length (zeros_length d) g.1.len, fun p => ?_, ?_, g.1.feas⟩
  · show 0 ≤ (addL (zeros d) _).getD p 0
    rw [e]; exact g.1.nn p
  · show (addL (zeros d) _).sum = _
    rw [e]; rfl
/-- the told line shows just the told number -/
theorem line_raw {d : Day} (ok : d.Ok) {W : List Int} (hW : W.length = d.P) (wn : ∀ p, 0 ≤ W.getD p 0) : raw d W (kOf (line d W)) = (fewest d W).1 := by
  have g := settled_good ok (zeros_length d) hW (fun p => by rw [zeros_getD]; exact Int.le_refl _) wn
  unfold line
  rw [cut_tight ok (zeros_length d) hW g.1, cut_inside ok (zeros_length d) g.1 g.2, inside_zeros]
  show 0 + _ = (settled d (zeros d) W).more.sum
  omega
theorem fewest_nn {d : Day} (ok : d.Ok) {W : List Int} (hW : W.length = d.P) (wn : ∀ p, 0 ≤ W.getD p 0) : 0 ≤ (fewest d W).1 := by
  have t := fewest_told ok hW wn
  rw [← t.sum]
  exact sum_nonneg t.nn
theorem line_shows {d : Day} (ok : d.Ok) {W : List Int} (hW : W.length = d.P) (wn : ∀ p, 0 ≤ W.getD p 0) : shows d W (kOf (line d W)) = (fewest d W).1 := by
  unfold shows
  rw [line_raw ok hW wn]
  have := fewest_nn ok hW wn
  split <;> omega
/-- no line shows more -/
theorem shows_le {d : Day} (ok : d.Ok) {W : List Int} (hW : W.length = d.P) (wn : ∀ p, 0 ≤ W.getD p 0) (k : Nat → Nat) (hk : ∀ p, p < d.P → k p ≤ d.T + 1) : shows d W k ≤ (fewest d W).1 := by
  have t := fewest_told ok hW wn
  have h1 := weak ok t.feas k hk
  have h2 := inside_le_sum t.len t.nn k
  rw [t.sum] at h2
  have := fewest_nn ok hW wn
  unfold shows
  split <;> omega
end Dry

/-! Plans judged: one truth for the program's way and the law's. -/
namespace Dry
def nnRow (row : List Int) : Bool := row.all fun x => decide (0 ≤ x)
def planB (d : Day) (S W cs : List Int) : Bool := (waits d S W cs).all nnRow
theorem nnRow_iff {row : List Int} : nnRow row = true ↔ ∀ p, p < row.length → 0 ≤ row.getD p 0 := by
  unfold nnRow
  rw [List.all_eq_true]
  constructor
  · intro h p hp
    have e : row.getD p 0 = row[p] := by simp [List.getD_eq_getElem?_getD, hp]
    rw [e]
    exact of_decide_eq_true (h _ (List.getElem_mem hp))
  · intro h x hx
    obtain ⟨p, hp, rfl⟩ := List.getElem_of_mem hx
    have e : row.getD p 0 = row[p] := by simp [List.getD_eq_getElem?_getD, hp]
    have := h p hp
    rw [e] at this
    exact decide_eq_true this
theorem leftRow_length {d : Day} (ok : d.Ok) (S cs : List Int) (hl : cs.length = d.ws.length) (hS : S.length = d.P) (t : Nat) : (leftRow d S cs t).length = d.P := by
  have rsp := rowAt_spec ok S cs hl hS t
  have lf := left_fold t d.ws cs (rowAt d S cs t) (fun w hw => by rw [rsp.1]; exact ok.b w hw) hl.symm
  unfold leftRow
  rw [lf.1, rsp.1]
theorem leftRow_eq {d : Day} (ok : d.Ok) (S cs : List Int) (hl : cs.length = d.ws.length) (hS : S.length = d.P) (t : Nat) : leftRow d S cs t = List.zipWith (fun s l => s - l) (rowAt d S cs t) (moved d t cs).1 := by
  have rsp := rowAt_spec ok S cs hl hS t
  have lf := left_fold t d.ws cs (rowAt d S cs t) (fun w hw => by rw [rsp.1]; exact ok.b w hw) hl.symm
  obtain ⟨m1, m2, m3, m4⟩ := moved_spec ok t cs hl
  apply List.ext_getElem?
  intro p
  by_cases hp : p < d.P
  · have h1 : p < (leftRow d S cs t).length := by rw [leftRow_length ok S cs hl hS]; exact hp
    have h2 : p < (List.zipWith (fun s l => s - l) (rowAt d S cs t) (moved d t cs).1).length := by rw [List.length_zipWith, rsp.1, m1]; omega
    have e := lf.2 p
    have e1 : (leftRow d S cs t).getD p 0 = (leftRow d S cs t)[p] := by simp [List.getD_eq_getElem?_getD, h1]
    have e2 : (leftRow d S cs t).getD p 0 = (rowAt d S cs t).getD p 0 - (moved d t cs).1.getD p 0 := by
      rw [m3 p]; exact e
    rw [List.getElem?_eq_getElem h1, List.getElem?_eq_getElem h2, ← e1, e2, List.getElem_zipWith]
    have q1 : p < (rowAt d S cs t).length := by rw [rsp.1]; exact hp
    have q2 : p < (moved d t cs).1.length := by rw [m1]; exact hp
    simp [List.getD_eq_getElem?_getD, q1, q2]
  · rw [List.getElem?_eq_none (by rw [leftRow_length ok S cs hl hS]; omega), List.getElem?_eq_none (by rw [List.length_zipWith, rsp.1, m1]; omega)]
theorem planB_iff {d : Day} (ok : d.Ok) {S W cs : List Int} (hl : cs.length = d.ws.length) (hS : S.length = d.P) (hW : W.length = d.P) : planB d S W cs = true ↔ ∀ t p, t ≤ d.T → p < d.P → 0 ≤ res d S W cs t p := by
  unfold planB
  rw [List.all_eq_true]
  have hwl : (waits d S W cs).length = d.T + 1 := by simp [waits]
  have hrl : ∀ row ∈ waits d S W cs, row.length = d.P := by
    intro row h
    unfold waits at h
    rcases List.mem_append.mp h with h | h
    · obtain ⟨t, _, rfl⟩ := List.mem_map.mp h
      exact leftRow_length ok S cs hl hS t
    · obtain rfl := List.mem_singleton.mp h
      rw [List.length_zipWith, (rowAt_spec ok S cs hl hS d.T).1, hW, Nat.min_self]
  constructor
  · intro h t p ht hp
    rw [← waits_spec ok S W cs hl hS hW t p ht hp]
    have ht' : t < (waits d S W cs).length := by omega
    have e : (waits d S W cs).getD t [] = (waits d S W cs)[t] := by simp [List.getD_eq_getElem?_getD, ht']
    have hm := List.getElem_mem ht'
    unfold at2
    rw [e]
    exact nnRow_iff.mp (h _ hm) p (by rw [hrl _ hm]; exact hp)
  · intro h row hr
    obtain ⟨t, ht, rfl⟩ := List.getElem_of_mem hr
    refine nnRow_iff.mpr fun p hp => ?_
    rw [hrl _ (List.getElem_mem ht)] at hp
    have := h t p (by omega) hp
    rw [← waits_spec ok S W cs hl hS hW t p (by omega) hp] at this
    unfold at2 at this
    have e : (waits d S W cs).getD t [] = (waits d S W cs)[t] := by simp [List.getD_eq_getElem?_getD, ht]
    rw [e] at this
    exact this
theorem planB_feas {d : Day} (ok : d.Ok) {S W cs : List Int} (hS : S.length = d.P) (hW : W.length = d.P) (F : Feas d S W cs) : planB d S W cs = true := (planB_iff ok F.len hS hW).mpr F.st
theorem feas_planB {d : Day} (ok : d.Ok) {S W cs : List Int} (hl : cs.length = d.ws.length) (hS : S.length = d.P) (hW : W.length = d.P) (lo : ∀ i w, d.ws[i]? = some w → w.wi ≤ cs.getD i 0) (hi : ∀ i w, d.ws[i]? = some w → cs.getD i 0 ≤ (w.r : Int)) (h : planB d S W cs = true) : Feas d S W cs :=
  ⟨hl, lo, hi, (planB_iff ok hl hS hW).mp h⟩
/-- no fewer, no more than this -/
theorem more0_sum : ∀ (ws : List Wk) (W : List Int), (∀ w ∈ ws, w.b < W.length) → (ws.foldl (fun m w => addAt m w.b w.wi) W).sum = W.sum + (ws.map Wk.wi).sum
  | [], W, _ => by simp
  | w :: ws, W, h => by
    have h0 := h w (by simp)
    rw [List.foldl_cons, more0_sum ws (addAt W w.b w.wi) (fun v hv => by rw [addAt_length]; exact h v (by simp [hv])), List.map_cons, List.sum_cons]
    have : (addAt W w.b w.wi).sum = W.sum + w.wi := by
      rw [sum_getD, addAt_length, sum_getD W]
      have e : sumP (fun p => (addAt W w.b w.wi).getD p 0) W.length = sumP (fun p => W.getD p 0) W.length + sumP (fun p => if w.b = p then w.wi else 0) W.length := by
        rw [← sumP_add]
        exact sumP_congr _ fun p _ => addAt_getD _ _ _ _ h0
      rw [e, sumP_single, if_pos h0]
    rw [this]
    omega
theorem settle_sum {d : Day} (ok : d.Ok) {G W : List Int} (hG : G.length = d.P) (hW : W.length = d.P) : ∀ (n : Nat) (x : Fl), Good d G W x → (settle d G W n x).more.sum ≤ x.more.sum
  | 0, _, _ => Int.le_refl _
  | n + 1, x, g => by
    unfold settle
    split
    · exact Int.le_refl _
    · rename_i y e
      have hy := lessen_good ok hG hW g e
      have := settle_sum ok hG hW n y hy.1
      omega
theorem settled_sum {d : Day} (ok : d.Ok) {G W : List Int} (hG : G.length = d.P) (hW : W.length = d.P) (gn : ∀ p, 0 ≤ G.getD p 0) (wn : ∀ p, 0 ≤ W.getD p 0) : (settled d G W).more.sum ≤ W.sum + (d.ws.map Wk.wi).sum := by
  have h := settle_sum ok hG hW (flow0 d W).more.sum.toNat (flow0 d W) (flow0_good ok hG hW gn wn)
  have e : (flow0 d W).more.sum = W.sum + (d.ws.map Wk.wi).sum := more0_sum d.ws W (fun w hw => by rw [hW]; exact ok.b w hw)
  unfold settled
  omega
theorem wi_sum_le : ∀ ws : List Wk, (ws.map Wk.wi).sum ≤ ws.length
  | [] => by simp
  | w :: ws => by
    have := wi_sum_le ws
    have : w.wi ≤ 1 := by unfold Wk.wi; split <;> omega
    rw [List.map_cons, List.sum_cons, List.length_cons]
    omega
theorem sum_le_mul {m : Int} (hm : 0 ≤ m) : ∀ W : List Int, (∀ p, W.getD p 0 ≤ m) → W.sum ≤ m * W.length
  | [], _ => by simp
  | x :: W, h => by
    have h1 := sum_le_mul hm W (fun p => by have := h (p + 1); simpa using this)
    have h0 := h 0
    simp at h0
    rw [List.sum_cons, List.length_cons]
    have : m * ((W.length + 1 : Nat) : Int) = m * W.length + m := by
      rw [Int.natCast_add, Int.mul_add]; simp
    omega
theorem getD_le_sum {xs : List Int} (nn : ∀ p, 0 ≤ xs.getD p 0) (p : Nat) : xs.getD p 0 ≤ xs.sum := by
  by_cases hp : p < xs.length
  · rw [sum_getD]
    have h1 : sumP (fun q => if p = q then xs.getD p 0 else 0) xs.length ≤ sumP (fun q => xs.getD q 0) xs.length := by
      refine sumP_le _ fun q _ => ?_
      by_cases e : p = q
      · subst e; rw [if_pos rfl]; exact Int.le_refl _
      · rw [if_neg e]; exact nn q
    rw [sumP_single, if_pos hp] at h1
    exact h1
  · rw [getD_big (by omega)]
    exact sum_nonneg nn
def addStep (hour : Nat) (l : List Int) (wc : Wk × Int) : List Int := if wc.1.h = hour then addAt l wc.1.e wc.2 else l
theorem add_fold (hour : Nat) : ∀ (ws : List Wk) (cs l : List Int), (∀ w ∈ ws, w.e < l.length) → ws.length = cs.length →
    ((ws.zip cs).foldl (addStep hour) l).length = l.length ∧
    ∀ p, ((ws.zip cs).foldl (addStep hour) l).getD p 0 = l.getD p 0 + sw (fun w => decide (w.h = hour) && decide (w.e = p)) ws cs
  | [], _, _, _, _ => by simp [sw]
  | _ :: _, [], _, _, h => by simp at h
  | w :: ws, c :: cs, l, hb, hl => by
    have L : (addStep hour l (w, c)).length = l.length := by
      unfold addStep; split <;> simp [addAt_length]
    have ih := add_fold hour ws cs (addStep hour l (w, c)) (fun v hv => by rw [L]; exact hb v (by simp [hv])) (by simpa using hl)
    refine ⟨ih.1.trans L, fun p => ?_⟩
    show ((ws.zip cs).foldl (addStep hour) (addStep hour l (w, c))).getD p 0 = _
    rw [ih.2 p]
    show _ = _ + ((if (decide (w.h = hour) && decide (w.e = p)) = true then c else 0) + _)
    unfold addStep
    by_cases e : w.h = hour
    · rw [if_pos e]
      show (addAt l w.e c).getD p 0 + _ = _
      rw [addAt_getD _ _ _ _ (hb w (by simp))]
      by_cases e2 : w.e = p <;> simp [e, e2] <;> omega
    · rw [if_neg e]; simp [e]
theorem addRow_eq {d : Day} (ok : d.Ok) (S cs : List Int) (hl : cs.length = d.ws.length) (hS : S.length = d.P) (t : Nat) : (d.ws.zip cs).foldl (addStep t) (leftRow d S cs t) = rowAt d S cs (t + 1) := by
  have ll := leftRow_length ok S cs hl hS t
  have af := add_fold t d.ws cs (leftRow d S cs t) (fun w hw => by rw [ll]; exact ok.e w hw) hl.symm
  have rsp := rowAt_spec ok S cs hl hS t
  have rs1 := rowAt_spec ok S cs hl hS (t + 1)
  obtain ⟨m1, m2, m3, m4⟩ := moved_spec ok t cs hl
  have z := zip3_spec (fun s l m => s - l + m) d.P _ _ _ rsp.1 m1 m2
  have lf := left_fold t d.ws cs (rowAt d S cs t) (fun w hw => by rw [rsp.1]; exact ok.b w hw) hl.symm
  apply List.ext_getElem?
  intro p
  by_cases hp : p < d.P
  · have h1 : p < ((d.ws.zip cs).foldl (addStep t) (leftRow d S cs t)).length := by rw [af.1, ll]; exact hp
    have h2 : p < (rowAt d S cs (t + 1)).length := by rw [rs1.1]; exact hp
    have e1 := af.2 p
    have e2 : (rowAt d S cs (t + 1)).getD p 0 = (rowAt d S cs t).getD p 0 - (moved d t cs).1.getD p 0 + (moved d t cs).2.getD p 0 := z.2 p hp
    have e3 : (leftRow d S cs t).getD p 0 = (rowAt d S cs t).getD p 0 - sw (fun w => decide (w.h = t) && decide (w.b = p)) d.ws cs := lf.2 p
    rw [m3 p, m4 p] at e2
    rw [e3] at e1
    rw [List.getElem?_eq_getElem h1, List.getElem?_eq_getElem h2]
    have q1 : ((d.ws.zip cs).foldl (addStep t) (leftRow d S cs t)).getD p 0 = ((d.ws.zip cs).foldl (addStep t) (leftRow d S cs t))[p] := by simp [List.getD_eq_getElem?_getD, h1]
    have q2 : (rowAt d S cs (t + 1)).getD p 0 = (rowAt d S cs (t + 1))[p] := by simp [List.getD_eq_getElem?_getD, h2]
    rw [← q1, ← q2, e1, e2]
  · rw [List.getElem?_eq_none (by rw [af.1, ll]; omega), List.getElem?_eq_none (by rw [rs1.1]; omega)]
def lawOk (d : Day) (S cs : List Int) (n : Nat) : Bool := (List.range n).all fun t => nnRow (leftRow d S cs t)
theorem lawOk_succ (d : Day) (S cs : List Int) (n : Nat) : lawOk d S cs (n + 1) = (lawOk d S cs n && nnRow (leftRow d S cs n)) := by
  unfold lawOk
  rw [List.range_succ, List.all_append]
  simp
theorem planB_eq (d : Day) (S W cs : List Int) : planB d S W cs = (lawOk d S cs d.T && nnRow (List.zipWith (fun s l => s - l) (rowAt d S cs d.T) W)) := by
  unfold planB waits lawOk
  rw [List.all_append, List.all_map]
  simp [Function.comp_def]
theorem nnRow_min {row : List Int} {m : Int} (hm : m ∈ row) (hl : ∀ y ∈ row, m ≤ y) : decide (m < 0) = !nnRow row := by
  by_cases h : m < 0
  · rw [decide_eq_true h]
    have : nnRow row = false := by
      unfold nnRow
      rw [Bool.eq_false_iff]
      intro z
      have := of_decide_eq_true (List.all_eq_true.mp z m hm)
      omega
    rw [this]; rfl
  · rw [decide_eq_false h]
    have : nnRow row = true := List.all_eq_true.mpr fun y hy => decide_eq_true (by have := hl y hy; omega)
    rw [this]; rfl
end Dry

/-! Given starts: dry, or a line that shows more than start inside. -/
namespace Dry
theorem zero_of_sum {xs : List Int} (nn : ∀ p, 0 ≤ xs.getD p 0) (h : xs.sum = 0) (p : Nat) : xs.getD p 0 = 0 := by
  have h1 := getD_le_sum nn p
  have h2 := nn p
  omega
theorem addL_zero {d : Day} {G m : List Int} (hG : G.length = d.P) (hm : m.length = d.P) (h : ∀ p, m.getD p 0 = 0) : addL G m = G := by
  apply List.ext_getElem?
  intro p
  by_cases hp : p < d.P
  · have e := addL_getD hG hm p
    have h1 : p < (addL G m).length := by rw [addL_length hG hm]; exact hp
    have h2 : p < G.length := by omega
    rw [h p] at e
    simp only [List.getD_eq_getElem?_getD, List.getElem?_eq_getElem h1, List.getElem?_eq_getElem h2, Option.getD_some] at e
    rw [List.getElem?_eq_getElem h1, List.getElem?_eq_getElem h2, e, Int.add_zero]
  · rw [List.getElem?_eq_none (by rw [addL_length hG hm]; omega), List.getElem?_eq_none (by omega)]
theorem dry_feas {d : Day} (ok : d.Ok) {G W : List Int} (hG : G.length = d.P) (hW : W.length = d.P) (gn : ∀ p, 0 ≤ G.getD p 0) (wn : ∀ p, 0 ≤ W.getD p 0) (h : (settled d G W).more.sum = 0) : Feas d G W (settled d G W).car := by
  obtain ⟨g, _⟩ := settled_good ok hG hW gn wn
  have := g.feas
  rw [addL_zero hG g.len (zero_of_sum g.nn h)] at this
  exact this
theorem feas_shows {d : Day} (ok : d.Ok) {G W cs : List Int} (gn : ∀ p, 0 ≤ G.getD p 0) (F : Feas d G W cs) (k : Nat → Nat) (hk : ∀ p, p < d.P → k p ≤ d.T + 1) : shows d W k ≤ inside d G k := by
  have h1 := weak ok F k hk
  have h2 := inside_nn (d := d) gn k
  unfold shows
  split <;> omega
theorem wet_line {d : Day} (ok : d.Ok) {G W : List Int} (hG : G.length = d.P) (hW : W.length = d.P) (gn : ∀ p, 0 ≤ G.getD p 0) (wn : ∀ p, 0 ≤ W.getD p 0) (h : (settled d G W).more.sum ≠ 0) : inside d G (kOf (lineFl d G W (settled d G W))) < shows d W (kOf (lineFl d G W (settled d G W))) := by
  obtain ⟨g, hn⟩ := settled_good ok hG hW gn wn
  have h1 := cut_tight ok hG hW g
  have h2 := cut_inside ok hG g hn
  have h3 := sum_nonneg g.nn
  have h4 := inside_nn (d := d) gn (kOf (lineFl d G W (settled d G W)))
  unfold shows
  split <;> omega
theorem inside_mono {d : Day} {G G' : List Int} (h : ∀ p, G.getD p 0 ≤ G'.getD p 0) (k : Nat → Nat) : inside d G k ≤ inside d G' k :=
  sumP_le _ fun p _ => by
    have := h p
    split <;> omega
theorem dry_mono {d : Day} (ok : d.Ok) {G G' W : List Int} (hG : G.length = d.P) (hG' : G'.length = d.P) (hW : W.length = d.P) (gn : ∀ p, 0 ≤ G.getD p 0) (wn : ∀ p, 0 ≤ W.getD p 0) (hle : ∀ p, G.getD p 0 ≤ G'.getD p 0) (h : (settled d G W).more.sum = 0) : (settled d G' W).more.sum = 0 := by
  have gn' : ∀ p, 0 ≤ G'.getD p 0 := fun p => Int.le_trans (gn p) (hle p)
  apply Classical.byContradiction
  intro hc
  have h1 := wet_line ok hG' hW gn' wn hc
  have h2 := feas_shows ok gn (dry_feas ok hG hW gn wn h) _ (fun p hp => lineFl_le ok G' W (settled d G' W) p hp)
  have h3 := inside_mono (d := d) hle (kOf (lineFl d G' W (settled d G' W)))
  omega
end Dry

/-! What can be spared. -/
namespace Dry
def dryB (d : Day) (G W : List Int) : Bool := decide ((settled d G W).more.sum = 0)
def less (G : List Int) (p : Nat) : List Int := G.set p (G.getD p 0 - 1)
def spB (d : Day) (G W : List Int) (p : Nat) : Bool := decide (0 < G.getD p 0) && dryB d (less G p) W
def sparedN (d : Day) (G W : List Int) : List Nat := (List.range d.P).filter (spB d G W)
def dryWk (w : Wk) : Wk := { w with wet := false }
def dryAt (d : Day) (i : Nat) (w : Wk) : Day := { d with ws := d.ws.set i (dryWk w) }
def spgB (d : Day) (W : List Int) (i : Nat) : Bool := match d.ws[i]? with
  | some w => w.wet && decide ((fewest (dryAt d i w) W).1 < (fewest d W).1)
  | none => false
def sparingN (d : Day) (W : List Int) : List Nat := (List.range d.ws.length).filter (spgB d W)
theorem dryAt_ok {d : Day} (ok : d.Ok) {i : Nat} {w : Wk} (hw : d.ws[i]? = some w) : (dryAt d i w).Ok := by
  have hm := List.mem_of_getElem? hw
  have key : ∀ v ∈ (dryAt d i w).ws, v ∈ d.ws ∨ v = dryWk w := fun v hv => List.mem_or_eq_of_mem_set hv
  refine ⟨fun v hv => ?_, fun v hv => ?_, fun v hv => ?_, fun v hv => ?_⟩
  · rcases key v hv with h | rfl
    · exact ok.h v h
    · exact ok.h w hm
  · rcases key v hv with h | rfl
    · exact ok.b v h
    · exact ok.b w hm
  · rcases key v hv with h | rfl
    · exact ok.e v h
    · exact ok.e w hm
  · rcases key v hv with h | rfl
    · exact ok.r v h
    · exact ok.r w hm
theorem less_length (G : List Int) (p : Nat) : (less G p).length = G.length := by simp [less]
theorem less_getD (G : List Int) (p q : Nat) (hp : p < G.length) : (less G p).getD q 0 = if p = q then G.getD q 0 - 1 else G.getD q 0 := by
  unfold less
  simp only [List.getD_eq_getElem?_getD, List.getElem?_set]
  by_cases h : p = q
  · subst h; simp [hp]
  · simp [h]
theorem less_nn {G : List Int} {p : Nat} (hp : p < G.length) (gn : ∀ q, 0 ≤ G.getD q 0) (h : 0 < G.getD p 0) (q : Nat) : 0 ≤ (less G p).getD q 0 := by
  rw [less_getD G p q hp]
  have := gn q
  split
  · rename_i e; subst e; omega
  · exact this
theorem less_sum {G : List Int} {p : Nat} (hp : p < G.length) : (less G p).sum = G.sum - 1 := by
  rw [sum_getD, less_length, sum_getD G]
  have e : sumP (fun q => (less G p).getD q 0) G.length = sumP (fun q => G.getD q 0) G.length - sumP (fun q => if p = q then 1 else 0) G.length := by
    rw [← sumP_sub]
    refine sumP_congr _ fun q _ => ?_
    rw [less_getD G p q hp]
    split <;> omega
  rw [e, sumP_single, if_pos hp]
/-- dry: no line shows more than start inside -/
theorem dry_iff {d : Day} (ok : d.Ok) {G W : List Int} (hG : G.length = d.P) (hW : W.length = d.P) (gn : ∀ p, 0 ≤ G.getD p 0) (wn : ∀ p, 0 ≤ W.getD p 0) :
    dryB d G W = true ↔ ∀ k : Nat → Nat, (∀ p, p < d.P → k p ≤ d.T + 1) → shows d W k ≤ inside d G k := by
  constructor
  · intro h k hk
    exact feas_shows ok gn (dry_feas ok hG hW gn wn (of_decide_eq_true h)) k hk
  · intro h
    refine decide_eq_true (Classical.byContradiction fun hc => ?_)
    have h1 := wet_line ok hG hW gn wn hc
    have h2 := h _ (fun p hp => lineFl_le ok G W (settled d G W) p hp)
    omega
theorem feas_dry {d : Day} (ok : d.Ok) {G W cs : List Int} (hG : G.length = d.P) (hW : W.length = d.P) (gn : ∀ p, 0 ≤ G.getD p 0) (wn : ∀ p, 0 ≤ W.getD p 0) (F : Feas d G W cs) : dryB d G W = true :=
  (dry_iff ok hG hW gn wn).mpr fun k hk => feas_shows ok gn F k hk
theorem dry_sum {d : Day} (ok : d.Ok) {G W : List Int} (hG : G.length = d.P) (hW : W.length = d.P) (gn : ∀ p, 0 ≤ G.getD p 0) (wn : ∀ p, 0 ≤ W.getD p 0) (h : dryB d G W = true) : (fewest d W).1 ≤ G.sum := by
  have hl : (line d W).length = d.P := by unfold line lineFl lineOf; simp
  have h1 := (dry_iff ok hG hW gn wn).mp h (kOf (line d W)) (fun p hp => lineFl_le ok (zeros d) W (settled d (zeros d) W) p hp)
  rw [line_shows ok hW wn] at h1
  exact Int.le_trans h1 (inside_le_sum hG gn _)
/-- fewest starts spare none -/
theorem fewest_spared {d : Day} (ok : d.Ok) {W : List Int} (hW : W.length = d.P) (wn : ∀ p, 0 ≤ W.getD p 0) : sparedN d (fewest d W).2.1 W = [] := by
  have t := fewest_told ok hW wn
  refine List.filter_eq_nil_iff.mpr fun p hp => ?_
  have hp' : p < (fewest d W).2.1.length := by rw [t.len]; exact List.mem_range.mp hp
  unfold spB
  intro h
  rw [Bool.and_eq_true] at h
  have h0 := of_decide_eq_true h.1
  have h1 := dry_sum ok (by rw [less_length, t.len]) hW (less_nn hp' t.nn h0) wn h.2
  rw [less_sum hp', t.sum] at h1
  omega
theorem more_spared {d : Day} (ok : d.Ok) {W : List Int} (hW : W.length = d.P) (wn : ∀ p, 0 ≤ W.getD p 0) {p : Nat} (hp : p < d.P) : p ∈ sparedN d ((fewest d W).2.1.set p ((fewest d W).2.1.getD p 0 + 1)) W := by
  have t := fewest_told ok hW wn
  have hp' : p < (fewest d W).2.1.length := by rw [t.len]; exact hp
  have e : ((fewest d W).2.1.set p ((fewest d W).2.1.getD p 0 + 1)).getD p 0 = (fewest d W).2.1.getD p 0 + 1 := by
    simp [List.getD_eq_getElem?_getD, List.getElem?_set, hp']
  refine List.mem_filter.mpr ⟨List.mem_range.mpr hp, ?_⟩
  unfold spB
  have hn := t.nn p
  rw [e, decide_eq_true (by omega)]
  have el : less ((fewest d W).2.1.set p ((fewest d W).2.1.getD p 0 + 1)) p = (fewest d W).2.1 := by
    unfold less
    rw [e, List.set_set]
    have : (fewest d W).2.1.getD p 0 + 1 - 1 = (fewest d W).2.1[p] := by simp [List.getD_eq_getElem?_getD, hp']
    rw [this]
    exact List.set_getElem_self hp'
  rw [el, feas_dry ok t.len hW t.nn wn t.feas]
  rfl
end Dry

/-! The bounds: what starts at one place; twelve walks at once. -/
namespace Dry
theorem lessen_le {d : Day} {G W : List Int} {x y : Fl} (h : lessen d G W x = some y) (p : Nat) : y.more.getD p 0 ≤ x.more.getD p 0 := by
  unfold lessen at h
  dsimp only at h
  split at h
  · cases h
  · cases h
    rename_i q _ _
    show (addAt x.more q (-1)).getD p 0 ≤ _
    by_cases hq : q < x.more.length
    · rw [addAt_getD _ _ _ _ hq]
      split <;> omega
    · unfold addAt
      rw [List.set_eq_of_length_le (by omega)]
      exact Int.le_refl _
theorem settle_le {d : Day} {G W : List Int} (p : Nat) : ∀ (n : Nat) (x : Fl), (settle d G W n x).more.getD p 0 ≤ x.more.getD p 0
  | 0, _ => Int.le_refl _
  | n + 1, x => by
    unfold settle
    split
    · exact Int.le_refl _
    · rename_i y e
      exact Int.le_trans (settle_le p n y) (lessen_le e p)
theorem more0_le (p : Nat) : ∀ (ws : List Wk) (W : List Int), (ws.foldl (fun m w => addAt m w.b w.wi) W).getD p 0 ≤ W.getD p 0 + (ws.length : Int)
  | [], W => by simp
  | w :: ws, W => by
    rw [List.foldl_cons]
    have h := more0_le p ws (addAt W w.b w.wi)
    have h2 : (addAt W w.b w.wi).getD p 0 ≤ W.getD p 0 + 1 := by
      have : w.wi ≤ 1 := by unfold Wk.wi; split <;> omega
      by_cases hq : w.b < W.length
      · rw [addAt_getD _ _ _ _ hq]
        split <;> omega
      · unfold addAt
        rw [List.set_eq_of_length_le (by omega)]
        omega
    rw [List.length_cons]
    omega
theorem settled_le (d : Day) (G W : List Int) (p : Nat) : (settled d G W).more.getD p 0 ≤ W.getD p 0 + (d.ws.length : Int) :=
  Int.le_trans (settle_le p _ _) (more0_le p d.ws W)
theorem fewest_le {d : Day} (ok : d.Ok) {W : List Int} (hW : W.length = d.P) (wn : ∀ p, 0 ≤ W.getD p 0) (p : Nat) : (fewest d W).2.1.getD p 0 ≤ W.getD p 0 + (d.ws.length : Int) := by
  have g := settled_good ok (zeros_length d) hW (fun p => by rw [zeros_getD]; exact Int.le_refl _) wn
  show (addL (zeros d) (settled d (zeros d) W).more).getD p 0 ≤ _
  rw [addL_zeros g.1.len]
  exact settled_le d (zeros d) W p
def atOnce : Day := ⟨5, 8, (List.range 4).flatMap fun e => (List.range 3).map fun r => ⟨7, 0, e + 1, true, r + 1⟩⟩
theorem atOnce_0 : (fewest atOnce [0, 0, 0, 0, 0]).1 = 12 ∧ (fewest atOnce [0, 0, 0, 0, 0]).2.1 = [12, 0, 0, 0, 0] := by decide +kernel
theorem atOnce_20 : (fewest atOnce [20, 20, 20, 20, 20]).1 = 100 := by decide +kernel
end Dry

/-! Days that go together: by lines. -/
namespace Dry
def KOk (d : Day) (k : Nat → Nat) : Prop := ∀ p, p < d.P → k p ≤ d.T + 1
theorem few_le {d d' : Day} (ok : d.Ok) (ok' : d'.Ok) {W W' : List Int} (hW : W.length = d.P) (wn : ∀ p, 0 ≤ W.getD p 0) (hW' : W'.length = d'.P) (wn' : ∀ p, 0 ≤ W'.getD p 0)
    (h : ∀ k, KOk d k → ∃ k', KOk d' k' ∧ raw d W k ≤ raw d' W' k') : (fewest d W).1 ≤ (fewest d' W').1 := by
  obtain ⟨k', hk', hr⟩ := h (kOf (line d W)) (fun p hp => lineFl_le ok (zeros d) W (settled d (zeros d) W) p hp)
  rw [line_raw ok hW wn] at hr
  have h1 := shows_le ok' hW' wn' k' hk'
  unfold shows at h1
  split at h1 <;> omega
theorem raw_le_few {d : Day} (ok : d.Ok) {W : List Int} (hW : W.length = d.P) (wn : ∀ p, 0 ≤ W.getD p 0) (k : Nat → Nat) (hk : KOk d k) : raw d W k ≤ (fewest d W).1 := by
  have h1 := shows_le ok hW wn k hk
  unfold shows at h1
  split at h1 <;> omega
theorem sumWs_perm {f : Wk → Int} {l m : List Wk} (h : l.Perm m) : sumWs f l = sumWs f m := by
  induction h with
  | nil => rfl
  | cons x _ ih => show f x + _ = f x + _; rw [ih]
  | swap x y l => show f y + (f x + _) = f x + (f y + _); omega
  | trans _ _ h1 h2 => rw [h1, h2]
theorem sumWs_le {f g : Wk → Int} : ∀ l : List Wk, (∀ w ∈ l, f w ≤ g w) → sumWs f l ≤ sumWs g l
  | [], _ => Int.le_refl _
  | w :: l, h => by
    have h1 := h w (by simp)
    have h2 := sumWs_le l (fun v hv => h v (by simp [hv]))
    show f w + _ ≤ g w + _
    omega
theorem sumWs_congr {f g : Wk → Int} : ∀ l : List Wk, (∀ w ∈ l, f w = g w) → sumWs f l = sumWs g l
  | [], _ => rfl
  | w :: l, h => by
    show f w + _ = g w + _
    rw [h w (by simp), sumWs_congr l (fun v hv => h v (by simp [hv]))]
theorem sumWs_map {f : Wk → Int} {g : Wk → Wk} : ∀ l : List Wk, sumWs f (l.map g) = sumWs (fun w => f (g w)) l
  | [] => rfl
  | w :: l => by show f (g w) + _ = f (g w) + _; rw [sumWs_map l]
theorem sumWs_zero : ∀ l : List Wk, sumWs (fun _ => 0) l = 0
  | [] => rfl
  | _ :: l => by show 0 + _ = (0 : Int); rw [sumWs_zero l]; rfl
/-- more wanted -/
theorem few_more {d : Day} (ok : d.Ok) {W W' : List Int} (hW : W.length = d.P) (wn : ∀ p, 0 ≤ W.getD p 0) (hW' : W'.length = d.P) (h : ∀ p, p < d.P → W.getD p 0 ≤ W'.getD p 0) : (fewest d W).1 ≤ (fewest d W').1 := by
  have wn' : ∀ p, 0 ≤ W'.getD p 0 := fun p => by
    by_cases hp : p < d.P
    · exact Int.le_trans (wn p) (h p hp)
    · rw [getD_big (by omega)]; exact Int.le_refl _
  refine few_le ok ok hW wn hW' wn' fun k hk => ⟨k, hk, ?_⟩
  unfold raw
  have := sumP_le (f := fun p => if k p = d.T + 1 then W.getD p 0 else 0) (g := fun p => if k p = d.T + 1 then W'.getD p 0 else 0) d.P (fun p hp => by have := h p hp; split <;> omega)
  omega
/-- the walks in another order, each showing no less -/
theorem few_walks {d d' : Day} (ok : d.Ok) (ok' : d'.Ok) (hP : d'.P = d.P) (hT : d'.T = d.T) {W : List Int} (hW : W.length = d.P) (wn : ∀ p, 0 ≤ W.getD p 0)
    (h : ∀ k : Nat → Nat, sumWs (showW k) d.ws ≤ sumWs (showW k) d'.ws) : (fewest d W).1 ≤ (fewest d' W).1 := by
  refine few_le ok ok' hW wn (by rw [hW, hP]) wn fun k hk => ⟨k, fun p hp => by rw [hT]; exact hk p (by rw [← hP]; exact hp), ?_⟩
  unfold raw
  rw [hP, hT]
  have := h k
  omega
theorem few_perm {d d' : Day} (ok : d.Ok) (ok' : d'.Ok) (hP : d'.P = d.P) (hT : d'.T = d.T) {W : List Int} (hW : W.length = d.P) (wn : ∀ p, 0 ≤ W.getD p 0) (h : d'.ws.Perm d.ws) : (fewest d' W).1 = (fewest d W).1 := by
  have h1 := few_walks ok ok' hP hT hW wn fun k => by rw [sumWs_perm h]; exact Int.le_refl _
  have h2 := few_walks ok' ok hP.symm hT.symm (by rw [hW, hP]) wn fun k => by rw [sumWs_perm h]; exact Int.le_refl _
  omega
def wetWk (w : Wk) : Wk := { w with wet := true }
def wideWk (w : Wk) : Wk := { w with r := min 3 (w.r + 1) }
theorem show_wet (k : Nat → Nat) (w : Wk) : showW k w ≤ showW k (wetWk w) := by
  unfold showW
  have e1 : leaves k (wetWk w) = leaves k w := rfl
  have e2 : comes k (wetWk w) = comes k w := rfl
  rw [e1, e2]
  split
  · show w.wi ≤ 1
    unfold Wk.wi; split <;> omega
  · exact Int.le_refl _
theorem show_wide (k : Nat → Nat) (w : Wk) (h : w.r ≤ 3) : showW k (wideWk w) ≤ showW k w := by
  unfold showW
  have e1 : leaves k (wideWk w) = leaves k w := rfl
  have e2 : comes k (wideWk w) = comes k w := rfl
  have e3 : (wideWk w).wi = w.wi := rfl
  rw [e1, e2, e3]
  split
  · exact Int.le_refl _
  · split
    · show -(((min 3 (w.r + 1) : Nat)) : Int) ≤ -(w.r : Int)
      omega
    · exact Int.le_refl _
theorem show_dry (k : Nat → Nat) (w : Wk) (h : w.wet = false) : showW k w ≤ 0 := by
  unfold showW
  have e : w.wi = 0 := by unfold Wk.wi; rw [h]; rfl
  rw [e]
  split
  · exact Int.le_refl _
  · split
    · omega
    · exact Int.le_refl _
/-- no fewer than what is wanted -/
theorem few_wanted {d : Day} (ok : d.Ok) {W : List Int} (hW : W.length = d.P) (wn : ∀ p, 0 ≤ W.getD p 0) : W.sum ≤ (fewest d W).1 := by
  have h := raw_le_few ok hW wn (fun _ => d.T + 1) (fun p _ => Nat.le_refl _)
  unfold raw at h
  have e1 : sumP (fun p => if d.T + 1 = d.T + 1 then W.getD p 0 else 0) d.P = W.sum := by
    rw [sum_getD, hW]
    exact sumP_congr _ fun p _ => if_pos rfl
  have e2 : sumWs (showW fun _ => d.T + 1) d.ws = 0 := by
    rw [sumWs_congr d.ws (g := fun _ => 0) (fun w hw => ?_), sumWs_zero]
    have := ok.h w hw
    unfold showW leaves comes
    simp [show w.h < d.T + 1 by omega, show w.h + 1 < d.T + 1 by omega]
  rw [e1, e2] at h
  omega
theorem few_upper {d : Day} (ok : d.Ok) {W : List Int} (hW : W.length = d.P) (wn : ∀ p, 0 ≤ W.getD p 0) : (fewest d W).1 ≤ W.sum + (d.ws.map Wk.wi).sum :=
  settled_sum ok (zeros_length d) hW (fun p => by rw [zeros_getD]; exact Int.le_refl _) wn
theorem wi_count : ∀ ws : List Wk, (ws.map Wk.wi).sum = ((ws.filter fun w => w.wet).length : Int)
  | [] => rfl
  | w :: ws => by
    rw [List.map_cons, List.sum_cons, wi_count ws, List.filter_cons]
    unfold Wk.wi
    cases w.wet <;> simp <;> omega
theorem hour_count (t : Nat) : ∀ ws : List Wk, sumWs (showW fun _ => t + 1) ws = (((ws.filter fun w => w.wet).filter fun w => decide (w.h = t)).length : Int)
  | [] => rfl
  | w :: ws => by
    show showW _ w + sumWs _ ws = _
    rw [hour_count t ws]
    have e : showW (fun _ => t + 1) w = if w.wet = true ∧ w.h = t then 1 else 0 := by
      unfold showW leaves comes Wk.wi
      by_cases h1 : w.h = t
      · subst h1
        cases w.wet <;> simp
      · by_cases h2 : w.h < t
        · simp [h1, show w.h < t + 1 by omega, show w.h + 1 < t + 1 by omega]
        · simp [h1, show ¬ w.h < t + 1 by omega, show ¬ w.h + 1 < t + 1 by omega]
    rw [e, List.filter_cons]
    cases hw : w.wet
    · simp
    · rw [if_pos rfl, List.filter_cons]
      by_cases h1 : w.h = t
      · rw [if_pos ⟨rfl, h1⟩, if_pos (decide_eq_true h1), List.length_cons]
        omega
      · rw [if_neg (fun z => h1 z.2), if_neg (fun z => h1 (of_decide_eq_true z))]
        omega
/-- no fewer than the wet walks of one hour -/
theorem few_hour {d : Day} (ok : d.Ok) {W : List Int} (hW : W.length = d.P) (wn : ∀ p, 0 ≤ W.getD p 0) {t : Nat} (ht : t < d.T) : ((((d.ws.filter fun w => w.wet).filter fun w => decide (w.h = t)).length : Nat) : Int) ≤ (fewest d W).1 := by
  have h := raw_le_few ok hW wn (fun _ => t + 1) (fun p _ => show t + 1 ≤ d.T + 1 by omega)
  unfold raw at h
  have e1 : sumP (fun p => if t + 1 = d.T + 1 then W.getD p 0 else 0) d.P = 0 := by
    rw [sumP_congr d.P (g := fun _ => 0) (fun p _ => if_neg (by omega)), sumP_zero]
  rw [e1, hour_count] at h
  omega
/-! ### backward -/
def backWk (T : Nat) (w : Wk) : Wk := ⟨T - 1 - w.h, w.e, w.b, w.wet, w.r⟩
theorem show_back {d : Day} (ok : d.Ok) (k : Nat → Nat) (hk : KOk d k) {w : Wk} (hw : w ∈ d.ws) : showW (fun p => d.T + 1 - k p) (backWk d.T w) = showW k w := by
  have h1 := ok.h w hw
  have h2 := hk w.b (ok.b w hw)
  have h3 := hk w.e (ok.e w hw)
  have e1 : leaves (fun p => d.T + 1 - k p) (backWk d.T w) = !comes k w := by
    unfold leaves comes backWk
    dsimp only
    by_cases h : w.h + 1 < k w.e
    · rw [decide_eq_true h, decide_eq_false (by omega)]; rfl
    · rw [decide_eq_false h, decide_eq_true (by omega)]; rfl
  have e2 : comes (fun p => d.T + 1 - k p) (backWk d.T w) = !leaves k w := by
    unfold leaves comes backWk
    dsimp only
    by_cases h : w.h < k w.b
    · rw [decide_eq_true h, decide_eq_false (by omega)]; rfl
    · rw [decide_eq_false h, decide_eq_true (by omega)]; rfl
  have e3 : (backWk d.T w).wi = w.wi := rfl
  have e4 : (backWk d.T w).r = w.r := rfl
  unfold showW
  rw [e1, e2, e3, e4]
  cases leaves k w <;> cases comes k w <;> rfl
theorem few_back1 {d d' : Day} (ok : d.Ok) (ok' : d'.Ok) (hP : d'.P = d.P) (hT : d'.T = d.T) (h : d'.ws.Perm (d.ws.map (backWk d.T))) : (fewest d (zeros d)).1 ≤ (fewest d' (zeros d')).1 := by
  have z : ∀ d : Day, ∀ p, 0 ≤ (zeros d).getD p 0 := fun d p => by rw [zeros_getD]; exact Int.le_refl _
  refine few_le ok ok' (zeros_length d) (z d) (zeros_length d') (z d') fun k hk => ⟨fun p => d.T + 1 - k p, fun p _ => by rw [hT]; dsimp only; omega, ?_⟩
  unfold raw
  rw [sumWs_perm h, sumWs_map, sumWs_congr d.ws (g := showW k) (fun w hw => show_back ok k hk hw)]
  have e : ∀ (d : Day) (q : Nat → Prop) [DecidablePred q], sumP (fun p => if q p then (zeros d).getD p 0 else 0) d.P = 0 := fun d q _ => by
    rw [sumP_congr d.P (g := fun _ => 0) (fun p _ => by rw [zeros_getD]; split <;> rfl), sumP_zero]
  rw [e d (fun p => k p = d.T + 1), e d' (fun p => d.T + 1 - k p = d'.T + 1)]
  exact Int.le_refl _
theorem back_back {T : Nat} {w : Wk} (h : w.h < T) : backWk T (backWk T w) = w := by
  obtain ⟨a, b, c, x, r⟩ := w
  show (⟨T - 1 - (T - 1 - a), b, c, x, r⟩ : Wk) = _
  have : T - 1 - (T - 1 - a) = a := by have : a < T := h; omega
  rw [this]
theorem few_back {d d' : Day} (ok : d.Ok) (ok' : d'.Ok) (hP : d'.P = d.P) (hT : d'.T = d.T) (h : d'.ws.Perm (d.ws.map (backWk d.T))) : (fewest d' (zeros d')).1 = (fewest d (zeros d)).1 := by
  have h1 := few_back1 ok ok' hP hT h
  have h2 := few_back1 ok' ok hP.symm hT.symm (by
    have hm := (h.map (backWk d'.T)).symm
    rw [List.map_map] at hm
    have e : d.ws.map (backWk d'.T ∘ backWk d.T) = d.ws := by
      conv => rhs; rw [← List.map_id d.ws]
      exact List.map_congr_left fun w hw => by rw [hT]; exact back_back (ok.h w hw)
    rw [e] at hm
    exact hm)
  omega
/-! ### called otherwise -/
def turnWk (P : Nat) (w : Wk) : Wk := ⟨w.h, P - 1 - w.b, P - 1 - w.e, w.wet, w.r⟩
theorem sumP_rev (f : Nat → Int) : ∀ n, sumP (fun p => f (n - 1 - p)) n = sumP f n := by
  intro n
  have key : ∀ m, m ≤ n → sumP (fun p => f (n - 1 - p)) m = sumP f n - sumP f (n - m) := by
    intro m
    induction m with
    | zero => intro _; show 0 = _; rw [Nat.sub_zero]; omega
    | succ m ih =>
      intro hm
      show sumP (fun p => f (n - 1 - p)) m + f (n - 1 - m) = _
      rw [ih (by omega)]
      have e : n - m = (n - (m + 1)) + 1 := by omega
      have e2 : n - 1 - m = n - (m + 1) := by omega
      rw [e, e2]
      show sumP f n - (sumP f (n - (m + 1)) + f (n - (m + 1))) + _ = _
      omega
  rw [key n (Nat.le_refl _), Nat.sub_self]
  show sumP f n - 0 = _
  omega
theorem rev_getD {W : List Int} {p : Nat} (hp : p < W.length) : W.reverse.getD p 0 = W.getD (W.length - 1 - p) 0 := by
  rw [List.getD_eq_getElem?_getD, List.getD_eq_getElem?_getD, List.getElem?_reverse hp]
theorem few_turn1 {d d' : Day} (ok : d.Ok) (ok' : d'.Ok) (hP : d'.P = d.P) (hT : d'.T = d.T) {W : List Int} (hW : W.length = d.P) (wn : ∀ p, 0 ≤ W.getD p 0) (h : d'.ws.Perm (d.ws.map (turnWk d.P))) : (fewest d W).1 ≤ (fewest d' W.reverse).1 := by
  have wn' : ∀ p, 0 ≤ W.reverse.getD p 0 := fun p => by
    by_cases hp : p < W.length
    · rw [rev_getD hp]; exact wn _
    · rw [getD_big (by rw [List.length_reverse]; omega)]; exact Int.le_refl _
  refine few_le ok ok' hW wn (by rw [List.length_reverse, hW, hP]) wn' fun k hk => ⟨fun p => k (d.P - 1 - p), fun p hp => by rw [hT]; rw [hP] at hp; exact hk _ (by omega), ?_⟩
  unfold raw
  rw [sumWs_perm h, sumWs_map, hP, hT]
  have e1 : sumWs (fun w => showW (fun p => k (d.P - 1 - p)) (turnWk d.P w)) d.ws = sumWs (showW k) d.ws := by
    refine sumWs_congr _ fun w hw => ?_
    have h1 := ok.b w hw
    have h2 := ok.e w hw
    have a1 : leaves (fun p => k (d.P - 1 - p)) (turnWk d.P w) = leaves k w := by
      unfold leaves turnWk
      exact decide_eq_decide.mpr (by dsimp only; rw [show d.P - 1 - (d.P - 1 - w.b) = w.b by omega])
    have a2 : comes (fun p => k (d.P - 1 - p)) (turnWk d.P w) = comes k w := by
      unfold comes turnWk
      exact decide_eq_decide.mpr (by dsimp only; rw [show d.P - 1 - (d.P - 1 - w.e) = w.e by omega])
    unfold showW
    rw [a1, a2]
    rfl
  have e2 : sumP (fun p => if k (d.P - 1 - p) = d.T + 1 then W.reverse.getD p 0 else 0) d.P = sumP (fun p => if k p = d.T + 1 then W.getD p 0 else 0) d.P := by
    rw [← sumP_rev (fun p => if k p = d.T + 1 then W.getD p 0 else 0) d.P]
    refine sumP_congr _ fun p hp => ?_
    rw [rev_getD (by omega), hW]
  rw [e1, e2]
  exact Int.le_refl _
theorem few_turn {d d' : Day} (ok : d.Ok) (ok' : d'.Ok) (hP : d'.P = d.P) (hT : d'.T = d.T) {W : List Int} (hW : W.length = d.P) (wn : ∀ p, 0 ≤ W.getD p 0) (h : d'.ws.Perm (d.ws.map (turnWk d.P))) : (fewest d' W.reverse).1 = (fewest d W).1 := by
  have h1 := few_turn1 ok ok' hP hT hW wn h
  have wn' : ∀ p, 0 ≤ W.reverse.getD p 0 := fun p => by
    by_cases hp : p < W.length
    · rw [rev_getD hp]; exact wn _
    · rw [getD_big (by rw [List.length_reverse]; omega)]; exact Int.le_refl _
  have h2 := few_turn1 ok' ok hP.symm hT.symm (W := W.reverse) (by rw [List.length_reverse, hW, hP]) wn' (by
    have hm := (h.map (turnWk d'.P)).symm
    rw [List.map_map] at hm
    have e : d.ws.map (turnWk d'.P ∘ turnWk d.P) = d.ws := by
      conv => rhs; rw [← List.map_id d.ws]
      refine List.map_congr_left fun w hw => ?_
      have h1 := ok.b w hw
      have h2 := ok.e w hw
      obtain ⟨a, b, c, x, r⟩ := w
      show (⟨a, d'.P - 1 - (d.P - 1 - b), d'.P - 1 - (d.P - 1 - c), x, r⟩ : Wk) = _
      have e1 : d'.P - 1 - (d.P - 1 - b) = b := by have : b < d.P := h1; omega
      have e2 : d'.P - 1 - (d.P - 1 - c) = c := by have : c < d.P := h2; omega
      rw [e1, e2]
      rfl
    rw [e] at hm
    exact hm)
  rw [List.reverse_reverse] at h2
  omega
/-! ### an hour more in which nobody walks -/
theorem few_idle {d d' : Day} (ok : d.Ok) (ok' : d'.Ok) (hP : d'.P = d.P) (hT : d'.T = d.T + 1) {W : List Int} (hW : W.length = d.P) (wn : ∀ p, 0 ≤ W.getD p 0) (h : d'.ws.Perm d.ws) : (fewest d' W).1 = (fewest d W).1 := by
  have h1 : (fewest d W).1 ≤ (fewest d' W).1 := by
    refine few_le ok ok' hW wn (by rw [hW, hP]) wn fun k hk => ⟨fun p => if k p = d.T + 1 then d.T + 2 else k p, fun p hp => ?_, ?_⟩
    · have := hk p (by rw [← hP]; exact hp)
      rw [hT]; dsimp only; split <;> omega
    · unfold raw
      rw [sumWs_perm h, hP, hT]
      have e1 : sumWs (showW fun p => if k p = d.T + 1 then d.T + 2 else k p) d.ws = sumWs (showW k) d.ws := by
        refine sumWs_congr _ fun w hw => ?_
        have h1 := ok.h w hw
        have a1 : leaves (fun p => if k p = d.T + 1 then d.T + 2 else k p) w = leaves k w := by
          unfold leaves; exact decide_eq_decide.mpr (by dsimp only; split <;> omega)
        have a2 : comes (fun p => if k p = d.T + 1 then d.T + 2 else k p) w = comes k w := by
          unfold comes; exact decide_eq_decide.mpr (by dsimp only; split <;> omega)
        unfold showW
        rw [a1, a2]
      have e2 : sumP (fun p => if (if k p = d.T + 1 then d.T + 2 else k p) = d.T + 1 + 1 then W.getD p 0 else 0) d.P = sumP (fun p => if k p = d.T + 1 then W.getD p 0 else 0) d.P := by
        refine sumP_congr _ fun p hp => ?_
        have := hk p hp
        by_cases hq : k p = d.T + 1
        · rw [if_pos hq, if_pos rfl, if_pos hq]
        · rw [if_neg hq, if_neg hq, if_neg (by omega)]
      rw [e1, e2]
      exact Int.le_refl _
  have h2 : (fewest d' W).1 ≤ (fewest d W).1 := by
    refine few_le ok' ok (by rw [hW, hP]) wn hW wn fun k hk => ⟨fun p => min (k p) (d.T + 1), fun p _ => Nat.min_le_right _ _, ?_⟩
    unfold raw
    rw [sumWs_perm h, hP, hT]
    have e1 : sumWs (showW fun p => min (k p) (d.T + 1)) d.ws = sumWs (showW k) d.ws := by
      refine sumWs_congr _ fun w hw => ?_
      have h1 := ok.h w hw
      have a1 : leaves (fun p => min (k p) (d.T + 1)) w = leaves k w := by
        unfold leaves; exact decide_eq_decide.mpr (by dsimp only; omega)
      have a2 : comes (fun p => min (k p) (d.T + 1)) w = comes k w := by
        unfold comes; exact decide_eq_decide.mpr (by dsimp only; omega)
      unfold showW
      rw [a1, a2]
    have e2 : sumP (fun p => if k p = d.T + 1 + 1 then W.getD p 0 else 0) d.P ≤ sumP (fun p => if min (k p) (d.T + 1) = d.T + 1 then W.getD p 0 else 0) d.P := by
      refine sumP_le _ fun p hp => ?_
      have := wn p
      by_cases hq : k p = d.T + 1 + 1
      · rw [if_pos hq, if_pos (by omega)]; exact Int.le_refl _
      · rw [if_neg hq]; split <;> omega
    rw [e1]
    dsimp only
    omega
  omega
end Dry

/-! Written days: what the mirror tells of them. -/
namespace Dry
def againD (h r : Nat) : Day := ⟨2, h + 3, [⟨h, 0, 1, true, 1⟩, ⟨h, 0, 1, true, 2⟩, ⟨h + 1, 1, 0, false, r⟩, ⟨h + 2, 0, 1, true, 1⟩, ⟨h + 2, 0, 1, true, 2⟩]⟩
def fro (h : Nat) : Day := ⟨2, h + 2, [⟨h, 0, 1, true, 1⟩, ⟨h + 1, 1, 0, true, 1⟩]⟩
def there (h : Nat) : Day := ⟨2, h + 2, [⟨h, 0, 1, true, 1⟩, ⟨h + 1, 0, 1, true, 1⟩]⟩
def ring (h : Nat) : Day := ⟨3, h + 3, [⟨h, 0, 1, true, 1⟩, ⟨h + 1, 1, 2, true, 1⟩, ⟨h + 2, 2, 0, true, 1⟩]⟩
def rowD : Day := ⟨3, 1, [⟨0, 0, 1, true, 1⟩, ⟨0, 1, 2, true, 1⟩]⟩
def idle : Day := ⟨2, 1, []⟩
def m2 (r : Nat) : Int := if 2 < (r : Int) then 2 else r
def m4 (r : Nat) : Int := if 4 < (r : Int) then 4 else r
theorem again_few : ∀ h, h < 5 → ∀ r, r < 4 → 1 ≤ r → (fewest (againD h r) [0, 0]).1 = 4 - m2 r ∧ (fewest (againD h r) [0, 0]).2.1 = [4 - m2 r, 0] ∧ m2 r ≤ (fewest (againD h r) [0, 0]).2.2.getD 2 0 ∧ (fewest (againD h r) [0, 0]).2.2.length = 5 := by decide +kernel
theorem again_show : ∀ h, h < 5 → ∀ r, r < 4 → 1 ≤ r → shows (againD h r) [0, 0] (kOf [h + 3, h + 1]) = 4 - m4 r ∧ shows (againD h r) [0, 0] (kOf [h + 1, 0]) = 2 := by decide +kernel
theorem again_wet : ∀ h, h < 5 → ∀ r, r < 4 → 1 ≤ r → (settled (againD h r) [0, 9] [0, 0]).more.sum ≠ 0 ∧ inside (againD h r) [0, 9] (kOf [h + 1, 0]) < shows (againD h r) [0, 0] (kOf [h + 1, 0]) := by decide +kernel
theorem again_spared : ∀ h, h < 5 → ∀ r, r < 4 → 1 ≤ r → sparedN (againD h r) [4 - m2 r + 1, 1] [0, 0] = [0, 1] ∧ sparedN (againD h r) [4 - m2 r, 0] [0, 0] = [] := by decide +kernel
theorem again_sparing : ∀ h, h < 5 → ∀ r, r < 4 → 1 ≤ r → sparingN (againD h r) [0, 0] = if r = 1 then [0, 1, 3, 4] else [] := by decide +kernel
theorem fro_few : ∀ h, h < 5 → fewest (fro h) [0, 0] = (1, [1, 0], [1, 1]) ∧ (fewest (fro h) [1, 0]).1 = 1 ∧ (fewest (fro h) [0, 1]).1 = 2 := by decide +kernel
theorem there_few : ∀ h, h < 5 → (fewest (there h) [0, 0]).1 = 2 ∧ (fewest (there h) [0, 0]).2.1 = [2, 0] ∧ (standing (there h) [2, 0] [1, 1]).getD (h + 2) [] = [0, 2] ∧ (standing (there h) [2, 0] [1, 1]).length = h + 3 := by decide +kernel
theorem ring_few : ∀ h, h < 5 → fewest (ring h) [0, 0, 0] = (1, [1, 0, 0], [1, 1, 1]) ∧ sparingN (ring h) [0, 0, 0] = [] := by decide +kernel
theorem row_few : fewest rowD [0, 0, 0] = (2, [1, 1, 0], [1, 1]) ∧ (settled rowD [1, 0, 0] [0, 0, 0]).more.sum ≠ 0 := by decide +kernel
theorem idle_few : fewest idle [0, 0] = (0, [0, 0], []) ∧ fewest idle [2, 1] = (3, [2, 1], []) := by decide +kernel
end Dry

/-! The told starts are never many: a start is at most what is wanted there and one for each walk. -/
namespace Dry
theorem lessen_leP {d : Day} {G W : List Int} {x y : Fl} (h : lessen d G W x = some y) (q : Nat) : y.more.getD q 0 ≤ x.more.getD q 0 := by
  unfold lessen at h
  dsimp only at h
  split at h
  · cases h
  · rename_i p rest hs
    cases h
    show (addAt x.more p (-1)).getD q 0 ≤ _
    by_cases hp : p < x.more.length
    · rw [addAt_getD _ _ _ _ hp]
      split <;> omega
    · unfold addAt
      rw [List.set_eq_of_length_le (by omega)]
      exact Int.le_refl _
theorem settle_leP {d : Day} {G W : List Int} (q : Nat) : ∀ (n : Nat) (x : Fl), (settle d G W n x).more.getD q 0 ≤ x.more.getD q 0
  | 0, _ => Int.le_refl _
  | n + 1, x => by
    unfold settle
    split
    · exact Int.le_refl _
    · rename_i y e
      exact Int.le_trans (settle_leP q n y) (lessen_leP e q)
theorem sw_wi_le (q : Wk → Bool) : ∀ ws : List Wk, sw q ws (ws.map Wk.wi) ≤ (ws.length : Int)
  | [] => by simp [sw]
  | w :: ws => by
    have ih := sw_wi_le q ws
    have hw : w.wi ≤ 1 := by unfold Wk.wi; split <;> omega
    have hn := wi_nn w
    show (if q w = true then w.wi else 0) + sw q ws (ws.map Wk.wi) ≤ _
    rw [List.length_cons]
    split <;> omega
theorem few_start_le {d : Day} (ok : d.Ok) {W : List Int} (hW : W.length = d.P) (wn : ∀ p, 0 ≤ W.getD p 0) (p : Nat) : (fewest d W).2.1.getD p 0 ≤ W.getD p 0 + (d.ws.length : Int) := by
  have g := settled_good ok (zeros_length d) hW (fun p => by rw [zeros_getD]; exact Int.le_refl _) wn
  have e := addL_zeros (d := d) g.1.len
  show (addL (zeros d) (settled d (zeros d) W).more).getD p 0 ≤ _
  rw [e]
  have h1 := settle_leP (d := d) (G := zeros d) (W := W) p (flow0 d W).more.sum.toNat (flow0 d W)
  have h2 := (more0 d.ws W (fun w hw => by rw [hW]; exact ok.b w hw)).2 p
  have h3 := sw_wi_le (fun w => decide (w.b = p)) d.ws
  have h4 : (flow0 d W).more.getD p 0 = W.getD p 0 + sw (fun w => decide (w.b = p)) d.ws (d.ws.map Wk.wi) := h2
  have h5 : (settled d (zeros d) W).more.getD p 0 ≤ (flow0 d W).more.getD p 0 := h1
  omega
end Dry

/-! Walks over zip of two or three sequences, each a list or a tuple, and over enumerate of either. -/
namespace HX
open PySem PySem.Spec PyProof.Rows L2

def SqB (K : PySem.W.Frag) (b : Bool) (H : Hp) (a : Addr) (xs : List V) : Prop := if b = true then SqT K H a xs else SqL K H a xs
def IterB (b : Bool) (h : Heap) (it a : Addr) (i : Nat) : Prop := if b = true then h.IsTupleIter it a i else h.IsListIter it a i
def ItemsB (b : Bool) (h : Heap) (a : Addr) (items : Array Value) : Prop := if b = true then h.IsTuple a items else h.IsList a items

theorem IterB.at {b : Bool} {h h' : Heap} {it a : Addr} {i : Nat} (x : IterB b h it a i) (k : ∀ o, h.get? it = some o → h'.get? it = some o) : IterB b h' it a i := by
  cases b
  · exact Heap.IsListIter.at (show h.IsListIter it a i from x) k
  · exact Heap.IsTupleIter.at (show h.IsTupleIter it a i from x) k
theorem IterB.obj {b : Bool} {h : Heap} {it a : Addr} {i : Nat} (x : IterB b h it a i) : ∃ o, h.get? it = some o ∧ ∀ v, o.data ≠ .cell v := by
  cases b
  · obtain ⟨o, e, _, d⟩ := (show h.IsListIter it a i from x)
    exact ⟨o, e, fun v q => by rw [d] at q; cases q⟩
  · obtain ⟨o, e, _, d⟩ := (show h.IsTupleIter it a i from x)
    exact ⟨o, e, fun v q => by rw [d] at q; cases q⟩
theorem drawsB {prog : Program} {w : World} {A : Around} (hh : A.handled = none) (b : Bool) (it l : Addr) (hne : l ≠ it) (items : Array Value) :
    Draws prog w A it [it, l] items.size (fun i v => items[i]? = some v) (fun i h => IterB b h it l i ∧ ItemsB b h l items) := by
  cases b
  · exact Draws.list hh it l hne items
  · exact Draws.tuple hh it l hne items
def iterObj (b : Bool) (l : Addr) : Obj := { cls := .type (if b = true then "tuple_iterator" else "list_iterator"), data := .fields #[.ref l, .int 0 0] }
theorem beginsB (b : Bool) (l : Addr) (items : Array Value) : Begins (.ref l) (iterObj b l) fun h => ItemsB b h l items := by
  cases b
  · exact begins_list l items
  · exact begins_tuple l items
theorem iterB0 {b : Bool} {l it : Addr} {h : Heap} (e : h.get? it = some (iterObj b l)) : IterB b h it l 0 := by
  cases b
  · exact ⟨_, e, rfl, rfl⟩
  · exact ⟨_, e, rfl, rfl⟩
theorem seqB {X : Cx} {pins : List (Addr × Obj)} {σ : L2.St} {H : Hp} {s : Shared} {b : Bool} {a : Addr} {xs : List V} (I : Inv X pins σ H s) (h : SqB X.K b H a xs) :
    ∃ its : List Value, Vals xs its ∧ ItemsB b s.heap a its.toArray ∧ a < s.heap.objs.size := by
  cases b
  · obtain ⟨its, rv, p, _⟩ := I.list (show SqL X.K H a xs from h)
    exact ⟨its, rv, p.isList, p.lt⟩
  · obtain ⟨its, rv, p, _⟩ := I.tuple (show SqT X.K H a xs from h)
    exact ⟨its, rv, p, p.lt⟩

theorem ne_iter {X : Cx} {pins : List (Addr × Obj)} {σ : L2.St} {H : Hp} {s : Shared} {b : Bool} {a it : Addr} {xs : List V} {i : Nat} (I : Inv X pins σ H s) (h : SqB X.K b H a xs) (hi : IterB b s.heap it a i) (hn : H it = none) : a ≠ it := fun e => by
  subst e
  cases b
  · rcases (show SqL X.K H a xs from h) with (q | ⟨_, q⟩) | ⟨ob, _, _, q, qc, _⟩
    · rw [q] at hn; cases hn
    · rw [q] at hn; cases hn
    · obtain ⟨o2, e2, c2, _⟩ := (show s.heap.IsListIter a a i from hi)
      have := I.kIn a ob q
      rw [e2] at this; cases this
      rw [c2] at qc
      injection qc with qc
      exact absurd qc (by decide)
  · rcases (show SqT X.K H a xs from h) with (q | ⟨_, q⟩) | ⟨ob, _, _, q, qc, _⟩
    · rw [q] at hn; cases hn
    · rw [q] at hn; cases hn
    · obtain ⟨o2, e2, c2, _⟩ := (show s.heap.IsTupleIter a a i from hi)
      have := I.kIn a ob q
      rw [e2] at this; cases this
      rw [c2] at qc
      injection qc with qc
      exact absurd qc (by decide)

/-! ### zip of two -/
def Itz2 (K : PySem.W.Frag) (b1 b2 : Bool) (a b : Addr) (xs ys : List V) : It :=
  ⟨fun i H => SqB K b1 H a xs ∧ SqB K b2 H b ys ∧ i < xs.length ∧ i < ys.length,
    fun i H v H' => ∃ T x y, v = .ref T ∧ H T = none ∧ H' = upd H T (.tup [x, y]) ∧ xs[i]? = some x ∧ ys[i]? = some y,
    fun i H => SqB K b1 H a xs ∧ SqB K b2 H b ys ∧ i ≤ xs.length ∧ i ≤ ys.length ∧ (i = xs.length ∨ i = ys.length)⟩
theorem turn_zip2 {P : Program} {w : World} {K : PySem.W.Frag} {elts : List Expr} {kk : Nat} {tpos : Pos} {b1 b2 : Bool} {a b z TI TO i1 i2 : Addr} {xs ys : List V} (D : ZipSep2 z TI TO i1 i2 [i1, a] [i2, b]) :
    Turn P w K (.Tuple elts kk tpos) (Itz2 K b1 b2 a b xs ys) [z, TI, TO, i1, i2] z (fun i h => IsZip h z TI TO .none ∧ IsTupOf2 h TI (.ref i1) (.ref i2) ∧ (∃ x y, IsTupOf2 h TO x y) ∧ IterB b1 h i1 a i ∧ IterB b2 h i2 b i) where
  mem := by simp
  obj := fun i h st c hc => by
    obtain ⟨hz, hTI, ⟨x, y, hTO⟩, h1, h2⟩ := st
    have e' : c = z ∨ c = TI ∨ c = TO ∨ c = i1 ∨ c = i2 := by simpa using hc
    rcases e' with q | q | q | q | q
    · rw [q]; exact ⟨_, hz, fun v q => nomatch q⟩
    · rw [q]; exact ⟨_, hTI, fun v q => nomatch q⟩
    · rw [q]; exact ⟨_, hTO, fun v q => nomatch q⟩
    · rw [q]; exact h1.obj
    · rw [q]; exact h2.obj
  keep := fun i h h' st k => by
    obtain ⟨hz, hTI, ⟨x, y, hTO⟩, h1, h2⟩ := st
    exact ⟨k z (by simp) _ hz, k TI (by simp) _ hTI, ⟨x, y, k TO (by simp) _ hTO⟩, h1.at fun o q => k i1 (by simp) o q, h2.at fun o q => k i2 (by simp) o q⟩
  item := by
    intro X hP hw hK hc i pins s σ H E I hf st hg
    subst hP hw hK
    obtain ⟨hz, hTI, ⟨x0, y0, hTO⟩, h1, h2⟩ := st
    obtain ⟨hqx, hqy, hlx, hly⟩ := hg
    obtain ⟨its, rv, p, _⟩ := seqB I hqx
    obtain ⟨its2, rv2, p2, _⟩ := seqB I hqy
    have hx : xs[i]? = some xs[i] := List.getElem?_eq_getElem hlx
    have hy : ys[i]? = some ys[i] := List.getElem?_eq_getElem hly
    obtain ⟨u, hu, ru⟩ := rv.get hx
    obtain ⟨u2, hu2, ru2⟩ := rv2.get hy
    have hh : X.A.in1.handled = none := I.ok.hd hc
    have hzl : z < s.heap.objs.size := Heap.lt_size hz
    have n1 : a ≠ i1 := ne_iter I hqx h1 (hf i1 (by simp)).1
    have n2 : b ≠ i2 := ne_iter I hqy h2 (hf i2 (by simp)).1
    have L1 : i < its.toArray.size := by simp; have := rv.length; omega
    have L2' : i < its2.toArray.size := by simp; have := rv2.length; omega
    refine wpAny_pyNext_zipD2_item D (drawsB hh b1 i1 a n1 its.toArray) (drawsB hh b2 i2 b n2 its2.toArray) hz hTI hTO ⟨h1, p⟩ ⟨h2, p2⟩ L1 L2' fun x1 x2 h' tk hP1 hP2 z' TO' st1 st2 hT hsz hk => ?_
    have ex1 : x1 = u := by
      have : its.toArray[i]? = some u := by simpa using hu
      rw [this] at hP1; exact (Option.some.inj hP1).symm
    have ex2 : x2 = u2 := by
      have : its2.toArray[i]? = some u2 := by simpa using hu2
      rw [this] at hP2; exact (Option.some.inj hP2).symm
    subst ex1; subst ex2
    refine ⟨_, rfl, wpAny_letOwnedTupleGo_zip (s := { s with heap := h', toks := tk }) z' fun h'' z'' sb => ?_⟩
    have hT2 : h''.get? s.heap.objs.size = some { cls := .type "tuple", data := .seq #[x1, x2] } := (sb.2 _ (Nat.ne_of_gt hzl)).trans hT
    have new : ObjOk X.prog X.w (upd H s.heap.objs.size (.tup [xs[i], ys[i]])) h'' s.heap.objs.size (.tup [xs[i], ys[i]]) :=
      ⟨by show 2 ≤ sizeLine; decide, [x1, x2], .cons ru (.cons ru2 .nil), ⟨_, hT2, rfl, _, rfl⟩⟩
    have I1 : Inv X pins σ (upd H s.heap.objs.size (.tup [xs[i], ys[i]])) { s with heap := h'', toks := tk } :=
      I.turnedNew (t' := tk) (ch := [z, TI, TO, i1, i2]) (fun c o hb q => (sb.2 c (fun q' => hb (by simp [q']))).trans (hk c o (fun q' => hb (by simp [q'])) (fun q' => hb (by simp [q'])) (fun q' => hb (by simp [q'])) (fun q' => hb (by simp [q'])) q)) hf (Nat.le_refl _) new
    refine ⟨.ref s.heap.objs.size, _, I1, rfl, ⟨_, xs[i], ys[i], rfl, I.hok.fresh (Nat.le_refl _), rfl, hx, hy⟩, ⟨z'', ?_, ⟨x1, x2, ?_⟩, ?_, ?_⟩, fun c hcm => ?_⟩
    · exact (sb.2 _ D.TIz).trans (hk _ _ D.TIz D.TITO D.TIi1 D.TIi2 hTI)
    · exact (sb.2 _ D.TOz).trans TO'
    · exact st1.1.at fun o q => (sb.2 _ D.zi1.symm).trans q
    · exact st2.1.at fun o q => (sb.2 _ D.zi2.symm).trans q
    · have hlt : c < s.heap.objs.size := by
        have e' : c = z ∨ c = TI ∨ c = TO ∨ c = i1 ∨ c = i2 := by simpa using hcm
        rcases e' with q | q | q | q | q
        · rw [q]; exact hzl
        · rw [q]; exact Heap.lt_size hTI
        · rw [q]; exact Heap.lt_size hTO
        · rw [q]; obtain ⟨_, e1, _⟩ := h1.obj; exact Heap.lt_size e1
        · rw [q]; obtain ⟨_, e2, _⟩ := h2.obj; exact Heap.lt_size e2
      rw [upd_ne (Nat.ne_of_lt hlt)]
      exact (hf c hcm).1
  done := by
    intro X hP hw hK hc i pins s σ H E I hf st hg
    subst hP hw hK
    obtain ⟨hz, hTI, ⟨x0, y0, hTO⟩, h1, h2⟩ := st
    obtain ⟨hqx, hqy, hlx, hly, hend⟩ := hg
    obtain ⟨its, rv, p, la⟩ := seqB I hqx
    obtain ⟨its2, rv2, p2, lb⟩ := seqB I hqy
    have l1 := rv.length
    have l2 := rv2.length
    have hh : X.A.in1.handled = none := I.ok.hd hc
    have n1 : a ≠ i1 := ne_iter I hqx h1 (hf i1 (by simp)).1
    have n2 : b ≠ i2 := ne_iter I hqy h2 (hf i2 (by simp)).1
    refine wpAny_pyNext_zipD2_end D (drawsB hh b1 i1 a n1 its.toArray) (drawsB hh b2 i2 b n2 its2.toArray) hz hTI hTO ⟨h1, p⟩ ⟨h2, p2⟩ (by simp; omega) (by simp; omega) (by simp; omega) fun h' tk hk =>
      ⟨rfl, I.turnedL (t' := tk) (ch := [z, TI, TO, i1, i2]) (fun c o hb q => hk c o (fun q' => hb (by simp [q'])) (fun q' => hb (by simp [q'])) (fun q' => hb (by simp [q'])) (fun q' => hb (by simp [q'])) q) hf⟩
  self := fun A i s Q E st h => wpAny_pyIter_zip st.1 h

def iZip2 (K : PySem.W.Frag) (ta : TA) : TI := fun σ H R => ta σ H fun vs H1 => ∃ b1 b2 a b xs ys, vs = [.ref a, .ref b] ∧ SqB K b1 H1 a xs ∧ SqB K b2 H1 b ys ∧ R (Itz2 K b1 b2 a b xs ys) H1
theorem pi_zip2 {X : Cx} {e e2 : Expr} {ta : TA} {p pos tpos : Pos} {elts : List Expr} {kk : Nat} (hg : Gl X "zip") (hm : X.mg "zip" = none) (ha : PA X [e, e2] ta)
    (hs : starEach [e, e2] X.env = (false, eval e X.env) :: starEach [e2] X.env := by rfl) (hpl : (backTo pos (starEach [e2] X.env)).any (·.1) = false := by rfl) :
    PI X (.Tuple elts kk tpos) (.Call (.Name "zip" p) [e, e2] [] pos) (iZip2 X.K ta) := by
  refine ⟨fun pins s σ H R I h => ?_⟩
  refine Call_ (ld_blt I hg hm PyProof.Rows.boot_zip (PyProof.Rows.callWith_type1 (thn (ha.run pos pins s σ H _ I h) fun us s1 ⟨vs, H1, I1, r1, q1⟩ => ?_) hs hpl))
  obtain ⟨b1, b2, a, b, xs, ys, ex, hqx, hqy, q⟩ := q1
  subst ex
  cases r1 with
  | cons r rr =>
    cases rr with
    | cons r' rr =>
      cases rr
      cases r
      cases r'
      have fresh5 : ∀ c, c ∈ [s1.heap.objs.size + 4, s1.heap.objs.size + 2, s1.heap.objs.size + 3, s1.heap.objs.size, s1.heap.objs.size + 1] → FpOk X pins H1 c := fun c hcm => by
        have e' : c = s1.heap.objs.size + 4 ∨ c = s1.heap.objs.size + 2 ∨ c = s1.heap.objs.size + 3 ∨ c = s1.heap.objs.size ∨ c = s1.heap.objs.size + 1 := by simpa using hcm
        have hle : s1.heap.objs.size ≤ c := by
          rcases e' with z | z | z | z | z
          · rw [z]; exact Nat.le_add_right _ _
          · rw [z]; exact Nat.le_add_right _ _
          · rw [z]; exact Nat.le_add_right _ _
          · rw [z]; exact Nat.le_refl _
          · rw [z]; exact Nat.le_add_right _ _
        exact I1.fpOk hle (I1.hok.fresh hle)
      obtain ⟨its, rv, p1, la⟩ := seqB I1 hqx
      obtain ⟨its2, rv2, p2, lb⟩ := seqB I1 hqy
      refine zip_begins2 (beginsB b1 a its.toArray) (beginsB b2 b its2.toArray) p1 p2 fun h' hz hTI hTO h1 h2 hsz hk => wpAny_pyIter_zip hz ?_
      have I2 : Inv X pins σ H1 { s1 with heap := h' } := I1.kept (t' := s1.toks) hk
      exact ⟨s1.heap.objs.size + 4, [s1.heap.objs.size + 4, s1.heap.objs.size + 2, s1.heap.objs.size + 3, s1.heap.objs.size, s1.heap.objs.size + 1], _, _, H1, rfl, I2,
        turn_zip2 (zip_sep2 (fp1 := [a]) (fp2 := [b]) (fun c hc => by simp at hc; rw [hc]; exact la) (fun c hc => by simp at hc; rw [hc]; exact lb)), ⟨hz, hTI, ⟨_, _, hTO⟩, iterB0 h1, iterB0 h2⟩, fresh5, q⟩
theorem walk_zip2 {K : PySem.W.Frag} {b1 b2 : Bool} {a b : Addr} {xs ys : List V} {n : Nat} (hx : xs.length = n) (hy : ys.length = n) :
    Walk (Itz2 K b1 b2 a b xs ys) n (fun H => SqB K b1 H a xs ∧ SqB K b2 H b ys) (YPair (fun i => xs[i]?) (fun i => ys[i]?)) :=
  ⟨fun i _ hi q => ⟨q.1, q.2, by omega, by omega⟩, fun _ q => ⟨q.1, q.2, by omega, by omega, by omega⟩, fun i H v H' _ q y => by
    obtain ⟨T, x, z, h1, h2, h3, h4, h5⟩ := y
    exact ⟨T, x, z, h1, h2, h3, h4, h5⟩⟩

/-! ### zip of three -/
def Itz3 (K : PySem.W.Frag) (b1 b2 b3 : Bool) (a b c : Addr) (xs ys zs : List V) : It :=
  ⟨fun i H => SqB K b1 H a xs ∧ SqB K b2 H b ys ∧ SqB K b3 H c zs ∧ i < xs.length ∧ i < ys.length ∧ i < zs.length,
    fun i H v H' => ∃ T x y z, v = .ref T ∧ H T = none ∧ H' = upd H T (.tup [x, y, z]) ∧ xs[i]? = some x ∧ ys[i]? = some y ∧ zs[i]? = some z,
    fun i H => SqB K b1 H a xs ∧ SqB K b2 H b ys ∧ SqB K b3 H c zs ∧ i ≤ xs.length ∧ i ≤ ys.length ∧ i ≤ zs.length ∧ (i = xs.length ∨ i = ys.length ∨ i = zs.length)⟩
theorem turn_zip3 {P : Program} {w : World} {K : PySem.W.Frag} {elts : List Expr} {kk : Nat} {tpos : Pos} {b1 b2 b3 : Bool} {a b c z TI TO i1 i2 i3 : Addr} {xs ys zs : List V} (D : ZipSep3 z TI TO i1 i2 i3 [i1, a] [i2, b] [i3, c]) :
    Turn P w K (.Tuple elts kk tpos) (Itz3 K b1 b2 b3 a b c xs ys zs) [z, TI, TO, i1, i2, i3] z (fun i h => IsZip h z TI TO .none ∧ IsTupOf3 h TI (.ref i1) (.ref i2) (.ref i3) ∧ (∃ x y u, IsTupOf3 h TO x y u) ∧ IterB b1 h i1 a i ∧ IterB b2 h i2 b i ∧ IterB b3 h i3 c i) where
  mem := by simp
  obj := fun i h st c hc => by
    obtain ⟨hz, hTI, ⟨x, y, u, hTO⟩, h1, h2, h3⟩ := st
    have e' : c = z ∨ c = TI ∨ c = TO ∨ c = i1 ∨ c = i2 ∨ c = i3 := by simpa using hc
    rcases e' with q | q | q | q | q | q
    · rw [q]; exact ⟨_, hz, fun v q => nomatch q⟩
    · rw [q]; exact ⟨_, hTI, fun v q => nomatch q⟩
    · rw [q]; exact ⟨_, hTO, fun v q => nomatch q⟩
    · rw [q]; exact h1.obj
    · rw [q]; exact h2.obj
    · rw [q]; exact h3.obj
  keep := fun i h h' st k => by
    obtain ⟨hz, hTI, ⟨x, y, u, hTO⟩, h1, h2, h3⟩ := st
    exact ⟨k z (by simp) _ hz, k TI (by simp) _ hTI, ⟨x, y, u, k TO (by simp) _ hTO⟩, h1.at fun o q => k i1 (by simp) o q, h2.at fun o q => k i2 (by simp) o q, h3.at fun o q => k i3 (by simp) o q⟩
  item := by
    intro X hP hw hK hc i pins s σ H E I hf st hg
    subst hP hw hK
    obtain ⟨hz, hTI, ⟨x0, y0, u0, hTO⟩, h1, h2, h3⟩ := st
    obtain ⟨hqx, hqy, hqz, hlx, hly, hlz⟩ := hg
    obtain ⟨its, rv, p, _⟩ := seqB I hqx
    obtain ⟨its2, rv2, p2, _⟩ := seqB I hqy
    obtain ⟨its3, rv3, p3, _⟩ := seqB I hqz
    have hx : xs[i]? = some xs[i] := List.getElem?_eq_getElem hlx
    have hy : ys[i]? = some ys[i] := List.getElem?_eq_getElem hly
    have hw : zs[i]? = some zs[i] := List.getElem?_eq_getElem hlz
    obtain ⟨u, hu, ru⟩ := rv.get hx
    obtain ⟨u2, hu2, ru2⟩ := rv2.get hy
    obtain ⟨u3, hu3, ru3⟩ := rv3.get hw
    have hh : X.A.in1.handled = none := I.ok.hd hc
    have hzl : z < s.heap.objs.size := Heap.lt_size hz
    have n1 : a ≠ i1 := ne_iter I hqx h1 (hf i1 (by simp)).1
    have n2 : b ≠ i2 := ne_iter I hqy h2 (hf i2 (by simp)).1
    have n3 : c ≠ i3 := ne_iter I hqz h3 (hf i3 (by simp)).1
    have L1 : i < its.toArray.size := by simp; have := rv.length; omega
    have L2' : i < its2.toArray.size := by simp; have := rv2.length; omega
    have L3 : i < its3.toArray.size := by simp; have := rv3.length; omega
    refine wpAny_pyNext_zipD3_item D (drawsB hh b1 i1 a n1 its.toArray) (drawsB hh b2 i2 b n2 its2.toArray) (drawsB hh b3 i3 c n3 its3.toArray) hz hTI hTO ⟨h1, p⟩ ⟨h2, p2⟩ ⟨h3, p3⟩ L1 L2' L3 fun x1 x2 x3 h' tk hP1 hP2 hP3 z' TO' st1 st2 st3 hT hsz hk => ?_
    have ex1 : x1 = u := by
      have : its.toArray[i]? = some u := by simpa using hu
      rw [this] at hP1; exact (Option.some.inj hP1).symm
    have ex2 : x2 = u2 := by
      have : its2.toArray[i]? = some u2 := by simpa using hu2
      rw [this] at hP2; exact (Option.some.inj hP2).symm
    have ex3 : x3 = u3 := by
      have : its3.toArray[i]? = some u3 := by simpa using hu3
      rw [this] at hP3; exact (Option.some.inj hP3).symm
    subst ex1; subst ex2; subst ex3
    refine ⟨_, rfl, wpAny_letOwnedTupleGo_zip (s := { s with heap := h', toks := tk }) z' fun h'' z'' sb => ?_⟩
    have hT2 : h''.get? s.heap.objs.size = some { cls := .type "tuple", data := .seq #[x1, x2, x3] } := (sb.2 _ (Nat.ne_of_gt hzl)).trans hT
    have new : ObjOk X.prog X.w (upd H s.heap.objs.size (.tup [xs[i], ys[i], zs[i]])) h'' s.heap.objs.size (.tup [xs[i], ys[i], zs[i]]) :=
      ⟨by show 3 ≤ sizeLine; decide, [x1, x2, x3], .cons ru (.cons ru2 (.cons ru3 .nil)), ⟨_, hT2, rfl, _, rfl⟩⟩
    have I1 : Inv X pins σ (upd H s.heap.objs.size (.tup [xs[i], ys[i], zs[i]])) { s with heap := h'', toks := tk } :=
      I.turnedNew (t' := tk) (ch := [z, TI, TO, i1, i2, i3]) (fun c o hb q => (sb.2 c (fun q' => hb (by simp [q']))).trans (hk c o (fun q' => hb (by simp [q'])) (fun q' => hb (by simp [q'])) (fun q' => hb (by simp [q'])) (fun q' => hb (by simp [q'])) (fun q' => hb (by simp [q'])) q)) hf (Nat.le_refl _) new
    refine ⟨.ref s.heap.objs.size, _, I1, rfl, ⟨_, xs[i], ys[i], zs[i], rfl, I.hok.fresh (Nat.le_refl _), rfl, hx, hy, hw⟩, ⟨z'', ?_, ⟨x1, x2, x3, ?_⟩, ?_, ?_, ?_⟩, fun c hcm => ?_⟩
    · exact (sb.2 _ D.TIz).trans (hk _ _ D.TIz D.TITO D.TIi1 D.TIi2 D.TIi3 hTI)
    · exact (sb.2 _ D.TOz).trans TO'
    · exact st1.1.at fun o q => (sb.2 _ D.zi1.symm).trans q
    · exact st2.1.at fun o q => (sb.2 _ D.zi2.symm).trans q
    · exact st3.1.at fun o q => (sb.2 _ D.zi3.symm).trans q
    · have hlt : c < s.heap.objs.size := by
        have e' : c = z ∨ c = TI ∨ c = TO ∨ c = i1 ∨ c = i2 ∨ c = i3 := by simpa using hcm
        rcases e' with q | q | q | q | q | q
        · rw [q]; exact hzl
        · rw [q]; exact Heap.lt_size hTI
        · rw [q]; exact Heap.lt_size hTO
        · rw [q]; obtain ⟨_, e1, _⟩ := h1.obj; exact Heap.lt_size e1
        · rw [q]; obtain ⟨_, e2, _⟩ := h2.obj; exact Heap.lt_size e2
        · rw [q]; obtain ⟨_, e2, _⟩ := h3.obj; exact Heap.lt_size e2
      rw [upd_ne (Nat.ne_of_lt hlt)]
      exact (hf c hcm).1
  done := by
    intro X hP hw hK hc i pins s σ H E I hf st hg
    subst hP hw hK
    obtain ⟨hz, hTI, ⟨x0, y0, u0, hTO⟩, h1, h2, h3⟩ := st
    obtain ⟨hqx, hqy, hqz, hlx, hly, hlz, hend⟩ := hg
    obtain ⟨its, rv, p, la⟩ := seqB I hqx
    obtain ⟨its2, rv2, p2, lb⟩ := seqB I hqy
    obtain ⟨its3, rv3, p3, lc⟩ := seqB I hqz
    have l1 := rv.length
    have l2 := rv2.length
    have l3 := rv3.length
    have hh : X.A.in1.handled = none := I.ok.hd hc
    have n1 : a ≠ i1 := ne_iter I hqx h1 (hf i1 (by simp)).1
    have n2 : b ≠ i2 := ne_iter I hqy h2 (hf i2 (by simp)).1
    have n3 : c ≠ i3 := ne_iter I hqz h3 (hf i3 (by simp)).1
    refine wpAny_pyNext_zipD3_end D (drawsB hh b1 i1 a n1 its.toArray) (drawsB hh b2 i2 b n2 its2.toArray) (drawsB hh b3 i3 c n3 its3.toArray) hz hTI hTO ⟨h1, p⟩ ⟨h2, p2⟩ ⟨h3, p3⟩ (by simp; omega) (by simp; omega) (by simp; omega) (by simp; omega) fun h' tk hk =>
      ⟨rfl, I.turnedL (t' := tk) (ch := [z, TI, TO, i1, i2, i3]) (fun c o hb q => hk c o (fun q' => hb (by simp [q'])) (fun q' => hb (by simp [q'])) (fun q' => hb (by simp [q'])) (fun q' => hb (by simp [q'])) (fun q' => hb (by simp [q'])) q) hf⟩
  self := fun A i s Q E st h => wpAny_pyIter_zip st.1 h

def iZip3 (K : PySem.W.Frag) (ta : TA) : TI := fun σ H R => ta σ H fun vs H1 => ∃ b1 b2 b3 a b c xs ys zs, vs = [.ref a, .ref b, .ref c] ∧ SqB K b1 H1 a xs ∧ SqB K b2 H1 b ys ∧ SqB K b3 H1 c zs ∧ R (Itz3 K b1 b2 b3 a b c xs ys zs) H1
theorem pi_zip3 {X : Cx} {e e2 e3 : Expr} {ta : TA} {p pos tpos : Pos} {elts : List Expr} {kk : Nat} (hg : Gl X "zip") (hm : X.mg "zip" = none) (ha : PA X [e, e2, e3] ta)
    (hs : starEach [e, e2, e3] X.env = (false, eval e X.env) :: starEach [e2, e3] X.env := by rfl) (hpl : (backTo pos (starEach [e2, e3] X.env)).any (·.1) = false := by rfl) :
    PI X (.Tuple elts kk tpos) (.Call (.Name "zip" p) [e, e2, e3] [] pos) (iZip3 X.K ta) := by
  refine ⟨fun pins s σ H R I h => ?_⟩
  refine Call_ (ld_blt I hg hm PyProof.Rows.boot_zip (PyProof.Rows.callWith_type1 (thn (ha.run pos pins s σ H _ I h) fun us s1 ⟨vs, H1, I1, r1, q1⟩ => ?_) hs hpl))
  obtain ⟨b1, b2, b3, a, b, c, xs, ys, zs, ex, hqx, hqy, hqz, q⟩ := q1
  subst ex
  cases r1 with
  | cons r rr =>
    cases rr with
    | cons r' rr =>
      cases rr with
      | cons r'' rr =>
        cases rr
        cases r
        cases r'
        cases r''
        have fresh6 : ∀ c, c ∈ [s1.heap.objs.size + 5, s1.heap.objs.size + 3, s1.heap.objs.size + 4, s1.heap.objs.size, s1.heap.objs.size + 1, s1.heap.objs.size + 2] → FpOk X pins H1 c := fun c hcm => by
          have e' : c = s1.heap.objs.size + 5 ∨ c = s1.heap.objs.size + 3 ∨ c = s1.heap.objs.size + 4 ∨ c = s1.heap.objs.size ∨ c = s1.heap.objs.size + 1 ∨ c = s1.heap.objs.size + 2 := by simpa using hcm
          have hle : s1.heap.objs.size ≤ c := by
            rcases e' with z | z | z | z | z | z
            · rw [z]; exact Nat.le_add_right _ _
            · rw [z]; exact Nat.le_add_right _ _
            · rw [z]; exact Nat.le_add_right _ _
            · rw [z]; exact Nat.le_refl _
            · rw [z]; exact Nat.le_add_right _ _
            · rw [z]; exact Nat.le_add_right _ _
          exact I1.fpOk hle (I1.hok.fresh hle)
        obtain ⟨its, rv, p1, la⟩ := seqB I1 hqx
        obtain ⟨its2, rv2, p2, lb⟩ := seqB I1 hqy
        obtain ⟨its3, rv3, p3, lc⟩ := seqB I1 hqz
        refine zip_begins3 (beginsB b1 a its.toArray) (beginsB b2 b its2.toArray) (beginsB b3 c its3.toArray) p1 p2 p3 fun h' hz hTI hTO h1 h2 h3 hsz hk => wpAny_pyIter_zip hz ?_
        have I2 : Inv X pins σ H1 { s1 with heap := h' } := I1.kept (t' := s1.toks) hk
        exact ⟨s1.heap.objs.size + 5, [s1.heap.objs.size + 5, s1.heap.objs.size + 3, s1.heap.objs.size + 4, s1.heap.objs.size, s1.heap.objs.size + 1, s1.heap.objs.size + 2], _, _, H1, rfl, I2,
          turn_zip3 (zip_sep3 (fp1 := [a]) (fp2 := [b]) (fp3 := [c]) (fun d hc => by simp at hc; rw [hc]; exact la) (fun d hc => by simp at hc; rw [hc]; exact lb) (fun d hc => by simp at hc; rw [hc]; exact lc)), ⟨hz, hTI, ⟨_, _, _, hTO⟩, iterB0 h1, iterB0 h2, iterB0 h3⟩, fresh6, q⟩
/-- a new triple -/
def YTrip (xs ys zs : Nat → Option V) : Nat → Hp → V → Hp → Prop := fun i H v H' => ∃ T x y z, v = .ref T ∧ H T = none ∧ H' = upd H T (.tup [x, y, z]) ∧ xs i = some x ∧ ys i = some y ∧ zs i = some z
theorem walk_zip3 {K : PySem.W.Frag} {b1 b2 b3 : Bool} {a b c : Addr} {xs ys zs : List V} {n : Nat} (hx : xs.length = n) (hy : ys.length = n) (hz : zs.length = n) :
    Walk (Itz3 K b1 b2 b3 a b c xs ys zs) n (fun H => SqB K b1 H a xs ∧ SqB K b2 H b ys ∧ SqB K b3 H c zs) (YTrip (fun i => xs[i]?) (fun i => ys[i]?) (fun i => zs[i]?)) :=
  ⟨fun i _ hi q => ⟨q.1, q.2.1, q.2.2, by omega, by omega, by omega⟩, fun _ q => ⟨q.1, q.2.1, q.2.2, by omega, by omega, by omega, by omega⟩, fun i H v H' _ q y => y⟩

theorem meets_enumerate_newT (l : Addr) (items : Array Value) (n : Nat) (dct : Option Addr) (sl : Array (Option Value)) :
    Meets (Builtin.«enumerate.__new__» ⟨[.type "enumerate", .ref l], []⟩) (fun _ R s => s.heap.get? l = some { cls := .type "tuple", dict := dct, data := .seq items n, slots := sl } ∧
      R (.ok (.ret (.ref (s.heap.push { cls := .type "tuple_iterator", data := .fields #[.ref l, .int 0 0] }).objs.size)))
        { s with heap := (s.heap.push { cls := .type "tuple_iterator", data := .fields #[.ref l, .int 0 0] }).push { cls := .type "enumerate", data := .fields #[.none, .bool false, .ref s.heap.objs.size, rawInt 0, .none, .none] } }) :=
  .of_wp fun prog w A R s h => by
    obtain ⟨hp, g, d, tk, os⟩ := s; obtain ⟨hl, h⟩ := h
    have hsub := sub_enumerate
    have hL : Heap.IsTuple (Shared.heap ⟨hp, g, d, tk, os⟩) l items := ⟨_, hl, rfl, n, rfl⟩
    wp_walk using AutoSeq1.wpAny_loadPart' hl
    refine wpAny_stack_any fun st => wpAny_pure ?_
    split
    · rename_i c _ _ _ _ _
      cases (c == Value.type "enumerate")
      · wp_walk using AutoSeq1.wpAny_loadPart' hl, wpAny_pyIter_tuple hL
        exact ⟨_, rfl, h⟩
      · wp_walk using AutoSeq1.wpAny_loadPart' hl, wpAny_pyIter_tuple hL
        exact ⟨_, rfl, h⟩
    · wp_walk using AutoSeq1.wpAny_loadPart' hl, wpAny_pyIter_tuple hL
      exact ⟨_, rfl, h⟩
theorem call_enumerate_tuple {prog : Program} {w : World} {A : Around} {E : Value → Shared → Prop} {s : Shared} {l : Addr} {items : Array Value} {Q : Value → Shared → Prop} (hL : s.heap.IsTuple l items)
    (h : ∀ h', IsEnum h' (s.heap.objs.size + 1) s.heap.objs.size 0 .none → h'.IsTupleIter s.heap.objs.size l 0 → h'.objs.size = s.heap.objs.size + 2 →
      (∀ b o, s.heap.get? b = some o → h'.get? b = some o) → Q (.ref (s.heap.objs.size + 1)) { s with heap := h' }) :
    wpAny (model prog w) A (call (.type "enumerate") [.ref l]) Q E s := by
  obtain ⟨⟨c, dct, dt, sl⟩, hl, hc, n, hd⟩ := hL
  replace hc : c = .type "tuple" := hc
  replace hd : dt = .seq items n := hd
  subst hc hd
  refine callType_new F.called_enumerate (by decide) (F.typeCall_enumerate_1 _) (F.newCall_enumerate_1 _) (fun obj => F.args_object_init_2 obj _) F.entry_enumerate_new
    (meets_enumerate_newT l items n dct sl) ⟨hl, ?_⟩
  have hz : (s.heap.push { cls := .type "tuple_iterator", data := .fields #[.ref l, .int 0 0] }).objs.size = s.heap.objs.size + 1 := Heap.size_push ..
  show _ ∧ _
  rw [hz]
  have he : IsEnum ((s.heap.push { cls := .type "tuple_iterator", data := .fields #[.ref l, .int 0 0] }).push
      { cls := .type "enumerate", data := .fields #[.none, .bool false, .ref s.heap.objs.size, rawInt 0, .none, .none] }) (s.heap.objs.size + 1) s.heap.objs.size 0 .none := by
    have := Heap.get?_push_size (s.heap.push { cls := .type "tuple_iterator", data := .fields #[.ref l, .int 0 0] })
      (o := { cls := .type "enumerate", data := .fields #[.none, .bool false, .ref s.heap.objs.size, rawInt 0, .none, .none] }) rfl
    rw [hz] at this; exact this
  refine ⟨⟨_, he, rfl⟩, h _ he ⟨_, Heap.get?_push_of_some _ (Heap.get?_push_size _ rfl), rfl, rfl⟩ (by rw [Heap.size_push, hz]) fun b o x => Heap.get?_push_of_some _ (Heap.get?_push_of_some _ x)⟩

/-! ### enumerate -/
def IteB (K : PySem.W.Frag) (b : Bool) (a : Addr) (xs : List V) : It :=
  ⟨fun i H => SqB K b H a xs ∧ i < xs.length,
    fun i H v H' => ∃ T x, v = .ref T ∧ H T = none ∧ H' = upd H T (.tup [.int (i : Nat), x]) ∧ xs[i]? = some x,
    fun i H => SqB K b H a xs ∧ i = xs.length⟩
theorem pyNext_enum_endD {prog : Program} {w : World} {A : Around} {E : Value → Shared → Prop} {s : Shared} {e it : Addr} {fp : List Addr} {n : Nat} {P : Nat → Value → Prop} {St : Nat → Heap → Prop} (c : Int) (D : Draws prog w A.in1 it fp n P St) (hei : e ≠ it) (hef : e ∉ fp) (hif : it ∈ fp)
    {old : Value} (he : IsEnum s.heap e it (c + (n : Int)) old) (hst : St n s.heap) {Q : Option Value → Shared → Prop} (hQ : ∀ h' tk, (∀ b o, b ∉ [e, it] → s.heap.get? b = some o → h'.get? b = some o) → Q none { s with heap := h', toks := tk }) :
    wpAny (model prog w) A (pyNext (.ref e)) Q E s := by
  have W := Goes.enumFrom (prog := prog) (w := w) (A := A) (elts := []) (x1 := 0) (pos := ⟨0, 0, 0, 0⟩) c D e hei hef hif
  refine wpAny_mono (W.stops s (fun s' => Q none s') E ⟨⟨old, he⟩, hst⟩ fun h' tk hk _ => hQ h' tk hk) (fun r s' q => by rw [q.1]; exact q.2) (fun _ _ z => z)
theorem turn_enumB {P : Program} {w : World} {K : PySem.W.Frag} {elts : List Expr} {kk : Nat} {tpos : Pos} {b : Bool} {a e it : Addr} {xs : List V} (hei : e ≠ it) (hea : e ≠ a) :
    Turn P w K (.Tuple elts kk tpos) (IteB K b a xs) [e, it] e (fun i h => (∃ old, IsEnum h e it (0 + (i : Nat)) old) ∧ IterB b h it a i) where
  mem := by simp
  obj := fun i h st c hc => by
    obtain ⟨⟨old, he⟩, h1⟩ := st
    have e' : c = e ∨ c = it := by simpa using hc
    rcases e' with q | q
    · rw [q]; exact ⟨_, he, fun v q => nomatch q⟩
    · rw [q]; exact h1.obj
  keep := fun i h h' st k => by
    obtain ⟨⟨old, he⟩, h1⟩ := st
    exact ⟨⟨old, k e (by simp) _ he⟩, h1.at fun o q => k it (by simp) o q⟩
  item := by
    intro X hP hw hK hc i pins s σ H E I hf st hg
    subst hP hw hK
    obtain ⟨⟨old, he⟩, h1⟩ := st
    obtain ⟨hqx, hlx⟩ := hg
    obtain ⟨its, rv, p, _⟩ := seqB I hqx
    have hx : xs[i]? = some xs[i] := List.getElem?_eq_getElem hlx
    obtain ⟨u, hu, ru⟩ := rv.get hx
    have hh : X.A.in1.handled = none := I.ok.hd hc
    have n1 : a ≠ it := ne_iter I hqx h1 (hf it (by simp)).1
    have L1 : i < its.toArray.size := by simp; have := rv.length; omega
    have hel : e < s.heap.objs.size := Heap.lt_size he
    refine wpAny_pyNext_enum_itemC (drawsB hh b it a n1 its.toArray) he ⟨h1, p⟩ L1 hei (by simp [hei, hea]) fun x h' tk hP1 he' st1 hT hsz hk => ?_
    have ex1 : x = u := by
      have : its.toArray[i]? = some u := by simpa using hu
      rw [this] at hP1; exact (Option.some.inj hP1).symm
    subst ex1
    refine ⟨_, rfl, wpAny_letOwnedTupleGo_enum (s := { s with heap := h', toks := tk + 1 }) he' fun h'' he'' sb => ?_⟩
    have hT2 : h''.get? s.heap.objs.size = some { cls := .type "tuple", data := .seq #[.int (0 + (i : Nat)) tk, x] } := (sb.2 _ (Nat.ne_of_gt hel)).trans hT
    have e0 : (0 : Int) + ((i : Nat) : Int) = ((i : Nat) : Int) := Int.zero_add _
    have new : ObjOk X.prog X.w (upd H s.heap.objs.size (.tup [.int (i : Nat), xs[i]])) h'' s.heap.objs.size (.tup [.int (i : Nat), xs[i]]) :=
      ⟨by show 2 ≤ sizeLine; decide, [.int (0 + (i : Nat)) tk, x], .cons ⟨tk, by rw [e0]⟩ (.cons ru .nil), ⟨_, hT2, rfl, _, rfl⟩⟩
    have I1 : Inv X pins σ (upd H s.heap.objs.size (.tup [.int (i : Nat), xs[i]])) { s with heap := h'', toks := tk + 1 } :=
      I.turnedNew (t' := tk + 1) (ch := [e, it]) (fun c o hb q => (sb.2 c (fun q' => hb (by simp [q']))).trans (hk c o (fun q' => hb (by simp [q'])) (fun q' => hb (by simp [q'])) q)) hf (Nat.le_refl _) new
    refine ⟨.ref s.heap.objs.size, _, I1, rfl, ⟨_, xs[i], rfl, I.hok.fresh (Nat.le_refl _), rfl, hx⟩, ⟨⟨x, ?_⟩, ?_⟩, fun c hcm => ?_⟩
    · have e1 : (0 : Int) + ((i + 1 : Nat) : Int) = 0 + (i : Int) + 1 := by omega
      rw [e1]
      exact he''
    · exact st1.1.at fun o q => (sb.2 _ hei.symm).trans q
    · have hlt : c < s.heap.objs.size := by
        have e' : c = e ∨ c = it := by simpa using hcm
        rcases e' with q | q
        · rw [q]; exact hel
        · rw [q]; obtain ⟨_, e1, _⟩ := h1.obj; exact Heap.lt_size e1
      rw [upd_ne (Nat.ne_of_lt hlt)]
      exact (hf c hcm).1
  done := by
    intro X hP hw hK hc i pins s σ H E I hf st hg
    subst hP hw hK
    obtain ⟨⟨old, he⟩, h1⟩ := st
    obtain ⟨hqx, hlx⟩ := hg
    obtain ⟨its, rv, p, _⟩ := seqB I hqx
    have l1 := rv.length
    have hh : X.A.in1.handled = none := I.ok.hd hc
    have n1 : a ≠ it := ne_iter I hqx h1 (hf it (by simp)).1
    have en : i = its.toArray.size := by simp; omega
    subst en
    exact pyNext_enum_endD 0 (drawsB hh b it a n1 its.toArray) hei (by simp [hei, hea]) (by simp) he ⟨h1, p⟩ fun h' tk hk => ⟨rfl, I.turnedL (t' := tk) (ch := [e, it]) hk hf⟩
  self := fun A i s Q E st h => by
    obtain ⟨⟨old, he⟩, h1⟩ := st
    exact wpAny_pyIter_enum he h
def iEnumB (K : PySem.W.Frag) (ta : TA) : TI := fun σ H R => ta σ H fun vs H1 => ∃ b a xs, vs = [.ref a] ∧ SqB K b H1 a xs ∧ R (IteB K b a xs) H1
theorem pi_enumB {X : Cx} {e : Expr} {ta : TA} {p pos tpos : Pos} {elts : List Expr} {kk : Nat} (hg : Gl X "enumerate") (hm : X.mg "enumerate" = none) (ha : PA X [e] ta) (hs : starEach [e] X.env = [(false, eval e X.env)] := by rfl) :
    PI X (.Tuple elts kk tpos) (.Call (.Name "enumerate" p) [e] [] pos) (iEnumB X.K ta) := by
  refine ⟨fun pins s σ H R I h => ?_⟩
  refine Call_ (ld_blt I hg hm boot_enumerate (PyProof.Rows.callWith_type1 (thn (ha.run pos pins s σ H _ I h) fun us s1 ⟨vs, H1, I1, r1, q1⟩ => ?_) hs rfl))
  obtain ⟨b, a, xs, ex, hq, q⟩ := q1
  subst ex
  cases r1 with
  | cons r rr =>
    cases rr
    cases r
    have fr : ∀ c ∈ [s1.heap.objs.size + 1, s1.heap.objs.size], FpOk X pins H1 c := fun c hb => by
      have e' : c = s1.heap.objs.size + 1 ∨ c = s1.heap.objs.size := by simpa using hb
      have hle : s1.heap.objs.size ≤ c := by
        rcases e' with z | z
        · rw [z]; exact Nat.le_add_right _ _
        · rw [z]; exact Nat.le_refl _
      exact I1.fpOk hle (I1.hok.fresh hle)
    obtain ⟨its, rv, p', hlt⟩ := seqB I1 hq
    have nea : s1.heap.objs.size + 1 ≠ a := Nat.ne_of_gt (Nat.lt_of_lt_of_le hlt (Nat.le_add_right _ _))
    cases b
    · refine call_enumerate_list (show s1.heap.IsList a its.toArray from p') fun h' he hit hsz hk => wpAny_pyIter_enum he ?_
      have I2 : Inv X pins σ H1 { s1 with heap := h' } := I1.kept (t' := s1.toks) hk
      exact ⟨s1.heap.objs.size + 1, [s1.heap.objs.size + 1, s1.heap.objs.size], _, _, H1, rfl, I2, turn_enumB (b := false) (Nat.succ_ne_self _) nea, ⟨⟨.none, he⟩, hit⟩, fr, q⟩
    · refine call_enumerate_tuple (show s1.heap.IsTuple a its.toArray from p') fun h' he hit hsz hk => wpAny_pyIter_enum he ?_
      have I2 : Inv X pins σ H1 { s1 with heap := h' } := I1.kept (t' := s1.toks) hk
      exact ⟨s1.heap.objs.size + 1, [s1.heap.objs.size + 1, s1.heap.objs.size], _, _, H1, rfl, I2, turn_enumB (b := true) (Nat.succ_ne_self _) nea, ⟨⟨.none, he⟩, hit⟩, fr, q⟩
theorem walk_enumB {K : PySem.W.Frag} {b : Bool} {a : Addr} {xs : List V} : Walk (IteB K b a xs) xs.length (fun H => SqB K b H a xs) (YPair (fun i => some (.int (i : Nat))) (fun i => xs[i]?)) :=
  ⟨fun i _ hi q => ⟨q, hi⟩, fun _ q => ⟨q, rfl⟩, fun i H v H' _ q y => by
    obtain ⟨T, x, h1, h2, h3, h4⟩ := y
    exact ⟨T, .int (i : Nat), x, h1, h2, h3, rfl, h4⟩⟩

/-! ### a[i] += e of a list -/
theorem get_list {X : Cx} : PGet X (rIxL X.K) := by
  intro pins s σ H o i ov iv Q I ro ri h
  obtain ⟨p, items, k, v, rfl, rfl, hq, ha, q⟩ := h
  cases ro
  obtain ⟨t, rfl⟩ := ri
  obtain ⟨its, r, pl, hz⟩ := I.list hq
  obtain ⟨j, h1, h2, h3, h4, h5⟩ := atI_get ha
  obtain ⟨w, ew, rw'⟩ := r.get h2
  have hl := r.length
  have hn := line63
  have fin : EP X pins σ Q w s := ⟨v, H, I, rw', q⟩
  by_cases h0 : 0 ≤ k
  · have hj : k.toNat = j := by
      rw [seqIndex_of h0 h5] at h1
      exact Option.some.inj h1
    exact wpAny_getItem_list pl.isList h0 (by omega) (by rw [hj]; simpa using ew) fin
  · have hj : (k + (its.toArray.size : Int)).toNat = j := by
      rw [seqIndex_neg (by omega) h4] at h1
      rw [List.size_toArray, ← hl]
      exact Option.some.inj h1
    exact wpAny_getItem_list_neg pl.isList (by omega) (by rw [List.size_toArray] <;> omega) (by omega) (by rw [hj]; simpa using ew) fin
end HX

/-! Defs and methods with their promises in one bundle; readings step by step; facts carried along the heap. -/
namespace HX
open PySem PySem.Spec PyProof.Rows L2

/-! ### defs -/
structure Df (P : Program) (w : World) (K : PySem.W.Frag) (mg : Str → Option Value) (base : Heap) (x : Str) (k : Nat) (ps : List Str) (sp : Sp) : Prop where
  ex : ∃ f fd, FnOk P w K mg base CX0 k f fd ps sp ∧ mg x = some (.ref f) ∧ PySem.W.keepIn K (.ref f) = true ∧ Binds K fd ps []
theorem pe_df {X : Cx} {x : Str} {k : Nat} {ps : List Str} {sp : Sp} {e : Expr} {es : List Expr} {t : TA} {p pos : Pos} (D : Df X.prog X.w X.K X.mg X.base x k ps sp) (hr : Room k X.A) (hg : Gl X x) (ha : PA X (e :: es) t)
    (hdb : (x == ("__debug__" : Str)) = false := by decide) (he : starEach (e :: es) X.env = (false, eval e X.env) :: starEach es X.env := by rfl) (hpl : (backTo pos (starEach es X.env)).any (·.1) = false := by rfl) :
    PE X (.Call (.Name x p) (e :: es) [] pos) (tCall sp [] E0 t) := by
  obtain ⟨f, fd, F, hm, hk, hb⟩ := D.ex
  exact pe_call F hr hg hm hk hb .nil pass0 ha hdb he hpl
/-- a def of the text under its name -/
structure Has (K : PySem.W.Frag) (mg : Str → Option Value) (x : Str) (st : Stmt) : Prop where
  ex : ∃ f fd, Fun K x x st f fd ∧ mg x = some (.ref f)
theorem df_of {P : Program} {w : World} {K : PySem.W.Frag} {mg : Str → Option Value} {base : Heap} {x : Str} {st : Stmt} {k : Nat} {N ps : List Str} {sp : Sp} (F : Has K mg x st) (S : FnScope N ps (defScope st))
    (hb : ∀ (kV doc pm : Value) (an : Option Addr) (cdv ct : Value) (us : List Value), us.length = ps.length → bindArgs (PySem.W.fnOf x x (defArgs st) (defBody st) (defScope st) .none kV doc pm an cdv ct) ⟨us, []⟩ = pure (ps.zip us))
    (len : ∀ vs H Q E, sp vs H Q E → vs.length = ps.length)
    (hbody : ∀ (f : Addr) (cdv : Value) (A : Around) (outer : List Env) (s : Shared) (H : Hp) (vs : List V) (Q : VK) (E : XK), Room k (A.deeper (envOfC x (defScope st) s.heap.objs.size f cdv)) → sp vs H Q E →
      ∃ t, PSs (cxOf CX0 P w K mg base N x (defScope st) f cdv A outer s H E).nox (defBody st) t ∧ t { nx := fun _ H' => Q .non H', rt := Q } (start N vs) H) : Df P w K mg base x (k + 1) ps sp := by
  obtain ⟨f, fd, F, hm⟩ := F.ex
  exact ⟨f, fd, F.ok S len (hbody f), hm, F.kp, F.binds hb⟩
theorem Df.imp {P : Program} {w : World} {K : PySem.W.Frag} {mg : Str → Option Value} {base : Heap} {x : Str} {k : Nat} {ps : List Str} {sp sp' : Sp} (D : Df P w K mg base x k ps sp) (h : ∀ vs H Q E, sp' vs H Q E → sp vs H Q E) : Df P w K mg base x k ps sp' := by
  obtain ⟨f, fd, F, r⟩ := D.ex
  exact ⟨f, fd, F.imp h, r⟩

/-! ### methods -/
structure Mf (P : Program) (w : World) (K : PySem.W.Frag) (mg : Str → Option Value) (base : Heap) (C : Addr) (m : Str) (k : Nat) (ps : List Str) (sp : Sp) : Prop where
  ex : ∃ f fd, FnOk P w K mg base CX0 k f fd ps sp ∧ Meth K C m f ∧ Binds K fd ps []
structure HasM (K : PySem.W.Frag) (C : Addr) (m qual : Str) (st : Stmt) : Prop where
  ex : ∃ f fd, Fun K m qual st f fd ∧ Meth K C m f
theorem mf_of {P : Program} {w : World} {K : PySem.W.Frag} {mg : Str → Option Value} {base : Heap} {C : Addr} {m qual : Str} {st : Stmt} {k : Nat} {N ps : List Str} {sp : Sp} (F : HasM K C m qual st) (S : FnScope N ps (defScope st))
    (hb : ∀ (kV doc pm : Value) (an : Option Addr) (cdv ct : Value) (us : List Value), us.length = ps.length → bindArgs (PySem.W.fnOf m qual (defArgs st) (defBody st) (defScope st) .none kV doc pm an cdv ct) ⟨us, []⟩ = pure (ps.zip us))
    (len : ∀ vs H Q E, sp vs H Q E → vs.length = ps.length)
    (hbody : ∀ (f : Addr) (cdv : Value) (A : Around) (outer : List Env) (s : Shared) (H : Hp) (vs : List V) (Q : VK) (E : XK), Room k (A.deeper (envOfC qual (defScope st) s.heap.objs.size f cdv)) → sp vs H Q E →
      ∃ t, PSs (cxOf CX0 P w K mg base N qual (defScope st) f cdv A outer s H E).nox (defBody st) t ∧ t { nx := fun _ H' => Q .non H', rt := Q } (start N vs) H) : Mf P w K mg base C m (k + 1) ps sp := by
  obtain ⟨f, fd, F, hm⟩ := F.ex
  exact ⟨f, fd, F.ok S len (hbody f), hm, F.binds hb⟩
theorem pe_mf {X : Cx} {C : Addr} {m : Str} {k : Nat} {ps : List Str} {sp : Sp} {o e : Expr} {es : List Expr} {ta : TE} {t : TA} {apos pos : Pos} {pl : Sem Bool} (c : Cls X.K C) (D : Mf X.prog X.w X.K X.mg X.base C m k ps sp) (hr : Room k X.A) (he : PE X o ta) (ha : PA X (e :: es) t)
    (hst : starEach (e :: es) X.env = (false, eval e X.env) :: starEach es X.env := by rfl) (hpl : (backTo pos (starEach es X.env)).any (·.1) = false := by rfl)
    (ht : eval (.Call (.Attribute o m apos) (e :: es) [] pos) X.env = (do
      let ov ← eval o X.env
      standAt apos.atName
      let (f, first) ← holding [ov] (getMethod ov m pl)
      callWith pos f first (backTo pos (starEach (e :: es) X.env)) (backToKw pos (keywordEach [] X.env))) := by rfl) :
    PE X (.Call (.Attribute o m apos) (e :: es) [] pos) (tMeth C m sp [] E0 ta t) := by
  obtain ⟨f, fd, F, hm, hb⟩ := D.ex
  exact pe_meth he c hm F hr hb .nil pass0 ha hst hpl ht
theorem pe_mf0 {X : Cx} {C : Addr} {m : Str} {k : Nat} {ps : List Str} {sp : Sp} {o : Expr} {ta : TE} {apos pos : Pos} {pl : Sem Bool} (c : Cls X.K C) (D : Mf X.prog X.w X.K X.mg X.base C m k ps sp) (hr : Room k X.A) (he : PE X o ta)
    (ht : eval (.Call (.Attribute o m apos) [] [] pos) X.env = (do
      let ov ← eval o X.env
      standAt apos.atName
      let (f, first) ← holding [ov] (getMethod ov m pl)
      callWith pos f first (backTo pos (starEach [] X.env)) (backToKw pos (keywordEach [] X.env))) := by rfl) :
    PE X (.Call (.Attribute o m apos) [] [] pos) (tMeth C m sp [] E0 ta tNil) := by
  obtain ⟨f, fd, F, hm, hb⟩ := D.ex
  exact pe_meth0 he c hm F hr hb .nil pass0 ht
/-- a class made by its __init__ -/
structure Mkf (P : Program) (w : World) (K : PySem.W.Frag) (mg : Str → Option Value) (base : Heap) (x : Str) (C : Addr) (k : Nat) (ps : List Str) (sp : Sp) : Prop where
  ex : ∃ f fd, FnOk P w K mg base CX0 k f fd ps sp ∧ Mk K C f ∧ Binds K fd ps [] ∧ mg x = some (.ref C)
structure HasI (K : PySem.W.Frag) (mg : Str → Option Value) (x : Str) (C : Addr) (qual : Str) (st : Stmt) : Prop where
  ex : ∃ f fd, Fun K "__init__" qual st f fd ∧ Mk K C f ∧ mg x = some (.ref C)
theorem mkf_of {P : Program} {w : World} {K : PySem.W.Frag} {mg : Str → Option Value} {base : Heap} {C : Addr} {x qual : Str} {st : Stmt} {k : Nat} {N ps : List Str} {sp : Sp} (F : HasI K mg x C qual st) (S : FnScope N ps (defScope st))
    (hb : ∀ (kV doc pm : Value) (an : Option Addr) (cdv ct : Value) (us : List Value), us.length = ps.length → bindArgs (PySem.W.fnOf "__init__" qual (defArgs st) (defBody st) (defScope st) .none kV doc pm an cdv ct) ⟨us, []⟩ = pure (ps.zip us))
    (len : ∀ vs H Q E, sp vs H Q E → vs.length = ps.length)
    (hbody : ∀ (f : Addr) (cdv : Value) (A : Around) (outer : List Env) (s : Shared) (H : Hp) (vs : List V) (Q : VK) (E : XK), Room k (A.deeper (envOfC qual (defScope st) s.heap.objs.size f cdv)) → sp vs H Q E →
      ∃ t, PSs (cxOf CX0 P w K mg base N qual (defScope st) f cdv A outer s H E).nox (defBody st) t ∧ t { nx := fun _ H' => Q .non H', rt := Q } (start N vs) H) : Mkf P w K mg base x C (k + 1) ps sp := by
  obtain ⟨f, fd, F, hm, hx⟩ := F.ex
  exact ⟨f, fd, F.ok S len (hbody f), hm, F.binds hb, hx⟩
theorem pe_mk {X : Cx} {C : Addr} {x : Str} {k : Nat} {ps : List Str} {sp : Sp} {e : Expr} {es : List Expr} {t : TA} {p pos : Pos} (D : Mkf X.prog X.w X.K X.mg X.base x C k ps sp) (hr : Room (k + 1) X.A) (hg : Gl X x) (ha : PA X (e :: es) t)
    (hdb : (x == ("__debug__" : Str)) = false := by decide) (he : starEach (e :: es) X.env = (false, eval e X.env) :: starEach es X.env := by rfl) (hpl : (backTo pos (starEach es X.env)).any (·.1) = false := by rfl) :
    PE X (.Call (.Name x p) (e :: es) [] pos) (tMake C sp [] E0 t) := by
  obtain ⟨f, fd, F, hm, hb, hx⟩ := D.ex
  exact pe_make hm F hr hg hx hb .nil pass0 ha hdb he hpl

/-! ### the built-ins that are still so -/
structure Bl (mg : Str → Option Value) : Prop where
  len : mg "len" = none
  int : mg "int" = none
  bool : mg "bool" = none
  str : mg "str" = none
  tuple : mg "tuple" = none
  list : mg "list" = none
  isinstance : mg "isinstance" = none
  sum : mg "sum" = none
  max : mg "max" = none
  min : mg "min" = none
  all : mg "all" = none
  any : mg "any" = none
  zip : mg "zip" = none
  range : mg "range" = none
  enumerate : mg "enumerate" = none
  sorted : mg "sorted" = none
theorem bt_len : bootBuiltins "len" = some (.builtin "len") := by decide +kernel
theorem bt_int : bootBuiltins "int" = some (.type "int") := by decide +kernel
theorem bt_bool : bootBuiltins "bool" = some (.type "bool") := by decide +kernel
theorem bt_str : bootBuiltins "str" = some (.type "str") := by decide +kernel
theorem bt_tuple : bootBuiltins "tuple" = some (.type "tuple") := by decide +kernel
theorem bt_list : bootBuiltins "list" = some (.type "list") := by decide +kernel
theorem bt_isinstance : bootBuiltins "isinstance" = some (.builtin "isinstance") := by decide +kernel
theorem bt_sum : bootBuiltins "sum" = some (.builtin "sum") := by decide +kernel
theorem bt_max : bootBuiltins "max" = some (.builtin "max") := by decide +kernel
theorem bt_min : bootBuiltins "min" = some (.builtin "min") := by decide +kernel
theorem bt_all : bootBuiltins "all" = some (.builtin "all") := by decide +kernel
theorem bt_any : bootBuiltins "any" = some (.builtin "any") := by decide +kernel
theorem bt_sorted : bootBuiltins "sorted" = some (.builtin "sorted") := by decide +kernel

/-! ### readings, step by step -/
section
variable {σ : L2.St} {H : Hp} {Q : VK} {K : PySem.W.Frag} {D : Ends}
theorem c_var {i : Nat} {v : V} (h : σ[i]? = some (some v)) (q : Q v H) : tVar i σ H Q := ⟨v, h, q⟩
theorem c_c {v : V} (q : Q v H) : tC v σ H Q := q
theorem c_op {r : R2} {ta tb : TE} (q : ta σ H fun x H1 => tb σ H1 fun y H2 => r x y H2 Q) : tOp r ta tb σ H Q := q
theorem c_un {r : V → Hp → VK → Prop} {ta : TE} (q : ta σ H fun x H1 => r x H1 Q) : tUn r ta σ H Q := q
theorem c_I0 {g : Int → Int → V} {i j : Int} (q : Q (g i j) H) : rI0 g (.int i) (.int j) H Q := ⟨i, j, rfl, rfl, q⟩
theorem c_U {g : Int → V} {i : Int} (q : Q (g i) H) : rU g (.int i) H Q := ⟨i, rfl, q⟩
theorem c_eqI {i j : Int} (q : Q (.bl (decide (i = j))) H) : rEq (.int i) (.int j) H Q := ⟨rfl, by
  have e : decide (V.int i = V.int j) = decide (i = j) := by rw [dec_int]; exact Bool.beq_eq_decide_eq i j
  rw [e]; exact q⟩
theorem c_neI {i j : Int} (q : Q (.bl (!decide (i = j))) H) : rNe (.int i) (.int j) H Q := ⟨rfl, by
  have e : decide (V.int i = V.int j) = decide (i = j) := by rw [dec_int]; exact Bool.beq_eq_decide_eq i j
  rw [e]; exact q⟩
theorem c_ixT {p : Addr} {xs : List V} {i : Int} {v : V} (h : SqT K H p xs) (ha : atI xs i = some v) (q : Q v H) : rIxT K (.ref p) (.int i) H Q := ⟨p, xs, i, v, rfl, rfl, h, ha, q⟩
theorem c_ixL {p : Addr} {xs : List V} {i : Int} {v : V} (h : SqL K H p xs) (ha : atI xs i = some v) (q : Q v H) : rIxL K (.ref p) (.int i) H Q := ⟨p, xs, i, v, rfl, rfl, h, ha, q⟩
theorem c_test {t : TE} {Q : Bool → Hp → Prop} (q : t σ H fun x H' => ∃ k, x = .bl k ∧ Q k H') : tTest t σ H Q := q
theorem c_tB {t : TE} {Q : Bool → Hp → Prop} (q : t σ H fun x H' => ∃ k, x = .bl k ∧ Q k H') : tB t σ H Q := q
theorem c_and {t u : TT} {Q : Bool → Hp → Prop} (q : t σ H fun c H1 => if c = true then u σ H1 Q else Q false H1) : tAnd t u σ H Q := q
theorem c_or {t u : TT} {Q : Bool → Hp → Prop} (q : t σ H fun c H1 => if c = true then Q true H1 else u σ H1 Q) : tOr t u σ H Q := q
theorem c_not {t : TT} {Q : Bool → Hp → Prop} (q : t σ H fun c H1 => Q (!c) H1) : tNot t σ H Q := q
theorem c_andV {ta tb : TE} (q : ta σ H fun x H1 => ∃ c, x = .bl c ∧ if c = true then tb σ H1 Q else Q (.bl false) H1) : tAndV ta tb σ H Q := q
theorem c_orV {ta tb : TE} (q : ta σ H fun x H1 => ∃ c, x = .bl c ∧ if c = true then Q (.bl true) H1 else tb σ H1 Q) : tOrV ta tb σ H Q := q
theorem c_notV {ta : TE} (q : ta σ H fun x H1 => ∃ c, x = .bl c ∧ Q (.bl (!c)) H1) : tNotV ta σ H Q := q
theorem c_if {t : TT} {ta tb : TE} (q : t σ H fun c H1 => if c = true then ta σ H1 Q else tb σ H1 Q) : tIf t ta tb σ H Q := q
theorem c_chain {r r' : R2} {ta tb tc : TE} (q : ta σ H fun x H1 => tb σ H1 fun y H2 => r x y H2 fun z H3 => ∃ k, z = .bl k ∧ (if k = true then tc σ H3 fun w' H4 => r' y w' H4 Q else Q (.bl false) H3)) : tChain r r' ta tb tc σ H Q := q
theorem c_nil {Q : List V → Hp → Prop} (q : Q [] H) : tNil σ H Q := q
theorem c_cons {ta : TE} {tr : TA} {Q : List V → Hp → Prop} (q : ta σ H fun x H1 => tr σ H1 fun xs H2 => Q (x :: xs) H2) : tCons ta tr σ H Q := q
theorem c_tup {t : TA} (q : t σ H fun xs H1 => xs.length ≤ sizeLine ∧ ∀ p, H1 p = none → Q (.ref p) (upd H1 p (.tup xs))) : tTup t σ H Q := q
theorem c_lst {t : TA} (q : t σ H fun xs H1 => xs.length ≤ sizeLine ∧ ∀ p, H1 p = none → Q (.ref p) (upd H1 p (.lst xs))) : tLst t σ H Q := q
theorem c_cb {r : List V → Hp → VK → Prop} {t : TA} (q : t σ H fun vs H1 => r vs H1 Q) : tCB r t σ H Q := q
theorem c_call {sp : Sp} {t : TA} (q : t σ H fun vs H1 => sp (vs ++ []) H1 Q E0) : tCall sp [] E0 t σ H Q := q
theorem c_fld {ta : TE} {f : Str} (q : ta σ H fun x H1 => ∃ a C dx fs v, x = .ref a ∧ H1 a = some (.ins C dx fs) ∧ Cls K C ∧ NoAttr K C f ∧ fs.lookup f = some v ∧ Q v H1) : tFld K ta f σ H Q := q
theorem c_part {t : TE} {Q : Option Int → Hp → Prop} (q : t σ H fun x H1 => ∃ i, x = .int i ∧ Q (some i) H1) : tPart t σ H Q := q
theorem c_nopart {Q : Option Int → Hp → Prop} (q : Q none H) : tNoPart σ H Q := q
theorem c_sl {r : V → Option Int → Option Int → Hp → VK → Prop} {te : TE} {tl th : TO} (q : te σ H fun x H1 => tl σ H1 fun l H2 => th σ H2 fun u H3 => r x l u H3 Q) : tSl r te tl th σ H Q := q
theorem c_bm {T : String} {r : V → List V → Hp → VK → Prop} {to : TE} {t : TA} (q : to σ H fun x H1 => tyV K T x H1 ∧ t σ H1 fun xs H2 => r x xs H2 Q) : tBM K T r to t σ H Q := q
theorem c_bm0 {T : String} {r : V → List V → Hp → VK → Prop} {to : TE} (q : to σ H fun x H1 => tyV K T x H1 ∧ r x [] H1 Q) : tBM0 K T r to σ H Q := q
theorem c_seq {t u : TS} (q : t { D with nx := u D } σ H) : tSeq t u D σ H := q
theorem c_next (q : D.nx σ H) : tNext D σ H := q
theorem c_asg {te : TE} {g : TG} (q : te σ H fun x H1 => g x σ H1 D.nx) : tAsg te g D σ H := q
theorem c_gname {i : Nat} {v : V} {Q : L2.St → Hp → Prop} (q : Q (σ.set i (some v)) H) : gName i v σ H Q := q
theorem c_ret {te : TE} (q : te σ H D.rt) : tRet te D σ H := q
theorem c_ifS {c : TT} {t u : TS} (q : c σ H fun b H1 => if b = true then t D σ H1 else u D σ H1) : tIfS c t u D σ H := q
theorem c_drop {te : TE} (q : te σ H fun _ H1 => D.nx σ H1) : tDrop te D σ H := q
theorem c_aug {i : Nat} {te : TE} {ti : TIp} {x : V} (h : σ[i]? = some (some x)) (q : te σ H fun y H1 => ti x y H1 fun z H2 => D.nx (σ.set i (some z)) H2) : tAug i te ti D σ H := ⟨x, h, q⟩
theorem c_ipI {f : Int → Int → Int} {i j : Int} (q : Q (.int (f i j)) H) : ipI f (.int i) (.int j) H Q := ⟨i, j, rfl, rfl, q⟩
theorem c_par {i j : Nat} {ta : TA} (q : ta σ H fun vs H1 => ∃ v w, vs = [v, w] ∧ D.nx ((σ.set i (some v)).set j (some w)) H1) : tPar i j ta D σ H := q
theorem c_bl {b : Bool} {P : Bool → Prop} (q : P b) : ∃ k, V.bl b = V.bl k ∧ P k := ⟨b, rfl, q⟩
theorem c_ei {b : Int} {P : Int → Prop} (q : P b) : ∃ k, V.int b = V.int k ∧ P k := ⟨b, rfl, q⟩
theorem c_par2 {v w : V} {P : V → V → Prop} (q : P v w) : ∃ v' w', [v, w] = [v', w'] ∧ P v' w' := ⟨v, w, rfl, q⟩
theorem c_augS {to ti te : TE} {tget : V → V → Hp → VK → Prop} {tip : TIp} {tset : TSet} (q : to σ H fun o H1 => ti σ H1 fun i H2 => tget o i H2 fun x H3 => te σ H3 fun y H4 => tip x y H4 fun z H5 => tset o i z H5 fun H6 => D.nx σ H6) : tAugS to ti te tget tip tset D σ H := q
theorem c_gtup {n : Nat} {t : TGs} {a : Addr} {xs : List V} {Q : L2.St → Hp → Prop} (h : SqT K H a xs) (hn : xs.length = n) (q : t xs σ H Q) : gTup K n t (.ref a) σ H Q := ⟨a, xs, rfl, h, hn, q⟩
theorem c_gcons {t : TG} {u : TGs} {v : V} {r : List V} {Q : L2.St → Hp → Prop} (q : t v σ H fun σ' H' => u r σ' H' Q) : gCons t u (v :: r) σ H Q := ⟨v, r, rfl, q⟩
theorem c_gnil {Q : L2.St → Hp → Prop} (q : Q σ H) : gNil [] σ H Q := ⟨rfl, q⟩
theorem c_intB {k : Bool} (q : Q (.int (if k then 1 else 0)) H) : (∃ i, [V.bl k] = [V.int i] ∧ Q (.int i) H) ∨ ∃ b, [V.bl k] = [V.bl b] ∧ Q (.int (if b then 1 else 0)) H := .inr ⟨k, rfl, q⟩
theorem c_len {p : Addr} {ys : List V} (h : SqL K H p ys ∨ SqT K H p ys) (q : Q (.int ys.length) H) : ∃ p' ys', [V.ref p] = [V.ref p'] ∧ (SqL K H p' ys' ∨ SqT K H p' ys') ∧ Q (.int ys'.length) H := ⟨p, ys, rfl, h, q⟩
theorem c_setL {p : Addr} {xs : List V} {k : Int} {j : Nat} {v : V} {Q : Hp → Prop} (h : H p = some (.lst xs)) (hj : ixN xs.length k = some j) (q : Q (upd H p (.lst (xs.set j v)))) : rSetL (.ref p) (.int k) v H Q := ⟨p, xs, k, j, rfl, rfl, h, hj, q⟩
theorem c_dget {td ty : TE} (q : td σ H fun x H1 => ty σ H1 fun y H2 => ∃ a v, x = .ref a ∧ DGet H2 a y (some v) ∧ Q v H2) : tDGet td ty σ H Q := q
theorem c_din {td ty : TE} (q : ty σ H fun y H1 => td σ H1 fun x H2 => ∃ a o, x = .ref a ∧ DGet H2 a y o ∧ Q (.bl o.isSome) H2) : tDIn ty td σ H Q := q
theorem c_dnotin {td ty : TE} (q : ty σ H fun y H1 => td σ H1 fun x H2 => ∃ a o, x = .ref a ∧ DGet H2 a y o ∧ Q (.bl (!o.isSome)) H2) : tDNotIn ty td σ H Q := q
theorem c_dput {td ty tv : TE} (q : tv σ H fun v H1 => td σ H1 fun x H2 => ty σ H2 fun y H3 => ∃ a H4, x = .ref a ∧ DPut H3 a y v H4 ∧ D.nx σ H4) : sDPut td ty tv D σ H := q
theorem c_for {wi : TI} {g : TG} {tb : TS} (q : wi σ H fun J H1 => ∃ W : Nat → Nat → L2.St → Hp → Prop, (∃ m, W 0 m σ H1) ∧ ∀ i m σ H, W i m σ H →
  (J.stop i H ∧ D.nx σ H) ∨ (J.go i H ∧ ∃ N : L2.St → Hp → Prop, (∀ σ' H', N σ' H' → ∃ m', m' < m ∧ W (i + 1) m' σ' H') ∧ ∀ x H', J.yld i H x H' → g x σ H' fun σ2 H2 => tb { D with nx := N, ct := N, bk := D.nx } σ2 H2)) : tFor wi g tb D σ H := q
theorem c_zip2 {ta : TA} {R : It → Hp → Prop} (q : ta σ H fun vs H1 => ∃ b1 b2 a b xs ys, vs = [.ref a, .ref b] ∧ SqB K b1 H1 a xs ∧ SqB K b2 H1 b ys ∧ R (Itz2 K b1 b2 a b xs ys) H1) : iZip2 K ta σ H R := q
theorem c_zip3 {ta : TA} {R : It → Hp → Prop} (q : ta σ H fun vs H1 => ∃ b1 b2 b3 a b c xs ys zs, vs = [.ref a, .ref b, .ref c] ∧ SqB K b1 H1 a xs ∧ SqB K b2 H1 b ys ∧ SqB K b3 H1 c zs ∧ R (Itz3 K b1 b2 b3 a b c xs ys zs) H1) : iZip3 K ta σ H R := q
theorem c_enum {ta : TA} {R : It → Hp → Prop} (q : ta σ H fun vs H1 => ∃ b a xs, vs = [.ref a] ∧ SqB K b H1 a xs ∧ R (IteB K b a xs) H1) : iEnumB K ta σ H R := q
theorem c_rng1 {ta : TA} {R : It → Hp → Prop} (q : ta σ H fun vs H1 => ∃ j : Int, vs = [.int j] ∧ -(2 ^ 62) ≤ j ∧ j < 2 ^ 62 ∧ R (Itr 0 j.toNat) H1) : iRng1 ta σ H R := q
theorem c_iList {tl : TE} {R : It → Hp → Prop} (q : tl σ H fun x H1 => ∃ a, x = .ref a ∧ (∃ xs, SqL K H1 a xs) ∧ R (Itl K a) H1) : iList K tl σ H R := q
theorem c_iTup {tl : TE} {R : It → Hp → Prop} (q : tl σ H fun x H1 => ∃ a, x = .ref a ∧ (∃ xs, SqT K H1 a xs) ∧ R (Itt K a) H1) : iTup K tl σ H R := q
theorem c_lc {wi : TI} {g : TG} {tt : TT} {te : TE} {vs : List Nat} (q : wi σ H fun J H1 => ∀ D, H1 D = none → ∃ W : Nat → Nat → Hp → Prop, (∃ m, W 0 m (upd H1 D (.lst []))) ∧ ∀ i m H, W i m H →
  (J.stop i H ∧ Q (.ref D) H) ∨ (J.go i H ∧ ∃ Nx : Hp → Prop, (∀ H', Nx H' → ∃ m', m' < m ∧ W (i + 1) m' H') ∧ ∀ x H', J.yld i H x H' → g x (wipe σ vs) H' fun σ2 H2 => wipe σ2 vs = wipe σ vs ∧ tt σ2 H2 fun b H3 =>
    if b = true then te σ2 H3 fun y H4 => ∃ acc, H4 D = some (.lst acc) ∧ acc.length < sizeLine ∧ Nx (upd H4 D (.lst (acc ++ [y]))) else Nx H3)) : tLc wi g tt te vs σ H Q := q
end
theorem at0 {α : Type} {x : α} {xs : List α} : atI (x :: xs) 0 = some x := atI_nat (j := 0) rfl
theorem at1 {α : Type} {a x : α} {xs : List α} : atI (a :: x :: xs) 1 = some x := atI_nat (j := 1) rfl
theorem at2' {α : Type} {a b x : α} {xs : List α} : atI (a :: b :: x :: xs) 2 = some x := atI_nat (j := 2) rfl
theorem at3 {α : Type} {a b c x : α} {xs : List α} : atI (a :: b :: c :: x :: xs) 3 = some x := atI_nat (j := 3) rfl
theorem at4 {α : Type} {a b c d x : α} {xs : List α} : atI (a :: b :: c :: d :: x :: xs) 4 = some x := atI_nat (j := 4) rfl
theorem atLast {α : Type} {xs : List α} {x : α} (h : xs[xs.length - 1]? = some x) : atI xs (-1) = some x := by
  have hl : 0 < xs.length := by
    have := (List.getElem?_eq_some_iff.mp h).1
    omega
  unfold atI ixN
  rw [if_neg (by decide), if_pos (by omega)]
  have e : (-1 + (xs.length : Int)).toNat = xs.length - 1 := by omega
  rw [e]
  exact h

/-! ### facts along the heap -/
theorem _root_.L2.Same.new {H : Hp} {p : Addr} {o : HO} (hp : H p = none) : Same H (upd H p o) := fun a u e => by
  rw [upd_ne (ne_of_none e hp)]; exact e
theorem _root_.L2.Same.mut {H H1 : Hp} {p : Addr} {o : HO} (e : Same H H1) (hp : H p = none) : Same H (upd H1 p o) := fun a u h => by
  rw [upd_ne (ne_of_none h hp)]; exact e a u h
theorem _root_.L2.Same.rd {H H' : Hp} {a : Addr} {u : HO} (e : Same H H') (h : Rd H a u) : Rd H' a u := by
  rcases h with h | ⟨o, h⟩
  · exact .inl (e _ _ h)
  · exact .inr ⟨o, e _ _ h⟩
theorem _root_.L2.Same.tup {K : PySem.W.Frag} {H H' : Hp} {a : Addr} {xs : List V} (e : Same H H') (h : SqT K H a xs) : SqT K H' a xs := by
  rcases h with h | h
  · exact .inl (e.rd h)
  · exact .inr h
theorem _root_.L2.Same.lst {K : PySem.W.Frag} {H H' : Hp} {a : Addr} {xs : List V} (e : Same H H') (h : SqL K H a xs) : SqL K H' a xs := by
  rcases h with h | h
  · exact .inl (e.rd h)
  · exact .inr h
theorem _root_.L2.Same.sqB {K : PySem.W.Frag} {b : Bool} {H H' : Hp} {a : Addr} {xs : List V} (e : Same H H') (h : SqB K b H a xs) : SqB K b H' a xs := by
  cases b
  · exact Same.lst e h
  · exact Same.tup e h
/-- tuples stay, whatever else is changed -/
def Tx (H H' : Hp) : Prop := ∀ a xs, Rd H a (.tup xs) → Rd H' a (.tup xs)
theorem Tx.refl (H : Hp) : Tx H H := fun _ _ h => h
theorem Tx.trans {H H1 H2 : Hp} (a : Tx H H1) (b : Tx H1 H2) : Tx H H2 := fun x o h => b x o (a x o h)
theorem Tx.of {H H' : Hp} (e : Same H H') : Tx H H' := fun _ _ h => e.rd h
theorem Tx.new {H : Hp} {p : Addr} {o : HO} (hp : H p = none) : Tx H (upd H p o) := Tx.of (Same.new hp)
def noTup : HO → Bool
  | .tup _ => false
  | .frz _ _ => false
  | _ => true
theorem Tx.mut {H : Hp} {p : Addr} {o u : HO} (hp : H p = some u) (hu : noTup u = true) : Tx H (upd H p o) := fun a xs h => by
  have ne : a ≠ p := fun e => by
    subst e
    rcases h with h | ⟨ob, h⟩
    · rw [h] at hp; cases hp; cases hu
    · rw [h] at hp; cases hp; cases hu
  rcases h with h | ⟨ob, h⟩
  · exact .inl (by rw [upd_ne ne]; exact h)
  · exact .inr ⟨ob, by rw [upd_ne ne]; exact h⟩
theorem Tx.mutL {H : Hp} {p : Addr} {o : HO} {xs : List V} (hp : H p = some (.lst xs)) : Tx H (upd H p o) := Tx.mut hp rfl
theorem Tx.mutI {H : Hp} {p : Addr} {o : HO} {C dx : Addr} {fs : List (Str × V)} (hp : H p = some (.ins C dx fs)) : Tx H (upd H p o) := Tx.mut hp rfl
theorem Tx.mutD {H : Hp} {p : Addr} {o : HO} {kvs : List (List Key × V)} (hp : H p = some (.dT kvs)) : Tx H (upd H p o) := Tx.mut hp rfl
theorem Tx.tup {K : PySem.W.Frag} {H H' : Hp} {a : Addr} {xs : List V} (e : Tx H H') (h : SqT K H a xs) : SqT K H' a xs := by
  rcases h with h | h
  · exact .inl (e _ _ h)
  · exact .inr h
theorem get_new {H : Hp} {p q : Addr} {o u : HO} (h : H p = some o) (hq : H q = none) : upd H q u p = some o := by rw [upd_ne (ne_of_none h hq)]; exact h
theorem get_mut {H : Hp} {p q : Addr} {o u : HO} (ne : p ≠ q) (h : H p = some o) : upd H q u p = some o := by rw [upd_ne ne]; exact h
theorem none_back {H H' : Hp} {p : Addr} (e : Same H H') (h : H' p = none) : H p = none := e.free h
theorem none_upd {H : Hp} {p q : Addr} {o : HO} (h : upd H q o p = none) : H p = none := by
  by_cases e : p = q
  · subst e; rw [upd_same] at h; cases h
  · rw [upd_ne e] at h; exact h
theorem ne_upd {H : Hp} {p q : Addr} {o : HO} (h : upd H q o p = none) : p ≠ q := fun e => by
  subst e; rw [upd_same] at h; cases h
theorem ne_had {H : Hp} {p q : Addr} {o : HO} (h : H q = some o) (hp : H p = none) : p ≠ q := fun e => by
  subst e; rw [h] at hp; cases hp
end HX

/-! How days, numbers and things stand in the heap. -/
namespace HX
open PySem PySem.Spec PyProof.Rows L2 Dry

/-! ### things of any kind -/
/-- a value whose kind is known -/
def Kn (K : PySem.W.Frag) (H : Hp) : V → Prop
  | .non => True
  | .bl _ => True
  | .int _ => True
  | .str _ => True
  | .ref a => (∃ xs, SqT K H a xs) ∨ ∃ xs, SqL K H a xs
  | _ => False
theorem ty_tup {K : PySem.W.Frag} {H : Hp} {a : Addr} {xs : List V} (h : SqT K H a xs) : TyX K H (.ref a) (.type "tuple") := by
  rcases h with (h | ⟨o, h⟩) | ⟨o, its, n, h, c, _⟩
  · exact .base (.tup h)
  · exact .fTuple h
  · exact .kTuple h c
theorem ty_lst {K : PySem.W.Frag} {H : Hp} {a : Addr} {xs : List V} (h : SqL K H a xs) : TyX K H (.ref a) (.type "list") := by
  rcases h with (h | ⟨o, h⟩) | ⟨o, its, n, h, c, _⟩
  · exact .base (.lst h)
  · exact .base (.frz h)
  · exact .kList h c
theorem c_isi {K : PySem.W.Frag} {H : Hp} {x : V} {n T : String} {b : Bool} {Q : VK} (ty : TyX K H x (.type n)) (hb : kitB n T = some b) (q : Q (.bl b) H) : rIsi K [x, .ty T] H Q :=
  ⟨x, .ty T, .type n, .type T, b, rfl, .ty T, ty, kit_ty hb, q⟩
theorem k_int_int : kitB "int" "int" = some true := by decide +kernel
theorem k_bool_int : kitB "bool" "int" = some true := by decide +kernel
theorem k_none_int : kitB "NoneType" "int" = some false := by decide +kernel
theorem k_str_int : kitB "str" "int" = some false := by decide +kernel
theorem k_tuple_int : kitB "tuple" "int" = some false := by decide +kernel
theorem k_list_int : kitB "list" "int" = some false := by decide +kernel
theorem k_int_bool : kitB "int" "bool" = some false := by decide +kernel
theorem k_bool_bool : kitB "bool" "bool" = some true := by decide +kernel
theorem k_none_bool : kitB "NoneType" "bool" = some false := by decide +kernel
theorem k_str_bool : kitB "str" "bool" = some false := by decide +kernel
theorem k_tuple_bool : kitB "tuple" "bool" = some false := by decide +kernel
theorem k_list_bool : kitB "list" "bool" = some false := by decide +kernel
theorem k_int_tuple : kitB "int" "tuple" = some false := by decide +kernel
theorem k_bool_tuple : kitB "bool" "tuple" = some false := by decide +kernel
theorem k_none_tuple : kitB "NoneType" "tuple" = some false := by decide +kernel
theorem k_str_tuple : kitB "str" "tuple" = some false := by decide +kernel
theorem k_tuple_tuple : kitB "tuple" "tuple" = some true := by decide +kernel
theorem k_list_tuple : kitB "list" "tuple" = some false := by decide +kernel
theorem k_int_str : kitB "int" "str" = some false := by decide +kernel
theorem k_bool_str : kitB "bool" "str" = some false := by decide +kernel
theorem k_none_str : kitB "NoneType" "str" = some false := by decide +kernel
theorem k_str_str : kitB "str" "str" = some true := by decide +kernel
theorem k_tuple_str : kitB "tuple" "str" = some false := by decide +kernel
theorem k_list_str : kitB "list" "str" = some false := by decide +kernel
def isIntV : V → Bool
  | .int _ => true
  | .bl _ => true
  | _ => false
def isBoolV : V → Bool
  | .bl _ => true
  | _ => false
theorem isi_int {K : PySem.W.Frag} {H : Hp} {x : V} {Q : VK} (h : Kn K H x) (q : Q (.bl (isIntV x)) H) : rIsi K [x, .ty "int"] H Q := by
  cases x with
  | non => exact c_isi (.base .non) k_none_int q
  | bl b => exact c_isi (.base (.bl b)) k_bool_int q
  | int i => exact c_isi (.base (.int i)) k_int_int q
  | str x => exact c_isi (.base (.str x)) k_str_int q
  | ref a =>
    rcases h with ⟨xs, h⟩ | ⟨xs, h⟩
    · exact c_isi (ty_tup h) k_tuple_int q
    · exact c_isi (ty_lst h) k_list_int q
  | byt _ => exact h.elim
  | flt _ => exact h.elim
  | ty _ => exact h.elim
theorem isi_bool {K : PySem.W.Frag} {H : Hp} {x : V} {Q : VK} (h : Kn K H x) (q : Q (.bl (isBoolV x)) H) : rIsi K [x, .ty "bool"] H Q := by
  cases x with
  | non => exact c_isi (.base .non) k_none_bool q
  | bl b => exact c_isi (.base (.bl b)) k_bool_bool q
  | int i => exact c_isi (.base (.int i)) k_int_bool q
  | str x => exact c_isi (.base (.str x)) k_str_bool q
  | ref a =>
    rcases h with ⟨xs, h⟩ | ⟨xs, h⟩
    · exact c_isi (ty_tup h) k_tuple_bool q
    · exact c_isi (ty_lst h) k_list_bool q
  | byt _ => exact h.elim
  | flt _ => exact h.elim
  | ty _ => exact h.elim
theorem isi_tuple {K : PySem.W.Frag} {H : Hp} {x : V} {Q : VK} (h : Kn K H x) (q1 : ∀ a xs, x = .ref a → SqT K H a xs → Q (.bl true) H) (q2 : Q (.bl false) H) : rIsi K [x, .ty "tuple"] H Q := by
  cases x with
  | non => exact c_isi (.base .non) k_none_tuple q2
  | bl b => exact c_isi (.base (.bl b)) k_bool_tuple q2
  | int i => exact c_isi (.base (.int i)) k_int_tuple q2
  | str x => exact c_isi (.base (.str x)) k_str_tuple q2
  | ref a =>
    rcases h with ⟨xs, h⟩ | ⟨xs, h⟩
    · exact c_isi (ty_tup h) k_tuple_tuple (q1 a xs rfl h)
    · exact c_isi (ty_lst h) k_list_tuple q2
  | byt _ => exact h.elim
  | flt _ => exact h.elim
  | ty _ => exact h.elim
theorem Kn.same {K : PySem.W.Frag} {H H' : Hp} {x : V} (e : Same H H') (h : Kn K H x) : Kn K H' x := by
  cases x with
  | ref a =>
    rcases h with ⟨xs, h⟩ | ⟨xs, h⟩
    · exact .inl ⟨xs, e.tup h⟩
    · exact .inr ⟨xs, e.lst h⟩
  | _ => exact h

def isFromV (x : V) (lo hi : Int) : Bool := match x with
  | .int i => decide (lo ≤ i) && decide (i ≤ hi)
  | _ => false

/-! ### ints -/
abbrev vI (ns : List Int) : List V := ns.map V.int
abbrev vN (ns : List Nat) : List V := ns.map fun (n : Nat) => V.int (n : Int)
theorem vI_get {ns : List Int} {i : Nat} (h : i < ns.length) : (vI ns)[i]? = some (.int (ns.getD i 0)) := by
  simp [List.getD_eq_getElem?_getD, h]
theorem vI_get' {ns : List Int} {i : Nat} {x : Int} (h : ns[i]? = some x) : (vI ns)[i]? = some (.int x) := by simp [h]
theorem vI_set (ns : List Int) (i : Nat) (x : Int) : (vI ns).set i (.int x) = vI (ns.set i x) := by simp [vI, List.map_set]
theorem ixN_nat {n i : Nat} (h : i < n) : ixN n (i : Int) = some i := by
  unfold ixN
  rw [if_pos (by omega), if_pos (by omega)]
  simp
theorem foldl_take {α β : Type} (f : β → α → β) (b : β) {l : List α} {i : Nat} {x : α} (h : l[i]? = some x) : (l.take (i + 1)).foldl f b = f ((l.take i).foldl f b) x := by
  obtain ⟨hl, rfl⟩ := List.getElem?_eq_some_iff.mp h
  rw [List.take_succ_eq_append_getElem hl, List.foldl_append]
  rfl
theorem zip_get {α β : Type} {a : List α} {b : List β} {i : Nat} {x : α} {y : β} (h1 : a[i]? = some x) (h2 : b[i]? = some y) : (a.zip b)[i]? = some (x, y) := by
  simp [List.zip, List.getElem?_zipWith, h1, h2]

/-! ### days -/
def wkV (w : Wk) : List V := [.int (w.h : Int), .int (w.b : Int), .int (w.e : Int), .bl w.wet, .int (w.r : Int)]
structure Wks (K : PySem.W.Frag) (H : Hp) (vs : List V) (ws : List Wk) : Prop where
  len : vs.length = ws.length
  at_ : ∀ (i : Nat) (w : Wk), ws[i]? = some w → ∃ x : Addr, vs[i]? = some (V.ref x) ∧ SqT K H x (wkV w)
structure DayAt (K : PySem.W.Frag) (H : Hp) (a aw : Addr) (vs : List V) (d : Day) : Prop where
  day : SqT K H a [.int (d.P : Int), .int (d.T : Int), .ref aw]
  seq : SqT K H aw vs
  wks : Wks K H vs d.ws
theorem Wks.tx {K : PySem.W.Frag} {H H' : Hp} {vs : List V} {ws : List Wk} (e : Tx H H') (h : Wks K H vs ws) : Wks K H' vs ws :=
  ⟨h.len, fun i w hi => let ⟨x, a, b⟩ := h.at_ i w hi; ⟨x, a, e.tup b⟩⟩
theorem DayAt.tx {K : PySem.W.Frag} {H H' : Hp} {a aw : Addr} {vs : List V} {d : Day} (e : Tx H H') (h : DayAt K H a aw vs d) : DayAt K H' a aw vs d :=
  ⟨e.tup h.day, e.tup h.seq, h.wks.tx e⟩
structure _root_.Dry.Day.Sm (d : Day) : Prop where
  P : d.P ≤ 1000
  T : d.T ≤ 1000
  W : d.ws.length ≤ 1000
theorem Wks.get {K : PySem.W.Frag} {H : Hp} {vs : List V} {ws : List Wk} (h : Wks K H vs ws) {i : Nat} {x : V} (hx : vs[i]? = some x) : ∃ w a, ws[i]? = some w ∧ x = .ref a ∧ SqT K H a (wkV w) := by
  have hl := (List.getElem?_eq_some_iff.mp hx).1
  have hw : ws[i]? = some (ws[i]'(by rw [← h.len]; exact hl)) := List.getElem?_eq_getElem _
  obtain ⟨y, h1, h2⟩ := h.at_ i _ hw
  rw [hx] at h1
  exact ⟨_, y, hw, Option.some.inj h1, h2⟩
theorem szl {n : Nat} (h : n ≤ 100000) : n ≤ sizeLine := Nat.le_trans h (by decide)
theorem szl' {n : Nat} (h : n < 100000) : n < sizeLine := Nat.lt_of_lt_of_le h (by decide)
end HX

/-! A dict whose keys are walks (tuples of ints and a truth), filled and sorted. -/
namespace HX
open PySem PySem.Spec PyProof.Rows L2 Dry

/-! ### tuples of ints and truths, by their order -/
inductive NumsAre : List Bool → List Value → List Int → Prop
  | nil : NumsAre [] [] []
  | int {ks : List Bool} {xs : List Value} {ns : List Int} (n : Int) (t : Tok) : NumsAre ks xs ns → NumsAre (false :: ks) (.int n t :: xs) (n :: ns)
  | bl {ks : List Bool} {xs : List Value} {ns : List Int} (b : Bool) : NumsAre ks xs ns → NumsAre (true :: ks) (.bool b :: xs) (b2i b :: ns)
theorem NumsAre.length {ks : List Bool} {xs : List Value} {ns : List Int} (h : NumsAre ks xs ns) : xs.length = ks.length ∧ ns.length = ks.length := by
  induction h with
  | nil => exact ⟨rfl, rfl⟩
  | int _ _ _ ih => simp [ih.1, ih.2]
  | bl _ _ ih => simp [ih.1, ih.2]
theorem NumsAre.inj {ks : List Bool} {xs : List Value} {ns ms : List Int} (h : NumsAre ks xs ns) (g : NumsAre ks xs ms) : ns = ms := by
  induction h generalizing ms with
  | nil => cases g; rfl
  | int n t _ ih => cases g with | int _ _ g => rw [ih g]
  | bl b _ ih => cases g with | bl _ g => rw [ih g]
section
variable {prog : Program} {w : World} {A : Around} {E : Value → Shared → Prop} {s : Shared} {Q : Bool → Shared → Prop}
theorem oneLt_bools {p q : Bool} (h : Q (decide (b2i p < b2i q)) s) : wpAny (model prog w) A (oneLt' false (.bool p) (.bool q)) Q E s :=
  PySem.W.kat_one _ _ (PyProof.Rows.lt_bool (Q := PySem.W.BoolBack Q) h)
theorem b2i_inj {p q : Bool} : (p == q) = (b2i p == b2i q) := by cases p <;> cases q <;> rfl
theorem lex_nums {B : Int} {b : Bool} {ks : List Bool} {xs ys : List Value} {ns ms : List Int} (i : Nat) (h0 : i ≠ 0 ∨ ks.head? ≠ some true) (hx : NumsAre ks xs ns) (hy : NumsAre ks ys ms) (h1 : TS.Bd B ns) (h2 : TS.Bd B ms)
    (h : Q (decide (TS.code B ns < TS.code B ms)) s) : PySem.W.KatLex prog w A b false Q (xs.zip ys) i s := by
  have step : ∀ (p q : Int) (ns ms : List Int), ns.length = ms.length → TS.Bd B ns → TS.Bd B ms → p ≠ q → decide (TS.code B (p :: ns) < TS.code B (q :: ms)) = decide (p < q) := by
    intro p q ns ms hl h1 h2 e
    refine decide_eq_decide.mpr ⟨fun x => ?_, fun x => TS.code_lt hl h1 h2 x⟩
    rcases Int.lt_trichotomy p q with y | y | y
    · exact y
    · exact absurd y e
    · have := TS.code_lt hl.symm h2 h1 y
      omega
  induction hx generalizing ys ms i with
  | nil =>
    cases hy with
    | nil =>
      have e : decide (TS.code B [] < TS.code B []) = false := decide_eq_false (Int.lt_irrefl _)
      rw [e] at h
      exact PySem.W.kat_nil h
  | @int ks xs ns p t hx ih =>
    cases hy with
    | @int _ ys ms q u hy =>
      have hl' : ns.length = ms.length := by rw [hx.length.2, hy.length.2]
      show PySem.W.KatLex prog w A b false Q ((Value.int p t, Value.int q u) :: xs.zip ys) i s
      refine PySem.W.kat_cons (wpAny_eqBool_int ?_)
      by_cases e : p = q
      · subst e
        rw [beq_self_eq_true]
        have d : decide (TS.code B (p :: ns) < TS.code B (p :: ms)) = decide (TS.code B ns < TS.code B ms) := decide_eq_decide.mpr (TS.code_same hl')
        rw [d] at h
        exact PySem.W.kat_yes (ih (i + 1) (.inl (Nat.succ_ne_zero _)) hy h1.tail h2.tail h)
      · rw [show (p == q) = false from beq_eq_false_iff_ne.mpr e]
        refine PySem.W.kat_no (TS.oneLt_ints _ ?_)
        rw [step p q ns ms hl' h1.tail h2.tail e] at h
        exact h
  | @bl ks xs ns p hx ih =>
    cases hy with
    | @bl _ ys ms q hy =>
      have hl' : ns.length = ms.length := by rw [hx.length.2, hy.length.2]
      show PySem.W.KatLex prog w A b false Q ((Value.bool p, Value.bool q) :: xs.zip ys) i s
      refine PySem.W.kat_cons (SeqAt.EqAt.bool_bool p q prog w _ _ ?_)
      by_cases e : b2i p = b2i q
      · rw [b2i_inj, e, beq_self_eq_true]
        have d : decide (TS.code B (b2i p :: ns) < TS.code B (b2i q :: ms)) = decide (TS.code B ns < TS.code B ms) := by rw [e]; exact decide_eq_decide.mpr (TS.code_same hl')
        rw [d] at h
        exact PySem.W.kat_yes (ih (i + 1) (.inl (Nat.succ_ne_zero _)) hy h1.tail h2.tail h)
      · rw [b2i_inj, show (b2i p == b2i q) = false from beq_eq_false_iff_ne.mpr e]
        have hi : (b && i == 0) = false := by
          rcases h0 with h0 | h0
          · have : (i == 0) = false := beq_eq_false_iff_ne.mpr h0
            rw [this]; cases b <;> rfl
          · exact absurd rfl h0
        refine PySem.W.kat_no ?_
        rw [hi]
        refine oneLt_bools ?_
        rw [step _ _ ns ms hl' h1.tail h2.tail e] at h
        exact h
end
def TupNums (ks : List Bool) (h : Heap) (v : Value) (ns : List Int) : Prop := ∃ a xs, v = .ref a ∧ IsTup h a xs ∧ NumsAre ks xs.toList ns
theorem TupNums.keeps {ks : List Bool} {h h' : Heap} {v : Value} {ns : List Int} (x : TupNums ks h v ns) (k : ∀ b o, h.get? b = some o → o.cls = .type "tuple" → h'.get? b = some o) : TupNums ks h' v ns := by
  obtain ⟨a, xs, e, ⟨o, ho, hc, hd⟩, i⟩ := x
  exact ⟨a, xs, e, ⟨o, k _ _ ho hc, hc, hd⟩, i⟩
theorem TupNums.inj {ks : List Bool} {h : Heap} {v : Value} {ns ms : List Int} (x : TupNums ks h v ns) (y : TupNums ks h v ms) : ns = ms := by
  obtain ⟨a, xs, rfl, ⟨o, ho, hc, n, hd⟩, i⟩ := x
  obtain ⟨a', xs', e, ⟨o', ho', hc', n', hd'⟩, i'⟩ := y
  cases e
  rw [ho] at ho'; cases ho'
  rw [hd] at hd'; cases hd'
  exact i.inj i'
def NumsOk (ks : List Bool) (h : Heap) (B : Int) (vs : List Value) : Prop := ∀ v, v ∈ vs → ∃ ns, TupNums ks h v ns ∧ TS.Bd B ns
theorem NumsOk.keeps {ks : List Bool} {h h' : Heap} {B : Int} {vs : List Value} (x : NumsOk ks h B vs) (k : ∀ b o, h.get? b = some o → o.cls = .type "tuple" → h'.get? b = some o) : NumsOk ks h' B vs := fun v hv =>
  let ⟨ns, t, r⟩ := x v hv; ⟨ns, t.keeps k, r⟩
theorem firsts_nums {h : Heap} {ks : List Bool} {B : Int} : ∀ vs : List Value, NumsOk (false :: ks) h B vs → ∃ fs, PySem.W.KatTups h vs fs ∧ fs.length = vs.length ∧ ∀ f, f ∈ fs → ∃ n t, f = Value.int n t
  | [], _ => ⟨[], PySem.W.KatTups.nil, rfl, fun f hf => by simp at hf⟩
  | v :: vs, x => by
    obtain ⟨fs, k, hl, hi⟩ := firsts_nums vs fun u hu => x u (List.mem_cons_of_mem _ hu)
    obtain ⟨ns, ⟨a, xs, rfl, ⟨o, ho, hc, n, hdt⟩, i⟩, _⟩ := x v (List.mem_cons_self ..)
    obtain ⟨y, ys, m, t, e, hy⟩ : ∃ y ys m t, xs.toList = y :: ys ∧ y = Value.int m t := by
      generalize xs.toList = l at i
      cases i with
      | int m t _ => exact ⟨_, _, m, t, rfl, rfl⟩
    refine ⟨y :: fs, PySem.W.KatTups.cons ho hc hdt ?_ k, by simp [hl], ?_⟩
    · have z := congrArg (fun l : List Value => l[0]?) e
      simpa using z
    · intro f hf
      rcases List.mem_cons.mp hf with rfl | hf
      · exact ⟨m, t, hy⟩
      · exact hi f hf
section
variable {prog : Program} {w : World} {A : Around} {E : Value → Shared → Prop} {s : Shared}
theorem kind_nums {ks : List Bool} {B : Int} {vs : List Value} (h2 : 2 ≤ vs.length) (x : NumsOk (false :: ks) s.heap B vs) (r : Value → Int) (hr : ∀ v, v ∈ vs → ∀ ns, TupNums (false :: ks) s.heap v ns → r v = TS.code B ns) (Q : SortKind → Shared → Prop)
    (h : ∀ κ, TS.Cmp prog w A s κ (pairsOf vs) r → Q κ s) : wpAny (model prog w) A (keyKind' vs.toArray) Q E s := by
  obtain ⟨fs, k, hl, hi⟩ := firsts_nums vs x
  refine PySem.W.kat_kind (T := Value.type "int") k (by omega) (fun f hf => ?_) rfl (h _ ?_)
  · obtain ⟨n, t, rfl⟩ := hi f hf
    exact PySem.W.Looks.of_pure rfl
  · intro p q hp hq Q' E' hQ
    rw [pairsOf_toList] at hp hq
    obtain ⟨ns, tp, bp⟩ := x _ (mem_zip_self hp).2
    obtain ⟨ms, tq, bq⟩ := x _ (mem_zip_self hq).2
    have ep := hr _ (mem_zip_self hp).2 _ tp
    have eq2 := hr _ (mem_zip_self hq).2 _ tq
    have hQ' : Q' (decide (TS.code B ns < TS.code B ms)) s := by
      have z : decide (r p.1 < r q.1) = decide (TS.code B ns < TS.code B ms) := by rw [ep, eq2]
      rw [← z]; exact hQ
    obtain ⟨a, xs, e1, ⟨o, ho, hc, n, hdt⟩, i⟩ := tp
    obtain ⟨a', ys, e2, ⟨o', ho', hc', n', hdt'⟩, i'⟩ := tq
    rw [e1, e2]
    refine PySem.W.kat_lt ho hdt ho' hdt' ?_
    have sz : decide (xs.size < ys.size) = false := by
      have l1 := i.length.1
      have l2 := i'.length.1
      rw [Array.length_toList] at l1 l2
      exact decide_eq_false (by omega)
    rw [sz]
    exact lex_nums 0 (.inr (by simp)) i i' bp bq hQ'
theorem sort_nums {ks : List Bool} {a : Addr} {vs : List Value} {n : Nat} {B : Int} {P : PySem.Fin → Shared → Prop} (ho : s.heap.get? a = some (seqObj "list" vs.toArray n)) (h64 : vs.length < 64) (x : NumsOk (false :: ks) s.heap B vs)
    (r : Value → Int) (hr : ∀ v, v ∈ vs → ∀ ns, TupNums (false :: ks) s.heap v ns → r v = TS.code B ns)
    (h : ∀ out : Array Value, out.toList.Perm vs → out.toList.Pairwise (fun u v => r u ≤ r v) → P (.done (.ret .none)) { s with heap := sortedHeap s.heap a vs out }) :
    wpAny (model prog w) A (Builtin.«list.sort» ⟨[.ref a], []⟩) P E s := by
  have keep : ∀ b o, s.heap.get? b = some o → o.cls = .type "tuple" → (TS.midHeap s.heap a vs).get? b = some o := fun b o e hc => by
    refine TS.midHeap_old ?_ e
    rintro rfl
    rw [ho] at e
    have e' : seqObj "list" vs.toArray n = o := Option.some.inj e
    rw [← e'] at hc
    have c' : Value.type "list" = Value.type "tuple" := hc
    injection c' with c''
    exact absurd c'' (by decide)
  refine SK.plain_sort (r := r) ho h64 (fun h2 Q hQ => ?_) fun ps out h1 h2 h3 => ?_
  · refine kind_nums (s := { s with heap := TS.midHeap s.heap a vs }) h2 (x.keeps keep) r (fun v hv ns t => ?_) Q hQ
    obtain ⟨ns0, t0, _⟩ := x v hv
    rw [t.inj (t0.keeps keep)]
    exact hr v hv ns0 t0
  · obtain ⟨p, o⟩ := TS.out_rank h1 h2 h3
    exact h out p o
end

/-! ### the dict of walks -/
def wkL (w : Wk) : List Leaf := [.num w.h, .num w.b, .num w.e, .num w.wi, .num w.r]
def wkN (w : Wk) : List Int := [w.h, w.b, w.e, w.wi, w.r]
def wkK : List Bool := [false, false, false, true, false]
theorem wkL_inj {v w : Wk} (e : wkL v = wkL w) : v = w := by
  unfold wkL at e
  injection e with e1 e; injection e with e2 e; injection e with e3 e; injection e with e4 e; injection e with e5 _
  injection e1 with e1; injection e2 with e2; injection e3 with e3; injection e4 with e4; injection e5 with e5
  obtain ⟨h, b, e, wt, r⟩ := v
  obtain ⟨h', b', e', wt', r'⟩ := w
  dsimp only at *
  have x1 : h = h' := by omega
  have x2 : b = b' := by omega
  have x3 : e = e' := by omega
  have x5 : r = r' := by omega
  have x4 : wt = wt' := by
    revert e4
    unfold Wk.wi
    cases wt <;> cases wt' <;> simp
  subst x1 x2 x3 x4 x5
  rfl
abbrev LK (P : Program) (w : World) : HeapKind P w (List Leaf) := tupleKind (leafKind P w)
def entW (q : Wk × Addr) : List Leaf × Addr × Value := (wkL q.1, q.2, .bool true)
def DictW (P : Program) (w : World) (h : Heap) (a : Addr) (L : List (Wk × Addr)) : Prop := (a == sysModules) = false ∧ ∃ o es ep, h.get? a = some o ∧ o.ExactDict ∧ o.data = .dict es ep ∧
  es.toList = (L.map entW).map (entryOfKey (LK P w)) ∧ (L.map (·.1)).Nodup
def DWO (P : Program) (w : World) (a : Addr) (L : List (Wk × Addr)) : HO := .ext fun h => DictW P w h a L
theorem dwo_new {P : Program} {w : World} {H : Hp} {h : Heap} {a : Addr} {L : List (Wk × Addr)} (R : DictW P w h a L) : ObjOk P w H h a (DWO P w a L) := by
  refine ⟨R, ?_, fun h1 h2 R1 k => ?_⟩
  · obtain ⟨_, o, _, _, e, _⟩ := R
    exact ⟨o, e⟩
  · obtain ⟨z, o, es, ep, e, r⟩ := R1
    exact ⟨z, o, es, ep, k _ e, r⟩
theorem items_wk {P : Program} {w : World} {v : Wk} {us : List Value} (h : Vals (wkV v) us) : PySem.ItemsAre (leafKind P w) (wkL v) us ∧ NumsAre wkK us (wkN v) := by
  unfold wkV at h
  cases h with
  | cons r1 h =>
    cases h with
    | cons r2 h =>
      cases h with
      | cons r3 h =>
        cases h with
        | cons r4 h =>
          cases h with
          | cons r5 h =>
            cases h
            obtain ⟨t1, rfl⟩ := r1
            obtain ⟨t2, rfl⟩ := r2
            obtain ⟨t3, rfl⟩ := r3
            obtain ⟨t5, rfl⟩ := r5
            cases r4
            have hw : Leaf.isOf (.num v.wi) (.bool v.wet) = true := by
              unfold Wk.wi
              cases v.wet <;> rfl
            have hb : b2i v.wet = v.wi := by
              unfold Wk.wi
              cases v.wet <;> rfl
            refine ⟨.cons (decide_eq_true rfl) (.cons (decide_eq_true rfl) (.cons (decide_eq_true rfl) (.cons hw (.cons (decide_eq_true rfl) .nil)))), ?_⟩
            show NumsAre wkK _ [_, _, _, v.wi, _]
            rw [← hb]
            exact .int _ _ (.int _ _ (.int _ _ (.bl _ (.int _ _ .nil))))
theorem wk_at {X : Cx} {pins : List (Addr × Obj)} {σ : L2.St} {H : Hp} {s : Shared} {b : Addr} {v : Wk} (I : Inv X pins σ H s) (h : SqT X.K H b (wkV v)) : IsTupleKey (leafKind X.prog X.w) s.heap (wkL v) b ∧ TupNums wkK s.heap (.ref b) (wkN v) := by
  obtain ⟨its, r, ⟨o, ho, hc, n, hd⟩, _⟩ := I.tuple h
  obtain ⟨i1, i2⟩ := items_wk (P := X.prog) (w := X.w) r
  exact ⟨⟨o, _, n, ho, hc, hd, i1⟩, b, _, rfl, ⟨o, ho, hc, n, hd⟩, i2⟩
def putW (L : List (Wk × Addr)) (v : Wk) (b : Addr) : List (Wk × Addr) := if v ∈ L.map (·.1) then L else L ++ [(v, b)]
theorem atKey_wk (L : List (Wk × Addr)) (v : Wk) : (atKey (L.map entW) (wkL v)).isSome = decide (v ∈ L.map (·.1)) := by
  unfold atKey
  rw [Option.isSome_map]
  apply Bool.eq_iff_iff.mpr
  rw [List.find?_isSome]
  simp only [decide_eq_true_eq, List.mem_map]
  constructor
  · rintro ⟨x, ⟨q, hq, rfl⟩, e⟩
    exact ⟨q, hq, wkL_inj e⟩
  · rintro ⟨q, hq, e⟩
    exact ⟨entW q, ⟨q, hq, rfl⟩, by show wkL q.1 = wkL v; rw [e]⟩
theorem stored_wk (L : List (Wk × Addr)) (v : Wk) (b : Addr) : storedH (L.map entW) (wkL v) b (.bool true) = (putW L v b).map entW := by
  unfold storedH putW
  rw [atKey_wk]
  by_cases h : v ∈ L.map (·.1)
  · rw [if_pos (decide_eq_true h), if_pos h, List.map_map]
    refine List.map_congr_left fun q _ => ?_
    show putAt (wkL v) (.bool true) (entW q) = entW q
    unfold putAt
    split <;> rfl
  · rw [if_neg (by simpa using h), if_neg h, List.map_append]
    rfl
theorem putW_nodup {L : List (Wk × Addr)} (h : (L.map (·.1)).Nodup) (v : Wk) (b : Addr) : ((putW L v b).map (·.1)).Nodup := by
  unfold putW
  split
  · exact h
  · rename_i hn
    rw [List.map_append, List.nodup_append]
    refine ⟨h, by simp, ?_⟩
    intro x hx y hy e
    simp at hy
    subst hy
    exact hn (e ▸ hx)
theorem dictW_full {X : Cx} {pins : List (Addr × Obj)} {σ : L2.St} {H : Hp} {s : Shared} {a : Addr} {L : List (Wk × Addr)} (I : Inv X pins σ H s) (R : DictW X.prog X.w s.heap a L) (hk : ∀ q ∈ L, SqT X.K H q.2 (wkV q.1)) : s.heap.DictOfH (LK X.prog X.w) a (L.map entW) := by
  obtain ⟨_, o, es, ep, h1, h2, h3, h4, h5⟩ := R
  refine ⟨o, es, ep, h1, h2, h3, h4, fun x hx => ?_, ?_⟩
  · obtain ⟨q, hq, rfl⟩ := List.mem_map.mp hx
    exact (wk_at I (hk q hq)).1
  · rw [List.map_map]
    rw [List.Nodup, List.pairwise_map] at h5 ⊢
    exact List.Pairwise.imp (fun {p q} ne e => ne (wkL_inj e)) h5
/-- {}, to be a dict of walks -/
def tDNewW (P : Program) (w : World) : TE := fun _ H Q => ∀ p, H p = none → Q (.ref p) (upd H p (DWO P w p []))
theorem pe_dnewW {X : Cx} {pos : Pos} : PE X (.Dict [] [] pos) (tDNewW X.prog X.w) := ⟨fun pins s σ H Q I h =>
  wpAny_Dict_empty ⟨.ref s.heap.objs.size, _, I.laid (a := s.heap.objs.size) (o := DWO X.prog X.w s.heap.objs.size []) (t' := s.toks) (fun _ _ q => Heap.get?_push_of_some _ q) (Nat.le_refl _)
    (dwo_new ⟨beq_eq_false_iff_ne.mpr (Ne.symm (Nat.ne_of_lt I.big)), _, #[], 0, Heap.get?_push_size _ rfl, ⟨rfl, rfl, rfl⟩, rfl, rfl, List.nodup_nil⟩), rfl, h _ (I.hok.fresh (Nat.le_refl _))⟩⟩
/-- d[walk] = True -/
def sWPut (K : PySem.W.Frag) (P : Program) (w : World) (td ty tv : TE) : TS := fun D σ H => tv σ H fun v H1 => td σ H1 fun x H2 => ty σ H2 fun y H3 => ∃ a b L k, v = .bl true ∧ x = .ref a ∧ y = .ref b ∧ H3 a = some (DWO P w a L) ∧
  (∀ q ∈ L, SqT K H3 q.2 (wkV q.1)) ∧ SqT K H3 b (wkV k) ∧ L.length < 1000 ∧ D.nx σ (upd H3 a (DWO P w a (putW L k b)))
theorem ps_dputW {X : Cx} {o i value : Expr} {td ty tv : TE} {pos pos' : Pos} (hu : X.A.units + 1 < cLine) (ho : PE X o td) (hi : PE X i ty) (hv : PE X value tv) (hs : swapsWith value (some (.Subscript o i pos')) pos.line X.env = pure false) :
    PS X (.Assign [.Subscript o i pos'] value pos) (sWPut X.K X.prog X.w td ty tv) := by
  refine ⟨fun pins s σ H D I h => ?_⟩
  refine wpAny_Assign_Subscript (thn (hv.run pins s σ H _ I h) fun r s1 ⟨v, H1, I1, rv, q1⟩ => thn (ho.run pins s1 σ H1 _ I1 q1) fun u s2 ⟨x, H2, I2, rx, q2⟩ => thn (hi.run pins s2 σ H2 _ I2 q2) fun iv s3 ⟨y, H3, I3, ry, a, b, L, k, ev, ex, ey, ha, hk, hb, hl, q3⟩ => ?_) hs
  subst ev ex ey
  obtain rfl : u = Value.ref a := rx
  obtain rfl : iv = Value.ref b := ry
  obtain rfl : r = Value.bool true := rv
  have R : DictW X.prog X.w s3.heap a L := (I3.hok a _ ha).1
  have dd := dictW_full I3 R hk
  refine wpAny_setItem_heap (hsz := by rw [List.length_map, sizeLine_eq]; omega) (tupleKind_room_in1 hu) (wk_at I3 hb).1 dd fun h' dd' hs' => ?_
  rw [stored_wk] at dd'
  obtain ⟨q, es, ep, hq, h2, h3, h4, _, _⟩ := dd'
  exact ⟨σ, _, d_write I3 (by rw [ha]; exact True.intro) hs' ⟨q, hq⟩ (dwo_new ⟨R.1, q, es, ep, hq, h2, h3, h4, putW_nodup (by obtain ⟨_, _, _, _, _, _, _, _, h5⟩ := R; exact h5) k b⟩), q3⟩
/-- sorted(d), the keys -/
def rSortedW (K : PySem.W.Frag) (P : Program) (w : World) : List V → Hp → VK → Prop := fun vs H Q => ∃ (a : Addr) (L : List (Wk × Addr)), vs = [V.ref a] ∧ H a = some (DWO P w a L) ∧ (∀ q ∈ L, SqT K H q.2 (wkV q.1)) ∧ L.length < 64 ∧ (∀ q ∈ L, TS.Bd 1000 (wkN q.1)) ∧
  ∀ (L' : List (Wk × Addr)) (p : Addr), L'.Perm L → (L'.map (·.1)).Nodup → L'.Pairwise (fun q r => TS.code 1000 (wkN q.1) ≤ TS.code 1000 (wkN r.1)) → H p = none → Q (.ref p) (upd H p (.lst (L'.map fun q => V.ref q.2)))
theorem vals_refs2 : ∀ (ks : List (Wk × Addr)), Vals (ks.map fun p => V.ref p.2) (ks.map fun p => Value.ref p.2)
  | [] => .nil
  | _ :: ks => .cons rfl (vals_refs2 ks)
theorem each_get {α β : Type} {f : β → α} : ∀ {l : List α} {L : List β}, l.length = L.length → (∀ (j : Nat) (v : α), l[j]? = some v → ∃ q, L[j]? = some q ∧ v = f q) → l = L.map f
  | [], [], _, _ => rfl
  | [], _ :: _, h, _ => by simp at h
  | _ :: _, [], h, _ => by simp at h
  | x :: l, q :: L, h, k => by
    obtain ⟨q', e1, e2⟩ := k 0 x rfl
    simp at e1
    subst e1
    rw [List.map_cons, ← e2, each_get (l := l) (L := L) (by simpa using h) (fun j v e => by
      have := k (j + 1) v (by simpa using e)
      simpa using this)]
theorem cr_sortedW {X : Cx} (hc : X.calm = true) : CallR X (.builtin "sorted") (rSortedW X.K X.prog X.w) := by
  intro pins s σ H vs us Q I r h
  obtain ⟨a, L, rfl, ha, hk, h64, hB, q⟩ := h
  have R : DictW X.prog X.w s.heap a L := (I.hok a _ ha).1
  rw [Vals.ref1 r]
  obtain ⟨lo, o, es, ep, h1, h2, h3, h4, h5⟩ := id R
  have hsz : es.size = L.length := by
    have := congrArg List.length h4
    simpa using this
  refine Calls.call_function_entry PyProof.Rows.kind_sorted PyProof.Rows.plain_sorted PyProof.Rows.entry_sorted (PyProof.Rows.args_sorted1 _) ?_
  unfold Builtin.«sorted»
  refine wpAny_bind (m := checkCount "sorted" 1 1 _) (wpAny_pure ?_)
  refine wpAny_bind (PySem.W.kdu_collect (A := X.A.in1) (KdlSrc.rawDict (prog := X.prog) (w := X.w) (d := a) (es := es) (ep := ep) lo) (I.ok.hd hc) ⟨o, h1, h2, h3⟩ (by rw [hsz, sizeLine_eq]; omega) fun h' tk acc hk' hacc => ?_)
  have hal : acc.toList.length = L.length := by rw [Array.length_toList, hacc.1, hsz]
  have hS : acc.toList = L.map fun q => Value.ref q.2 := each_get hal fun j v e => by
    obtain ⟨hj, e2⟩ := hacc.2 j v (by rw [← Array.getElem?_toList]; exact e)
    have hjL : j < L.length := by omega
    refine ⟨L[j], List.getElem?_eq_getElem hjL, ?_⟩
    have e3 : es[j]? = some es[j] := Array.getElem?_eq_getElem hj
    rw [← Array.getElem?_toList, h4] at e3
    simp only [List.getElem?_map, List.getElem?_eq_getElem hjL, Option.map_some, Option.some.injEq] at e3
    rw [e2, ← e3]
    rfl
  have I1 : Inv X pins σ H { s with heap := h', toks := tk } := I.kept hk'
  refine wpAny_bind (wpAny_newList ?_ (by rw [hal, sizeLine_eq]; omega))
  have hoL : (h'.push (seqObj "list" acc.toList.toArray 0)).get? h'.objs.size = some (seqObj "list" acc.toList.toArray 0) := Heap.get?_push_size _ rfl
  show wpAny _ _ _ _ _ { s with heap := h'.push (seqObj "list" acc.toList.toArray 0), toks := tk }
  have keep : ∀ b u, h'.get? b = some u → (h'.push (seqObj "list" acc.toList.toArray 0)).get? b = some u := fun b u e => Heap.get?_push_of_some _ e
  have tk1 : ∀ q ∈ L, TupNums wkK (h'.push (seqObj "list" acc.toList.toArray 0)) (.ref q.2) (wkN q.1) := fun q hq => (wk_at I1 (hk q hq)).2.keeps fun b u e _ => keep b u e
  have x : NumsOk wkK (h'.push (seqObj "list" acc.toList.toArray 0)) 1000 acc.toList := fun v hv => by
    rw [hS] at hv
    obtain ⟨q, hq, rfl⟩ := List.mem_map.mp hv
    exact ⟨_, tk1 q hq, hB q hq⟩
  have key1 : ∀ p ∈ L, ∀ q ∈ L, p.2 = q.2 → p = q := fun p hp q hq e => by
    have a1 := (wk_at I1 (hk p hp)).1
    have a2 := (wk_at I1 (hk q hq)).1
    rw [e] at a1
    exact Prod.ext (wkL_inj (a1.inj a2)) e
  let rk : Value → Int := fun v => match L.find? (fun q => decide (Value.ref q.2 = v)) with
    | some q => TS.code 1000 (wkN q.1)
    | none => 0
  have rk_eq : ∀ q ∈ L, rk (.ref q.2) = TS.code 1000 (wkN q.1) := fun q hq => by
    show (match L.find? (fun p => decide (Value.ref p.2 = Value.ref q.2)) with
      | some q => TS.code 1000 (wkN q.1)
      | none => 0) = _
    cases e : L.find? (fun p => decide (Value.ref p.2 = Value.ref q.2)) with
    | none =>
      have := List.find?_eq_none.mp e q hq
      simp at this
    | some p =>
      have h1 := List.mem_of_find?_eq_some e
      have h2 := List.find?_some e
      simp at h2
      have := key1 p h1 q hq h2
      rw [this]
  refine wpAny_bind (wpAny_holding (wpAny_call_entry PyProof.Rows.slot_list_sort ⟨_, hoL, rfl⟩ PyProof.Rows.entry_list_sort
    (sort_nums (ks := [false, false, true, false]) (s := { s with heap := h'.push (seqObj "list" acc.toList.toArray 0), toks := tk }) hoL (by rw [hal]; exact h64) x rk (fun v hv ns t => ?_) fun out g1 g2 => ⟨_, rfl, ?_⟩) (PyProof.Rows.args_list_sort _)))
  · rw [hS] at hv
    obtain ⟨q, hq, rfl⟩ := List.mem_map.mp hv
    rw [rk_eq q hq]
    have e := t.inj (tk1 q hq)
    rw [e]
  obtain ⟨e', he'⟩ := PyProof.Rows.sortedHeap_at (vs := acc.toList) (out := out) hoL
  rw [hS] at g1
  obtain ⟨L', hout, hm⟩ : ∃ L' : List (Wk × Addr), out.toList = L'.map (fun q => Value.ref q.2) ∧ ∀ q ∈ L', q ∈ L := by
    have ord : ∀ vs : List Value, (∀ v ∈ vs, ∃ q ∈ L, v = Value.ref q.2) → ∃ L1 : List (Wk × Addr), vs = L1.map (fun q => Value.ref q.2) ∧ ∀ q ∈ L1, q ∈ L := by
      intro vs
      induction vs with
      | nil => intro _; exact ⟨[], rfl, fun q hq => (by cases hq)⟩
      | cons v vs ih =>
        intro hv
        obtain ⟨q, hq, e⟩ := hv v List.mem_cons_self
        obtain ⟨L1, e1, hs⟩ := ih fun u hu => hv u (List.mem_cons_of_mem _ hu)
        refine ⟨q :: L1, by rw [List.map_cons, e, e1], fun r hr => ?_⟩
        rcases List.mem_cons.mp hr with z | z
        · rw [z]; exact hq
        · exact hs r z
    exact ord _ fun v hv => by
      obtain ⟨q, hq, e⟩ := List.mem_map.mp (g1.mem_iff.mp hv)
      exact ⟨q, hq, e.symm⟩
  have nL : L.Nodup := L2.nodup_of_map h5
  have nref : (L.map fun q => Value.ref q.2).Nodup := by
    refine List.pairwise_map.mpr (List.Pairwise.imp_of_mem (fun {q r} hq hr hne e => ?_) nL)
    injection e with e
    exact hne (key1 q hq r hr e)
  have pL : L'.Perm L := by
    rw [hout] at g1
    have n1 : L'.Nodup := L2.nodup_of_map (g1.nodup_iff.mpr nref)
    refine (List.perm_ext_iff_of_nodup n1 nL).mpr fun q => ⟨hm q, fun hq => ?_⟩
    have hm2 : Value.ref q.2 ∈ L'.map (fun q => Value.ref q.2) := g1.mem_iff.mpr (List.mem_map.mpr ⟨q, hq, rfl⟩)
    obtain ⟨r, hr, e⟩ := List.mem_map.mp hm2
    injection e with e
    rw [← key1 r (hm r hr) q hq e]
    exact hr
  have pw : L'.Pairwise (fun q r => TS.code 1000 (wkN q.1) ≤ TS.code 1000 (wkN r.1)) := by
    rw [hout] at g2
    refine List.Pairwise.imp_of_mem (fun {q r} hq hr hle => ?_) (List.pairwise_map.mp g2)
    rw [← rk_eq q (hm q hq), ← rk_eq r (hm r hr)]
    exact hle
  have hlen : (L'.map fun q => V.ref q.2).length ≤ sizeLine := by
    rw [List.length_map, pL.length_eq]
    exact Nat.le_trans (Nat.le_of_lt h64) (by decide)
  have hn : H h'.objs.size = none := I1.hok.fresh (Nat.le_refl _)
  refine wpAny_pure ⟨_, rfl, .ref h'.objs.size, upd H h'.objs.size (.lst (L'.map fun q => V.ref q.2)), I1.laid (t' := tk) (fun b u e => ?_) (Nat.le_refl _) ⟨hlen, out.toList, e', by rw [hout]; exact vals_refs2 L', by rw [Array.toArray_toList]; exact he'⟩, rfl, q L' _ pL ((pL.map (·.1)).nodup_iff.mpr h5) pw hn⟩
  have hlt := Heap.lt_size e
  show (sortedHeap (h'.push (seqObj "list" acc.toList.toArray 0)) h'.objs.size acc.toList out).get? b = some u
  rw [sortedHeap_old (Nat.ne_of_lt hlt) (by rw [size_push']; exact Nat.lt_succ_of_lt hlt)]
  exact Heap.get?_push_of_some _ e
end HX

/-! Lists of tuples and of lists; flows and what they have found, in the heap. -/
namespace HX
open PySem PySem.Spec PyProof.Rows L2 Dry

/-! ### lists of sequences -/
structure Refs (b : Bool) (K : PySem.W.Frag) (H : Hp) (rs : List V) (vss : List (List V)) : Prop where
  len : rs.length = vss.length
  at_ : ∀ (i : Nat) (vs : List V), vss[i]? = some vs → ∃ x : Addr, rs[i]? = some (V.ref x) ∧ SqB K b H x vs
theorem Refs.nil {b : Bool} {K : PySem.W.Frag} {H : Hp} : Refs b K H [] [] := ⟨rfl, fun i vs h => by simp at h⟩
theorem Refs.same {b : Bool} {K : PySem.W.Frag} {H H' : Hp} {rs : List V} {vss : List (List V)} (e : Same H H') (h : Refs b K H rs vss) : Refs b K H' rs vss :=
  ⟨h.len, fun i vs hi => let ⟨x, h1, h2⟩ := h.at_ i vs hi; ⟨x, h1, e.sqB h2⟩⟩
theorem Refs.tx {K : PySem.W.Frag} {H H' : Hp} {rs : List V} {vss : List (List V)} (e : Tx H H') (h : Refs true K H rs vss) : Refs true K H' rs vss :=
  ⟨h.len, fun i vs hi => let ⟨x, h1, h2⟩ := h.at_ i vs hi; ⟨x, h1, e.tup h2⟩⟩
theorem Refs.snoc {b : Bool} {K : PySem.W.Frag} {H : Hp} {rs : List V} {vss : List (List V)} {x : Addr} {vs : List V} (h : Refs b K H rs vss) (hx : SqB K b H x vs) : Refs b K H (rs ++ [V.ref x]) (vss ++ [vs]) := by
  refine ⟨by simp [h.len], fun i us hi => ?_⟩
  rw [List.getElem?_append] at hi
  by_cases hl : i < vss.length
  · rw [if_pos hl] at hi
    obtain ⟨y, h1, h2⟩ := h.at_ i us hi
    exact ⟨y, by rw [List.getElem?_append, if_pos (by rw [h.len]; exact hl)]; exact h1, h2⟩
  · rw [if_neg hl] at hi
    have e : i - vss.length = 0 := by
      by_cases z : i - vss.length = 0
      · exact z
      · rw [List.getElem?_eq_none (by simp; omega)] at hi; cases hi
    rw [e] at hi
    simp at hi
    subst hi
    exact ⟨x, by rw [List.getElem?_append, if_neg (by rw [h.len]; exact hl), h.len, e]; rfl, hx⟩
theorem Refs.get {b : Bool} {K : PySem.W.Frag} {H : Hp} {rs : List V} {vss : List (List V)} (h : Refs b K H rs vss) {i : Nat} {x : V} (hx : rs[i]? = some x) : ∃ vs a, vss[i]? = some vs ∧ x = .ref a ∧ SqB K b H a vs := by
  have hl := (List.getElem?_eq_some_iff.mp hx).1
  have hw : vss[i]? = some (vss[i]'(by rw [← h.len]; exact hl)) := List.getElem?_eq_getElem _
  obtain ⟨y, h1, h2⟩ := h.at_ i _ hw
  rw [hx] at h1
  exact ⟨_, y, hw, Option.some.inj h1, h2⟩
theorem take_succ_get {α : Type} {l : List α} {i : Nat} {x : α} (h : l[i]? = some x) : l.take (i + 1) = l.take i ++ [x] := by
  obtain ⟨hl, rfl⟩ := List.getElem?_eq_some_iff.mp h
  exact List.take_succ_eq_append_getElem hl
theorem range_succ_map {α : Type} (f : Nat → α) (n : Nat) : (List.range (n + 1)).map f = (List.range n).map f ++ [f n] := by rw [List.range_succ, List.map_append]; rfl
/-- the i-th item of a list of ints -/
theorem vI_inv {ns : List Int} {i : Nat} {x : V} (h : (vI ns)[i]? = some x) : ∃ n, ns[i]? = some n ∧ x = .int n := by
  rw [List.getElem?_map] at h
  cases e : ns[i]? with
  | none => rw [e] at h; cases h
  | some n => rw [e] at h; exact ⟨n, rfl, (Option.some.inj h).symm⟩
theorem getD_of {ns : List Int} {i : Nat} {n : Int} (h : ns[i]? = some n) : ns.getD i 0 = n := by simp [List.getD_eq_getElem?_getD, h]
theorem zip3_take (f : Int → Int → Int → Int) : ∀ (a b c : List Int) (i : Nat) (x y z : Int), a[i]? = some x → b[i]? = some y → c[i]? = some z → (zip3 f a b c)[i]? = some (f x y z)
  | [], _, _, _, _, _, _, h, _, _ => by simp at h
  | _ :: _, [], _, _, _, _, _, _, h, _ => by simp at h
  | _ :: _, _ :: _, [], _, _, _, _, _, _, h => by simp at h
  | a :: as, b :: bs, c :: cs, 0, x, y, z, h1, h2, h3 => by
    simp at h1 h2 h3
    subst h1 h2 h3
    rfl
  | a :: as, b :: bs, c :: cs, i + 1, x, y, z, h1, h2, h3 => by
    have := zip3_take f as bs cs i x y z (by simpa using h1) (by simpa using h2) (by simpa using h3)
    simpa [zip3] using this
theorem zipW_get {a b : List Int} {f : Int → Int → Int} {i : Nat} {x y : Int} (h1 : a[i]? = some x) (h2 : b[i]? = some y) : (List.zipWith f a b)[i]? = some (f x y) := by
  simp [List.getElem?_zipWith, h1, h2]

/-! ### flows -/
def ff (a g wa c m : Addr) : List (Str × V) := [("day", .ref a), ("given", .ref g), ("wanted", .ref wa), ("carried", .ref c), ("more", .ref m)]
section
variable {a g wa c m : Addr}
theorem ff_day : (ff a g wa c m).lookup ("day" : Str) = some (V.ref a) := rfl
theorem ff_given : (ff a g wa c m).lookup ("given" : Str) = some (V.ref g) := rfl
theorem ff_wanted : (ff a g wa c m).lookup ("wanted" : Str) = some (V.ref wa) := rfl
theorem ff_carried : (ff a g wa c m).lookup ("carried" : Str) = some (V.ref c) := rfl
theorem ff_more : (ff a g wa c m).lookup ("more" : Str) = some (V.ref m) := rfl
theorem ff_no1 : (ff a g wa c m).lookup ("starts" : Str) = none := rfl
theorem ff_no2 : (ff a g wa c m).lookup ("waits" : Str) = none := rfl
theorem ff_no3 : (ff a g wa c m).lookup ("steps" : Str) = none := rfl
theorem ff_no4 : (ff a g wa c m).lookup ("reached" : Str) = none := rfl
theorem ff_no5 : (ff a g wa c m).lookup ("lessen" : Str) = none := rfl
theorem ff_no6 : (ff a g wa c m).lookup ("settle" : Str) = none := rfl
theorem ff_no7 : (ff a g wa c m).lookup ("line" : Str) = none := rfl
theorem ff_put : putF "more" (.ref m) (putF "carried" (.ref c) (putF "wanted" (.ref wa) (putF "given" (.ref g) (putF "day" (.ref a) [])))) = ff a g wa c m := rfl
end
/-- what a flow is of -/
structure FlowS (K : PySem.W.Frag) (H : Hp) (d : Day) (a aw : Addr) (ds : List V) (g wa : Addr) (G W : List Int) : Prop where
  day : DayAt K H a aw ds d
  ok : d.Ok
  sm : d.Sm
  giv : SqT K H g (vI G)
  wan : SqT K H wa (vI W)
  lG : G.length = d.P
  lW : W.length = d.P
theorem FlowS.tx {K : PySem.W.Frag} {H H' : Hp} {d : Day} {a aw : Addr} {ds : List V} {g wa : Addr} {G W : List Int} (e : Tx H H') (h : FlowS K H d a aw ds g wa G W) : FlowS K H' d a aw ds g wa G W :=
  ⟨h.day.tx e, h.ok, h.sm, e.tup h.giv, e.tup h.wan, h.lG, h.lW⟩
/-- the flow itself -/
structure FlowO (C : Addr) (H : Hp) (p dx a g wa c m : Addr) (x : Fl) : Prop where
  ins : H p = some (.ins C dx (ff a g wa c m))
  car : H c = some (.lst (vI x.car))
  more : H m = some (.lst (vI x.more))
  cm : c ≠ m
theorem FlowO.same {C : Addr} {H H' : Hp} {p dx a g wa c m : Addr} {x : Fl} (e : Same H H') (h : FlowO C H p dx a g wa c m x) : FlowO C H' p dx a g wa c m x :=
  ⟨e _ _ h.ins, e _ _ h.car, e _ _ h.more, h.cm⟩
structure Ctx (K : PySem.W.Frag) (C : Addr) : Prop where
  cl : Cls K C
  day : NoAttr K C "day"
  given : NoAttr K C "given"
  wanted : NoAttr K C "wanted"
  carried : NoAttr K C "carried"
  more : NoAttr K C "more"

/-! ### what is found -/
def numV : Option Nat → V
  | none => .non
  | some n => .int (n : Int)
def stpV (s : Stp) : List V := [.int (s.1 : Int), .int (s.2.1 : Int), numV s.2.2.1, .int s.2.2.2]
def ndV (n : Nd) : List V := [.int (n.1 : Int), .int (n.2 : Int)]
def ndK (n : Nd) : List L2.Key := [.inl (n.1 : Int), .inl (n.2 : Int)]
theorem ndK_V (n : Nd) : (ndK n).map kV = ndV n := rfl
theorem ndK_inj {n m : Nd} (e : ndK n = ndK m) : n = m := by
  unfold ndK at e
  injection e with e1 e; injection e with e2 _
  injection e1 with e1; injection e2 with e2
  exact Prod.ext (by omega) (by omega)
def WayAt (H : Hp) (v : V) : Way → Prop
  | none => v = .non
  | some (here, num, sg) => ∃ t h : Addr, v = .ref t ∧ H t = some (.tup [.ref h, numV num, .int sg]) ∧ H h = some (.tup (ndV here))
/-- tuples stay -/
def Tp (H H' : Hp) : Prop := ∀ a xs, H a = some (.tup xs) → H' a = some (.tup xs)
theorem Tp.of {H H' : Hp} (e : Same H H') : Tp H H' := fun a xs h => e a _ h
theorem Tp.trans {H H1 H2 : Hp} (a : Tp H H1) (b : Tp H1 H2) : Tp H H2 := fun x o h => b x o (a x o h)
theorem Tp.mutL {H : Hp} {p : Addr} {o : HO} {xs : List V} (hp : H p = some (.lst xs)) : Tp H (upd H p o) := fun a ys h => by
  rw [upd_ne (ne_of h hp (fun z => nomatch z))]; exact h
theorem Tp.mutD {H : Hp} {p : Addr} {o : HO} {xs : List (List L2.Key × V)} (hp : H p = some (.dT xs)) : Tp H (upd H p o) := fun a ys h => by
  rw [upd_ne (ne_of h hp (fun z => nomatch z))]; exact h
theorem WayAt.tp {H H' : Hp} (e : Tp H H') {v : V} : ∀ {w : Way}, WayAt H v w → WayAt H' v w
  | none, h => h
  | some (_, _, _), ⟨t, hh, e1, e2, e3⟩ => ⟨t, hh, e1, e _ _ e2, e _ _ e3⟩
def FdAt (H : Hp) (kvs : List (List L2.Key × V)) (f : Fd) : Prop := Paired (fun kv e => kv.1 = ndK e.1 ∧ WayAt H kv.2 e.2) kvs f
theorem FdAt.tp {H H' : Hp} (e : Tp H H') {kvs : List (List L2.Key × V)} {f : Fd} (h : FdAt H kvs f) : FdAt H' kvs f := L2.Paired.mapP h fun _ _ z => ⟨z.1, z.2.tp e⟩
theorem FdAt.length {H : Hp} {kvs : List (List L2.Key × V)} {f : Fd} (h : FdAt H kvs f) : kvs.length = f.length := Paired.length h
theorem paired_snoc {α β : Type} {F : α → β → Prop} {x : α} {y : β} (r : F x y) : ∀ {l : List α} {m : List β}, Paired F l m → Paired F (l ++ [x]) (m ++ [y])
  | _, _, .nil => .cons r .nil
  | _, _, .cons q t => .cons q (paired_snoc r t)
theorem FdAt.val {H : Hp} {kvs : List (List L2.Key × V)} {f : Fd} (h : FdAt H kvs f) (n : Nd) :
    (valV kvs (ndK n)).isSome = decide (n ∈ keys f) ∧ ∀ way, f.lookup n = some way → ∃ v, valV kvs (ndK n) = some v ∧ WayAt H v way := by
  induction h with
  | nil => exact ⟨rfl, fun way e => by cases e⟩
  | @cons kv e kvs f r t ih =>
    obtain ⟨k, v⟩ := kv
    obtain ⟨m, way⟩ := e
    obtain ⟨e1, e2⟩ := r
    dsimp only at e1 e2
    subst e1
    by_cases c : m = n
    · subst c
      rw [valV_pos (p := (ndK m, v)) rfl]
      refine ⟨?_, fun way' e => ?_⟩
      · simp [keys]
      · simp [List.lookup] at e
        subst e
        exact ⟨v, rfl, e2⟩
    · rw [valV_neg (p := (ndK m, v)) (fun z => c (ndK_inj z))]
      refine ⟨?_, fun way' e => ?_⟩
      · rw [ih.1]
        apply decide_eq_decide.mpr
        constructor
        · intro h
          simp only [keys, List.map_cons, List.mem_cons]
          exact .inr h
        · intro h
          simp only [keys, List.map_cons, List.mem_cons] at h
          rcases h with h | h
          · exact absurd h.symm c
          · exact h
      · have : (n == m) = false := beq_eq_false_iff_ne.mpr (fun z => c z.symm)
        simp only [List.lookup, this] at e
        exact ih.2 way' e
theorem FdAt.put {H : Hp} {kvs : List (List L2.Key × V)} {f : Fd} (h : FdAt H kvs f) {n : Nd} {v : V} {way : Way} (hn : n ∉ keys f) (hv : WayAt H v way) : FdAt H (putK kvs (ndK n) v) (f ++ [(n, way)]) := by
  have h0 := (h.val n).1
  rw [decide_eq_false hn] at h0
  rw [putK_new v (by cases e : valV kvs (ndK n) with | none => rfl | some _ => rw [e] at h0; cases h0)]
  exact paired_snoc ⟨rfl, hv⟩ h
/-! ### built-ins, their readings by name -/
def rTupOf (K : PySem.W.Frag) : List V → Hp → VK → Prop := fun xs H Q => ∃ p ys, xs = [.ref p] ∧ ((SqL K H p ys ∧ ∀ l, H l = none → Q (.ref l) (upd H l (.tup ys))) ∨ (SqT K H p ys ∧ Q (.ref p) H))
def rListOf (K : PySem.W.Frag) : List V → Hp → VK → Prop := fun xs H Q => ∃ p ys, xs = [.ref p] ∧ (SqL K H p ys ∨ SqT K H p ys) ∧ ∀ l, H l = none → Q (.ref l) (upd H l (.lst ys))
def rLenS (K : PySem.W.Frag) : List V → Hp → VK → Prop := fun xs H Q => ∃ p ys, xs = [.ref p] ∧ (SqL K H p ys ∨ SqT K H p ys) ∧ Q (.int ys.length) H
def rInt1 : List V → Hp → VK → Prop := fun xs H Q => (∃ i, xs = [.int i] ∧ Q (.int i) H) ∨ ∃ k, xs = [.bl k] ∧ Q (.int (if k then 1 else 0)) H
def rMax2 : List V → Hp → VK → Prop := fun xs H Q => ∃ i j, xs = [.int i, .int j] ∧ Q (.int (if j > i then j else i)) H
def rMin2 : List V → Hp → VK → Prop := fun xs H Q => ∃ i j, xs = [.int i, .int j] ∧ Q (.int (if j < i then j else i)) H
section
variable {K : PySem.W.Frag} {H : Hp} {Q : VK} {p : Addr} {ys : List V}
theorem c_tupL (h : SqL K H p ys) (q : ∀ l, H l = none → Q (.ref l) (upd H l (.tup ys))) : rTupOf K [.ref p] H Q := ⟨p, ys, rfl, .inl ⟨h, q⟩⟩
theorem c_tupT (h : SqT K H p ys) (q : Q (.ref p) H) : rTupOf K [.ref p] H Q := ⟨p, ys, rfl, .inr ⟨h, q⟩⟩
theorem c_lisL (h : SqL K H p ys) (q : ∀ l, H l = none → Q (.ref l) (upd H l (.lst ys))) : rListOf K [.ref p] H Q := ⟨p, ys, rfl, .inl h, q⟩
theorem c_lisT (h : SqT K H p ys) (q : ∀ l, H l = none → Q (.ref l) (upd H l (.lst ys))) : rListOf K [.ref p] H Q := ⟨p, ys, rfl, .inr h, q⟩
theorem c_lenL (h : SqL K H p ys) (q : Q (.int ys.length) H) : rLenS K [.ref p] H Q := ⟨p, ys, rfl, .inl h, q⟩
theorem c_lenT (h : SqT K H p ys) (q : Q (.int ys.length) H) : rLenS K [.ref p] H Q := ⟨p, ys, rfl, .inr h, q⟩
theorem c_intI {i : Int} (q : Q (.int i) H) : rInt1 [.int i] H Q := .inl ⟨i, rfl, q⟩
theorem c_intBl {k : Bool} (q : Q (.int (if k then 1 else 0)) H) : rInt1 [.bl k] H Q := .inr ⟨k, rfl, q⟩
theorem c_intW {w : Wk} (q : Q (.int w.wi) H) : rInt1 [.bl w.wet] H Q := .inr ⟨w.wet, rfl, q⟩
theorem c_max {i j : Int} (q : Q (.int (if j > i then j else i)) H) : rMax2 [.int i, .int j] H Q := ⟨i, j, rfl, q⟩
theorem c_min {i j : Int} (q : Q (.int (if j < i then j else i)) H) : rMin2 [.int i, .int j] H Q := ⟨i, j, rfl, q⟩
theorem c_sum {ns : List Int} (h : SqL K H p (vI ns)) (q : Q (.int ns.sum) H) : rSum K [.ref p] H Q := ⟨p, ns, rfl, h, q⟩
theorem c_all {bs : List Bool} (h : SqL K H p (bs.map V.bl)) (q : Q (.bl (bs.all id)) H) : rAll K [.ref p] H Q := ⟨p, bs, rfl, h, q⟩
theorem c_any {bs : List Bool} (h : SqL K H p (bs.map V.bl)) (q : Q (.bl (bs.any id)) H) : rAny K [.ref p] H Q := ⟨p, bs, rfl, h, q⟩
theorem c_app {y : V} (h : H p = some (.lst ys)) (hl : ys.length < sizeLine) (q : Q .non (upd H p (.lst (ys ++ [y])))) : rAppend (.ref p) [y] H Q := ⟨p, ys, y, rfl, rfl, h, hl, q⟩
theorem ty_l (h : SqL K H p ys) : tyV K "list" (.ref p) H := .inl ⟨rfl, _, h⟩
end
theorem c_fldv {K : PySem.W.Frag} {H : Hp} {Q : V → Hp → Prop} {a C dx : Addr} {fs : List (Str × V)} {f : Str} {v : V} (h : H a = some (.ins C dx fs)) (cl : Cls K C) (na : NoAttr K C f) (hl : fs.lookup f = some v) (q : Q v H) :
    ∃ a' C' dx' fs' v', V.ref a = .ref a' ∧ H a' = some (.ins C' dx' fs') ∧ Cls K C' ∧ NoAttr K C' f ∧ fs'.lookup f = some v' ∧ Q v' H := ⟨a, C, dx, fs, v, rfl, h, cl, na, hl, q⟩
theorem c_meth {ta : TE} {t : TA} {C : Addr} {m : Str} {sp : Sp} {σ : L2.St} {H : Hp} {Q : VK} (q : ta σ H fun x H1 => ∃ a dx fs, x = .ref a ∧ H1 a = some (.ins C dx fs) ∧ fs.lookup m = none ∧ t σ H1 fun vs H2 => sp (x :: (vs ++ [])) H2 Q E0) : tMeth C m sp [] E0 ta t σ H Q := q
theorem c_methv {C a dx : Addr} {fs : List (Str × V)} {m : Str} {H : Hp} {P : Prop} (h : H a = some (.ins C dx fs)) (hl : fs.lookup m = none) (q : P) : ∃ a' dx' fs', V.ref a = .ref a' ∧ H a' = some (.ins C dx' fs') ∧ fs'.lookup m = none ∧ P := ⟨a, dx, fs, rfl, h, hl, q⟩
theorem c_make {C : Addr} {sp : Sp} {t : TA} {σ : L2.St} {H : Hp} {Q : VK} (q : t σ H fun vs H1 => ∀ x dx, H1 x = none → H1 dx = none → dx ≠ x → sp (.ref x :: (vs ++ [])) (upd (upd H1 dx (.own x)) x (.ins C dx [])) (fun v H2 => v = .non ∧ Q (.ref x) H2) E0) : tMake C sp [] E0 t σ H Q := q
theorem c_yes {σ : L2.St} {H : Hp} {Q : Bool → Hp → Prop} (q : Q true H) : tYes σ H Q := q
theorem walk_rng {n : Nat} : Walk (Itr 0 n) n (fun _ => True) (fun i H x H' => H' = H ∧ x = .int (i : Int)) :=
  walk_range.mono (fun _ h => h) fun i H x H' _ _ y => ⟨y.1, y.2.trans (by show V.int (0 + (i : Int)) = _; rw [Int.zero_add])⟩
theorem c_sfld {K : PySem.W.Frag} {ta tv : TE} {f : Str} {D : Ends} {σ : L2.St} {H : Hp} (q : tv σ H fun y H1 => ta σ H1 fun x H2 => ∃ a C dx fs, x = .ref a ∧ H2 a = some (.ins C dx fs) ∧ Cls K C ∧ NoAttr K C f ∧ fs.length < 1000 ∧ D.nx σ (upd H2 a (.ins C dx (putF f y fs)))) : sFld K ta tv f D σ H := q
theorem c_sfldv {K : PySem.W.Frag} {H : Hp} {R : Hp → Prop} {a C dx : Addr} {fs : List (Str × V)} {f : Str} {y : V} (h : H a = some (.ins C dx fs)) (cl : Cls K C) (na : NoAttr K C f) (hl : fs.length < 1000) (q : R (upd H a (.ins C dx (putF f y fs)))) :
    ∃ a' C' dx' fs', V.ref a = .ref a' ∧ H a' = some (.ins C' dx' fs') ∧ Cls K C' ∧ NoAttr K C' f ∧ fs'.length < 1000 ∧ R (upd H a' (.ins C' dx' (putF f y fs'))) := ⟨a, C, dx, fs, rfl, h, cl, na, hl, q⟩
theorem c_bml {K : PySem.W.Frag} {H : Hp} {p : Addr} {ys : List V} {P : Prop} (h : SqL K H p ys) (q : P) : tyV K "list" (.ref p) H ∧ P := ⟨ty_l h, q⟩
theorem c_selfld {K : PySem.W.Frag} {i : Nat} {f : Str} {σ : L2.St} {H : Hp} {Q : VK} {a C dx : Addr} {fs : List (Str × V)} {v : V} (hv : σ[i]? = some (some (.ref a))) (h : H a = some (.ins C dx fs)) (cl : Cls K C) (na : NoAttr K C f) (hl : fs.lookup f = some v) (q : Q v H) : tFld K (tVar i) f σ H Q :=
  ⟨_, hv, a, C, dx, fs, v, rfl, h, cl, na, hl, q⟩
theorem c_selmeth {t : TA} {i : Nat} {m : Str} {sp : Sp} {σ : L2.St} {H : Hp} {Q : VK} {a C dx : Addr} {fs : List (Str × V)} (hv : σ[i]? = some (some (.ref a))) (h : H a = some (.ins C dx fs)) (hl : fs.lookup m = none) (q : t σ H fun vs H2 => sp (.ref a :: (vs ++ [])) H2 Q E0) : tMeth C m sp [] E0 (tVar i) t σ H Q :=
  ⟨_, hv, a, dx, fs, rfl, h, hl, q⟩
/-! ### pairs of ints compared -/
theorem eqv_pair (a b c d : Int) : PyData.eqv (.tuple [.int a, .int b]) (.tuple [.int c, .int d]) = (decide (a = c) && decide (b = d)) := by
  simp only [PyData.eqv, PyData.eqvAll, Bool.and_true]
  rw [Bool.beq_eq_decide_eq, Bool.beq_eq_decide_eq]
theorem c_eqPair {K : PySem.W.Frag} {H : Hp} {Q : VK} {p q : Addr} {a b c d : Int} (h1 : SqT K H p [.int a, .int b]) (h2 : SqT K H q [.int c, .int d]) (k : Q (.bl (decide (a = c) && decide (b = d))) H) : rEqD K (.ref p) (.ref q) H Q :=
  ⟨_, _, .tup h1 (.cons (.int a) (.cons (.int b) .nil)), .tup h2 (.cons (.int c) (.cons (.int d) .nil)), rfl, rfl, by rw [eqv_pair]; exact k⟩
/-! ### a list of lists, each another than the list itself -/
structure RefsL (H : Hp) (fo : Addr) (rs : List V) (vss : List (List V)) : Prop where
  len : rs.length = vss.length
  at_ : ∀ (i : Nat) (vs : List V), vss[i]? = some vs → ∃ x : Addr, rs[i]? = some (V.ref x) ∧ H x = some (.lst vs) ∧ x ≠ fo
theorem RefsL.nil {H : Hp} {fo : Addr} : RefsL H fo [] [] := ⟨rfl, fun i vs h => by simp at h⟩
theorem RefsL.same {H H' : Hp} {fo : Addr} {rs : List V} {vss : List (List V)} (e : Same H H') (h : RefsL H fo rs vss) : RefsL H' fo rs vss :=
  ⟨h.len, fun i vs hi => let ⟨x, h1, h2, h3⟩ := h.at_ i vs hi; ⟨x, h1, e _ _ h2, h3⟩⟩
theorem RefsL.mut {H : Hp} {fo : Addr} {o : HO} {rs : List V} {vss : List (List V)} (h : RefsL H fo rs vss) : RefsL (upd H fo o) fo rs vss :=
  ⟨h.len, fun i vs hi => let ⟨x, h1, h2, h3⟩ := h.at_ i vs hi; ⟨x, h1, by rw [upd_ne h3]; exact h2, h3⟩⟩
theorem RefsL.refs {K : PySem.W.Frag} {H : Hp} {fo : Addr} {rs : List V} {vss : List (List V)} (h : RefsL H fo rs vss) : Refs false K H rs vss :=
  ⟨h.len, fun i vs hi => let ⟨x, h1, h2, _⟩ := h.at_ i vs hi; ⟨x, h1, SqL.of h2⟩⟩
theorem snoc_get {α : Type} {l : List α} {x : α} {i : Nat} {y : α} (h : (l ++ [x])[i]? = some y) : l[i]? = some y ∨ (i = l.length ∧ y = x) := by
  rw [List.getElem?_append] at h
  by_cases hl : i < l.length
  · rw [if_pos hl] at h; exact .inl h
  · rw [if_neg hl] at h
    by_cases z : i - l.length = 0
    · rw [z] at h; simp at h; exact .inr ⟨by omega, h.symm⟩
    · rw [List.getElem?_eq_none (by simp; omega)] at h; cases h
theorem get_snoc {α : Type} {l : List α} {x : α} {i : Nat} {y : α} (h : l[i]? = some y) : (l ++ [x])[i]? = some y := by
  rw [List.getElem?_append, if_pos (List.getElem?_eq_some_iff.mp h).1]; exact h
theorem RefsL.snoc {H : Hp} {fo : Addr} {rs : List V} {vss : List (List V)} {x : Addr} {vs : List V} (h : RefsL H fo rs vss) (hx : H x = some (.lst vs)) (nx : x ≠ fo) : RefsL H fo (rs ++ [V.ref x]) (vss ++ [vs]) := by
  refine ⟨by simp [h.len], fun i us hi => ?_⟩
  rcases snoc_get hi with hi | ⟨rfl, rfl⟩
  · obtain ⟨y, h1, h2⟩ := h.at_ i us hi
    exact ⟨y, get_snoc h1, h2⟩
  · exact ⟨x, by rw [← h.len]; simp, hx, nx⟩
/-- a block in two parts: what holds between them -/
theorem c_seqJ {t u : TS} {D : Ends} {σ : L2.St} {H : Hp} (I : L2.St → Hp → Prop) (h2 : ∀ σ H, I σ H → u D σ H) (h1 : ∀ R : L2.St → Hp → Prop, (∀ σ H, I σ H → R σ H) → t { D with nx := R } σ H) : tSeq t u D σ H := h1 (u D) h2
theorem Refs.app {K : PySem.W.Frag} {H : Hp} {fo t : Addr} {o : HO} {ss xs : List V} {vss : List (List V)} {vs : List V} (h : Refs true K H ss vss) (hfo : H fo = some (.lst xs)) (nt : H t = none) : Refs true K (upd (upd H t (.tup vs)) fo o) (ss ++ [V.ref t]) (vss ++ [vs]) :=
  (h.tx (Tx.trans (Tx.new nt) (Tx.mutL (get_new hfo nt)))).snoc (show SqT K _ _ _ from Tx.tup (Tx.mutL (get_new hfo nt)) (SqT.of upd_same))
theorem enumF_get : ∀ (ws : List Wk) (n i : Nat), (enumF n ws)[i]? = (ws[i]?).map fun w => (n + i, w)
  | [], n, i => by simp [enumF]
  | w :: ws, n, 0 => by simp [enumF]
  | w :: ws, n, i + 1 => by
    rw [enumF, List.getElem?_cons_succ, enumF_get ws (n + 1) i, List.getElem?_cons_succ]
    congr 1
    funext v
    congr 1
    omega
theorem enumF_length : ∀ (ws : List Wk) (n : Nat), (enumF n ws).length = ws.length
  | [], _ => rfl
  | _ :: ws, n => by simp [enumF, enumF_length ws (n + 1)]
theorem stepW_length (cs : List Int) (m p : Nat) (iw : Nat × Wk) : (stepW cs m p iw).length ≤ 2 := by
  unfold stepW
  rw [List.length_append]
  split <;> split <;> simp
theorem flat_length (cs : List Int) (m p : Nat) : ∀ l : List (Nat × Wk), (l.flatMap (stepW cs m p)).length ≤ 2 * l.length
  | [] => by simp
  | x :: l => by
    have h1 := flat_length cs m p l
    have h2 := stepW_length cs m p x
    rw [List.flatMap_cons, List.length_append, List.length_cons]
    omega
end HX

/-! The search's dict and row in the heap. -/
namespace HX
open PySem PySem.Spec PyProof.Rows L2 Dry

def NdAt (H : Hp) (rs : List V) (ns : List Nd) : Prop := Paired (fun v n => ∃ x : Addr, v = .ref x ∧ H x = some (.tup (ndV n))) rs ns
theorem NdAt.tp {H H' : Hp} (e : Tp H H') {rs : List V} {ns : List Nd} (h : NdAt H rs ns) : NdAt H' rs ns := L2.Paired.mapP h fun _ _ ⟨x, h1, h2⟩ => ⟨x, h1, e _ _ h2⟩
structure RQ (H : Hp) (fo ro : Addr) (kvs : List (List L2.Key × V)) (rs : List V) (f : Fd) (r : List Nd) : Prop where
  fo : H fo = some (.dT kvs)
  fd : FdAt H kvs f
  ro : H ro = some (.lst rs)
  nd : NdAt H rs r
theorem RQ.ne {H : Hp} {fo ro : Addr} {kvs : List (List L2.Key × V)} {rs : List V} {f : Fd} {r : List Nd} (h : RQ H fo ro kvs rs f r) : fo ≠ ro := ne_of h.fo h.ro (fun z => nomatch z)
theorem RQ.same {H H' : Hp} {fo ro : Addr} {kvs : List (List L2.Key × V)} {rs : List V} {f : Fd} {r : List Nd} (e : Same H H') (h : RQ H fo ro kvs rs f r) : RQ H' fo ro kvs rs f r :=
  ⟨e _ _ h.fo, h.fd.tp (.of e), e _ _ h.ro, h.nd.tp (.of e)⟩
theorem RQ.putD {H : Hp} {fo ro : Addr} {kvs : List (List L2.Key × V)} {rs : List V} {f : Fd} {r : List Nd} (h : RQ H fo ro kvs rs f r) {n : Nd} {v : V} {way : Way} (hn : n ∉ keys f) (hv : WayAt H v way) :
    RQ (upd H fo (.dT (putK kvs (ndK n) v))) fo ro (putK kvs (ndK n) v) rs (f ++ [(n, way)]) r :=
  ⟨upd_same, (h.fd.put hn hv).tp (Tp.mutD h.fo), by rw [upd_ne h.ne.symm]; exact h.ro, h.nd.tp (Tp.mutD h.fo)⟩
theorem RQ.app {H : Hp} {fo ro t : Addr} {kvs : List (List L2.Key × V)} {rs : List V} {f : Fd} {r : List Nd} (h : RQ H fo ro kvs rs f r) {n : Nd} (nt : H t = none) :
    RQ (upd (upd H t (.tup (ndV n))) ro (.lst (rs ++ [V.ref t]))) fo ro kvs (rs ++ [V.ref t]) f (r ++ [n]) := by
  have h1 := h.same (Same.new (o := .tup (ndV n)) nt)
  have e := Tp.mutL (o := .lst (rs ++ [V.ref t])) h1.ro
  exact ⟨by rw [upd_ne h.ne]; exact h1.fo, h1.fd.tp e, upd_same, paired_snoc ⟨t, rfl, e _ _ upd_same⟩ (h1.nd.tp e)⟩
theorem RQ.pop {H : Hp} {fo ro : Addr} {kvs : List (List L2.Key × V)} {rs : List V} {f : Fd} {n : Nd} {r : List Nd} (h : RQ H fo ro kvs rs f (n :: r)) :
    ∃ x rs', rs = .ref x :: rs' ∧ H x = some (.tup (ndV n)) ∧ RQ (upd H ro (.lst rs')) fo ro kvs rs' f r := by
  obtain ⟨h1, h2, h3, h4⟩ := id h
  cases h4 with
  | @cons v _ l _ q t =>
    obtain ⟨x, rfl, hx⟩ := q
    have e := Tp.mutL (o := .lst l) h3
    exact ⟨x, _, rfl, hx, by rw [upd_ne h.ne]; exact h1, h2.tp e, upd_same, NdAt.tp e t⟩
theorem RQ.empty {H : Hp} {fo ro : Addr} {kvs : List (List L2.Key × V)} {rs : List V} {f : Fd} (h : RQ H fo ro kvs rs f []) : rs = [] := by
  have := h.nd
  cases this
  rfl
theorem tp_tx {H : Hp} {p : Addr} {o u : HO} (hp : H p = some u) (hu : noTup u = true) : Tx H (upd H p o) := Tx.mut hp hu
def sinksI (d : Day) (wt : List (List Int)) (i : Nat) : List Nd := ((List.range i).filter (fun p => decide (0 < at2 wt d.T p))).map (fun p => (d.T, p))
theorem sinksI_succ (d : Day) (wt : List (List Int)) (i : Nat) : sinksI d wt (i + 1) = sinksI d wt i ++ (if 0 < at2 wt d.T i then [(d.T, i)] else []) := by
  unfold sinksI
  rw [List.range_succ, List.filter_append, List.map_append]
  congr 1
  by_cases h : 0 < at2 wt d.T i
  · simp [h]
  · simp [h]
theorem sinksI_new (d : Day) (wt : List (List Int)) (i : Nat) : (d.T, i) ∉ keys ((sinksI d wt i).map fun n => (n, (none : Way))) := by
  unfold keys
  rw [List.map_map]
  intro h
  obtain ⟨n, hn, e⟩ := List.mem_map.mp h
  unfold sinksI at hn
  obtain ⟨p, hp, rfl⟩ := List.mem_map.mp hn
  have := (List.mem_filter.mp hp).1
  have hlt := List.mem_range.mp this
  have e' : (d.T, p) = (d.T, i) := e
  injection e' with _ e2
  omega
theorem sinksI_length (d : Day) (wt : List (List Int)) (i : Nat) : (sinksI d wt i).length ≤ i := by
  unfold sinksI
  rw [List.length_map]
  exact Nat.le_trans (List.length_filter_le _ _) (by simp)
theorem count_small {d : Day} (sm : d.Sm) : (d.T + 1) * d.P ≤ 1001000 := Nat.le_trans (Nat.mul_le_mul (by have := sm.T; omega : d.T + 1 ≤ 1001) sm.P) (by decide)
theorem szm {n : Nat} (h : n ≤ 2000000) : n < sizeLine := Nat.lt_of_le_of_lt h (by decide)
theorem waits_rows {d : Day} (ok : d.Ok) (S W cs : List Int) (hl : cs.length = d.ws.length) (hS : S.length = d.P) (hW : W.length = d.P) : (waits d S W cs).length = d.T + 1 ∧ ∀ row ∈ waits d S W cs, row.length = d.P := by
  have rsp := rowAt_spec ok S cs hl hS
  refine ⟨by simp [waits], fun row h => ?_⟩
  unfold waits at h
  rcases List.mem_append.mp h with h | h
  · obtain ⟨t, _, rfl⟩ := List.mem_map.mp h
    have lf := left_fold t d.ws cs (rowAt d S cs t) (fun w hw => by rw [(rsp t).1]; exact ok.b w hw) hl.symm
    unfold leftRow
    rw [lf.1, (rsp t).1]
  · simp at h
    subst h
    rw [List.length_zipWith, (rsp d.T).1, hW, Nat.min_self]
theorem bfs_nil (d : Day) (cs : List Int) (wt : List (List Int)) (f : Fd) : ∀ n, bfs d cs wt n (f, []) = f
  | 0 => rfl
  | _ + 1 => rfl
theorem wt_at {d : Day} {wt : List (List Int)} {t p : Nat} {K : PySem.W.Frag} {H : Hp} {rs : List V} (hrs : Refs false K H rs (wt.map vI)) (hl : wt.length = d.T + 1) (hr : ∀ row ∈ wt, row.length = d.P) (ht : t ≤ d.T) (hp : p < d.P) :
    ∃ y : Addr, rs[t]? = some (V.ref y) ∧ SqL K H y (vI (wt.getD t [])) ∧ (vI (wt.getD t []))[p]? = some (.int (at2 wt t p)) := by
  have hwm : wt[t]? = some (wt.getD t []) := by
    have : t < wt.length := by omega
    simp [List.getD_eq_getElem?_getD, this]
  obtain ⟨y, hy1, hy2⟩ := hrs.at_ t (vI (wt.getD t [])) (by rw [List.getElem?_map, hwm]; rfl)
  exact ⟨y, hy1, hy2, vI_get (by rw [hr _ (List.mem_of_getElem? hwm)]; exact hp)⟩
theorem filt1 {q : Nat → Bool} {j : Nat} (h : q j = true) : [j].filter q = [j] := by simp [h]
theorem filt0 {q : Nat → Bool} {j : Nat} (h : q j = false) : [j].filter q = [] := by simp [h]
end HX

/-! What the laws draw from: bags; drawn days; things of any kind. -/
namespace HX
open PySem PySem.Spec PyProof.Rows L2 Dry

/-! ### all but one object stays -/
def Ov (r : Addr) (H H' : Hp) : Prop := ∀ a o, H a = some o → a ≠ r → H' a = some o
theorem Ov.refl (r : Addr) (H : Hp) : Ov r H H := fun _ _ h _ => h
theorem Ov.trans {r : Addr} {H H1 H2 : Hp} (a : Ov r H H1) (b : Ov r H1 H2) : Ov r H H2 := fun x o h n => b x o (a x o h n) n
theorem Ov.of {r : Addr} {H H' : Hp} (e : Same H H') : Ov r H H' := fun a o h _ => e a o h
theorem Ov.upd {r : Addr} {H : Hp} {o : HO} : Ov r H (upd H r o) := fun a u h n => by rw [upd_ne n]; exact h
theorem Ov.new {r p : Addr} {H : Hp} {o : HO} (hp : H p = none) : Ov r H (L2.upd H p o) := Ov.of (Same.new hp)
theorem Ov.mut {r p : Addr} {H H1 : Hp} {o : HO} (e : Ov r H H1) (hp : H p = none) : Ov r H (L2.upd H1 p o) := fun a u h n => by
  rw [upd_ne (ne_of_none h hp)]; exact e a u h n
theorem Ov.same {r : Addr} {H0 H H' : Hp} (s : Same H0 H) (e : Ov r H H') (hr : H0 r = none) : Same H0 H' := fun a o h => e a o (s a o h) (ne_of_none h hr)
theorem Ov.tx {r : Addr} {H H' : Hp} {xs : List V} (e : Ov r H H') (hr : H r = some (.lst xs)) : Tx H H' := fun a ys h => by
  rcases h with h | ⟨o, h⟩
  · exact .inl (e _ _ h (ne_of h hr (fun z => nomatch z)))
  · exact .inr ⟨o, e _ _ h (ne_of h hr (fun z => nomatch z))⟩
theorem Ov.tp {r : Addr} {H H' : Hp} {xs : List V} (e : Ov r H H') (hr : H r = some (.lst xs)) : Tp H H' := fun a ys h => e _ _ h (ne_of h hr (fun z => nomatch z))
theorem Ov.free {r : Addr} {H H' : Hp} {a : Addr} {o : HO} (e : Ov r H H') (hr : H' r = some o) (h : H' a = none) : H a = none := by
  cases q : H a with
  | none => rfl
  | some u =>
    have ne : a ≠ r := fun z => by rw [z, hr] at h; cases h
    rw [e a u q ne] at h; cases h
theorem Ov.sqL {r : Addr} {K : PySem.W.Frag} {H H' : Hp} {a : Addr} {xs : List V} (e : Ov r H H') (n : a ≠ r) (h : SqL K H a xs) : SqL K H' a xs := by
  rcases h with h | h
  · rcases h with h | ⟨o, h⟩
    · exact .inl (.inl (e _ _ h n))
    · exact .inl (.inr ⟨o, e _ _ h n⟩)
  · exact .inr h

/-! ### bags -/
def Bag (H : Hp) (r : Addr) : Prop := ∃ b0 b1 : Int, H r = some (.lst [.int b0, .int b1]) ∧ 0 ≤ b0 ∧ 0 ≤ b1 ∧ b1 < 2147483648
theorem Bag.lst {H : Hp} {r : Addr} (h : Bag H r) : ∃ xs, H r = some (.lst xs) := let ⟨_, _, h, _⟩ := h; ⟨_, h⟩
theorem Bag.same {H H' : Hp} {r : Addr} (e : Same H H') (h : Bag H r) : Bag H' r := let ⟨b0, b1, h1, h2⟩ := h; ⟨b0, b1, e _ _ h1, h2⟩
theorem Bag.mut {H : Hp} {r p : Addr} {o : HO} (h : Bag H r) (n : r ≠ p) : Bag (upd H p o) r := let ⟨b0, b1, h1, h2⟩ := h; ⟨b0, b1, by rw [upd_ne n]; exact h1, h2⟩
theorem Bag.ne {H : Hp} {r p : Addr} (h : Bag H r) (hp : H p = none) : p ≠ r := let ⟨_, _, h1, _⟩ := h; ne_had h1 hp
theorem Bag.tx {H H' : Hp} {r : Addr} (h : Bag H r) (e : Ov r H H') : Tx H H' := let ⟨_, h⟩ := h.lst; e.tx h
theorem Bag.free {H H' : Hp} {r a : Addr} (h : Bag H' r) (e : Ov r H H') (ha : H' a = none) : H a = none := let ⟨_, h⟩ := h.lst; e.free h ha

/-! ### readings with a condition -/
theorem c_I {C : Int → Int → Prop} {g : Int → Int → V} {i j : Int} {H : Hp} {Q : VK} (hc : C i j) (q : Q (g i j) H) : rI C g (.int i) (.int j) H Q := ⟨i, j, rfl, rfl, hc, q⟩

/-! ### drawn days -/
structure DayD (many hours walks : Nat) (d : Day) : Prop where
  ok : d.Ok
  P2 : 2 ≤ d.P
  PM : d.P ≤ many
  T1 : 1 ≤ d.T
  TM : d.T ≤ hours
  W : d.ws.length ≤ walks
  r3 : ∀ w ∈ d.ws, w.r ≤ 3
  ne : ∀ w ∈ d.ws, w.b ≠ w.e
  srt : d.ws.Pairwise fun v w => TS.code 1000 (wkN v) < TS.code 1000 (wkN w)
theorem DayD.sm {m h k : Nat} {d : Day} (D : DayD m h k d) (hm : m ≤ 1000) (hh : h ≤ 1000) (hk : k ≤ 1000) : d.Sm := ⟨Nat.le_trans D.PM hm, Nat.le_trans D.TM hh, Nat.le_trans D.W hk⟩

/-! ### things that are no tuples; tuples of things -/
def NTup (K : PySem.W.Frag) (H : Hp) : V → Prop
  | .non => True
  | .bl _ => True
  | .int _ => True
  | .str _ => True
  | .ref a => ∃ xs, SqL K H a xs
  | _ => False
theorem isi_ntup {K : PySem.W.Frag} {H : Hp} {x : V} {Q : VK} (h : NTup K H x) (q : Q (.bl false) H) : rIsi K [x, .ty "tuple"] H Q := by
  cases x with
  | non => exact c_isi (.base .non) k_none_tuple q
  | bl b => exact c_isi (.base (.bl b)) k_bool_tuple q
  | int i => exact c_isi (.base (.int i)) k_int_tuple q
  | str x => exact c_isi (.base (.str x)) k_str_tuple q
  | ref a => obtain ⟨xs, h⟩ := h; exact c_isi (ty_lst h) k_list_tuple q
  | byt _ => exact h.elim
  | flt _ => exact h.elim
  | ty _ => exact h.elim
theorem isi_tup {K : PySem.W.Frag} {H : Hp} {a : Addr} {xs : List V} {Q : VK} (h : SqT K H a xs) (q : Q (.bl true) H) : rIsi K [.ref a, .ty "tuple"] H Q := c_isi (ty_tup h) k_tuple_tuple q
/-- a tuple's items as numbers -/
def natV : V → Nat
  | .int i => i.toNat
  | _ => 0
theorem isFromV_nat {x : V} {n : Nat} (h : isFromV x 0 (n : Int) = true) : x = .int (natV x : Int) ∧ natV x ≤ n := by
  cases x <;> simp [isFromV, natV] at h ⊢
  omega
theorem allFrom {xs : List V} {n : Nat} (h : xs.all (fun x => isFromV x 0 (n : Int)) = true) : xs = vN (xs.map natV) ∧ ∀ m ∈ xs.map natV, m ≤ n := by
  induction xs with
  | nil => exact ⟨rfl, fun m h => by simp at h⟩
  | cons x xs ih =>
    rw [List.all_cons, Bool.and_eq_true] at h
    obtain ⟨h1, h2⟩ := isFromV_nat h.1
    obtain ⟨h3, h4⟩ := ih h.2
    refine ⟨?_, fun m hm => ?_⟩
    · show x :: xs = V.int (natV x : Int) :: vN (xs.map natV)
      rw [← h1, ← h3]
    · rcases List.mem_cons.mp hm with rfl | hm
      · exact h2
      · exact h4 m hm
theorem vN_all {ns : List Nat} {n : Nat} (h : ∀ m ∈ ns, m ≤ n) : (vN ns).all (fun x => isFromV x 0 (n : Int)) = true := by
  induction ns with
  | nil => rfl
  | cons m ns ih =>
    show (isFromV (.int (m : Int)) 0 (n : Int) && _) = true
    rw [Bool.and_eq_true]
    refine ⟨?_, ih fun k hk => h k (by simp [hk])⟩
    have := h m (by simp)
    simp [isFromV]
    omega
theorem vN_nat (ns : List Nat) : (vN ns).map natV = ns := by
  induction ns with
  | nil => rfl
  | cons m ns ih =>
    show natV (.int (m : Int)) :: (vN ns).map natV = _
    rw [ih]
    simp [natV]
/-- what a tuple shows as a line -/
def lineAns (d : Day) (W : List Int) (xs : List V) : V := if xs.length = d.P ∧ xs.all (fun x => isFromV x 0 ((d.T + 1 : Nat) : Int)) = true then .int (shows d W (kOf (xs.map natV))) else .non
theorem lineAns_yes {d : Day} {W : List Int} {ns : List Nat} (hl : ns.length = d.P) (h : ∀ m ∈ ns, m ≤ d.T + 1) : lineAns d W (vN ns) = .int (shows d W (kOf ns)) := by
  unfold lineAns
  rw [if_pos ⟨by simpa using hl, vN_all h⟩, vN_nat]
theorem c_gsub {to ti : TE} {tset : TSet} {v : V} {σ : L2.St} {H : Hp} {Q : L2.St → Hp → Prop} (q : to σ H fun o H1 => ti σ H1 fun i H2 => tset o i v H2 fun H3 => Q σ H3) : gSub to ti tset v σ H Q := q
/-- some positive number -/
def tSome : TE := fun _ H Q => ∀ n : Int, 0 < n → Q (.int n) H
theorem pe_some {X : Cx} {e : Expr} {i j : Int} (h : PE X e (tOp (rI CPow fun i j => .int (i ^ j.toNat)) (tC (.int i)) (tC (.int j)))) (hi : 0 < i) (hc : CPow i j) : PE X e tSome :=
  ⟨fun pins s σ H Q I q => h.run pins s σ H Q I ⟨i, j, rfl, rfl, hc, q _ (Int.pow_pos hi)⟩⟩
theorem c_wput {K : PySem.W.Frag} {P : Program} {w : World} {td ty tv : TE} {D : Ends} {σ : L2.St} {H : Hp} (q : tv σ H fun v H1 => td σ H1 fun x H2 => ty σ H2 fun y H3 => ∃ a b L k, v = .bl true ∧ x = .ref a ∧ y = .ref b ∧ H3 a = some (DWO P w a L) ∧
  (∀ q ∈ L, SqT K H3 q.2 (wkV q.1)) ∧ SqT K H3 b (wkV k) ∧ L.length < 1000 ∧ D.nx σ (upd H3 a (DWO P w a (putW L k b)))) : sWPut K P w td ty tv D σ H := q
theorem code_wk (w : Wk) : TS.code 1000 (wkN w) = (((w.h * 1000 + w.b : Int) * 1000 + w.e) * 1000 + w.wi) * 1000 + w.r := by
  simp only [TS.code, wkN, List.length_cons, List.length_nil]
  omega
structure WkB (P T : Nat) (w : Wk) : Prop where
  h : w.h < T
  b : w.b < P
  e : w.e < P
  ne : w.b ≠ w.e
  r1 : 1 ≤ w.r
  r3 : w.r ≤ 3
theorem WkB.bd {P T : Nat} {w : Wk} (h : WkB P T w) (hP : P ≤ 1000) (hT : T ≤ 1000) : TS.Bd 1000 (wkN w) := by
  intro m hm
  obtain ⟨h1, h2, h3, h4, h5, h6⟩ := h
  simp only [wkN, List.mem_cons, List.not_mem_nil, or_false] at hm
  have := wi_nn w
  have : w.wi ≤ 1 := by unfold Wk.wi; split <;> omega
  omega
theorem code_inj {P T : Nat} {v w : Wk} (hv : WkB P T v) (hw : WkB P T w) (hP : P ≤ 1000) (hT : T ≤ 1000) (e : TS.code 1000 (wkN v) = TS.code 1000 (wkN w)) : v = w := by
  rw [code_wk, code_wk] at e
  have := wi_nn v
  have := wi_nn w
  have a1 : v.wi ≤ 1 := by unfold Wk.wi; split <;> omega
  have a2 : w.wi ≤ 1 := by unfold Wk.wi; split <;> omega
  obtain ⟨h1, h2, h3, h4, h5, h6⟩ := hv
  obtain ⟨g1, g2, g3, g4, g5, g6⟩ := hw
  apply wkL_inj
  unfold wkL
  have x1 : (v.h : Int) = w.h := by omega
  have x2 : (v.b : Int) = w.b := by omega
  have x3 : (v.e : Int) = w.e := by omega
  have x4 : v.wi = w.wi := by omega
  have x5 : (v.r : Int) = w.r := by omega
  rw [x1, x2, x3, x4, x5]
theorem pw_strict {P T : Nat} (hP : P ≤ 1000) (hT : T ≤ 1000) {L : List (Wk × Addr)} (hb : ∀ q ∈ L, WkB P T q.1) (nd : (L.map (·.1)).Nodup) (s : L.Pairwise fun q r => TS.code 1000 (wkN q.1) ≤ TS.code 1000 (wkN r.1)) :
    (L.map (·.1)).Pairwise fun v w => TS.code 1000 (wkN v) < TS.code 1000 (wkN w) := by
  rw [List.Nodup, List.pairwise_map] at nd
  rw [List.pairwise_map]
  refine List.Pairwise.imp_of_mem (fun {q r} hq hr h => ?_) (nd.and s)
  have : TS.code 1000 (wkN q.1) ≠ TS.code 1000 (wkN r.1) := fun e => h.1 (code_inj (hb q hq) (hb r hr) hP hT e)
  have := h.2
  omega
theorem wks_of {K : PySem.W.Frag} {H : Hp} {L : List (Wk × Addr)} (h : ∀ q ∈ L, SqT K H q.2 (wkV q.1)) : Wks K H (L.map fun q => V.ref q.2) (L.map (·.1)) := by
  refine ⟨by simp, fun i w hw => ?_⟩
  rw [List.getElem?_map] at hw
  obtain ⟨q, hq, rfl⟩ := Option.map_eq_some_iff.mp hw
  exact ⟨q.2, by rw [List.getElem?_map, hq]; rfl, h q (List.mem_of_getElem? hq)⟩
theorem mod_other {b c P : Nat} (hb : b < P) (hc : c < P - 1) : (b + 1 + c) % P < P ∧ b ≠ (b + 1 + c) % P := by
  refine ⟨Nat.mod_lt _ (by omega), ?_⟩
  by_cases h : b + 1 + c < P
  · rw [Nat.mod_eq_of_lt h]; omega
  · rw [Nat.mod_eq_sub_mod (by omega), Nat.mod_eq_of_lt (by omega)]; omega
theorem sumWs_snoc (f : Wk → Int) (w : Wk) : ∀ l : List Wk, sumWs f (l ++ [w]) = sumWs f l + f w
  | [] => by simp [sumWs]
  | v :: l => by
    show f v + sumWs f (l ++ [w]) = f v + sumWs f l + f w
    rw [sumWs_snoc f w l]
    omega
theorem vN_get {ns : List Nat} {i : Nat} (h : i < ns.length) : (vN ns)[i]? = some (.int (kOf ns i : Int)) := by
  unfold kOf
  rw [List.getElem?_map, List.getElem?_eq_getElem h]
  simp [List.getD_eq_getElem?_getD, h]
theorem dec_nat {a b : Nat} : decide ((a : Int) < (b : Int)) = decide (a < b) := decide_eq_decide.mpr (by omega)
theorem dec_nat1 {a b : Nat} : decide ((a : Int) + 1 < (b : Int)) = decide (a + 1 < b) := decide_eq_decide.mpr (by omega)
theorem shows_eq {d : Day} {W : List Int} {k : Nat → Nat} : (if raw d W k > 0 then raw d W k else 0) = shows d W k := rfl
end HX

/-! Things that stay things of their kind; sequences made of sequences. -/
namespace HX
open PySem PySem.Spec PyProof.Rows L2 Dry

/-- tuples stay as they are, lists stay lists -/
structure Kp (H H' : Hp) : Prop where
  tx : Tx H H'
  ls : ∀ a xs, Rd H a (.lst xs) → ∃ ys, Rd H' a (.lst ys)
theorem Kp.refl (H : Hp) : Kp H H := ⟨Tx.refl H, fun _ xs h => ⟨xs, h⟩⟩
theorem Kp.trans {H H1 H2 : Hp} (a : Kp H H1) (b : Kp H1 H2) : Kp H H2 := ⟨a.tx.trans b.tx, fun x xs h => let ⟨ys, h1⟩ := a.ls x xs h; b.ls x ys h1⟩
theorem Kp.of {H H' : Hp} (e : Same H H') : Kp H H' := ⟨.of e, fun _ xs h => ⟨xs, e.rd h⟩⟩
theorem Kp.mutL {H : Hp} {p : Addr} {xs ys : List V} (hp : H p = some (.lst xs)) : Kp H (upd H p (.lst ys)) := by
  refine ⟨Tx.mutL hp, fun a zs h => ?_⟩
  by_cases e : a = p
  · subst e; exact ⟨ys, .inl upd_same⟩
  · refine ⟨zs, ?_⟩
    rcases h with h | ⟨o, h⟩
    · exact .inl (by rw [upd_ne e]; exact h)
    · exact .inr ⟨o, by rw [upd_ne e]; exact h⟩
theorem Kp.ov {r : Addr} {H H' : Hp} (e : Ov r H H') (hb : Bag H r) (hb' : Bag H' r) : Kp H H' := by
  refine ⟨hb.tx e, fun a zs h => ?_⟩
  by_cases q : a = r
  · subst q
    obtain ⟨xs, hx⟩ := hb'.lst
    exact ⟨xs, .inl hx⟩
  · refine ⟨zs, ?_⟩
    rcases h with h | ⟨o, h⟩
    · exact .inl (e _ _ h q)
    · exact .inr ⟨o, e _ _ h q⟩
theorem Kp.sqL {K : PySem.W.Frag} {H H' : Hp} {a : Addr} {xs : List V} (e : Kp H H') (h : SqL K H a xs) : ∃ ys, SqL K H' a ys := by
  rcases h with h | h
  · obtain ⟨ys, h⟩ := e.ls _ _ h
    exact ⟨ys, .inl h⟩
  · exact ⟨xs, .inr h⟩
theorem Kn.kp {K : PySem.W.Frag} {H H' : Hp} {x : V} (e : Kp H H') (h : Kn K H x) : Kn K H' x := by
  cases x with
  | ref a =>
    rcases h with ⟨xs, h⟩ | ⟨xs, h⟩
    · exact .inl ⟨xs, e.tx.tup h⟩
    · exact .inr (e.sqL h)
  | _ => exact h
theorem NTup.kp {K : PySem.W.Frag} {H H' : Hp} {x : V} (e : Kp H H') (h : NTup K H x) : NTup K H' x := by
  cases x with
  | ref a => obtain ⟨xs, h⟩ := h; exact e.sqL h
  | _ => exact h
/-- no tuple, or a tuple of things -/
def Tng (K : PySem.W.Frag) (H : Hp) (x : V) : Prop := NTup K H x ∨ ∃ t ys, x = .ref t ∧ SqT K H t ys ∧ (∀ y ∈ ys, Kn K H y) ∧ ys.length ≤ 1000
theorem Tng.kp {K : PySem.W.Frag} {H H' : Hp} {x : V} (e : Kp H H') (h : Tng K H x) : Tng K H' x := by
  rcases h with h | ⟨t, ys, rfl, h1, h2, h3⟩
  · exact .inl (h.kp e)
  · exact .inr ⟨t, ys, rfl, e.tx.tup h1, fun y hy => (h2 y hy).kp e, h3⟩
theorem kn_nat {K : PySem.W.Frag} {H : Hp} {ns : List Nat} : ∀ y ∈ vN ns, Kn K H y := fun y hy => by
  obtain ⟨n, _, rfl⟩ := List.mem_map.mp hy
  trivial
theorem kn_int {K : PySem.W.Frag} {H : Hp} {ns : List Int} : ∀ y ∈ vI ns, Kn K H y := fun y hy => by
  obtain ⟨n, _, rfl⟩ := List.mem_map.mp hy
  trivial
theorem cut_mem {xs : List V} {lo hi : Option Int} {y : V} (h : y ∈ cutV xs lo hi) : y ∈ xs := by
  unfold cutV at h
  exact List.mem_of_mem_drop (List.mem_of_mem_take h)
theorem cut_whole {xs : List V} {lo hi : Option Int} (h : HT.sIx xs.length 0 lo = 0 ∧ HT.sIx xs.length xs.length hi = xs.length) : cutV xs lo hi = xs := by
  unfold cutV
  rw [h.1, h.2]
  simp
section
variable {K : PySem.W.Frag} {H : Hp} {Q : VK} {a b : Addr} {xs ys : List V}
theorem c_catQ (ha : SqT K H a xs) (hb : SqT K H b ys) (hz : xs.length + ys.length ≤ sizeLine) (q : ∀ p H', Same H H' → SqT K H' p (xs ++ ys) → Q (.ref p) H') : rCatA K (.ref a) (.ref b) H Q :=
  ⟨a, b, xs, ys, rfl, rfl, ha, hb, hz, fun h => q b H (Same.refl _) (by rw [h]; exact hb), fun _ h => q a H (Same.refl _) (by rw [h, List.append_nil]; exact ha), fun _ _ p np => q p _ (Same.new np) (SqT.of upd_same)⟩
theorem c_slQ {lo hi : Option Int} (ha : SqT K H a xs) (q : ∀ p H', Same H H' → SqT K H' p (cutV xs lo hi) → Q (.ref p) H') : rSlA K (.ref a) lo hi H Q :=
  ⟨a, xs, rfl, ha, fun h => q a H (Same.refl _) (by rw [cut_whole h]; exact ha), fun _ p np => q p _ (Same.new np) (SqT.of upd_same)⟩
theorem c_repQ {n : Nat} {v : V} (ha : SqT K H a [v]) (h2 : 2 ≤ n) (hn : n ≤ 1000) (q : ∀ p H', Same H H' → H p = none → SqT K H' p (List.replicate n v) → Q (.ref p) H') : rRepT K (.ref a) (.int (n : Int)) H Q := by
  refine ⟨a, (n : Int), [v], rfl, rfl, ha, by simp, by omega, by omega, by simp, fun p np => q p _ (Same.new np) np ?_⟩
  have e : (List.replicate ((n : Int)).toNat [v]).flatten = List.replicate n v := by
    rw [Int.toNat_natCast]
    induction n with
    | zero => rfl
    | succ n ih =>
      rw [List.replicate_succ, List.flatten_cons, List.replicate_succ]
      congr 1
      clear ih q h2 hn
      induction n with
      | zero => rfl
      | succ n ih => rw [List.replicate_succ, List.flatten_cons, List.replicate_succ, ih]; rfl
  rw [e]
  exact SqT.of upd_same
theorem dp_ints : ∀ ns : List Int, DpAll K H (vI ns) (ns.map PyData.int)
  | [] => .nil
  | n :: ns => .cons (.int n) (dp_ints ns)
theorem c_eqNil {L : List Int} (ha : SqL K H a (vI L)) (hb : SqL K H b []) (q : Q (.bl L.isEmpty) H) : rEqD K (.ref a) (.ref b) H Q := by
  refine ⟨_, _, .lst ha (dp_ints L), .lst hb .nil, PySem.W.shaped_ints L, rfl, ?_⟩
  have e : PyData.eqv (.list (L.map PyData.int)) (.list []) = L.isEmpty := by
    cases L <;> simp [PyData.eqv, PyData.eqvAll]
  rw [e]
  exact q
theorem c_neNil {L : List Int} (ha : SqL K H a (vI L)) (hb : SqL K H b []) (q : Q (.bl (!L.isEmpty)) H) : rNeD K (.ref a) (.ref b) H Q := by
  refine ⟨_, _, .lst ha (dp_ints L), .lst hb .nil, PySem.W.shaped_ints L, rfl, ?_⟩
  have e : PyData.eqv (.list (L.map PyData.int)) (.list []) = L.isEmpty := by
    cases L <;> simp [PyData.eqv, PyData.eqvAll]
  rw [e]
  exact q
theorem isi_bool_non (q : Q (.bl false) H) : rIsi K [.non, .ty "bool"] H Q := c_isi (.base .non) k_none_bool q
theorem isi_bool_int {i : Int} (q : Q (.bl false) H) : rIsi K [.int i, .ty "bool"] H Q := c_isi (.base (.int i)) k_int_bool q
theorem isi_bool_bl {i : Bool} (q : Q (.bl true) H) : rIsi K [.bl i, .ty "bool"] H Q := c_isi (.base (.bl i)) k_bool_bool q
theorem c_neNon (q : Q (.bl false) H) : rNe .non .non H Q := ⟨rfl, by simpa using q⟩
end
/-! ### what stands while a cell is judged -/
structure Env3 (K : PySem.W.Frag) (Hs H : Hp) (r ad aw : Addr) (ds : List V) (d : Day) (wa : Addr) (W : List Int) : Prop where
  sm : Same Hs H
  nr : Hs r = none
  bag : Bag H r
  day : DayAt K H ad aw ds d
  wan : SqT K H wa (vI W)
theorem Env3.same {K : PySem.W.Frag} {Hs H H' : Hp} {r ad aw : Addr} {ds : List V} {d : Day} {wa : Addr} {W : List Int} (e : Same H H') (h : Env3 K Hs H r ad aw ds d wa W) : Env3 K Hs H' r ad aw ds d wa W :=
  ⟨h.sm.trans e, h.nr, h.bag.same e, h.day.tx (.of e), e.tup h.wan⟩
theorem Env3.ov {K : PySem.W.Frag} {Hs H H' : Hp} {r ad aw : Addr} {ds : List V} {d : Day} {wa : Addr} {W : List Int} (o : Ov r H H') (hb : Bag H' r) (h : Env3 K Hs H r ad aw ds d wa W) : Env3 K Hs H' r ad aw ds d wa W :=
  ⟨o.same h.sm h.nr, h.nr, hb, h.day.tx (h.bag.tx o), (h.bag.tx o).tup h.wan⟩
theorem Env3.mut {K : PySem.W.Frag} {Hs H : Hp} {r ad aw : Addr} {ds : List V} {d : Day} {wa : Addr} {W : List Int} {th : Addr} {xs ys : List V} (ht : H th = some (.lst xs)) (n : r ≠ th) (h0 : Hs th = none) (h : Env3 K Hs H r ad aw ds d wa W) : Env3 K Hs (upd H th (.lst ys)) r ad aw ds d wa W :=
  ⟨h.sm.mut h0, h.nr, h.bag.mut n, h.day.tx (.mutL ht), (Tx.mutL ht).tup h.wan⟩
theorem line_length (d : Day) (W : List Int) : (line d W).length = d.P := lineFl_length _ _ _ _
theorem line_bound {d : Day} (ok : d.Ok) (W : List Int) : ∀ m ∈ line d W, m ≤ d.T + 1 := by
  intro m hm
  obtain ⟨i, hi, rfl⟩ := List.getElem_of_mem hm
  have h := lineFl_le ok (zeros d) W (settled d (zeros d) W) i (by have := line_length d W; omega)
  have e : kOf (lineFl d (zeros d) W (settled d (zeros d) W)) i = (line d W)[i] := by
    show (line d W).getD i 0 = _
    simp [List.getD_eq_getElem?_getD, hi]
  omega
theorem Bag.tup {H H' : Hp} {r a : Addr} {xs : List V} (h : Bag H r) (o : Ov r H H') (ha : H a = some (.tup xs)) : H' a = some (.tup xs) := let ⟨_, hl⟩ := h.lst; o.tp hl _ _ ha
theorem filt_all {q : V → Bool} : ∀ xs : List V, decide ((xs.filter fun x => !q x).length = 0) = xs.all q
  | [] => rfl
  | x :: xs => by
    rw [List.all_cons, ← filt_all xs, List.filter_cons]
    cases q x <;> simp
theorem ones_empty (n : Nat) : (List.replicate n (1 : Int)).isEmpty = decide (n = 0) := by cases n <;> rfl
theorem vI_ones (n : Nat) : vI (List.replicate n 1) = List.replicate n (V.int 1) := by simp [vI]
theorem filtV1 {q : V → Bool} {z : V} (h : q z = false) : ([z].filter fun x => !q x).length = 1 := by simp [h]
theorem filtV0 {q : V → Bool} {z : V} (h : q z = true) : ([z].filter fun x => !q x).length = 0 := by simp [h]
theorem kOf_le {ns : List Nat} {n : Nat} (h : ∀ m ∈ ns, m ≤ n) (p : Nat) : kOf ns p ≤ n := by
  unfold kOf
  by_cases hp : p < ns.length
  · rw [show ns.getD p 0 = ns[p] by simp [List.getD_eq_getElem?_getD, hp]]
    exact h _ (List.getElem_mem hp)
  · rw [show ns.getD p 0 = 0 by simp [List.getD_eq_getElem?_getD, List.getElem?_eq_none (Nat.le_of_not_lt hp)]]
    omega
end HX

/-! From the head's facts to the bundles of defs. -/
namespace HX
open PySem PySem.Spec PyProof.Rows L2 Dry
abbrev fnD (x : Str) (st : Stmt) : He.FnD := ⟨(x, none), x, x, defArgs st, defBody st, defScope st⟩
abbrev fnM (c m qual : Str) (st : Stmt) : He.FnD := ⟨(c, some m), m, qual, defArgs st, defBody st, defScope st⟩
section
variable {K : PySem.W.Frag} {h : Heap} {mg : Str → Option Value} {fa : List He.Fa} {fn : List He.FnD}
theorem has_of (X : K.In h) (G : h.Ns mainGlobals mg) (c : He.SaysE fa fn K) {x : Str} {st : Stmt} (i j l : Nat) (hi : fn[i]? = some (fnD x st)) (hj : fa[j]? = some (.glo x)) (hl : fa[l]? = some (.keep x)) : Has K mg x st := by
  obtain ⟨oc, od, osl, kV, doc, pm, an, cdv, ct, h1, h2⟩ := c.def_ i (d := fnD x st) hi
  exact ⟨_, _, fun_mk (st := st) h1 h2 (c.fact l hl), He.glo_ok X G (c.fact j hj)⟩
theorem hasM_of (c : He.SaysE fa fn K) {x m qual : Str} {st : Stmt} (i j : Nat) (hi : fn[i]? = some (fnM x m qual st)) (hj : fa[j]? = some (.meth x m)) : HasM K (He.ga K x) m qual st := by
  obtain ⟨oc, od, osl, kV, doc, pm, an, cdv, ct, h1, h2⟩ := c.def_ i (d := fnM x m qual st) hi
  have hm := He.meth_ok (c.fact j hj)
  obtain ⟨m1, m2, m3⟩ := id hm
  exact ⟨_, _, fun_mk (st := st) h1 h2 m3, hm⟩
theorem hasI_of (X : K.In h) (G : h.Ns mainGlobals mg) (c : He.SaysE fa fn K) {x qual : Str} {st : Stmt} (i j l g : Nat) (hi : fn[i]? = some (fnM x "__init__" qual st)) (hj : fa[j]? = some (.meth x "__init__")) (hl : fa[l]? = some (.mkr x)) (hg : fa[g]? = some (.glo x)) : HasI K mg x (He.ga K x) qual st := by
  obtain ⟨oc, od, osl, kV, doc, pm, an, cdv, ct, h1, h2⟩ := c.def_ i (d := fnM x "__init__" qual st) hi
  obtain ⟨m1, m2, m3⟩ := He.meth_ok (c.fact j hj)
  exact ⟨_, _, fun_mk (st := st) h1 h2 m3, He.mkr_ok (c.fact l hl), He.glo_ok X G (c.fact g hg)⟩
theorem free_of (X : K.In h) (G : h.Ns mainGlobals mg) (c : He.SaysE fa fn K) {x : Str} (j : Nat) (hj : fa[j]? = some (.free x)) : mg x = none := He.free_ok X G (c.fact j hj)
theorem noat_of (c : He.SaysE fa fn K) {x f : Str} (j : Nat) (hj : fa[j]? = some (.noat x f)) : NoAttr K (He.ga K x) f := He.noat_ok (c.fact j hj)
theorem law_end {P : Program} {w : World} {base : Heap} {k : Nat} {sp : Sp} {f : Addr} (D : Df P w K mg base "law" k ["script"] sp) (hf : mg "law" = some (.ref f)) : ∃ fd : FuncData, FnOk P w K mg base CX0 k f fd ["script"] sp ∧ Binds K fd ["script"] [] := by
  obtain ⟨f', fd, F, hm, _, hb⟩ := D.ex
  rw [hf] at hm
  cases hm
  exact ⟨fd, F, hb⟩
end
end HX

/-! sum of a tuple; more readings of built-ins. -/
namespace HX
open PySem PySem.Spec PyProof.Rows L2 Dry
section
variable {prog : Program} {w : World} {A : Around} {E : Value → Shared → Prop} {s : Shared} {l : Addr} {its : List Value} {ns : List Int} {Q : Value → Shared → Prop}
theorem sum_rawT (hh : A.handled = none) (hl : s.heap.IsTuple l its.toArray) (hi : IntsAre its ns)
    (h : ∀ h' tk t', (∀ b o, s.heap.get? b = some o → h'.get? b = some o) → Q (.int ns.sum t') { s with heap := h', toks := tk }) : wpAny (model prog w) A (call (.builtin "sum") [.ref l]) Q E s := by
  obtain ⟨xs, e⟩ := hi.allInts.items
  have hn : numsOf (intItems xs).toList = ns := by rw [← e]; exact hi.numsOf
  rw [nums_intItems] at hn
  rw [e] at hl
  have hlt : l < s.heap.objs.size := by obtain ⟨_, e, _⟩ := hl; exact Heap.lt_size e
  refine call_sum_walkG (wpAny_pyIter_tuple hl ?_)
  refine ⟨_, _, _, _, _, _, numAt xs, rfl, Walks.tuple (A := A.in1) hh _ l (Nat.ne_of_lt hlt) (intItems xs), ⟨⟨_, Heap.get?_push_size _ rfl, rfl, rfl⟩, ?_⟩, fun b hb => ?_, (fun _ _ => intItems_at), fun h' tk t' hk => ?_⟩
  · obtain ⟨o, h1, h2, n, h3⟩ := hl
    exact ⟨o, Heap.get?_push_of_some _ h1, h2, n, h3⟩
  · show b < (s.heap.push _).objs.size
    rw [Heap.size_push]
    have e' : b = s.heap.objs.size ∨ b = l := by simpa using hb
    rcases e' with z | z
    · rw [z]; exact Nat.lt_succ_self _
    · rw [z]; exact Nat.lt_succ_of_lt hlt
  · have z := h h' tk t' (fun b o q => hk b o (fun hm => by
      have e' : b = s.heap.objs.size := by simpa using hm
      rw [e'] at q
      exact absurd (Heap.lt_size q) (Nat.lt_irrefl _)) (Heap.get?_push_of_some _ q))
    have ez : (intItems xs).size = xs.size := by simp [intItems]
    rw [ez, preSum_eq, List.take_of_length_le (by simp), hn]
    exact z
end
def rSumT (K : PySem.W.Frag) : List V → Hp → VK → Prop := fun vs H Q => ∃ (a : Addr) (ns : List Int), vs = [V.ref a] ∧ SqT K H a (ns.map V.int) ∧ Q (.int ns.sum) H
theorem cr_sumT {X : Cx} (hc : X.calm = true) : CallR X (.builtin "sum") (rSumT X.K) := by
  intro pins s σ H vs us Q I r h
  obtain ⟨a, ns, rfl, hs, q⟩ := h
  obtain ⟨its, rv, hl, _⟩ := I.tuple hs
  rw [Vals.ref1 r]
  exact sum_rawT (I.ok.hd hc) hl rv.ints fun h' tk t' hk => ⟨.int _, H, I.kept hk, ⟨_, rfl⟩, q⟩
section
variable {K : PySem.W.Frag} {H : Hp} {Q : VK} {p : Addr}
theorem c_sumT {ns : List Int} (h : SqT K H p (vI ns)) (q : Q (.int ns.sum) H) : rSumT K [.ref p] H Q := ⟨p, ns, rfl, h, q⟩
theorem c_maxL {ns : List Int} (h : SqL K H p (vI ns)) (hn : 0 < ns.length) (q : ∀ m, m ∈ ns → (∀ y, y ∈ ns → y ≤ m) → Q (.int m) H) : rMax K [.ref p] H Q := ⟨p, ns, rfl, h, hn, q⟩
theorem c_minL {ns : List Int} (h : SqL K H p (vI ns)) (hn : 0 < ns.length) (q : ∀ m, m ∈ ns → (∀ y, y ∈ ns → m ≤ y) → Q (.int m) H) : rMin K [.ref p] H Q := ⟨p, ns, rfl, h, hn, q⟩
end
end HX

/-! Plans as things: what the judges of plans tell. -/
namespace HX
open PySem PySem.Spec PyProof.Rows L2 Dry

def Fl3 : V → Prop
  | .non => True
  | .bl _ => True
  | .int _ => True
  | _ => False
theorem Fl3.kn {K : PySem.W.Frag} {H : Hp} {x : V} (h : Fl3 x) : Kn K H x := by cases x <;> first | trivial | exact h.elim
def intV : V → Int
  | .int i => i
  | _ => 0
theorem isFromV_int {x : V} {lo hi : Int} (h : isFromV x lo hi = true) : x = .int (intV x) ∧ lo ≤ intV x ∧ intV x ≤ hi := by
  cases x <;> simp [isFromV, intV] at h ⊢
  exact h
theorem isFromV_of {n lo hi : Int} (h1 : lo ≤ n) (h2 : n ≤ hi) : isFromV (.int n) lo hi = true := by simp [isFromV]; exact ⟨h1, h2⟩
theorem allInt {lo hi : Int} : ∀ {xs : List V}, xs.all (fun x => isFromV x lo hi) = true → xs = vI (xs.map intV)
  | [], _ => rfl
  | x :: xs, h => by
    rw [List.all_cons, Bool.and_eq_true] at h
    show x :: xs = V.int (intV x) :: vI (xs.map intV)
    rw [← (isFromV_int h.1).1, ← allInt h.2]
theorem vI_intV (ns : List Int) : (vI ns).map intV = ns := by
  induction ns with
  | nil => rfl
  | cons n ns ih => show n :: (vI ns).map intV = _; rw [ih]
/-- a thing as a tuple of plain things, or none -/
def TV (K : PySem.W.Frag) (H : Hp) (x : V) (o : Option (List V)) : Prop := (o = none ∧ NTup K H x) ∨ ∃ t ys, o = some ys ∧ x = .ref t ∧ SqT K H t ys ∧ (∀ y ∈ ys, Fl3 y) ∧ ys.length ≤ 1000
theorem TV.kp {K : PySem.W.Frag} {H H' : Hp} {x : V} {o : Option (List V)} (e : Kp H H') (h : TV K H x o) : TV K H' x o := by
  rcases h with ⟨h1, h2⟩ | ⟨t, ys, h1, h2, h3, h4, h5⟩
  · exact .inl ⟨h1, h2.kp e⟩
  · exact .inr ⟨t, ys, h1, h2, e.tx.tup h3, h4, h5⟩
def carAll : List Wk → List V → Bool
  | w :: ws, c :: cs => isFromV c w.wi (w.r : Int) && carAll ws cs
  | _, _ => true
def sOk (d : Day) (ss : List V) : Bool := decide (ss.length = d.P) && ss.all (fun x => isFromV x 0 99)
def cOk (d : Day) (cs : List V) : Bool := decide (cs.length = d.ws.length) && carAll d.ws cs
def planV (d : Day) (W : List Int) : Option (List V) → Option (List V) → Bool
  | some ss, some cs => sOk d ss && cOk d cs && planB d (ss.map intV) W (cs.map intV)
  | _, _ => false
theorem carAll_int : ∀ {ws : List Wk} {cs : List V}, cs.length = ws.length → carAll ws cs = true → cs = vI (cs.map intV)
  | [], [], _, _ => rfl
  | [], _ :: _, h, _ => by simp at h
  | _ :: _, [], h, _ => by simp at h
  | w :: ws, c :: cs, hl, h => by
    unfold carAll at h
    rw [Bool.and_eq_true] at h
    show c :: cs = V.int (intV c) :: vI (cs.map intV)
    rw [← (isFromV_int h.1).1, ← carAll_int (by simpa using hl) h.2]
theorem carAll_take_succ : ∀ {ws : List Wk} {cs : List V} {j : Nat} {w : Wk} {c : V}, ws[j]? = some w → cs[j]? = some c → carAll (ws.take (j + 1)) (cs.take (j + 1)) = (carAll (ws.take j) (cs.take j) && isFromV c w.wi (w.r : Int))
  | [], _, _, _, _, h, _ => by simp at h
  | _ :: _, [], _, _, _, _, h => by simp at h
  | w :: ws, c :: cs, 0, w', c', h1, h2 => by
    simp at h1 h2
    subst h1 h2
    simp [carAll]
  | w :: ws, c :: cs, j + 1, w', c', h1, h2 => by
    have ih := carAll_take_succ (ws := ws) (cs := cs) (j := j) (w := w') (c := c') (by simpa using h1) (by simpa using h2)
    show (isFromV c w.wi (w.r : Int) && carAll (ws.take (j + 1)) (cs.take (j + 1))) = ((isFromV c w.wi (w.r : Int) && carAll (ws.take j) (cs.take j)) && _)
    rw [ih, Bool.and_assoc]
theorem carAll_bad {ws : List Wk} {cs : List V} {j : Nat} {w : Wk} {c : V} (h1 : ws[j]? = some w) (h2 : cs[j]? = some c) (h : isFromV c w.wi (w.r : Int) = false) : carAll ws cs = false := by
  induction ws generalizing cs j with
  | nil => simp at h1
  | cons v ws ih =>
    cases cs with
    | nil => simp at h2
    | cons x cs =>
      unfold carAll
      cases j with
      | zero => simp at h1 h2; subst h1 h2; rw [h]; rfl
      | succ j => rw [ih (by simpa using h1) (by simpa using h2)]; simp
theorem carAll_get {ws : List Wk} {cs : List V} {j : Nat} {w : Wk} {c : V} (h1 : ws[j]? = some w) (h2 : cs[j]? = some c) (h : carAll ws cs = true) : isFromV c w.wi (w.r : Int) = true := by
  cases q : isFromV c w.wi (w.r : Int) with
  | true => rfl
  | false => rw [carAll_bad h1 h2 q] at h; cases h
theorem carAll_of : ∀ {ws : List Wk} {cs : List Int}, cs.length = ws.length → (∀ i w, ws[i]? = some w → w.wi ≤ cs.getD i 0 ∧ cs.getD i 0 ≤ (w.r : Int)) → carAll ws (vI cs) = true
  | [], [], _, _ => rfl
  | [], _ :: _, h, _ => by simp at h
  | _ :: _, [], h, _ => by simp at h
  | w :: ws, c :: cs, hl, h => by
    show (isFromV (.int c) w.wi (w.r : Int) && carAll ws (vI cs)) = true
    have h0 := h 0 w rfl
    simp at h0
    rw [isFromV_of h0.1 h0.2, carAll_of (by simpa using hl) (fun i v hv => by
      have := h (i + 1) v (by simpa using hv)
      simpa using this)]
    rfl
/-- a told plan is one -/
theorem planV_told {d : Day} (ok : d.Ok) {S W cs : List Int} (hS : S.length = d.P) (hW : W.length = d.P) (nn : ∀ p, 0 ≤ S.getD p 0) (hs : ∀ p, S.getD p 0 ≤ 99) (F : Feas d S W cs) : planV d W (some (vI S)) (some (vI cs)) = true := by
  show (sOk d (vI S) && cOk d (vI cs) && planB d ((vI S).map intV) W ((vI cs).map intV)) = true
  unfold sOk cOk
  rw [vI_intV, vI_intV, planB_feas ok hS hW F, carAll_of F.len (fun i w hw => ⟨F.lo i w hw, F.hi i w hw⟩)]
  have h1 : (vI S).all (fun x => isFromV x 0 99) = true := by
    rw [List.all_eq_true]
    intro x hx
    obtain ⟨n, hn, rfl⟩ := List.mem_map.mp hx
    obtain ⟨i, hi, rfl⟩ := List.getElem_of_mem hn
    have e : S.getD i 0 = S[i] := by simp [List.getD_eq_getElem?_getD, hi]
    exact isFromV_of (by rw [← e]; exact nn i) (by rw [← e]; exact hs i)
  rw [h1]
  simp [hS, F.len]
section
variable {K : PySem.W.Frag} {H : Hp} {Q : VK} {a b : Addr}
theorem dp_flat : ∀ L : List V, (∀ x ∈ L, Fl3 x) → ∃ ds, DpAll K H L ds ∧ ds.length = L.length ∧ PyData.canLayAll0 ds = true ∧ PyData.depthAll ds = 0
  | [], _ => ⟨[], .nil, rfl, by simp [PyData.canLayAll0], by simp [PyData.depthAll]⟩
  | x :: L, h => by
    obtain ⟨ds, h1, h2, h3, h4⟩ := dp_flat L (fun y hy => h y (by simp [hy]))
    have hx := h x (by simp)
    cases x with
    | non => exact ⟨_, .cons .non h1, by simp [h2], by simp [PyData.canLayAll0, PyData.canLay0, h3], by simp [PyData.depthAll, PyData.depth, h4]⟩
    | bl b => exact ⟨_, .cons (.bl b) h1, by simp [h2], by simp [PyData.canLayAll0, PyData.canLay0, h3], by simp [PyData.depthAll, PyData.depth, h4]⟩
    | int i => exact ⟨_, .cons (.int i) h1, by simp [h2], by simp [PyData.canLayAll0, PyData.canLay0, h3], by simp [PyData.depthAll, PyData.depth, h4]⟩
    | str _ => exact hx.elim
    | byt _ => exact hx.elim
    | flt _ => exact hx.elim
    | ref _ => exact hx.elim
    | ty _ => exact hx.elim
theorem c_neNilF {L : List V} (hF : ∀ x ∈ L, Fl3 x) (ha : SqL K H a L) (hb : SqL K H b []) (q : Q (.bl (!L.isEmpty)) H) : rNeD K (.ref a) (.ref b) H Q := by
  obtain ⟨ds, h1, h2, h3, h4⟩ := dp_flat (K := K) (H := H) L hF
  refine ⟨.list ds, .list [], .lst ha h1, .lst hb .nil, ?_, rfl, ?_⟩
  · show (PyData.canLay0 (.list ds) && decide (PyData.depth (.list ds) ≤ 64)) = true
    simp [PyData.canLay0, PyData.depth, h3, h4]
  · have e : PyData.eqv (.list ds) (.list []) = L.isEmpty := by
      cases ds with
      | nil =>
        have : L = [] := List.eq_nil_of_length_eq_zero h2.symm
        subst this
        simp [PyData.eqv, PyData.eqvAll]
      | cons d ds =>
        cases L with
        | nil => simp at h2
        | cons x L => simp [PyData.eqv, PyData.eqvAll]
    rw [e]
    exact q
end
theorem negs_eq (row : List Int) : decide ((row.filter fun x => decide (x < 0)).length = 0) = nnRow row := by
  unfold nnRow
  induction row with
  | nil => rfl
  | cons x row ih =>
    rw [List.all_cons, ← ih, List.filter_cons]
    by_cases h : x < 0
    · have h2 : ¬ 0 ≤ x := by omega
      simp [h, h2]
    · have h2 : 0 ≤ x := by omega
      simp [h, h2]
theorem bad_eq {lo hi : Int} : ∀ xs : List V, (xs.filter fun x => !isFromV x lo hi).isEmpty = xs.all (fun x => isFromV x lo hi)
  | [] => rfl
  | x :: xs => by
    rw [List.all_cons, ← bad_eq xs, List.filter_cons]
    cases isFromV x lo hi <;> simp
end HX

/-! All lines. -/
namespace HX
open PySem PySem.Spec PyProof.Rows L2 Dry
def linesN (T : Nat) : Nat → List (List Nat)
  | 0 => [[]]
  | n + 1 => (List.range (T + 2)).flatMap fun c => (linesN T n).map fun l => l ++ [c]
theorem mem_linesN {T : Nat} : ∀ {n : Nat} {l : List Nat}, l ∈ linesN T n ↔ l.length = n ∧ ∀ m ∈ l, m ≤ T + 1
  | 0, l => by
    unfold linesN
    constructor
    · intro h
      obtain rfl := List.mem_singleton.mp h
      exact ⟨rfl, fun m hm => by simp at hm⟩
    · rintro ⟨h, _⟩
      obtain rfl := List.eq_nil_of_length_eq_zero h
      simp
  | n + 1, l => by
    unfold linesN
    rw [List.mem_flatMap]
    constructor
    · rintro ⟨c, hc, h⟩
      obtain ⟨l', h', rfl⟩ := List.mem_map.mp h
      obtain ⟨h1, h2⟩ := mem_linesN.mp h'
      have := List.mem_range.mp hc
      refine ⟨by simp [h1], fun m hm => ?_⟩
      rcases List.mem_append.mp hm with hm | hm
      · exact h2 m hm
      · obtain rfl := List.mem_singleton.mp hm
        omega
    · rintro ⟨h1, h2⟩
      rcases List.eq_nil_or_concat l with rfl | ⟨l', c, rfl⟩
      · simp at h1
      · refine ⟨c, List.mem_range.mpr (by have := h2 c (by simp); omega), List.mem_map.mpr ⟨l', mem_linesN.mpr ⟨by simpa using h1, fun m hm => h2 m (by simp [hm])⟩, by simp⟩⟩
theorem flat_len {α β : Type} (f : α → List β) (n : Nat) : ∀ l : List α, (∀ x ∈ l, (f x).length = n) → (l.flatMap f).length = l.length * n
  | [], _ => by simp
  | x :: l, h => by
    rw [List.flatMap_cons, List.length_append, flat_len f n l (fun y hy => h y (by simp [hy])), h x (by simp), List.length_cons, Nat.add_mul]
    omega
theorem linesN_length (T : Nat) : ∀ n, (linesN T n).length = (T + 2) ^ n
  | 0 => rfl
  | n + 1 => by
    unfold linesN
    rw [flat_len _ ((T + 2) ^ n) _ (fun c _ => by rw [List.length_map, linesN_length T n]), List.length_range, Nat.pow_succ, Nat.mul_comm]
theorem Refs.append {b : Bool} {K : PySem.W.Frag} {H : Hp} {rs ss : List V} {us vs : List (List V)} (h1 : Refs b K H rs us) (h2 : Refs b K H ss vs) : Refs b K H (rs ++ ss) (us ++ vs) := by
  refine ⟨by simp [h1.len, h2.len], fun i x hx => ?_⟩
  rw [List.getElem?_append] at hx
  by_cases hl : i < us.length
  · rw [if_pos hl] at hx
    obtain ⟨y, a1, a2⟩ := h1.at_ i x hx
    exact ⟨y, by rw [List.getElem?_append, if_pos (by rw [h1.len]; exact hl)]; exact a1, a2⟩
  · rw [if_neg hl] at hx
    obtain ⟨y, a1, a2⟩ := h2.at_ _ x hx
    exact ⟨y, by rw [List.getElem?_append, if_neg (by rw [h1.len]; exact hl), h1.len]; exact a1, a2⟩
theorem pow_small {T P n : Nat} (hT : T ≤ 8) (hP : P ≤ 5) (hn : n ≤ P) : (T + 2) ^ n ≤ 100000 :=
  Nat.le_trans (Nat.pow_le_pow_left (by omega : T + 2 ≤ 10) n) (Nat.le_trans (Nat.pow_le_pow_right (by decide) (by omega : n ≤ 5)) (by decide))
end HX

/-! Verdicts as things. -/
namespace HX
open PySem PySem.Spec PyProof.Rows L2 Dry
/-- a block in a block: none of its names is of the outer one -/
theorem blkOk_nof {N : List Str} {sc scope : Scope} {own : List (Str × Nat)} (h : blkC N { kind := .function, names := [], isGenerator := false, isCoroutine := false } scope own = true) : BlkOk N sc scope own := by
  have b := blkOk_by h
  exact ⟨b.kind, b.uniq, b.ix, fun y hy e => (b.free y hy e).elim (fun h => nomatch h) (fun h => nomatch h), b.own⟩
def isStrV : V → Bool
  | .str _ => true
  | _ => false
theorem isi_str {K : PySem.W.Frag} {H : Hp} {x : V} {Q : VK} (h : Kn K H x) (q : Q (.bl (isStrV x)) H) : rIsi K [x, .ty "str"] H Q := by
  cases x with
  | non => exact c_isi (.base .non) k_none_str q
  | bl b => exact c_isi (.base (.bl b)) k_bool_str q
  | int i => exact c_isi (.base (.int i)) k_int_str q
  | str x => exact c_isi (.base (.str x)) k_str_str q
  | ref a =>
    rcases h with ⟨xs, h⟩ | ⟨xs, h⟩
    · exact c_isi (ty_tup h) k_tuple_str q
    · exact c_isi (ty_lst h) k_list_str q
  | byt _ => exact h.elim
  | flt _ => exact h.elim
  | ty _ => exact h.elim
theorem c_eqS {x y : Str} {H : Hp} {Q : VK} (q : Q (.bl (decide (x = y))) H) : rEq (.str x) (.str y) H Q := ⟨rfl, by
  have e : decide (V.str x = V.str y) = decide (x = y) := decide_eq_decide.mpr ⟨fun h => by cases h; rfl, fun h => by rw [h]⟩
  rw [e]; exact q⟩
theorem c_neS {x y : Str} {H : Hp} {Q : VK} (q : Q (.bl (!decide (x = y))) H) : rNe (.str x) (.str y) H Q := ⟨rfl, by
  have e : decide (V.str x = V.str y) = decide (x = y) := decide_eq_decide.mpr ⟨fun h => by cases h; rfl, fun h => by rw [h]⟩
  rw [e]; exact q⟩
/-- a line that shows more than start inside -/
def wetV (d : Day) (G W : List Int) : Option (List V) → Bool
  | none => false
  | some ys => match lineAns d W ys with
    | .int n => decide (inside d G (kOf (ys.map natV)) < n)
    | _ => false
def verdV (d : Day) (G W : List Int) (word : Str) (oz : Option (List V)) : Bool := if word = "dry" then planV d W (some (vI G)) oz else if word = "wet" then wetV d G W oz else false
theorem nn_mem {S : List Int} (h : ∀ p, 0 ≤ S.getD p 0) : ∀ x ∈ S, 0 ≤ x := fun x hx => by
  obtain ⟨i, hi, rfl⟩ := List.getElem_of_mem hx
  have e : S.getD i 0 = S[i] := by simp [List.getD_eq_getElem?_getD, hi]
  rw [← e]; exact h i
theorem nn_set {S : List Int} {i : Nat} {z : Int} (h : ∀ x ∈ S, 0 ≤ x) (hz : 0 ≤ z) : ∀ x ∈ S.set i z, 0 ≤ x := fun x hx => (List.mem_or_eq_of_mem_set hx).elim (h x) (fun e => e ▸ hz)
def cap20 (x : Int) : Int := if x < 20 then x else 20
theorem cap_ok {S : List Int} (h : ∀ x ∈ S, 0 ≤ x) (p : Nat) : 0 ≤ (S.map cap20).getD p 0 ∧ (S.map cap20).getD p 0 ≤ 20 := by
  rw [List.getD_eq_getElem?_getD, List.getElem?_map]
  cases e : S[p]? with
  | none => simp
  | some x =>
    have hx := h x (List.mem_of_getElem? e)
    show 0 ≤ cap20 x ∧ cap20 x ≤ 20
    unfold cap20
    split <;> omega
end HX

/-! Rows of counts, compared and looked for. -/
namespace HX
open PySem PySem.Spec PyProof.Rows L2 Dry
section
variable {K : PySem.W.Frag} {H : Hp} {Q : VK} {a b : Addr}
theorem dp_nats : ∀ ns : List Nat, DpAll K H (vN ns) (ns.map fun (n : Nat) => PyData.int (n : Int))
  | [] => .nil
  | n :: ns => .cons (.int n) (dp_nats ns)
def dRows (ls : List (List Nat)) : List PyData := ls.map fun l => PyData.tuple (l.map fun (n : Nat) => PyData.int (n : Int))
theorem dpAll_of : ∀ (rs : List V) (ds : List PyData), rs.length = ds.length → (∀ (i : Nat) (v : V) (dd : PyData), rs[i]? = some v → ds[i]? = some dd → Dp K H v dd) → DpAll K H rs ds
  | [], [], _, _ => .nil
  | [], _ :: _, h, _ => by simp at h
  | _ :: _, [], h, _ => by simp at h
  | r :: rs, d :: ds, h, f => .cons (f 0 r d rfl rfl) (dpAll_of rs ds (by simpa using h) fun i v dd h1 h2 => f (i + 1) v dd (by simpa using h1) (by simpa using h2))
theorem dp_rows {rs : List V} {ls : List (List Nat)} (h : Refs true K H rs (ls.map vN)) : DpAll K H rs (dRows ls) := by
  refine dpAll_of rs _ (by rw [h.len]; simp [dRows]) fun i v dd h1 h2 => ?_
  unfold dRows at h2
  rw [List.getElem?_map] at h2
  obtain ⟨l, hl, rfl⟩ := Option.map_eq_some_iff.mp h2
  obtain ⟨x, hx, hs⟩ := h.at_ i (vN l) (by rw [List.getElem?_map, hl]; rfl)
  rw [h1] at hx
  obtain rfl := Option.some.inj hx
  exact .tup hs (dp_nats l)
theorem ints_shape : ∀ l : List Nat, PyData.canLayAll0 (l.map fun (n : Nat) => PyData.int (n : Int)) = true ∧ PyData.depthAll (l.map fun (n : Nat) => PyData.int (n : Int)) = 0
  | [] => ⟨by simp [PyData.canLayAll0], by simp [PyData.depthAll]⟩
  | n :: l => by
    obtain ⟨h1, h2⟩ := ints_shape l
    exact ⟨by simp [PyData.canLayAll0, PyData.canLay0, h1], by simp [PyData.depthAll, PyData.depth, h2]⟩
theorem row_shape (l : List Nat) : SeqAt.shaped (.tuple (l.map fun (n : Nat) => PyData.int (n : Int))) = true := by
  obtain ⟨h1, h2⟩ := ints_shape l
  show (PyData.canLay0 _ && decide (PyData.depth _ ≤ 64)) = true
  simp [PyData.canLay0, PyData.depth, h1, h2]
theorem rows_shape : ∀ ls : List (List Nat), PyData.canLayAll0 (dRows ls) = true ∧ PyData.depthAll (dRows ls) ≤ 1
  | [] => ⟨by simp [dRows, PyData.canLayAll0], by simp [dRows, PyData.depthAll]⟩
  | l :: ls => by
    obtain ⟨h1, h2⟩ := rows_shape ls
    obtain ⟨h3, h4⟩ := ints_shape l
    unfold dRows at h1 h2 ⊢
    exact ⟨by simp [PyData.canLayAll0, PyData.canLay0, h1, h3], by simp [PyData.depthAll, PyData.depth, h4]; omega⟩
theorem rows_shaped (ls : List (List Nat)) : SeqAt.shaped (.list (dRows ls)) = true := by
  obtain ⟨h1, h2⟩ := rows_shape ls
  show (PyData.canLay0 _ && decide (PyData.depth _ ≤ 64)) = true
  simp [PyData.canLay0, PyData.depth, h1]; omega
theorem c_eqNilR {rs : List V} {ls : List (List Nat)} (ha : SqL K H a rs) (h : Refs true K H rs (ls.map vN)) (hb : SqL K H b []) (q : Q (.bl ls.isEmpty) H) : rEqD K (.ref a) (.ref b) H Q := by
  refine ⟨_, _, .lst ha (dp_rows h), .lst hb .nil, rows_shaped ls, rfl, ?_⟩
  have e : PyData.eqv (.list (dRows ls)) (.list []) = ls.isEmpty := by
    cases ls <;> simp [dRows, PyData.eqv, PyData.eqvAll]
  rw [e]
  exact q
theorem eqv_ints : ∀ l : List Nat, PyData.eqvAll (l.map fun (n : Nat) => PyData.int (n : Int)) (l.map fun (n : Nat) => PyData.int (n : Int)) = true
  | [] => by simp [PyData.eqvAll]
  | n :: l => by simp [PyData.eqvAll, PyData.eqv, eqv_ints l]
theorem c_notInR {rs : List V} {ls : List (List Nat)} {l : List Nat} (hl : SqT K H b (vN l)) (ha : SqL K H a rs) (h : Refs true K H rs (ls.map vN)) (hm : l ∈ ls) (q : Q (.bl false) H) : rNotInD K (.ref b) (.ref a) H Q := by
  refine ⟨_, _, .tup hl (dp_nats l), .lst ha (dp_rows h), row_shape l, rows_shaped ls, ?_⟩
  have e : ((dRows ls).any fun z => PyData.eqv z (.tuple (l.map fun (n : Nat) => PyData.int (n : Int)))) = true := by
    rw [List.any_eq_true]
    refine ⟨_, List.mem_map.mpr ⟨l, hm, rfl⟩, ?_⟩
    simp [PyData.eqv, eqv_ints l]
  rw [e]
  exact q
end
/-- pairs: what a line shows, and the line -/
def PairsAt (K : PySem.W.Frag) (H : Hp) (d : Day) (W : List Int) (rs : List V) (ls : List (List Nat)) : Prop :=
  rs.length = ls.length ∧ ∀ (i : Nat) (l : List Nat), ls[i]? = some l → ∃ p c : Addr, rs[i]? = some (V.ref p) ∧ SqT K H p [.int (shows d W (kOf l)), .ref c] ∧ SqT K H c (vN l)
theorem PairsAt.tx {K : PySem.W.Frag} {H H' : Hp} {d : Day} {W : List Int} {rs : List V} {ls : List (List Nat)} (e : Tx H H') (h : PairsAt K H d W rs ls) : PairsAt K H' d W rs ls :=
  ⟨h.1, fun i l hl => let ⟨p, c, h1, h2, h3⟩ := h.2 i l hl; ⟨p, c, h1, e.tup h2, e.tup h3⟩⟩
theorem PairsAt.nil {K : PySem.W.Frag} {H : Hp} {d : Day} {W : List Int} : PairsAt K H d W [] [] := ⟨rfl, fun i l h => by simp at h⟩
theorem PairsAt.snoc {K : PySem.W.Frag} {H : Hp} {d : Day} {W : List Int} {rs : List V} {ls : List (List Nat)} {l : List Nat} {p c : Addr} (h : PairsAt K H d W rs ls) (h2 : SqT K H p [.int (shows d W (kOf l)), .ref c]) (h3 : SqT K H c (vN l)) : PairsAt K H d W (rs ++ [V.ref p]) (ls ++ [l]) := by
  refine ⟨by simp [h.1], fun i u hu => ?_⟩
  by_cases hi : i < ls.length
  · rw [List.getElem?_append_left hi] at hu
    rw [List.getElem?_append_left (by rw [h.1]; exact hi)]
    exact h.2 i u hu
  · have hi2 : i = ls.length := by
      have := (List.getElem?_eq_some_iff.mp hu).1
      simp at this
      omega
    subst hi2
    rw [List.getElem?_append_right (Nat.le_refl _), Nat.sub_self] at hu
    have e : l = u := by simpa using hu
    subst e
    refine ⟨p, c, ?_, h2, h3⟩
    rw [← h.1, List.getElem?_append_right (Nat.le_refl _), Nat.sub_self]
    rfl
theorem PairsAt.get {K : PySem.W.Frag} {H : Hp} {d : Day} {W : List Int} {rs : List V} {ls : List (List Nat)} (h : PairsAt K H d W rs ls) {i : Nat} {x : V} (hx : rs[i]? = some x) : ∃ l p c, ls[i]? = some l ∧ x = .ref p ∧ SqT K H p [.int (shows d W (kOf l)), .ref c] ∧ SqT K H c (vN l) := by
  have hi : i < ls.length := by rw [← h.1]; exact (List.getElem?_eq_some_iff.mp hx).1
  obtain ⟨p, c, h1, h2, h3⟩ := h.2 i ls[i] (List.getElem?_eq_getElem hi)
  rw [hx] at h1
  exact ⟨ls[i], p, c, List.getElem?_eq_getElem hi, Option.some.inj h1, h2, h3⟩
theorem cut_put {xs : List V} {i : Nat} {y : V} (h : i < xs.length) : cutV xs none (some (i : Int)) ++ [y] ++ cutV xs (some ((i : Int) + 1)) none = xs.set i y := by
  have e1 : HT.sIx xs.length xs.length (some (i : Int)) = i := by unfold HT.sIx; dsimp only; split <;> omega
  have e2 : HT.sIx xs.length 0 (some ((i : Int) + 1)) = i + 1 := by unfold HT.sIx; dsimp only; split <;> omega
  unfold cutV
  rw [e1, e2]
  have e3 : HT.sIx xs.length 0 none = 0 := rfl
  have e4 : HT.sIx xs.length xs.length none = xs.length := rfl
  have e5 : (xs.drop (i + 1)).take (xs.length - (i + 1)) = xs.drop (i + 1) := List.take_of_length_le (by rw [List.length_drop]; exact Nat.le_refl _)
  rw [e3, e4, e5, List.drop_zero, Nat.sub_zero, List.set_eq_take_append_cons_drop, if_pos h, List.append_assoc]
  rfl
theorem set_ge {G : List Int} {i : Nat} {z : Int} (h : G.getD i 0 ≤ z) (p : Nat) : G.getD p 0 ≤ (G.set i z).getD p 0 := by
  rw [List.getD_eq_getElem?_getD, List.getD_eq_getElem?_getD, List.getElem?_set]
  by_cases hi : i = p
  · subst hi
    rw [if_pos rfl]
    by_cases hl : i < G.length
    · rw [if_pos hl]
      rw [List.getD_eq_getElem?_getD] at h
      exact h
    · rw [if_neg hl, List.getElem?_eq_none (by omega)]
      exact Int.le_refl _
  · rw [if_neg hi]
    exact Int.le_refl _
theorem hu65 {k : Nat} {A : Around} (r : Room k A) : A.units + 65 < cLine := by have := r.un; omega
theorem c_notB {a b : Bool} {H : Hp} {Q : VK} (q : Q (.bl (!decide (a = b))) H) : rNotB (.bl a) (.bl b) H Q := ⟨a, b, rfl, rfl, q⟩
theorem vN_natV : ∀ ns : List Nat, (vN ns).map natV = ns
  | [] => rfl
  | n :: ns => by
    show natV (.int (n : Int)) :: (vN ns).map natV = n :: ns
    rw [vN_natV ns]
    rfl
end HX

/-! The first of a pair looked for among the two words. -/
namespace HX
open PySem PySem.Spec PyProof.Rows L2 Dry
section
variable {K : PySem.W.Frag}
theorem intsI_shape : ∀ l : List Int, PyData.canLayAll0 (l.map PyData.int) = true ∧ PyData.depthAll (l.map PyData.int) = 0
  | [] => ⟨by simp [PyData.canLayAll0], by simp [PyData.depthAll]⟩
  | n :: l => by
    obtain ⟨h1, h2⟩ := intsI_shape l
    exact ⟨by simp [PyData.canLayAll0, PyData.canLay0, h1], by simp [PyData.depthAll, PyData.depth, h2]⟩
theorem tup_shape (l : List Int) : SeqAt.shaped (.tuple (l.map PyData.int)) = true := by
  obtain ⟨h1, h2⟩ := intsI_shape l
  show (PyData.canLay0 _ && decide (PyData.depth _ ≤ 64)) = true
  simp [PyData.canLay0, PyData.depth, h1, h2]
/-- a first: a word, a truth value, a tuple of numbers -/
def Fst (K : PySem.W.Frag) (H : Hp) (y : V) : Prop := (∃ x, y = .str x ∧ SeqAt.shaped (.str x) = true) ∨ (∃ b, y = .bl b) ∨ ∃ t ns, y = .ref t ∧ SqT K H t (vI ns)
theorem Fst.kn {H : Hp} {y : V} (h : Fst K H y) : Kn K H y := by
  rcases h with ⟨x, rfl, _⟩ | ⟨b, rfl⟩ | ⟨t, ns, rfl, h⟩
  · trivial
  · trivial
  · exact .inl ⟨_, h⟩
theorem Fst.tx {H H' : Hp} {y : V} (e : Tx H H') (h : Fst K H y) : Fst K H' y := by
  rcases h with h | h | ⟨t, ns, h1, h⟩
  · exact .inl h
  · exact .inr (.inl h)
  · exact .inr (.inr ⟨t, ns, h1, e.tup h⟩)
theorem two_shape : SeqAt.shaped (.list [.str "dry", .str "wet"]) = true := by decide +kernel
theorem c_notWord {H : Hp} {Q : VK} {l : Addr} {y : V} (hy : Fst K H y) (hl : SqL K H l [.str "dry", .str "wet"]) (q1 : isStrV y = false → Q (.bl true) H) (q2 : ∀ word, y = .str word → Q (.bl (!(decide (word = "dry") || decide (word = "wet")))) H) : rNotInD K y (.ref l) H Q := by
  have hd : Dp K H (.ref l) (.list [.str "dry", .str "wet"]) := .lst hl (.cons (.str _) (.cons (.str _) .nil))
  rcases hy with ⟨x, rfl, hx⟩ | ⟨b, rfl⟩ | ⟨t, ns, rfl, h⟩
  · refine ⟨_, _, .str x, hd, hx, two_shape, ?_⟩
    have e : (([.str "dry", .str "wet"] : List PyData).any fun z => PyData.eqv z (.str x)) = (decide (x = "dry") || decide (x = "wet")) := by
      simp only [List.any_cons, List.any_nil, Bool.or_false, PyData.eqv]
      congr 1 <;> (rw [Bool.beq_eq_decide_eq]; exact decide_eq_decide.mpr ⟨Eq.symm, Eq.symm⟩)
    rw [e]
    exact q2 x rfl
  · refine ⟨_, _, .bl b, hd, rfl, two_shape, ?_⟩
    have e : (([.str "dry", .str "wet"] : List PyData).any fun z => PyData.eqv z (.bool b)) = false := by simp [PyData.eqv]
    rw [e]
    exact q1 rfl
  · refine ⟨_, _, .tup h (dp_ints ns), hd, tup_shape ns, two_shape, ?_⟩
    have e : (([.str "dry", .str "wet"] : List PyData).any fun z => PyData.eqv z (.tuple (ns.map PyData.int))) = false := by simp [PyData.eqv]
    rw [e]
    exact q1 rfl
end
end HX

/-! Lists of numbers compared; what the lines show at most; a row with one walk otherwise. -/
namespace HX
open PySem PySem.Spec PyProof.Rows L2 Dry
section
variable {K : PySem.W.Frag} {H : Hp} {Q : VK} {a b : Addr}
def natD (n : Nat) : PyData := .int (n : Int)
theorem natsL_shaped (l : List Nat) : SeqAt.shaped (.list (l.map fun (n : Nat) => PyData.int (n : Int))) = true := by
  obtain ⟨h1, h2⟩ := ints_shape l
  show (PyData.canLay0 _ && decide (PyData.depth _ ≤ 64)) = true
  simp [PyData.canLay0, PyData.depth, h1, h2]
theorem c_neSame {l : List Nat} (ha : SqL K H a (vN l)) (hb : SqL K H b (vN l)) (q : Q (.bl false) H) : rNeD K (.ref a) (.ref b) H Q := by
  refine ⟨_, _, .lst ha (dp_nats l), .lst hb (dp_nats l), natsL_shaped l, natsL_shaped l, ?_⟩
  have e : PyData.eqv (.list (l.map fun (n : Nat) => PyData.int (n : Int))) (.list (l.map fun (n : Nat) => PyData.int (n : Int))) = true := by
    simp [PyData.eqv, eqv_ints l]
  rw [e]
  exact q
theorem c_notInN {l : List Nat} {n : Nat} (ha : SqL K H a (vN l)) (hm : n ∈ l) (q : Q (.bl false) H) : rNotInD K (.int (n : Int)) (.ref a) H Q := by
  refine ⟨_, _, .int _, .lst ha (dp_nats l), rfl, natsL_shaped l, ?_⟩
  have e : ((l.map fun (n : Nat) => PyData.int (n : Int)).any fun z => PyData.eqv z (.int (n : Int))) = true := by
    rw [List.any_eq_true]
    refine ⟨_, List.mem_map.mpr ⟨n, hm, rfl⟩, ?_⟩
    simp [PyData.eqv]
  rw [e]
  exact q
end
theorem line_mem {d : Day} (ok : d.Ok) (W : List Int) : line d W ∈ linesN d.T d.P := mem_linesN.mpr ⟨line_length d W, line_bound ok W⟩
theorem max_shows {d : Day} (ok : d.Ok) {W : List Int} (hW : W.length = d.P) (wn : ∀ p, 0 ≤ W.getD p 0) {m : Int} (h1 : m ∈ (linesN d.T d.P).map fun l => shows d W (kOf l)) (h2 : ∀ y ∈ (linesN d.T d.P).map fun l => shows d W (kOf l), y ≤ m) : m = (fewest d W).1 := by
  have h3 := h2 _ (List.mem_map.mpr ⟨_, line_mem ok W, rfl⟩)
  rw [Dry.line_shows ok hW wn] at h3
  obtain ⟨l, hl, rfl⟩ := List.mem_map.mp h1
  have h4 := shows_le ok hW wn (kOf l) (fun p _ => kOf_le (mem_linesN.mp hl).2 p)
  omega
theorem dry_lines {d : Day} (ok : d.Ok) {G W : List Int} (hG : G.length = d.P) (hW : W.length = d.P) (gn : ∀ p, 0 ≤ G.getD p 0) (wn : ∀ p, 0 ≤ W.getD p 0) :
    dryB d G W = (linesN d.T d.P).all fun l => decide (shows d W (kOf l) ≤ inside d G (kOf l)) := by
  rw [Bool.eq_iff_iff, dry_iff ok hG hW gn wn, List.all_eq_true]
  constructor
  · intro h l hl
    exact decide_eq_true (h _ (fun p _ => kOf_le (mem_linesN.mp hl).2 p))
  · intro h k hk
    have hl : (List.range d.P).map k ∈ linesN d.T d.P := mem_linesN.mpr ⟨by simp, fun m hm => by
      obtain ⟨p, hp, rfl⟩ := List.mem_map.mp hm
      exact hk p (List.mem_range.mp hp)⟩
    have h1 := of_decide_eq_true (h _ hl)
    have hk2 : ∀ p, p < d.P → kOf ((List.range d.P).map k) p = k p := fun p hp => by
      unfold kOf
      simp [List.getD_eq_getElem?_getD, hp]
    have e1 : inside d G (kOf ((List.range d.P).map k)) = inside d G k := sumP_congr _ fun p hp => by rw [hk2 p hp]
    have e2 : raw d W (kOf ((List.range d.P).map k)) = raw d W k := by
      unfold raw
      rw [sumP_congr (f := fun p => if kOf ((List.range d.P).map k) p = d.T + 1 then W.getD p 0 else 0) (g := fun p => if k p = d.T + 1 then W.getD p 0 else 0) d.P (fun p hp => by rw [hk2 p hp])]
      have e3 : ∀ ws : List Wk, (∀ w ∈ ws, w.b < d.P ∧ w.e < d.P) → sumWs (showW (kOf ((List.range d.P).map k))) ws = sumWs (showW k) ws := by
        intro ws
        induction ws with
        | nil => intro _; rfl
        | cons v ws ih =>
          intro hw
          have h0 := hw v (by simp)
          show showW _ v + _ = showW k v + _
          rw [ih (fun u hu => hw u (by simp [hu]))]
          congr 1
          unfold showW leaves comes
          rw [hk2 _ h0.1, hk2 _ h0.2]
      rw [e3 d.ws (fun w hw => ⟨ok.b w hw, ok.e w hw⟩)]
    have e4 : shows d W (kOf ((List.range d.P).map k)) = shows d W k := by unfold shows; rw [e2]
    rw [e1, e4] at h1
    exact h1
theorem lines_pos (T n : Nat) : 0 < (linesN T n).length := by rw [linesN_length]; exact Nat.pow_pos (by omega)
theorem wks_set {K : PySem.W.Frag} {H : Hp} {vs : List V} {ws : List Wk} (h : Wks K H vs ws) {i : Nat} {w : Wk} {x : Addr} (hx : SqT K H x (wkV w)) : Wks K H (vs.set i (.ref x)) (ws.set i w) := by
  refine ⟨by simp [h.len], fun j v hv => ?_⟩
  rw [List.getElem?_set] at hv
  by_cases e : i = j
  · subst e
    rw [if_pos rfl] at hv
    split at hv
    · rename_i hl
      cases hv
      exact ⟨x, by rw [List.getElem?_set, if_pos rfl, if_pos (by rw [h.len]; exact hl)], hx⟩
    · cases hv
  · rw [if_neg e] at hv
    obtain ⟨y, h1, h2⟩ := h.at_ j v hv
    exact ⟨y, by rw [List.getElem?_set, if_neg e]; exact h1, h2⟩
theorem filt_snoc {q : Nat → Bool} {n i : Nat} (hi : i < n) : ((List.range n).take (i + 1)).filter q = ((List.range n).take i).filter q ++ (if q i then [i] else []) := by
  rw [take_succ_get (show (List.range n)[i]? = some i by simp [hi]), List.filter_append]
  congr 1
  rw [List.filter_cons]
  split <;> rfl
theorem filt_le {q : Nat → Bool} {n i : Nat} : (((List.range n).take i).filter q).length ≤ n := by
  refine Nat.le_trans (List.length_filter_le _ _) ?_
  rw [List.length_take, List.length_range]
  omega
theorem cut3 {a b c x y : V} : cutV [a, b, c, x, y] none (some 3) = [a, b, c] := rfl
end HX

/-! Walks compared; things judged as days; tuples of the module. -/
namespace HX
open PySem PySem.Spec PyProof.Rows L2 Dry
/-! ### less, by data -/
def rLtD (K : PySem.W.Frag) : R2 := fun x y H Q => ∃ d e, Dp K H x d ∧ Dp K H y e ∧ PySem.W.alike d e = true ∧ d ≠ .none ∧ d.depth ≤ 60 ∧ Q (.bl (PySem.W.dataLt d e)) H
theorem op_ltD {X : Cx} (hu : X.A.units + 64 < cLine) : OpR X (compareOp .Lt) (rLtD X.K) := by
  intro pins s σ H x y v u Q I rx ry h
  obtain ⟨d, e, hd, he, ha, hn, hz, q⟩ := h
  obtain ⟨as, r1⟩ := Dp.reads I d x v hd rx
  obtain ⟨bs, r2⟩ := Dp.reads I e y u he ry
  exact PySem.W.lt_data r1 r2 ha hn (by have := Nat.min_le_left d.depth e.depth; omega) ⟨.bl _, H, I, rfl, q⟩
def wkD (w : Wk) : PyData := .tuple [.int (w.h : Int), .int (w.b : Int), .int (w.e : Int), .bool w.wet, .int (w.r : Int)]
def wkLt (v w : Wk) : Bool := if v.h = w.h then (if v.b = w.b then (if v.e = w.e then (if v.wet = w.wet then decide (v.r < w.r) else !v.wet) else decide (v.e < w.e)) else decide (v.b < w.b)) else decide (v.h < w.h)
theorem dp_wk {K : PySem.W.Frag} {H : Hp} {a : Addr} {w : Wk} (h : SqT K H a (wkV w)) : Dp K H (.ref a) (wkD w) := .tup h (.cons (.int _) (.cons (.int _) (.cons (.int _) (.cons (.bl _) (.cons (.int _) .nil)))))
theorem wk_alike (v w : Wk) : PySem.W.alike (wkD v) (wkD w) = true := by simp [wkD, PySem.W.alike, PySem.W.alikeAll]
theorem eqv_nat (a b : Nat) : PyData.eqv (.int (a : Int)) (.int (b : Int)) = decide (a = b) := by
  simp only [PyData.eqv]
  rw [Bool.beq_eq_decide_eq]
  exact decide_eq_decide.mpr (by omega)
open PySem.W in
theorem wk_dataLt (v w : Wk) : PySem.W.dataLt (wkD v) (wkD w) = wkLt v w := by
  unfold wkD wkLt
  rw [PySem.W.dataLt_tuple, PySem.W.dataLt_cons (by simp [PySem.W.alike]), PySem.W.dataLt_cons (by simp [PySem.W.alike]), PySem.W.dataLt_cons (by simp [PySem.W.alike]), PySem.W.dataLt_cons (by simp [PySem.W.alike]), PySem.W.dataLt_cons (by simp [PySem.W.alike])]
  rw [eqv_nat, eqv_nat, eqv_nat, eqv_nat, PySem.W.dataLt_int, PySem.W.dataLt_int, PySem.W.dataLt_int, PySem.W.dataLt_int, PySem.W.dataLt_bool]
  have e : PyProof.Rows.lexLt itemOrd (PySem.W.keyToksAll []) (PySem.W.keyToksAll []) = false := PyProof.Rows.lex_irrefl _
  rw [e]
  have d : ∀ a b : Nat, decide ((a : Int) < (b : Int)) = decide (a < b) := fun a b => dec_nat
  rw [d, d, d, d]
  have hb : PyData.eqv (.bool v.wet) (.bool w.wet) = decide (v.wet = w.wet) := by
    simp only [PyData.eqv]
    cases v.wet <;> cases w.wet <;> rfl
  rw [hb]
  by_cases h1 : v.h = w.h <;> simp only [h1, decide_true, decide_false, if_true, if_false, Bool.false_eq_true]
  by_cases h2 : v.b = w.b <;> simp only [h2, decide_true, decide_false, if_true, if_false, Bool.false_eq_true]
  by_cases h3 : v.e = w.e <;> simp only [h3, decide_true, decide_false, if_true, if_false, Bool.false_eq_true]
  by_cases h4 : v.wet = w.wet <;> simp only [h4, decide_true, decide_false, if_true, if_false, Bool.false_eq_true]
  · by_cases h5 : v.r = w.r <;> simp [h5]
  · cases hv : v.wet <;> cases hw : w.wet <;> simp [hv, hw] at h4 ⊢ <;> simp [b2i]
theorem wk_depth (w : Wk) : (wkD w).depth ≤ 60 := by simp [wkD, PyData.depth, PyData.depthAll]
theorem c_ltW {K : PySem.W.Frag} {H : Hp} {Q : VK} {a b : Addr} {v w : Wk} (ha : SqT K H a (wkV v)) (hb : SqT K H b (wkV w)) (q : Q (.bl (wkLt v w)) H) : rLtD K (.ref a) (.ref b) H Q :=
  ⟨_, _, dp_wk ha, dp_wk hb, wk_alike v w, (fun z => nomatch z), wk_depth v, by rw [wk_dataLt]; exact q⟩
theorem wkLt_code {P T : Nat} {v w : Wk} (hv : WkB P T v) (hw : WkB P T w) (hP : P ≤ 1000) (hT : T ≤ 1000) : wkLt v w = decide (TS.code 1000 (wkN v) < TS.code 1000 (wkN w)) := by
  rw [code_wk, code_wk]
  obtain ⟨h1, h2, h3, h4, h5, h6⟩ := hv
  obtain ⟨g1, g2, g3, g4, g5, g6⟩ := hw
  have a1 : v.wi = if v.wet then 1 else 0 := rfl
  have a2 : w.wi = if w.wet then 1 else 0 := rfl
  unfold wkLt
  by_cases e1 : v.h = w.h
  · rw [if_pos e1]
    by_cases e2 : v.b = w.b
    · rw [if_pos e2]
      by_cases e3 : v.e = w.e
      · rw [if_pos e3]
        by_cases e4 : v.wet = w.wet
        · rw [if_pos e4]
          rw [a1, a2, e4]
          exact decide_eq_decide.mpr (by split <;> omega)
        · rw [if_neg e4]
          cases hv : v.wet <;> cases hw : w.wet <;> rw [hv] at a1 e4 <;> rw [hw] at a2 e4 <;> simp at a1 a2 e4
          · rw [a1, a2]; symm; exact decide_eq_true (by omega)
          · rw [a1, a2]; symm; exact decide_eq_false (by omega)
      · rw [if_neg e3]
        exact decide_eq_decide.mpr (by split at a1 <;> split at a2 <;> omega)
    · rw [if_neg e2]
      exact decide_eq_decide.mpr (by split at a1 <;> split at a2 <;> omega)
  · rw [if_neg e1]
    exact decide_eq_decide.mpr (by split at a1 <;> split at a2 <;> omega)
/-! ### zip of a longer and a shorter one -/
theorem walk_zip2r {K : PySem.W.Frag} {b1 b2 : Bool} {a b : Addr} {xs ys : List V} {n : Nat} (hx : n ≤ xs.length) (hy : ys.length = n) :
    Walk (Itz2 K b1 b2 a b xs ys) n (fun H => SqB K b1 H a xs ∧ SqB K b2 H b ys) (YPair (fun i => xs[i]?) (fun i => ys[i]?)) :=
  ⟨fun i _ hi q => ⟨q.1, q.2, by omega, by omega⟩, fun _ q => ⟨q.1, q.2, by omega, by omega, by omega⟩, fun i H v H' _ q y => by
    obtain ⟨T, x, z, h1, h2, h3, h4, h5⟩ := y
    exact ⟨T, x, z, h1, h2, h3, h4, h5⟩⟩
/-! ### things as walks, as days -/
/-- a thing as a tuple of things of known kinds, or none -/
def TK (K : PySem.W.Frag) (H : Hp) (x : V) (o : Option (List V)) : Prop := (o = none ∧ NTup K H x) ∨ ∃ t ys, o = some ys ∧ x = .ref t ∧ SqT K H t ys ∧ (∀ y ∈ ys, Kn K H y) ∧ ys.length ≤ 1000
theorem TK.same {K : PySem.W.Frag} {H H' : Hp} {x : V} {o : Option (List V)} (e : Same H H') (h : TK K H x o) : TK K H' x o := by
  rcases h with ⟨h1, h2⟩ | ⟨t, ys, h1, h2, h3, h4, h5⟩
  · exact .inl ⟨h1, h2.kp (.of e)⟩
  · exact .inr ⟨t, ys, h1, h2, e.tup h3, fun y hy => (h4 y hy).same e, h5⟩
def wkOf : Option (List V) → Wk
  | some [h, b, e, .bl w, r] => ⟨natV h, natV b, natV e, w, natV r⟩
  | _ => ⟨0, 0, 0, false, 0⟩
def walkB (P T : Int) : Option (List V) → Bool
  | some [h, b, e, w, r] => isFromV h 0 (T - 1) && (isFromV b 0 (P - 1) && (isFromV e 0 (P - 1) && (!decide (intV b = intV e) && (isBoolV w && isFromV r 1 3))))
  | _ => false
def risingB : List Wk → Bool
  | v :: w :: ws => wkLt v w && risingB (w :: ws)
  | _ => true
/-- what a thing is as a day: what its three parts are, if it has three -/
abbrev DOf : Type := Option (V × V × Option (List (Option (List V))))
def dayB : DOf → Bool
  | some (p, h, some os) => isFromV p 2 5 && (isFromV h 1 8 && (decide (os.length ≤ 12) && (os.all (walkB (intV p) (intV h)) && risingB (os.map wkOf))))
  | _ => false
def WalksK (K : PySem.W.Frag) (H : Hp) (z : V) (ow : Option (List (Option (List V)))) : Prop := (ow = none ∧ NTup K H z) ∨ ∃ t ws os, ow = some os ∧ z = .ref t ∧ SqT K H t ws ∧ ws.length = os.length ∧ os.length ≤ 1000 ∧ ∀ (i : Nat) (x : V) (o : Option (List V)), ws[i]? = some x → os[i]? = some o → TK K H x o
def DK (K : PySem.W.Frag) (H : Hp) (x : V) (o : DOf) : Prop := (o = none ∧ (NTup K H x ∨ ∃ t ys, x = .ref t ∧ SqT K H t ys ∧ ys.length ≠ 3)) ∨ ∃ t p h z ow, o = some (p, h, ow) ∧ x = .ref t ∧ SqT K H t [p, h, z] ∧ Kn K H p ∧ Kn K H h ∧ WalksK K H z ow
theorem WalksK.same {K : PySem.W.Frag} {H H' : Hp} {x : V} {o : Option (List (Option (List V)))} (e : Same H H') (h : WalksK K H x o) : WalksK K H' x o := by
  rcases h with ⟨h1, h2⟩ | ⟨t, ws, os, h1, h2, h3, h4, h5, h6⟩
  · exact .inl ⟨h1, h2.kp (.of e)⟩
  · exact .inr ⟨t, ws, os, h1, h2, e.tup h3, h4, h5, fun i x o a b => (h6 i x o a b).same e⟩
theorem isFromV_ex {x : V} {lo hi : Int} (h : isFromV x lo hi = true) : ∃ i, x = .int i ∧ lo ≤ i ∧ i ≤ hi := ⟨_, isFromV_int h⟩
theorem walkB_of {P T : Int} {o : Option (List V)} (h : walkB P T o = true) : ∃ P' T' : Nat, (P' : Int) = P ∧ (T' : Int) = T ∧ WkB P' T' (wkOf o) ∧ o = some (wkV (wkOf o)) := by
  match o, h with
  | some [h, b, e, w, r], hh =>
    simp only [walkB, Bool.and_eq_true] at hh
    obtain ⟨h1, h2, h3, h4, h5, h6⟩ := hh
    obtain ⟨h', rfl, a1, a2⟩ := isFromV_ex h1
    obtain ⟨b', rfl, b1, b2⟩ := isFromV_ex h2
    obtain ⟨e', rfl, c1, c2⟩ := isFromV_ex h3
    obtain ⟨r', rfl, d1, d2⟩ := isFromV_ex h6
    cases w with
    | bl w =>
      have h4' : b' ≠ e' := fun z => by rw [z] at h4; simp at h4
      refine ⟨P.toNat, T.toNat, by omega, by omega, ⟨?_, ?_, ?_, ?_, ?_, ?_⟩, ?_⟩
      · show h'.toNat < _; omega
      · show b'.toNat < _; omega
      · show e'.toNat < _; omega
      · show b'.toNat ≠ e'.toNat; omega
      · show 1 ≤ r'.toNat; omega
      · show r'.toNat ≤ 3; omega
      · show _ = some [V.int (h'.toNat : Int), V.int (b'.toNat : Int), V.int (e'.toNat : Int), V.bl w, V.int (r'.toNat : Int)]
        rw [Int.toNat_of_nonneg a1, Int.toNat_of_nonneg b1, Int.toNat_of_nonneg c1, Int.toNat_of_nonneg (by omega)]
    | _ => cases h5
theorem wkOf_wk (w : Wk) : wkOf (some (wkV w)) = w := by
  show (⟨((w.h : Int)).toNat, ((w.b : Int)).toNat, ((w.e : Int)).toNat, w.wet, ((w.r : Int)).toNat⟩ : Wk) = w
  simp
theorem walkB_wk {P T : Nat} {w : Wk} (h : WkB P T w) : walkB (P : Int) (T : Int) (some (wkV w)) = true := by
  obtain ⟨h1, h2, h3, h4, h5, h6⟩ := h
  show (isFromV (.int (w.h : Int)) 0 ((T : Int) - 1) && (isFromV (.int (w.b : Int)) 0 ((P : Int) - 1) && (isFromV (.int (w.e : Int)) 0 ((P : Int) - 1) && (!decide ((w.b : Int) = (w.e : Int)) && (true && isFromV (.int (w.r : Int)) 1 3))))) = true
  rw [isFromV_of (by omega) (by omega), isFromV_of (by omega) (by omega), isFromV_of (by omega) (by omega), isFromV_of (by omega) (by omega), decide_eq_false (by omega)]
  rfl
theorem rising_of {P T : Nat} (hP : P ≤ 1000) (hT : T ≤ 1000) : ∀ {ws : List Wk}, (∀ w ∈ ws, WkB P T w) → (ws.Pairwise fun v w => TS.code 1000 (wkN v) < TS.code 1000 (wkN w)) → risingB ws = true
  | [], _, _ => rfl
  | [_], _, _ => rfl
  | v :: w :: ws, hb, hp => by
    show (wkLt v w && risingB (w :: ws)) = true
    rw [rising_of (ws := w :: ws) hP hT (fun u hu => hb u (by simp at hu ⊢; exact .inr hu)) (List.Pairwise.tail hp), wkLt_code (hb v (by simp)) (hb w (by simp)) hP hT]
    have := (List.pairwise_cons.mp hp).1 w (by simp)
    rw [decide_eq_true this]
    rfl
theorem rising_list : ∀ ws : List Wk, ((List.zipWith wkLt ws (ws.drop 1)).all id) = risingB ws
  | [] => rfl
  | [_] => rfl
  | v :: w :: ws => by
    have ih := rising_list (w :: ws)
    show (wkLt v w && ((List.zipWith wkLt (w :: ws) ((w :: ws).drop 1)).all id)) = _
    rw [ih]
    rfl
theorem cut1 (xs : List V) : cutV xs (some 1) none = xs.drop 1 := by
  unfold cutV
  have e2 : HT.sIx xs.length xs.length none = xs.length := rfl
  rw [e2]
  cases xs with
  | nil => rfl
  | cons x xs =>
    have e1 : HT.sIx (x :: xs).length 0 (some 1) = 1 := by unfold HT.sIx; dsimp only; simp
    rw [e1]
    exact List.take_of_length_le (by simp)
/-- a drawn day as a thing -/
theorem walksK_day {K : PySem.W.Frag} {H : Hp} {t : Addr} {ds : List V} {ws : List Wk} (hs : SqT K H t ds) (hw : Wks K H ds ws) (hl : ws.length ≤ 1000) : WalksK K H (.ref t) (some (ws.map fun w => some (wkV w))) := by
  refine .inr ⟨t, ds, _, rfl, rfl, hs, by rw [hw.len, List.length_map], by rw [List.length_map]; exact hl, fun i x o hx ho => ?_⟩
  obtain ⟨w, a, h1, rfl, h3⟩ := hw.get hx
  rw [List.getElem?_map, h1] at ho
  cases ho
  exact .inr ⟨a, _, rfl, rfl, h3, fun y hy => by simp [wkV] at hy; rcases hy with rfl | rfl | rfl | rfl | rfl <;> trivial, by simp [wkV]⟩
theorem dayB_day {P T : Nat} {ws : List Wk} (h2 : 2 ≤ P) (h5 : P ≤ 5) (t1 : 1 ≤ T) (t8 : T ≤ 8) (hl : ws.length ≤ 12) (hb : ∀ w ∈ ws, WkB P T w) (hp : ws.Pairwise fun v w => TS.code 1000 (wkN v) < TS.code 1000 (wkN w)) :
    dayB (some (.int (P : Int), .int (T : Int), some (ws.map fun w => some (wkV w)))) = true := by
  show (isFromV (.int (P : Int)) 2 5 && (isFromV (.int (T : Int)) 1 8 && (decide ((ws.map fun w => some (wkV w)).length ≤ 12) && ((ws.map fun w => some (wkV w)).all (walkB (P : Int) (T : Int)) && risingB ((ws.map fun w => some (wkV w)).map wkOf))))) = true
  rw [isFromV_of (by omega) (by omega), isFromV_of (by omega) (by omega), decide_eq_true (by rw [List.length_map]; exact hl)]
  have h1 : (ws.map fun w => some (wkV w)).all (walkB (P : Int) (T : Int)) = true := by
    rw [List.all_eq_true]
    intro o ho
    obtain ⟨w, hw, rfl⟩ := List.mem_map.mp ho
    exact walkB_wk (hb w hw)
  have h3 : (ws.map fun w => some (wkV w)).map wkOf = ws := by
    rw [List.map_map]
    have : (wkOf ∘ fun w => some (wkV w)) = id := funext fun w => wkOf_wk w
    rw [this, List.map_id]
  rw [h1, h3, rising_of (by omega) (by omega) hb hp]
  rfl
/-! ### tuples of the module -/
def obsT (fa : List He.Fa) (fn : List He.FnD) (ta : List (Str × List He.Dv)) (K : PySem.W.Frag) : He.Al := (((fa.all fun f => f.ok K) && fn.all fun d => (He.Fa.code d.at_ d.qual).ok K) && ta.all fun q => He.tupB K q.1 q.2, fn.map fun d => He.fnObs K d.at_)
def SaysT (fa : List He.Fa) (fn : List He.FnD) (ta : List (Str × List He.Dv)) (K : PySem.W.Frag) : Prop := obsT fa fn ta K = He.valE fn
def obsTG (n : Nat) (fa : List He.Fa) (fn : List He.FnD) (ta : List (Str × List He.Dv)) (g : Addr → Option Obj) : He.Al := obsT fa fn ta (He.frG g (He.asG g n))
def hookT (n : Nat) (fa : List He.Fa) (fn : List He.FnD) (ta : List (Str × List He.Dv)) : PySem.W.Hook where
  α := He.Al
  obs := fun s => obsTG n fa fn ta s.heap.get?
  val := fun _ => He.valE fn
  says := fun _ h => ∃ K : PySem.W.Frag, K.In h ∧ SaysT fa fn ta K
  of := fun _ _ e => ⟨_, He.frG_in, e⟩
  keeps := fun _ _ _ ⟨K, hK, c⟩ k => ⟨K, PySem.W.Frag.In.keeps hK k, c⟩
theorem obsTG_eq {n : Nat} {fa : List He.Fa} {fn : List He.FnD} {ta : List (Str × List He.Dv)} {g : Addr → Option Obj} {s : Shared} (h : ∀ a, g a = s.heap.get? a) : obsTG n fa fn ta g = (hookT n fa fn ta).obs s := by
  have e : g = s.heap.get? := funext h
  rw [e] <;> rfl
theorem SaysT.e {fa : List He.Fa} {fn : List He.FnD} {ta : List (Str × List He.Dv)} {K : PySem.W.Frag} (c : SaysT fa fn ta K) : He.SaysE fa fn K := by
  have c1 := (He.ba (show (((fa.all fun f => f.ok K) && fn.all fun d => (He.Fa.code d.at_ d.qual).ok K) && ta.all fun q => He.tupB K q.1 q.2) = true from congrArg (fun z : He.Al => z.1) c)).1
  have e : fn.map (fun d => He.fnObs K d.at_) = fn.map He.FnD.val := congrArg (fun z : He.Al => z.2) c
  show (_, _) = (_, _)
  rw [c1, e]
theorem SaysT.tup {fa : List He.Fa} {fn : List He.FnD} {ta : List (Str × List He.Dv)} {K : PySem.W.Frag} (c : SaysT fa fn ta K) (i : Nat) {x : Str} {vs : List He.Dv} (h : ta[i]? = some (x, vs)) : ∀ H, SqT K H (He.ga K x) (vs.map (He.Dv.v K)) := by
  have c2 := (He.ba (show (((fa.all fun f => f.ok K) && fn.all fun d => (He.Fa.code d.at_ d.qual).ok K) && ta.all fun q => He.tupB K q.1 q.2) = true from congrArg (fun z : He.Al => z.1) c)).2
  exact fun H => He.tupB_ok (List.all_eq_true.mp c2 (x, vs) (List.mem_of_getElem? h)) H
end HX

/-! len of a dict of walks. -/
namespace HX
open PySem PySem.Spec PyProof.Rows L2 Dry
def rLenW (K : PySem.W.Frag) (P : Program) (w : World) : List V → Hp → VK → Prop := fun vs H Q => ∃ (a : Addr) (L : List (Wk × Addr)), vs = [V.ref a] ∧ H a = some (DWO P w a L) ∧ (∀ q ∈ L, SqT K H q.2 (wkV q.1)) ∧ L.length ≤ 1000 ∧ Q (.int (L.length : Int)) H
theorem cr_lenW {X : Cx} : CallR X (.builtin "len") (rLenW X.K X.prog X.w) := by
  intro pins s σ H vs us Q I r h
  obtain ⟨a, L, rfl, ha, hk, hl, q⟩ := h
  have R : DictW X.prog X.w s.heap a L := (I.hok a _ ha).1
  rw [Vals.ref1 r]
  refine call_len_dictH (knd := LK X.prog X.w) R.1 (dictW_full I R hk) (by rw [List.length_map]; omega) ?_
  rw [List.length_map]
  exact ⟨.int (L.length : Int), H, I.tok _, ⟨_, rfl⟩, q⟩
theorem kn_days {K : PySem.W.Frag} {H : Hp} {a aw : Addr} {ds : List V} {d : Day} (h : DayAt K H a aw ds d) (hl : d.ws.length ≤ 1000) : DK K H (.ref a) (some (.int (d.P : Int), .int (d.T : Int), some (d.ws.map fun w => some (wkV w)))) :=
  .inr ⟨a, _, _, .ref aw, _, rfl, rfl, h.day, trivial, trivial, walksK_day h.seq h.wks hl⟩
theorem DayD.wkB {m h k : Nat} {d : Day} (D : DayD m h k d) : ∀ w ∈ d.ws, WkB d.P d.T w := fun w hw => ⟨D.ok.h w hw, D.ok.b w hw, D.ok.e w hw, D.ne w hw, D.ok.r w hw, D.r3 w hw⟩
theorem DayD.dayB {m h k : Nat} {d : Day} (D : DayD m h k d) (hm : m ≤ 5) (hh : h ≤ 8) (hk : k ≤ 12) : HX.dayB (some (.int (d.P : Int), .int (d.T : Int), some (d.ws.map fun w => some (wkV w)))) = true :=
  dayB_day D.P2 (Nat.le_trans D.PM hm) D.T1 (Nat.le_trans D.TM hh) (Nat.le_trans D.W hk) D.wkB D.srt
theorem wks_refs {K : PySem.W.Frag} {H : Hp} {vs : List V} {ws : List Wk} (h : Refs true K H vs (ws.map wkV)) : Wks K H vs ws :=
  ⟨by rw [h.len, List.length_map], fun i w hw => h.at_ i (wkV w) (by rw [List.getElem?_map, hw]; rfl)⟩
theorem tv_ints {K : PySem.W.Frag} {H : Hp} {a : Addr} {G : List Int} (h : SqT K H a (vI G)) (hl : G.length ≤ 1000) : TV K H (.ref a) (some (vI G)) :=
  .inr ⟨a, vI G, rfl, rfl, h, fun y hy => by obtain ⟨n, _, rfl⟩ := List.mem_map.mp hy; trivial, by rw [List.length_map]; exact hl⟩
theorem all_from {G : List Int} {hi : Int} (h : ∀ p, p < G.length → 0 ≤ G.getD p 0 ∧ G.getD p 0 ≤ hi) : (vI G).all (fun x => isFromV x 0 hi) = true := by
  rw [List.all_eq_true]
  intro x hx
  obtain ⟨n, hn, rfl⟩ := List.mem_map.mp hx
  obtain ⟨i, hi', rfl⟩ := List.getElem_of_mem hn
  have e : G.getD i 0 = G[i] := by simp [List.getD_eq_getElem?_getD, hi']
  have := h i hi'
  exact isFromV_of (by omega) (by omega)
end HX

/-! Things judged as verdicts. -/
namespace HX
open PySem PySem.Spec PyProof.Rows L2 Dry
/-- what a thing is as a verdict: its first, and its second as a tuple, if it is a pair -/
abbrev VD : Type := Option (V × Option (List V))
def vAns (d : Day) (G W : List Int) : VD → Bool
  | some (.str word, oz) => verdV d G W word oz
  | _ => false
def VT (K : PySem.W.Frag) (H : Hp) (x : V) (r : VD) : Prop :=
  (r = none ∧ (NTup K H x ∨ ∃ t xs, x = .ref t ∧ SqT K H t xs ∧ xs.length ≠ 2)) ∨ ∃ t y z oz, r = some (y, oz) ∧ x = .ref t ∧ SqT K H t [y, z] ∧ Fst K H y ∧ TV K H z oz
theorem VT.kp {K : PySem.W.Frag} {H H' : Hp} {x : V} {r : VD} (e : Kp H H') (h : VT K H x r) : VT K H' x r := by
  rcases h with ⟨h1, h2 | ⟨t, xs, h2, h3, h4⟩⟩ | ⟨t, y, z, oz, h1, h2, h3, h4, h5⟩
  · exact .inl ⟨h1, .inl (h2.kp e)⟩
  · exact .inl ⟨h1, .inr ⟨t, xs, h2, e.tx.tup h3, h4⟩⟩
  · exact .inr ⟨t, y, z, oz, h1, h2, e.tx.tup h3, h4.tx e.tx, h5.kp e⟩
def VTs (K : PySem.W.Frag) (H : Hp) (xs : List V) (rs : List VD) : Prop := xs.length = rs.length ∧ ∀ (i : Nat) (x : V) (r : VD), xs[i]? = some x → rs[i]? = some r → VT K H x r
theorem VTs.kp {K : PySem.W.Frag} {H H' : Hp} {xs : List V} {rs : List VD} (e : Kp H H') (h : VTs K H xs rs) : VTs K H' xs rs := ⟨h.1, fun i x r a b => (h.2 i x r a b).kp e⟩
theorem VTs.nil {K : PySem.W.Frag} {H : Hp} : VTs K H [] [] := ⟨rfl, fun i x r h => by simp at h⟩
theorem VTs.cons {K : PySem.W.Frag} {H : Hp} {xs : List V} {rs : List VD} {x : V} {r : VD} (h : VT K H x r) (t : VTs K H xs rs) : VTs K H (x :: xs) (r :: rs) := by
  refine ⟨by simp [t.1], fun i y s hy hs => ?_⟩
  cases i with
  | zero =>
    simp at hy hs
    subst hy hs
    exact h
  | succ i => exact t.2 i y s (by simpa using hy) (by simpa using hs)
theorem VTs.append {K : PySem.W.Frag} {H : Hp} {xs ys : List V} {rs ss : List VD} (h : VTs K H xs rs) (t : VTs K H ys ss) : VTs K H (xs ++ ys) (rs ++ ss) := by
  refine ⟨by simp [h.1, t.1], fun i y s hy hs => ?_⟩
  by_cases hi : i < xs.length
  · rw [List.getElem?_append_left hi] at hy
    rw [List.getElem?_append_left (by rw [← h.1]; exact hi)] at hs
    exact h.2 i y s hy hs
  · rw [List.getElem?_append_right (by omega)] at hy
    rw [List.getElem?_append_right (by rw [← h.1]; omega), ← h.1] at hs
    exact t.2 _ y s hy hs
theorem fst_str {K : PySem.W.Frag} {H : Hp} {x : Str} (h : SeqAt.shaped (.str x) = true) : Fst K H (.str x) := .inl ⟨x, rfl, h⟩
theorem sh_dry : SeqAt.shaped (.str "dry") = true := by decide +kernel
theorem sh_wet : SeqAt.shaped (.str "wet") = true := by decide +kernel
theorem sh_Dry : SeqAt.shaped (.str "Dry") = true := by decide +kernel
theorem sh_damp : SeqAt.shaped (.str "damp") = true := by decide +kernel
theorem vt_pair {K : PySem.W.Frag} {H : Hp} {t : Addr} {y z : V} {oz : Option (List V)} (h : SqT K H t [y, z]) (h1 : Fst K H y) (h2 : TV K H z oz) : VT K H (.ref t) (some (y, oz)) := .inr ⟨t, y, z, oz, rfl, rfl, h, h1, h2⟩
theorem vt_no {K : PySem.W.Frag} {H : Hp} {x : V} (h : NTup K H x) : VT K H x none := .inl ⟨rfl, .inl h⟩
theorem vt_odd {K : PySem.W.Frag} {H : Hp} {t : Addr} {xs : List V} (h : SqT K H t xs) (hl : xs.length ≠ 2) : VT K H (.ref t) none := .inl ⟨rfl, .inr ⟨t, xs, rfl, h, hl⟩⟩
theorem tv_flat {K : PySem.W.Frag} {H : Hp} {t : Addr} {ys : List V} (h : SqT K H t ys) (hf : ∀ y ∈ ys, Fl3 y) (hl : ys.length ≤ 1000) : TV K H (.ref t) (some ys) := .inr ⟨t, ys, rfl, rfl, h, hf, hl⟩
theorem fl_ints {G : List Int} : ∀ y ∈ vI G, Fl3 y := fun y hy => by obtain ⟨n, _, rfl⟩ := List.mem_map.mp hy; trivial
theorem fl_nats {G : List Nat} : ∀ y ∈ vN G, Fl3 y := fun y hy => by obtain ⟨n, _, rfl⟩ := List.mem_map.mp hy; trivial
theorem fl_cut {xs : List V} {lo hi : Option Int} (h : ∀ y ∈ xs, Fl3 y) : ∀ y ∈ cutV xs lo hi, Fl3 y := fun y hy => h y (cut_mem hy)
theorem fl_app {xs ys : List V} (h : ∀ y ∈ xs, Fl3 y) (g : ∀ y ∈ ys, Fl3 y) : ∀ y ∈ xs ++ ys, Fl3 y := fun y hy => (List.mem_append.mp hy).elim (h y) (g y)
theorem fl_one {x : V} (h : Fl3 x) : ∀ y ∈ [x], Fl3 y := fun y hy => by obtain rfl := List.mem_singleton.mp hy; exact h
theorem ite_word {word : Str} {σ : L2.St} {H : Hp} {Q : VK} (q : Q (.str (if word = "dry" then "wet" else "dry")) H) : if decide (word = "dry") = true then tC (.str "wet") σ H Q else tC (.str "dry") σ H Q := by
  by_cases h : word = "dry"
  · rw [if_pos h] at q
    rw [if_pos (decide_eq_true h)]
    exact q
  · rw [if_neg h] at q
    rw [if_neg (by simp [h])]
    exact q
theorem c_neB {a b : Bool} {H : Hp} {Q : VK} (q : Q (.bl (!decide (a = b))) H) : rNe (.bl a) (.bl b) H Q := ⟨rfl, by
  have e : decide (V.bl a = V.bl b) = decide (a = b) := decide_eq_decide.mpr ⟨fun h => by cases h; rfl, fun h => by rw [h]⟩
  rw [e]; exact q⟩
def rListK : List V → Hp → VK → Prop := fun xs H Q => ∃ (a : Addr) (kvs : List (L2.Key × V)), xs = [.ref a] ∧ Rd H a (.dK kvs) ∧ ∀ p, H p = none → Q (.ref p) (upd H p (.lst (kvs.map fun kv => kV kv.1)))
theorem call_listK {X : Cx} (hc : X.calm = true) : CallR X (.type "list") rListK := call_listD hc
theorem Tx.mutK {H : Hp} {p : Addr} {o : HO} {kvs : List (L2.Key × V)} (hp : H p = some (.dK kvs)) : Tx H (upd H p o) := Tx.mut hp rfl
theorem Kp.mutK {H : Hp} {p : Addr} {xs ys : List (L2.Key × V)} (hp : H p = some (.dK xs)) : Kp H (upd H p (.dK ys)) := by
  refine ⟨Tx.mutK hp, fun a zs h => ?_⟩
  have e : a ≠ p := fun z => by
    subst z
    rcases h with h | ⟨o, h⟩
    · rw [hp] at h; cases h
    · rw [hp] at h; cases h
  refine ⟨zs, ?_⟩
  rcases h with h | ⟨o, h⟩
  · exact .inl (by rw [upd_ne e]; exact h)
  · exact .inr ⟨o, by rw [upd_ne e]; exact h⟩
/-- a true verdict has the word that is told -/
theorem verdV_word {d : Day} (ok : d.Ok) {G W : List Int} (hG : G.length = d.P) (hW : W.length = d.P) (gn : ∀ p, 0 ≤ G.getD p 0) (wn : ∀ p, 0 ≤ W.getD p 0) {word : Str} {oz : Option (List V)} (h : verdV d G W word oz = true) :
    word = if (settled d G W).more.sum = 0 then ("dry" : Str) else "wet" := by
  unfold verdV at h
  by_cases h1 : word = "dry"
  · rw [if_pos h1] at h
    cases oz with
    | none => cases h
    | some cs =>
      have h' : (sOk d (vI G) && cOk d cs && planB d ((vI G).map intV) W (cs.map intV)) = true := h
      rw [Bool.and_eq_true, Bool.and_eq_true, vI_intV] at h'
      obtain ⟨⟨_, hc⟩, hp⟩ := h'
      unfold cOk at hc
      rw [Bool.and_eq_true] at hc
      have hl : cs.length = d.ws.length := of_decide_eq_true hc.1
      have hcs := carAll_int hl hc.2
      have hcl : (cs.map intV).length = d.ws.length := by rw [List.length_map, hl]
      have hget : ∀ i w, d.ws[i]? = some w → w.wi ≤ (cs.map intV).getD i 0 ∧ (cs.map intV).getD i 0 ≤ (w.r : Int) := by
        intro i w hw
        have hi : i < cs.length := by rw [hl]; exact (List.getElem?_eq_some_iff.mp hw).1
        have hci : cs[i]? = some cs[i] := List.getElem?_eq_getElem hi
        have := isFromV_int (carAll_get hw hci hc.2)
        rw [List.getD_eq_getElem?_getD, List.getElem?_map, hci]
        exact ⟨this.2.1, this.2.2⟩
      have F := feas_planB ok hcl hG hW (fun i w hw => (hget i w hw).1) (fun i w hw => (hget i w hw).2) hp
      have hd := of_decide_eq_true (feas_dry ok hG hW gn wn F)
      rw [if_pos hd, h1]
  · rw [if_neg h1] at h
    by_cases h2 : word = "wet"
    · rw [if_pos h2] at h
      have hnot : ¬ (settled d G W).more.sum = 0 := by
        intro hz
        cases oz with
        | none => cases h
        | some ys =>
          have h' : (match lineAns d W ys with | .int n => decide (inside d G (kOf (ys.map natV)) < n) | _ => false) = true := h
          by_cases hans : ys.length = d.P ∧ ys.all (fun x => isFromV x 0 ((d.T + 1 : Nat) : Int)) = true
          · have ha : lineAns d W ys = .int (shows d W (kOf (ys.map natV))) := by unfold lineAns; rw [if_pos hans]
            rw [ha] at h'
            have hlt := of_decide_eq_true h'
            have hb := (allFrom hans.2).2
            have := feas_shows ok gn (dry_feas ok hG hW gn wn hz) (kOf (ys.map natV)) (fun p _ => kOf_le hb p)
            omega
          · have ha : lineAns d W ys = .non := by unfold lineAns; rw [if_neg hans]
            rw [ha] at h'
            cases h'
      rw [if_neg hnot, h2]
    · rw [if_neg h2] at h
      cases h
end HX

/-! sorted of a list or a tuple of walks; a tuple turned round; a list unpacked. -/
namespace HX
open PySem PySem.Spec PyProof.Rows L2 Dry
section
variable {prog : Program} {w : World} {A : Around} {E : Value → Shared → Prop} {s : Shared}
/-- what a list or a tuple holds, collected -/
theorem collectQ {l : Addr} {T : String} {us : List Value} {n : Nat} {ob : Obj} {Q : List Value → Shared → Prop} (hT : T = "list" ∨ T = "tuple") (hg : s.heap.get? l = some ob) (hcl : ob.cls = .type T) (hdt : ob.data = .seq us.toArray n) (hz : us.length ≤ sizeLine)
    (q : Q us { s with heap := (s.heap.push (seqObj "list" #[] 0)).update s.heap.objs.size (Obj.mapSeq (· ++ us.toArray)) }) : wpAny (model prog w) A (collect (.ref l)) Q E s := by
  unfold collect
  refine wpAny_bind (wpAny_runValue (codeAny_builtin entry_proto_collect' ?_))
  show wpAny _ _ (do again (.builtin "list.__iadd__" ⟨[← newList [], .ref l], []⟩)) _ _ s
  refine wpAny_bind (wpAny_newList (wpAny_pure ⟨Code.quiet_builtin _ (by decide +kernel), codeAny_builtin entry_list_iadd' ?_⟩))
  show wpAny _ _ (Builtin.List.listExtendWith (.ref s.heap.objs.size) (.ref l) (.ref s.heap.objs.size)) _ _ { s with heap := s.heap.push (seqObj "list" #[] 0) }
  unfold Builtin.List.listExtendWith
  have hg1 : (s.heap.push (seqObj "list" #[] 0)).get? l = some ob := Heap.get?_push_of_some _ hg
  refine wpAny_bind (wpAny_typeOf (T := T) ⟨ob, hg1, hcl⟩ ?_)
  have hyes : (Value.type T == Value.type "list" || Value.type T == Value.type "tuple") = true := by
    rcases hT with rfl | rfl <;> rfl
  rw [if_pos (by rw [Bool.or_assoc, hyes, Bool.or_true])]
  refine wpAny_bind (listItems_at hg1 hdt (wpAny_bind (listItems_at (xs := #[]) (n := 0) (Heap.get?_push_size _ rfl) rfl ?_)))
  rw [if_neg (by simp)]
  have hz1 : (#[] ++ us.toArray).size ≤ sizeLine + 1 := by
    simp only [Array.size_append, List.size_toArray, List.length_nil]
    omega
  refine wpAny_bind (listUpdate_at (xs := #[]) (n := 0) (Heap.get?_push_size _ rfl) rfl (wpAny_pure ?_) (Nat.zero_le _) hz1)
  show wpAny (model prog w) A (load s.heap.objs.size >>= fun o => match o.data with
      | .seq xs _ => pure xs.toList
      | _ => unsupported "internal:collect") Q E _
  refine wpAny_bind (wpAny_load (get?_update_seq (Heap.get?_push_size _ rfl) _) ?_)
  have e : ((#[] : Array Value) ++ us.toArray).toList = us := by simp
  show wpAny _ _ (pure ((#[] : Array Value) ++ us.toArray).toList) Q E _
  rw [e]
  exact wpAny_pure q
/-- a slice object with the step -1, applied -/
theorem sliceBack {sl : Addr} {t : Tok} {n : Nat} {Q : Int × Int × Nat → Shared → Prop} (hs : s.heap.IsSliceOf sl .none .none (.int (-1) t)) (q : Q ((n : Int) - 1, -1, n) s) : wpAny (model prog w) A (Builtin.Slice.sliceApplied (.ref sl) (pure (n : Int))) Q E s := by
  obtain ⟨ob, hg, hcl, hdt⟩ := id hs
  unfold Builtin.Slice.sliceApplied Builtin.Slice.sliceFields
  refine wpAny_bind (wpAny_bind (wpAny_field hg hdt (x := .none) rfl (wpAny_bind (wpAny_field hg hdt (x := .none) rfl (wpAny_bind (wpAny_field hg hdt (x := .int (-1) t) rfl (wpAny_pure ?_)))))))
  refine wpAny_bind (slicePart_int ?_)
  show wpAny _ _ (if ((-1 : Int) == 0) = true then _ else _) _ _ s
  rw [if_neg (by decide)]
  refine wpAny_bind (slicePart_none (wpAny_bind (slicePart_none (wpAny_bind (wpAny_pure ?_)))))
  have e1 : Builtin.Slice.sliceAdjust none none (-1) (n : Int) = ((n : Int) - 1, -1) := by
    unfold Builtin.Slice.sliceAdjust
    simp
  have e2 : Builtin.Slice.slicePlaces ((n : Int) - 1) (-1) (-1) = n := by
    unfold Builtin.Slice.slicePlaces
    simp
    omega
  show wpAny _ _ (match Builtin.Slice.sliceAdjust none none (-1) (n : Int) with | (lo, hi) => pure (lo, (-1 : Int), Builtin.Slice.slicePlaces lo hi (-1))) _ _ s
  rw [e1]
  show wpAny _ _ (pure ((n : Int) - 1, (-1 : Int), Builtin.Slice.slicePlaces ((n : Int) - 1) (-1) (-1))) _ _ s
  rw [e2]
  exact wpAny_pure q
theorem pickBack (xs : Array Value) : ((List.range xs.size).filterMap fun (m : Nat) => xs[(((xs.size : Int) - 1) + (m : Int) * (-1)).toNat]?).toArray = xs.toList.reverse.toArray := by
  congr 1
  apply List.ext_getElem?
  intro i
  have key : ∀ n, n ≤ xs.size → ((List.range n).filterMap fun (m : Nat) => xs[(((xs.size : Int) - 1) + (m : Int) * (-1)).toNat]?) = (xs.toList.reverse).take n := by
    intro n
    induction n with
    | zero => intro _; rfl
    | succ n ih =>
      intro hn
      rw [List.range_succ, List.filterMap_append, ih (by omega)]
      have hi : (((xs.size : Int) - 1) + (n : Int) * (-1)).toNat = xs.size - 1 - n := by omega
      have hb : n < xs.toList.reverse.length := by rw [List.length_reverse, Array.length_toList]; omega
      have hb2 : xs.size - 1 - n < xs.size := by omega
      rw [List.take_succ_eq_append_getElem hb]
      congr 1
      have hx : xs[(((xs.size : Int) - 1) + (n : Int) * (-1)).toNat]? = some xs[xs.size - 1 - n] := by rw [hi, Array.getElem?_eq_getElem hb2]
      rw [List.filterMap_cons_some (f := fun (m : Nat) => xs[(((xs.size : Int) - 1) + (m : Int) * (-1)).toNat]?) (b := xs[xs.size - 1 - n]) hx]
      simp [List.getElem_reverse]
  rw [key xs.size (Nat.le_refl _), List.take_of_length_le (by simp)]
theorem itemBack {t sl : Addr} {tk : Tok} {items : Array Value} {Q : Value → Shared → Prop} (ht : IsTup s.heap t items) (hs : s.heap.IsSliceOf sl .none .none (.int (-1) tk))
    (q : Q (.ref s.heap.objs.size) { s with heap := s.heap.push { cls := .type "tuple", data := .seq items.toList.reverse.toArray } }) (hz : items.size ≤ sizeLine) : wpAny (model prog w) A (getItem (.ref t) (.ref sl)) Q E s := by
  have hroom : sizeOk (.seq items.toList.reverse.toArray) := by
    show items.toList.reverse.toArray.size ≤ sizeLine
    simpa using hz
  obtain ⟨ob, hg, hcl, hdt⟩ := id hs
  have hT : s.TypeIs (.ref sl) "slice" := ⟨ob, hg, hcl⟩
  unfold getItem
  try with_reducible refine wpAny_holding ?_
  first | refine wpAny_bind (wpAny_pure ?_) | skip
  refine wpAny_bind (wpAny_sequenceKey ht.typeIs (by decide) (wpAny_bind (wpAny_callSpecial?_slot (name := Str.ofString "__getitem__") ht.typeIs PyProof.Rows.slot_tuple_getitem
    (wpAny_call_entry PyProof.Rows.slot_tuple_getitem ht.typeIs entry_tuple_getitem ?_ (args_tuple_getitem _ _)))))
  show wpAny _ _ (Builtin.Tuple.tupleItemsOf (.ref t) >>= _) _ _ s
  refine wpAny_bind (tupleItemsOf_ ht (wpAny_bind (wpAny_typeOf hT ?_)))
  rw [if_pos (by decide)]
  refine wpAny_bind (sliceBack (n := items.size) hs ?_)
  have hno : ¬ ((((items.size : Int) - 1) == 0 && (-1 : Int) == 1 && items.size == items.size) = true) := by simp
  show wpAny _ _ (if (((items.size : Int) - 1) == 0 && (-1 : Int) == 1 && items.size == items.size) = true then _ else _) _ _ s
  rw [if_neg hno, pickBack]
  first
    | exact wpAny_bind (m := Builtin.Tuple.tupleExact _) (wpAny_newObj_type (wpAny_pure ⟨_, rfl, wpAny_pure q⟩) hroom)
    | exact wpAny_bind (m := Builtin.Tuple.tupleExact _) (wpAny_newObj_type (wpAny_bind (wpAny_pure (wpAny_pure ⟨_, rfl, wpAny_pure q⟩))) hroom)
    | exact wpAny_bind (wpAny_bind (m := Builtin.Tuple.tupleExact _) (wpAny_newObj_type (wpAny_pure (wpAny_pure ⟨_, rfl, wpAny_pure q⟩)) hroom))
    | exact wpAny_bind (wpAny_bind (m := Builtin.Tuple.tupleExact _) (wpAny_newObj_type (wpAny_pure ⟨_, rfl, wpAny_pure q⟩) hroom))
end
/-! ### t[::-1] -/
def tRevT (K : PySem.W.Frag) (te : TE) : TE := fun σ H Q => te σ H fun x H1 => ∃ a xs, x = .ref a ∧ SqT K H1 a xs ∧ ∀ p, H1 p = none → Q (.ref p) (upd H1 p (.tup xs.reverse))
theorem pe_revT {X : Cx} {e : Expr} {te : TE} {k : Nat} {p1 p2 p3 pos : Pos} (he : PE X e te) : PE X (.Subscript e (.Slice none none (some (.UnaryOp .USub (.Constant (.int 1) k p1) p2)) p3) pos) (tRevT X.K te) := by
  refine ⟨fun pins s σ H Q I h => Subscript_ (thn (he.run pins s σ H _ I h) fun v s1 ⟨x, H1, I1, r1, q1⟩ => ?_)⟩
  obtain ⟨a, xs, ex, hx, q⟩ := q1
  subst ex
  cases r1
  have hm1 : PO X (some (.UnaryOp .USub (.Constant (.int 1) k p1) p2)) (tPart (tUn (rU fun i => .int (-i)) (tC (.int 1)))) := po_some (pe_un un_neg pe_int)
  refine wpAny_Slice (thn (po_none.run pins s1 σ H1 (fun o H2 => o = none ∧ H2 = H1) I1 ⟨rfl, rfl⟩) fun vl s2 ⟨l, H2, I2, pl, el, e2⟩ => thn (po_none.run pins s2 σ H2 (fun o H3 => o = none ∧ H3 = H2) I2 ⟨rfl, rfl⟩) fun vu s3 ⟨u, H3, I3, pu, eu, e3⟩ => ?_)
  subst el e2 eu e3
  cases pl
  cases pu
  refine thn (hm1.run pins s3 σ H3 (fun o H4 => o = some (-1) ∧ H4 = H3) I3 ⟨1, rfl, -1, rfl, rfl, rfl⟩) fun vs s4 ⟨o, H4, I4, ps, eo, e4⟩ => ?_
  subst eo e4
  cases ps with
  | int i tk =>
    have I5 : Inv X pins σ H4 { s4 with heap := s4.heap.push { cls := .type "slice", data := .fields #[.none, .none, .int (-1) tk] } } := I4.kept (t' := s4.toks) fun b ob q => Heap.get?_push_of_some _ q
    obtain ⟨its, r, ht, hz⟩ := I5.tuple hx
    have hlen := r.length
    show wpAny (model X.prog X.w) X.A (subscriptTail e (.Slice none none (some (.UnaryOp .USub (.Constant (.int 1) k p1) p2)) p3) (.ref a) (.ref s4.heap.objs.size)) (EP X pins σ Q) X.xe _
    refine tail_any (ops := [.ref a, .ref s4.heap.objs.size]) ht.typeIs (PyProof.Rows.slot_tuple_getitem.lookup) ?_ (by with_unfolding_all rfl)
    refine itemBack ht (Heap.IsSliceOf.new _ .none .none (.int (-1) tk)) ?_ (by rw [List.size_toArray]; omega)
    refine ⟨.ref _, _, I5.laid (t' := s4.toks) (o := .tup xs.reverse) (fun b ob q => Heap.get?_push_of_some _ q) (Nat.le_refl _) ?_, rfl, q _ (I5.hok.fresh (Nat.le_refl _))⟩
    exact ⟨by rw [List.length_reverse]; exact hz, _, r.reverse, IsTup.new _ _⟩
theorem c_revT {K : PySem.W.Frag} {te : TE} {σ : L2.St} {H : Hp} {Q : VK} (q : te σ H fun x H1 => ∃ a xs, x = .ref a ∧ SqT K H1 a xs ∧ ∀ p, H1 p = none → Q (.ref p) (upd H1 p (.tup xs.reverse))) : tRevT K te σ H Q := q
/-! ### sorted -/
theorem perm_of_map {α β : Type} {f : β → α} {l m : List α} (h : l.Perm m) : ∀ L : List β, m = L.map f → ∃ L' : List β, L'.Perm L ∧ l = L'.map f := by
  induction h with
  | nil =>
    intro L e
    cases L with
    | nil => exact ⟨[], .nil, rfl⟩
    | cons _ _ => cases e
  | cons x _ ih =>
    intro L e
    cases L with
    | nil => cases e
    | cons q L =>
      rw [List.map_cons] at e
      injection e with e1 e2
      obtain ⟨L', p, e3⟩ := ih L e2
      exact ⟨q :: L', p.cons q, by rw [List.map_cons, e1, e3]⟩
  | swap x y l =>
    intro L e
    match L, e with
    | p :: q :: L, e =>
      simp only [List.map_cons, List.cons.injEq] at e
      exact ⟨q :: p :: L, .swap p q L, by simp [e.1, e.2.1, e.2.2]⟩
  | trans _ _ ih1 ih2 =>
    intro L e
    obtain ⟨L1, p1, e1⟩ := ih2 L e
    obtain ⟨L2, p2, e2⟩ := ih1 L1 e1
    exact ⟨L2, p2.trans p1, e2⟩
def rSortedQ (K : PySem.W.Frag) : List V → Hp → VK → Prop := fun vs H Q => ∃ (b : Bool) (a : Addr) (xs : List V) (ws : List Wk), vs = [V.ref a] ∧ SqB K b H a xs ∧ Wks K H xs ws ∧ ws.length < 64 ∧ (∀ v ∈ ws, TS.Bd 1000 (wkN v)) ∧
  ∀ (ys : List V) (us : List Wk) (p : Addr), us.Perm ws → us.Pairwise (fun v u => TS.code 1000 (wkN v) ≤ TS.code 1000 (wkN u)) → H p = none → Wks K H ys us → ys.length = us.length → Q (.ref p) (upd H p (.lst ys))
theorem wks_pairs {K : PySem.W.Frag} {H : Hp} : ∀ {xs : List V} {ws : List Wk}, Wks K H xs ws → ∃ L : List (Wk × Addr), xs = L.map (fun q => V.ref q.2) ∧ ws = L.map (·.1) ∧ ∀ q ∈ L, SqT K H q.2 (wkV q.1)
  | [], ws, h => by
    have : ws = [] := List.eq_nil_of_length_eq_zero h.len.symm
    subst this
    exact ⟨[], rfl, rfl, fun q hq => nomatch hq⟩
  | x :: xs, [], h => by cases h.len
  | x :: xs, v :: ws, h => by
    obtain ⟨a, h1, h2⟩ := h.at_ 0 v rfl
    simp at h1
    have ht : Wks K H xs ws := ⟨by have := h.len; simpa using this, fun i u hu => by
      obtain ⟨b, g1, g2⟩ := h.at_ (i + 1) u (by simpa using hu)
      exact ⟨b, by simpa using g1, g2⟩⟩
    obtain ⟨L, e1, e2, e3⟩ := wks_pairs ht
    refine ⟨(v, a) :: L, by rw [List.map_cons, h1, e1], by rw [List.map_cons, e2], fun q hq => ?_⟩
    rcases List.mem_cons.mp hq with rfl | hq
    · exact h2
    · exact e3 q hq
theorem items_at {b : Bool} {h : Heap} {a : Addr} {its : Array Value} (p : ItemsB b h a its) : ∃ ob n, h.get? a = some ob ∧ ob.cls = .type (if b then "tuple" else "list") ∧ ob.data = .seq its n := by
  cases b with
  | false => obtain ⟨ob, h1, h2, n, h3⟩ := p; exact ⟨ob, n, h1, h2, h3⟩
  | true => obtain ⟨ob, h1, h2, n, h3⟩ := p; exact ⟨ob, n, h1, h2, h3⟩
theorem cr_sortedQ {X : Cx} : CallR X (.builtin "sorted") (rSortedQ X.K) := by
  intro pins s σ H vs us Q I r h
  obtain ⟨b, a, xs, ws, rfl, hs, hw, h64, hB, q⟩ := h
  obtain ⟨L, rfl, rfl, hL⟩ := wks_pairs hw
  rw [List.length_map] at h64
  obtain ⟨its, rv, hit, _⟩ := seqB I hs
  rw [Vals.ref1 r]
  have hS : its = L.map fun q => Value.ref q.2 := by
    clear hit hw hs q h64 hB
    have : ∀ (L : List (Wk × Addr)) (its : List Value), Vals (L.map fun q => V.ref q.2) its → its = L.map fun q => Value.ref q.2 := by
      intro L
      induction L with
      | nil => intro its rv; cases rv; rfl
      | cons p L ih =>
        intro its rv
        cases rv with
        | cons r1 r2 =>
          cases r1
          rw [List.map_cons, ih _ r2]
    exact this L its rv
  have hil : its.length = L.length := by rw [hS, List.length_map]
  obtain ⟨ob, n, hg, hcl, hdt⟩ := items_at hit
  refine Calls.call_function_entry PyProof.Rows.kind_sorted PyProof.Rows.plain_sorted PyProof.Rows.entry_sorted (PyProof.Rows.args_sorted1 _) ?_
  unfold Builtin.«sorted»
  refine wpAny_bind (m := checkCount "sorted" 1 1 _) (wpAny_pure (wpAny_bind (collectQ (T := if b then "tuple" else "list") (by cases b <;> simp) hg hcl hdt (by rw [hil, sizeLine_eq]; omega) (wpAny_bind (wpAny_newList ?_ (by rw [hil, sizeLine_eq]; omega))))))
  generalize hh1 : (s.heap.push (seqObj "list" #[] 0)).update s.heap.objs.size (Obj.mapSeq (· ++ its.toArray)) = h1
  have hs1 : h1.objs.size = s.heap.objs.size + 1 := by rw [← hh1, Heap.size_update, size_push']
  have old1 : ∀ c u, s.heap.get? c = some u → h1.get? c = some u := fun c u e => by
    have hlt := Heap.lt_size e
    rw [← hh1, Heap.get?_update_ne _ _ _ _ (Nat.ne_of_lt hlt)]
    exact Heap.get?_push_of_some _ e
  have hoL : (h1.push (seqObj "list" its.toArray 0)).get? h1.objs.size = some (seqObj "list" its.toArray 0) := Heap.get?_push_size _ rfl
  have old2 : ∀ c u, s.heap.get? c = some u → (h1.push (seqObj "list" its.toArray 0)).get? c = some u := fun c u e => Heap.get?_push_of_some _ (old1 c u e)
  have tk1 : ∀ q ∈ L, TupNums wkK (h1.push (seqObj "list" its.toArray 0)) (.ref q.2) (wkN q.1) := fun q hq => (wk_at I (hL q hq)).2.keeps fun c u e _ => old2 c u e
  have x : NumsOk wkK (h1.push (seqObj "list" its.toArray 0)) 1000 its := fun v hv => by
    rw [hS] at hv
    obtain ⟨q, hq, rfl⟩ := List.mem_map.mp hv
    exact ⟨_, tk1 q hq, hB q.1 (List.mem_map.mpr ⟨q, hq, rfl⟩)⟩
  let rk : Value → Int := fun v => match L.find? (fun q => decide (Value.ref q.2 = v)) with
    | some q => TS.code 1000 (wkN q.1)
    | none => 0
  have rk_eq : ∀ q ∈ L, rk (.ref q.2) = TS.code 1000 (wkN q.1) := fun q hq => by
    show (match L.find? (fun p => decide (Value.ref p.2 = Value.ref q.2)) with
      | some q => TS.code 1000 (wkN q.1)
      | none => 0) = _
    cases e : L.find? (fun p => decide (Value.ref p.2 = Value.ref q.2)) with
    | none =>
      have := List.find?_eq_none.mp e q hq
      simp at this
    | some p =>
      have g1 := List.mem_of_find?_eq_some e
      have g2 := List.find?_some e
      simp at g2
      have t1 := tk1 p g1
      rw [g2] at t1
      show TS.code 1000 (wkN p.1) = _
      rw [t1.inj (tk1 q hq)]
  refine wpAny_bind (wpAny_holding (wpAny_call_entry PyProof.Rows.slot_list_sort ⟨_, hoL, rfl⟩ PyProof.Rows.entry_list_sort
    (sort_nums (ks := [false, false, true, false]) (s := { s with heap := h1.push (seqObj "list" its.toArray 0) }) hoL (by rw [hil]; exact h64) x rk (fun v hv ns t => ?_) fun out g1 g2 => ⟨_, rfl, ?_⟩) (PyProof.Rows.args_list_sort _)))
  · rw [hS] at hv
    obtain ⟨q, hq, rfl⟩ := List.mem_map.mp hv
    rw [rk_eq q hq, t.inj (tk1 q hq)]
  · obtain ⟨e', he'⟩ := PyProof.Rows.sortedHeap_at (vs := its) (out := out) hoL
    obtain ⟨L', pL, hout⟩ := perm_of_map g1 L hS
    have hm : ∀ q ∈ L', q ∈ L := fun q hq => pL.mem_iff.mp hq
    have pw : (L'.map (·.1)).Pairwise (fun v u => TS.code 1000 (wkN v) ≤ TS.code 1000 (wkN u)) := by
      rw [hout] at g2
      rw [List.pairwise_map]
      refine List.Pairwise.imp_of_mem (fun {q r} hq hr hle => ?_) (List.pairwise_map.mp g2)
      rw [← rk_eq q (hm q hq), ← rk_eq r (hm r hr)]
      exact hle
    have hlen : (L'.map fun q => V.ref q.2).length ≤ sizeLine := by
      rw [List.length_map, pL.length_eq]
      exact Nat.le_trans (Nat.le_of_lt h64) (by decide)
    have I1 : Inv X pins σ H { s with heap := h1 } := I.kept (t' := s.toks) fun c u e => old1 c u e
    have hn : H h1.objs.size = none := I1.hok.fresh (Nat.le_refl _)
    refine wpAny_pure ⟨_, rfl, .ref h1.objs.size, upd H h1.objs.size (.lst (L'.map fun q => V.ref q.2)), I1.laid (t' := s.toks) (fun c u e => ?_) (Nat.le_refl _) ⟨hlen, out.toList, e', by rw [hout]; exact vals_refs2 L', by rw [Array.toArray_toList]; exact he'⟩, rfl, q _ _ _ (pL.map (·.1)) pw hn (wks_of fun q hq => hL q (hm q hq)) (by simp)⟩
    have hlt := Heap.lt_size e
    show (sortedHeap (h1.push (seqObj "list" its.toArray 0)) h1.objs.size its out).get? c = some u
    rw [sortedHeap_old (Nat.ne_of_lt hlt) (by rw [size_push']; exact Nat.lt_succ_of_lt hlt)]
    exact Heap.get?_push_of_some _ e
theorem c_glst {K : PySem.W.Frag} {n : Nat} {t : TGs} {a : Addr} {xs : List V} {σ : L2.St} {H : Hp} {Q : L2.St → Hp → Prop} (h : SqL K H a xs) (hn : xs.length = n) (q : t xs σ H Q) : gLst K n t (.ref a) σ H Q := ⟨a, xs, rfl, h, hn, q⟩
end HX

/-! In a tuple of walks; rows of walks put together. -/
namespace HX
open PySem PySem.Spec PyProof.Rows L2 Dry
def rInT (K : PySem.W.Frag) : R2 := fun x y H Q => ∃ d ds, Dp K H x d ∧ Dp K H y (.tuple ds) ∧ SeqAt.shaped d = true ∧ SeqAt.shaped (.tuple ds) = true ∧ Q (.bl (ds.any fun z => PyData.eqv z d)) H
def rNotInT (K : PySem.W.Frag) : R2 := fun x y H Q => ∃ d ds, Dp K H x d ∧ Dp K H y (.tuple ds) ∧ SeqAt.shaped d = true ∧ SeqAt.shaped (.tuple ds) = true ∧ Q (.bl (!ds.any fun z => PyData.eqv z d)) H
theorem op_inT {X : Cx} (hu : X.A.units + 65 < cLine) : OpR X (compareOp .In) (rInT X.K) := by
  intro pins s σ H x y v u Q I rx ry ⟨d, ds, hd, he, sd, se, q⟩
  obtain ⟨as, r1⟩ := Dp.reads I d x v hd rx
  obtain ⟨bs, r2⟩ := Dp.reads I (.tuple ds) y u he ry
  exact SeqAt.in_tuple_reads r2 r1 (SeqAt.canLay_of_shaped se) (SeqAt.canLay_of_shaped sd) (room_in_shaped sd hu) ⟨.bl _, H, I, rfl, q⟩
theorem op_notInT {X : Cx} (hu : X.A.units + 65 < cLine) : OpR X (compareOp .NotIn) (rNotInT X.K) := by
  intro pins s σ H x y v u Q I rx ry ⟨d, ds, hd, he, sd, se, q⟩
  obtain ⟨as, r1⟩ := Dp.reads I d x v hd rx
  obtain ⟨bs, r2⟩ := Dp.reads I (.tuple ds) y u he ry
  exact SeqAt.notIn_tuple_reads r2 r1 (SeqAt.canLay_of_shaped se) (SeqAt.canLay_of_shaped sd) (room_in_shaped sd hu) ⟨.bl _, H, I, rfl, q⟩
section
variable {K : PySem.W.Frag} {H : Hp} {Q : VK} {a b : Addr}
theorem dp_wks {xs : List V} {ws : List Wk} (h : Wks K H xs ws) : DpAll K H xs (ws.map wkD) := by
  refine dpAll_of xs _ (by rw [h.len, List.length_map]) fun i v dd h1 h2 => ?_
  obtain ⟨w, c, g1, rfl, g3⟩ := h.get h1
  rw [List.getElem?_map, g1] at h2
  cases h2
  exact dp_wk g3
theorem wks_lay : ∀ ws : List Wk, PyData.canLayAll0 (ws.map wkD) = true ∧ PyData.depthAll (ws.map wkD) ≤ 1
  | [] => ⟨by simp [PyData.canLayAll0], by simp [PyData.depthAll]⟩
  | w :: ws => by
    obtain ⟨h1, h2⟩ := wks_lay ws
    exact ⟨by simp [PyData.canLayAll0, PyData.canLay0, wkD, h1], by simp [PyData.depthAll, PyData.depth, wkD]; omega⟩
theorem wks_shaped (ws : List Wk) : SeqAt.shaped (.tuple (ws.map wkD)) = true := by
  obtain ⟨h1, h2⟩ := wks_lay ws
  show (PyData.canLay0 _ && decide (PyData.depth _ ≤ 64)) = true
  simp [PyData.canLay0, PyData.depth, h1]; omega
theorem wk_shaped (w : Wk) : SeqAt.shaped (wkD w) = true := by
  show (PyData.canLay0 _ && decide (PyData.depth _ ≤ 64)) = true
  simp [wkD, PyData.canLay0, PyData.canLayAll0, PyData.depth, PyData.depthAll]
theorem c_inT {xs : List V} {ws : List Wk} {w : Wk} (h : SqT K H a (wkV w)) (hs : SqT K H b xs) (hw : Wks K H xs ws) (q : ∀ k, Q (.bl k) H) : rInT K (.ref a) (.ref b) H Q :=
  ⟨_, _, dp_wk h, .tup hs (dp_wks hw), wk_shaped w, wks_shaped ws, q _⟩
theorem c_notInT {xs : List V} {ws : List Wk} {w : Wk} (h : SqT K H a (wkV w)) (hs : SqT K H b xs) (hw : Wks K H xs ws) (q : ∀ k, Q (.bl k) H) : rNotInT K (.ref a) (.ref b) H Q :=
  ⟨_, _, dp_wk h, .tup hs (dp_wks hw), wk_shaped w, wks_shaped ws, q _⟩
theorem c_neEmpty {xs : List V} {ws : List Wk} (hs : SqT K H a xs) (hw : Wks K H xs ws) (hb : SqT K H b []) (q : Q (.bl (!ws.isEmpty)) H) : rNeD K (.ref a) (.ref b) H Q := by
  refine ⟨_, _, .tup hs (dp_wks hw), .tup hb .nil, wks_shaped ws, by decide +kernel, ?_⟩
  have e : PyData.eqv (.tuple (ws.map wkD)) (.tuple []) = ws.isEmpty := by
    cases ws <;> simp [PyData.eqv, PyData.eqvAll]
  rw [e]
  exact q
end
theorem _root_.HX.Wks.append {K : PySem.W.Frag} {H : Hp} {xs ys : List V} {us vs : List Wk} (h1 : Wks K H xs us) (h2 : Wks K H ys vs) : Wks K H (xs ++ ys) (us ++ vs) := by
  refine ⟨by simp [h1.len, h2.len], fun i w hw => ?_⟩
  by_cases hi : i < us.length
  · rw [List.getElem?_append_left hi] at hw
    rw [List.getElem?_append_left (by rw [h1.len]; exact hi)]
    exact h1.at_ i w hw
  · rw [List.getElem?_append_right (by omega)] at hw
    rw [List.getElem?_append_right (by rw [h1.len]; omega), h1.len]
    exact h2.at_ _ w hw
theorem _root_.HX.Wks.one {K : PySem.W.Frag} {H : Hp} {a : Addr} {w : Wk} (h : SqT K H a (wkV w)) : Wks K H [.ref a] [w] := by
  refine ⟨rfl, fun i v hv => ?_⟩
  cases i with
  | zero => simp at hv; subst hv; exact ⟨a, rfl, h⟩
  | succ i => simp at hv
theorem _root_.HX.Wks.take {K : PySem.W.Frag} {H : Hp} {xs : List V} {us : List Wk} (h : Wks K H xs us) (n : Nat) : Wks K H (xs.take n) (us.take n) := by
  refine ⟨by simp [h.len], fun i w hw => ?_⟩
  rw [List.getElem?_take] at hw ⊢
  split at hw
  · rename_i hi
    rw [if_pos hi]
    exact h.at_ i w hw
  · cases hw
theorem _root_.HX.Wks.drop {K : PySem.W.Frag} {H : Hp} {xs : List V} {us : List Wk} (h : Wks K H xs us) (n : Nat) : Wks K H (xs.drop n) (us.drop n) := by
  refine ⟨by simp [h.len], fun i w hw => ?_⟩
  rw [List.getElem?_drop] at hw ⊢
  exact h.at_ _ w hw
theorem _root_.HX.Wks.snoc {K : PySem.W.Frag} {H : Hp} {xs : List V} {us : List Wk} {a : Addr} {w : Wk} (h : Wks K H xs us) (hw : SqT K H a (wkV w)) : Wks K H (xs ++ [.ref a]) (us ++ [w]) := h.append (.one hw)
theorem _root_.HX.Wks.nil {K : PySem.W.Frag} {H : Hp} : Wks K H [] [] := ⟨rfl, fun i w h => by simp at h⟩
theorem cut_lo (xs : List V) (i : Nat) : cutV xs none (some (i : Int)) = xs.take i := by
  unfold cutV
  have e1 : HT.sIx xs.length 0 none = 0 := rfl
  rw [e1, HT.sIx_nat, List.drop_zero, Nat.sub_zero]
  by_cases h : i ≤ xs.length
  · rw [Nat.min_eq_left h]
  · rw [Nat.min_eq_right (by omega), List.take_of_length_le (Nat.le_refl _), List.take_of_length_le (by omega)]
theorem cut_hi (xs : List V) (i : Nat) : cutV xs (some ((i : Int) + 1)) none = xs.drop (i + 1) := by
  unfold cutV
  have e1 : HT.sIx xs.length xs.length none = xs.length := rfl
  rw [e1, show ((i : Int) + 1) = ((i + 1 : Nat) : Int) by omega, HT.sIx_nat]
  by_cases h : i + 1 ≤ xs.length
  · rw [Nat.min_eq_left h, List.take_of_length_le (by rw [List.length_drop]; exact Nat.le_refl _)]
  · rw [Nat.min_eq_right (by omega), Nat.sub_self, List.take_zero, List.drop_eq_nil_of_le (by omega)]
theorem cut4 {a b c x y : V} : cutV [a, b, c, x, y] none (some 4) = [a, b, c, x] := rfl
theorem mid_perm {ws : List Wk} {i : Nat} {w : Wk} (h : ws[i]? = some w) : (w :: (ws.take i ++ ws.drop (i + 1))).Perm ws := by
  obtain ⟨hi, rfl⟩ := List.getElem?_eq_some_iff.mp h
  have e : ws = ws.take i ++ ws[i] :: ws.drop (i + 1) := by
    rw [List.getElem_cons_drop hi]
    exact (List.take_append_drop i ws).symm
  conv => rhs; rw [e]
  exact List.perm_middle.symm
theorem wkB_bd {P T : Nat} {ws : List Wk} (h : ∀ w ∈ ws, WkB P T w) (hP : P ≤ 1000) (hT : T ≤ 1000) : ∀ v ∈ ws, TS.Bd 1000 (wkN v) := fun v hv => (h v hv).bd hP hT
theorem wkB_ok {P T : Nat} {ws : List Wk} (h : ∀ w ∈ ws, WkB P T w) : (⟨P, T, ws⟩ : Day).Ok := ⟨fun w hw => (h w hw).h, fun w hw => (h w hw).b, fun w hw => (h w hw).e, fun w hw => (h w hw).r1⟩
theorem wkB_wet {P T : Nat} {w : Wk} (h : WkB P T w) : WkB P T (wetWk w) := ⟨h.h, h.b, h.e, h.ne, h.r1, h.r3⟩
theorem wkB_wide {P T : Nat} {w : Wk} (h : WkB P T w) : WkB P T (wideWk w) := ⟨h.h, h.b, h.e, h.ne, by show 1 ≤ min 3 (w.r + 1); omega, by show min 3 (w.r + 1) ≤ 3; omega⟩
theorem wkB_back {P T : Nat} {w : Wk} (h : WkB P T w) : WkB P T (backWk T w) := ⟨by show T - 1 - w.h < T; have := h.h; omega, h.e, h.b, fun e => h.ne e.symm, h.r1, h.r3⟩
theorem wkB_turn {P T : Nat} {w : Wk} (h : WkB P T w) : WkB P T (turnWk P w) := by
  have h1 := h.b
  have h2 := h.e
  have h3 := h.ne
  exact ⟨h.h, by show P - 1 - w.b < P; omega, by show P - 1 - w.e < P; omega, by show P - 1 - w.b ≠ P - 1 - w.e; omega, h.r1, h.r3⟩
theorem wkB_perm {P T : Nat} {ws us : List Wk} (p : us.Perm ws) (h : ∀ w ∈ ws, WkB P T w) : ∀ w ∈ us, WkB P T w := fun w hw => h w (p.mem_iff.mp hw)
theorem code_srt {d : Day} {m h k : Nat} (D : DayD m h k d) : d.ws.Nodup := by
  have := D.srt
  rw [List.Nodup]
  exact List.Pairwise.imp (fun {a b} hab e => by subst e; omega) this
theorem strict_of {P T : Nat} (hP : P ≤ 1000) (hT : T ≤ 1000) {ws : List Wk} (hb : ∀ w ∈ ws, WkB P T w) (nd : ws.Nodup) (s : ws.Pairwise fun v w => TS.code 1000 (wkN v) ≤ TS.code 1000 (wkN w)) : ws.Pairwise fun v w => TS.code 1000 (wkN v) < TS.code 1000 (wkN w) := by
  rw [List.Nodup] at nd
  refine List.Pairwise.imp_of_mem (fun {v w} hv hw h => ?_) (nd.and s)
  have : TS.code 1000 (wkN v) ≠ TS.code 1000 (wkN w) := fun e => h.1 (code_inj (hb v hv) (hb w hw) hP hT e)
  have := h.2
  omega
theorem back_nodup {d : Day} {m h k : Nat} (D : DayD m h k d) : (d.ws.map (backWk d.T)).Nodup := by
  have nd := code_srt D
  rw [List.Nodup] at nd ⊢
  rw [List.pairwise_map]
  refine List.Pairwise.imp_of_mem (fun {v w} hv hw ne e => ne ?_) nd
  have h1 := congrArg (backWk d.T) e
  rw [back_back (D.ok.h v hv), back_back (D.ok.h w hw)] at h1
  exact h1
end HX

/-! What is never reached; told tuples compared; a house in the heap. -/
namespace HX
open PySem PySem.Spec PyProof.Rows L2 Dry
def tNot0 : TS := fun _ _ _ => False
theorem ps_not0 {X : Cx} {st : Stmt} : PS X st tNot0 := ⟨fun _ _ _ _ _ _ h => h.elim⟩
section
variable {K : PySem.W.Frag} {H : Hp} {Q : VK} {r t s c s' c' : Addr}
theorem ints_sh (l : List Int) : PyData.canLay0 (.tuple (l.map PyData.int)) = true ∧ PyData.depth (.tuple (l.map PyData.int)) ≤ 1 := by
  obtain ⟨h1, h2⟩ := intsI_shape l
  exact ⟨by simp [PyData.canLay0, h1], by simp [PyData.depth, h2]⟩
theorem eqvI : ∀ l : List Int, PyData.eqvAll (l.map PyData.int) (l.map PyData.int) = true
  | [] => by simp [PyData.eqvAll]
  | n :: l => by simp [PyData.eqvAll, PyData.eqv, eqvI l]
def d3 (n : Int) (S C : List Int) : PyData := .tuple [.int n, .tuple (S.map PyData.int), .tuple (C.map PyData.int)]
def d2 (n : Int) (S : List Int) : PyData := .tuple [.int n, .tuple (S.map PyData.int)]
theorem d3_sh (n : Int) (S C : List Int) : SeqAt.shaped (d3 n S C) = true := by
  obtain ⟨h1, h2⟩ := ints_sh S
  obtain ⟨h3, h4⟩ := ints_sh C
  show (PyData.canLay0 _ && decide (PyData.depth _ ≤ 64)) = true
  simp only [d3, PyData.canLay0, PyData.canLayAll0, PyData.depth, PyData.depthAll] at h1 h2 h3 h4 ⊢
  simp [h1, h3]
  omega
theorem d2_sh (n : Int) (S : List Int) : SeqAt.shaped (d2 n S) = true := by
  obtain ⟨h1, h2⟩ := ints_sh S
  show (PyData.canLay0 _ && decide (PyData.depth _ ≤ 64)) = true
  simp only [d2, PyData.canLay0, PyData.canLayAll0, PyData.depth, PyData.depthAll] at h1 h2 ⊢
  simp [h1]
  omega
theorem d3_eq (n : Int) (S C : List Int) : PyData.eqv (d3 n S C) (d3 n S C) = true := by simp [d3, PyData.eqv, PyData.eqvAll, eqvI]
theorem d2_eq (n : Int) (S : List Int) : PyData.eqv (d2 n S) (d2 n S) = true := by simp [d2, PyData.eqv, PyData.eqvAll, eqvI]
theorem c_ne3 {n : Int} {S C : List Int} (hr : SqT K H r [.int n, .ref s, .ref c]) (hs : SqT K H s (vI S)) (hc : SqT K H c (vI C)) (ht : SqT K H t [.int n, .ref s', .ref c']) (hs' : SqT K H s' (vI S)) (hc' : SqT K H c' (vI C)) (q : Q (.bl false) H) : rNeD K (.ref r) (.ref t) H Q :=
  ⟨d3 n S C, d3 n S C, .tup hr (.cons (.int n) (.cons (.tup hs (dp_ints S)) (.cons (.tup hc (dp_ints C)) .nil))), .tup ht (.cons (.int n) (.cons (.tup hs' (dp_ints S)) (.cons (.tup hc' (dp_ints C)) .nil))), d3_sh n S C, d3_sh n S C, by rw [d3_eq]; exact q⟩
theorem c_eq3 {n : Int} {S C : List Int} (hr : SqT K H r [.int n, .ref s, .ref c]) (hs : SqT K H s (vI S)) (hc : SqT K H c (vI C)) (ht : SqT K H t [.int n, .ref s', .ref c']) (hs' : SqT K H s' (vI S)) (hc' : SqT K H c' (vI C)) (q : Q (.bl true) H) : rEqD K (.ref r) (.ref t) H Q :=
  ⟨d3 n S C, d3 n S C, .tup hr (.cons (.int n) (.cons (.tup hs (dp_ints S)) (.cons (.tup hc (dp_ints C)) .nil))), .tup ht (.cons (.int n) (.cons (.tup hs' (dp_ints S)) (.cons (.tup hc' (dp_ints C)) .nil))), d3_sh n S C, d3_sh n S C, by rw [d3_eq]; exact q⟩
theorem c_ne2 {n : Int} {S : List Int} (hr : SqT K H r [.int n, .ref s]) (hs : SqT K H s (vI S)) (ht : SqT K H t [.int n, .ref s']) (hs' : SqT K H s' (vI S)) (q : Q (.bl false) H) : rNeD K (.ref r) (.ref t) H Q :=
  ⟨d2 n S, d2 n S, .tup hr (.cons (.int n) (.cons (.tup hs (dp_ints S)) .nil)), .tup ht (.cons (.int n) (.cons (.tup hs' (dp_ints S)) .nil)), d2_sh n S, d2_sh n S, by rw [d2_eq]; exact q⟩
theorem c_neTs {S : List Int} (hr : SqT K H r (vI S)) (ht : SqT K H t (vI S)) (q : Q (.bl false) H) : rNeD K (.ref r) (.ref t) H Q :=
  ⟨_, _, .tup hr (dp_ints S), .tup ht (dp_ints S), tup_shape S, tup_shape S, by rw [show PyData.eqv (.tuple (S.map PyData.int)) (.tuple (S.map PyData.int)) = true by simp [PyData.eqv, eqvI]]; exact q⟩
theorem c_eqTs {S : List Int} (hr : SqT K H r (vI S)) (ht : SqT K H t (vI S)) (q : Q (.bl true) H) : rEqD K (.ref r) (.ref t) H Q :=
  ⟨_, _, .tup hr (dp_ints S), .tup ht (dp_ints S), tup_shape S, tup_shape S, by rw [show PyData.eqv (.tuple (S.map PyData.int)) (.tuple (S.map PyData.int)) = true by simp [PyData.eqv, eqvI]]; exact q⟩
theorem c_eqSame {l : List Nat} (ha : SqL K H r (vN l)) (hb : SqL K H t (vN l)) (q : Q (.bl true) H) : rEqD K (.ref r) (.ref t) H Q := by
  refine ⟨_, _, .lst ha (dp_nats l), .lst hb (dp_nats l), natsL_shaped l, natsL_shaped l, ?_⟩
  have e : PyData.eqv (.list (l.map fun (n : Nat) => PyData.int (n : Int))) (.list (l.map fun (n : Nat) => PyData.int (n : Int))) = true := by
    simp [PyData.eqv, eqv_ints l]
  rw [e]
  exact q
end
/-! ### a house -/
structure CtxH (K : PySem.W.Frag) (C : Addr) : Prop where
  cl : Cls K C
  day : NoAttr K C "day"
  rows : NoAttr K C "rows"
  past : NoAttr K C "past"
def hf (ad ro pa : Addr) : List (Str × V) := [("day", .ref ad), ("rows", .ref ro), ("past", .ref pa)]
structure HouS (K : PySem.W.Frag) (C : Addr) (H : Hp) (h dx ad aw ro pa : Addr) (ds : List V) (d : Day) (Rs Cs : List (List Int)) : Prop where
  ins : H h = some (.ins C dx (hf ad ro pa))
  ne : ro ≠ pa
  ex : ∃ rs ps, H ro = some (.lst rs) ∧ H pa = some (.lst ps) ∧ Refs true K H rs (Rs.map vI) ∧ Refs true K H ps (Cs.map vI)
  day : DayAt K H ad aw ds d
  dd : DayD 5 8 12 d
  len : Rs.length = Cs.length + 1
  cap : Cs.length ≤ d.T
  row : ∀ R ∈ Rs, R.length = d.P ∧ ∀ p, 0 ≤ R.getD p 0
/-- all but a house's two lists stays -/
def Mh (ro pa : Addr) (H H' : Hp) : Prop := ∀ a o, H a = some o → a ≠ ro → a ≠ pa → H' a = some o
theorem Mh.of {ro pa : Addr} {H H' : Hp} (e : Same H H') : Mh ro pa H H' := fun a o h _ _ => e a o h
theorem Mh.trans {ro pa : Addr} {H H1 H2 : Hp} (a : Mh ro pa H H1) (b : Mh ro pa H1 H2) : Mh ro pa H H2 := fun x o h n m => b x o (a x o h n m) n m
theorem Mh.same {ro pa : Addr} {H0 H H' : Hp} (s : Same H0 H) (e : Mh ro pa H H') (h1 : H0 ro = none) (h2 : H0 pa = none) : Same H0 H' := fun a o h => e a o (s a o h) (ne_of_none h h1) (ne_of_none h h2)
theorem Mh.tx {ro pa : Addr} {H H' : Hp} {xs ys : List V} (e : Mh ro pa H H') (h1 : H ro = some (.lst xs)) (h2 : H pa = some (.lst ys)) : Tx H H' := fun a zs h => by
  rcases h with h | ⟨o, h⟩
  · exact .inl (e _ _ h (ne_of h h1 (fun z => nomatch z)) (ne_of h h2 (fun z => nomatch z)))
  · exact .inr ⟨o, e _ _ h (ne_of h h1 (fun z => nomatch z)) (ne_of h h2 (fun z => nomatch z))⟩
theorem HouS.tx {K : PySem.W.Frag} {C : Addr} {H H' : Hp} {h dx ad aw ro pa : Addr} {ds : List V} {d : Day} {Rs Cs : List (List Int)} (S : HouS K C H h dx ad aw ro pa ds d Rs Cs) (e : Mh ro pa H H') : Tx H H' := by
  obtain ⟨rs, ps, h1, h2, _⟩ := S.ex
  exact e.tx h1 h2
theorem HouS.same {K : PySem.W.Frag} {C : Addr} {H H' : Hp} {h dx ad aw ro pa : Addr} {ds : List V} {d : Day} {Rs Cs : List (List Int)} (e : Same H H') (S : HouS K C H h dx ad aw ro pa ds d Rs Cs) : HouS K C H' h dx ad aw ro pa ds d Rs Cs := by
  obtain ⟨rs, ps, h1, h2, h3, h4⟩ := S.ex
  exact ⟨e _ _ S.ins, S.ne, ⟨rs, ps, e _ _ h1, e _ _ h2, h3.same e, h4.same e⟩, S.day.tx (.of e), S.dd, S.len, S.cap, S.row⟩
/-- the walks of an hour -/
def hw (d : Day) (t : Nat) : List Wk := d.ws.filter fun w => decide (w.h = t)
def leave1 (l : List Int) (p : Wk × Int) : List Int := addAt l p.1.b (-p.2)
def come1 (l : List Int) (p : Wk × Int) : List Int := addAt l p.1.e p.2
def leaveH (d : Day) (t : Nat) (R cs : List Int) : List Int := ((hw d t).zip cs).foldl leave1 R
def hourH (d : Day) (t : Nat) (R cs : List Int) : List Int := ((hw d t).zip cs).foldl come1 (leaveH d t R cs)
def lastR (Rs : List (List Int)) : List Int := Rs.getD (Rs.length - 1) []
/-- the rest of a day -/
def restWk (n : Nat) (w : Wk) : Wk := ⟨w.h - n, w.b, w.e, w.wet, w.r⟩
def restD (d : Day) (n : Nat) : Day := ⟨d.P, d.T - n, (d.ws.filter fun w => decide (n ≤ w.h)).map (restWk n)⟩
def stayB (d : Day) (n : Nat) (R W : List Int) : Bool := if n = d.T then (List.zipWith (fun s l => decide (l ≤ s)) R W).all id else dryB (restD d n) R W
theorem restD_ok {d : Day} (ok : d.Ok) (n : Nat) : (restD d n).Ok := by
  have key : ∀ w ∈ (restD d n).ws, ∃ v ∈ d.ws, n ≤ v.h ∧ w = restWk n v := fun w hw => by
    obtain ⟨v, hv, rfl⟩ := List.mem_map.mp hw
    obtain ⟨h1, h2⟩ := List.mem_filter.mp hv
    exact ⟨v, h1, of_decide_eq_true h2, rfl⟩
  refine ⟨fun w hw => ?_, fun w hw => ?_, fun w hw => ?_, fun w hw => ?_⟩
  · obtain ⟨v, hv, hn, rfl⟩ := key w hw
    have := ok.h v hv
    show v.h - n < d.T - n
    omega
  · obtain ⟨v, hv, hn, rfl⟩ := key w hw
    exact ok.b v hv
  · obtain ⟨v, hv, hn, rfl⟩ := key w hw
    exact ok.e v hv
  · obtain ⟨v, hv, hn, rfl⟩ := key w hw
    exact ok.r v hv
theorem restD_len (d : Day) (n : Nat) : (restD d n).ws.length ≤ d.ws.length := by
  show ((d.ws.filter fun w => decide (n ≤ w.h)).map (restWk n)).length ≤ _
  rw [List.length_map]
  exact List.length_filter_le _ _
theorem fold_len {f : List Int → Wk × Int → List Int} (hf : ∀ l p, (f l p).length = l.length) : ∀ (ps : List (Wk × Int)) (l : List Int), (ps.foldl f l).length = l.length
  | [], _ => rfl
  | p :: ps, l => by rw [List.foldl_cons, fold_len hf ps, hf]
theorem leave1_len (l : List Int) (p : Wk × Int) : (leave1 l p).length = l.length := addAt_length _ _ _
theorem come1_len (l : List Int) (p : Wk × Int) : (come1 l p).length = l.length := addAt_length _ _ _
theorem leaveH_len (d : Day) (t : Nat) (R cs : List Int) : (leaveH d t R cs).length = R.length := fold_len leave1_len _ _
theorem hourH_len (d : Day) (t : Nat) (R cs : List Int) : (hourH d t R cs).length = R.length := by
  unfold hourH
  rw [fold_len come1_len, leaveH_len]
end HX

/-! A call with no arguments; written days. -/
namespace HX
open PySem PySem.Spec PyProof.Rows L2 Dry
theorem pe_df0 {X : Cx} {x : Str} {k : Nat} {ps : List Str} {sp : Sp} {p pos : Pos} (D : Df X.prog X.w X.K X.mg X.base x k ps sp) (hr : Room k X.A) (hg : Gl X x) (hdb : (x == ("__debug__" : Str)) = false := by decide) : PE X (.Call (.Name x p) [] [] pos) (tCall sp [] E0 tNil) := by
  obtain ⟨f, fd, F, hm, hk, hb⟩ := D.ex
  exact pe_call0 F hr hg hm hk hb .nil pass0 hdb
theorem sorted_eq : ∀ {ws us : List Wk}, ws.Pairwise (fun v w => TS.code 1000 (wkN v) < TS.code 1000 (wkN w)) → us.Perm ws → us.Pairwise (fun v w => TS.code 1000 (wkN v) ≤ TS.code 1000 (wkN w)) → us = ws
  | [], us, _, hp, _ => hp.eq_nil
  | w :: ws, [], _, hp, _ => by have := hp.length_eq; simp at this
  | w :: ws, u :: us, hs, hp, hu => by
    have h1 : u = w := by
      have hw : w ∈ u :: us := hp.mem_iff.mpr (by simp)
      have hu' : u ∈ w :: ws := hp.mem_iff.mp (by simp)
      rcases List.mem_cons.mp hu' with h | h
      · exact h
      · have a1 := (List.pairwise_cons.mp hs).1 u h
        rcases List.mem_cons.mp hw with g | g
        · exact g.symm
        · have a2 := (List.pairwise_cons.mp hu).1 w g
          omega
    subst h1
    rw [sorted_eq (List.pairwise_cons.mp hs).2 hp.cons_inv (List.pairwise_cons.mp hu).2]
theorem again_B {h r : Nat} (r1 : 1 ≤ r) (r3 : r ≤ 3) : ∀ w ∈ (againD h r).ws, WkB 2 (h + 3) w := by
  intro w hw
  simp only [againD, List.mem_cons, List.not_mem_nil, or_false] at hw
  rcases hw with rfl | rfl | rfl | rfl | rfl <;> constructor <;> dsimp only <;> omega
theorem again_ok {h r : Nat} (r1 : 1 ≤ r) (r3 : r ≤ 3) : (againD h r).Ok := wkB_ok (again_B r1 r3)
theorem again_srt (h : Nat) {r : Nat} (r3 : r ≤ 3) : (againD h r).ws.Pairwise (fun v w => TS.code 1000 (wkN v) < TS.code 1000 (wkN w)) := by
  simp only [againD, List.pairwise_cons, List.mem_cons, List.not_mem_nil, or_false, forall_eq_or_imp, forall_eq, code_wk, Wk.wi]
  refine ⟨⟨?_, ?_, ?_, ?_⟩, ⟨?_, ?_, ?_⟩, ⟨?_, ?_⟩, ?_, fun _ h => h.elim, List.Pairwise.nil⟩ <;> simp <;> omega
theorem again_D {h r : Nat} (hh : h < 5) (r1 : 1 ≤ r) (r3 : r ≤ 3) : DayD 5 8 12 (againD h r) :=
  ⟨again_ok r1 r3, by show 2 ≤ 2; omega, by show 2 ≤ 5; omega, by show 1 ≤ h + 3; omega, by show h + 3 ≤ 8; omega, by show 5 ≤ 12; omega, fun w hw => (again_B r1 r3 w hw).r3, fun w hw => (again_B r1 r3 w hw).ne, again_srt h r3⟩
theorem nn_of {l : List Int} (h : ∀ x ∈ l, 0 ≤ x) (p : Nat) : 0 ≤ l.getD p 0 := by
  by_cases hp : p < l.length
  · have e : l.getD p 0 = l[p] := by simp [List.getD_eq_getElem?_getD, hp]
    rw [e]
    exact h _ (List.getElem_mem hp)
  · rw [getD_big (by omega)]; exact Int.le_refl _
theorem le_of {l : List Int} {m : Int} (hm : 0 ≤ m) (h : ∀ x ∈ l, x ≤ m) (p : Nat) : l.getD p 0 ≤ m := by
  by_cases hp : p < l.length
  · have e : l.getD p 0 = l[p] := by simp [List.getD_eq_getElem?_getD, hp]
    rw [e]
    exact h _ (List.getElem_mem hp)
  · rw [getD_big (by omega)]; exact hm
theorem min2_eq (r : Nat) : (if (r : Int) < 2 then (r : Int) else 2) = m2 r := by unfold m2; split <;> split <;> omega
theorem min4_eq (r : Nat) : (if (r : Int) < 4 then (r : Int) else 4) = m4 r := by unfold m4; split <;> split <;> omega
theorem m2_bd {r : Nat} (r1 : 1 ≤ r) : 1 ≤ m2 r ∧ m2 r ≤ 2 := by unfold m2; split <;> omega
theorem day_ok2 {P T : Nat} {ws : List Wk} (h : ws.all (fun w => decide (w.h < T) && (decide (w.b < P) && (decide (w.e < P) && decide (1 ≤ w.r)))) = true) : (⟨P, T, ws⟩ : Day).Ok := by
  have key : ∀ w ∈ ws, w.h < T ∧ w.b < P ∧ w.e < P ∧ 1 ≤ w.r := fun w hw => by
    have := List.all_eq_true.mp h w hw
    simp only [Bool.and_eq_true] at this
    exact ⟨of_decide_eq_true this.1, of_decide_eq_true this.2.1, of_decide_eq_true this.2.2.1, of_decide_eq_true this.2.2.2⟩
  exact ⟨fun w hw => (key w hw).1, fun w hw => (key w hw).2.1, fun w hw => (key w hw).2.2.1, fun w hw => (key w hw).2.2.2⟩
theorem fro_ok (h : Nat) : (fro h).Ok := day_ok2 (by simp)
theorem there_ok (h : Nat) : (there h).Ok := day_ok2 (by simp)
theorem ring_ok (h : Nat) : (ring h).Ok := day_ok2 (by simp)
theorem row_ok : rowD.Ok := day_ok2 (by decide)
theorem idle_ok : idle.Ok := day_ok2 (by decide)
theorem sm_of {d : Day} (h1 : d.P ≤ 1000) (h2 : d.T ≤ 1000) (h3 : d.ws.length ≤ 1000) : d.Sm := ⟨h1, h2, h3⟩
theorem wks2 {K : PySem.W.Frag} {H : Hp} {a b : Addr} {u v : Wk} (h1 : SqT K H a (wkV u)) (h2 : SqT K H b (wkV v)) : Wks K H [.ref a, .ref b] [u, v] := (Wks.one h1).snoc h2
theorem wks3 {K : PySem.W.Frag} {H : Hp} {a b c : Addr} {u v x : Wk} (h1 : SqT K H a (wkV u)) (h2 : SqT K H b (wkV v)) (h3 : SqT K H c (wkV x)) : Wks K H [.ref a, .ref b, .ref c] [u, v, x] := (wks2 h1 h2).snoc h3
end HX

/-! While an exception is handled: zip of two lists, a comprehension over it; what is asked of the exception itself. -/
namespace HX
open PySem PySem.Spec PyProof.Rows L2 L2H HotX

/-! ### a list's end, an exception being handled -/
section
variable {prog : Program} {w : World} {A : Around} {E : Value → Shared → Prop} {s : Shared}
theorem nextOf_list_end_hot {it l x1 : Addr} {i : Nat} {items : Array Value} {Q : Value → Shared → Prop} (hot : HotAt A x1 s.heap) (hne : x1 ≠ it)
    (hit : s.heap.IsListIter it l i) (hl : s.heap.IsList l items) (hx : items[i]? = none)
    (hE : ∀ h' e, Heap.ExtBut it s.heap h' → (∃ o, h'.get? e = some o ∧ o.cls = .type "StopIteration") → E (.ref e) { s with heap := h' }) :
    wpAny (model prog w) A (Builtin.SmallTypes.nextOf (.ref it)) Q E s := by
  obtain ⟨o, ho, hc, hd⟩ := id hit
  obtain ⟨ol, hol, _, nl, hdl⟩ := hl
  obtain ⟨hh, o1, vs1, h1, d1, c1⟩ := hot
  unfold Builtin.SmallTypes.nextOf
  refine wpAny_bind (wpAny_callSpecial?_slot (name := Str.ofString "__next__") hit.typeIs slot_listiter_next
    (wpAny_call_entry slot_listiter_next hit.typeIs entry_listiter_next ?_ (args_listiter_next _)))
  show wpAny _ _ (field (.ref it) 0 >>= _) _ _ s
  refine wpAny_bind (wpAny_field ho hd (x := .ref l) rfl ?_)
  show wpAny _ _ (if (Value.ref l == Value.none) = true then _ else _) _ _ s
  rw [if_neg (show ¬ ((Value.ref l == Value.none) = true) from Bool.false_ne_true)]
  show wpAny _ _ (field (.ref it) 1 >>= _) _ _ s
  refine wpAny_bind (wpAny_field ho hd (x := .int i 0) rfl ?_)
  show wpAny _ _ (seqItems? (.ref l) >>= _) _ _ s
  refine wpAny_bind (wpAny_seqItems hol hdl ?_)
  simp only [Int.toNat_natCast, hx]
  refine wpAny_bind (wpAny_rule (wpAny_bind (wpAny_setField ho hd (by simp) ?_)))
  show wpAny _ _ (newExc (.type "StopIteration") [] >>= _) _ _ _
  refine wpAny_bind ?_
  simp only [newExc, newTuple]
  refine wpAny_bind (wpAny_newObj_type ?_ (by size_fits))
  refine wpAny_bind (m := firstArgMember _ _) (wpAny_of_eq (a := Value.none) (by first | rfl | (simp only [firstArgMember]; rfl)) ?_)
  refine wpAny_newObj_type ?_ (by size_fits)
  have k1 : (s.heap.update it (Obj.mapFields (·.setIfInBounds 0 .none))).get? x1 = some o1 := by rw [Heap.get?_update_other _ _ hne.symm]; exact h1
  refine raiseNew_hot ⟨hh, o1, vs1, Heap.get?_push_of_some _ (Heap.get?_push_of_some _ k1), d1, c1⟩ (Nat.ne_of_lt (Heap.lt_size (Heap.get?_push_of_some _ k1))) (Heap.get?_push_size _ rfl) rfl (by first | (simp; done) | (simp; omega) | (simp only [Array.size_append]; simp; omega)) ?_
  refine hE _ _ (fun b ob hb e => ?_) ⟨_, Heap.get?_update_self _ (Heap.get?_push_size _ rfl) rfl, rfl⟩
  have k2 : (s.heap.update it (Obj.mapFields (·.setIfInBounds 0 .none))).get? b = some ob := by rw [Heap.get?_update_other _ _ (Ne.symm hb)]; exact e
  rw [Heap.get?_update_other _ _ (Nat.ne_of_gt (Heap.lt_size (Heap.get?_push_of_some _ k2)))]
  exact Heap.get?_push_of_some _ (Heap.get?_push_of_some _ k2)
end
theorem hot_same {A : Around} {x1 it : Addr} {h h' : Heap} (x : HotAt A x1 h) (hne : x1 ≠ it) (sb : Heap.SameBut it h h') : HotAt A x1 h' := by
  obtain ⟨hh, o, vs, e, d, c⟩ := x
  exact ⟨hh, o, vs, (sb.2 _ hne).trans e, d, c⟩
theorem drawsH {prog : Program} {w : World} {A : Around} (it l x1 : Addr) (hne : l ≠ it) (hx : x1 ≠ it) (items : Array Value) :
    Draws prog w A it [it, l, x1] items.size (fun i v => items[i]? = some v) (fun i h => (h.IsListIter it l i ∧ h.IsList l items) ∧ HotAt A x1 h) where
  live := fun _ _ st => let ⟨o, ho, _⟩ := st.1.1; ⟨o, ho⟩
  frame := fun _ _ _ st hk => ⟨⟨st.1.1.at fun o e => hk it (by simp) o e, st.1.2.at fun o e => hk l (by simp) o e⟩, by
    obtain ⟨hh, o, vs, e, d, c⟩ := st.2
    exact ⟨hh, o, vs, hk x1 (by simp) o e, d, c⟩⟩
  item := fun i s Q E hi st hQ => by
    refine wpAny_nextOf_list_item st.1.1 st.1.2 (x := items[i]) (by simp [hi]) fun h' hit' hs' => ?_
    exact hQ _ h' s.toks (by simp [hi]) ⟨⟨hit', st.1.2.extBut hs'.extBut hne⟩, hot_same st.2 hx hs'⟩ hs'
  done := fun s Q E st hE => nextOf_list_end_hot st.2 hx st.1.1 st.1.2 (by simp) hE
theorem sepX {z TI TO i1 i2 a b x : Addr} (D : ZipSep2 z TI TO i1 i2 [i1, a] [i2, b]) (h1 : x ≠ z) (h2 : x ≠ TO) (h3 : x ≠ i1) (h4 : x ≠ i2) : ZipSep2 z TI TO i1 i2 [i1, a, x] [i2, b, x] := by
  obtain ⟨d1, d2, d3, d4, d5, d6, d7, d8, d9, d10, d11, d12, d13⟩ := D
  simp only [List.mem_cons, List.not_mem_nil, or_false, not_or] at d6 d7 d10 d11 d12 d13
  refine ⟨d1, d2, d3, d4, by simp, ?_, ?_, d8, by simp, ?_, ?_, ?_, ?_⟩
  · simp [d6.1, d6.2, h1.symm]
  · simp [d7.1, d7.2, h2.symm]
  · simp [d10.1, d10.2, h1.symm]
  · simp [d11.1, d11.2, h2.symm]
  · simp [d12.1, d12.2, h3.symm]
  · simp [d13.1, d13.2, h4.symm]
theorem zne1 {z TI TO i1 i2 : Addr} {f g : List Addr} (D : ZipSep2 z TI TO i1 i2 f g) : z ≠ i1 := fun q => D.zf1 (by rw [q]; exact D.mem1)
theorem zne2 {z TI TO i1 i2 : Addr} {f g : List Addr} (D : ZipSep2 z TI TO i1 i2 f g) : z ≠ i2 := fun q => D.zf2 (by rw [q]; exact D.mem2)
theorem turn_zipH {P : Program} {w : World} {K : PySem.W.Frag} {elts : List Expr} {kk : Nat} {tpos : Pos} {a b z TI TO i1 i2 : Addr} {xs ys : List V} (D : ZipSep2 z TI TO i1 i2 [i1, a] [i2, b]) :
    TurnH P w K (.Tuple elts kk tpos) (Itz2 K false false a b xs ys) [z, TI, TO, i1, i2] z (fun i h => IsZip h z TI TO .none ∧ IsTupOf2 h TI (.ref i1) (.ref i2) ∧ (∃ x y, IsTupOf2 h TO x y) ∧ IterB false h i1 a i ∧ IterB false h i2 b i) where
  mem := by simp
  obj := fun i h st c hc => by
    obtain ⟨hz, hTI, ⟨x, y, hTO⟩, h1, h2⟩ := st
    have e' : c = z ∨ c = TI ∨ c = TO ∨ c = i1 ∨ c = i2 := by simpa using hc
    rcases e' with q | q | q | q | q
    · rw [q]; exact ⟨_, hz, fun v q => nomatch q⟩
    · rw [q]; exact ⟨_, hTI, fun v q => nomatch q⟩
    · rw [q]; exact ⟨_, hTO, fun v q => nomatch q⟩
    · rw [q]; exact h1.obj
    · rw [q]; exact h2.obj
  keep := fun i h h' st k => by
    obtain ⟨hz, hTI, ⟨x, y, hTO⟩, h1, h2⟩ := st
    exact ⟨k z (by simp) _ hz, k TI (by simp) _ hTI, ⟨x, y, k TO (by simp) _ hTO⟩, h1.at fun o q => k i1 (by simp) o q, h2.at fun o q => k i2 (by simp) o q⟩
  item := by
    intro X hP hw hK hc i pins s σ H E I hf st hg
    subst hP hw hK
    obtain ⟨hz, hTI, ⟨x0, y0, hTO⟩, h1, h2⟩ := st
    obtain ⟨hqx, hqy, hlx, hly⟩ := hg
    obtain ⟨its, rv, p, _⟩ := seqB I hqx
    obtain ⟨its2, rv2, p2, _⟩ := seqB I hqy
    have hx : xs[i]? = some xs[i] := List.getElem?_eq_getElem hlx
    have hy : ys[i]? = some ys[i] := List.getElem?_eq_getElem hly
    obtain ⟨u, hu, ru⟩ := rv.get hx
    obtain ⟨u2, hu2, ru2⟩ := rv2.get hy
    obtain ⟨x1, hot⟩ := hc.at I
    obtain ⟨pp, ⟨hh, _⟩, hpp⟩ := id hc
    have ex : pp.1 = x1 := by have := hh.symm.trans hot.1; injection this with this; injection this
    have nx : ∀ c ∈ [z, TI, TO, i1, i2], x1 ≠ c := fun c hcm => by rw [← ex]; exact (hf c hcm).2.2.2.2.2 pp (List.mem_append_left _ hpp)
    have D := sepX D (nx z (by simp)) (nx TO (by simp)) (nx i1 (by simp)) (nx i2 (by simp))
    have hot : HotAt X.A.in1 x1 s.heap := hot
    have hzl : z < s.heap.objs.size := Heap.lt_size hz
    have n1 : a ≠ i1 := ne_iter I hqx h1 (hf i1 (by simp)).1
    have n2 : b ≠ i2 := ne_iter I hqy h2 (hf i2 (by simp)).1
    have L1 : i < its.toArray.size := by simp; have := rv.length; omega
    have L2' : i < its2.toArray.size := by simp; have := rv2.length; omega
    refine wpAny_pyNext_zipD2_item D (drawsH i1 a x1 n1 (nx i1 (by simp)) its.toArray) (drawsH i2 b x1 n2 (nx i2 (by simp)) its2.toArray) hz hTI hTO ⟨⟨h1, p⟩, hot⟩ ⟨⟨h2, p2⟩, hot⟩ L1 L2' fun y1 y2 h' tk hP1 hP2 z' TO' st1 st2 hT hsz hk => ?_
    have ex1 : y1 = u := by
      have : its.toArray[i]? = some u := by simpa using hu
      rw [this] at hP1; exact (Option.some.inj hP1).symm
    have ex2 : y2 = u2 := by
      have : its2.toArray[i]? = some u2 := by simpa using hu2
      rw [this] at hP2; exact (Option.some.inj hP2).symm
    subst ex1; subst ex2
    refine ⟨_, rfl, wpAny_letOwnedTupleGo_zip (s := { s with heap := h', toks := tk }) z' fun h'' z'' sb => ?_⟩
    have hT2 : h''.get? s.heap.objs.size = some { cls := .type "tuple", data := .seq #[y1, y2] } := (sb.2 _ (Nat.ne_of_gt hzl)).trans hT
    have new : ObjOk X.prog X.w (upd H s.heap.objs.size (.tup [xs[i], ys[i]])) h'' s.heap.objs.size (.tup [xs[i], ys[i]]) :=
      ⟨by show 2 ≤ sizeLine; decide, [y1, y2], .cons ru (.cons ru2 .nil), ⟨_, hT2, rfl, _, rfl⟩⟩
    have I1 : Inv X pins σ (upd H s.heap.objs.size (.tup [xs[i], ys[i]])) { s with heap := h'', toks := tk } :=
      I.turnedNew (t' := tk) (ch := [z, TI, TO, i1, i2]) (fun c o hb q => (sb.2 c (fun q' => hb (by simp [q']))).trans (hk c o (fun q' => hb (by simp [q'])) (fun q' => hb (by simp [q'])) (fun q' => hb (by simp [q'])) (fun q' => hb (by simp [q'])) q)) hf (Nat.le_refl _) new
    refine ⟨.ref s.heap.objs.size, _, I1, rfl, ⟨_, xs[i], ys[i], rfl, I.hok.fresh (Nat.le_refl _), rfl, hx, hy⟩, ⟨z'', ?_, ⟨y1, y2, ?_⟩, ?_, ?_⟩, fun c hcm => ?_⟩
    · exact (sb.2 _ D.TIz).trans (hk _ _ D.TIz D.TITO D.TIi1 D.TIi2 hTI)
    · exact (sb.2 _ D.TOz).trans TO'
    · exact st1.1.1.at fun o q => (sb.2 _ (Ne.symm (zne1 D))).trans q
    · exact st2.1.1.at fun o q => (sb.2 _ (Ne.symm (zne2 D))).trans q
    · have hlt : c < s.heap.objs.size := by
        have e' : c = z ∨ c = TI ∨ c = TO ∨ c = i1 ∨ c = i2 := by simpa using hcm
        rcases e' with q | q | q | q | q
        · rw [q]; exact hzl
        · rw [q]; exact Heap.lt_size hTI
        · rw [q]; exact Heap.lt_size hTO
        · rw [q]; obtain ⟨_, e1, _⟩ := h1.obj; exact Heap.lt_size e1
        · rw [q]; obtain ⟨_, e2, _⟩ := h2.obj; exact Heap.lt_size e2
      rw [upd_ne (Nat.ne_of_lt hlt)]
      exact (hf c hcm).1
  done := by
    intro X hP hw hK hc i pins s σ H E I hf st hg
    subst hP hw hK
    obtain ⟨hz, hTI, ⟨x0, y0, hTO⟩, h1, h2⟩ := st
    obtain ⟨hqx, hqy, hlx, hly, hend⟩ := hg
    obtain ⟨its, rv, p, la⟩ := seqB I hqx
    obtain ⟨its2, rv2, p2, lb⟩ := seqB I hqy
    have l1 := rv.length
    have l2 := rv2.length
    obtain ⟨x1, hot⟩ := hc.at I
    obtain ⟨pp, ⟨hh, _⟩, hpp⟩ := id hc
    have ex : pp.1 = x1 := by have := hh.symm.trans hot.1; injection this with this; injection this
    have nx : ∀ c ∈ [z, TI, TO, i1, i2], x1 ≠ c := fun c hcm => by rw [← ex]; exact (hf c hcm).2.2.2.2.2 pp (List.mem_append_left _ hpp)
    have D := sepX D (nx z (by simp)) (nx TO (by simp)) (nx i1 (by simp)) (nx i2 (by simp))
    have hot : HotAt X.A.in1 x1 s.heap := hot
    have n1 : a ≠ i1 := ne_iter I hqx h1 (hf i1 (by simp)).1
    have n2 : b ≠ i2 := ne_iter I hqy h2 (hf i2 (by simp)).1
    refine wpAny_pyNext_zipD2_end D (drawsH i1 a x1 n1 (nx i1 (by simp)) its.toArray) (drawsH i2 b x1 n2 (nx i2 (by simp)) its2.toArray) hz hTI hTO ⟨⟨h1, p⟩, hot⟩ ⟨⟨h2, p2⟩, hot⟩ (by simp; omega) (by simp; omega) (by simp; omega) fun h' tk hk =>
      ⟨rfl, I.turnedL (t' := tk) (ch := [z, TI, TO, i1, i2]) (fun c o hb q => hk c o (fun q' => hb (by simp [q'])) (fun q' => hb (by simp [q'])) (fun q' => hb (by simp [q'])) (fun q' => hb (by simp [q'])) q) hf⟩
  self := fun A i s Q E st h => wpAny_pyIter_zip st.1 h

def iZipH (K : PySem.W.Frag) (ta : TA) : TI := fun σ H R => ta σ H fun vs H1 => ∃ a b xs ys, vs = [.ref a, .ref b] ∧ SqB K false H1 a xs ∧ SqB K false H1 b ys ∧ R (Itz2 K false false a b xs ys) H1
theorem pi_zipH {X : Cx} {e e2 : Expr} {ta : TA} {p pos tpos : Pos} {elts : List Expr} {kk : Nat} (hg : Gl X "zip") (hm : X.mg "zip" = none) (ha : PA X [e, e2] ta)
    (hs : starEach [e, e2] X.env = (false, eval e X.env) :: starEach [e2] X.env := by rfl) (hpl : (backTo pos (starEach [e2] X.env)).any (·.1) = false := by rfl) :
    PIH X (.Tuple elts kk tpos) (.Call (.Name "zip" p) [e, e2] [] pos) (iZipH X.K ta) := by
  refine ⟨fun pins s σ H R I h => ?_⟩
  refine Call_ (ld_blt I hg hm PyProof.Rows.boot_zip (PyProof.Rows.callWith_type1 (thn (ha.run pos pins s σ H _ I h) fun us s1 ⟨vs, H1, I1, r1, q1⟩ => ?_) hs hpl))
  obtain ⟨a, b, xs, ys, ex, hqx, hqy, q⟩ := q1
  subst ex
  cases r1 with
  | cons r rr =>
    cases rr with
    | cons r' rr =>
      cases rr
      cases r
      cases r'
      have fresh5 : ∀ c, c ∈ [s1.heap.objs.size + 4, s1.heap.objs.size + 2, s1.heap.objs.size + 3, s1.heap.objs.size, s1.heap.objs.size + 1] → FpOk X pins H1 c := fun c hcm => by
        have e' : c = s1.heap.objs.size + 4 ∨ c = s1.heap.objs.size + 2 ∨ c = s1.heap.objs.size + 3 ∨ c = s1.heap.objs.size ∨ c = s1.heap.objs.size + 1 := by simpa using hcm
        have hle : s1.heap.objs.size ≤ c := by
          rcases e' with z | z | z | z | z
          · rw [z]; exact Nat.le_add_right _ _
          · rw [z]; exact Nat.le_add_right _ _
          · rw [z]; exact Nat.le_add_right _ _
          · rw [z]; exact Nat.le_refl _
          · rw [z]; exact Nat.le_add_right _ _
        exact I1.fpOk hle (I1.hok.fresh hle)
      obtain ⟨its, rv, p1, la⟩ := seqB I1 hqx
      obtain ⟨its2, rv2, p2, lb⟩ := seqB I1 hqy
      refine zip_begins2 (beginsB false a its.toArray) (beginsB false b its2.toArray) p1 p2 fun h' hz hTI hTO h1 h2 hsz hk => wpAny_pyIter_zip hz ?_
      have I2 : Inv X pins σ H1 { s1 with heap := h' } := I1.kept (t' := s1.toks) hk
      exact ⟨s1.heap.objs.size + 4, [s1.heap.objs.size + 4, s1.heap.objs.size + 2, s1.heap.objs.size + 3, s1.heap.objs.size, s1.heap.objs.size + 1], _, _, H1, rfl, I2,
        turn_zipH (zip_sep2 (fp1 := [a]) (fp2 := [b]) (fun c hc => by simp at hc; rw [hc]; exact la) (fun c hc => by simp at hc; rw [hc]; exact lb)), ⟨hz, hTI, ⟨_, _, hTO⟩, iterB0 h1, iterB0 h2⟩, fresh5, q⟩
abbrev blkP (X : Cx) (s : Shared) (H : Hp) (scope : Scope) (cenv : Env) (fp : List Addr) (p : Addr × Obj) : Cx := (X.blk s H scope cenv fp).tr [p] (fun _ _ => False)
section
variable {X : Cx}
theorem addPin {p : Addr × Obj} {pins : List (Addr × Obj)} {σ σ' : L2.St} {H : Hp} {s : Shared} {scope : Scope} {cl : List (Str × Addr)} {fp : List Addr} {h' : Heap} (hp : p ∈ X.pn) (I : Inv X pins σ H s)
    (J : Inv (X.blk s H scope (compEnvC scope cl s.heap.objs.size X.env) fp) [] σ' H { s with heap := h' }) (k : ∀ b o, s.heap.get? b = some o → h'.get? b = some o) :
    Inv (blkP X s H scope (compEnvC scope cl s.heap.objs.size X.env) fp p) [] σ' H { s with heap := h' } := by
  have P1 := I.pin p (List.mem_append_left _ hp)
  have J2 : Inv (X.blk s H scope (compEnvC scope cl s.heap.objs.size X.env) fp) [p] σ' H { s with heap := h' } :=
    ⟨J.ok, J.os, J.bare, J.base, J.loc, J.cell, J.free, J.freeC, fun q hq => by
      have e : q = p := by simpa using hq
      rw [e]
      exact ⟨k _ _ P1.1, P1.2.1, Nat.ne_of_lt (Heap.lt_size P1.1), fun hm => (List.mem_cons.mp (I.stkSub p.1 hm)).elim P1.2.2.1 P1.2.2.2.1, P1.2.2.2.2⟩, J.hok, J.len⟩
  exact J2.toTry _
theorem lc_coreH {p : Addr × Obj} {pins : List (Addr × Obj)} {s : Shared} {σ : L2.St} {H : Hp} {Q : VK} {elt tg iter : Expr} {ifs : List Expr} {scope : Scope} {own : List (Str × Nat)} {pos pos' : Pos} {wi : TI} {g : TG} {tt : TT} {te : TE} {use : Option (Value → Sem Unit)} {Qf : Value → Shared → Prop}
    (hot : Hot1 X.A p) (hp : p ∈ X.pn) (hN : X.N.Nodup) (I : Inv X pins σ H s) (hi : PIH X tg iter wi) (ok : BlkOk X.N X.env.scope scope own)
    (hg : ∀ (s : Shared) (H : Hp) (C : Addr) (cl : List (Str × Addr)) (fp : List Addr), PG (blkP X s H scope (compEnvC scope cl C X.env) fp p) tg g) (ht : ∀ (s : Shared) (H : Hp) (C : Addr) (cl : List (Str × Addr)) (fp : List Addr), PTs (blkP X s H scope (compEnvC scope cl C X.env) fp p) ifs tt)
    (he : ∀ (s : Shared) (H : Hp) (C : Addr) (cl : List (Str × Addr)) (fp : List Addr), PE (blkP X s H scope (compEnvC scope cl C X.env) fp p) elt te) (hs : ∀ x, foldedSetIterable iter X.env x = pure x)
    (h : tLc wi g tt te (own.map (·.2)) σ H Q)
    (hRR : ∀ D C s' m H', Inv X pins σ H' s' → Q (.ref D) H' → s'.heap.Ns C m → FpOk X pins H' C → compPost (model X.prog X.w) X.A X.xe use Qf (.ref D) C (.ok .next) s') :
    wpAny (model X.prog X.w) X.A (comprehension (.ListComp elt [⟨tg, iter, ifs, 0⟩] scope pos) scope X.env pos' (newList []) false (eval iter X.env) use) Qf X.xe s := by
  have hfree : ∀ y ∈ scope.names, y.2 = .free → ∃ c, X.env.cells.lookup y.1 = some c := fun y hy e => by
    rcases ok.free y hy e with k | k
    · exact I.ok.has _ (.inl k)
    · exact I.ok.has _ (.inr k)
  refine wpAny_comprehension_free (use := use) rfl hs (closure_ok hfree) ok.kind (fun y hy e => by rw [ok.uniq y hy, e])
    (thn (hi.run pins s σ H _ I h) fun xv s1 hx => thn hx fun itv s2 h2 => ?_)
  obtain ⟨it, fp, tn, J, H2, e, I2, T, st2, f2, q⟩ := h2
  subst e
  refine wpAny_newObj_type (newEnv_comp ?_) (by show 0 ≤ sizeLine; decide)
  generalize hD : s2.heap.objs.size = D
  have hDn : H2 D = none := I2.hok.fresh (Nat.le_of_eq hD)
  obtain ⟨W, ⟨m0, w0⟩, turn⟩ := q D hDn
  -- the new list
  generalize hs3 : ({ s2 with heap := s2.heap.push { cls := .type "list", data := .seq ([] : List Value).toArray } } : Shared) = s3
  have I3 : Inv X pins σ (upd H2 D (.lst [])) s3 := by
    rw [← hs3]
    refine I2.laid (t' := s2.toks) (fun b o e => Heap.get?_push_of_some _ e) (Nat.le_of_eq hD) ⟨Nat.zero_le _, [], 0, .nil, ?_⟩
    rw [← hD]
    exact Heap.get?_push_size _ rfl
  have h3 : s3.heap = s2.heap.push { cls := .type "list", data := .seq ([] : List Value).toArray } := by rw [← hs3]
  have sz : ∀ b ∈ fp, b < s2.heap.objs.size := fun b hb => by
    obtain ⟨o, e, _⟩ := T.obj _ _ st2 b hb
    exact Heap.lt_size e
  have f3 : ∀ b ∈ fp, FpOk X pins (upd H2 D (.lst [])) b ∧ b < s3.heap.objs.size := fun b hb => by
    have hlt := sz b hb
    refine ⟨⟨?_, (f2 b hb).2⟩, by rw [h3, Heap.size_push]; exact Nat.lt_succ_of_lt hlt⟩
    rw [upd_ne (by rw [← hD]; exact Nat.ne_of_lt hlt)]
    exact (f2 b hb).1
  have st3 : tn 0 s3.heap := T.keep _ _ _ st2 fun b _ o e => by rw [h3]; exact Heap.get?_push_of_some _ e
  have I4 := addPin hp I3 (block_start I3 ok hN f3) (fun b o e => pushCells_keeps _ _ _ _ (Heap.get?_push_of_some _ e))
  have pg := hg s3 (upd H2 D (.lst [])) s3.heap.objs.size (cellsFrom (s3.heap.objs.size + 1) scope.names (cloFrom X.env.cells scope.names [])) fp
  have pt := ht s3 (upd H2 D (.lst [])) s3.heap.objs.size (cellsFrom (s3.heap.objs.size + 1) scope.names (cloFrom X.env.cells scope.names [])) fp
  have pe := he s3 (upd H2 D (.lst [])) s3.heap.objs.size (cellsFrom (s3.heap.objs.size + 1) scope.names (cloFrom X.env.cells scope.names [])) fp
  show codeAny _ _ (.compStart (.ListComp elt [⟨tg, iter, ifs, 0⟩] scope pos) 0 (.ref it) (.ref D) (compEnvC scope (cellsFrom (s3.heap.objs.size + 1) scope.names (cloFrom X.env.cells scope.names [])) s3.heap.objs.size X.env)) (compPost (model X.prog X.w) X.A X.xe use Qf (.ref D) s3.heap.objs.size) { s3 with heap := pushCells (s3.heap.push { cls := .type "dict", data := .dict #[] }) scope.names }
  have nfp : ∀ b ∈ fp, (upd H2 D (.lst [])) b = none := fun b hb => (f3 b hb).1.1
  generalize hce : compEnvC scope (cellsFrom (s3.heap.objs.size + 1) scope.names (cloFrom X.env.cells scope.names [])) s3.heap.objs.size X.env = ce at I4 pg pt pe ⊢
  have cL : ce.locals = s3.heap.objs.size := by subst hce; rfl
  generalize hH3 : upd H2 D (.lst []) = H3 at I3 I4 pg pt pe w0 nfp f3
  generalize hs4 : ({ s3 with heap := pushCells (s3.heap.push { cls := .type "dict", data := .dict #[] }) scope.names } : Shared) = s4 at I4 ⊢
  have st4 : tn 0 s4.heap := T.keep _ _ _ st3 fun b _ o e => by rw [← hs4]; exact pushCells_keeps _ _ _ _ (Heap.get?_push_of_some _ e)
  have stat : ∀ {σ' : L2.St} {H' : Hp} {s' : Shared}, Inv (blkP X s3 H3 scope ce fp p) [] σ' H' s' → (∀ b ∈ fp, H' b = none) → ∀ b ∈ fp, FpOk (blkP X s3 H3 scope ce fp p) [] H' b := fun {σ' H' s'} I' hn b hb =>
    ⟨hn b hb, (I'.ok.exf b hb).1, I'.ok.exfs b hb, .inl hb, fun x c e => (I'.ok.exf b hb).2 x c e, fun q hq => by
      have e : q = p := by simpa using hq
      rw [e]
      exact (f3 b hb).1.2.2.2.2.2 p (List.mem_append_left _ hp)⟩
  have hcB : HotC (blkP X s3 H3 scope ce fp p) := ⟨p, hot, List.mem_singleton.mpr rfl⟩
  have loop : codeAny (model X.prog X.w) X.A (.compLoop (.ListComp elt [⟨tg, iter, ifs, 0⟩] scope pos) 0 (.ref it) (.ref D) ce) (compPost (model X.prog X.w) X.A X.xe use Qf (.ref D) s3.heap.objs.size) s4 := by
    refine compLoop_any (fun n s' => ∃ i H', Inv (blkP X s3 H3 scope ce fp p) [] (wipe σ (own.map (·.2))) H' s' ∧ tn i s'.heap ∧ (∀ b ∈ fp, H' b = none) ∧ W i n H') ?_ m0 ⟨0, H3, I4, st4, nfp, w0⟩
    rintro n s5 ⟨i, H5, I5, st5, n5, w5⟩
    rcases turn i n H5 w5 with ⟨stop, qq⟩ | ⟨go, Nx, hNx, step⟩
    · have td := T.done (blkP X s3 H3 scope ce fp p) rfl rfl rfl hcB i [] s5 _ H5 (fun _ _ => False) I5 (stat I5 n5) st5 stop
      refine thnF td fun r s6 ⟨hr, I6⟩ => ?_
      subst hr
      -- back in the def's context
      have I7 : Inv X pins σ H5 s6 := I3.call' (ch := fp) I6.os I6.base I6.hok I6.bare fun b hb => ⟨(f3 b hb).1.2.2.2.1, (f3 b hb).1.2.1, (f3 b hb).1.2.2.2.2.1, (f3 b hb).1.2.2.2.2.2⟩
      have nC : H5 s3.heap.objs.size = none := by
        have z : H5 ce.locals = none := I6.free
        rw [cL] at z
        exact z
      obtain ⟨m, hn, _⟩ := I6.loc
      have hn : s6.heap.Ns ce.locals m := hn
      rw [cL] at hn
      exact hRR D s3.heap.objs.size s6 m H5 I7 qq hn (I3.fpOk (Nat.le_refl _) nC)
    · have ti := T.item (blkP X s3 H3 scope ce fp p) rfl rfl rfl hcB i [] s5 _ H5 (fun _ _ => False) I5 (stat I5 n5) st5 go
      refine thnF ti fun r s6 ⟨u, hr, h6⟩ => ?_
      subst hr
      refine thnF h6 fun _ s7 ⟨x, H7, I7, r7, y7, st7, n7⟩ => ?_
      have I7' := I7.pinned (stat I7 n7) (T.obj _ _ st7)
      refine thnF (pg.run _ s7 _ H7 x u _ I7' r7 (step x H7 y7)) fun _ s8 ⟨σ8, H8, I8, hw8, q8⟩ => ?_
      refine thnF (pt.run _ s8 σ8 H8 _ I8 q8) fun b s9 ⟨H9, I9, q9⟩ => ?_
      -- the turn's end
      have fin : ∀ {s' : Shared} {H' : Hp}, Inv (blkP X s3 H3 scope ce fp p) ([] ++ pinsAt fp s7.heap) σ8 H' s' → Nx H' → ∃ m, m < n ∧ ∃ i H', Inv (blkP X s3 H3 scope ce fp p) [] (wipe σ (own.map (·.2))) H' s' ∧ tn i s'.heap ∧ (∀ b ∈ fp, H' b = none) ∧ W i m H' := fun {s' H'} I' nx => by
        obtain ⟨m', hm, w'⟩ := hNx H' nx
        have pin' : ∀ b ∈ fp, ∀ o, s7.heap.get? b = some o → s'.heap.get? b = some o ∧ H' b = none := fun b hb o e =>
          let z := I'.pin (b, o) (List.mem_append_right _ (List.mem_append_right _ (mem_pinsAt hb e)))
          ⟨z.1, z.2.1⟩
        have hl : (wipe σ (own.map (·.2))).length = σ8.length := by rw [← hw8, wipe_length]
        refine ⟨m', hm, i + 1, H', (I'.unpinned (pins := [])).weak hl (fun j v e => ?_), T.keep _ _ _ st7 fun b hb o e => (pin' b hb o e).1, fun b hb => ?_, w'⟩
        · rw [← hw8] at e
          exact (wipe_some e).1
        · obtain ⟨o, e, _⟩ := T.obj _ _ st7 b hb
          exact (pin' b hb o e).2
      cases b with
      | false =>
        simp only [Bool.false_eq_true, if_false] at q9 ⊢
        exact fin I9 q9
      | true =>
        simp only [if_true] at q9 ⊢
        refine thnF (pe.run _ s9 σ8 H9 _ I9 q9) fun z s10 ⟨yv, H10, I10, r10, acc, hD10, hz10, nx⟩ => ?_
        exact app_ok (X := blkP X s3 H3 scope ce fp p) I10 hD10 hz10 r10 fun s11 I11 => fin I11 nx
  exact codeAny_compStart_list loop (T.self X.A 0 _ _ _ st4 loop)
/-- as a value -/
theorem pe_lcH {p : Addr × Obj} {elt tg iter : Expr} {ifs : List Expr} {scope : Scope} {own : List (Str × Nat)} {pos : Pos} {wi : TI} {g : TG} {tt : TT} {te : TE} (hot : Hot1 X.A p) (hp : p ∈ X.pn) (hN : X.N.Nodup) (hi : PIH X tg iter wi) (ok : BlkOk X.N X.env.scope scope own)
    (hg : ∀ (s : Shared) (H : Hp) (C : Addr) (cl : List (Str × Addr)) (fp : List Addr), PG (blkP X s H scope (compEnvC scope cl C X.env) fp p) tg g) (ht : ∀ (s : Shared) (H : Hp) (C : Addr) (cl : List (Str × Addr)) (fp : List Addr), PTs (blkP X s H scope (compEnvC scope cl C X.env) fp p) ifs tt)
    (he : ∀ (s : Shared) (H : Hp) (C : Addr) (cl : List (Str × Addr)) (fp : List Addr), PE (blkP X s H scope (compEnvC scope cl C X.env) fp p) elt te) (hs : ∀ x, foldedSetIterable iter X.env x = pure x := by intro _; rfl) :
    PE X (.ListComp elt [⟨tg, iter, ifs, 0⟩] scope pos) (tLc wi g tt te (own.map (·.2))) := by
  refine ⟨fun pins s σ H Q I h => ?_⟩
  rw [eval_ListComp]
  refine lc_coreH hot hp hN I hi ok hg ht he hs h fun D C s' m H' I' q hn f => ⟨m, hn, fun h'' sb => ?_⟩
  obtain ⟨f0, f1, f2, f3, f4, f5⟩ := f
  exact ⟨.ref D, H', I'.turned (t' := s'.toks) (fun b o hb e => (sb.2 b hb).trans e) f0 f1 f3 f4 f5, rfl, q⟩
end
end HX

/-! Promises of defs that are called while an exception is handled, and of methods that may raise. -/
namespace HX
open PySem PySem.Spec PyProof.Rows L2 L2H HotX

/-! ### a def called while an exception is handled: its promise may speak of that exception -/
abbrev SpP := Addr → Value → Option Addr → Sp
structure FnP (P : Program) (w : World) (K : PySem.W.Frag) (mg : Str → Option Value) (base : Heap) (CX : CXT) (k : Nat) (f : Addr) (fd : FuncData) (ps : List Str) (sp : SpP) : Prop where
  len : ∀ a cls d vs H Q E, sp a cls d vs H Q E → vs.length = ps.length
  run : ∀ (A : Around) (outer : List Env) (s : Shared) (H : Hp) (args : Args) (us : List Value) (vs : List V) (Q : VK) (E : XK) (p : Addr × Obj) (cls : Value) (d : Option Addr), RoomH k A → Hot1 A p → L2N.Zn cls d p.2 → PinOk outer H s p → Env0 P w K mg base A outer s H → BindsTo s fd args (ps.zip us) → Vals vs us → sp p.1 cls d vs H Q E →
    codeAny (model P w) A (.call (.ref f) args) (CR CX outer P w H s Q E) s
theorem fnP_of {CX : CXT} {P : Program} {w : World} {K : PySem.W.Frag} {mg : Str → Option Value} {base : Heap} {k : Nat} {f : Addr} {name qual : Str} {params : Arguments} {body : List Stmt} {scope : Scope} {dV kV doc pm cdv ct oc : Value} {an od : Option Addr}
    {osl : Array (Option Value)} {N ps : List Str} {sp : SpP} (lk : K.lookup f = some ⟨oc, od, .func (PySem.W.fnOf name qual params body scope dV kV doc pm an cdv ct), osl⟩) (hcd : PySem.W.codeIn K cdv qual = true) (S : FnScope N ps scope)
    (len : ∀ a cls d vs H Q E, sp a cls d vs H Q E → vs.length = ps.length)
    (hbody : ∀ (A : Around) (outer : List Env) (s : Shared) (H : Hp) (vs : List V) (Q : VK) (E : XK) (p : Addr × Obj) (cls : Value) (d : Option Addr), Hot1 A p → L2N.Zn cls d p.2 → RoomH k (A.deeper (envOfC qual scope s.heap.objs.size f cdv)) → sp p.1 cls d vs H Q E →
      ∃ t, PSs (cxH CX P w K mg base N qual scope f cdv A outer s H E p).nox body t ∧ t { nx := fun _ H' => Q .non H', rt := Q } (L2.start N vs) H) :
    FnP P w K mg base CX (k + 1) f (PySem.W.fnOf name qual params body scope dV kV doc pm an cdv ct) ps sp := by
  refine ⟨len, fun A outer s H args us vs Q E p cls d hr hot hz hpin e0 hb r hsp => ?_⟩
  have hl := len _ _ _ _ _ _ _ hsp
  have KX : K.In s.heap := e0.mod.kin.keeps fun b o e => (e0.bs b o e).1
  have lim : s.heap.NoLimit := e0.mod.nolimit.keeps fun b o e => (e0.bs b o e).1
  have hkind : ∀ y ∈ ps.zip us, scope.names.lookup y.1 = some .local ∨ (scope.names.lookup y.1 = some .cell ∧ ((cellsFrom (s.heap.objs.size + 1) scope.names []).lookup y.1).isSome = true) := fun ⟨n, v⟩ hy => by
    rcases S.par n (List.of_mem_zip hy).1 with q | q
    · exact .inl q
    · exact .inr ⟨q, PySem.W.cellsFrom_some _ _ _ (.inl q)⟩
  refine codeAny_call_function hr.depth (KX _ _ lk) rfl S.co S.gen rfl (PySem.W.codeRec_of KX hcd) (hb _ _ _ _ ?_)
  refine wpAny_newFunctionEnv_cells S.kind hkind fun env he s1 x => ?_
  subst he
  refine ⟨lim.keeps x.toInCall.keep, codeAny_func ?_⟩
  obtain ⟨t, ht, hq⟩ := hbody A outer s H vs Q E p cls d hot hz (hr.deeper _) hsp
  have I : Inv (cxH CX P w K mg base N qual scope f cdv A outer s H E p) [] (L2.start N vs) H s1 := inv_startH S hpin e0 hl r x
  refine wpAny_mono (ht.nox.run [] s1 (L2.start N vs) H _ I hq) (fun fl s' hs => ?_) fun e s' hs => hs
  have fin : ∀ {σ' : L2.St} {H' : Hp} {v : V} {u : Value}, Inv (cxH CX P w K mg base N qual scope f cdv A outer s H E p) [] σ' H' s' → RelV v u → Q v H' → CE outer P w H s Q u s' :=
    fun {σ' H' v u} J rv q => ⟨v, H', J.os, J.bare, J.base, J.hok, rv, q⟩
  cases fl with
  | ret u =>
    obtain ⟨v, σ', H', J, rv, q⟩ := hs
    exact fin J rv q
  | next =>
    obtain ⟨σ', H', J, q⟩ := hs
    exact fin (v := V.non) (u := Value.none) J rfl q
  | brk =>
    obtain ⟨_, _, _, q⟩ := hs
    exact False.elim q
  | cont =>
    obtain ⟨_, _, _, q⟩ := hs
    exact False.elim q

section
variable {X : Cx} {CX : CXT} {k : Nat} {f C : Addr} {fd : FuncData} {ps : List Str} {sp : SpP} {E : L2.St → XK} {x m : Str} {q pos apos : Pos} {e o : Expr} {es : List Expr} {ta : TE} {t : TA} {p : Addr × Obj} {cls : Value} {d : Option Addr}
theorem run_fnP {pins : List (Addr × Obj)} {σ : L2.St} {H : Hp} {s : Shared} {Q : VK} {us : List Value} {vs : List V} (F : FnP X.prog X.w X.K X.mg X.base CX k f fd ps sp) (hr : RoomH k X.A) (hot : Hot1 X.A p) (hz : L2N.Zn cls d p.2) (hp : p ∈ X.pn) (hb : Binds X.K fd ps []) (hx : PassesAt CX X σ (E σ))
    (I : Inv X pins σ H s) (r : Vals vs us) (h : sp p.1 cls d vs H Q (E σ)) : wpAny (model X.prog X.w) X.A (call (.ref f) us) (EP X pins σ Q) X.xe s := by
  have hl : us.length = ps.length := by rw [← r.length]; exact F.len _ _ _ _ _ _ _ h
  have b := hb s us I.kIn (by rw [List.append_nil]; exact hl)
  rw [List.append_nil] at b
  have P1 := I.pin p (List.mem_append_left _ hp)
  have hpin : PinOk X.stack H s p := ⟨P1.1, P1.2.1, fun hm => (List.mem_cons.mp (I.stkSub p.1 hm)).elim P1.2.2.1 P1.2.2.2.1, P1.2.2.2.2⟩
  refine wpAny_call (codeAny_mono (F.run X.A X.stack s H ⟨us, []⟩ us vs Q (E σ) p cls d hr hot hz hpin I.env0 b r h) fun r s' hq => ?_)
  cases r with
  | error e => exact hx pins H s e s' I hq
  | ok fl =>
    cases fl with
    | ret u => exact I.after hq
    | next => exact False.elim hq
    | brk => exact False.elim hq
    | cont => exact False.elim hq
theorem pe_fnP (F : FnP X.prog X.w X.K X.mg X.base CX k f fd ps sp) (hr : RoomH k X.A) (hot : Hot1 X.A p) (hz : L2N.Zn cls d p.2) (hp : p ∈ X.pn) (hg : Gl X x) (hm : X.mg x = some (.ref f)) (hk : PySem.W.keepIn X.K (.ref f) = true) (hb : Binds X.K fd ps []) (hx : ∀ σ, PassesAt CX X σ (E σ))
    (ha : PA X (e :: es) t) (hdb : (x == ("__debug__" : Str)) = false := by decide) (he : starEach (e :: es) X.env = (false, eval e X.env) :: starEach es X.env := by rfl) (hpl : (backTo pos (starEach es X.env)).any (·.1) = false := by rfl) :
    PE X (.Call (.Name x q) (e :: es) [] pos) (tCallS (sp p.1 cls d) E t) := by
  refine ⟨fun pins s σ H Q I h => ?_⟩
  refine wpAny_Call_Name_kw (ld_glob I hg hm ?_ hdb)
  refine PySem.W.callWith_K (h₀ := X.base) I.ok.mod.kin hk (thn (ha.run pos pins s σ H _ I h) fun us s1 ⟨vs, H1, I1, r, q⟩ => ⟨I1.kIn, ?_⟩) he hpl
  exact run_fnP F hr hot hz hp hb (hx σ) I1 r q
end
structure DfP (P : Program) (w : World) (K : PySem.W.Frag) (mg : Str → Option Value) (base : Heap) (x : Str) (k : Nat) (ps : List Str) (sp : SpP) : Prop where
  ex : ∃ f fd, FnP P w K mg base CX0 k f fd ps sp ∧ mg x = some (.ref f) ∧ PySem.W.keepIn K (.ref f) = true ∧ Binds K fd ps []
theorem pe_dp {X : Cx} {x : Str} {k : Nat} {ps : List Str} {sp : SpP} {e : Expr} {es : List Expr} {t : TA} {q pos : Pos} {p : Addr × Obj} {cls : Value} {d : Option Addr} (D : DfP X.prog X.w X.K X.mg X.base x k ps sp) (hr : RoomH k X.A) (hot : Hot1 X.A p) (hz : L2N.Zn cls d p.2) (hp : p ∈ X.pn) (hg : Gl X x) (ha : PA X (e :: es) t)
    (hdb : (x == ("__debug__" : Str)) = false := by decide) (he : starEach (e :: es) X.env = (false, eval e X.env) :: starEach es X.env := by rfl) (hpl : (backTo pos (starEach es X.env)).any (·.1) = false := by rfl) :
    PE X (.Call (.Name x q) (e :: es) [] pos) (tCallS (sp p.1 cls d) (fun _ => E0) t) := by
  obtain ⟨f, fd, F, hm, hk, hb⟩ := D.ex
  exact pe_fnP F hr hot hz hp hg hm hk hb (fun _ _ _ _ _ _ _ h => h.elim) ha hdb he hpl
theorem dp_of {P : Program} {w : World} {K : PySem.W.Frag} {mg : Str → Option Value} {base : Heap} {x : Str} {st : Stmt} {k : Nat} {N ps : List Str} {sp : SpP} (F : Has K mg x st) (S : FnScope N ps (defScope st))
    (hb : ∀ (kV doc pm : Value) (an : Option Addr) (cdv ct : Value) (us : List Value), us.length = ps.length → bindArgs (PySem.W.fnOf x x (defArgs st) (defBody st) (defScope st) .none kV doc pm an cdv ct) ⟨us, []⟩ = pure (ps.zip us))
    (len : ∀ a cls d vs H Q E, sp a cls d vs H Q E → vs.length = ps.length)
    (hbody : ∀ (f : Addr) (cdv : Value) (A : Around) (outer : List Env) (s : Shared) (H : Hp) (vs : List V) (Q : VK) (E : XK) (p : Addr × Obj) (cls : Value) (d : Option Addr), Hot1 A p → L2N.Zn cls d p.2 → RoomH k (A.deeper (envOfC x (defScope st) s.heap.objs.size f cdv)) → sp p.1 cls d vs H Q E →
      ∃ t, PSs (cxH CX0 P w K mg base N x (defScope st) f cdv A outer s H E p).nox (defBody st) t ∧ t { nx := fun _ H' => Q .non H', rt := Q } (start N vs) H) : DfP P w K mg base x (k + 1) ps sp := by
  obtain ⟨f, fd, F, hm⟩ := F.ex
  have hbi := F.binds hb
  have kp := F.kp
  obtain ⟨oc, od, kV, doc, pm, an, cdv, ct, osl, rfl, lk, hcd⟩ := F.ex
  exact ⟨f, _, fnP_of lk hcd S len (fun A outer s H vs Q E p cls d hot hz hr hsp => hbody f cdv A outer s H vs Q E p cls d hot hz hr hsp), hm, kp, hbi⟩

/-! ### what is asked of the exception -/
def rIsP (K : PySem.W.Frag) (D a : Addr) (d : Option Addr) : List V → Hp → VK → Prop := fun xs H Q => ∃ (c : V) (cv : Value) (b : Bool), xs = [.ref a, c] ∧ (∀ u, RelV c u → u = cv) ∧ PySem.W.kitOne K (.ref D) cv = some b ∧ (∀ dd, d = some dd → ∃ fs, H dd = some (.xd fs)) ∧ Q (.bl b) H
theorem inst_p {X : Cx} {pins : List (Addr × Obj)} {σ : L2.St} {H : Hp} {s : Shared} {p : Addr × Obj} {D : Addr} {d : Option Addr} (I : Inv X pins σ H s) (hp : p ∈ X.pn) (hz : Zc (.ref D) d p.2) (hf : ∃ vs, p.2.data = .fields vs) (hd : ∀ dd, d = some dd → ∃ fs, H dd = some (.xd fs)) :
    ∃ od, PySem.W.InstAt s.heap p.1 p.2 D od := by
  obtain ⟨ha, _⟩ := I.pin p (List.mem_append_left _ hp)
  obtain ⟨vs, hv⟩ := hf
  cases d with
  | none => exact ⟨none, ha, hz.1, by unfold PySem.W.notCls; rw [hv] <;> rfl, by rw [hz.2]; trivial⟩
  | some dd =>
    obtain ⟨fs, ea⟩ := hd dd rfl
    have hx : ObjOk X.prog X.w H s.heap dd (.xd fs) := I.hok dd _ ea
    obtain ⟨mA, hns, hr⟩ := hx
    obtain ⟨od, ho, hl⟩ := lookIn_ns hns
    exact ⟨some od, ha, hz.1, by unfold PySem.W.notCls; rw [hv] <;> rfl, by rw [hz.2]; exact ho⟩
theorem call_isP {X : Cx} {p : Addr × Obj} {D : Addr} {d : Option Addr} (C : ExcC X.K D) (hz : Zc (.ref D) d p.2) (hf : ∃ vs, p.2.data = .fields vs) (hp : p ∈ X.pn) : CallR X (.builtin "isinstance") (rIsP X.K D p.1 d) := by
  intro pins s σ H xs us Q I r h
  obtain ⟨c, cv, b, rfl, hcv, e, hd, q⟩ := h
  cases r with
  | cons rx rr =>
    cases rr with
    | cons rt rr =>
      cases rr
      cases rx
      have ec := hcv _ rt
      subst ec
      obtain ⟨od, J⟩ := inst_p I hp hz hf hd
      obtain ⟨cd, hc, _⟩ := PySem.W.any_some C.hd
      exact PySem.W.kia_one (PySem.W.kitx_exc (by rw [hc]; rfl) C.hg C.hk C.hs C.ha C.hn C.ht C.hm) I.kIn J e (fun z => nomatch z) fun tk => ⟨.bl b, H, I.kept (t' := tk) fun _ _ z => z, rfl, q⟩
theorem pe_xfP {X : Cx} {p : Addr × Obj} {C : Addr} {cls : Value} {d : Option Addr} {e : Expr} {te : TE} {pos : Pos} {n : Str} (T : XfC X.K C) (hno : PySem.W.findIn X.K (.ref C) n = some none)
    (hz : Zc cls d p.2) (hf : ∃ vs, p.2.data = .fields vs) (hp : p ∈ X.pn) (he : PE X e te) (hb : attributeBase e n X.env (eval e X.env) = eval e X.env := by rfl) :
    PE X (.Attribute e n pos) (tXf p.1 cls d C n te) := by
  refine ⟨fun pins s σ H Q I h => ?_⟩
  refine attr_of hb (thn (he.run pins s σ H _ I h) fun u s1 hh => ?_)
  obtain ⟨x, H1, I1, rx, ex, ec, dd, fs, v, ed, ea, l, q⟩ := hh
  subst ex
  obtain rfl : u = Value.ref p.1 := rx
  subst ec
  subst ed
  obtain ⟨ha, _⟩ := I1.pin p (List.mem_append_left _ hp)
  obtain ⟨vs, hd⟩ := hf
  have hx : ObjOk X.prog X.w H1 s1.heap dd (.xd fs) := I1.hok dd _ ea
  obtain ⟨mA, hns, hr⟩ := hx
  obtain ⟨od, ho, hl⟩ := lookIn_ns hns
  obtain ⟨u, hu, ru⟩ := RelO.some_of (v := v) (o := mA n) (by rw [← l]; exact hr n)
  have J : PySem.W.InstAt s1.heap p.1 p.2 C (some od) := ⟨ha, hz.1, by unfold PySem.W.notCls; rw [hd] <;> rfl, by rw [hz.2]; exact ho⟩
  exact HandSPX.exc_get I1.kIn J T.ga T.gg T.exC (PySem.W.findObj_own T.hdC hno rfl (by rw [hl, hu])) (handed_of ru) ⟨v, H1, I1.tok _, ru, q⟩

/-! ### an own error with its own __init__ -/
section
variable {X : Cx} {o e : Expr} {es : List Expr} {to te : TE} {ta : TA} {f : Str} {p p' p1 p2 pos : Pos}
theorem mk_endN {pins : List (Addr × Obj)} {σ : L2.St} {H1 H2 : Hp} {Q : XK} {hp hp2 h2 : Heap} {g1 g2 : Array GenState} {d1 d2 : Drawn} {t1 t2 : Nat} {os1 os2 : OsState} {a C d : Addr} {fs : List (Str × V)} (T : Raises X (.ref C)) (I1 : Inv X pins σ H1 ⟨hp, g1, d1, t1, os1⟩)
    (ha : hp.objs.size ≤ a) (k : ∀ b o, hp.get? b = some o → hp2.get? b = some o) (un : Un (frs X.stack) [] (upd H1 a (exo a C none)) H2 hp2 h2) (hok : HOk X.prog X.w H2 h2) (ho : os2 = os1) (hb : AllBare g2)
    (ea : H2 a = some (exo a C (some d))) (ed : H2 d = some (exd d fs)) (hd1 : H1 d = none) (q : Q (.ref C) (some d) (upd (del H2 a) d (.xd fs))) : L2N.MkP X pins σ Q (.ref a) ⟨h2, g2, d2, t2, os2⟩ := by
  obtain ⟨t0, G, J, kG, ge, hoe, na⟩ := mk_end0 (d2 := d2) (t2 := t2) I1 ha k un hok ho hb ea ed hd1
  exact ⟨a, _, _, ⟨G, g2, d2, t2, os2⟩, _, .ref C, some d, rfl, J, kG, ge, hoe, ⟨rfl, rfl, fun vs e => by cases e; rfl⟩, rfl, rfl, na, rfl, hb, T, q⟩
theorem pmk_oexN {CX : CXT} {x : Str} {C fI : Addr} {k : Nat} {fd : FuncData} {ps : List Str} {sp : Sp} {ds : List Value} {dvs : List V} (T : OexC X.K C) (iC : PySem.W.findIn X.K (.ref C) "__init__" = some (some (.ref fI))) (tI : PySem.W.typeIn X.K (.ref fI) = some (.type "function"))
    (F1 : FnOk X.prog X.w X.K X.mg X.base CX k fI fd ps sp) (hr : Room (k + 1) X.A) (hb : Binds X.K fd ps ds) (hd : Vals dvs ds) (hx : Passes CX X (fun _ _ _ => False)) (hg : Gl X x) (hm : X.mg x = some (.ref C)) (ha : PA X (e :: es) ta)
    (hdb : (x == ("__debug__" : Str)) = false := by decide) (he : starEach (e :: es) X.env = (false, eval e X.env) :: starEach es X.env := by rfl) (hpl : (backTo pos (starEach es X.env)).any (·.1) = false := by rfl) :
    L2N.PMk X (.Call (.Name x p) (e :: es) [] pos) (tMkO C sp dvs ta) := by
  intro pins s σ H Q I h
  obtain ⟨nm, q, N, bs, bm, sn, sub, ab, col, dd, k0, k1, k2, k3, k5, hC, hbm⟩ := T.cls
  refine wpAny_Call_Name_kw (ld_glob I hg hm ?_ hdb)
  refine PySem.W.callWith_K (h₀ := X.base) I.ok.mod.kin T.kC (thn (ha.run pos pins s σ H _ I h) fun us s1 ⟨vs, H1, I1, r1, hz, q1⟩ => ⟨I1.kIn, ?_⟩) he hpl
  show wpAny _ _ (call (.ref C) us) _ _ _
  obtain ⟨hp, g, dr, tk, os⟩ := s1
  have hsz : hp.objs.size ≤ hp.objs.size + 1 := Nat.le_succ _
  have hn : H1 (hp.objs.size + 1) = none := I1.hok.fresh hsz
  have hq := q1 (hp.objs.size + 1) hn
  have kk : ∀ b o, hp.get? b = some o → ((hp.push (PySem.W.kdv_tup us)).push (PySem.HandSPX.excO C hp.objs.size)).get? b = some o := fun b o e => Heap.get?_push_of_some _ (Heap.get?_push_of_some _ e)
  have hget : ((hp.push (PySem.W.kdv_tup us)).push (PySem.HandSPX.excO C hp.objs.size)).get? (hp.objs.size + 1) = some (PySem.HandSPX.excO C hp.objs.size) := by heap_get
  have I2 : Inv X pins σ (upd H1 (hp.objs.size + 1) (exo (hp.objs.size + 1) C none)) ⟨(hp.push (PySem.W.kdv_tup us)).push (PySem.HandSPX.excO C hp.objs.size), g, dr, tk, os⟩ :=
    I1.laid (t' := tk) (a := hp.objs.size + 1) (o := exo (hp.objs.size + 1) C none) (h' := (hp.push (PySem.W.kdv_tup us)).push (PySem.HandSPX.excO C hp.objs.size)) kk hsz (exo_ok hget)
  have r2 : Vals (V.ref (hp.objs.size + 1) :: (vs ++ dvs)) (Value.ref (hp.objs.size + 1) :: (us ++ ds)) := .cons rfl (r1.append hd)
  have hl : (Value.ref (hp.objs.size + 1) :: us ++ ds).length = ps.length := by
    have e := r2.length
    rw [F1.len _ _ _ _ hq] at e
    exact e.symm
  have hus : us.length ≤ sizeLine := by
    rw [← Paired.length r1, sizeLine_eq]
    omega
  refine wpAny_call (PySem.HandSPX.call_own F.excBase_ValueError (fun Y => PySem.HandSPX.refsVE_contains Y bm hbm) (I1.kIn _ _ hC) (PySem.W.looks_findIn I1.kIn iC) (fun self => PySem.W.bind_fn I1.kIn self tI) hus
    (codeAny_mono (F1.run _ X.stack _ _ ⟨Value.ref (hp.objs.size + 1) :: us, []⟩ (Value.ref (hp.objs.size + 1) :: (us ++ ds)) _ _ (fun _ _ _ => False) (hr.make C us []) (I2.env0.make C us []) (hb _ (Value.ref (hp.objs.size + 1) :: us) I2.kIn hl) r2 hq) fun r s' hq' => ?_))
  cases r with
  | error er => exact hx pins σ _ _ er s' I2 hq'
  | ok fl =>
    cases fl with
    | ret u =>
      obtain ⟨v, H2, os2, bare2, un2, hok2, rv, ev, d, fs, ea, ed, hd1, q2⟩ := hq'
      subst ev
      obtain ⟨h2, g2, d2, t2, os'⟩ := s'
      exact ⟨rv, mk_endN (raises_own T.exC T.tyC) I1 hsz kk un2 hok2 os2 bare2 ea ed hd1 q2⟩
    | next => exact False.elim hq'
    | brk => exact False.elim hq'
    | cont => exact False.elim hq'
end
end HX

/-! Methods and makers that may raise; the readings of raise. -/
namespace HX
open PySem PySem.Spec PyProof.Rows L2 L2H HotX

/-! ### C.__init__(self, ..) of an own error class C that has no __init__ of its own -/
theorem pe_weinit {X : Cx} {WC : Addr} {nm : Str} {mc : Value} {e : Expr} {es : List Expr} {ta : TA} {p1 p2 pos : Pos} {pl : Sem Bool} (hg : Gl X nm) (hm : X.mg nm = some (.ref WC)) (hsp : PySem.W.specialIn X.K (.ref WC) "__getattribute__" = some (some (.builtin "type.__getattribute__")))
    (hrd : PySem.W.readsIn X.K WC mc = true) (hf : PySem.W.findCls X.K (.ref WC) mc "__init__" = some (.val (.builtin "ValueError.__init__"))) (ha : PA X (e :: es) ta)
    (hc : eval (.Call (.Attribute (.Name nm p1) "__init__" p2) (e :: es) [] pos) X.env = (do
      let ov ← eval (.Name nm p1) X.env
      standAt p2.atName
      let (f, first) ← holding [ov] (getMethod ov "__init__" pl)
      callWith pos f first (backTo pos (starEach (e :: es) X.env)) (backToKw pos (keywordEach [] X.env))) := by rfl)
    (hdb : (nm == ("__debug__" : Str)) = false := by decide) (he : starEach (e :: es) X.env = (false, eval e X.env) :: starEach es X.env := by rfl) (hpl : (backTo pos (starEach es X.env)).any (·.1) = false := by rfl) :
    PE X (.Call (.Attribute (.Name nm p1) "__init__" p2) (e :: es) [] pos) (tVeI X.K ta) := by
  refine ⟨fun pins s σ H Q I h => ?_⟩
  refine PySem.W.methodCall_KW (ld_glob I hg hm ?_ hdb) hc
  refine PySem.W.method_cls I.kIn hsp (PySem.W.cls_value I.kIn hrd hf (by decide +kernel) ?_)
  show wpAny _ _ (callWith pos (Value.builtin "ValueError.__init__") [] (backTo pos (starEach (e :: es) X.env)) []) _ _ _
  refine PyProof.Rows.callWith_method1 (thn (ha.run pos pins _ σ H _ (I.tok _) h) fun us s1 ⟨vs, H1, I1, r1, a, C, ws, ev, hl, T, ea, q⟩ => ?_) he hpl
  subst ev
  cases r1 with
  | @cons _ u0 _ ur ra rw' =>
    obtain rfl : u0 = Value.ref a := ra
    have hlen : ur.length ≤ sizeLine := by
      rw [← Paired.length rw', sizeLine_eq]
      omega
    exact oinit_ok T I1 ea hlen fun s' J => ⟨.non, H1, J, rfl, q⟩

/-! ### methods that may raise -/
abbrev CXN (P : Program) (w : World) : CXT := L2N.CX P w
structure MfX (P : Program) (w : World) (K : PySem.W.Frag) (mg : Str → Option Value) (base : Heap) (C : Addr) (m : Str) (k : Nat) (ps : List Str) (sp : Sp) : Prop where
  ex : ∃ f fd, FnOk P w K mg base (CXN P w) k f fd ps sp ∧ Meth K C m f ∧ Binds K fd ps []
theorem mfx_of {P : Program} {w : World} {K : PySem.W.Frag} {mg : Str → Option Value} {base : Heap} {C : Addr} {m qual : Str} {st : Stmt} {k : Nat} {N ps : List Str} {sp : Sp} (F : HasM K C m qual st) (S : FnScope N ps (defScope st))
    (hb : ∀ (kV doc pm : Value) (an : Option Addr) (cdv ct : Value) (us : List Value), us.length = ps.length → bindArgs (PySem.W.fnOf m qual (defArgs st) (defBody st) (defScope st) .none kV doc pm an cdv ct) ⟨us, []⟩ = pure (ps.zip us))
    (len : ∀ vs H Q E, sp vs H Q E → vs.length = ps.length)
    (hbody : ∀ (f : Addr) (cdv : Value) (A : Around) (outer : List Env) (s : Shared) (H : Hp) (vs : List V) (Q : VK) (E : XK), Room k (A.deeper (envOfC qual (defScope st) s.heap.objs.size f cdv)) → sp vs H Q E →
      ∃ t, PSs (cxOf (CXN P w) P w K mg base N qual (defScope st) f cdv A outer s H E) (defBody st) t ∧ t { nx := fun _ H' => Q .non H', rt := Q } (start N vs) H) : MfX P w K mg base C m (k + 1) ps sp := by
  obtain ⟨f, fd, F, hm⟩ := F.ex
  have hbi := F.binds hb
  obtain ⟨oc, od, kV, doc, pm, an, cdv, ct, osl, rfl, lk, hcd⟩ := F.ex
  exact ⟨f, _, fn_of lk hcd S len (fun A outer s H vs Q E hr hsp => hbody f cdv A outer s H vs Q E hr hsp), hm, hbi⟩
theorem passE0 {X : Cx} {σ : L2.St} : PassesAt (CXN X.prog X.w) X σ E0 := fun _ _ _ _ _ _ h => by
  obtain ⟨_, _, _, _, _, _, _, _, _, _, _, _, z⟩ := h
  exact z.elim
theorem takes0N {X : Cx} : L2N.Takes X (fun _ _ _ _ => False) := fun _ _ h => by
  obtain ⟨_, _, _, _, _, _, _, _, _, _, _, _, _, _, _, _, z⟩ := h
  exact z.elim
section
variable {X : Cx} {C : Addr} {m : Str} {k : Nat} {ps : List Str} {sp : Sp} {o e : Expr} {es : List Expr} {ta : TE} {t : TA} {apos pos : Pos} {pl : Sem Bool} {E : L2.St → XK}
theorem pe_mfx (c : Cls X.K C) (D : MfX X.prog X.w X.K X.mg X.base C m k ps sp) (hr : Room k X.A) (hx : ∀ σ, PassesAt (CXN X.prog X.w) X σ (E σ)) (he : PE X o ta) (ha : PA X (e :: es) t)
    (hst : starEach (e :: es) X.env = (false, eval e X.env) :: starEach es X.env := by rfl) (hpl : (backTo pos (starEach es X.env)).any (·.1) = false := by rfl)
    (ht : eval (.Call (.Attribute o m apos) (e :: es) [] pos) X.env = (do
      let ov ← eval o X.env
      standAt apos.atName
      let (f, first) ← holding [ov] (getMethod ov m pl)
      callWith pos f first (backTo pos (starEach (e :: es) X.env)) (backToKw pos (keywordEach [] X.env))) := by rfl) :
    PE X (.Call (.Attribute o m apos) (e :: es) [] pos) (tMethH C m sp E ta t) := by
  obtain ⟨f, fd, F, hm, hb⟩ := D.ex
  refine ⟨fun pins s σ H Q I h => ?_⟩
  refine PySem.W.methodCall_KW (pl := pl) (thn (he.run pins s σ H _ I h) fun u s1 ⟨x, H1, I1, rx, a, dx, fs, ex, ea, l, q⟩ => ?_) ht
  subst ex
  obtain rfl : u = Value.ref a := rx
  refine getmeth_ok I1 ea c hm l ?_
  refine PySem.W.callWith_K (first := [.ref a]) (h₀ := X.base) I.ok.mod.kin hm.kp (thn (ha.run pos pins s1 σ H1 _ I1 q) fun us s2 ⟨vs, H2, I2, r, q2⟩ => ⟨I2.kIn, ?_⟩) hst hpl
  exact run_fnS (us := .ref a :: us) (vs := .ref a :: vs) F hr hb (hx σ) I2 (.cons rfl r) q2
theorem pe_mfx0 (c : Cls X.K C) (D : MfX X.prog X.w X.K X.mg X.base C m k ps sp) (hr : Room k X.A) (hx : ∀ σ, PassesAt (CXN X.prog X.w) X σ (E σ)) (he : PE X o ta)
    (ht : eval (.Call (.Attribute o m apos) [] [] pos) X.env = (do
      let ov ← eval o X.env
      standAt apos.atName
      let (f, first) ← holding [ov] (getMethod ov m pl)
      callWith pos f first (backTo pos (starEach [] X.env)) (backToKw pos (keywordEach [] X.env))) := by rfl) :
    PE X (.Call (.Attribute o m apos) [] [] pos) (tMethH C m sp E ta tNil) := by
  obtain ⟨f, fd, F, hm, hb⟩ := D.ex
  refine ⟨fun pins s σ H Q I h => ?_⟩
  refine PySem.W.methodCall_KW (pl := pl) (thn (he.run pins s σ H _ I h) fun u s1 ⟨x, H1, I1, rx, a, dx, fs, ex, ea, l, q⟩ => ?_) ht
  subst ex
  obtain rfl : u = Value.ref a := rx
  refine getmeth_ok I1 ea c hm l ?_
  exact PySem.W.callWith_K0 (first := [.ref a]) I1.kIn hm.kp (run_fnS (us := [.ref a]) (vs := [.ref a]) F hr hb (hx σ) I1 (.cons rfl .nil) q)
end

/-! ### a class made by an __init__ that may raise -/
structure MkfX (P : Program) (w : World) (K : PySem.W.Frag) (mg : Str → Option Value) (base : Heap) (x : Str) (C : Addr) (k : Nat) (ps : List Str) (sp : Sp) : Prop where
  ex : ∃ f fd, FnOk P w K mg base (CXN P w) k f fd ps sp ∧ Mk K C f ∧ Binds K fd ps [] ∧ mg x = some (.ref C)
theorem mkfx_of {P : Program} {w : World} {K : PySem.W.Frag} {mg : Str → Option Value} {base : Heap} {C : Addr} {x qual : Str} {st : Stmt} {k : Nat} {N ps : List Str} {sp : Sp} (F : HasI K mg x C qual st) (S : FnScope N ps (defScope st))
    (hb : ∀ (kV doc pm : Value) (an : Option Addr) (cdv ct : Value) (us : List Value), us.length = ps.length → bindArgs (PySem.W.fnOf "__init__" qual (defArgs st) (defBody st) (defScope st) .none kV doc pm an cdv ct) ⟨us, []⟩ = pure (ps.zip us))
    (len : ∀ vs H Q E, sp vs H Q E → vs.length = ps.length)
    (hbody : ∀ (f : Addr) (cdv : Value) (A : Around) (outer : List Env) (s : Shared) (H : Hp) (vs : List V) (Q : VK) (E : XK), Room k (A.deeper (envOfC qual (defScope st) s.heap.objs.size f cdv)) → sp vs H Q E →
      ∃ t, PSs (cxOf (CXN P w) P w K mg base N qual (defScope st) f cdv A outer s H E) (defBody st) t ∧ t { nx := fun _ H' => Q .non H', rt := Q } (start N vs) H) : MkfX P w K mg base x C (k + 1) ps sp := by
  obtain ⟨f, fd, F, hm, hx⟩ := F.ex
  have hbi := F.binds hb
  obtain ⟨oc, od, kV, doc, pm, an, cdv, ct, osl, rfl, lk, hcd⟩ := F.ex
  exact ⟨f, _, fn_of lk hcd S len (fun A outer s H vs Q E hr hsp => hbody f cdv A outer s H vs Q E hr hsp), hm, hbi, hx⟩
def tMakeE (C : Addr) (sp : Sp) (E : L2.St → XK) (t : TA) : TE := fun σ H Q => t σ H fun vs H1 => ∀ x dx, H1 x = none → H1 dx = none → dx ≠ x →
  sp (.ref x :: vs) (upd (upd H1 dx (.own x)) x (.ins C dx [])) (fun v H2 => v = .non ∧ Q (.ref x) H2) (E σ)
theorem pe_mkx {X : Cx} {C : Addr} {x : Str} {k : Nat} {ps : List Str} {sp : Sp} {e : Expr} {es : List Expr} {t : TA} {p pos : Pos} {E : L2.St → XK} (D : MkfX X.prog X.w X.K X.mg X.base x C k ps sp) (hr : Room (k + 1) X.A) (hx : ∀ σ, PassesAt (CXN X.prog X.w) X σ (E σ)) (hg : Gl X x) (ha : PA X (e :: es) t)
    (hdb : (x == ("__debug__" : Str)) = false := by decide) (he : starEach (e :: es) X.env = (false, eval e X.env) :: starEach es X.env := by rfl) (hpl : (backTo pos (starEach es X.env)).any (·.1) = false := by rfl) :
    PE X (.Call (.Name x p) (e :: es) [] pos) (tMakeE C sp E t) := by
  obtain ⟨f, fd, F, M, hb, hmx⟩ := D.ex
  refine ⟨fun pins s0 σ H0 Q I0 h => ?_⟩
  refine wpAny_Call_Name_kw (ld_glob I0 hg hmx ?_ hdb)
  refine PySem.W.callWith_K (h₀ := X.base) I0.ok.mod.kin M.kp (thn (ha.run pos pins s0 σ H0 _ I0 h) fun us s ⟨vs, H, I, r, h⟩ => ⟨I.kIn, ?_⟩) he hpl
  have hq := h (s.heap.objs.size + 1) s.heap.objs.size (I.hok.fresh (Nat.le_succ _)) (I.hok.fresh (Nat.le_refl _)) (Nat.ne_of_lt (Nat.lt_succ_self _))
  have I2 := Inv.made (C := C) I
  have r2 : Vals (V.ref (s.heap.objs.size + 1) :: vs) (Value.ref (s.heap.objs.size + 1) :: us) := .cons rfl r
  have hl : (Value.ref (s.heap.objs.size + 1) :: us ++ []).length = ps.length := by
    have e := r2.length
    rw [F.len _ _ _ _ hq] at e
    rw [List.append_nil]
    exact e.symm
  have b := hb _ (Value.ref (s.heap.objs.size + 1) :: us) I2.kIn hl
  rw [List.append_nil] at b
  refine wpAny_call (make_map (f := f) I.kIn M.makes M.init (beq_iff_eq.mp M.fn) (codeAny_mono (F.run _ X.stack _ _ ⟨Value.ref (s.heap.objs.size + 1) :: us, []⟩ (Value.ref (s.heap.objs.size + 1) :: us) _ _ (E σ) (hr.make C us [])
    (I2.env0.make C us []) b r2 hq) fun r s' hq' => ?_))
  cases r with
  | error e => exact hx σ pins _ _ e s' I2 hq'
  | ok fl =>
    cases fl with
    | ret u =>
      obtain ⟨v, H', I3, rv, ev, q3⟩ := I2.after hq'
      subst ev
      exact ⟨rv, ⟨V.ref (s.heap.objs.size + 1), H', I3, rfl, q3⟩⟩
    | next => exact False.elim hq'
    | brk => exact False.elim hq'
    | cont => exact False.elim hq'

/-! ### raise -/
/-- raise C("..") -/
def tRs (C : Addr) (E : XK) : TS := fun _ _ H => E (.ref C) none H
structure ExC (K : PySem.W.Frag) (mg : Str → Option Value) (x : Str) (C : Addr) : Prop where
  q : PySem.W.excIn K C [.type "ValueError", .type "Exception", .type "BaseException", .type "object"] "ValueError.__new__" = true
  g : mg x = some (.ref C)
  k : PySem.W.keepIn K (.ref C) = true
  s : PySem.W.subIn K (.ref C) (.type "BaseException") = some true
  t : PySem.W.typeIn K (.ref C) = some (.type "type")
theorem ps_rs {X : Cx} {x m : Str} {C : Addr} {E : XK} {j : Nat} {p p2 pos pos2 : Pos} (hc : X.calm = true) (tk : L2N.Takes X (fun cls d _ H => E cls d H)) (T : ExC X.K X.mg x C) (hg : Gl X x) (hdb : (x == ("__debug__" : Str)) = false := by decide) :
    PS X (.Raise (some (.Call (.Name x p) [.Constant (.str m) j p2] [] pos)) none pos2) (tRs C E) :=
  L2N.ps_raise hc tk (L2N.pmk_own F.excBase_ValueError T.q T.g T.k (raises_own T.s T.t) hg hdb)
/-- raise C(e), C with an __init__ that sets the field f to e -/
def spErr (C : Addr) (f : Str) : Sp := fun vs H Q _ => ∃ (a : Addr) (v : V), vs = [.ref a, v] ∧ H a = some (exo a C none) ∧ ∀ dx, H dx = none → dx ≠ a → Q .non (upd (upd H dx (exd dx [(f, v)])) a (exo a C (some dx)))
def RsK (C : Addr) (f : Str) (E : XK) (v : V) (H1 : Hp) : Prop := [v].length ≤ 1000 ∧ ∀ a, H1 a = none → spErr C f (.ref a :: ([v] ++ [])) (upd H1 a (exo a C none))
  (fun v H2 => v = .non ∧ ∃ (d : Addr) (fs : List (Str × V)), H2 a = some (exo a C (some d)) ∧ H2 d = some (exd d fs) ∧ H1 d = none ∧ E (.ref C) (some d) (upd (del H2 a) d (.xd fs))) (fun _ _ _ => False)
/-- raise C(e), C with an __init__ that sets the field f to e -/
def tRsI (C : Addr) (f : Str) (E : XK) (te : TE) : TS := fun _ σ H => te σ H fun v H1 => RsK C f E v H1
structure ExI (P : Program) (w : World) (K : PySem.W.Frag) (mg : Str → Option Value) (base : Heap) (x f : Str) (k : Nat) (C : Addr) : Prop where
  T : OexC K C
  g : mg x = some (.ref C)
  ex : ∃ fI fd ps, PySem.W.findIn K (.ref C) "__init__" = some (some (.ref fI)) ∧ PySem.W.typeIn K (.ref fI) = some (.type "function") ∧ FnOk P w K mg base CX0 k fI fd ps (spErr C f) ∧ Binds K fd ps []
theorem del_back {H : Hp} {a d : Addr} {o1 o2 o3 o4 : HO} (ha : H a = none) (hd : d ≠ a) : upd (del (upd (upd (upd H a o1) d o2) a o3) a) d o4 = upd H d o4 := by
  funext b
  by_cases h1 : b = d
  · rw [h1, upd_same, upd_same]
  · rw [upd_ne h1, upd_ne h1]
    by_cases h2 : b = a
    · rw [h2, del_same, ha]
    · rw [del_ne h2, upd_ne h2, upd_ne h1, upd_ne h2]
theorem ps_rsI {X : Cx} {x f : Str} {k : Nat} {C : Addr} {E : XK} {e : Expr} {te : TE} {p pos pos2 : Pos} (hc : X.calm = true) (tk : L2N.Takes X (fun cls d _ H => E cls d H)) (T : ExI X.prog X.w X.K X.mg X.base x f k C) (hr : Room (k + 1) X.A) (hg : Gl X x) (he : PE X e te)
    (hdb : (x == ("__debug__" : Str)) = false := by decide) (hs : starEach [e] X.env = (false, eval e X.env) :: starEach [] X.env := by rfl) (hpl : (backTo pos (starEach [] X.env)).any (·.1) = false := by rfl) :
    PS X (.Raise (some (.Call (.Name x p) [e] [] pos)) none pos2) (tRsI C f E te) := by
  obtain ⟨fI, fd, ps, iC, tI, F1, hb⟩ := T.ex
  have pm : L2N.PMk X (.Call (.Name x p) [e] [] pos) (tMkO C (spErr C f) [] (tCons te tNil)) := pmk_oexN T.T iC tI F1 hr hb .nil (fun _ _ _ _ _ _ _ h => h.elim) hg T.g (pa_cons he pa_nil hs) hdb hs hpl
  exact L2N.ps_raise hc tk pm
theorem rsK {C : Addr} {f : Str} {E : XK} {v : V} {H1 : Hp} (hq : ∀ d, H1 d = none → E (.ref C) (some d) (upd H1 d (.xd [(f, v)]))) : RsK C f E v H1 := by
  refine ⟨by simp, fun a ha => ⟨a, v, rfl, upd_same, fun dx hdx hne => ⟨rfl, dx, [(f, v)], upd_same, ?_, ?_, ?_⟩⟩⟩
  · rw [upd_ne hne, upd_same]
  · rw [upd_ne hne] at hdx; exact hdx
  · rw [del_back ha hne]
    rw [upd_ne hne] at hdx
    exact hq dx hdx
theorem hot_suite {X : Cx} {a : Addr} {oe : Obj} {pn : List (Addr × Obj)} {cls : Value} {d : Option Addr} (hz : L2N.Zn cls d oe) (hf : ∃ vs, oe.data = .fields vs) : Hot1 (X.suite a ((a, oe) :: pn)).A (a, oe) := by
  obtain ⟨vs, hv⟩ := hf
  exact ⟨rfl, vs, hv, hz.2.2 vs hv⟩
theorem room_suite {X : Cx} {k : Nat} {a : Addr} {pn : List (Addr × Obj)} (r : Room k X.A) : RoomH k (X.suite a pn).A := ⟨r.dp, r.un⟩
end HX

/-! Own checks of the head; an own __len__, an own __eq__; the refusals; what a deed tells. -/
namespace HX
open PySem PySem.Spec PyProof.Rows L2 L2H HotX Dry

/-! ### the head with checks of one's own -/
def obsX (fa : List He.Fa) (fn : List He.FnD) (ta : List (Str × List He.Dv)) (xl : List (PySem.W.Frag → Bool)) (K : PySem.W.Frag) : He.Al := let o := obsT fa fn ta K; (o.1 && xl.all (fun f => f K), o.2)
def SaysX (fa : List He.Fa) (fn : List He.FnD) (ta : List (Str × List He.Dv)) (xl : List (PySem.W.Frag → Bool)) (K : PySem.W.Frag) : Prop := obsX fa fn ta xl K = He.valE fn
def obsXG (n : Nat) (fa : List He.Fa) (fn : List He.FnD) (ta : List (Str × List He.Dv)) (xl : List (PySem.W.Frag → Bool)) (g : Addr → Option Obj) : He.Al := obsX fa fn ta xl (He.frG g (cStatics :: He.asG g n))
def hookX (n : Nat) (fa : List He.Fa) (fn : List He.FnD) (ta : List (Str × List He.Dv)) (xl : List (PySem.W.Frag → Bool)) : PySem.W.Hook where
  α := He.Al
  obs := fun s => obsXG n fa fn ta xl s.heap.get?
  val := fun _ => He.valE fn
  says := fun _ h => ∃ K : PySem.W.Frag, K.In h ∧ SaysX fa fn ta xl K
  of := fun _ _ e => ⟨_, He.frG_in, e⟩
  keeps := fun _ _ _ ⟨K, hK, c⟩ k => ⟨K, PySem.W.Frag.In.keeps hK k, c⟩
theorem obsXG_eq {n : Nat} {fa : List He.Fa} {fn : List He.FnD} {ta : List (Str × List He.Dv)} {xl : List (PySem.W.Frag → Bool)} {g : Addr → Option Obj} {s : Shared} (h : ∀ a, g a = s.heap.get? a) : obsXG n fa fn ta xl g = (hookX n fa fn ta xl).obs s := by
  have e : g = s.heap.get? := funext h
  rw [e] <;> rfl
theorem SaysX.both {fa : List He.Fa} {fn : List He.FnD} {ta : List (Str × List He.Dv)} {xl : List (PySem.W.Frag → Bool)} {K : PySem.W.Frag} (c : SaysX fa fn ta xl K) : SaysT fa fn ta K ∧ xl.all (fun f => f K) = true := by
  have h1 : ((obsT fa fn ta K).1 && xl.all (fun f => f K)) = true := congrArg (fun z : He.Al => z.1) c
  have h2 : (obsT fa fn ta K).2 = fn.map He.FnD.val := congrArg (fun z : He.Al => z.2) c
  obtain ⟨a, b⟩ := He.ba h1
  exact ⟨Prod.ext a h2, b⟩
theorem SaysX.at_ {fa : List He.Fa} {fn : List He.FnD} {ta : List (Str × List He.Dv)} {xl : List (PySem.W.Frag → Bool)} {K : PySem.W.Frag} (c : SaysX fa fn ta xl K) (i : Nat) {f : PySem.W.Frag → Bool} (h : xl[i]? = some f) : f K = true :=
  List.all_eq_true.mp c.both.2 f (List.mem_of_getElem? h)

/-! ### the refusals -/
def ern : List Str := ["Lacks", "NoCarried", "NoDay", "NoStarts", "NothingLeft", "NoWanted", "Over", "Soaked"]
def ern6 : List Str := ["NoCarried", "NoDay", "NoStarts", "NothingLeft", "NoWanted", "Over"]
def fldOf (w : Str) : Str := if w = "Soaked" then "walk" else "place"
def gE (K : PySem.W.Frag) (w : Str) : Addr := He.ga K w
def oexB (K : PySem.W.Frag) (C : Addr) : Bool := (match K.lookup C with
  | some ⟨.type "type", _, .cls cd, sl⟩ => (match cd.mro, sl.toList with
    | .ref C' :: bm, [_, _, _, _, some (.builtin n), _] => C' == C && (n == "ValueError.__new__" && (!cd.hasDel && (cd.hasDict && PySem.HandSPX.refsVE bm)))
    | _, _ => false)
  | _ => false) && (decide (PySem.W.findIn K (.ref C) "__setattr__" = some (some (.builtin "object.__setattr__"))) && (decide (PySem.W.subIn K (.ref C) (.type "BaseException") = some true) && (decide (PySem.W.typeIn K (.ref C) = some (.type "type")) && PySem.W.keepIn K (.ref C))))
theorem oexB_ok {K : PySem.W.Frag} {C : Addr} (h : oexB K C = true) : OexC K C := by
  unfold oexB at h
  obtain ⟨q, h⟩ := He.ba h
  obtain ⟨h1, h⟩ := He.ba h
  obtain ⟨h2, h⟩ := He.ba h
  obtain ⟨h3, h4⟩ := He.ba h
  refine ⟨?_, of_decide_eq_true h1, of_decide_eq_true h2, of_decide_eq_true h3, h4⟩
  split at q
  · rename_i dd cd sl ho
    split at q
    · rename_i C' bm k0 k1 k2 k3 n k5 hm hs
      simp only [Bool.and_eq_true, beq_iff_eq, Bool.not_eq_true'] at q
      obtain ⟨rfl, rfl, hdel, hdct, ht⟩ := q
      obtain ⟨nm, bs, mro, ns, qn, hd, sn, sub, ab, col, del⟩ := cd
      dsimp only at hm hdel hdct
      subst hm hdel hdct
      have hsl : sl = #[k0, k1, k2, k3, some (.builtin "ValueError.__new__"), k5] := by
        obtain ⟨l⟩ := sl
        simp only at hs
        rw [hs]
      subst hsl
      exact ⟨nm, qn, ns, bs, bm, sn, sub, ab, col, dd, k0, k1, k2, k3, k5, ho, ht⟩
    · cases q
  · cases q
def excB (K : PySem.W.Frag) (D : Addr) : Bool :=
  decide (PySem.W.findIn K (.ref D) "__getattribute__" = some (some (.builtin "BaseException.__getattribute__"))) && (decide (PySem.W.findIn K (.ref D) "__getattr__" = some none) && (decide (PySem.W.subIn K (.ref D) (.type "BaseException") = some true) && (PySem.W.hasDictIn K D &&
  (decide (PySem.W.findIn K (.ref D) "__class__" = some (some (.builtin "object.__class__"))) && (decide (PySem.W.specialIn K (.builtin "object.__class__") "__get__" = some (some (.builtin "getset_descriptor.__get__"))) && (decide (PySem.W.takesIn K (.builtin "object.__class__") = some true) && decide (PySem.W.mroIn K D (.type "object") = some true)))))))
theorem excB_ok {K : PySem.W.Frag} {D : Addr} (h : excB K D = true) : ExcC K D := by
  unfold excB at h
  obtain ⟨h1, h⟩ := He.ba h
  obtain ⟨h2, h⟩ := He.ba h
  obtain ⟨h3, h⟩ := He.ba h
  obtain ⟨h4, h⟩ := He.ba h
  obtain ⟨h5, h⟩ := He.ba h
  obtain ⟨h6, h⟩ := He.ba h
  obtain ⟨h7, h8⟩ := He.ba h
  exact ⟨of_decide_eq_true h1, of_decide_eq_true h2, of_decide_eq_true h3, h4, of_decide_eq_true h5, of_decide_eq_true h6, of_decide_eq_true h7, of_decide_eq_true h8⟩
def xcB (K : PySem.W.Frag) (D : Addr) : Bool := PySem.W.excIn K D He.veBase "ValueError.__new__" && (PySem.W.keepIn K (.ref D) && (decide (PySem.W.subIn K (.ref D) (.type "BaseException") = some true) && decide (PySem.W.typeIn K (.ref D) = some (.type "type"))))
/-- the checks of the head -/
def ckGlo (K : PySem.W.Frag) : Bool := (("WalkError" : Str) :: ern).all fun w => (He.Fa.glo w).ok K
def ckExm (K : PySem.W.Frag) : Bool := ern.all fun w => decide (PySem.W.exmOne K (.ref (gE K w)) (.ref (gE K "WalkError")) = some true)
def ckKit (K : PySem.W.Frag) : Bool := ern.all fun w => ern.all fun v => decide (PySem.W.kitOne K (.ref (gE K w)) (.ref (gE K v)) = some (decide (w = v)))
def ckExc (K : PySem.W.Frag) : Bool := ern.all fun w => excB K (gE K w)
def ckSix (K : PySem.W.Frag) : Bool := ern6.all fun w => xcB K (gE K w)
def ckTwo (K : PySem.W.Frag) : Bool := (["Soaked", "Lacks"] : List Str).all fun w => oexB K (gE K w) && (decide (PySem.W.findIn K (.ref (gE K w)) (fldOf w) = some none) && (decide (PySem.W.findIn K (.ref (gE K w)) "__init__" = some (some (.ref (He.ma K (gE K w) "__init__")))) && decide (PySem.W.typeIn K (.ref (He.ma K (gE K w) "__init__")) = some (.type "function"))))
def ckWe (K : PySem.W.Frag) : Bool := decide (PySem.W.specialIn K (.ref (gE K "WalkError")) "__getattribute__" = some (some (.builtin "type.__getattribute__"))) && (PySem.W.readsIn K (gE K "WalkError") (.type "type") && (match PySem.W.findCls K (.ref (gE K "WalkError")) (.type "type") "__init__" with
  | some (.val (.builtin n)) => decide (n = "ValueError.__init__")
  | _ => false))
/-- of the class with the own ==: isinstance(.., C), == of a tuple -/
def ckHou (K : PySem.W.Frag) : Bool := decide (PySem.W.kitOne K (.ref (gE K "House")) (.ref (gE K "House")) = some true) && (decide (PySem.W.kitOne K (.type "tuple") (.ref (gE K "House")) = some false) && (PySem.W.notFirst K (gE K "House") (.type "tuple") &&
  (decide (PySem.W.findIn K (.ref (gE K "House")) "__class__" = some (some (.builtin "object.__class__"))) && (decide (PySem.W.specialIn K (.builtin "object.__class__") "__get__" = some (some (.builtin "getset_descriptor.__get__"))) && (decide (PySem.W.takesIn K (.builtin "object.__class__") = some true) && decide (PySem.W.mroIn K (gE K "House") (.type "object") = some true))))))
structure Ers (K : PySem.W.Frag) (mg : Str → Option Value) : Prop where
  glo : ∀ w ∈ ern, mg w = some (.ref (gE K w))
  weg : mg "WalkError" = some (.ref (gE K "WalkError"))
  exm : ∀ w ∈ ern, PySem.W.exmOne K (.ref (gE K w)) (.ref (gE K "WalkError")) = some true
  kit : ∀ w ∈ ern, ∀ v ∈ ern, PySem.W.kitOne K (.ref (gE K w)) (.ref (gE K v)) = some (decide (w = v))
  exc : ∀ w ∈ ern, ExcC K (gE K w)
  six : ∀ w ∈ ern6, ExC K mg w (gE K w)
  oex : ∀ w ∈ (["Soaked", "Lacks"] : List Str), OexC K (gE K w)
  fld : ∀ w ∈ (["Soaked", "Lacks"] : List Str), PySem.W.findIn K (.ref (gE K w)) (fldOf w) = some none
  ini : ∀ w ∈ (["Soaked", "Lacks"] : List Str), PySem.W.findIn K (.ref (gE K w)) "__init__" = some (some (.ref (He.ma K (gE K w) "__init__")))
  fni : ∀ w ∈ (["Soaked", "Lacks"] : List Str), PySem.W.typeIn K (.ref (He.ma K (gE K w) "__init__")) = some (.type "function")
  wsp : PySem.W.specialIn K (.ref (gE K "WalkError")) "__getattribute__" = some (some (.builtin "type.__getattribute__"))
  wrd : PySem.W.readsIn K (gE K "WalkError") (.type "type") = true
  wfi : PySem.W.findCls K (.ref (gE K "WalkError")) (.type "type") "__init__" = some (.val (.builtin "ValueError.__init__"))
theorem Ers.xf {K : PySem.W.Frag} {mg : Str → Option Value} (E : Ers K mg) {w : Str} (h : w ∈ ern) : XfC K (gE K w) := let c := E.exc w h; ⟨c.hg, c.hk, c.hs, c.hd⟩
theorem ern6_ern {w : Str} (h : w ∈ ern6) : w ∈ ern := by
  simp only [ern6, List.mem_cons, List.not_mem_nil, or_false] at h
  simp only [ern, List.mem_cons, List.not_mem_nil, or_false]
  rcases h with h | h | h | h | h | h <;> simp [h]
theorem ers_of {K : PySem.W.Frag} {h : Heap} {mg : Str → Option Value} (X : K.In h) (G : h.Ns mainGlobals mg) (c1 : ckGlo K = true) (c2 : ckExm K = true) (c3 : ckKit K = true) (c4 : ckExc K = true) (c5 : ckSix K = true) (c6 : ckTwo K = true) (c7 : ckWe K = true) : Ers K mg := by
  have g : ∀ w ∈ ("WalkError" : Str) :: ern, mg w = some (.ref (gE K w)) := fun w hw => He.glo_ok X G (List.all_eq_true.mp c1 w hw)
  have two : ∀ w ∈ (["Soaked", "Lacks"] : List Str), oexB K (gE K w) = true ∧ PySem.W.findIn K (.ref (gE K w)) (fldOf w) = some none ∧ PySem.W.findIn K (.ref (gE K w)) "__init__" = some (some (.ref (He.ma K (gE K w) "__init__"))) ∧ PySem.W.typeIn K (.ref (He.ma K (gE K w) "__init__")) = some (.type "function") := fun w hw => by
    obtain ⟨a, b⟩ := He.ba (List.all_eq_true.mp c6 w hw)
    obtain ⟨b, c⟩ := He.ba b
    obtain ⟨c, d⟩ := He.ba c
    exact ⟨a, of_decide_eq_true b, of_decide_eq_true c, of_decide_eq_true d⟩
  obtain ⟨w1, w2⟩ := He.ba c7
  obtain ⟨w2, w3⟩ := He.ba w2
  refine ⟨fun w hw => g w (List.mem_cons_of_mem _ hw), g _ List.mem_cons_self, fun w hw => of_decide_eq_true (List.all_eq_true.mp c2 w hw), fun w hw v hv => of_decide_eq_true (List.all_eq_true.mp (List.all_eq_true.mp c3 w hw) v hv), fun w hw => excB_ok (List.all_eq_true.mp c4 w hw), fun w hw => ?_,
    fun w hw => oexB_ok (two w hw).1, fun w hw => (two w hw).2.1, fun w hw => (two w hw).2.2.1, fun w hw => (two w hw).2.2.2, of_decide_eq_true w1, w2, ?_⟩
  · obtain ⟨a, b⟩ := He.ba (List.all_eq_true.mp c5 w hw)
    obtain ⟨b, c⟩ := He.ba b
    obtain ⟨c, d⟩ := He.ba c
    exact ⟨a, g w (List.mem_cons_of_mem _ (ern6_ern hw)), b, of_decide_eq_true c, of_decide_eq_true d⟩
  · split at w3
    · rename_i n e
      rw [e, of_decide_eq_true w3]
    · cases w3
structure HouC (K : PySem.W.Frag) (C : Addr) : Prop where
  self : PySem.W.kitOne K (.ref C) (.ref C) = some true
  tup : PySem.W.kitOne K (.type "tuple") (.ref C) = some false
  nf : PySem.W.notFirst K C (.type "tuple") = true
  ha : PySem.W.findIn K (.ref C) "__class__" = some (some (.builtin "object.__class__"))
  hn : PySem.W.specialIn K (.builtin "object.__class__") "__get__" = some (some (.builtin "getset_descriptor.__get__"))
  ht : PySem.W.takesIn K (.builtin "object.__class__") = some true
  hm : PySem.W.mroIn K C (.type "object") = some true
theorem houC_of {K : PySem.W.Frag} (c : ckHou K = true) : HouC K (gE K "House") := by
  obtain ⟨a, b⟩ := He.ba c
  obtain ⟨b, d⟩ := He.ba b
  obtain ⟨d, e⟩ := He.ba d
  obtain ⟨e, f⟩ := He.ba e
  obtain ⟨f, g⟩ := He.ba f
  obtain ⟨g, h⟩ := He.ba g
  exact ⟨of_decide_eq_true a, of_decide_eq_true b, d, of_decide_eq_true e, of_decide_eq_true f, of_decide_eq_true g, of_decide_eq_true h⟩

/-! ### len(x), x == y by the text's own __len__, __eq__ -/
section
variable {X : Cx} {C : Addr} {k : Nat} {ps : List Str} {sp : Sp}
theorem run_at {f : Addr} {fd : FuncData} {A : Around} {pins : List (Addr × Obj)} {σ : L2.St} {H : Hp} {s : Shared} {Q : VK} {us : List Value} {vs : List V} (F : FnOk X.prog X.w X.K X.mg X.base CX0 k f fd ps sp) (hb : Binds X.K fd ps []) (sb : Sub X k A) (I : Inv X pins σ H s) (r : Vals vs us) (h : sp vs H Q E0) :
    wpAny (model X.prog X.w) A (call (.ref f) us) (EP X pins σ Q) X.xe s := by
  have e0 : Env0 X.prog X.w X.K X.mg X.base A X.stack s H := by
    have e := I.env0
    exact ⟨by rw [sb.fr]; exact e.frames, e.mod, e.bs, e.bsz, e.funs, e.frf, e.hok, e.bare⟩
  have hl : us.length = ps.length := by rw [← r.length]; exact F.len _ _ _ _ h
  have b := hb s us I.kIn (by rw [List.append_nil]; exact hl)
  rw [List.append_nil] at b
  refine wpAny_call (codeAny_mono (F.run A X.stack s H ⟨us, []⟩ us vs Q E0 sb.room e0 b r h) fun r s' hq => ?_)
  cases r with
  | error e => exact hq.elim
  | ok fl =>
    cases fl with
    | ret u => exact I.after hq
    | next => exact False.elim hq
    | brk => exact False.elim hq
    | cont => exact False.elim hq
def rLenO (C : Addr) (sp : Sp) : List V → Hp → VK → Prop := fun xs H Q => ∃ a dx fs, xs = [.ref a] ∧ H a = some (.ins C dx fs) ∧ sp [.ref a] H (fun v H' => ∃ n : Int, v = .int n ∧ 0 ≤ n ∧ n < 2 ^ 63 ∧ Q (.int n) H') E0
theorem call_lenO (D : Mf X.prog X.w X.K X.mg X.base C "__len__" k ps sp) (hr : Room (k + 1) X.A) : CallR X (.builtin "len") (rLenO C sp) := by
  intro pins s σ H xs us Q I r h
  obtain ⟨f, fd, F, hm, hb⟩ := D.ex
  obtain ⟨m1, m2, m3⟩ := id hm
  obtain ⟨a, dx, fs, rfl, ha, h⟩ := h
  obtain ⟨u, rfl, ru⟩ := vals1 r
  obtain rfl : u = Value.ref a := ru
  obtain ⟨mA, J, _⟩ := ins_get I.hok ha
  obtain ⟨od, J, _⟩ := J.look
  obtain ⟨m, hF⟩ := I.fr
  refine PySem.W.len_K hF I.ok.mod.kin J m1 m2 (wpAny_mono (run_at (vs := [.ref a]) F hb ⟨hr.in1, rfl⟩ I (.cons rfl .nil) h) (fun r s' z => ?_) fun _ _ x => x)
  obtain ⟨v, H', I', rv, n, rfl, h0, h1, q⟩ := z
  obtain ⟨t, rfl⟩ := rv
  exact ⟨⟨h0, h1⟩, .int n, H', I'.tok _, ⟨_, rfl⟩, q⟩
/-- what may stand on the right -/
inductive RhO (K : PySem.W.Frag) (C : Addr) (H : Hp) : V → Value → Prop
  | ins {b dy : Addr} {gs : List (Str × V)} (h : H b = some (.ins C dy gs)) : RhO K C H (.ref b) (.ref C)
  | tup {b : Addr} {xs : List V} (h : SqT K H b xs) : RhO K C H (.ref b) (.type "tuple")
def rEqO (K : PySem.W.Frag) (C : Addr) (sp : Sp) : R2 := fun x y H Q => ∃ a dx fs tb, x = .ref a ∧ H a = some (.ins C dx fs) ∧ RhO K C H y tb ∧ sp [x, y] H (fun v H' => ∃ b, v = .bl b ∧ Q (.bl b) H') E0
theorem op_eqO (D : Mf X.prog X.w X.K X.mg X.base C "__eq__" k ps sp) (T : HouC X.K C) (hr : Room k X.A) : OpR X (compareOp .Eq) (rEqO X.K C sp) := by
  intro pins s σ H x y v u Q I rx ry hq
  obtain ⟨f, fd, F, hm, hb⟩ := D.ex
  obtain ⟨m1, m2, m3⟩ := id hm
  obtain ⟨a, dx, fs, tb, rfl, ha, hy, h⟩ := hq
  cases rx
  show wpAny (model X.prog X.w) X.A (richCompare .Eq (.ref a) u) (EP X pins σ Q) X.xe s
  obtain ⟨mA, J, _⟩ := ins_get I.hok ha
  obtain ⟨od, J, _⟩ := J.look
  obtain ⟨m, hF⟩ := I.fr
  have fin : ∀ {tb : Value}, PySem.W.Looks (model X.prog X.w) s.heap (typeOf u) tb → PySem.W.notFirst X.K C tb = true → wpAny (model X.prog X.w) X.A (richCompare .Eq (.ref a) u) (EP X pins σ Q) X.xe s := fun {tb} hl hn => by
    refine PySem.W.cmp_K (op := .Eq) (tb := tb) hr.units0 hF I.ok.mod.kin J hl hn m1 m2 (wpAny_mono (run_at (vs := [.ref a, y]) F hb ⟨hr, rfl⟩ I (.cons rfl (.cons ry .nil)) h) (fun r s' z => ?_) fun _ _ x => x)
    obtain ⟨v, H', I', rv, b, rfl, q⟩ := z
    cases rv
    exact ⟨.bl b, H', I', rfl, q⟩
  cases hy with
  | @ins b dy gs hb' =>
    cases ry
    obtain ⟨mB, J', _⟩ := ins_get I.hok hb'
    obtain ⟨od', J', _⟩ := J'.look
    exact fin J'.type (by simp [PySem.W.notFirst])
  | @tup b xs hb' =>
    cases ry
    obtain ⟨its, r, ⟨o, e, hc, n, hd⟩, z⟩ := I.tuple hb'
    exact fin (fun A Q E s k q => wpAny_typeOf_ref (k _ _ e) (by rw [hc]; exact q)) T.nf
end
end HX

/-! What a deed at a house tells, and what it leaves. -/
namespace HX
open PySem PySem.Spec PyProof.Rows L2 Dry

/-! ### the walks of an hour with their numbers -/
def hwN (d : Day) (t : Nat) : List (Nat × Wk) := (enumF 0 d.ws).filter fun p => decide (p.2.h = t)
theorem enum_snd : ∀ (ws : List Wk) (n : Nat), (enumF n ws).map (·.2) = ws
  | [], _ => rfl
  | w :: ws, n => by
    show w :: (enumF (n + 1) ws).map (·.2) = _
    rw [enum_snd ws]
theorem hwN_snd (d : Day) (t : Nat) : (hwN d t).map (·.2) = hw d t := by
  unfold hwN hw
  conv => rhs; rw [← enum_snd d.ws 0]
  rw [List.filter_map]
  rfl
theorem hwN_le (d : Day) (t : Nat) : (hwN d t).length ≤ d.ws.length := by
  unfold hwN
  refine Nat.le_trans (List.length_filter_le _ _) ?_
  rw [enumF_length]
  exact Nat.le_refl _
def PrsAt (K : PySem.W.Frag) (H : Hp) (zs : List V) (us : List (Nat × Wk)) : Prop := zs.length = us.length ∧ ∀ (i n : Nat) (w : Wk), us[i]? = some (n, w) → ∃ t x : Addr, zs[i]? = some (V.ref t) ∧ SqT K H t [.int (n : Int), .ref x] ∧ SqT K H x (wkV w)
section
variable {K : PySem.W.Frag}
theorem PrsAt.tx {H H' : Hp} {zs : List V} {us : List (Nat × Wk)} (e : Tx H H') (h : PrsAt K H zs us) : PrsAt K H' zs us :=
  ⟨h.1, fun i n w hi => let ⟨t, x, h1, h2, h3⟩ := h.2 i n w hi; ⟨t, x, h1, e.tup h2, e.tup h3⟩⟩
theorem PrsAt.nil {H : Hp} : PrsAt K H [] [] := ⟨rfl, fun i n w h => by simp at h⟩
theorem PrsAt.snoc {H : Hp} {zs : List V} {us : List (Nat × Wk)} {t x : Addr} {n : Nat} {w : Wk} (h : PrsAt K H zs us) (h1 : SqT K H t [.int (n : Int), .ref x]) (h2 : SqT K H x (wkV w)) : PrsAt K H (zs ++ [V.ref t]) (us ++ [(n, w)]) := by
  refine ⟨by simp [h.1], fun i m v hv => ?_⟩
  by_cases hi : i < us.length
  · rw [List.getElem?_append_left hi] at hv
    rw [List.getElem?_append_left (by rw [h.1]; exact hi)]
    exact h.2 i m v hv
  · have hi2 : i = us.length := by
      have := (List.getElem?_eq_some_iff.mp hv).1
      simp at this
      omega
    subst hi2
    rw [List.getElem?_append_right (Nat.le_refl _), Nat.sub_self] at hv
    have e : (n, w) = (m, v) := by simpa using hv
    injection e with e1 e2
    subst e1 e2
    refine ⟨t, x, ?_, h1, h2⟩
    rw [← h.1, List.getElem?_append_right (Nat.le_refl _), Nat.sub_self]
    rfl
theorem PrsAt.get {H : Hp} {zs : List V} {us : List (Nat × Wk)} (h : PrsAt K H zs us) {i : Nat} {y : V} (hy : zs[i]? = some y) : ∃ n w t x, us[i]? = some (n, w) ∧ y = .ref t ∧ SqT K H t [.int (n : Int), .ref x] ∧ SqT K H x (wkV w) := by
  have hi : i < us.length := by rw [← h.1]; exact (List.getElem?_eq_some_iff.mp hy).1
  have hu : us[i]? = some us[i] := List.getElem?_eq_getElem hi
  obtain ⟨t, x, h1, h2, h3⟩ := h.2 i us[i].1 us[i].2 hu
  rw [hy] at h1
  exact ⟨_, _, t, x, hu, Option.some.inj h1, h2, h3⟩
theorem refs_init {H : Hp} {rs : List V} {us : List (List V)} {u : List V} (h : Refs true K H rs (us ++ [u])) : Refs true K H rs.dropLast us := by
  have hl := h.len
  rw [List.length_append, List.length_singleton] at hl
  refine ⟨by rw [List.length_dropLast]; omega, fun i v hv => ?_⟩
  have hi := (List.getElem?_eq_some_iff.mp hv).1
  obtain ⟨x, h1, h2⟩ := h.at_ i v (by rw [List.getElem?_append_left hi]; exact hv)
  exact ⟨x, by rw [List.getElem?_dropLast, if_pos (by omega)]; exact h1, h2⟩
end
theorem come_nn : ∀ (ps : List (Wk × Int)) (l : List Int), (∀ p, 0 ≤ l.getD p 0) → (∀ q ∈ ps, 0 ≤ q.2) → ∀ p, 0 ≤ (ps.foldl come1 l).getD p 0
  | [], _, h, _, p => h p
  | q :: ps, l, h, hq, p => by
    rw [List.foldl_cons]
    refine come_nn ps _ (fun r => ?_) (fun z hz => hq z (by simp [hz])) p
    have h0 := hq q (by simp)
    have hr := h r
    unfold come1
    by_cases hb : q.1.e < l.length
    · rw [addAt_getD _ _ _ _ hb]
      split <;> omega
    · unfold addAt
      rw [List.set_eq_of_length_le (by omega)]
      exact hr

/-! ### answers -/
inductive Ans where
  | word (s : Str)
  | pair (s : Str) (n : Nat)
  | tup (l : List Int)
  | bl (b : Bool)
  | non
inductive Deed where
  | hour (o : Option (List V))
  | back
  | ask (o : Option (List V))
def okq (q : (Nat × Wk) × V) : Bool := isFromV q.2 0 (q.1.2.r : Int)
def okC (us : List (Nat × Wk)) (xs : List V) : Bool := (us.zip xs).all okq
def skq (q : (Nat × Wk) × Int) : Bool := q.1.2.wet && decide (q.2 = 0)
def soaks (us : List (Nat × Wk)) (cs : List Int) : List Nat := ((us.zip cs).filter skq).map (·.1.1)
def lkq (l : List Int) (p : Nat) : Bool := decide (l.getD p 0 < 0)
def lacksL (l : List Int) : List Nat := (List.range l.length).filter (lkq l)
def hourA (d : Day) (t : Nat) (R : List Int) (o : Option (List V)) : Ans :=
  if t = d.T then .word "Over" else
  match o with
  | none => .word "NoCarried"
  | some xs => if xs.length = (hwN d t).length ∧ okC (hwN d t) xs = true then
      match soaks (hwN d t) (xs.map intV) with
      | n :: _ => .pair "Soaked" n
      | [] => match lacksL (leaveH d t R (xs.map intV)) with
        | p :: _ => .pair "Lacks" p
        | [] => .tup (hourH d t R (xs.map intV))
    else .word "NoCarried"
def askA (d : Day) (t : Nat) (R : List Int) (o : Option (List V)) : Ans :=
  match o with
  | none => .word "NoWanted"
  | some xs => if xs.length = d.P ∧ xs.all (fun x => isFromV x 0 20) = true then .bl (stayB d t R (xs.map intV)) else .word "NoWanted"
def ansOf (d : Day) (Rs Cs : List (List Int)) : Deed → Ans
  | .hour o => hourA d Cs.length (lastR Rs) o
  | .back => if Cs = [] then .word "NothingLeft" else .non
  | .ask o => askA d Cs.length (lastR Rs) o
def stepR (d : Day) (Rs Cs : List (List Int)) : Deed → List (List Int)
  | .hour o => match hourA d Cs.length (lastR Rs) o with
    | .tup new => Rs ++ [new]
    | _ => Rs
  | .back => if Cs = [] then Rs else Rs.dropLast
  | .ask _ => Rs
def csOf : Option (List V) → List Int
  | some xs => xs.map intV
  | none => []
def stepC (d : Day) (Rs Cs : List (List Int)) : Deed → List (List Int)
  | .hour o => match hourA d Cs.length (lastR Rs) o with
    | .tup _ => Cs ++ [csOf o]
    | _ => Cs
  | .back => if Cs = [] then Cs else Cs.dropLast
  | .ask _ => Cs
def AnsAt (K : PySem.W.Frag) (H : Hp) (x : V) : Ans → Prop
  | .word s => x = .str s
  | .pair s n => ∃ t, x = .ref t ∧ SqT K H t [.str s, .int (n : Int)]
  | .tup l => ∃ t, x = .ref t ∧ SqT K H t (vI l)
  | .bl b => x = .bl b
  | .non => x = .non
theorem AnsAt.tx {K : PySem.W.Frag} {H H' : Hp} {x : V} {a : Ans} (e : Tx H H') (h : AnsAt K H x a) : AnsAt K H' x a := by
  cases a with
  | pair s n => obtain ⟨t, h1, h2⟩ := h; exact ⟨t, h1, e.tup h2⟩
  | tup l => obtain ⟨t, h1, h2⟩ := h; exact ⟨t, h1, e.tup h2⟩
  | _ => exact h
def DeedAt (K : PySem.W.Frag) (H : Hp) (a : Addr) : Deed → Prop
  | .hour o => ∃ v, SqT K H a [.str "hour", v] ∧ TV K H v o
  | .back => SqT K H a [.str "back"]
  | .ask o => ∃ v, SqT K H a [.str "ask", v] ∧ TV K H v o
theorem DeedAt.kp {K : PySem.W.Frag} {H H' : Hp} {a : Addr} {d : Deed} (e : Kp H H') (h : DeedAt K H a d) : DeedAt K H' a d := by
  cases d with
  | hour o => obtain ⟨v, h1, h2⟩ := h; exact ⟨v, e.tx.tup h1, h2.kp e⟩
  | back => exact e.tx.tup h
  | ask o => obtain ⟨v, h1, h2⟩ := h; exact ⟨v, e.tx.tup h1, h2.kp e⟩
def ansD : Ans → PyData
  | .word s => .str s
  | .pair s n => .tuple [.str s, .int (n : Int)]
  | .tup l => .tuple (l.map PyData.int)
  | .bl b => .bool b
  | .non => .none
def AnsOk : Ans → Prop
  | .word s => s ∈ ern
  | .pair s _ => s ∈ ern
  | _ => True
theorem ern_ok : ∀ s ∈ ern, PyData.strOk s = true := by decide +kernel
theorem ansD_sh {a : Ans} (h : AnsOk a) : SeqAt.shaped (ansD a) = true := by
  cases a with
  | word s => show (PyData.canLay0 _ && decide (PyData.depth _ ≤ 64)) = true; simp [ansD, PyData.canLay0, PyData.depth, ern_ok s h]
  | pair s n => show (PyData.canLay0 _ && decide (PyData.depth _ ≤ 64)) = true; simp [ansD, PyData.canLay0, PyData.canLayAll0, PyData.depth, PyData.depthAll, ern_ok s h]
  | tup l => exact tup_shape l
  | bl b => rfl
  | non => rfl
theorem ansD_eq (a : Ans) : PyData.eqv (ansD a) (ansD a) = true := by
  cases a <;> simp [ansD, PyData.eqv, PyData.eqvAll, eqvI]
theorem AnsAt.dp {K : PySem.W.Frag} {H : Hp} {x : V} {a : Ans} (h : AnsAt K H x a) : Dp K H x (ansD a) := by
  cases a with
  | word s => rw [show x = .str s from h]; exact .str s
  | pair s n => obtain ⟨t, rfl, h2⟩ := h; exact .tup h2 (.cons (.str s) (.cons (.int _) .nil))
  | tup l => obtain ⟨t, rfl, h2⟩ := h; exact .tup h2 (dp_ints l)
  | bl b => rw [show x = .bl b from h]; exact .bl b
  | non => rw [show x = .non from h]; exact .non
theorem c_neAns {K : PySem.W.Frag} {H : Hp} {Q : VK} {x y : V} {a : Ans} (ok : AnsOk a) (hx : AnsAt K H x a) (hy : AnsAt K H y a) (q : Q (.bl false) H) : rNeD K x y H Q :=
  ⟨_, _, hx.dp, hy.dp, ansD_sh ok, ansD_sh ok, by rw [ansD_eq]; exact q⟩

/-! ### lists -/
theorem filt_head {α : Type} {p : α → Bool} {zs : List α} {j : Nat} {q : α} (hq : zs[j]? = some q) (hp : p q = true) (h : (zs.take j).filter p = []) : ∃ r, zs.filter p = q :: r := by
  have e : zs = zs.take j ++ q :: zs.drop (j + 1) := by
    have := List.take_append_drop j zs
    have hj := (List.getElem?_eq_some_iff.mp hq)
    obtain ⟨hl, he⟩ := hj
    rw [List.drop_eq_getElem_cons hl, he] at this
    exact this.symm
  rw [e, List.filter_append, h, List.filter_cons, if_pos hp]
  exact ⟨_, rfl⟩
theorem filt_next {α : Type} {p : α → Bool} {zs : List α} {j : Nat} {q : α} (hq : zs[j]? = some q) (hp : p q = false) (h : (zs.take j).filter p = []) : (zs.take (j + 1)).filter p = [] := by
  rw [take_succ_get hq, List.filter_append, h]
  simp [hp]
theorem okC_ints {us : List (Nat × Wk)} : ∀ {xs : List V}, xs.length = us.length → okC us xs = true → xs = vI (xs.map intV) := by
  induction us with
  | nil => intro xs hl _; cases xs with | nil => rfl | cons _ _ => simp at hl
  | cons u us ih =>
    intro xs hl h
    cases xs with
    | nil => rfl
    | cons x xs =>
      unfold okC at h
      rw [List.zip_cons_cons, List.all_cons, Bool.and_eq_true] at h
      show x :: xs = V.int (intV x) :: vI (xs.map intV)
      rw [← (isFromV_int (show isFromV x 0 _ = true from h.1)).1, ← ih (by simpa using hl) h.2]
theorem okC_at {us : List (Nat × Wk)} {cs : List Int} (h : okC us (vI cs) = true) {i : Nat} {n : Nat} {w : Wk} {c : Int} (h1 : us[i]? = some (n, w)) (h2 : cs[i]? = some c) : 0 ≤ c ∧ c ≤ (w.r : Int) := by
  have hz := zip_get h1 (vI_get' h2)
  have := List.all_eq_true.mp h _ (List.mem_of_getElem? hz)
  obtain ⟨_, a, b⟩ := isFromV_int (show isFromV (.int c) 0 (w.r : Int) = true from this)
  exact ⟨a, b⟩
theorem lacks_nil {l : List Int} (h : lacksL l = []) (p : Nat) : 0 ≤ l.getD p 0 := by
  by_cases hp : p < l.length
  · have : p ∉ lacksL l := by rw [h]; simp
    unfold lacksL at this
    rw [List.mem_filter] at this
    have h2 : ¬ lkq l p = true := fun z => this ⟨List.mem_range.mpr hp, z⟩
    unfold lkq at h2
    have := of_decide_eq_false (Bool.eq_false_iff.mpr h2)
    omega
  · rw [getD_big (by omega)]; exact Int.le_refl _
/-- an hour that is told -/
theorem hourA_tup {d : Day} {t : Nat} {R new : List Int} {o : Option (List V)} (h : hourA d t R o = .tup new) : t ≠ d.T ∧ ∃ cs, o = some (vI cs) ∧ csOf o = cs ∧ cs.length = (hwN d t).length ∧ okC (hwN d t) (vI cs) = true ∧ soaks (hwN d t) cs = [] ∧ lacksL (leaveH d t R cs) = [] ∧ new = hourH d t R cs := by
  unfold hourA at h
  split at h
  · cases h
  · rename_i ht
    refine ⟨ht, ?_⟩
    split at h
    · cases h
    · rename_i xs
      split at h
      · rename_i hc
        have hx := okC_ints hc.1 hc.2
        split at h
        · cases h
        · rename_i hs
          split at h
          · cases h
          · rename_i hl
            refine ⟨xs.map intV, by rw [← hx], rfl, by rw [List.length_map]; exact hc.1, by rw [← hx]; exact hc.2, hs, hl, ?_⟩
            cases h
            rfl
      · cases h
theorem hourA_of {d : Day} {t : Nat} {R cs : List Int} (h1 : t ≠ d.T) (h2 : cs.length = (hwN d t).length) (h3 : okC (hwN d t) (vI cs) = true) (h4 : soaks (hwN d t) cs = []) (h5 : lacksL (leaveH d t R cs) = []) : hourA d t R (some (vI cs)) = .tup (hourH d t R cs) := by
  unfold hourA
  rw [if_neg h1]
  dsimp only
  rw [if_pos ⟨by rw [List.length_map]; exact h2, h3⟩, vI_intV, h4]
  dsimp only
  rw [h5]
theorem hourA_ok (d : Day) (t : Nat) (R : List Int) (o : Option (List V)) : AnsOk (hourA d t R o) := by
  unfold hourA
  split
  · exact (by decide : ("Over" : Str) ∈ ern)
  · split
    · exact (by decide : ("NoCarried" : Str) ∈ ern)
    · split
      · split
        · exact (by decide : ("Soaked" : Str) ∈ ern)
        · split
          · exact (by decide : ("Lacks" : Str) ∈ ern)
          · trivial
      · exact (by decide : ("NoCarried" : Str) ∈ ern)
theorem askA_ok (d : Day) (t : Nat) (R : List Int) (o : Option (List V)) : AnsOk (askA d t R o) := by
  unfold askA
  split
  · exact (by decide : ("NoWanted" : Str) ∈ ern)
  · split
    · trivial
    · exact (by decide : ("NoWanted" : Str) ∈ ern)
theorem ansOf_ok (d : Day) (Rs Cs : List (List Int)) (e : Deed) : AnsOk (ansOf d Rs Cs e) := by
  cases e with
  | hour o => exact hourA_ok _ _ _ _
  | back =>
    show AnsOk (if Cs = [] then Ans.word "NothingLeft" else Ans.non)
    split
    · exact (by decide : ("NothingLeft" : Str) ∈ ern)
    · trivial
  | ask o => exact askA_ok _ _ _ _
section
variable {d : Day} {t : Nat} {R cs : List Int} {xs : List V}
theorem hourA_over {o : Option (List V)} (h : t = d.T) : hourA d t R o = .word "Over" := if_pos h
theorem hourA_none (h : t ≠ d.T) : hourA d t R none = .word "NoCarried" := if_neg h
theorem hourA_no (h : t ≠ d.T) (hl : ¬ (xs.length = (hwN d t).length ∧ okC (hwN d t) xs = true)) : hourA d t R (some xs) = .word "NoCarried" := by
  unfold hourA
  rw [if_neg h]
  dsimp only
  rw [if_neg hl]
theorem hourA_soak {n : Nat} {r : List Nat} (h1 : t ≠ d.T) (h2 : cs.length = (hwN d t).length) (h3 : okC (hwN d t) (vI cs) = true) (h4 : soaks (hwN d t) cs = n :: r) : hourA d t R (some (vI cs)) = .pair "Soaked" n := by
  unfold hourA
  rw [if_neg h1]
  dsimp only
  rw [if_pos ⟨by rw [List.length_map]; exact h2, h3⟩, vI_intV, h4]
theorem hourA_lack {n : Nat} {r : List Nat} (h1 : t ≠ d.T) (h2 : cs.length = (hwN d t).length) (h3 : okC (hwN d t) (vI cs) = true) (h4 : soaks (hwN d t) cs = []) (h5 : lacksL (leaveH d t R cs) = n :: r) : hourA d t R (some (vI cs)) = .pair "Lacks" n := by
  unfold hourA
  rw [if_neg h1]
  dsimp only
  rw [if_pos ⟨by rw [List.length_map]; exact h2, h3⟩, vI_intV, h4]
  dsimp only
  rw [h5]
end
end HX

/-! While an exception is handled: (a, b) = a tuple. -/
namespace HX
open PySem PySem.Spec PyProof.Rows L2 L2H HotX
section
variable {prog : Program} {w : World} {A : Around} {E : Value → Shared → Prop} {s : Shared}
theorem pyNext_tuple_end_hot {it t x1 : Addr} {i : Nat} {items : Array Value} {Q : Option Value → Shared → Prop} (hot : HotAt A x1 s.heap) (hne : x1 ≠ it)
    (hit : s.heap.IsTupleIter it t i) (ht : s.heap.IsTuple t items) (hx : items[i]? = none)
    (hQ : ∀ h', Heap.ExtBut it s.heap h' → Q none { s with heap := h' }) : wpAny (model prog w) A (pyNext (.ref it)) Q E s := by
  obtain ⟨o, ho, hc, hd⟩ := id hit
  obtain ⟨ol, hol, _, nl, hdl⟩ := ht
  obtain ⟨hh, o1, vs1, h1, d1, c1⟩ := hot
  unfold pyNext
  refine wpAny_bind (wpAny_attempt (wpAny_callSpecial?_slot (name := Str.ofString "__next__") hit.typeIs F.slot_tuple_iterator_next
    (wpAny_call_entry F.slot_tuple_iterator_next hit.typeIs F.entry_tuple_iterator_next ?_ (F.args_tuple_iterator_next_1 _))))
  show wpAny _ _ (field (.ref it) 0 >>= _) _ _ s
  refine wpAny_bind (wpAny_field ho hd (x := .ref t) rfl ?_)
  show wpAny _ _ (if (Value.ref t == Value.none) = true then _ else _) _ _ s
  rw [if_neg (show ¬ ((Value.ref t == Value.none) = true) from Bool.false_ne_true)]
  show wpAny _ _ (field (.ref it) 1 >>= _) _ _ s
  refine wpAny_bind (wpAny_field ho hd (x := .int i 0) rfl ?_)
  show wpAny _ _ (seqItems? (.ref t) >>= _) _ _ s
  refine wpAny_bind (wpAny_seqItems hol hdl ?_)
  simp only [Int.toNat_natCast, hx]
  refine wpAny_bind (wpAny_rule (wpAny_bind (wpAny_setField ho hd (by simp) ?_)))
  show wpAny _ _ (newExc (.type "StopIteration") [] >>= _) _ _ _
  refine wpAny_bind ?_
  simp only [newExc, newTuple]
  refine wpAny_bind (wpAny_newObj_type ?_ (by size_fits))
  refine wpAny_bind (m := firstArgMember _ _) (wpAny_of_eq (a := Value.none) (by first | rfl | (simp only [firstArgMember]; rfl)) ?_)
  refine wpAny_newObj_type ?_ (by size_fits)
  have k1 : (s.heap.update it (Obj.mapFields (·.setIfInBounds 0 .none))).get? x1 = some o1 := by rw [Heap.get?_update_other _ _ hne.symm]; exact h1
  refine raiseNew_hot ⟨hh, o1, vs1, Heap.get?_push_of_some _ (Heap.get?_push_of_some _ k1), d1, c1⟩ (Nat.ne_of_lt (Heap.lt_size (Heap.get?_push_of_some _ k1))) (Heap.get?_push_size _ rfl) rfl (by first | (simp; done) | (simp; omega) | (simp only [Array.size_append]; simp; omega)) ?_
  refine wpAny_bind (wpAny_isInstance (T := "StopIteration") (b := true) ⟨_, Heap.get?_update_self _ (Heap.get?_push_size _ rfl) rfl, rfl⟩ isSubtype_stop ?_)
  refine wpAny_pure (hQ _ fun b ob hb e => ?_)
  have k2 : (s.heap.update it (Obj.mapFields (·.setIfInBounds 0 .none))).get? b = some ob := by rw [Heap.get?_update_other _ _ (Ne.symm hb)]; exact e
  rw [Heap.get?_update_other _ _ (Nat.ne_of_gt (Heap.lt_size (Heap.get?_push_of_some _ k2)))]
  exact Heap.get?_push_of_some _ (Heap.get?_push_of_some _ k2)
theorem unpackItems_tuple_hot {t x1 : Addr} {items : Array Value} {Q : List Value → Shared → Prop} (hot : HotAt A x1 s.heap) (ht : s.heap.IsTuple t items)
    (hQ : ∀ h', Heap.ExtBut s.heap.objs.size s.heap h' → Q items.toList { s with heap := h' }) : wpAny (model prog w) A (unpackItems (.ref t) items.size none) Q E s := by
  have hlt : t ≠ s.heap.objs.size := by obtain ⟨o, ho, _⟩ := ht; exact Nat.ne_of_lt (Heap.lt_size ho)
  have hxs : x1 ≠ s.heap.objs.size := by obtain ⟨_, o, vs, e, _⟩ := hot; exact Nat.ne_of_lt (Heap.lt_size e)
  unfold unpackItems
  refine wpAny_bind ?_
  · unfold notIterableAtAll
    refine wpAny_bind (wpAny_specialOf ht.typeIs F.slot_tuple_iter.lookup ?_)
    refine wpAny_pure ?_
    simp only [Bool.false_eq_true, if_false]
    refine wpAny_bind (wpAny_holding (wpAny_pyIter_tuple ht ?_))
    refine wpAny_bind (wpAny_holding (wpAny_draw_tuple hlt items.size 0 _ _ ⟨_, Heap.get?_push_size _ rfl, rfl, rfl⟩ (ht.push _) (by omega) fun h₁ hit₁ hs₁ => ?_))
    have hall : List.take items.size (List.drop 0 items.toList) = items.toList := by
      rw [List.drop_zero]; exact List.take_of_length_le (by simp)
    rw [hall]
    rw [if_neg (by simp)]
    have ht₁ : h₁.IsTuple t items := (ht.push _).extBut hs₁.extBut hlt
    have hot₁ : HotAt A x1 h₁ := by
      obtain ⟨hh, o, vs, e, d, c⟩ := hot
      exact ⟨hh, o, vs, (hs₁.2 _ hxs).trans (Heap.get?_push_of_some _ e), d, c⟩
    refine wpAny_bind (wpAny_holding (pyNext_tuple_end_hot hot₁ hxs hit₁ ht₁ (by simp) fun h₂ he₂ => ?_))
    simp only [Option.isSome_none, Bool.false_eq_true, if_false]
    refine wpAny_pure (hQ h₂ fun b o hb e => he₂ b o hb (hs₁.extBut b o hb (Heap.get?_push_of_some _ e)))
end
theorem pg_tupH {X : Cx} {es : List Expr} {k : Nat} {t : TGs} {n : Nat} {pos : Pos} (hc : HotC X) (h : PGs X es t)
    (hn : (assignEach es X.env).length = n := by rfl) (hst : (assignEach es X.env).findIdx? (·.1) = none := by rfl) : PG X (.Tuple es k pos) (gTup X.K n t) := by
  refine ⟨fun pins s σ H v u Q I r hw => ?_⟩
  obtain ⟨a, xs, e1, hq, hl, hw⟩ := hw
  subst e1
  cases r
  obtain ⟨its, rv, ⟨o, e, hcl, m, hd⟩, hz⟩ := I.tuple hq
  obtain ⟨x1, hot⟩ := hc.at I
  have ht : s.heap.IsTuple a its.toArray := ⟨o, e, hcl, m, hd⟩
  rw [arm_assign_Tuple]
  refine wpAny_bind (wpAny_standAt ?_)
  unfold unpack
  rw [show (assignEach es X.env).length = its.toArray.size by simp [hn, ← hl, rv.length], hst]
  refine wpAny_bind (wpAny_holding (unpackItems_tuple_hot hot ht fun h' hx => ?_))
  have I1 : Inv X pins σ H { s with heap := h' } := I.kept (t' := s.toks) fun b o e => hx b o (Nat.ne_of_lt (Heap.lt_size e)) e
  exact h.run pins _ σ H xs _ Q I1 (by simpa using rv) hw
theorem hotC_blk {X : Cx} {s : Shared} {H : Hp} {scope : Scope} {cenv : Env} {fp : List Addr} {p : Addr × Obj} (hot : Hot1 X.A p) : HotC (blkP X s H scope cenv fp p) := ⟨p, hot, List.mem_singleton.mpr rfl⟩
end HX

/-! Readings of try, of methods that may raise, of join; what refuses. -/
namespace HX
open PySem PySem.Spec PyProof.Rows L2 L2H HotX Dry
def W0 : WX := fun _ _ _ _ => False
def tTry (K : PySem.W.Frag) (c : Value) (i : Nat) (tb : WX → TS) (ts : Addr → Value → Option Addr → TS) : TS := fun D σ H => tb (wAs K c i ts W0 D) D σ H
theorem c_try {K : PySem.W.Frag} {c : Value} {i : Nat} {tb : WX → TS} {ts : Addr → Value → Option Addr → TS} {D : Ends} {σ : L2.St} {H : Hp} (q : tb (wAs K c i ts W0 D) D σ H) : tTry K c i tb ts D σ H := q
theorem ps_try {X : Cx} {x n : Str} {c : Value} {i : Nat} {body suite : List Stmt} {b₀ : Stmt} {np pos pos' : Pos} {tb : WX → TS} {ts : Addr → Value → Option Addr → TS} (hs : X.stack = X.env :: X.outer) (hf : X.env.frame = some X.env.locals) (hN : X.N.Nodup) (hi : X.N[i]? = some n) (hln : X.env.kindOf n = some .local) (hc : Names X x c)
    (hb : ∀ (W : WX) (pn : List (Addr × Obj)) (xe : Value → Shared → Prop), L2N.Takes (X.tr pn xe) W → PassesOwn (model X.prog X.w) X.A X.env xe → PSs (X.tr pn xe) body (tb W))
    (hsu : ∀ (a : Addr) (oe : Obj) (cls : Value) (d : Option Addr) (pn : List (Addr × Obj)), L2N.Zn cls d oe → (∃ vs, oe.data = .fields vs) → PSs (X.suite a ((a, oe) :: pn)) (b₀ :: suite) (ts a cls d)) :
    PS X (.Try body [.ExceptHandler (some (.Name x np)) (some n) (b₀ :: suite) pos'] [] [] pos) (tTry X.K c i tb ts) := L2N.ps_try_as hs hf hN hi hln hc takes0N hb hsu
theorem c_methH {C : Addr} {m : Str} {sp : Sp} {E : L2.St → XK} {ta : TE} {t : TA} {σ : L2.St} {H : Hp} {Q : VK} (q : ta σ H fun x H1 => ∃ a dx fs, x = .ref a ∧ H1 a = some (.ins C dx fs) ∧ fs.lookup m = none ∧ t σ H1 fun vs H2 => sp (x :: vs) H2 Q (E σ)) : tMethH C m sp E ta t σ H Q := q
theorem c_makeE {C : Addr} {sp : Sp} {E : L2.St → XK} {t : TA} {σ : L2.St} {H : Hp} {Q : VK} (q : t σ H fun vs H1 => ∀ x dx, H1 x = none → H1 dx = none → dx ≠ x → sp (.ref x :: vs) (upd (upd H1 dx (.own x)) x (.ins C dx [])) (fun v H2 => v = .non ∧ Q (.ref x) H2) (E σ)) : tMakeE C sp E t σ H Q := q
theorem c_callS {sp : Sp} {E : L2.St → XK} {t : TA} {σ : L2.St} {H : Hp} {Q : VK} (q : t σ H fun vs H1 => sp vs H1 Q (E σ)) : tCallS sp E t σ H Q := q
theorem c_rs {C : Addr} {E : XK} {D : Ends} {σ : L2.St} {H : Hp} (q : E (.ref C) none H) : tRs C E D σ H := q
theorem c_rsI {C : Addr} {f : Str} {E : XK} {te : TE} {D : Ends} {σ : L2.St} {H : Hp} (q : te σ H fun v H1 => RsK C f E v H1) : tRsI C f E te D σ H := q
theorem c_veI {K : PySem.W.Frag} {ta : TA} {σ : L2.St} {H : Hp} {Q : VK} (q : ta σ H fun vs H1 => ∃ (a C : Addr) (ws : List V), vs = .ref a :: ws ∧ ws.length ≤ 1000 ∧ OexC K C ∧ H1 a = some (exo a C none) ∧ Q .non H1) : tVeI K ta σ H Q := q
def OstK (K : PySem.W.Frag) (f : Str) (D : Ends) (σ : L2.St) (y x : V) (H2 : Hp) : Prop := ∃ a C : Addr, x = .ref a ∧ OexC K C ∧ PySem.W.findIn K (.ref C) f = some none ∧ H2 a = some (exo a C none) ∧ ∀ dx, H2 dx = none → dx ≠ a → D.nx σ (upd (upd H2 dx (exd dx [(f, y)])) a (exo a C (some dx)))
theorem c_ostV {K : PySem.W.Frag} {f : Str} {i j : Nat} {x y : V} {D : Ends} {σ : L2.St} {H : Hp} (h1 : σ[j]? = some (some y)) (h2 : σ[i]? = some (some x)) (q : OstK K f D σ y x H) : tOst K f (tVar i) (tVar j) D σ H := by
  obtain ⟨a, C, q1, q2, q3, q4, q5⟩ := q
  exact c_var h1 (c_var h2 ⟨a, C, q1, q2, q3, .inl ⟨q4, q5⟩⟩)
def rJoin (K : PySem.W.Frag) : V → List V → Hp → VK → Prop := fun x xs H Q => ∃ a p, ∃ ys : List Str, x = .str a ∧ xs = [.ref p] ∧ (SqL K H p (ys.map V.str) ∨ SqT K H p (ys.map V.str)) ∧ (ys.map (·.length)).sum + ys.length * a.length ≤ 16777216 ∧ Q (.str (Txt.join a ys)) H
theorem pe_joinK {X : Cx} {o e : Expr} {to te : TE} {apos pos : Pos} (ho : PE X o to) (he : PE X e te) (hs : starEach [e] X.env = [(false, eval e X.env)] := by rfl) (hbase : attributeBase o "join" X.env (eval o X.env) = eval o X.env := by rfl) (hline : (apos.endLine == pos.line) = true := by rfl) :
    PE X (.Call (.Attribute o "join" apos) [e] [] pos) (tM1 (rJoin X.K) to te) := pe_join ho he hs hbase hline
theorem c_m1 {r : V → List V → Hp → VK → Prop} {to te : TE} {σ : L2.St} {H : Hp} {Q : VK} (q : to σ H fun x H1 => (∃ a, x = .str a) ∧ te σ H1 fun y H2 => r x [y] H2 Q) : tM1 r to te σ H Q := q
theorem Ers.place {K : PySem.W.Frag} {mg : Str → Option Value} (E : Ers K mg) : PySem.W.findIn K (.ref (gE K "Lacks")) "place" = some none := by
  have := E.fld "Lacks" (by decide)
  rwa [show fldOf "Lacks" = "place" by decide] at this
theorem Ers.walk {K : PySem.W.Frag} {mg : Str → Option Value} (E : Ers K mg) : PySem.W.findIn K (.ref (gE K "Soaked")) "walk" = some none := by
  have := E.fld "Soaked" (by decide)
  rwa [show fldOf "Soaked" = "walk" by decide] at this
/-- how an answer that refuses leaves -/
def Rz (K : PySem.W.Frag) (E : XK) (H : Hp) : Ans → Prop
  | .word w => ∀ H', Same H H' → E (.ref (gE K w)) none H'
  | .pair w n => ∀ H' dd, Same H H' → H dd = none → H' dd = some (.xd [(fldOf w, .int (n : Int))]) → E (.ref (gE K w)) (some dd) H'
  | _ => True
/-- the exception that bears an answer -/
def ErAt (K : PySem.W.Frag) (H : Hp) (cls : Value) (d : Option Addr) : Ans → Prop
  | .word w => w ∈ ern6 ∧ cls = .ref (gE K w) ∧ d = none
  | .pair w n => w ∈ (["Soaked", "Lacks"] : List Str) ∧ cls = .ref (gE K w) ∧ ∃ dd, d = some dd ∧ H dd = some (.xd [(fldOf w, .int (n : Int))])
  | _ => False
theorem rs_pair {K : PySem.W.Frag} {E : XK} {H H1 : Hp} {w : Str} {n : Nat} (h : Rz K E H (.pair w n)) (e : Same H H1) {f : Str} (hf : fldOf w = f) : RsK (gE K w) f E (.int (n : Int)) H1 :=
  rsK fun d hd => h _ d (e.trans (Same.new hd)) (none_back e hd) (by rw [upd_same, hf])
theorem hot_deeper {A : Around} {env : Env} {p : Addr × Obj} (h : Hot1 A p) : Hot1 (A.deeper env) p := h
end HX

/-! Houses compared. -/
namespace HX
open PySem PySem.Spec PyProof.Rows L2 Dry
def dayDt (d : Day) : PyData := .tuple [.int (d.P : Int), .int (d.T : Int), .tuple (d.ws.map wkD)]
def intsD (l : List Int) : PyData := .tuple (l.map PyData.int)
def houD (d : Day) (G : List Int) (Cs : List (List Int)) : PyData := .tuple [dayDt d, intsD G, .list (Cs.map intsD)]
theorem rowsI_lay : ∀ Cs : List (List Int), PyData.canLayAll0 (Cs.map intsD) = true ∧ PyData.depthAll (Cs.map intsD) ≤ 1
  | [] => by simp [PyData.canLayAll0, PyData.depthAll]
  | c :: Cs => by
    obtain ⟨h1, h2⟩ := rowsI_lay Cs
    obtain ⟨h3, h4⟩ := intsI_shape c
    exact ⟨by simp [PyData.canLayAll0, PyData.canLay0, intsD, h3] at h1 ⊢; exact h1, by simp [PyData.depthAll, PyData.depth, intsD, h4] at h2 ⊢; omega⟩
theorem rowsI_shaped (Cs : List (List Int)) : SeqAt.shaped (.list (Cs.map intsD)) = true := by
  obtain ⟨h1, h2⟩ := rowsI_lay Cs
  show (PyData.canLay0 _ && decide (PyData.depth _ ≤ 64)) = true
  simp [PyData.canLay0, PyData.depth, h1]
  omega
theorem houD_sh (d : Day) (G : List Int) (Cs : List (List Int)) : SeqAt.shaped (houD d G Cs) = true := by
  obtain ⟨h1, h2⟩ := rowsI_lay Cs
  obtain ⟨h3, h4⟩ := intsI_shape G
  obtain ⟨h5, h6⟩ := wks_lay d.ws
  show (PyData.canLay0 _ && decide (PyData.depth _ ≤ 64)) = true
  simp [houD, dayDt, intsD, PyData.canLay0, PyData.canLayAll0, PyData.depth, PyData.depthAll] at h1 h2 ⊢
  simp [h1, h3, h5, h4]
  omega
theorem eqvAll_len : ∀ {a b : List PyData}, PyData.eqvAll a b = true → a.length = b.length
  | [], [], _ => rfl
  | [], _ :: _, h => by simp [PyData.eqvAll] at h
  | _ :: _, [], h => by simp [PyData.eqvAll] at h
  | x :: a, y :: b, h => by
    simp only [PyData.eqvAll, Bool.and_eq_true] at h
    rw [List.length_cons, List.length_cons, eqvAll_len h.2]
theorem eqv_intsD (l : List Int) : PyData.eqv (intsD l) (intsD l) = true := by simp [intsD, PyData.eqv, eqvI]
theorem eqv_rowsI : ∀ Cs : List (List Int), PyData.eqvAll (Cs.map intsD) (Cs.map intsD) = true
  | [] => by simp [PyData.eqvAll]
  | c :: Cs => by simp [PyData.eqvAll, eqv_intsD, eqv_rowsI Cs]
theorem eqv_wks : ∀ ws : List Wk, PyData.eqvAll (ws.map wkD) (ws.map wkD) = true
  | [] => by simp [PyData.eqvAll]
  | w :: ws => by simp [PyData.eqvAll, PyData.eqv, wkD, eqv_wks ws]
theorem houD_eq (d : Day) (G : List Int) (Cs : List (List Int)) : PyData.eqv (houD d G Cs) (houD d G Cs) = true := by
  simp [houD, dayDt, PyData.eqv, PyData.eqvAll, eqv_intsD, eqv_rowsI, eqv_wks]
theorem houD_ne {d e : Day} {G S : List Int} {Cs Ds : List (List Int)} (h : Cs.length ≠ Ds.length) : PyData.eqv (houD d G Cs) (houD e S Ds) = false := by
  refine Bool.eq_false_iff.mpr fun z => h ?_
  simp only [houD, PyData.eqv, PyData.eqvAll, Bool.and_eq_true] at z
  have := eqvAll_len z.2.2.1
  simpa using this
theorem houD_start {d e : Day} {x y : Int} {G S : List Int} {Cs Ds : List (List Int)} (h : x ≠ y) : PyData.eqv (houD d (x :: G) Cs) (houD e (y :: S) Ds) = false := by
  refine Bool.eq_false_iff.mpr fun z => h ?_
  simp only [houD, intsD, PyData.eqv, PyData.eqvAll, List.map_cons, Bool.and_eq_true] at z
  exact eq_of_beq z.2.1.1
section
variable {K : PySem.W.Frag} {H : Hp}
theorem dp_day {a aw : Addr} {ds : List V} {d : Day} (h : DayAt K H a aw ds d) : Dp K H (.ref a) (dayDt d) := .tup h.day (.cons (.int _) (.cons (.int _) (.cons (.tup h.seq (dp_wks h.wks)) .nil)))
theorem dp_rowsI {rs : List V} {Cs : List (List Int)} (h : Refs true K H rs (Cs.map vI)) : DpAll K H rs (Cs.map intsD) := by
  refine dpAll_of _ _ (by rw [h.len, List.length_map, List.length_map]) fun i v dd hv hd => ?_
  rw [List.getElem?_map] at hd
  obtain ⟨c, hc, rfl⟩ := Option.map_eq_some_iff.mp hd
  obtain ⟨x, h1, h2⟩ := h.at_ i (vI c) (by rw [List.getElem?_map, hc]; rfl)
  rw [hv] at h1
  rw [Option.some.inj h1]
  exact .tup (show SqT K H x (vI c) from h2) (dp_ints c)
theorem c_eqRows {Q : VK} {a b : Addr} {rs ss : List V} {Cs : List (List Int)} (ha : SqL K H a rs) (hb : SqL K H b ss) (h1 : Refs true K H rs (Cs.map vI)) (h2 : Refs true K H ss (Cs.map vI)) (q : Q (.bl true) H) : rEqD K (.ref a) (.ref b) H Q :=
  ⟨_, _, .lst ha (dp_rowsI h1), .lst hb (dp_rowsI h2), rowsI_shaped Cs, rowsI_shaped Cs, by
    rw [show PyData.eqv (.list (Cs.map intsD)) (.list (Cs.map intsD)) = true by simp [PyData.eqv, eqv_rowsI]]; exact q⟩
end
/-! ### the exception's kind -/
section
open L2H HotX
theorem c_isP {K : PySem.W.Frag} {mg : Str → Option Value} {wd v : Str} {a : Addr} {d : Option Addr} {H : Hp} {Q : VK} (Er : Ers K mg) (hw : wd ∈ ern) (hv : v ∈ ern) (hd : ∀ dd, d = some dd → ∃ fs, H dd = some (.xd fs)) (q : Q (.bl (decide (wd = v))) H) : rIsP K (gE K wd) a d [.ref a, .ref (gE K v)] H Q :=
  ⟨.ref (gE K v), .ref (gE K v), _, rfl, fun _ r => r, Er.kit wd hw v hv, hd, q⟩
theorem c_zipH {K : PySem.W.Frag} {ta : TA} {σ : L2.St} {H : Hp} {R : It → Hp → Prop} (q : ta σ H fun vs H1 => ∃ a b xs ys, vs = [.ref a, .ref b] ∧ SqB K false H1 a xs ∧ SqB K false H1 b ys ∧ R (Itz2 K false false a b xs ys) H1) : iZipH K ta σ H R := q
theorem c_xf {a C dd : Addr} {cls : Value} {d : Option Addr} {f : Str} {i : Nat} {v : V} {fs : List (Str × V)} {σ : L2.St} {H : Hp} {Q : VK} (h : σ[i]? = some (some (.ref a))) (hc : cls = .ref C) (hd : d = some dd) (hx : H dd = some (.xd fs)) (hl : fs.lookup f = some v) (q : Q v H) : tXf a cls d C f (tVar i) σ H Q :=
  c_var h ⟨rfl, hc, dd, fs, v, hd, hx, hl, q⟩
theorem ern_pick : ∀ wd ∈ ern, ((ern.zip (ern.map (fun v => decide (wd = v)))).filter (·.2)).map (·.1) = [wd] := by decide +kernel
theorem ern_join : ∀ wd ∈ ern, Txt.join " " [wd] = wd := by decide +kernel
theorem ern_len : ∀ wd ∈ ern, ([wd].map (·.length)).sum + [wd].length * (" " : Str).length ≤ 16777216 := by decide +kernel
theorem ErAt.cls {K : PySem.W.Frag} {H : Hp} {cls : Value} {d : Option Addr} {ans : Ans} (h : ErAt K H cls d ans) : ∃ wd, wd ∈ ern ∧ cls = .ref (gE K wd) ∧ (∀ dd, d = some dd → ∃ fs, H dd = some (.xd fs)) ∧
    ((wd ∈ ern6 ∧ ans = .word wd) ∨ ∃ n dd, wd ∈ (["Soaked", "Lacks"] : List Str) ∧ ans = .pair wd n ∧ d = some dd ∧ H dd = some (.xd [(fldOf wd, .int (n : Int))])) := by
  cases ans with
  | word w =>
    obtain ⟨h1, h2, h3⟩ := h
    exact ⟨w, ern6_ern h1, h2, fun dd e => (nomatch h3.symm.trans e), .inl ⟨h1, rfl⟩⟩
  | pair w n =>
    obtain ⟨h1, h2, dd, h3, h4⟩ := h
    refine ⟨w, ?_, h2, fun dd' e => ?_, .inr ⟨n, dd, h1, rfl, h3, h4⟩⟩
    · simp only [List.mem_cons, List.not_mem_nil, or_false] at h1
      rcases h1 with h1 | h1 <;> rw [h1] <;> decide
    · rw [h3] at e
      cases e
      exact ⟨_, h4⟩
  | _ => exact h.elim
theorem ErAt.same {K : PySem.W.Frag} {H H' : Hp} {cls : Value} {d : Option Addr} {ans : Ans} (e : Same H H') (h : ErAt K H cls d ans) : ErAt K H' cls d ans := by
  cases ans with
  | word w => exact h
  | pair w n => obtain ⟨h1, h2, dd, h3, h4⟩ := h; exact ⟨h1, h2, dd, h3, e _ _ h4⟩
  | _ => exact h.elim
theorem not6 {w : Str} (h : w ∈ ern6) : w ≠ "Lacks" ∧ w ≠ "Soaked" := by
  revert w
  decide
end
/-! ### refusals as answers -/
def AnsE : Ans → Prop
  | .word w => w ∈ ern6
  | .pair w _ => w ∈ (["Soaked", "Lacks"] : List Str)
  | _ => True
theorem hourA_e (d : Day) (t : Nat) (R : List Int) (o : Option (List V)) : AnsE (hourA d t R o) := by
  unfold hourA
  split
  · exact (by decide : ("Over" : Str) ∈ ern6)
  · split
    · exact (by decide : ("NoCarried" : Str) ∈ ern6)
    · split
      · split
        · exact (by decide : ("Soaked" : Str) ∈ (["Soaked", "Lacks"] : List Str))
        · split
          · exact (by decide : ("Lacks" : Str) ∈ (["Soaked", "Lacks"] : List Str))
          · trivial
      · exact (by decide : ("NoCarried" : Str) ∈ ern6)
theorem askA_e (d : Day) (t : Nat) (R : List Int) (o : Option (List V)) : AnsE (askA d t R o) := by
  unfold askA
  split
  · exact (by decide : ("NoWanted" : Str) ∈ ern6)
  · split
    · trivial
    · exact (by decide : ("NoWanted" : Str) ∈ ern6)
theorem rz_of {K : PySem.W.Frag} {E : XK} {H : Hp} {ans : Ans} (ok : AnsE ans) (h : ∀ cls d H', Same H H' → ErAt K H' cls d ans → E cls d H') : Rz K E H ans := by
  cases ans with
  | word w => exact fun H' e => h _ _ _ e ⟨ok, rfl, rfl⟩
  | pair w n => exact fun H' dd e _ hd => h _ _ _ e ⟨ok, rfl, dd, rfl, hd⟩
  | _ => trivial
theorem step_err {K : PySem.W.Frag} {H : Hp} {cls : Value} {e : Option Addr} {d : Day} {Rs Cs : List (List Int)} {o : Option (List V)} (h : ErAt K H cls e (hourA d Cs.length (lastR Rs) o)) : stepR d Rs Cs (.hour o) = Rs ∧ stepC d Rs Cs (.hour o) = Cs := by
  unfold stepR stepC
  dsimp only
  cases ha : hourA d Cs.length (lastR Rs) o with
  | tup l => rw [ha] at h; exact h.elim
  | _ => exact ⟨rfl, rfl⟩
/-- the way into the suite -/
theorem w_as {K : PySem.W.Frag} {mg : Str → Option Value} {i : Nat} {ts : Addr → Value → Option Addr → TS} {D : Ends} {cls : Value} {d : Option Addr} {σ : L2.St} {H : Hp} {ans : Ans} (Er : Ers K mg) (he : ErAt K H cls d ans)
    (q : ∀ a, H a = none → ts a cls d { nx := fun σ' H' => D.nx (σ'.set i none) H', rt := D.rt, bk := fun σ' H' => D.bk (σ'.set i none) H', ct := fun σ' H' => D.ct (σ'.set i none) H' } (σ.set i (some (.ref a))) H) : wAs K (.ref (gE K "WalkError")) i ts W0 D cls d σ H := by
  obtain ⟨wd, hwd, rfl, _⟩ := he.cls
  exact ⟨true, Er.exm wd hwd, fun _ a na => q a na, fun z => nomatch z⟩
end HX

/-! The law's own rows of a house. -/
namespace HX
open PySem PySem.Spec PyProof.Rows L2 Dry
/-- rows of (stands, carried) -/
structure RowsAt (K : PySem.W.Frag) (H : Hp) (l : Addr) (Rs Cs : List (List Int)) : Prop where
  ex : ∃ zs, H l = some (.lst zs) ∧ zs.length = Rs.length ∧ ∀ (i : Nat) (R : List Int), Rs[i]? = some R → ∃ (t x : Addr) (y : V), zs[i]? = some (.ref t) ∧ SqT K H t [.ref x, y] ∧ SqT K H x (vI R) ∧ ∀ (j : Nat) (c : List Int), i = j + 1 → Cs[j]? = some c → ∃ ca, y = .ref ca ∧ SqT K H ca (vI c)
structure RunS (d : Day) (Rs Cs : List (List Int)) : Prop where
  len : Rs.length = Cs.length + 1
  cap : Cs.length ≤ d.T
  row : ∀ R ∈ Rs, R.length = d.P ∧ ∀ p, 0 ≤ R.getD p 0
theorem HouS.run {K : PySem.W.Frag} {C : Addr} {H : Hp} {h dx ad aw ro pa : Addr} {ds : List V} {d : Day} {Rs Cs : List (List Int)} (S : HouS K C H h dx ad aw ro pa ds d Rs Cs) : RunS d Rs Cs := ⟨S.len, S.cap, S.row⟩
section
variable {K : PySem.W.Frag} {H H' : Hp} {l : Addr} {Rs Cs : List (List Int)}
theorem RowsAt.keep (h : RowsAt K H l Rs Cs) (e : Tx H H') (hl : ∀ zs, H l = some (.lst zs) → H' l = some (.lst zs)) : RowsAt K H' l Rs Cs := by
  obtain ⟨zs, h1, h2, h3⟩ := h.ex
  refine ⟨zs, hl zs h1, h2, fun i R hi => ?_⟩
  obtain ⟨t, x, y, a, b, c, g⟩ := h3 i R hi
  exact ⟨t, x, y, a, e.tup b, e.tup c, fun j k hj hk => let ⟨ca, p, q⟩ := g j k hj hk; ⟨ca, p, e.tup q⟩⟩
theorem RowsAt.same (h : RowsAt K H l Rs Cs) (e : Same H H') : RowsAt K H' l Rs Cs := h.keep (.of e) fun zs hz => e _ _ hz
theorem RowsAt.lst (h : RowsAt K H l Rs Cs) : ∃ zs, H l = some (.lst zs) ∧ zs.length = Rs.length := let ⟨zs, h1, h2, _⟩ := h.ex; ⟨zs, h1, h2⟩
/-- the last row -/
theorem RowsAt.last (h : RowsAt K H l Rs Cs) {n : Nat} (hn : Rs.length = n + 1) : ∃ (zs : List V) (t x : Addr) (y : V), H l = some (.lst zs) ∧ zs.length = n + 1 ∧ zs[zs.length - 1]? = some (.ref t) ∧ SqT K H t [.ref x, y] ∧ SqT K H x (vI (lastR Rs)) := by
  obtain ⟨zs, h1, h2, h3⟩ := h.ex
  have hR : Rs[n]? = some (lastR Rs) := by
    unfold lastR
    rw [hn, Nat.add_sub_cancel, List.getD_eq_getElem?_getD, List.getElem?_eq_getElem (by omega)]
    rfl
  obtain ⟨t, x, y, a, b, c, _⟩ := h3 n _ hR
  exact ⟨zs, t, x, y, h1, by omega, by rw [h2, hn, Nat.add_sub_cancel]; exact a, b, c⟩
theorem RowsAt.one {t x : Addr} {G : List Int} (h : H l = some (.lst [.ref t])) (ht : SqT K H t [.ref x, .non]) (hx : SqT K H x (vI G)) : RowsAt K H l [G] [] := by
  refine ⟨[.ref t], h, rfl, fun i R hi => ?_⟩
  cases i with
  | zero =>
    have e : G = R := by simpa using hi
    subst e
    exact ⟨t, x, .non, rfl, ht, hx, fun j c hj => by omega⟩
  | succ i => simp at hi
theorem RowsAt.snoc {zs : List V} {t x ca : Addr} {R c : List Int} (h : RowsAt K H l Rs Cs) (hl : H l = some (.lst zs)) (hlen : Rs.length = Cs.length + 1) (e : Tx H H') (hl' : H' l = some (.lst (zs ++ [.ref t]))) (ht : SqT K H' t [.ref x, .ref ca]) (hx : SqT K H' x (vI R)) (hc : SqT K H' ca (vI c)) : RowsAt K H' l (Rs ++ [R]) (Cs ++ [c]) := by
  obtain ⟨zs', h1, h2, h3⟩ := h.ex
  rw [hl] at h1
  cases h1
  refine ⟨_, hl', by simp [h2], fun i R' hi => ?_⟩
  by_cases hi2 : i < Rs.length
  · rw [List.getElem?_append_left hi2] at hi
    obtain ⟨t', x', y', a, b, c', g⟩ := h3 i R' hi
    refine ⟨t', x', y', by rw [List.getElem?_append_left (by omega)]; exact a, e.tup b, e.tup c', fun j k hj hk => ?_⟩
    rw [List.getElem?_append_left (by omega)] at hk
    obtain ⟨ca', p, q⟩ := g j k hj hk
    exact ⟨ca', p, e.tup q⟩
  · have hi3 : i = Rs.length := by
      have := (List.getElem?_eq_some_iff.mp hi).1
      simp at this
      omega
    subst hi3
    rw [List.getElem?_append_right (Nat.le_refl _), Nat.sub_self] at hi
    have er : R = R' := by simpa using hi
    subst er
    refine ⟨t, x, .ref ca, by rw [← h2, List.getElem?_append_right (Nat.le_refl _), Nat.sub_self]; rfl, ht, hx, fun j k hj hk => ?_⟩
    have ej : j = Cs.length := by omega
    subst ej
    rw [List.getElem?_append_right (Nat.le_refl _), Nat.sub_self] at hk
    have ek : c = k := by simpa using hk
    subst ek
    exact ⟨ca, rfl, hc⟩
theorem RowsAt.pop {zs : List V} {n : Nat} (h : RowsAt K H l Rs Cs) (hl : H l = some (.lst zs)) (hlen : Rs.length = Cs.length + 1) (hn : Cs ≠ []) (e : Tx H H') (hl' : H' l = some (.lst zs.dropLast)) : RowsAt K H' l Rs.dropLast Cs.dropLast := by
  obtain ⟨zs', h1, h2, h3⟩ := h.ex
  rw [hl] at h1
  cases h1
  refine ⟨_, hl', by simp [h2], fun i R' hi => ?_⟩
  rw [List.getElem?_dropLast] at hi
  split at hi
  · obtain ⟨t', x', y', a, b, c', g⟩ := h3 i R' hi
    refine ⟨t', x', y', by rw [List.getElem?_dropLast, if_pos (by omega)]; exact a, e.tup b, e.tup c', fun j k hj hk => ?_⟩
    rw [List.getElem?_dropLast] at hk
    split at hk
    · obtain ⟨ca', p, q⟩ := g j k hj hk
      exact ⟨ca', p, e.tup q⟩
    · cases hk
  · cases hi
end
theorem bad_empty (us : List (Nat × Wk)) (xs : List V) : (((us.zip xs).filter (fun q => !okq q)).map (fun _ => (1 : Int))).isEmpty = okC us xs := by
  unfold okC
  generalize us.zip xs = zs
  induction zs with
  | nil => rfl
  | cons z zs ih =>
    rw [List.filter_cons, List.all_cons]
    cases okq z <;> simp [ih] at ih ⊢
theorem ovT {r p : Addr} {H H1 H2 : Hp} (a : Ov r H H1) (b : Same H1 H2) : Ov r H H2 := a.trans (.of b)
theorem Ov.rows {K : PySem.W.Frag} {H H' : Hp} {r l : Addr} {Rs Cs : List (List Int)} (h : RowsAt K H l Rs Cs) (e : Ov r H H') (t : Tx H H') (n : l ≠ r) : RowsAt K H' l Rs Cs := h.keep t fun zs hz => e _ _ hz n
end HX

/-! tuple * int, any count from 0 on. -/
namespace HX
open PySem PySem.Spec PyProof.Rows L2 Dry
theorem tuple_mul1 (l : Addr) (items : Array Value) (n : Nat) (dd : Option Addr) (sl : Array (Option Value)) (u : Tok) :
    Meets (Builtin.«tuple.__mul__» ⟨[.ref l, .int 1 u], []⟩) (fun _ R s => s.heap.get? l = some { cls := .type "tuple", dict := dd, data := .seq items n, slots := sl } ∧ R (.ok (.ret (Value.ref l))) s) :=
  .of_wp fun prog w A R s h => by
    obtain ⟨hp, g, d, tk, os⟩ := s
    obtain ⟨hl, h⟩ := h
    have f1 := AutoSeq1.idx_int
    have c1 : (items.isEmpty || (1 : Int) == 1) = true := by simp
    have c0 : (decide ((1 : Int) < -(2 ^ 63)) || decide ((1 : Int) ≥ 2 ^ 63)) = false := by decide
    wp_walk using wpAny_loadPart' hl
    repeat (first
      | (refine wpAny_ite_false (decide_eq_false (by rw [c0]; exact Bool.false_ne_true)) ?_; wp_walk using wpAny_loadPart' hl)
      | (refine wpAny_ite_true (decide_eq_true c1) ?_; wp_walk using wpAny_loadPart' hl))
    exact ⟨_, rfl, h⟩
theorem tuple_mul0 (l : Addr) (items : Array Value) (n : Nat) (dd : Option Addr) (sl : Array (Option Value)) (u : Tok) (c1 : items.isEmpty = false) :
    Meets (Builtin.«tuple.__mul__» ⟨[.ref l, .int 0 u], []⟩) (fun _ R s => s.heap.get? l = some { cls := .type "tuple", dict := dd, data := .seq items n, slots := sl } ∧ R (.ok (.ret (Value.ref s.heap.objs.size))) { s with heap := s.heap.push { cls := Value.type "tuple", data := Data.seq #[] }, toks := s.toks }) :=
  .of_wp fun prog w A R s h => by
    obtain ⟨hp, g, d, tk, os⟩ := s
    obtain ⟨hl, h⟩ := h
    have f1 := AutoSeq1.idx_int
    have c1 : (items.isEmpty || (0 : Int) == 1) = false := by rw [c1]; rfl
    have c2 : (decide ((0 : Int) ≤ 0) || items.isEmpty) = true := by simp
    have c0 : (decide ((0 : Int) < -(2 ^ 63)) || decide ((0 : Int) ≥ 2 ^ 63)) = false := by decide
    wp_walk using wpAny_loadPart' hl
    repeat (first
      | (refine wpAny_ite_false (decide_eq_false (by rw [c0]; exact Bool.false_ne_true)) ?_; wp_walk using wpAny_loadPart' hl)
      | (refine wpAny_ite_false (decide_eq_false (by rw [c1]; exact Bool.false_ne_true)) ?_; wp_walk using wpAny_loadPart' hl)
      | (refine wpAny_ite_true (decide_eq_true c2) ?_; wp_walk using wpAny_loadPart' hl)
      | (refine wpAny_ite_false (decide_eq_false (Nat.not_lt.mpr (by decide))) ?_; wp_walk using wpAny_loadPart' hl))
    exact ⟨_, rfl, h⟩
def rRepA (K : PySem.W.Frag) : R2 := fun x y H Q => ∃ l k xs, x = .ref l ∧ y = .int k ∧ SqT K H l xs ∧ xs ≠ [] ∧ 0 ≤ k ∧ k ≤ 1000 ∧ xs.length ≤ 1000 ∧ (k = 1 → Q (.ref l) H) ∧ (k ≠ 1 → ∀ p, H p = none → Q (.ref p) (upd H p (.tup (List.replicate k.toNat xs).flatten)))
theorem op_repA {X : Cx} : OpR X (binaryOp .Mult) (rRepA X.K) := by
  intro pins s σ H x y v u Q I rx ry h
  obtain ⟨l, k, xs, rfl, rfl, hT, hne, h0, h2, hz, q1, q2⟩ := h
  by_cases hk2 : 2 ≤ k
  · exact op_repT pins s σ H _ _ v u Q I rx ry ⟨l, k, xs, rfl, rfl, hT, hne, hk2, h2, hz, q2 (by omega)⟩
  cases rx
  obtain ⟨t, rfl⟩ := ry
  obtain ⟨its, r, ⟨⟨cls, dd, data, sl⟩, ho, hc, n, hd⟩, hs⟩ := I.tuple hT
  simp only at hc hd
  subst hc hd
  have hle : its.length = xs.length := r.length.symm
  have hn : its ≠ [] := fun e => hne (by
    rw [e] at hle
    exact List.eq_nil_of_length_eq_zero hle.symm)
  have hi : its.toArray.isEmpty = false := by
    cases its with
    | nil => exact absurd rfl hn
    | cons a b => rfl
  have hk : k = 0 ∨ k = 1 := by omega
  rcases hk with rfl | rfl
  · refine wpAny_binaryOp_repeat_ref (T := "tuple") (U := "int") (by decide) ⟨_, ho, rfl⟩ (fun s' => typeIs_int s' 0 t) noFill_tuple_mul F.fills_int_mul F.slot_int_rmul repeat_tuple F.slot_int_index.lookup
      (call_meets F.slot_int_rmul (typeIs_int s 0 t) F.entry_int_rmul (F.args_int_rmul_2 _ _) (int_rmul_tuple 0 t l its.toArray n dd sl)
        ⟨ho, rfl, ⟨_, ho, rfl⟩, call_meets F.slot_tuple_mul ⟨_, ho, rfl⟩ F.entry_tuple_mul (F.args_tuple_mul_2 _ _) (tuple_mul0 l its.toArray n dd sl t hi) ⟨ho, ?_⟩⟩)
    refine ⟨.ref s.heap.objs.size, _, I.laid (t' := s.toks) (o := .tup []) (fun b ob q => Heap.get?_push_of_some _ q) (Nat.le_refl _) ?_, rfl, q2 (by decide) _ (I.hok.fresh (Nat.le_refl _))⟩
    exact ⟨Nat.zero_le _, [], .nil, IsTup.new _ _⟩
  · refine wpAny_binaryOp_repeat_ref (T := "tuple") (U := "int") (by decide) ⟨_, ho, rfl⟩ (fun s' => typeIs_int s' 1 t) noFill_tuple_mul F.fills_int_mul F.slot_int_rmul repeat_tuple F.slot_int_index.lookup
      (call_meets F.slot_int_rmul (typeIs_int s 1 t) F.entry_int_rmul (F.args_int_rmul_2 _ _) (int_rmul_tuple 1 t l its.toArray n dd sl)
        ⟨ho, rfl, ⟨_, ho, rfl⟩, call_meets F.slot_tuple_mul ⟨_, ho, rfl⟩ F.entry_tuple_mul (F.args_tuple_mul_2 _ _) (tuple_mul1 l its.toArray n dd sl t) ⟨ho, ?_⟩⟩)
    exact ⟨.ref l, H, I, rfl, q1 rfl⟩
theorem c_repA {K : PySem.W.Frag} {H : Hp} {Q : VK} {a : Addr} {n : Nat} {v : V} (ha : SqT K H a [v]) (hn : n ≤ 1000) (q : ∀ p H', Same H H' → SqT K H' p (List.replicate n v) → Q (.ref p) H') : rRepA K (.ref a) (.int (n : Int)) H Q := by
  refine ⟨a, (n : Int), [v], rfl, rfl, ha, by simp, by omega, by omega, by simp, fun h => ?_, fun hn1 p np => q p _ (Same.new np) ?_⟩
  · have e : n = 1 := by omega
    subst e
    exact q a H (Same.refl _) ha
  · have e : (List.replicate ((n : Int)).toNat [v]).flatten = List.replicate n v := by
      rw [Int.toNat_natCast]
      clear q ha hn hn1
      induction n with
      | zero => rfl
      | succ n ih => rw [List.replicate_succ, List.flatten_cons, List.replicate_succ, ih]; rfl
    rw [e]
    exact SqT.of upd_same
end HX

/-! What stands while houses are kept. -/
namespace HX
open PySem PySem.Spec PyProof.Rows L2 Dry
structure RunOk (d : Day) (G : List Int) (Rs Cs : List (List Int)) : Prop where
  len : Rs.length = Cs.length + 1
  st : Rs[0]? = some G
  go : ∀ (i : Nat) (c : List Int), Cs[i]? = some c → ∃ R R', Rs[i]? = some R ∧ Rs[i + 1]? = some R' ∧ hourA d i R (some (vI c)) = .tup R'
theorem RunOk.one (d : Day) (G : List Int) : RunOk d G [G] [] := ⟨rfl, rfl, fun i c h => by simp at h⟩
theorem lastR_at {Rs : List (List Int)} {n : Nat} (h : Rs.length = n + 1) : Rs[n]? = some (lastR Rs) := by
  unfold lastR
  rw [h, Nat.add_sub_cancel, List.getD_eq_getElem?_getD, List.getElem?_eq_getElem (by omega)]
  rfl
theorem RunOk.step {d : Day} {G : List Int} {Rs Cs : List (List Int)} (h : RunOk d G Rs Cs) (e : Deed) : RunOk d G (stepR d Rs Cs e) (stepC d Rs Cs e) := by
  have hlen := h.len
  cases e with
  | ask o => exact h
  | hour o =>
    unfold stepR stepC
    dsimp only
    cases ha : hourA d Cs.length (lastR Rs) o with
    | tup new =>
      dsimp only
      obtain ⟨_, cs, ho, hc, _⟩ := hourA_tup ha
      rw [hc]
      subst ho
      refine ⟨by simp [hlen], ?_, fun i c hi => ?_⟩
      · rw [List.getElem?_append_left (by omega)]
        exact h.st
      · by_cases hi2 : i < Cs.length
        · rw [List.getElem?_append_left hi2] at hi
          obtain ⟨R, R', a, b, g⟩ := h.go i c hi
          exact ⟨R, R', by rw [List.getElem?_append_left (by omega)]; exact a, by rw [List.getElem?_append_left (by omega)]; exact b, g⟩
        · have hi3 : i = Cs.length := by
            have := (List.getElem?_eq_some_iff.mp hi).1
            simp at this
            omega
          subst hi3
          rw [List.getElem?_append_right (Nat.le_refl _), Nat.sub_self] at hi
          have ec : cs = c := by simpa using hi
          subst ec
          refine ⟨lastR Rs, new, by rw [List.getElem?_append_left (by omega)]; exact lastR_at hlen, ?_, ha⟩
          rw [← hlen, List.getElem?_append_right (Nat.le_refl _), Nat.sub_self]
          rfl
    | _ => exact h
  | back =>
    unfold stepR stepC
    dsimp only
    by_cases hC : Cs = []
    · rw [if_pos hC, if_pos hC]; exact h
    · rw [if_neg hC, if_neg hC]
      have hc0 : Cs.length ≠ 0 := fun z => hC (List.eq_nil_of_length_eq_zero z)
      refine ⟨by rw [List.length_dropLast, List.length_dropLast]; omega, ?_, fun i c hi => ?_⟩
      · rw [List.getElem?_dropLast, if_pos (by omega)]; exact h.st
      · rw [List.getElem?_dropLast] at hi
        split at hi
        · obtain ⟨R, R', a, b, g⟩ := h.go i c hi
          exact ⟨R, R', by rw [List.getElem?_dropLast, if_pos (by omega)]; exact a, by rw [List.getElem?_dropLast, if_pos (by omega)]; exact b, g⟩
        · cases hi
/-- all that stands: two houses, the rows, starts, a plan; H0: what was there before -/
structure HSt (K : PySem.W.Frag) (C : Addr) (H0 H : Hp) (ad aw g pl l h dx ro pa h2 dx2 ro2 pa2 : Addr) (ds : List V) (d : Day) (G Pn : List Int) (Rs Cs Qs Ds Rs2 Cs2 : List (List Int)) : Prop where
  sm : Same H0 H
  st : SqT K H g (vI G)
  pn : SqT K H pl (vI Pn)
  S1 : HouS K C H h dx ad aw ro pa ds d Rs Cs
  S2 : HouS K C H h2 dx2 ad aw ro2 pa2 ds d Rs2 Cs2
  rw_ : RowsAt K H l Qs Ds
  n1 : l ≠ ro
  n2 : l ≠ pa
  n3 : l ≠ ro2
  n4 : l ≠ pa2
  n5 : ro ≠ ro2
  n6 : ro ≠ pa2
  n7 : pa ≠ ro2
  n8 : pa ≠ pa2
  f1 : H0 l = none
  f2 : H0 ro = none
  f3 : H0 pa = none
  f4 : H0 ro2 = none
  f5 : H0 pa2 = none
section
variable {K : PySem.W.Frag} {C : Addr} {H0 H H' : Hp} {ad aw g pl l h dx ro pa h2 dx2 ro2 pa2 r : Addr} {ds : List V} {d : Day} {G Pn : List Int} {Rs Cs Qs Ds Rs2 Cs2 : List (List Int)}
/-- a house stays where neither of its lists, nor itself, is touched -/
theorem HouS.keep (S : HouS K C H h dx ad aw ro pa ds d Rs Cs) (e : Tx H H') (hi : ∀ o, H h = some o → H' h = some o) (h1 : ∀ o, H ro = some o → H' ro = some o) (h2 : ∀ o, H pa = some o → H' pa = some o) : HouS K C H' h dx ad aw ro pa ds d Rs Cs := by
  obtain ⟨rs, ps, a, b, c, f⟩ := S.ex
  exact ⟨hi _ S.ins, S.ne, ⟨rs, ps, h1 _ a, h2 _ b, c.tx e, f.tx e⟩, S.day.tx e, S.dd, S.len, S.cap, S.row⟩
theorem HouS.lsts (S : HouS K C H h dx ad aw ro pa ds d Rs Cs) : (∃ xs, H ro = some (.lst xs)) ∧ ∃ ys, H pa = some (.lst ys) := let ⟨rs, ps, a, b, _⟩ := S.ex; ⟨⟨rs, a⟩, ps, b⟩
theorem HouS.nl {xs : List V} (S : HouS K C H h dx ad aw ro pa ds d Rs Cs) (hl : H l = some (.lst xs)) : h ≠ l := ne_of S.ins hl (fun z => nomatch z)
theorem HSt.same (s : HSt K C H0 H ad aw g pl l h dx ro pa h2 dx2 ro2 pa2 ds d G Pn Rs Cs Qs Ds Rs2 Cs2) (e : Same H H') : HSt K C H0 H' ad aw g pl l h dx ro pa h2 dx2 ro2 pa2 ds d G Pn Rs Cs Qs Ds Rs2 Cs2 :=
  ⟨s.sm.trans e, e.tup s.st, e.tup s.pn, s.S1.same e, s.S2.same e, s.rw_.same e, s.n1, s.n2, s.n3, s.n4, s.n5, s.n6, s.n7, s.n8, s.f1, s.f2, s.f3, s.f4, s.f5⟩
/-- only the list r is touched -/
theorem HSt.ov (s : HSt K C H0 H ad aw g pl l h dx ro pa h2 dx2 ro2 pa2 ds d G Pn Rs Cs Qs Ds Rs2 Cs2) {xs : List V} (e : Ov r H H') (hr : H r = some (.lst xs)) (fr : H0 r = none) (m1 : l ≠ r) (m2 : ro ≠ r) (m3 : pa ≠ r) (m4 : ro2 ≠ r) (m5 : pa2 ≠ r) : HSt K C H0 H' ad aw g pl l h dx ro pa h2 dx2 ro2 pa2 ds d G Pn Rs Cs Qs Ds Rs2 Cs2 :=
  let t := e.tx hr
  ⟨e.same s.sm fr, t.tup s.st, t.tup s.pn, s.S1.keep t (fun o z => e _ _ z (s.S1.nl hr)) (fun o z => e _ _ z m2) (fun o z => e _ _ z m3), s.S2.keep t (fun o z => e _ _ z (s.S2.nl hr)) (fun o z => e _ _ z m4) (fun o z => e _ _ z m5), s.rw_.keep t fun zs z => e _ _ z m1, s.n1, s.n2, s.n3, s.n4, s.n5, s.n6, s.n7, s.n8, s.f1, s.f2, s.f3, s.f4, s.f5⟩
/-- the rows go on -/
theorem HSt.due (s : HSt K C H0 H ad aw g pl l h dx ro pa h2 dx2 ro2 pa2 ds d G Pn Rs Cs Qs Ds Rs2 Cs2) {Qs' Ds' : List (List Int)} (e : Ov l H H') (q : RowsAt K H' l Qs' Ds') : HSt K C H0 H' ad aw g pl l h dx ro pa h2 dx2 ro2 pa2 ds d G Pn Rs Cs Qs' Ds' Rs2 Cs2 := by
  obtain ⟨zs, hl, _⟩ := s.rw_.lst
  have t := e.tx hl
  exact ⟨e.same s.sm s.f1, t.tup s.st, t.tup s.pn, s.S1.keep t (fun o z => e _ _ z (s.S1.nl hl)) (fun o z => e _ _ z s.n1.symm) (fun o z => e _ _ z s.n2.symm), s.S2.keep t (fun o z => e _ _ z (s.S2.nl hl)) (fun o z => e _ _ z s.n3.symm) (fun o z => e _ _ z s.n4.symm), q, s.n1, s.n2, s.n3, s.n4, s.n5, s.n6, s.n7, s.n8, s.f1, s.f2, s.f3, s.f4, s.f5⟩
/-- the first house goes on -/
theorem HSt.did (s : HSt K C H0 H ad aw g pl l h dx ro pa h2 dx2 ro2 pa2 ds d G Pn Rs Cs Qs Ds Rs2 Cs2) {Rs' Cs' : List (List Int)} (e : Mh ro pa H H') (q : HouS K C H' h dx ad aw ro pa ds d Rs' Cs') : HSt K C H0 H' ad aw g pl l h dx ro pa h2 dx2 ro2 pa2 ds d G Pn Rs' Cs' Qs Ds Rs2 Cs2 := by
  obtain ⟨⟨xs, hx⟩, ys, hy⟩ := s.S1.lsts
  have t := s.S1.tx e
  exact ⟨e.same s.sm s.f2 s.f3, t.tup s.st, t.tup s.pn, q, s.S2.keep t (fun o z => e _ _ z (s.S2.nl hx) (s.S2.nl hy)) (fun o z => e _ _ z s.n5.symm s.n7.symm) (fun o z => e _ _ z s.n6.symm s.n8.symm), s.rw_.keep t fun zs z => e _ _ z s.n1 s.n2, s.n1, s.n2, s.n3, s.n4, s.n5, s.n6, s.n7, s.n8, s.f1, s.f2, s.f3, s.f4, s.f5⟩
/-- the second house goes on -/
theorem HSt.did2 (s : HSt K C H0 H ad aw g pl l h dx ro pa h2 dx2 ro2 pa2 ds d G Pn Rs Cs Qs Ds Rs2 Cs2) {Rs' Cs' : List (List Int)} (e : Mh ro2 pa2 H H') (q : HouS K C H' h2 dx2 ad aw ro2 pa2 ds d Rs' Cs') : HSt K C H0 H' ad aw g pl l h dx ro pa h2 dx2 ro2 pa2 ds d G Pn Rs Cs Qs Ds Rs' Cs' := by
  obtain ⟨⟨xs, hx⟩, ys, hy⟩ := s.S2.lsts
  have t := s.S2.tx e
  exact ⟨e.same s.sm s.f4 s.f5, t.tup s.st, t.tup s.pn, s.S1.keep t (fun o z => e _ _ z (s.S1.nl hx) (s.S1.nl hy)) (fun o z => e _ _ z s.n5 s.n6) (fun o z => e _ _ z s.n7 s.n8), q, s.rw_.keep t fun zs z => e _ _ z s.n3 s.n4, s.n1, s.n2, s.n3, s.n4, s.n5, s.n6, s.n7, s.n8, s.f1, s.f2, s.f3, s.f4, s.f5⟩
theorem Bag.mh (hb : Bag H r) (e : Mh ro pa H H') (m2 : ro ≠ r) (m3 : pa ≠ r) : Bag H' r := let ⟨b0, b1, a, b⟩ := hb; ⟨b0, b1, e _ _ a m2.symm m3.symm, b⟩
theorem Bag.ovl (hb : Bag H r) (e : Ov l H H') (m : l ≠ r) : Bag H' r := let ⟨b0, b1, a, b⟩ := hb; ⟨b0, b1, e _ _ a m.symm, b⟩
end
/-! ### what is refused at the making of a house -/
def RefU (K : PySem.W.Frag) (H : Hp) (x y : V) (w : Str) : Prop :=
  (∃ o, DK K H x o ∧ dayB o = false ∧ w = "NoDay") ∨ ∃ (ad aw : Addr) (ds : List V) (d : Day) (oy : Option (List V)), x = .ref ad ∧ DayAt K H ad aw ds d ∧ DayD 5 8 12 d ∧ TV K H y oy ∧ (match oy with | none => false | some ss => decide (ss.length = d.P) && ss.all (fun x => isFromV x 0 20)) = false ∧ w = "NoStarts"
theorem RefU.same {K : PySem.W.Frag} {H H' : Hp} {x y : V} {w : Str} (e : Same H H') (h : RefU K H x y w) : RefU K H' x y w := by
  rcases h with ⟨o, h1, h2, h3⟩ | ⟨ad, aw, ds, d, oy, h1, h2, h3, h4, h5, h6⟩
  · refine .inl ⟨o, ?_, h2, h3⟩
    rcases h1 with ⟨h1, h2 | ⟨t, ys, h2, h3, h4⟩⟩ | ⟨t, p, h, z, ow, h1, h2, h3, h4, h5, h6⟩
    · exact .inl ⟨h1, .inl (h2.kp (.of e))⟩
    · exact .inl ⟨h1, .inr ⟨t, ys, h2, e.tup h3, h4⟩⟩
    · exact .inr ⟨t, p, h, z, ow, h1, h2, e.tup h3, h4.kp (.of e), h5.kp (.of e), h6.same e⟩
  · exact .inr ⟨ad, aw, ds, d, oy, h1, h2.tx (.of e), h3, h4.kp (.of e), h5, h6⟩
theorem RefU.mem {K : PySem.W.Frag} {H : Hp} {x y : V} {w : Str} (h : RefU K H x y w) : w ∈ ern6 := by
  rcases h with ⟨o, h1, h2, rfl⟩ | ⟨ad, aw, ds, d, oy, h1, h2, h3, h4, h5, rfl⟩ <;> decide
def kindsL : List Str := ["NoDay", "NoDay", "NoStarts", "NoStarts", "NoStarts"]
theorem dp_strs {K : PySem.W.Frag} {H : Hp} : ∀ ws : List Str, DpAll K H (ws.map V.str) (ws.map PyData.str)
  | [] => .nil
  | w :: ws => .cons (.str w) (dp_strs ws)
theorem kinds_sh : SeqAt.shaped (.list (kindsL.map PyData.str)) = true := by decide +kernel
theorem kinds_eq : PyData.eqv (.list (kindsL.map PyData.str)) (.list (kindsL.map PyData.str)) = true := by decide +kernel
theorem c_eqKinds {K : PySem.W.Frag} {H : Hp} {Q : VK} {a b : Addr} (ha : SqL K H a (kindsL.map V.str)) (hb : SqL K H b (kindsL.map V.str)) (q : Q (.bl true) H) : rEqD K (.ref a) (.ref b) H Q :=
  ⟨_, _, .lst ha (dp_strs _), .lst hb (dp_strs _), kinds_sh, kinds_sh, by rw [kinds_eq]; exact q⟩
theorem c_par3 {i j l : Nat} {ta : TA} {D : Ends} {σ : L2.St} {H : Hp} (q : ta σ H fun vs H1 => ∃ u v w, vs = [u, v, w] ∧ D.nx (((σ.set i (some u)).set j (some v)).set l (some w)) H1) : tPar3 i j l ta D σ H := q
theorem Kp.ovL {l : Addr} {H H' : Hp} {xs ys : List V} (e : Ov l H H') (hl : H l = some (.lst xs)) (hl' : H' l = some (.lst ys)) : Kp H H' := by
  refine ⟨e.tx hl, fun a zs h => ?_⟩
  by_cases q : a = l
  · subst q
    exact ⟨ys, .inl hl'⟩
  · refine ⟨zs, ?_⟩
    rcases h with h | ⟨o, h⟩
    · exact .inl (e _ _ h q)
    · exact .inr ⟨o, e _ _ h q⟩
theorem tk_drop {α : Type} {l : List α} {k : Nat} (h : k ≤ l.length) : (l.take k).dropLast = l.take (k - 1) := by
  rw [List.dropLast_eq_take, List.length_take, Nat.min_eq_left h, List.take_take, Nat.min_eq_left (by omega)]
theorem take_last {Rs : List (List Int)} {j : Nat} {R : List Int} (h : Rs[j]? = some R) : lastR (Rs.take (j + 1)) = R := by
  have hl := (List.getElem?_eq_some_iff.mp h).1
  unfold lastR
  rw [List.length_take, Nat.min_eq_left (by omega), Nat.add_sub_cancel, List.getD_eq_getElem?_getD, List.getElem?_take_of_lt (by omega), h]
  rfl
theorem vI_inj {a b : List Int} (h : vI a = vI b) : a = b := by
  have := congrArg (List.map intV) h
  rwa [vI_intV, vI_intV] at this
theorem new2 {H : Hp} {x dx : Addr} {o u : HO} (nx : H x = none) (nd : H dx = none) (ne : dx ≠ x) : Same H (upd (upd H dx o) x u) := (Same.new nd).trans (Same.new (by rw [upd_ne ne.symm]; exact nx))
theorem mem_bd {G : List Int} {m : Int} (hm : 0 ≤ m) (h : ∀ x ∈ G, 0 ≤ x ∧ x ≤ m) (p : Nat) : 0 ≤ G.getD p 0 ∧ G.getD p 0 ≤ m := ⟨nn_of (fun x hx => (h x hx).1) p, le_of hm (fun x hx => (h x hx).2) p⟩
end HX

namespace Dw
open PySem L2 HX Dry
def topS (i : Nat) : Stmt := PySem.Challenge.pw_drywalks_k08_whole_a_house_hour_by_hour.main.body.getD i (.Pass ⟨0, 0, 0, 0⟩)
abbrev s_is_from : Stmt := topS 6
theorem sc_is_from : FnScope ["thing", "low", "high"] ["thing", "low", "high"] (defScope s_is_from) := ⟨rfl, rfl, rfl, by decide +kernel, rfl, by decide +kernel, by decide +kernel⟩
abbrev s_is_walk : Stmt := topS 7
theorem sc_is_walk : FnScope ["places", "hours", "thing", "hour", "begin", "end", "wet", "room"] ["places", "hours", "thing"] (defScope s_is_walk) := ⟨rfl, rfl, rfl, by decide +kernel, rfl, by decide +kernel, by decide +kernel⟩
abbrev s_is_day : Stmt := topS 8
theorem sc_is_day : FnScope ["thing", "places", "hours", "walks", "one", "other"] ["thing"] (defScope s_is_day) := ⟨rfl, rfl, rfl, by decide +kernel, rfl, by decide +kernel, by decide +kernel⟩
abbrev s_are_from : Stmt := topS 9
theorem sc_are_from : FnScope ["day", "thing", "high", "one"] ["day", "thing", "high"] (defScope s_are_from) := ⟨rfl, rfl, rfl, by decide +kernel, rfl, by decide +kernel, by decide +kernel⟩
abbrev s_are_numbers : Stmt := topS 10
theorem sc_are_numbers : FnScope ["day", "thing"] ["day", "thing"] (defScope s_are_numbers) := ⟨rfl, rfl, rfl, by decide +kernel, rfl, by decide +kernel, by decide +kernel⟩
abbrev s_Soaked___init__ : Stmt := inClass (topS 19) 0
theorem sc_Soaked___init__ : FnScope ["self", "walk"] ["self", "walk"] (defScope s_Soaked___init__) := ⟨rfl, rfl, rfl, by decide +kernel, rfl, by decide +kernel, by decide +kernel⟩
abbrev s_Lacks___init__ : Stmt := inClass (topS 20) 0
theorem sc_Lacks___init__ : FnScope ["self", "place"] ["self", "place"] (defScope s_Lacks___init__) := ⟨rfl, rfl, rfl, by decide +kernel, rfl, by decide +kernel, by decide +kernel⟩
abbrev s_moved : Stmt := topS 22
theorem sc_moved : FnScope ["day", "hour", "carried", "places", "out", "into", "walk", "many"] ["day", "hour", "carried", "places"] (defScope s_moved) := ⟨rfl, rfl, rfl, by decide +kernel, rfl, by decide +kernel, by decide +kernel⟩
abbrev s_standing : Stmt := topS 23
theorem sc_standing : FnScope ["day", "starts", "carried", "found", "hour", "out", "into", "stands", "less", "more"] ["day", "starts", "carried"] (defScope s_standing) := ⟨rfl, rfl, rfl, by decide +kernel, rfl, by decide +kernel, by decide +kernel⟩
abbrev s_Flow___init__ : Stmt := inClass (topS 25) 0
theorem sc_Flow___init__ : FnScope ["self", "day", "given", "wanted", "walk"] ["self", "day", "given", "wanted"] (defScope s_Flow___init__) := ⟨rfl, rfl, rfl, by decide +kernel, rfl, by decide +kernel, by decide +kernel⟩
abbrev s_Flow_starts : Stmt := inClass (topS 25) 1
theorem sc_Flow_starts : FnScope ["self", "one", "other"] ["self"] (defScope s_Flow_starts) := ⟨rfl, rfl, rfl, by decide +kernel, rfl, by decide +kernel, by decide +kernel⟩
abbrev s_Flow_waits : Stmt := inClass (topS 25) 2
theorem sc_Flow_waits : FnScope ["self", "rows", "found", "hour", "left", "walk", "many", "stands", "least"] ["self"] (defScope s_Flow_waits) := ⟨rfl, rfl, rfl, by decide +kernel, rfl, by decide +kernel, by decide +kernel⟩
abbrev s_Flow_steps : Stmt := inClass (topS 25) 3
theorem sc_Flow_steps : FnScope ["self", "moment", "place", "waits", "found", "number", "walk"] ["self", "moment", "place", "waits"] (defScope s_Flow_steps) := ⟨rfl, rfl, rfl, by decide +kernel, rfl, by decide +kernel, by decide +kernel⟩
abbrev s_Flow_reached : Stmt := inClass (topS 25) 4
theorem sc_Flow_reached : FnScope ["self", "waits", "last", "found", "row", "place", "here", "moment", "number", "sign"] ["self"] (defScope s_Flow_reached) := ⟨rfl, rfl, rfl, by decide +kernel, rfl, by decide +kernel, by decide +kernel⟩
abbrev s_Flow_lessen : Stmt := inClass (topS 25) 5
theorem sc_Flow_lessen : FnScope ["self", "found", "some", "place", "way", "here", "number", "sign"] ["self"] (defScope s_Flow_lessen) := ⟨rfl, rfl, rfl, by decide +kernel, rfl, by decide +kernel, by decide +kernel⟩
abbrev s_Flow_settle : Stmt := inClass (topS 25) 6
theorem sc_Flow_settle : FnScope ["self", "going"] ["self"] (defScope s_Flow_settle) := ⟨rfl, rfl, rfl, by decide +kernel, rfl, by decide +kernel, by decide +kernel⟩
abbrev s_Flow_line : Stmt := inClass (topS 25) 7
theorem sc_Flow_line : FnScope ["self", "found", "counts", "place", "moment"] ["self"] (defScope s_Flow_line) := ⟨rfl, rfl, rfl, by decide +kernel, rfl, by decide +kernel, by decide +kernel⟩
abbrev s_settled : Stmt := topS 26
theorem sc_settled : FnScope ["day", "given", "wanted", "flow"] ["day", "given", "wanted"] (defScope s_settled) := ⟨rfl, rfl, rfl, by decide +kernel, rfl, by decide +kernel, by decide +kernel⟩
abbrev s_fewest : Stmt := topS 27
theorem sc_fewest : FnScope ["day", "wanted", "flow"] ["day", "wanted"] (defScope s_fewest) := ⟨rfl, rfl, rfl, by decide +kernel, rfl, by decide +kernel, by decide +kernel⟩
abbrev s_verdict : Stmt := topS 29
theorem sc_verdict : FnScope ["day", "starts", "wanted", "flow"] ["day", "starts", "wanted"] (defScope s_verdict) := ⟨rfl, rfl, rfl, by decide +kernel, rfl, by decide +kernel, by decide +kernel⟩
abbrev s_House___init__ : Stmt := inClass (topS 31) 0
theorem sc_House___init__ : FnScope ["self", "day", "starts"] ["self", "day", "starts"] (defScope s_House___init__) := ⟨rfl, rfl, rfl, by decide +kernel, rfl, by decide +kernel, by decide +kernel⟩
abbrev s_House___len__ : Stmt := inClass (topS 31) 1
theorem sc_House___len__ : FnScope ["self"] ["self"] (defScope s_House___len__) := ⟨rfl, rfl, rfl, by decide +kernel, rfl, by decide +kernel, by decide +kernel⟩
abbrev s_House___eq__ : Stmt := inClass (topS 31) 2
theorem sc_House___eq__ : FnScope ["self", "other"] ["self", "other"] (defScope s_House___eq__) := ⟨rfl, rfl, rfl, by decide +kernel, rfl, by decide +kernel, by decide +kernel⟩
abbrev s_House_hour : Stmt := inClass (topS 31) 3
theorem sc_House_hour : FnScope ["self", "carried", "now", "walks", "number", "walk", "many", "pair", "left", "place"] ["self", "carried"] (defScope s_House_hour) := ⟨rfl, rfl, rfl, by decide +kernel, rfl, by decide +kernel, by decide +kernel⟩
abbrev s_House_back : Stmt := inClass (topS 31) 4
theorem sc_House_back : FnScope ["self"] ["self"] (defScope s_House_back) := ⟨rfl, rfl, rfl, by decide +kernel, rfl, by decide +kernel, by decide +kernel⟩
abbrev s_House_gone : Stmt := inClass (topS 31) 5
theorem sc_House_gone : FnScope ["self"] ["self"] (defScope s_House_gone) := ⟨rfl, rfl, rfl, by decide +kernel, rfl, by decide +kernel, by decide +kernel⟩
abbrev s_House_stands : Stmt := inClass (topS 31) 6
theorem sc_House_stands : FnScope ["self"] ["self"] (defScope s_House_stands) := ⟨rfl, rfl, rfl, by decide +kernel, rfl, by decide +kernel, by decide +kernel⟩
abbrev s_House_log : Stmt := inClass (topS 31) 7
theorem sc_House_log : FnScope ["self"] ["self"] (defScope s_House_log) := ⟨rfl, rfl, rfl, by decide +kernel, rfl, by decide +kernel, by decide +kernel⟩
abbrev s_House_can_stay_dry : Stmt := inClass (topS 31) 8
theorem sc_House_can_stay_dry : FnScope ["self", "wanted", "places", "hours", "walks", "now", "stands", "least", "left", "walk"] ["self", "wanted"] (defScope s_House_can_stay_dry) := ⟨rfl, rfl, rfl, by decide +kernel, rfl, by decide +kernel, by decide +kernel⟩
abbrev s__law_bag : Stmt := topS 33
theorem sc__law_bag : FnScope ["script", "k", "cell", "seed"] ["script", "k"] (defScope s__law_bag) := ⟨rfl, rfl, rfl, by decide +kernel, rfl, by decide +kernel, by decide +kernel⟩
abbrev s__law_take : Stmt := topS 34
theorem sc__law_take : FnScope ["bag", "count", "found"] ["bag", "count"] (defScope s__law_take) := ⟨rfl, rfl, rfl, by decide +kernel, rfl, by decide +kernel, by decide +kernel⟩
abbrev s__law_of : Stmt := topS 35
theorem sc__law_of : FnScope ["bag", "some"] ["bag", "some"] (defScope s__law_of) := ⟨rfl, rfl, rfl, by decide +kernel, rfl, by decide +kernel, by decide +kernel⟩
abbrev s__law_day : Stmt := topS 36
theorem sc__law_day : FnScope ["bag", "many", "hours", "walks", "places_so", "long", "found", "turn", "begin", "end", "wet", "room"] ["bag", "many", "hours", "walks"] (defScope s__law_day) := ⟨rfl, rfl, rfl, by decide +kernel, rfl, by decide +kernel, by decide +kernel⟩
abbrev s__law_wanted : Stmt := topS 37
theorem sc__law_wanted : FnScope ["bag", "day", "most", "place"] ["bag", "day", "most"] (defScope s__law_wanted) := ⟨rfl, rfl, rfl, by decide +kernel, rfl, by decide +kernel, by decide +kernel⟩
abbrev s__law_stands : Stmt := topS 38
theorem sc__law_stands : FnScope ["day", "starts", "carried", "found", "short", "hour", "here", "walk", "many"] ["day", "starts", "carried"] (defScope s__law_stands) := ⟨rfl, rfl, rfl, by decide +kernel, rfl, by decide +kernel, by decide +kernel⟩
abbrev s__law_is_number : Stmt := topS 39
theorem sc__law_is_number : FnScope ["thing", "least", "most"] ["thing", "least", "most"] (defScope s__law_is_number) := ⟨rfl, rfl, rfl, by decide +kernel, rfl, by decide +kernel, by decide +kernel⟩
abbrev s__law_is_plan : Stmt := topS 40
theorem sc__law_is_plan : FnScope ["day", "wanted", "thing", "starts", "carried", "one", "walk", "many", "rows", "least"] ["day", "wanted", "thing"] (defScope s__law_is_plan) := ⟨rfl, rfl, rfl, by decide +kernel, rfl, by decide +kernel, by decide +kernel⟩
abbrev s__law_kind : Stmt := topS 41
theorem sc__law_kind : FnScope ["e", "some", "words", "word", "is_it"] ["e"] (defScope s__law_kind) := ⟨rfl, rfl, rfl, by decide +kernel, rfl, by decide +kernel, by decide +kernel⟩
abbrev s__law_did : Stmt := topS 42
theorem sc__law_did : FnScope ["house", "deed", "e"] ["house", "deed"] (defScope s__law_did) := ⟨rfl, rfl, rfl, by decide +kernel, rfl, by decide +kernel, by decide +kernel⟩
abbrev s__law_hour_due : Stmt := topS 43
theorem sc__law_hour_due : FnScope ["day", "rows", "carried", "now", "here", "walks", "at", "walk", "many", "pair", "soaked", "lacks", "place"] ["day", "rows", "carried"] (defScope s__law_hour_due) := ⟨rfl, rfl, rfl, by decide +kernel, rfl, by decide +kernel, by decide +kernel⟩
abbrev s__law_due : Stmt := topS 44
theorem sc__law_due : FnScope ["day", "rows", "deed", "wanted", "now", "one", "least", "left", "walk"] ["day", "rows", "deed"] (defScope s__law_due) := ⟨rfl, rfl, rfl, by decide +kernel, rfl, by decide +kernel, by decide +kernel⟩
abbrev s__law_a_deed : Stmt := topS 45
theorem sc__law_a_deed : FnScope ["bag", "day", "plan", "now", "walks", "at", "walk", "good", "drawn", "kind_so", "place", "odd"] ["bag", "day", "plan", "now"] (defScope s__law_a_deed) := ⟨rfl, rfl, rfl, by decide +kernel, rfl, by decide +kernel, by decide +kernel⟩
abbrev s__law_stands_so : Stmt := topS 46
theorem sc__law_stands_so : FnScope ["house", "rows", "row"] ["house", "rows"] (defScope s__law_stands_so) := ⟨rfl, rfl, rfl, by decide +kernel, rfl, by decide +kernel, by decide +kernel⟩
abbrev s_law : Stmt := topS 47
theorem sc_law : FnScope ["script", "bag", "day", "number", "starts", "plan", "start", "house", "other", "rows", "k", "turn", "deed", "due", "stands_so", "carried", "row", "kinds", "one", "two", "e"] ["script"] (defScope s_law) := ⟨rfl, rfl, rfl, by decide +kernel, rfl, by decide +kernel, by decide +kernel⟩
end Dw


namespace Dw
open PySem L2 HX Dry
local macro_rules | `(tactic| walk_at "sm") => `(tactic| first
  | exact Same.refl _
  | assumption
  | (refine' Same.trans ?_ (L2.Same.new (by assumption)); walk_at "sm")
  | (refine' L2.Same.mut ?_ (by assumption); walk_at "sm")
  | (refine' Same.trans ?_ (by assumption); walk_at "sm"))
local macro_rules | `(tactic| walk_at "tx") => `(tactic| first
  | exact Tx.refl _
  | assumption
  | (refine' Tx.of ?_; walk_at "sm")
  | (refine' Tx.trans ?_ (Tx.new (by assumption)); walk_at "tx")
  | (refine' Tx.trans ?_ (Tx.mutL (by walk_at "gt")); walk_at "tx")
  | (refine' Tx.trans ?_ (Tx.mutI (by walk_at "gt")); walk_at "tx")
  | (refine' Tx.trans ?_ (Tx.mutD (by walk_at "gt")); walk_at "tx")
  | (refine' Tx.trans ?_ (Tx.of (by assumption)); walk_at "tx")
  | (refine' Tx.trans ?_ (by assumption); walk_at "tx"))
local macro_rules | `(tactic| walk_at "sq") => `(tactic| first
  | assumption
  | with_reducible exact SqT.of upd_same
  | with_reducible exact SqL.of upd_same
  | exact SqT.of (by assumption)
  | exact SqL.of (by assumption)
  | (refine' Tx.tup ?_ (by assumption); walk_at "tx")
  | (refine' L2.Same.lst ?_ (by assumption); walk_at "sm")
  | (refine' Tx.tup ?_ (SqT.of (by assumption)); walk_at "tx")
  | (refine' L2.Same.lst ?_ (SqL.of (by assumption)); walk_at "sm")
  | exact SqL.of (by walk_at "gt")
  | exact SqT.of (by walk_at "gt"))
local macro_rules | `(tactic| walk_at "gt") => `(tactic| first
  | assumption
  | with_reducible exact upd_same
  | ((with_reducible refine Eq.trans upd_same ?_); rfl)
  | ((with_reducible refine' get_new ?g1 ?g2); (case g2 => assumption); (case g1 => walk_at "gt"))
  | ((with_reducible refine' get_mut ?g1 ?g2); (case g1 => assumption); (case g2 => walk_at "gt"))
  | ((with_reducible refine' get_mut ?g1 ?g2); (case g1 => exact Ne.symm (by assumption)); (case g2 => walk_at "gt"))
  | (refine' (by assumption : Same _ _) _ _ ?_; walk_at "gt"))
local macro_rules | `(tactic| walk_at "ix") => `(tactic| first
  | exact at0 | exact at1 | exact at2' | exact at3 | exact at4
  | exact atI_nat (by assumption)
  | rfl)
local macro_rules | `(tactic| walk_at "cd") => `(tactic| first
  | (show (0 : Int) < _; omega)
  | exact And.intro (by omega) (by omega)
  | exact Or.inl (And.intro (by omega) (by omega))
  | exact Or.inr (And.intro (by omega) (by omega))
  | exact And.intro (by decide) (And.intro (by decide) (by decide)))
local macro_rules | `(tactic| walk_at "kc") => `(tactic| first | exact Ctx.cl (by assumption) | exact CtxH.cl (by assumption))
local macro_rules | `(tactic| walk_at "na") => `(tactic| first | exact CtxH.day (by assumption) | exact CtxH.rows (by assumption) | exact CtxH.past (by assumption) | exact Ctx.day (by assumption) | exact Ctx.given (by assumption) | exact Ctx.wanted (by assumption) | exact Ctx.carried (by assumption) | exact Ctx.more (by assumption))
local macro_rules | `(tactic| walk_at "few") => `(tactic| first | exact (by decide : 0 < 1000) | exact (by decide : 1 < 1000) | exact (by decide : 2 < 1000) | exact (by decide : 3 < 1000) | exact (by decide : 4 < 1000) | exact (by decide : 5 < 1000))
local macro_rules | `(tactic| walk_at "st") => `(tactic| first
  | with_reducible refine c_var rfl ?_
  | with_reducible refine c_c ?_
  | with_reducible refine c_op ?_
  | with_reducible refine c_I0 ?_
  | ((with_reducible refine' c_I ?k1 ?_); (case k1 => walk_at "cd"))
  | ((with_reducible refine' c_ixT ?k1 ?k2 ?_); (case k1 => walk_at "sq"); (case k2 => walk_at "ix"))
  | ((with_reducible refine' c_ixL ?k1 ?k2 ?_); (case k1 => walk_at "sq"); (case k2 => walk_at "ix"))
  | with_reducible refine c_eqI ?_
  | with_reducible refine c_neI ?_
  | with_reducible refine c_test ?_
  | with_reducible refine c_tB ?_
  | with_reducible refine c_and ?_
  | with_reducible refine c_or ?_
  | with_reducible refine c_not ?_
  | with_reducible refine c_andV ?_
  | with_reducible refine c_orV ?_
  | with_reducible refine c_notV ?_
  | with_reducible refine c_if ?_
  | with_reducible refine c_chain ?_
  | with_reducible refine c_nil ?_
  | with_reducible refine c_cons ?_
  | with_reducible refine c_tup ?_
  | with_reducible refine c_lst ?_
  | with_reducible refine c_cb ?_
  | with_reducible refine c_call ?_
  | ((with_reducible refine' c_selfld rfl ?k1 ?k0 ?k2 ?k3 ?_); (case k1 => walk_at "gt"); (case k0 => walk_at "kc"); (case k2 => walk_at "na"); (case k3 => exact rfl))
  | ((with_reducible refine' c_selmeth rfl ?k1 ?k2 ?_); (case k1 => walk_at "gt"); (case k2 => exact rfl))
  | with_reducible refine c_fld ?_
  | with_reducible refine c_part ?_
  | with_reducible refine c_nopart ?_
  | with_reducible refine c_sl ?_
  | with_reducible refine c_bm ?_
  | with_reducible refine c_bm0 ?_
  | with_reducible refine c_un ?_
  | with_reducible refine c_U ?_
  | with_reducible refine c_next ?_
  | with_reducible refine c_asg ?_
  | with_reducible refine c_gname ?_
  | with_reducible refine c_ret ?_
  | with_reducible refine c_ifS ?_
  | with_reducible refine c_drop ?_
  | with_reducible refine c_aug rfl ?_
  | with_reducible refine c_ipI ?_
  | with_reducible refine c_par ?_
  | with_reducible refine c_augS ?_
  | ((with_reducible refine' c_setL ?k1 ?k2 ?_); (case k1 => walk_at "gt"); (case k2 => assumption))
  | ((with_reducible refine' c_gtup ?k1 ?k2 ?_); (case k1 => walk_at "sq"); (case k2 => rfl))
  | with_reducible refine c_gcons ?_
  | with_reducible refine c_gnil ?_
  | with_reducible refine c_dget ?_
  | with_reducible refine c_din ?_
  | with_reducible refine c_dnotin ?_
  | with_reducible refine c_dput ?_
  | with_reducible refine c_for ?_
  | with_reducible refine c_zip2 ?_
  | with_reducible refine c_zip3 ?_
  | with_reducible refine c_enum ?_
  | with_reducible refine c_rng1 ?_
  | with_reducible refine c_iList ?_
  | with_reducible refine c_iTup ?_
  | with_reducible refine c_lc ?_
  | with_reducible refine c_bl ?_
  | with_reducible refine c_par2 ?_
  | with_reducible refine c_ei ?_
  | with_reducible refine c_tupL (SqL.of upd_same) ?_
  | with_reducible refine c_lisL (SqL.of upd_same) ?_
  | with_reducible refine c_lenL (SqL.of upd_same) ?_
  | with_reducible refine c_tupL (SqL.of (by assumption)) ?_
  | with_reducible refine c_lisL (SqL.of (by assumption)) ?_
  | with_reducible refine c_lenL (SqL.of (by assumption)) ?_
  | with_reducible refine c_lenL (by assumption) ?_
  | ((with_reducible refine' c_tupT ?k1 ?_); (case k1 => walk_at "sq"))
  | ((with_reducible refine' c_tupL ?k1 ?_); (case k1 => walk_at "sq"))
  | ((with_reducible refine' c_lisT ?k1 ?_); (case k1 => walk_at "sq"))
  | ((with_reducible refine' c_lisL ?k1 ?_); (case k1 => walk_at "sq"))
  | ((with_reducible refine' c_lenT ?k1 ?_); (case k1 => walk_at "sq"))
  | ((with_reducible refine' c_lenL ?k1 ?_); (case k1 => walk_at "sq"))
  | with_reducible refine c_intW ?_
  | with_reducible refine c_intI ?_
  | with_reducible refine c_intBl ?_
  | with_reducible refine c_max ?_
  | with_reducible refine c_min ?_
  | with_reducible refine c_meth ?_
  | with_reducible refine c_make ?_
  | with_reducible refine c_yes ?_
  | with_reducible refine c_gsub ?_
  | with_reducible refine c_wput ?_
  | with_reducible refine c_sfld ?_
  | ((with_reducible refine' c_sfldv ?k1 ?k0 ?k2 ?k3 ?_); (case k1 => walk_at "gt"); (case k0 => walk_at "kc"); (case k2 => walk_at "na"); (case k3 => walk_at "few"))
  | ((with_reducible refine' c_fldv ?k1 ?k0 ?k2 ?k3 ?_); (case k1 => walk_at "gt"); (case k0 => walk_at "kc"); (case k2 => walk_at "na"); (case k3 => exact rfl))
  | ((with_reducible refine' c_methv ?k1 ?k2 ?_); (case k1 => walk_at "gt"); (case k2 => exact rfl))
  | ((with_reducible refine' c_bml ?k1 ?_); (case k1 => walk_at "sq")))
local macro_rules | `(tactic| walk_at "go") => `(tactic| repeat (first | walk_at "st" | with_reducible refine c_seq ?_))
local macro_rules | `(tactic| walk_at "gn") => `(tactic| repeat (walk_at "st"))
section
variable {P : Program} {w : World} {K : PySem.W.Frag} {mg : Str → Option Value} {base : Heap}
def spIsFrom (K : PySem.W.Frag) : Sp := fun vs H Q _ => ∃ (x : V) (lo hi : Int), vs = [x, .int lo, .int hi] ∧ Kn K H x ∧ Q (.bl (isFromV x lo hi)) H
theorem df_is_from (B : Bl mg) (F : Has K mg "is_from" s_is_from) : Df P w K mg base "is_from" 1 ["thing", "low", "high"] (spIsFrom K) := by
  refine df_of F sc_is_from (fun _ _ _ _ _ _ us hl => match us, hl with | [_, _, _], _ => rfl) (fun vs H Q E h => ?_) (fun f cdv A outer s H vs Q E hr h => ?_)
  · obtain ⟨x, lo, hi, rfl, _⟩ := h
    rfl
  · obtain ⟨x, lo, hi, rfl, hk, k⟩ := h
    refine ⟨(tRet (tAndV (tCB (rIsi K) (tCons (tVar 0) (tCons (tC (.ty "int")) tNil))) (tAndV (tNotV (tCB (rIsi K) (tCons (tVar 0) (tCons (tC (.ty "bool")) tNil)))) (tChain (rI0 fun i j => .bl (decide (i ≤ j))) (rI0 fun i j => .bl (decide (i ≤ j))) (tVar 1) (tVar 0) (tVar 2))))),
      (pss_one (ps_ret (pe_and (pe_callB call_isi (by rfl) B.isinstance bt_isinstance (pa_cons (pv 0) (pa_cons (pe_bltn (v := .ty "int") (by rfl) B.int bt_int rfl) pa_nil))) (pe_and (pe_not (pe_callB call_isi (by rfl) B.isinstance bt_isinstance (pa_cons (pv 0) (pa_cons (pe_bltn (v := .ty "bool") (by rfl) B.bool bt_bool rfl) pa_nil)))) (pe_one (pe_chain op_le op_le (pv 1) (pv 0) (pv 2))))))), ?_⟩
    walk_at "go"
    refine isi_int hk ?_
    walk_at "go"
    cases x with
    | int i =>
      refine iteT ?_
      walk_at "go"
      refine isi_bool hk ?_
      walk_at "go"
      refine iteT ?_
      walk_at "go"
      refine ite2 (fun h1 => ?_) (fun h1 => ?_)
      · walk_at "go"
        have e : decide (i ≤ hi) = isFromV (.int i) lo hi := by
          show _ = (decide (lo ≤ i) && decide (i ≤ hi))
          rw [h1]; rfl
        rw [e]; exact k
      · have e : false = isFromV (.int i) lo hi := by
          show _ = (decide (lo ≤ i) && decide (i ≤ hi))
          rw [Bool.eq_false_iff.mpr h1]; rfl
        rw [e]; exact k
    | bl b =>
      refine iteT ?_
      walk_at "go"
      refine isi_bool hk ?_
      walk_at "go"
      exact iteF k
    | non => exact iteF k
    | str z => exact iteF k
    | ref a => exact iteF k
    | byt _ => exact hk.elim
    | flt _ => exact hk.elim
    | ty _ => exact hk.elim
def spMoved (K : PySem.W.Frag) : Sp := fun vs H Q _ => ∃ (a aw ac : Addr) (ds : List V) (d : Day) (hour : Nat) (b : Bool) (cs : List Int), vs = [.ref a, .int (hour : Int), .ref ac, .int (d.P : Int)] ∧ DayAt K H a aw ds d ∧ d.Ok ∧ d.Sm ∧
  SqB K b H ac (vI cs) ∧ cs.length = d.ws.length ∧ ∀ (H' : Hp) (t p q : Addr), Same H H' → H' t = some (.tup [.ref p, .ref q]) → H' p = some (.lst (vI (moved d hour cs).1)) → H' q = some (.lst (vI (moved d hour cs).2)) → Q (.ref t) H'
theorem rep0 (n : Nat) : (List.replicate n [V.int 0]).flatten = vI (List.replicate n 0) := by
  induction n with
  | zero => rfl
  | succ n ih =>
    rw [List.replicate_succ, List.flatten_cons, ih]
    rfl
theorem df_moved (B : Bl mg) (F : Has K mg "moved" s_moved) : Df P w K mg base "moved" 1 ["day", "hour", "carried", "places"] (spMoved K) := by
  refine df_of F sc_moved (fun _ _ _ _ _ _ us hl => match us, hl with | [_, _, _, _], _ => rfl) (fun vs H Q E h => ?_) (fun f cdv A outer s H vs Q E hr h => ?_)
  · obtain ⟨a, aw, ac, ds, d, hour, b, cs, rfl, _⟩ := h
    rfl
  · obtain ⟨a, aw, ac, ds, d, hour, b, cs, rfl, hd, ok, sm, hc, hl, k⟩ := h
    have hday := hd.day
    have hP := sm.P
    have hW := sm.W
    refine ⟨(tSeq (tPar 4 5 (tCons (tOp rRep (tLst (tCons (tC (.int 0)) tNil)) (tVar 3)) (tCons (tOp rRep (tLst (tCons (tC (.int 0)) tNil)) (tVar 3)) tNil))) (tSeq (tFor (iZip2 K (tCons (tOp (rIxT K) (tVar 0) (tC (.int 2))) (tCons (tVar 2) tNil))) (gTup K 2 (gCons (gName 6) (gCons (gName 7) gNil))) (tIfS (tTest (tOp rEq (tOp (rIxT K) (tVar 6) (tC (.int 0))) (tVar 1))) (tSeq (tAugS (tVar 4) (tOp (rIxT K) (tVar 6) (tC (.int 1))) (tVar 7) (rIxL K) (ipI fun i j => i + j) rSetL) (tAugS (tVar 5) (tOp (rIxT K) (tVar 6) (tC (.int 2))) (tVar 7) (rIxL K) (ipI fun i j => i + j) rSetL)) tNext)) (tRet (tTup (tCons (tVar 4) (tCons (tVar 5) tNil)))))),
      (pss_cons (ps_par (i := 4) (j := 5) (by rfl) sc_moved.nd rfl rfl (by decide) rfl rfl (pa_cons (pe_op op_rep (pe_lst (pa_cons pe_int pa_nil)) (pv 3)) (pa_cons (pe_op op_rep (pe_lst (pa_cons pe_int pa_nil)) (pv 3)) pa_nil)) (by rfl))
      (pss_cons (ps_for PassesOwn.never rfl (pi_zip2 (by rfl) B.zip (pa_cons (pe_ix ix_tup (pv 0) pe_int (fun _ _ => rfl)) (pa_cons (pv 2) pa_nil))) (pg_tup rfl (pgs_cons (pg_name (i := 6) sc_moved.nd rfl (by first | exact Or.inl rfl | exact Or.inr rfl)) (pgs_cons (pg_name (i := 7) sc_moved.nd rfl (by first | exact Or.inl rfl | exact Or.inr rfl)) pgs_nil)))
      (pss_one (ps_if (pt_cmpR op_eq (pe_ix ix_tup (pv 6) pe_int (fun _ _ => rfl)) (pv 1) (nomark _)) (pss_cons (ps_augS (pv 4) (pe_ix ix_tup (pv 6) pe_int (fun _ _ => rfl)) get_list (pv 7) ip_add set_list)
      (pss_one (ps_augS (pv 5) (pe_ix ix_tup (pv 6) pe_int (fun _ _ => rfl)) get_list (pv 7) ip_add set_list))) pss_nil)))
      (pss_one (ps_ret (pe_tup (pa_cons (pv 4) (pa_cons (pv 5) pa_nil))))))), ?_⟩
    walk_at "go"
    refine ⟨by decide, fun p1 np1 => ?_⟩
    walk_at "go"
    refine ⟨p1, (d.P : Int), [.int 0], rfl, rfl, upd_same, by omega, by omega, szl (by simp; omega), fun p np => ?_⟩
    walk_at "go"
    refine ⟨by decide, fun p2 np2 => ?_⟩
    walk_at "go"
    refine ⟨p2, (d.P : Int), [.int 0], rfl, rfl, upd_same, by omega, by omega, szl (by simp; omega), fun q nq => ?_⟩
    walk_at "go"
    have eP : ((d.P : Int)).toNat = d.P := by omega
    rw [eP, rep0] at np2 nq ⊢
    have np0 : H p = none := none_upd np
    have nq0 : H q = none := none_upd (none_upd (none_upd nq))
    have nqp : q ≠ p := ne_upd (none_upd nq)
    refine ⟨true, b, aw, ac, ds, vI cs, rfl, (show SqT K _ _ _ from by have := hd.seq; walk_at "sq"), L2.Same.sqB (by walk_at "sm") hc, ?_⟩
    refine for_it (walk_zip2 (n := d.ws.length) hd.wks.len (by simp [hl])) (fun i σ' H' => ∃ v6 v7, σ' = [some (.ref a), some (.int (hour : Int)), some (.ref ac), some (.int (d.P : Int)), some (.ref p), some (.ref q), v6, v7] ∧ Same H H' ∧
      H' p = some (.lst (vI (((d.ws.zip cs).take i).foldl (movedStep hour) (List.replicate d.P 0, List.replicate d.P 0)).1)) ∧ H' q = some (.lst (vI (((d.ws.zip cs).take i).foldl (movedStep hour) (List.replicate d.P 0, List.replicate d.P 0)).2)))
      ⟨_, _, rfl, by walk_at "sm", by walk_at "gt", by walk_at "gt"⟩ (fun i σ' H' _ ⟨_, _, _, e, _⟩ => ⟨e.tup hd.seq, e.sqB hc⟩) ?_ ?_
    · rintro i x σ' H' H2 hi ⟨v6, v7, rfl, e, hp, hq⟩ ⟨T, x, y, rfl, nT, rfl, hx, hy⟩
      obtain ⟨w, xw, hw, rfl, hwT⟩ := hd.wks.get hx
      obtain ⟨c, hcs, rfl⟩ : ∃ c, cs[i]? = some c ∧ y = .int c := by
        have : i < cs.length := by omega
        exact ⟨cs[i], List.getElem?_eq_getElem this, by
          have z : (vI cs)[i]? = some (.int cs[i]) := vI_get' (List.getElem?_eq_getElem this)
          dsimp only at hy
          rw [z] at hy; exact (Option.some.inj hy).symm⟩
      have hm := List.mem_of_getElem? hw
      have mv := moved_fold hour (d.ws.take i) (cs.take i) (List.replicate d.P 0, List.replicate d.P 0) (fun w hw => by simp; exact ⟨ok.b w (List.mem_of_mem_take hw), ok.e w (List.mem_of_mem_take hw)⟩) (by simp; omega)
      have et : (d.ws.take i).zip (cs.take i) = (d.ws.zip cs).take i := by simp [List.zip, List.take_zipWith]
      rw [et] at mv
      obtain ⟨l1, l2, _, _⟩ := mv
      rw [foldl_take _ _ (zip_get hw hcs)]
      generalize ((d.ws.zip cs).take i).foldl (movedStep hour) (List.replicate d.P 0, List.replicate d.P 0) = o at hp hq l1 l2 ⊢
      have b1 : w.b < o.1.length := by rw [l1]; simp; exact ok.b w hm
      have b2 : w.e < o.2.length := by rw [l2]; simp; exact ok.e w hm
      have g1 := vI_get b1
      have g2 := vI_get b2
      have j1 : ixN (vI o.1).length (w.b : Int) = some w.b := ixN_nat (by simpa using b1)
      have j2 : ixN (vI o.2).length (w.e : Int) = some w.e := ixN_nat (by simpa using b2)
      walk_at "go"
      refine ite2 (fun h => ?_) (fun h => ?_)
      · have hh : w.h = hour := by have := of_decide_eq_true h; omega
        walk_at "go"
        refine ⟨_, _, rfl, by walk_at "sm", ?_, ?_⟩
        · unfold movedStep
          rw [if_pos hh, vI_set]
          walk_at "gt"
        · unfold movedStep
          rw [if_pos hh, upd_same, vI_set]
          rfl
      · have hh : ¬ w.h = hour := fun z => h (decide_eq_true (by omega))
        unfold movedStep
        rw [if_neg hh]
        walk_at "go"
        exact ⟨_, _, rfl, by walk_at "sm", by walk_at "gt", by walk_at "gt"⟩
    · rintro σ' H' ⟨v6, v7, rfl, e, hp, hq⟩
      have et : (d.ws.zip cs).take d.ws.length = d.ws.zip cs := List.take_of_length_le (by simp [List.length_zip]; omega)
      rw [et] at hp hq
      walk_at "go"
      refine ⟨szl (by simp), fun t nt => ?_⟩
      exact k _ t p q (by walk_at "sm") upd_same (by walk_at "gt") (by walk_at "gt")
end
section
variable {P : Program} {w : World} {K : PySem.W.Frag} {mg : Str → Option Value} {base : Heap}
def spStanding (K : PySem.W.Frag) : Sp := fun vs H Q _ => ∃ (a aw as ac : Addr) (ds : List V) (d : Day) (b : Bool) (S cs : List Int), vs = [.ref a, .ref as, .ref ac] ∧ DayAt K H a aw ds d ∧ d.Ok ∧ d.Sm ∧
  SqT K H as (vI S) ∧ S.length = d.P ∧ SqB K b H ac (vI cs) ∧ cs.length = d.ws.length ∧ ∀ (H' : Hp) (r : Addr) (rs : List V), Same H H' → H r = none → H' r = some (.lst rs) → Refs true K H' rs ((standing d S cs).map vI) → Q (.ref r) H'
theorem df_standing (B : Bl mg) (D_moved : Df P w K mg base "moved" 1 ["day", "hour", "carried", "places"] (spMoved K)) (F : Has K mg "standing" s_standing) : Df P w K mg base "standing" 2 ["day", "starts", "carried"] (spStanding K) := by
  refine df_of F sc_standing (fun _ _ _ _ _ _ us hl => match us, hl with | [_, _, _], _ => rfl) (fun vs H Q E h => ?_) (fun f cdv A outer s H vs Q E hr h => ?_)
  · obtain ⟨a, aw, as, ac, ds, d, b, S, cs, rfl, _⟩ := h
    rfl
  · obtain ⟨a, aw, as, ac, ds, d, b, S, cs, rfl, hd, ok, sm, hS, hSl, hc, hl, k⟩ := h
    have hday := hd.day
    have hP := sm.P
    have hT := sm.T
    refine ⟨(tSeq (tAsg (tLst (tCons (tCB (rTupOf K) (tCons (tVar 1) tNil)) tNil)) (gName 3)) (tSeq (tFor (iRng1 (tCons (tOp (rIxT K) (tVar 0) (tC (.int 1))) tNil)) (gName 4) (tSeq (tAsg (tCall (spMoved K) [] E0 (tCons (tVar 0) (tCons (tVar 4) (tCons (tVar 2) (tCons (tOp (rIxT K) (tVar 0) (tC (.int 0))) tNil))))) (gTup K 2 (gCons (gName 5) (gCons (gName 6) gNil)))) (tDrop (tBM K "list" rAppend (tVar 3) (tCons (tCB (rTupOf K) (tCons (tLc (iZip3 K (tCons (tOp (rIxL K) (tVar 3) (tUn (rU fun i => .int (-i)) (tC (.int 1)))) (tCons (tVar 5) (tCons (tVar 6) tNil)))) (gTup K 3 (gCons (gName 7) (gCons (gName 8) (gCons (gName 9) gNil)))) tYes (tOp (rI0 fun i j => .int (i + j)) (tOp (rI0 fun i j => .int (i - j)) (tVar 7) (tVar 8)) (tVar 9)) [7, 8, 9]) tNil)) tNil))))) (tRet (tVar 3)))),
      (pss_cons (ps_set (i := 3) sc_standing.nd rfl (by first | exact Or.inl rfl | exact Or.inr rfl) (pe_lst (pa_cons (pe_callTy call_tuple_of (by rfl) B.tuple bt_tuple (pa_cons (pv 1) pa_nil)) pa_nil)))
      (pss_cons (ps_for PassesOwn.never rfl (pi_range1 (by rfl) B.range (pa_cons (pe_ix ix_tup (pv 0) pe_int (fun _ _ => rfl)) pa_nil)) (pg_name (i := 4) sc_standing.nd rfl (by first | exact Or.inl rfl | exact Or.inr rfl))
      (pss_cons (ps_asg (pe_df D_moved (hr.mono (by decide)) (by rfl) (pa_cons (pv 0) (pa_cons (pv 4) (pa_cons (pv 2) (pa_cons (pe_ix ix_tup (pv 0) pe_int (fun _ _ => rfl)) pa_nil))))) (pg_tup rfl (pgs_cons (pg_name (i := 5) sc_standing.nd rfl (by first | exact Or.inl rfl | exact Or.inr rfl)) (pgs_cons (pg_name (i := 6) sc_standing.nd rfl (by first | exact Or.inl rfl | exact Or.inr rfl)) pgs_nil))))
      (pss_one (ps_expr (pe_bm PySem.F.plainAttrs_list PySem.F.slot_list_append PySem.F.type_list_append mt_append (pv 3) (pa_cons (pe_callTy call_tuple_of (by rfl) B.tuple bt_tuple (pa_cons (pe_lc (own := [("stands", 7), ("less", 8), ("more", 9)]) (g := (gTup K 3 (gCons (gName 7) (gCons (gName 8) (gCons (gName 9) gNil))))) (tt := tYes) (te := (tOp (rI0 fun i j => .int (i + j)) (tOp (rI0 fun i j => .int (i - j)) (tVar 7) (tVar 8)) (tVar 9))) rfl sc_standing.nd (pi_zip3 (by rfl) B.zip (pa_cons (pe_ix ix_list (pv 3) (pe_un un_neg pe_int) (fun _ _ => rfl)) (pa_cons (pv 5) (pa_cons (pv 6) pa_nil)))) (blkOk_by (own := [("stands", 7), ("less", 8), ("more", 9)]) (N := ["day", "starts", "carried", "found", "hour", "out", "into", "stands", "less", "more"]) (sc := defScope s_standing) (by decide +kernel)) (fun _ _ _ _ _ => (pg_tup rfl (pgs_cons (pg_name (i := 7) sc_standing.nd rfl (by first | exact Or.inl rfl | exact Or.inr rfl)) (pgs_cons (pg_name (i := 8) sc_standing.nd rfl (by first | exact Or.inl rfl | exact Or.inr rfl)) (pgs_cons (pg_name (i := 9) sc_standing.nd rfl (by first | exact Or.inl rfl | exact Or.inr rfl)) pgs_nil))))) (fun _ _ _ _ _ => pts_nil) (fun _ _ _ _ _ => (pe_op op_add (pe_op op_sub (pv 7) (pv 8)) (pv 9)))) pa_nil)) pa_nil))))))
      (pss_one (ps_ret (pv 3))))), ?_⟩
    walk_at "go"
    refine ⟨szl (by simp), fun r nr => ?_⟩
    walk_at "go"
    refine ⟨_, rfl, by omega, by omega, ?_⟩
    rw [Int.toNat_natCast]
    refine for_it walk_rng (fun i σ' H' => ∃ v4 v5 v6 rs, σ' = [some (.ref a), some (.ref as), some (.ref ac), some (.ref r), v4, v5, v6, none, none, none] ∧ Same H H' ∧ H' r = some (.lst rs) ∧
      Refs true K H' rs (((List.range (i + 1)).map (rowAt d S cs)).map vI)) ⟨_, _, _, _, rfl, Same.new nr, upd_same, ?_⟩ (fun _ _ _ _ _ => trivial) ?_ ?_
    · exact Refs.nil.snoc (vss := []) (show SqT K _ _ _ from (Same.new nr).tup hS)
    · rintro i x σ' H' H2 hi ⟨v4, v5, v6, rs, rfl, e, hr', hrs⟩ ⟨rfl, rfl⟩
      have rsp := rowAt_spec ok S cs hl hSl
      have hdH := hd.tx (.of e)
      have hday' := hdH.day
      walk_at "go"
      refine ⟨a, aw, ac, ds, d, i, b, cs, rfl, hdH, ok, sm, e.sqB hc, hl, fun H1 t p q e1 ht hp hq => ?_⟩
      walk_at "go"
      have hrl : rs.length = i + 1 := by rw [hrs.len]; simp
      obtain ⟨x, hx, hxs⟩ := hrs.at_ i (vI (rowAt d S cs i)) (by simp [List.getElem?_range])
      have hr1 := e1 _ _ hr'
      walk_at "go"
      refine c_ixL (SqL.of hr1) (atLast (by rw [hrl]; exact hx)) ?_
      walk_at "go"
      obtain ⟨m1, m2, _, _⟩ := moved_spec ok i cs hl
      refine ⟨true, false, false, x, p, q, _, _, _, rfl, e1.tup hxs, SqL.of hp, SqL.of hq, fun D nD => ?_⟩
      refine lc_it (walk_zip3 (n := d.P) (by rw [List.length_map]; exact (rsp i).1) (by rw [List.length_map]; exact m1) (by rw [List.length_map]; exact m2))
        (fun j H2 => Same H1 H2 ∧ H2 D = some (.lst (vI ((rowAt d S cs (i + 1)).take j)))) ⟨Same.new nD, upd_same⟩ (fun j H2 _ h => ⟨h.1.tup (e1.tup hxs), h.1.lst (SqL.of hp), h.1.lst (SqL.of hq)⟩) ?_ ?_
      · rintro j y H2 H3 hj ⟨e2, hD⟩ ⟨T, x1, y1, z1, rfl, nT, rfl, hx1, hy1, hz1⟩
        obtain ⟨n1, f1, rfl⟩ := vI_inv hx1
        obtain ⟨n2, f2, rfl⟩ := vI_inv hy1
        obtain ⟨n3, f3, rfl⟩ := vI_inv hz1
        walk_at "go"
        refine ⟨rfl, ?_⟩
        walk_at "go"
        refine iteT ?_
        walk_at "go"
        refine ⟨_, get_new hD nT, szl' (by simp; omega), Same.mut (e2.trans (Same.new nT)) nD, ?_⟩
        rw [upd_same, take_succ_get (show (rowAt d S cs (i + 1))[j]? = _ from zip3_take _ _ _ _ _ _ _ _ f1 f2 f3)]
        simp
      · rintro H2 ⟨e2, hD⟩
        rw [List.take_of_length_le (by rw [(rsp (i + 1)).1]; exact Nat.le_refl _)] at hD
        walk_at "go"
        intro l nl
        walk_at "go"
        refine c_app (get_new (e2 _ _ hr1) nl) (szl' (by rw [hrl]; omega)) ?_
        have e3 := e1.trans (e2.trans (Same.new (o := .tup (vI (rowAt d S cs (i + 1)))) nl))
        refine ⟨_, _, _, _, rfl, Same.mut (e.trans e3) nr, upd_same, ?_⟩
        rw [range_succ_map _ (i + 1), List.map_append]
        exact (hrs.tx (Tx.trans (.of e3) (Tx.mutL (get_new (e2 _ _ hr1) nl)))).snoc (show SqT K _ _ _ from Tx.tup (Tx.mutL (get_new (e2 _ _ hr1) nl)) (SqT.of upd_same))
    · rintro σ' H' ⟨v4, v5, v6, rs, rfl, e, hr', hrs⟩
      walk_at "go"
      exact k _ r rs e nr hr' hrs
end
section
variable {P : Program} {w : World} {K : PySem.W.Frag} {mg : Str → Option Value} {base : Heap}
def spInit (K : PySem.W.Frag) (C : Addr) : Sp := fun vs H Q _ => ∃ (H0 : Hp) (p dx a aw g wa : Addr) (ds : List V) (d : Day) (G W : List Int), vs = [.ref p, .ref a, .ref g, .ref wa] ∧ Same H0 H ∧ H0 p = none ∧ H p = some (.ins C dx []) ∧
  FlowS K H0 d a aw ds g wa G W ∧ ∀ (H' : Hp) (c m : Addr), Same H0 H' → H0 c = none → H0 m = none → FlowO C H' p dx a g wa c m (flow0 d W) → Q .non H'
theorem mf_init (C : Addr) (T : Ctx K C) (B : Bl mg) (F : HasI K mg "Flow" C "Flow.__init__" s_Flow___init__) : Mkf P w K mg base "Flow" C 1 ["self", "day", "given", "wanted"] (spInit K C) := by
  refine mkf_of F sc_Flow___init__ (fun _ _ _ _ _ _ us hl => match us, hl with | [_, _, _, _], _ => rfl) (fun vs H Q E h => ?_) (fun f cdv A outer s H vs Q E hr h => ?_)
  · obtain ⟨H0, p, dx, a, aw, g, wa, ds, d, G, W, rfl, _⟩ := h
    rfl
  · obtain ⟨H0, p, dx, a, aw, g, wa, ds, d, G, W, rfl, s0, p0, hp, S, k⟩ := h
    have hday := S.day.day
    have hwan := S.wan
    have hW := S.sm.W
    refine ⟨(tSeq (sFld K (tVar 0) (tVar 1) "day") (tSeq (sFld K (tVar 0) (tVar 2) "given") (tSeq (sFld K (tVar 0) (tVar 3) "wanted") (tSeq (sFld K (tVar 0) (tLc (iTup K (tOp (rIxT K) (tVar 1) (tC (.int 2)))) (gName 4) tYes (tCB rInt1 (tCons (tOp (rIxT K) (tVar 4) (tC (.int 3))) tNil)) [4]) "carried") (tSeq (sFld K (tVar 0) (tCB (rListOf K) (tCons (tVar 3) tNil)) "more") (tFor (iTup K (tOp (rIxT K) (tVar 1) (tC (.int 2)))) (gName 4) (tAugS (tFld K (tVar 0) "more") (tOp (rIxT K) (tVar 4) (tC (.int 1))) (tCB rInt1 (tCons (tOp (rIxT K) (tVar 4) (tC (.int 3))) tNil)) (rIxL K) (ipI fun i j => i + j) rSetL))))))),
      (pss_cons (ps_fld (pv 0) (pv 1) rfl)
      (pss_cons (ps_fld (pv 0) (pv 2) rfl)
      (pss_cons (ps_fld (pv 0) (pv 3) rfl)
      (pss_cons (ps_fld (pv 0) (pe_lc (own := [("walk", 4)]) (g := (gName 4)) (tt := tYes) (te := (tCB rInt1 (tCons (tOp (rIxT K) (tVar 4) (tC (.int 3))) tNil))) rfl sc_Flow___init__.nd (pi_tup (pe_ix ix_tup (pv 1) pe_int (fun _ _ => rfl))) (blkOk_by (own := [("walk", 4)]) (N := ["self", "day", "given", "wanted", "walk"]) (sc := defScope s_Flow___init__) (by decide +kernel)) (fun _ _ _ _ _ => (pg_name (i := 4) sc_Flow___init__.nd rfl (by first | exact Or.inl rfl | exact Or.inr rfl))) (fun _ _ _ _ _ => pts_nil) (fun _ _ _ _ _ => (pe_callTy call_int1 (by rfl) B.int bt_int (pa_cons (pe_ix ix_tup (pv 4) pe_int (fun _ _ => rfl)) pa_nil)))) rfl)
      (pss_cons (ps_fld (pv 0) (pe_callTy call_list_of (by rfl) B.list bt_list (pa_cons (pv 3) pa_nil)) rfl)
      (pss_one (ps_for PassesOwn.never rfl (pi_tup (pe_ix ix_tup (pv 1) pe_int (fun _ _ => rfl))) (pg_name (i := 4) sc_Flow___init__.nd rfl (by first | exact Or.inl rfl | exact Or.inr rfl))
      (pss_one (ps_augS (pe_fld (pv 0) rfl) (pe_ix ix_tup (pv 4) pe_int (fun _ _ => rfl)) get_list (pe_callTy call_int1 (by rfl) B.int bt_int (pa_cons (pe_ix ix_tup (pv 4) pe_int (fun _ _ => rfl)) pa_nil)) ip_add set_list))))))))), ?_⟩
    walk_at "go"
    simp only [upd_upd]
    obtain ⟨H1, eH1⟩ : ∃ H1, H1 = upd H p (.ins C dx (putF "wanted" (.ref wa) (putF "given" (.ref g) (putF "day" (.ref a) [])))) := ⟨_, rfl⟩
    have e1 : Same H0 H1 := by rw [eH1]; exact s0.mut p0
    have hp1 : H1 p = some (.ins C dx (putF "wanted" (.ref wa) (putF "given" (.ref g) (putF "day" (.ref a) [])))) := by rw [eH1]; exact upd_same
    rw [← eH1]
    clear eH1
    refine ⟨aw, rfl, ⟨ds, e1.tup S.day.seq⟩, fun c nc => ?_⟩
    have ncp : c ≠ p := ne_had hp1 nc
    have hlw : (d.ws.map Wk.wi).length = ds.length := by rw [List.length_map, S.day.wks.len]
    refine lc_it (walk_tup (xs := ds)) (fun j H2 => Same H1 H2 ∧ H2 c = some (.lst (vI ((d.ws.map Wk.wi).take j)))) ⟨Same.new nc, upd_same⟩ (fun j H2 _ h => h.1.tup (e1.tup S.day.seq)) ?_ ?_
    · rintro j y H2 H3 hj ⟨e2, hc⟩ ⟨rfl, hy⟩
      obtain ⟨w, xw, hw, rfl, hwT⟩ := S.day.wks.get hy
      walk_at "go"
      refine ⟨rfl, ?_⟩
      walk_at "go"
      refine iteT ?_
      walk_at "go"
      refine ⟨_, hc, szl' (by simp; omega), Same.mut e2 nc, ?_⟩
      rw [upd_same, take_succ_get (show (d.ws.map Wk.wi)[j]? = some w.wi by simp [hw])]
      simp
    · rintro H2 ⟨e2, hc⟩
      rw [List.take_of_length_le (by rw [hlw]; exact Nat.le_refl _)] at hc
      have hp2 := e2 _ _ hp1
      have c0 : H0 c = none := none_back e1 nc
      walk_at "go"
      intro m nm
      have nmp : m ≠ p := ne_upd nm
      have m0 : H0 m = none := none_back (e1.trans e2) (none_upd nm)
      have ncm : c ≠ m := fun z => by
        rw [z] at hc
        rw [none_upd nm] at hc
        cases hc
      walk_at "go"
      refine ⟨aw, rfl, ⟨ds, by have := S.day.seq; walk_at "sq"⟩, for_it (walk_tup (xs := ds)) (fun i σ' H' => ∃ v4, σ' = [some (.ref p), some (.ref a), some (.ref g), some (.ref wa), v4] ∧ Same H0 H' ∧ H' p = some (.ins C dx (ff a g wa c m)) ∧
        H' c = some (.lst (vI (d.ws.map Wk.wi))) ∧ H' m = some (.lst (vI ((d.ws.take i).foldl (fun m w => addAt m w.b w.wi) W)))) ⟨_, rfl, by walk_at "sm", upd_same, by walk_at "gt", ?_⟩ (fun i σ' H' _ ⟨_, _, e, _⟩ => e.tup S.day.seq) ?_ ?_⟩
      · rw [upd_ne nmp, upd_same]
        rfl
      · rintro i y σ' H' H3 hi ⟨v4, rfl, e, hp', hc', hm'⟩ ⟨rfl, hy⟩
        obtain ⟨w, xw, hw, rfl, hwT⟩ := S.day.wks.get hy
        obtain ⟨l1, _⟩ := more0 (d.ws.take i) W (fun v hv => by rw [S.lW]; exact S.ok.b v (List.mem_of_mem_take hv))
        rw [foldl_take _ _ hw]
        generalize (d.ws.take i).foldl (fun m w => addAt m w.b w.wi) W = o at hm' l1 ⊢
        have b1 : w.b < o.length := by rw [l1, S.lW]; exact S.ok.b w (List.mem_of_getElem? hw)
        have g1 := vI_get b1
        have j1 : ixN (vI o).length (w.b : Int) = some w.b := ixN_nat (by simpa using b1)
        walk_at "go"
        refine ⟨_, rfl, by walk_at "sm", get_mut (Ne.symm nmp) hp', get_mut ncm hc', ?_⟩
        rw [upd_same, vI_set]
        rfl
      · rintro σ' H' ⟨v4, rfl, e, hp', hc', hm'⟩
        rw [List.take_of_length_le (by rw [S.day.wks.len]; exact Nat.le_refl _)] at hm'
        walk_at "go"
        exact k _ c m e c0 m0 ⟨hp', hc', hm', ncm⟩
end
section
variable {P : Program} {w : World} {K : PySem.W.Frag} {mg : Str → Option Value} {base : Heap}
def spStarts (K : PySem.W.Frag) (C : Addr) : Sp := fun vs H Q _ => ∃ (p dx a aw g wa c m : Addr) (ds : List V) (d : Day) (G W : List Int) (x : Fl), vs = [.ref p] ∧ FlowS K H d a aw ds g wa G W ∧ FlowO C H p dx a g wa c m x ∧ x.more.length = d.P ∧
  ∀ (H' : Hp) (r : Addr), Same H H' → H r = none → H' r = some (.tup (vI (addL G x.more))) → Q (.ref r) H'
theorem mf_starts (C : Addr) (T : Ctx K C) (B : Bl mg) (F : HasM K C "starts" "Flow.starts" s_Flow_starts) : Mf P w K mg base C "starts" 1 ["self"] (spStarts K C) := by
  refine mf_of F sc_Flow_starts (fun _ _ _ _ _ _ us hl => match us, hl with | [_], _ => rfl) (fun vs H Q E h => ?_) (fun f cdv A outer s H vs Q E hr h => ?_)
  · obtain ⟨p, dx, a, aw, g, wa, c, m, ds, d, G, W, x, rfl, _⟩ := h
    rfl
  · obtain ⟨p, dx, a, aw, g, wa, c, m, ds, d, G, W, x, rfl, S, ⟨hp, hc, hm, _⟩, hml, k⟩ := h
    have hP := S.sm.P
    refine ⟨(tRet (tCB (rTupOf K) (tCons (tLc (iZip2 K (tCons (tFld K (tVar 0) "given") (tCons (tFld K (tVar 0) "more") tNil))) (gTup K 2 (gCons (gName 1) (gCons (gName 2) gNil))) tYes (tOp (rI0 fun i j => .int (i + j)) (tVar 1) (tVar 2)) [1, 2]) tNil))),
      (pss_one (ps_ret (pe_callTy call_tuple_of (by rfl) B.tuple bt_tuple (pa_cons (pe_lc (own := [("one", 1), ("other", 2)]) (g := (gTup K 2 (gCons (gName 1) (gCons (gName 2) gNil)))) (tt := tYes) (te := (tOp (rI0 fun i j => .int (i + j)) (tVar 1) (tVar 2))) rfl sc_Flow_starts.nd (pi_zip2 (by rfl) B.zip (pa_cons (pe_fld (pv 0) rfl) (pa_cons (pe_fld (pv 0) rfl) pa_nil))) (blkOk_by (own := [("one", 1), ("other", 2)]) (N := ["self", "one", "other"]) (sc := defScope s_Flow_starts) (by decide +kernel)) (fun _ _ _ _ _ => (pg_tup rfl (pgs_cons (pg_name (i := 1) sc_Flow_starts.nd rfl (by first | exact Or.inl rfl | exact Or.inr rfl)) (pgs_cons (pg_name (i := 2) sc_Flow_starts.nd rfl (by first | exact Or.inl rfl | exact Or.inr rfl)) pgs_nil)))) (fun _ _ _ _ _ => pts_nil) (fun _ _ _ _ _ => (pe_op op_add (pv 1) (pv 2)))) pa_nil)))), ?_⟩
    walk_at "go"
    refine ⟨true, false, g, m, _, _, rfl, S.giv, SqL.of hm, fun D nD => ?_⟩
    have hal : (addL G x.more).length = d.P := addL_length S.lG hml
    refine lc_it (walk_zip2 (n := d.P) (by rw [List.length_map]; exact S.lG) (by rw [List.length_map]; exact hml))
      (fun j H2 => Same H H2 ∧ H2 D = some (.lst (vI ((addL G x.more).take j)))) ⟨Same.new nD, upd_same⟩ (fun j H2 _ h => ⟨h.1.tup S.giv, h.1.lst (SqL.of hm)⟩) ?_ ?_
    · rintro j y H2 H3 hj ⟨e2, hD⟩ ⟨T', x1, y1, rfl, nT, rfl, hx1, hy1⟩
      obtain ⟨n1, f1, rfl⟩ := vI_inv hx1
      obtain ⟨n2, f2, rfl⟩ := vI_inv hy1
      walk_at "go"
      refine ⟨rfl, ?_⟩
      walk_at "go"
      refine iteT ?_
      walk_at "go"
      refine ⟨_, get_new hD nT, szl' (by simp; omega), Same.mut (e2.trans (Same.new nT)) nD, ?_⟩
      rw [upd_same, take_succ_get (show (addL G x.more)[j]? = _ from zipW_get f1 f2)]
      simp
    · rintro H2 ⟨e2, hD⟩
      rw [List.take_of_length_le (by rw [hal]; exact Nat.le_refl _)] at hD
      walk_at "go"
      intro l nl
      walk_at "go"
      exact k _ l (by walk_at "sm") (none_back e2 nl) upd_same
end
section
variable {P : Program} {w : World} {K : PySem.W.Frag} {mg : Str → Option Value} {base : Heap}
def spWaits (K : PySem.W.Frag) (C : Addr) : Sp := fun vs H Q _ => ∃ (p dx a aw g wa c m : Addr) (ds : List V) (d : Day) (G W : List Int) (x : Fl), vs = [.ref p] ∧ FlowS K H d a aw ds g wa G W ∧ FlowO C H p dx a g wa c m x ∧ x.more.length = d.P ∧ x.car.length = d.ws.length ∧
  ∀ (H' : Hp) (r : Addr) (rs : List V), Same H H' → H r = none → H' r = some (.lst rs) → Refs false K H' rs ((waits d (addL G x.more) W x.car).map vI) → Q (.ref r) H'
theorem mf_waits (C : Addr) (T : Ctx K C) (B : Bl mg) (M_starts : Mf P w K mg base C "starts" 1 ["self"] (spStarts K C)) (D_standing : Df P w K mg base "standing" 2 ["day", "starts", "carried"] (spStanding K)) (F : HasM K C "waits" "Flow.waits" s_Flow_waits) : Mf P w K mg base C "waits" 3 ["self"] (spWaits K C) := by
  refine mf_of F sc_Flow_waits (fun _ _ _ _ _ _ us hl => match us, hl with | [_], _ => rfl) (fun vs H Q E h => ?_) (fun f cdv A outer s H vs Q E hr h => ?_)
  · obtain ⟨p, dx, a, aw, g, wa, c, m, ds, d, G, W, x, rfl, _⟩ := h
    rfl
  · obtain ⟨p, dx, a, aw, g, wa, c, m, ds, d, G, W, x, rfl, S, ⟨hp, hc, hm, cm⟩, hml, hcl, k⟩ := h
    have hP := S.sm.P
    have hT := S.sm.T
    have hday := S.day.day
    have hwan := S.wan
    have hal : (addL G x.more).length = d.P := addL_length S.lG hml
    refine ⟨(tSeq (tAsg (tCall (spStanding K) [] E0 (tCons (tFld K (tVar 0) "day") (tCons (tMeth C "starts" (spStarts K C) [] E0 (tVar 0) tNil) (tCons (tFld K (tVar 0) "carried") tNil)))) (gName 1)) (tSeq (tAsg (tLst tNil) (gName 2)) (tSeq (tFor (iRng1 (tCons (tOp (rIxT K) (tFld K (tVar 0) "day") (tC (.int 1))) tNil)) (gName 3) (tSeq (tAsg (tCB (rListOf K) (tCons (tOp (rIxL K) (tVar 1) (tVar 3)) tNil)) (gName 4)) (tSeq (tFor (iZip2 K (tCons (tOp (rIxT K) (tFld K (tVar 0) "day") (tC (.int 2))) (tCons (tFld K (tVar 0) "carried") tNil))) (gTup K 2 (gCons (gName 5) (gCons (gName 6) gNil))) (tIfS (tTest (tOp rEq (tOp (rIxT K) (tVar 5) (tC (.int 0))) (tVar 3))) (tAugS (tVar 4) (tOp (rIxT K) (tVar 5) (tC (.int 1))) (tVar 6) (rIxL K) (ipI fun i j => i - j) rSetL) tNext)) (tDrop (tBM K "list" rAppend (tVar 2) (tCons (tVar 4) tNil)))))) (tRet (tOp rCat (tVar 2) (tLst (tCons (tLc (iZip2 K (tCons (tOp (rIxL K) (tVar 1) (tUn (rU fun i => .int (-i)) (tC (.int 1)))) (tCons (tFld K (tVar 0) "wanted") tNil))) (gTup K 2 (gCons (gName 7) (gCons (gName 8) gNil))) tYes (tOp (rI0 fun i j => .int (i - j)) (tVar 7) (tVar 8)) [7, 8]) tNil))))))),
      (pss_cons (ps_set (i := 1) sc_Flow_waits.nd rfl (by first | exact Or.inl rfl | exact Or.inr rfl) (pe_df D_standing (hr.mono (by decide)) (by rfl) (pa_cons (pe_fld (pv 0) rfl) (pa_cons (pe_mf0 T.cl M_starts (hr.mono (by decide)) (pv 0)) (pa_cons (pe_fld (pv 0) rfl) pa_nil)))))
      (pss_cons (ps_set (i := 2) sc_Flow_waits.nd rfl (by first | exact Or.inl rfl | exact Or.inr rfl) (pe_lst pa_nil))
      (pss_cons (ps_for PassesOwn.never rfl (pi_range1 (by rfl) B.range (pa_cons (pe_ix ix_tup (pe_fld (pv 0) rfl) pe_int (fun _ _ => rfl)) pa_nil)) (pg_name (i := 3) sc_Flow_waits.nd rfl (by first | exact Or.inl rfl | exact Or.inr rfl))
      (pss_cons (ps_set (i := 4) sc_Flow_waits.nd rfl (by first | exact Or.inl rfl | exact Or.inr rfl) (pe_callTy call_list_of (by rfl) B.list bt_list (pa_cons (pe_ix ix_list (pv 1) (pv 3) (fun _ _ => rfl)) pa_nil)))
      (pss_cons (ps_for PassesOwn.never rfl (pi_zip2 (by rfl) B.zip (pa_cons (pe_ix ix_tup (pe_fld (pv 0) rfl) pe_int (fun _ _ => rfl)) (pa_cons (pe_fld (pv 0) rfl) pa_nil))) (pg_tup rfl (pgs_cons (pg_name (i := 5) sc_Flow_waits.nd rfl (by first | exact Or.inl rfl | exact Or.inr rfl)) (pgs_cons (pg_name (i := 6) sc_Flow_waits.nd rfl (by first | exact Or.inl rfl | exact Or.inr rfl)) pgs_nil)))
      (pss_one (ps_if (pt_cmpR op_eq (pe_ix ix_tup (pv 5) pe_int (fun _ _ => rfl)) (pv 3) (nomark _)) (pss_one (ps_augS (pv 4) (pe_ix ix_tup (pv 5) pe_int (fun _ _ => rfl)) get_list (pv 6) ip_sub set_list)) pss_nil)))
      (pss_one (ps_expr (pe_bm PySem.F.plainAttrs_list PySem.F.slot_list_append PySem.F.type_list_append mt_append (pv 2) (pa_cons (pv 4) pa_nil)))))))
      (pss_one (ps_ret (pe_op op_cat (pv 2) (pe_lst (pa_cons (pe_lc (own := [("stands", 7), ("least", 8)]) (g := (gTup K 2 (gCons (gName 7) (gCons (gName 8) gNil)))) (tt := tYes) (te := (tOp (rI0 fun i j => .int (i - j)) (tVar 7) (tVar 8))) rfl sc_Flow_waits.nd (pi_zip2 (by rfl) B.zip (pa_cons (pe_ix ix_list (pv 1) (pe_un un_neg pe_int) (fun _ _ => rfl)) (pa_cons (pe_fld (pv 0) rfl) pa_nil))) (blkOk_by (own := [("stands", 7), ("least", 8)]) (N := ["self", "rows", "found", "hour", "left", "walk", "many", "stands", "least"]) (sc := defScope s_Flow_waits) (by decide +kernel)) (fun _ _ _ _ _ => (pg_tup rfl (pgs_cons (pg_name (i := 7) sc_Flow_waits.nd rfl (by first | exact Or.inl rfl | exact Or.inr rfl)) (pgs_cons (pg_name (i := 8) sc_Flow_waits.nd rfl (by first | exact Or.inl rfl | exact Or.inr rfl)) pgs_nil)))) (fun _ _ _ _ _ => pts_nil) (fun _ _ _ _ _ => (pe_op op_sub (pv 7) (pv 8)))) pa_nil)))))))), ?_⟩
    walk_at "go"
    refine ⟨p, dx, a, aw, g, wa, c, m, ds, d, G, W, x, rfl, S, ⟨hp, hc, hm, cm⟩, hml, fun H1 r1 e1 n1 hr1 => ?_⟩
    have hp1 := e1 _ _ hp
    have hc1 := e1 _ _ hc
    walk_at "go"
    refine ⟨a, aw, r1, c, ds, d, false, addL G x.more, x.car, rfl, S.day.tx (.of e1), S.ok, S.sm, SqT.of hr1, hal, SqL.of hc1, hcl, fun H2 rr rs e2 nrr hrr hrs => ?_⟩
    have e02 : Same H H2 := e1.trans e2
    have S2 := S.tx (.of e02)
    have hp2 := e2 _ _ hp1
    have hc2 := e2 _ _ hc1
    have hday2 := S2.day.day
    have hwan2 := S2.wan
    have rsp := rowAt_spec S.ok (addL G x.more) x.car hcl hal
    have hrat : ∀ i, i ≤ d.T → ∃ xr : Addr, rs[i]? = some (V.ref xr) ∧ SqT K H2 xr (vI (rowAt d (addL G x.more) x.car i)) := fun i hi => hrs.at_ i _ (by
      unfold standing
      rw [List.getElem?_map, List.getElem?_map, List.getElem?_range (by omega)]
      rfl)
    have hrl : rs.length = d.T + 1 := by rw [hrs.len]; simp [standing]
    clear hday hwan hp hp1 hc hc1
    walk_at "go"
    refine ⟨szl (by simp), fun fo nfo => ?_⟩
    walk_at "go"
    refine ⟨_, rfl, by omega, by omega, ?_⟩
    rw [Int.toNat_natCast]
    refine for_it walk_rng (fun i σ' H' => ∃ v3 v4 v5 v6 fs, σ' = [some (.ref p), some (.ref rr), some (.ref fo), v3, v4, v5, v6, none, none] ∧ Same H2 H' ∧ H' fo = some (.lst fs) ∧
      RefsL H' fo fs (((List.range i).map (leftRow d (addL G x.more) x.car)).map vI)) ⟨_, _, _, _, _, rfl, Same.new nfo, upd_same, RefsL.nil⟩ (fun _ _ _ _ _ => trivial) ?_ ?_
    · rintro i y σ' H3 H4 hi ⟨v3, v4, v5, v6, fs, rfl, e3, hfo, hfs⟩ ⟨rfl, rfl⟩
      have hp3 := e3 _ _ hp2
      have hrr3 := e3 _ _ hrr
      have hday3 := e3.tup hday2
      obtain ⟨xr, hxr, hxs⟩ := hrat i (by omega)
      have hfl : fs.length = i := by rw [hfs.len]; simp
      walk_at "go"
      intro l nl
      walk_at "go"
      refine ⟨true, false, aw, c, ds, vI x.car, rfl, (show SqT K _ _ _ from by have := S2.day.seq; walk_at "sq"), (show SqL K _ _ _ from by walk_at "sq"), ?_⟩
      have nl2 : H2 l = none := none_back e3 nl
      refine for_it (walk_zip2 (n := d.ws.length) S.day.wks.len (by simp [hcl])) (fun j σ' H' => ∃ v5 v6, σ' = [some (.ref p), some (.ref rr), some (.ref fo), some (.int (i : Int)), some (.ref l), v5, v6, none, none] ∧ Same H4 H' ∧
        H' l = some (.lst (vI (((d.ws.zip x.car).take j).foldl (leftStep i) (rowAt d (addL G x.more) x.car i))))) ⟨_, _, rfl, Same.new nl, upd_same⟩ (fun j σ' H' _ ⟨_, _, _, e, _⟩ => ⟨(e3.trans e).tup S2.day.seq, (e3.trans e).lst (SqL.of hc2)⟩) ?_ ?_
      · rintro j y σ' H' H5 hj ⟨v5, v6, rfl, e, hl'⟩ ⟨T', x1, y1, rfl, nT, rfl, hx1, hy1⟩
        obtain ⟨w, xw, hw, rfl, hwT⟩ := S2.day.wks.get hx1
        obtain ⟨cc, hcs, rfl⟩ := vI_inv hy1
        obtain ⟨l1, _⟩ := left_fold i (d.ws.take j) (x.car.take j) (rowAt d (addL G x.more) x.car i) (fun w hw => by rw [(rsp i).1]; exact S.ok.b w (List.mem_of_mem_take hw)) (by simp; omega)
        have et : (d.ws.take j).zip (x.car.take j) = (d.ws.zip x.car).take j := by simp [List.zip, List.take_zipWith]
        rw [et, (rsp i).1] at l1
        rw [foldl_take _ _ (zip_get hw hcs)]
        generalize ((d.ws.zip x.car).take j).foldl (leftStep i) (rowAt d (addL G x.more) x.car i) = o at hl' l1 ⊢
        have b1 : w.b < o.length := by rw [l1]; exact S.ok.b w (List.mem_of_getElem? hw)
        have g1 := vI_get b1
        have j1 : ixN (vI o).length (w.b : Int) = some w.b := ixN_nat (by simpa using b1)
        walk_at "go"
        refine ite2 (fun h => ?_) (fun h => ?_)
        · have hh : w.h = i := by have := of_decide_eq_true h; omega
          walk_at "go"
          refine ⟨_, _, rfl, Same.mut (e.trans (Same.new nT)) nl, ?_⟩
          unfold leftStep
          rw [if_pos hh, upd_same, vI_set]
          rfl
        · have hh : ¬ w.h = i := fun z => h (decide_eq_true (by omega))
          unfold leftStep
          rw [if_neg hh]
          walk_at "go"
          exact ⟨_, _, rfl, e.trans (Same.new nT), get_new hl' nT⟩
      · rintro σ' H' ⟨v5, v6, rfl, e, hl'⟩
        have et : (d.ws.zip x.car).take d.ws.length = d.ws.zip x.car := List.take_of_length_le (by simp [List.length_zip]; omega)
        rw [et] at hl'
        have hfo' := e _ _ hfo
        have nlf : l ≠ fo := ne_had hfo nl
        walk_at "go"
        refine c_app hfo' (szl' (by omega)) ?_
        refine ⟨_, _, _, _, _, rfl, Same.mut (e3.trans e) nfo, upd_same, ?_⟩
        rw [range_succ_map, List.map_append]
        exact ((hfs.same e).mut).snoc (get_mut nlf hl') nlf
    · rintro σ' H3 ⟨v3, v4, v5, v6, fs, rfl, e3, hfo, hfs⟩
      have hp3 := e3 _ _ hp2
      have hrr3 := e3 _ _ hrr
      have hwan3 := e3.tup hwan2
      obtain ⟨xr, hxr, hxs⟩ := hrat d.T (by omega)
      have hfl : fs.length = d.T := by rw [hfs.len]; simp
      walk_at "go"
      refine c_ixL (SqL.of hrr3) (atLast (by rw [hrl]; exact hxr)) ?_
      walk_at "go"
      refine ⟨true, true, xr, wa, _, _, rfl, e3.tup hxs, hwan3, fun D nD => ?_⟩
      have nDf : D ≠ fo := ne_had hfo nD
      have hzl : (List.zipWith (fun s l => s - l) (rowAt d (addL G x.more) x.car d.T) W).length = d.P := by rw [List.length_zipWith, (rsp d.T).1, S.lW, Nat.min_self]
      refine lc_it (walk_zip2 (n := d.P) (by rw [List.length_map]; exact (rsp d.T).1) (by rw [List.length_map]; exact S.lW))
        (fun j H5 => Same H3 H5 ∧ H5 D = some (.lst (vI ((List.zipWith (fun s l => s - l) (rowAt d (addL G x.more) x.car d.T) W).take j)))) ⟨Same.new nD, upd_same⟩ (fun j H5 _ h => ⟨h.1.tup (e3.tup hxs), h.1.tup hwan3⟩) ?_ ?_
      · rintro j y H5 H6 hj ⟨e5, hD⟩ ⟨T', x1, y1, rfl, nT, rfl, hx1, hy1⟩
        obtain ⟨n1, f1, rfl⟩ := vI_inv hx1
        obtain ⟨n2, f2, rfl⟩ := vI_inv hy1
        walk_at "go"
        refine ⟨rfl, ?_⟩
        walk_at "go"
        refine iteT ?_
        walk_at "go"
        refine ⟨_, get_new hD nT, szl' (by simp; omega), Same.mut (e5.trans (Same.new nT)) nD, ?_⟩
        rw [upd_same, take_succ_get (show (List.zipWith (fun s l => s - l) (rowAt d (addL G x.more) x.car d.T) W)[j]? = _ from zipW_get f1 f2)]
        simp
      · rintro H5 ⟨e5, hD⟩
        rw [List.take_of_length_le (by rw [hzl]; exact Nat.le_refl _)] at hD
        have hfo5 := e5 _ _ hfo
        walk_at "go"
        refine ⟨szl (by simp), fun L nL => ?_⟩
        refine ⟨fo, L, fs, _, rfl, rfl, get_new hfo5 nL, upd_same, szl (by simp; omega), fun r nr => ?_⟩
        have nr5 := none_upd nr
        have nLf : L ≠ fo := ne_had hfo5 nL
        have nrf : r ≠ fo := ne_had hfo5 nr5
        have nDr : D ≠ r := fun z => by rw [z] at hD; rw [nr5] at hD; cases hD
        have er : Same H2 H5 := e3.trans e5
        have e6 : Same H5 (upd (upd H5 L (.lst [V.ref D])) r (.lst (fs ++ [V.ref D]))) := (Same.new nL).trans (Same.new nr)
        refine k _ r _ (e02.trans (er.trans e6)) (none_back (e02.trans er) nr5) upd_same ?_
        unfold waits
        rw [List.map_append]
        exact (RefsL.snoc ((hfs.same e5).same e6) (e6 _ _ hD) nDf).refs
end
section
variable {P : Program} {w : World} {K : PySem.W.Frag} {mg : Str → Option Value} {base : Heap}
def spSteps (K : PySem.W.Frag) (C : Addr) : Sp := fun vs H Q _ => ∃ (p dx a aw g wa c m awt : Addr) (ds rs : List V) (d : Day) (G W : List Int) (x : Fl) (mo pl : Nat) (wt : List (List Int)), vs = [.ref p, .int (mo : Int), .int (pl : Int), .ref awt] ∧ FlowS K H d a aw ds g wa G W ∧ FlowO C H p dx a g wa c m x ∧ x.car.length = d.ws.length ∧
  mo ≤ d.T ∧ pl < d.P ∧ SqL K H awt rs ∧ Refs false K H rs (wt.map vI) ∧ wt.length = d.T + 1 ∧ (∀ row ∈ wt, row.length = d.P) ∧
  ∀ (H' : Hp) (r : Addr) (ss : List V), Same H H' → H r = none → H' r = some (.lst ss) → Refs true K H' ss ((stepsOf d x.car wt mo pl).map stpV) → Q (.ref r) H'
theorem mf_steps (C : Addr) (T : Ctx K C) (B : Bl mg) (F : HasM K C "steps" "Flow.steps" s_Flow_steps) : Mf P w K mg base C "steps" 1 ["self", "moment", "place", "waits"] (spSteps K C) := by
  refine mf_of F sc_Flow_steps (fun _ _ _ _ _ _ us hl => match us, hl with | [_, _, _, _], _ => rfl) (fun vs H Q E h => ?_) (fun f cdv A outer s H vs Q E hr h => ?_)
  · obtain ⟨p, dx, a, aw, g, wa, c, m, awt, ds, rs, d, G, W, x, mo, pl, wt, rfl, _⟩ := h
    rfl
  · obtain ⟨p, dx, a, aw, g, wa, c, m, awt, ds, rs, d, G, W, x, mo, pl, wt, rfl, S, ⟨hp, hc, hm, cm⟩, hcl, hmo, hpl, hwt, hrs, hwl, hrow, k⟩ := h
    have hW := S.sm.W
    have hday := S.day.day
    refine ⟨(tSeq (tAsg (tLst tNil) (gName 4)) (tSeq (tIfS (tTest (tOp (rI0 fun i j => .bl (decide (i < j))) (tVar 1) (tOp (rIxT K) (tFld K (tVar 0) "day") (tC (.int 1))))) (tDrop (tBM K "list" rAppend (tVar 4) (tCons (tTup (tCons (tOp (rI0 fun i j => .int (i + j)) (tVar 1) (tC (.int 1))) (tCons (tVar 2) (tCons (tC .non) (tCons (tC (.int 0)) tNil))))) tNil))) tNext) (tSeq (tIfS (tAnd (tTest (tOp (rI0 fun i j => .bl (decide (j < i))) (tVar 1) (tC (.int 0)))) (tTest (tOp (rI0 fun i j => .bl (decide (j < i))) (tOp (rIxL K) (tOp (rIxL K) (tVar 3) (tOp (rI0 fun i j => .int (i - j)) (tVar 1) (tC (.int 1)))) (tVar 2)) (tC (.int 0))))) (tDrop (tBM K "list" rAppend (tVar 4) (tCons (tTup (tCons (tOp (rI0 fun i j => .int (i - j)) (tVar 1) (tC (.int 1))) (tCons (tVar 2) (tCons (tC .non) (tCons (tC (.int 0)) tNil))))) tNil))) tNext) (tSeq (tFor (iEnumB K (tCons (tOp (rIxT K) (tFld K (tVar 0) "day") (tC (.int 2))) tNil)) (gTup K 2 (gCons (gName 5) (gCons (gName 6) gNil))) (tSeq (tIfS (tAnd (tTest (tOp (rEqD K) (tTup (tCons (tOp (rI0 fun i j => .int (i + j)) (tOp (rIxT K) (tVar 6) (tC (.int 0))) (tC (.int 1))) (tCons (tOp (rIxT K) (tVar 6) (tC (.int 2))) tNil))) (tTup (tCons (tVar 1) (tCons (tVar 2) tNil))))) (tTest (tOp (rI0 fun i j => .bl (decide (j < i))) (tOp (rIxL K) (tFld K (tVar 0) "carried") (tVar 5)) (tCB rInt1 (tCons (tOp (rIxT K) (tVar 6) (tC (.int 3))) tNil))))) (tDrop (tBM K "list" rAppend (tVar 4) (tCons (tTup (tCons (tOp (rIxT K) (tVar 6) (tC (.int 0))) (tCons (tOp (rIxT K) (tVar 6) (tC (.int 1))) (tCons (tVar 5) (tCons (tUn (rU fun i => .int (-i)) (tC (.int 1))) tNil))))) tNil))) tNext) (tIfS (tAnd (tTest (tOp (rEqD K) (tTup (tCons (tOp (rIxT K) (tVar 6) (tC (.int 0))) (tCons (tOp (rIxT K) (tVar 6) (tC (.int 1))) tNil))) (tTup (tCons (tVar 1) (tCons (tVar 2) tNil))))) (tTest (tOp (rI0 fun i j => .bl (decide (i < j))) (tOp (rIxL K) (tFld K (tVar 0) "carried") (tVar 5)) (tOp (rIxT K) (tVar 6) (tC (.int 4)))))) (tDrop (tBM K "list" rAppend (tVar 4) (tCons (tTup (tCons (tOp (rI0 fun i j => .int (i + j)) (tOp (rIxT K) (tVar 6) (tC (.int 0))) (tC (.int 1))) (tCons (tOp (rIxT K) (tVar 6) (tC (.int 2))) (tCons (tVar 5) (tCons (tC (.int 1)) tNil))))) tNil))) tNext))) (tRet (tVar 4)))))),
      (pss_cons (ps_set (i := 4) sc_Flow_steps.nd rfl (by first | exact Or.inl rfl | exact Or.inr rfl) (pe_lst pa_nil))
      (pss_cons (ps_if (pt_cmpR op_lt (pv 1) (pe_ix ix_tup (pe_fld (pv 0) rfl) pe_int (fun _ _ => rfl)) (nomark _)) (pss_one (ps_expr (pe_bm PySem.F.plainAttrs_list PySem.F.slot_list_append PySem.F.type_list_append mt_append (pv 4) (pa_cons (pe_tup (pa_cons (pe_op op_add (pv 1) pe_int) (pa_cons (pv 2) (pa_cons pe_non (pa_cons pe_int pa_nil))))) pa_nil)))) pss_nil)
      (pss_cons (ps_if (PW.pt (pw_and (pt_cmpR op_gt (pv 1) pe_int (nomark _)) (pw_and1 (pt_cmpR op_gt (pe_ix ix_list (pe_ix ix_list (pv 3) (pe_op op_sub (pv 1) pe_int) (fun _ _ => rfl)) (pv 2) (fun _ _ => rfl)) pe_int (nomark _))))) (pss_one (ps_expr (pe_bm PySem.F.plainAttrs_list PySem.F.slot_list_append PySem.F.type_list_append mt_append (pv 4) (pa_cons (pe_tup (pa_cons (pe_op op_sub (pv 1) pe_int) (pa_cons (pv 2) (pa_cons pe_non (pa_cons pe_int pa_nil))))) pa_nil)))) pss_nil)
      (pss_cons (ps_for PassesOwn.never rfl (pi_enumB (by rfl) B.enumerate (pa_cons (pe_ix ix_tup (pe_fld (pv 0) rfl) pe_int (fun _ _ => rfl)) pa_nil)) (pg_tup rfl (pgs_cons (pg_name (i := 5) sc_Flow_steps.nd rfl (by first | exact Or.inl rfl | exact Or.inr rfl)) (pgs_cons (pg_name (i := 6) sc_Flow_steps.nd rfl (by first | exact Or.inl rfl | exact Or.inr rfl)) pgs_nil)))
      (pss_cons (ps_if (PW.pt (pw_and (pt_cmpR (op_eqD hr.units) (pe_tup (pa_cons (pe_op op_add (pe_ix ix_tup (pv 6) pe_int (fun _ _ => rfl)) pe_int) (pa_cons (pe_ix ix_tup (pv 6) pe_int (fun _ _ => rfl)) pa_nil))) (pe_tup (pa_cons (pv 1) (pa_cons (pv 2) pa_nil))) (nomark _)) (pw_and1 (pt_cmpR op_gt (pe_ix ix_list (pe_fld (pv 0) rfl) (pv 5) (fun _ _ => rfl)) (pe_callTy call_int1 (by rfl) B.int bt_int (pa_cons (pe_ix ix_tup (pv 6) pe_int (fun _ _ => rfl)) pa_nil)) (nomark _))))) (pss_one (ps_expr (pe_bm PySem.F.plainAttrs_list PySem.F.slot_list_append PySem.F.type_list_append mt_append (pv 4) (pa_cons (pe_tup (pa_cons (pe_ix ix_tup (pv 6) pe_int (fun _ _ => rfl)) (pa_cons (pe_ix ix_tup (pv 6) pe_int (fun _ _ => rfl)) (pa_cons (pv 5) (pa_cons (pe_un un_neg pe_int) pa_nil))))) pa_nil)))) pss_nil)
      (pss_one (ps_if (PW.pt (pw_and (pt_cmpR (op_eqD hr.units) (pe_tup (pa_cons (pe_ix ix_tup (pv 6) pe_int (fun _ _ => rfl)) (pa_cons (pe_ix ix_tup (pv 6) pe_int (fun _ _ => rfl)) pa_nil))) (pe_tup (pa_cons (pv 1) (pa_cons (pv 2) pa_nil))) (nomark _)) (pw_and1 (pt_cmpR op_lt (pe_ix ix_list (pe_fld (pv 0) rfl) (pv 5) (fun _ _ => rfl)) (pe_ix ix_tup (pv 6) pe_int (fun _ _ => rfl)) (nomark _))))) (pss_one (ps_expr (pe_bm PySem.F.plainAttrs_list PySem.F.slot_list_append PySem.F.type_list_append mt_append (pv 4) (pa_cons (pe_tup (pa_cons (pe_op op_add (pe_ix ix_tup (pv 6) pe_int (fun _ _ => rfl)) pe_int) (pa_cons (pe_ix ix_tup (pv 6) pe_int (fun _ _ => rfl)) (pa_cons (pv 5) (pa_cons pe_int pa_nil))))) pa_nil)))) pss_nil))))
      (pss_one (ps_ret (pv 4))))))), ?_⟩
    walk_at "go"
    refine ⟨szl (by simp), fun fo nfo => ?_⟩
    with_reducible refine c_gname ?_
    have J0 : ∃ J : Option V → Option V → List Stp → L2.St → Hp → Prop, J = fun v5 v6 L σ' H1 => ∃ ss, σ' = [some (.ref p), some (.int (mo : Int)), some (.int (pl : Int)), some (.ref awt), some (.ref fo), v5, v6] ∧ Same H H1 ∧ H1 fo = some (.lst ss) ∧ Refs true K H1 ss (L.map stpV) := ⟨_, rfl⟩
    obtain ⟨J, hJ⟩ := J0
    have put : ∀ (L : List Stp) (s : Stp) (v5 v6 : Option V) (ss : List V) (H1 : Hp) (t : Addr), Same H H1 → H1 fo = some (.lst ss) → Refs true K H1 ss (L.map stpV) → H1 t = none →
        J v5 v6 (L ++ [s]) [some (.ref p), some (.int (mo : Int)), some (.int (pl : Int)), some (.ref awt), some (.ref fo), v5, v6] (upd (upd H1 t (.tup (stpV s))) fo (.lst (ss ++ [V.ref t]))) := by
      intro L s v5 v6 ss H1 t e1 hf1 hr1 nt
      rw [hJ]
      exact ⟨_, rfl, Same.mut (e1.trans (Same.new nt)) nfo, upd_same, by rw [List.map_append]; exact hr1.app hf1 nt⟩
    with_reducible refine c_seqJ (J none none (if mo < d.T then [(mo + 1, pl, none, 0)] else [])) ?_ ?_
    · intro σ1 H1 h1
      rw [hJ] at h1
      obtain ⟨ss, rfl, e1, hf1, hr1⟩ := h1
      have hlen1 : ss.length ≤ 1 := by rw [hr1.len]; split <;> simp
      generalize hL1 : (if mo < d.T then [(mo + 1, pl, none, (0 : Int))] else []) = L1 at hr1
      with_reducible refine c_seqJ (J none none (L1 ++ (if 0 < mo ∧ 0 < at2 wt (mo - 1) pl then [(mo - 1, pl, none, 0)] else []))) ?_ ?_
      · intro σ2 H2 h2
        rw [hJ] at h2
        obtain ⟨ss, rfl, e2, hf2, hr2⟩ := h2
        have hlen2 : ss.length ≤ 2 := by
          rw [hr2.len, List.length_map, List.length_append, ← hL1]
          split <;> split <;> simp
        generalize hL2 : (L1 ++ (if 0 < mo ∧ 0 < at2 wt (mo - 1) pl then [(mo - 1, pl, none, (0 : Int))] else [])) = L2 at hr2
        have hp2 := e2 _ _ hp
        have hday2 := e2.tup hday
        walk_at "go"
        refine ⟨true, aw, ds, rfl, e2.tup S.day.seq, ?_⟩
        refine for_it walk_enumB (fun i σ' H' => ∃ v5 v6, J v5 v6 (L2 ++ ((enumF 0 d.ws).take i).flatMap (stepW x.car mo pl)) σ' H') ?_ (fun i σ' H' _ h => ?_) ?_ ?_
        · rw [hJ]
          exact ⟨_, _, ss, rfl, e2, hf2, by simpa using hr2⟩
        · rw [hJ] at h
          obtain ⟨_, _, _, _, e, _⟩ := h
          exact e.tup S.day.seq
        · intro i y σ3 H3 H4 hi h3 hy
          rw [hJ] at h3
          obtain ⟨v5, v6, ss, rfl, e3, hf3, hr3⟩ := h3
          obtain ⟨T', x1, y1, rfl, nT, rfl, hx1, hy1⟩ := hy
          obtain ⟨w, xw, hw, rfl, hwT⟩ := S.day.wks.get hy1
          cases hx1
          have hen : (enumF 0 d.ws)[i]? = some (i, w) := by rw [enumF_get, hw]; simp
          rw [take_succ_get hen, List.flatMap_append]
          have hfl := flat_length x.car mo pl ((enumF 0 d.ws).take i)
          have htl : ((enumF 0 d.ws).take i).length ≤ 1000 := by rw [List.length_take, enumF_length]; omega
          have hl2 : L2.length ≤ 2 := by rw [← hL2, List.length_append, ← hL1]; split <;> split <;> simp
          generalize hLi : L2 ++ ((enumF 0 d.ws).take i).flatMap (stepW x.car mo pl) = Li at hr3
          have hLl : Li.length ≤ 2002 := by rw [← hLi, List.length_append]; omega
          have e4 : Same H (upd H3 T' (.tup [.int (i : Int), .ref xw])) := e3.trans (Same.new nT)
          have hp4 := e4 _ _ hp
          have hc4 := e4 _ _ hc
          have hf4 : upd H3 T' (.tup [.int (i : Int), .ref xw]) fo = some (.lst ss) := get_new hf3 nT
          have hr4 := hr3.same (Same.new (o := .tup [.int (i : Int), .ref xw]) nT)
          have hic : i < x.car.length := by rw [hcl]; exact (List.getElem?_eq_some_iff.mp hw).1
          have gc := vI_get hic
          walk_at "gn"
          rw [← List.append_assoc, hLi]
          have hst : stepW x.car mo pl (i, w) = (if (w.h + 1 = mo ∧ w.e = pl) ∧ w.wi < x.car.getD i 0 then [(w.h, w.b, some i, -1)] else []) ++ (if (w.h = mo ∧ w.b = pl) ∧ x.car.getD i 0 < (w.r : Int) then [(w.h + 1, w.e, some i, 1)] else []) := rfl
          simp only [List.flatMap_cons, List.flatMap_nil, List.append_nil]
          rw [hst, ← List.append_assoc]
          generalize upd H3 T' (.tup [.int (i : Int), .ref xw]) = H4 at e4 hp4 hc4 hf4 hr4 ⊢
          with_reducible refine c_seqJ (J (some (.int (i : Int))) (some (.ref xw)) (Li ++ (if (w.h + 1 = mo ∧ w.e = pl) ∧ w.wi < x.car.getD i 0 then [(w.h, w.b, some i, -1)] else []))) ?_ ?_
          · intro σ5 H5 h5
            rw [hJ] at h5
            obtain ⟨ss, rfl, e5, hf5, hr5⟩ := h5
            generalize hLj : (Li ++ (if (w.h + 1 = mo ∧ w.e = pl) ∧ w.wi < x.car.getD i 0 then [(w.h, w.b, some i, (-1 : Int))] else [])) = Lj at hr5 ⊢
            have hLj2 : Lj.length ≤ 2003 := by
              rw [← hLj, List.length_append]
              split
              · simp; omega
              · simp; omega
            have hp5 := e5 _ _ hp
            have hc5 := e5 _ _ hc
            have hf5' := hf5
            have no : ∀ H1, Same H5 H1 → ¬ ((w.h = mo ∧ w.b = pl) ∧ x.car.getD i 0 < (w.r : Int)) → ∃ v5 v6, J v5 v6 (Lj ++ if (w.h = mo ∧ w.b = pl) ∧ x.car.getD i 0 < (w.r : Int) then [(w.h + 1, w.e, some i, 1)] else []) [some (.ref p), some (.int (mo : Int)), some (.int (pl : Int)), some (.ref awt), some (.ref fo), some (.int (i : Int)), some (.ref xw)] H1 := fun H1 e1 h => by
              rw [if_neg h, hJ, List.append_nil]
              exact ⟨_, _, _, rfl, e5.trans e1, e1 _ _ hf5, hr5.same e1⟩
            walk_at "go"
            refine ⟨szl (by simp), fun t1 nt1 => ?_⟩
            walk_at "go"
            refine ⟨szl (by simp), fun t2 nt2 => ?_⟩
            refine c_eqPair (SqT.of (get_new upd_same nt2)) (SqT.of upd_same) ?_
            have e6 : Same H5 (upd (upd H5 t1 (.tup [V.int ↑w.h, V.int ↑w.b])) t2 (.tup [V.int ↑mo, V.int ↑pl])) := (Same.new nt1).trans (Same.new nt2)
            have hp6 := e6 _ _ hp5
            have hc6 := e6 _ _ hc5
            have hf6 := e6 _ _ hf5
            have hr6 := hr5.same e6
            have e46 := e5.trans e6
            generalize upd (upd H5 t1 (.tup [V.int ↑w.h, V.int ↑w.b])) t2 (.tup [V.int ↑mo, V.int ↑pl]) = H6 at e6 hp6 hc6 hf6 hr6 e46 ⊢
            refine c_bl ?_
            refine ite2 (fun hk => ?_) (fun hk => ?_)
            · have hk' : w.h = mo ∧ w.b = pl := by
                simp at hk
                omega
              walk_at "go"
              refine ite2 (fun hq => ?_) (fun hq => ?_)
              · have hq' := of_decide_eq_true hq
                walk_at "go"
                refine ⟨szl (by simp), fun t3 nt3 => ?_⟩
                walk_at "go"
                refine c_app (get_new hf6 nt3) (szl' (by rw [hr6.len, List.length_map]; omega)) ?_
                rw [if_pos ⟨hk', hq'⟩]
                refine ⟨some (.int (i : Int)), some (.ref xw), ?_⟩
                exact put Lj (w.h + 1, w.e, some i, 1) _ _ ss H6 t3 e46 hf6 hr6 nt3
              · have hq' : ¬ x.car.getD i 0 < (w.r : Int) := fun z => hq (decide_eq_true z)
                walk_at "go"
                exact no _ e6 (fun z => hq' z.2)
            · refine iteF ?_
              walk_at "go"
              refine no _ e6 (fun z => hk ?_)
              obtain ⟨⟨z1, z2⟩, _⟩ := z
              subst z1 z2
              simp
          · intro R hR
            have no : ∀ H1, Same H4 H1 → ¬ ((w.h + 1 = mo ∧ w.e = pl) ∧ w.wi < x.car.getD i 0) → R [some (.ref p), some (.int (mo : Int)), some (.int (pl : Int)), some (.ref awt), some (.ref fo), some (.int (i : Int)), some (.ref xw)] H1 := fun H1 e1 h => by
              refine hR _ _ ?_
              rw [if_neg h, hJ, List.append_nil]
              exact ⟨_, rfl, e4.trans e1, e1 _ _ hf4, hr4.same e1⟩
            walk_at "go"
            refine ⟨szl (by simp), fun t1 nt1 => ?_⟩
            walk_at "go"
            refine ⟨szl (by simp), fun t2 nt2 => ?_⟩
            refine c_eqPair (SqT.of (get_new upd_same nt2)) (SqT.of upd_same) ?_
            have e6 : Same H4 (upd (upd H4 t1 (.tup [V.int (↑w.h + 1), V.int ↑w.e])) t2 (.tup [V.int ↑mo, V.int ↑pl])) := (Same.new nt1).trans (Same.new nt2)
            have hp6 := e6 _ _ hp4
            have hc6 := e6 _ _ hc4
            have hf6 := e6 _ _ hf4
            have hr6 := hr4.same e6
            have e46 := e4.trans e6
            generalize upd (upd H4 t1 (.tup [V.int (↑w.h + 1), V.int ↑w.e])) t2 (.tup [V.int ↑mo, V.int ↑pl]) = H6 at e6 hp6 hc6 hf6 hr6 e46 ⊢
            refine c_bl ?_
            refine ite2 (fun hk => ?_) (fun hk => ?_)
            · have hk' : w.h + 1 = mo ∧ w.e = pl := by
                simp at hk
                omega
              walk_at "go"
              refine ite2 (fun hq => ?_) (fun hq => ?_)
              · have hq' := of_decide_eq_true hq
                walk_at "go"
                refine ⟨szl (by simp), fun t3 nt3 => ?_⟩
                walk_at "go"
                refine c_app (get_new hf6 nt3) (szl' (by rw [hr6.len, List.length_map]; omega)) ?_
                refine hR _ _ ?_
                rw [if_pos ⟨hk', hq'⟩]
                exact put Li (w.h, w.b, some i, -1) _ _ ss H6 t3 e46 hf6 hr6 nt3
              · have hq' : ¬ w.wi < x.car.getD i 0 := fun z => hq (decide_eq_true z)
                walk_at "go"
                exact no _ e6 (fun z => hq' z.2)
            · refine iteF ?_
              walk_at "go"
              refine no _ e6 (fun z => hk ?_)
              obtain ⟨⟨z1, z2⟩, _⟩ := z
              subst z1 z2
              simp
        · intro σ3 H3 h3
          rw [hJ] at h3
          obtain ⟨v5, v6, ss, rfl, e3, hf3, hr3⟩ := h3
          rw [List.take_of_length_le (by rw [enumF_length, S.day.wks.len]; exact Nat.le_refl _)] at hr3
          walk_at "go"
          refine k _ fo ss e3 nfo hf3 ?_
          have : stepsOf d x.car wt mo pl = L2 ++ (enumF 0 d.ws).flatMap (stepW x.car mo pl) := by
            rw [← hL2, ← hL1]
            rfl
          rw [this]
          exact hr3
      · intro R hR
        have no : ¬ (0 < mo ∧ 0 < at2 wt (mo - 1) pl) → R [some (.ref p), some (.int (mo : Int)), some (.int (pl : Int)), some (.ref awt), some (.ref fo), none, none] H1 := fun h => by
          refine hR _ _ ?_
          rw [if_neg h, hJ, List.append_nil]
          exact ⟨_, rfl, e1, hf1, hr1⟩
        walk_at "go"
        refine ite2 (fun hq => ?_) (fun hq => ?_)
        · have hq' : 0 < mo := by have := of_decide_eq_true hq; omega
          have hm1 : (mo : Int) - 1 = ((mo - 1 : Nat) : Int) := by omega
          have hwm : wt[mo - 1]? = some (wt.getD (mo - 1) []) := by
            have : mo - 1 < wt.length := by omega
            simp [List.getD_eq_getElem?_getD, this]
          obtain ⟨y, hy1, hy2⟩ := hrs.at_ (mo - 1) (vI (wt.getD (mo - 1) [])) (by rw [List.getElem?_map, hwm]; rfl)
          have hpl2 : pl < (wt.getD (mo - 1) []).length := by rw [hrow _ (List.mem_of_getElem? hwm)]; exact hpl
          have hg := vI_get hpl2
          have hwt1 := e1.lst hwt
          have hy3 : SqL K H1 y (vI (wt.getD (mo - 1) [])) := e1.lst hy2
          walk_at "go"
          rw [hm1]
          walk_at "go"
          refine ite2 (fun hz => ?_) (fun hz => ?_)
          · walk_at "go"
            rw [hm1]
            refine ⟨szl (by simp), fun t nt => ?_⟩
            walk_at "go"
            refine c_app (get_new hf1 nt) (szl' (by omega)) ?_
            refine hR _ _ ?_
            rw [if_pos ⟨hq', of_decide_eq_true hz⟩]
            exact put L1 (mo - 1, pl, none, 0) _ _ ss H1 t e1 hf1 hr1 nt
          · walk_at "go"
            exact no (fun z => hz (decide_eq_true z.2))
        · refine iteF ?_
          walk_at "go"
          exact no (fun z => hq (decide_eq_true (by omega)))
    · intro R hR
      walk_at "go"
      refine ite2 (fun hq => ?_) (fun hq => ?_)
      · have hq' : mo < d.T := by have := of_decide_eq_true hq; omega
        walk_at "go"
        refine ⟨szl (by simp), fun t nt => ?_⟩
        walk_at "go"
        refine c_app (get_new upd_same nt) (szl' (by simp)) ?_
        refine hR _ _ ?_
        rw [if_pos hq']
        exact put [] (mo + 1, pl, none, 0) _ _ [] _ t (Same.new nfo) upd_same Refs.nil nt
      · have hq' : ¬ mo < d.T := fun z => hq (decide_eq_true (by omega))
        walk_at "go"
        refine hR _ _ ?_
        rw [if_neg hq', hJ]
        exact ⟨_, rfl, Same.new nfo, upd_same, Refs.nil⟩
end
section
variable {P : Program} {w : World} {K : PySem.W.Frag} {mg : Str → Option Value} {base : Heap}
def spReached (K : PySem.W.Frag) (C : Addr) : Sp := fun vs H Q _ => ∃ (p dx a aw g wa c m : Addr) (ds : List V) (d : Day) (G W : List Int) (x : Fl), vs = [.ref p] ∧ FlowS K H d a aw ds g wa G W ∧ FlowO C H p dx a g wa c m x ∧ x.more.length = d.P ∧ x.car.length = d.ws.length ∧
  ∀ (H' : Hp) (r : Addr) (kvs : List (List L2.Key × V)), Same H H' → H r = none → H' r = some (.dT kvs) → FdAt H' kvs (found d G W x) → Q (.ref r) H'
theorem mf_reached (C : Addr) (T : Ctx K C) (B : Bl mg) (M_waits : Mf P w K mg base C "waits" 3 ["self"] (spWaits K C)) (M_steps : Mf P w K mg base C "steps" 1 ["self", "moment", "place", "waits"] (spSteps K C)) (F : HasM K C "reached" "Flow.reached" s_Flow_reached) : Mf P w K mg base C "reached" 4 ["self"] (spReached K C) := by
  refine mf_of F sc_Flow_reached (fun _ _ _ _ _ _ us hl => match us, hl with | [_], _ => rfl) (fun vs H Q E h => ?_) (fun f cdv A outer s H vs Q E hr h => ?_)
  · obtain ⟨p, dx, a, aw, g, wa, c, m, ds, d, G, W, x, rfl, _⟩ := h
    rfl
  · obtain ⟨p, dx, a, aw, g, wa, c, m, ds, d, G, W, x, rfl, S, FO, hml, hcl, k⟩ := h
    have hal : (addL G x.more).length = d.P := addL_length S.lG hml
    have hP := S.sm.P
    have hT := S.sm.T
    have hday := S.day.day
    have hp := FO.ins
    have hcs := count_small S.sm
    refine ⟨(tSeq (tAsg (tMeth C "waits" (spWaits K C) [] E0 (tVar 0) tNil) (gName 1)) (tSeq (tAsg (tOp (rIxT K) (tFld K (tVar 0) "day") (tC (.int 1))) (gName 2)) (tSeq (tPar 3 4 (tCons tDNewT (tCons (tLst tNil) tNil))) (tSeq (tFor (iRng1 (tCons (tOp (rIxT K) (tFld K (tVar 0) "day") (tC (.int 0))) tNil)) (gName 5) (tIfS (tTest (tOp (rI0 fun i j => .bl (decide (j < i))) (tOp (rIxL K) (tOp (rIxL K) (tVar 1) (tVar 2)) (tVar 5)) (tC (.int 0)))) (tSeq (sDPut (tVar 3) (tTup (tCons (tVar 2) (tCons (tVar 5) tNil))) (tC .non)) (tDrop (tBM K "list" rAppend (tVar 4) (tCons (tTup (tCons (tVar 2) (tCons (tVar 5) tNil))) tNil)))) tNext)) (tSeq (tWhile (fun σ H Q => (tVar 4) σ H fun x H' => ∃ k, TruV K x H' k ∧ Q k H') (tSeq (tAsg (tBM K "list" rPopAt (tVar 4) (tCons (tC (.int 0)) tNil)) (gName 6)) (tFor (iList K (tMeth C "steps" (spSteps K C) [] E0 (tVar 0) (tCons (tOp (rIxT K) (tVar 6) (tC (.int 0))) (tCons (tOp (rIxT K) (tVar 6) (tC (.int 1))) (tCons (tVar 1) tNil))))) (gTup K 4 (gCons (gName 7) (gCons (gName 5) (gCons (gName 8) (gCons (gName 9) gNil))))) (tIfS (tB (tDNotIn (tTup (tCons (tVar 7) (tCons (tVar 5) tNil))) (tVar 3))) (tSeq (sDPut (tVar 3) (tTup (tCons (tVar 7) (tCons (tVar 5) tNil))) (tTup (tCons (tVar 6) (tCons (tVar 8) (tCons (tVar 9) tNil))))) (tDrop (tBM K "list" rAppend (tVar 4) (tCons (tTup (tCons (tVar 7) (tCons (tVar 5) tNil))) tNil)))) tNext)))) (tRet (tVar 3))))))),
      (pss_cons (ps_set (i := 1) sc_Flow_reached.nd rfl (by first | exact Or.inl rfl | exact Or.inr rfl) (pe_mf0 T.cl M_waits (hr.mono (by decide)) (pv 0)))
      (pss_cons (ps_set (i := 2) sc_Flow_reached.nd rfl (by first | exact Or.inl rfl | exact Or.inr rfl) (pe_ix ix_tup (pe_fld (pv 0) rfl) pe_int (fun _ _ => rfl)))
      (pss_cons (ps_par (i := 3) (j := 4) (by rfl) sc_Flow_reached.nd rfl rfl (by decide) rfl rfl (pa_cons pe_dnewT (pa_cons (pe_lst pa_nil) pa_nil)) (by rfl))
      (pss_cons (ps_for PassesOwn.never rfl (pi_range1 (by rfl) B.range (pa_cons (pe_ix ix_tup (pe_fld (pv 0) rfl) pe_int (fun _ _ => rfl)) pa_nil)) (pg_name (i := 5) sc_Flow_reached.nd rfl (by first | exact Or.inl rfl | exact Or.inr rfl))
      (pss_one (ps_if (pt_cmpR op_gt (pe_ix ix_list (pe_ix ix_list (pv 1) (pv 2) (fun _ _ => rfl)) (pv 5) (fun _ _ => rfl)) pe_int (nomark _)) (pss_cons (ps_dput (hu_of hr) (pv 3) (pe_tup (pa_cons (pv 2) (pa_cons (pv 5) pa_nil))) pe_non rfl)
      (pss_one (ps_expr (pe_bm PySem.F.plainAttrs_list PySem.F.slot_list_append PySem.F.type_list_append mt_append (pv 4) (pa_cons (pe_tup (pa_cons (pv 2) (pa_cons (pv 5) pa_nil))) pa_nil))))) pss_nil)))
      (pss_cons (ps_while PassesOwn.never (pt_truth (pv 4) (by intro _; rfl))
      (pss_cons (ps_set (i := 6) sc_Flow_reached.nd rfl (by first | exact Or.inl rfl | exact Or.inr rfl) (pe_bm PySem.F.plainAttrs_list PySem.F.slot_list_pop PySem.F.type_list_pop mt_popAt (pv 4) (pa_cons pe_int pa_nil)))
      (pss_one (ps_for PassesOwn.never rfl (pi_list (pe_mf T.cl M_steps (hr.mono (by decide)) (pv 0) (pa_cons (pe_ix ix_tup (pv 6) pe_int (fun _ _ => rfl)) (pa_cons (pe_ix ix_tup (pv 6) pe_int (fun _ _ => rfl)) (pa_cons (pv 1) pa_nil))))) (pg_tup rfl (pgs_cons (pg_name (i := 7) sc_Flow_reached.nd rfl (by first | exact Or.inl rfl | exact Or.inr rfl)) (pgs_cons (pg_name (i := 5) sc_Flow_reached.nd rfl (by first | exact Or.inl rfl | exact Or.inr rfl)) (pgs_cons (pg_name (i := 8) sc_Flow_reached.nd rfl (by first | exact Or.inl rfl | exact Or.inr rfl)) (pgs_cons (pg_name (i := 9) sc_Flow_reached.nd rfl (by first | exact Or.inl rfl | exact Or.inr rfl)) pgs_nil)))))
      (pss_one (ps_if (pt_cmp (pc_dnotin (hu_of hr) (pe_tup (pa_cons (pv 7) (pa_cons (pv 5) pa_nil))) (pv 3)) rfl) (pss_cons (ps_dput (hu_of hr) (pv 3) (pe_tup (pa_cons (pv 7) (pa_cons (pv 5) pa_nil))) (pe_tup (pa_cons (pv 6) (pa_cons (pv 8) (pa_cons (pv 9) pa_nil)))) rfl)
      (pss_one (ps_expr (pe_bm PySem.F.plainAttrs_list PySem.F.slot_list_append PySem.F.type_list_append mt_append (pv 4) (pa_cons (pe_tup (pa_cons (pv 7) (pa_cons (pv 5) pa_nil))) pa_nil))))) pss_nil))))))
      (pss_one (ps_ret (pv 3)))))))), ?_⟩
    walk_at "go"
    refine ⟨p, dx, a, aw, g, wa, c, m, ds, d, G, W, x, rfl, S, FO, hml, hcl, fun H1 wr rs e1 nwr hwr hrs => ?_⟩
    obtain ⟨hwl, hrow⟩ := waits_rows S.ok (addL G x.more) W x.car hcl hal S.lW
    generalize hwt : waits d (addL G x.more) W x.car = wt at hrs hwl hrow
    have S1 := S.tx (.of e1)
    have FO1 := FO.same e1
    have hp1 := FO1.ins
    have hday1 := S1.day.day
    have hw1 : SqL K H1 wr rs := SqL.of hwr
    have goal : found d G W x = reached d x.car wt := by unfold found; rw [hwt]
    walk_at "go"
    intro fo nfo
    walk_at "go"
    refine ⟨szl (by simp), fun ro nro => ?_⟩
    have nro1 := none_upd nro
    have nrf : ro ≠ fo := ne_upd nro
    walk_at "gn"
    with_reducible refine c_seqJ (fun σ' H' => ∃ v5 kvs rs', σ' = [some (.ref p), some (.ref wr), some (.int (d.T : Int)), some (.ref fo), some (.ref ro), v5, none, none, none, none] ∧ Same H1 H' ∧ RQ H' fo ro kvs rs' (bfs0 d wt).1 (bfs0 d wt).2) ?_ ?_
    · rintro σ2 H2 ⟨v5, kvs, rs', rfl, e2, rq⟩
      obtain ⟨Wp, hWp⟩ : ∃ Wp : Nat → L2.St → Hp → Prop, Wp = fun n σ' H' => ∃ v5 v6 v7 v8 v9 kvs rs' f r done, σ' = [some (.ref p), some (.ref wr), some (.int (d.T : Int)), some (.ref fo), some (.ref ro), v5, v6, v7, v8, v9] ∧ Same H1 H' ∧ RQ H' fo ro kvs rs' f r ∧
        PIv d x.car wt none f r ∧ done + r.length = f.length ∧ n + done = (d.T + 1) * d.P ∧ bfs d x.car wt n (f, r) = reached d x.car wt := ⟨_, rfl⟩
      walk_at "go"
      refine ⟨Wp, ⟨(d.T + 1) * d.P, by rw [hWp]; exact ⟨_, _, _, _, _, kvs, rs', _, _, 0, rfl, e2, rq, bfs0_spec, by simp [bfs0], rfl, rfl⟩⟩, ?_⟩
      intro n σ3 H3 h3
      rw [hWp] at h3
      obtain ⟨v5, v6, v7, v8, v9, kvs, rs', f, r, done, rfl, e3, rq, I, hd1, hd2, hb⟩ := h3
      refine ⟨_, rfl, !rs'.isEmpty, .inl ⟨rs', SqL.of rq.ro, rfl⟩, ?_⟩
      cases r with
      | nil =>
        obtain rfl := rq.empty
        refine iteF ?_
        walk_at "go"
        rw [bfs_nil] at hb
        exact k _ fo kvs (e1.trans e3) (none_back e1 nfo) rq.fo (by rw [goal, ← hb]; exact rq.fd)
      | cons here r' =>
        obtain ⟨xh, rs2, rfl, hxh, rq2⟩ := rq.pop
        refine iteT ?_
        have hcnt := I.count
        have hhere := I.val here (I.sub here (by simp))
        obtain ⟨n', rfl⟩ : ∃ n', n = n' + 1 := ⟨n - 1, by simp at hd1; omega⟩
        refine ⟨Wp n', fun σ' H' h => ⟨n', by omega, h⟩, ?_⟩
        have hro3 := rq.ro
        walk_at "go"
        refine ⟨ro, _, 0, 0, _, rfl, rfl, hro3, by decide, by decide, seqIndex_of (by decide) (by simp), rfl, ?_⟩
        have e4 : Same H1 (upd H3 ro (.lst rs2)) := e3.mut nro1
        have hxh4 : upd H3 ro (.lst rs2) xh = some (.tup [.int (here.1 : Int), .int (here.2 : Int)]) := Tp.mutL hro3 _ _ hxh
        have er : (V.ref xh :: rs2).eraseIdx 0 = rs2 := rfl
        rw [er]
        generalize upd H3 ro (.lst rs2) = H4 at e4 hxh4 rq2 ⊢
        have hp4 := e4 _ _ hp1
        walk_at "go"
        refine ⟨p, dx, a, aw, g, wa, c, m, wr, ds, rs, d, G, W, x, here.1, here.2, wt, rfl, S1.tx (.of e4), FO1.same e4, hcl, hhere.1, hhere.2, e4.lst hw1, hrs.same e4, hwl, hrow, fun H5 sr ss e5 nsr hsr hss => ?_⟩
        have rq5 := rq2.same e5
        have hxh5 := e5 _ _ hxh4
        have nsf : sr ≠ fo := ne_had rq2.fo nsr
        have nso : sr ≠ ro := ne_had rq2.ro nsr
        have T0 := I.turn S.ok
        have hh : here ∈ keys f := I.sub here (by simp)
        have I0 : PIv d x.car wt (some here) f r' := ⟨I.nd, I.val, I.wf, fun n hn => I.sub n (by simp [hn]), fun n hn => by
          rcases I.clo n hn with h | h | h
          · rcases List.mem_cons.mp h with rfl | h
            · exact .inr (.inl rfl)
            · exact .inl h
          · cases h
          · exact .inr (.inr h), I.snk⟩
        walk_at "go"
        refine ⟨sr, rfl, ⟨ss, SqL.of hsr⟩, ?_⟩
        refine for_it (walk_list (xs := ss)) (fun j σ' H' => ∃ v5 v7 v8 v9 kvs rs', σ' = [some (.ref p), some (.ref wr), some (.int (d.T : Int)), some (.ref fo), some (.ref ro), v5, some (.ref xh), v7, v8, v9] ∧ Same H1 H' ∧ Tp H5 H' ∧ Tx H5 H' ∧ H' sr = some (.lst ss) ∧
          RQ H' fo ro kvs rs' (((stepsOf d x.car wt here.1 here.2).take j).foldl (visit here) (f, r')).1 (((stepsOf d x.car wt here.1 here.2).take j).foldl (visit here) (f, r')).2)
          ⟨_, _, _, _, _, _, rfl, e4.trans e5, Tp.of (Same.refl _), Tx.refl _, hsr, rq5⟩ (fun j σ' H' _ ⟨_, _, _, _, _, _, _, _, _, _, h, _⟩ => SqL.of h) ?_ ?_
        · rintro j y σ' H6 H7 hj ⟨v5, v7, v8, v9, kvs, rs3, rfl, e6, t6, x6, hsr6, rq6⟩ ⟨rfl, hy⟩
          obtain ⟨vs, sa, hvs, rfl, hsa⟩ := hss.get hy
          rw [List.getElem?_map] at hvs
          obtain ⟨st, hst, rfl⟩ := Option.map_eq_some_iff.mp hvs
          have hsa6 : SqT K H7 sa [.int (st.1 : Int), .int (st.2.1 : Int), numV st.2.2.1, .int st.2.2.2] := x6.tup hsa
          have hxh6 := t6 _ _ hxh5
          have If := PIv.fold S.ok ((stepsOf d x.car wt here.1 here.2).take j) I0 hh (fun s hs => List.mem_of_mem_take hs)
          have hcn := If.1.count
          have hlj := If.2.2.2
          rw [foldl_take _ _ hst]
          generalize ((stepsOf d x.car wt here.1 here.2).take j).foldl (visit here) (f, r') = fr at rq6 hcn hlj ⊢
          obtain ⟨fj, rj⟩ := fr
          have hkl := rq6.fd.length
          have hrl := Paired.length rq6.nd
          dsimp only at rq6 hcn hkl hlj hrl
          walk_at "go"
          refine ⟨szl (by simp), fun t1 nt1 => ?_⟩
          walk_at "go"
          have rq7 := rq6.same (Same.new (o := .tup [V.int (st.1 : Int), V.int (st.2.1 : Int)]) nt1)
          refine ⟨fo, _, rfl, DGet.t (k := ndK (st.1, st.2.1)) rq7.fo upd_same, ?_⟩
          rw [(rq7.fd.val (st.1, st.2.1)).1]
          refine c_bl ?_
          have hv : visit here (fj, rj) st = if (st.1, st.2.1) ∈ keys fj then (fj, rj) else (fj ++ [((st.1, st.2.1), some (here, st.2.2))], rj ++ [(st.1, st.2.1)]) := rfl
          rw [hv]
          by_cases hm : (st.1, st.2.1) ∈ keys fj
          · rw [if_pos hm, decide_eq_true hm]
            refine iteF ?_
            walk_at "go"
            exact ⟨_, _, _, _, _, _, rfl, e6.trans (Same.new nt1), t6.trans (.of (Same.new nt1)), x6.trans (.new nt1), get_new hsr6 nt1, rq7⟩
          · rw [if_neg hm, decide_eq_false hm]
            refine iteT ?_
            have hxh7 := get_new (u := .tup [V.int (st.1 : Int), V.int (st.2.1 : Int)]) hxh6 nt1
            have e7 := e6.trans (Same.new (o := .tup [V.int (st.1 : Int), V.int (st.2.1 : Int)]) nt1)
            have t7 := t6.trans (.of (Same.new (o := .tup [V.int (st.1 : Int), V.int (st.2.1 : Int)]) nt1))
            have x7 := x6.trans (.new (o := .tup [V.int (st.1 : Int), V.int (st.2.1 : Int)]) nt1)
            have hsr7 := get_new (u := .tup [V.int (st.1 : Int), V.int (st.2.1 : Int)]) hsr6 nt1
            generalize upd H7 t1 (.tup [V.int (st.1 : Int), V.int (st.2.1 : Int)]) = H8 at rq7 hxh7 e7 t7 x7 hsr7 ⊢
            walk_at "go"
            refine ⟨szl (by simp), fun tw ntw => ?_⟩
            walk_at "go"
            refine ⟨szl (by simp), fun t2 nt2 => ?_⟩
            have e8 : Same H8 (upd (upd H8 tw (.tup [V.ref xh, numV st.2.2.1, V.int st.2.2.2])) t2 (.tup [V.int (st.1 : Int), V.int (st.2.1 : Int)])) := (Same.new ntw).trans (Same.new nt2)
            have rq8 := rq7.same e8
            have hway : WayAt (upd (upd H8 tw (.tup [V.ref xh, numV st.2.2.1, V.int st.2.2.2])) t2 (.tup [V.int (st.1 : Int), V.int (st.2.1 : Int)])) (.ref tw) (some (here, st.2.2)) := ⟨tw, xh, rfl, get_new upd_same nt2, e8 _ _ hxh7⟩
            have ht2 : upd (upd H8 tw (.tup [V.ref xh, numV st.2.2.1, V.int st.2.2.2])) t2 (.tup [V.int (st.1 : Int), V.int (st.2.1 : Int)]) t2 = some (.tup ((ndK (st.1, st.2.1)).map kV)) := upd_same
            generalize upd (upd H8 tw (.tup [V.ref xh, numV st.2.2.1, V.int st.2.2.2])) t2 (.tup [V.int (st.1 : Int), V.int (st.2.1 : Int)]) = H9 at e8 rq8 hway ht2 ⊢
            refine ⟨fo, _, rfl, DPut.t rq8.fo ht2 (szm (by omega)), ?_⟩
            have rq9 := rq8.putD hm hway
            have hro9 := rq9.ro
            have hmf := rq8.fo
            walk_at "go"
            refine ⟨szl (by simp), fun t3 nt3 => ?_⟩
            walk_at "go"
            refine c_app (get_new hro9 nt3) (szm ?_) ?_
            · simp at hd1
              omega
            · refine ⟨_, _, _, _, _, _, rfl, Same.mut ((Same.mut (e7.trans e8) nfo).trans (Same.new nt3)) nro1, ?_, ?_, ?_, rq9.app (n := (st.1, st.2.1)) nt3⟩
              · exact (t7.trans (.of e8)).trans ((Tp.mutD hmf).trans ((Tp.of (Same.new nt3)).trans (Tp.mutL (get_new hro9 nt3))))
              · exact (x7.trans (.of e8)).trans ((Tx.mutD hmf).trans ((Tx.new nt3).trans (Tx.mutL (get_new hro9 nt3))))
              · exact get_mut nso (get_new (get_mut nsf (e8 _ _ hsr7)) nt3)
        · rintro σ' H6 ⟨v5, v7, v8, v9, kvs, rs3, rfl, e6, t6, x6, hsr6, rq6⟩
          have hsl : ss.length = (stepsOf d x.car wt here.1 here.2).length := by rw [hss.len, List.length_map]
          rw [List.take_of_length_le (by rw [hsl]; exact Nat.le_refl _)] at rq6
          walk_at "go"
          rw [hWp]
          simp at hd1
          exact ⟨_, _, _, _, _, _, _, _, _, done + 1, rfl, e6, rq6, T0.1, by have := T0.2; omega, by omega, hb⟩
    · intro R hR
      walk_at "go"
      refine ⟨_, rfl, by omega, by omega, ?_⟩
      rw [Int.toNat_natCast]
      refine for_it walk_rng (fun i σ' H' => ∃ v5 kvs rs', σ' = [some (.ref p), some (.ref wr), some (.int (d.T : Int)), some (.ref fo), some (.ref ro), v5, none, none, none, none] ∧ Same H1 H' ∧ RQ H' fo ro kvs rs' ((sinksI d wt i).map fun n => (n, none)) (sinksI d wt i))
        ⟨_, [], [], rfl, (Same.new nfo).trans (Same.new nro), by rw [upd_ne nrf.symm]; exact upd_same, .nil, upd_same, .nil⟩ (fun _ _ _ _ _ => trivial) ?_ ?_
      · rintro i y σ' H2 H3 hi ⟨v5, kvs, rs', rfl, e2, rq⟩ ⟨rfl, rfl⟩
        obtain ⟨y, hy1, hy2, hy3⟩ := wt_at hrs hwl hrow (Nat.le_refl d.T) hi
        have hw3 := e2.lst hw1
        have hy4 := e2.lst hy2
        have hkl := rq.fd.length
        have hsl := sinksI_length d wt i
        have hrl := Paired.length rq.nd
        rw [List.length_map] at hkl
        rw [sinksI_succ]
        walk_at "go"
        refine ite2 (fun h => ?_) (fun h => ?_)
        · rw [if_pos (of_decide_eq_true h)]
          walk_at "go"
          refine ⟨szl (by simp), fun t nt => ?_⟩
          have rq1 := rq.same (Same.new (o := .tup [V.int (d.T : Int), V.int (i : Int)]) nt)
          refine ⟨fo, _, rfl, DPut.t (k := ndK (d.T, i)) rq1.fo upd_same (szm (by omega)), ?_⟩
          have rq2 := rq1.putD (n := (d.T, i)) (v := .non) (way := none) (sinksI_new d wt i) rfl
          have hro2 := rq2.ro
          walk_at "go"
          refine ⟨szl (by simp), fun t2 nt2 => ?_⟩
          walk_at "go"
          refine c_app (get_new hro2 nt2) (szm (by omega)) ?_
          have rq3 := rq2.app (n := (d.T, i)) nt2
          rw [List.map_append]
          exact ⟨_, _, _, rfl, Same.mut ((Same.mut (e2.trans (Same.new nt)) nfo).trans (Same.new nt2)) nro1, rq3⟩
        · rw [if_neg (fun z => h (decide_eq_true z)), List.append_nil]
          walk_at "go"
          exact ⟨_, _, _, rfl, e2, rq⟩
      · rintro σ' H' ⟨v5, kvs, rs', rfl, e2, rq⟩
        exact hR _ _ ⟨_, _, _, rfl, e2, rq⟩
end
section
variable {P : Program} {w : World} {K : PySem.W.Frag} {mg : Str → Option Value} {base : Heap}
def spLessen (K : PySem.W.Frag) (C : Addr) : Sp := fun vs H Q _ => ∃ (H0 : Hp) (p dx a aw g wa c m : Addr) (ds : List V) (d : Day) (G W : List Int) (x : Fl), vs = [.ref p] ∧ Same H0 H ∧ H0 p = none ∧ H0 c = none ∧ H0 m = none ∧ FlowS K H0 d a aw ds g wa G W ∧ FlowO C H p dx a g wa c m x ∧ Good d G W x ∧
  (lessen d G W x = none → ∀ H', Same H0 H' → FlowO C H' p dx a g wa c m x → Q (.bl false) H') ∧ (∀ y, lessen d G W x = some y → ∀ H', Same H0 H' → FlowO C H' p dx a g wa c m y → Q (.bl true) H')
theorem mf_lessen (C : Addr) (T : Ctx K C) (B : Bl mg) (M_reached : Mf P w K mg base C "reached" 4 ["self"] (spReached K C)) (F : HasM K C "lessen" "Flow.lessen" s_Flow_lessen) : Mf P w K mg base C "lessen" 5 ["self"] (spLessen K C) := by
  refine mf_of F sc_Flow_lessen (fun _ _ _ _ _ _ us hl => match us, hl with | [_], _ => rfl) (fun vs H Q E h => ?_) (fun f cdv A outer s H vs Q E hr h => ?_)
  · obtain ⟨H0, p, dx, a, aw, g, wa, c, m, ds, d, G, W, x, rfl, _⟩ := h
    rfl
  · obtain ⟨H0, p, dx, a, aw, g, wa, c, m, ds, d, G, W, x, rfl, s0, p0, c0, m0, S0, FO, gd, k1, k2⟩ := h
    have hP := S0.sm.P
    have S := S0.tx (.of s0)
    have hday := S.day.day
    have hml := gd.len
    have hcl := gd.feas.len
    have I := found_spec S0.ok G W x
    refine ⟨(tSeq (tAsg (tMeth C "reached" (spReached K C) [] E0 (tVar 0) tNil) (gName 1)) (tSeq (tAsg (tLc (iRng1 (tCons (tOp (rIxT K) (tFld K (tVar 0) "day") (tC (.int 0))) tNil)) (gName 3) (tAnd (tB (tDIn (tTup (tCons (tC (.int 0)) (tCons (tVar 3) tNil))) (tVar 1))) (tTest (tOp (rI0 fun i j => .bl (decide (j < i))) (tOp (rIxL K) (tFld K (tVar 0) "more") (tVar 3)) (tC (.int 0))))) (tVar 3) [3]) (gName 2)) (tSeq (tIfS (tNot (fun σ H Q => (tVar 2) σ H fun x H' => ∃ k, TruV K x H' k ∧ Q k H')) (tRet (tC (.bl false))) tNext) (tSeq (tAugS (tFld K (tVar 0) "more") (tOp (rIxL K) (tVar 2) (tC (.int 0))) (tC (.int 1)) (rIxL K) (ipI fun i j => i - j) rSetL) (tSeq (tAsg (tDGet (tVar 1) (tTup (tCons (tC (.int 0)) (tCons (tOp (rIxL K) (tVar 2) (tC (.int 0))) tNil)))) (gName 4)) (tSeq (tWhile (tTest (tOp (fun x y H Q => y = .non ∧ Q (.bl (!decide (x = .non))) H) (tVar 4) (tC .non))) (tSeq (tAsg (tVar 4) (gTup K 3 (gCons (gName 5) (gCons (gName 6) (gCons (gName 7) gNil))))) (tSeq (tIfS (tTest (tOp (fun x y H Q => y = .non ∧ Q (.bl (!decide (x = .non))) H) (tVar 6) (tC .non))) (tAugS (tFld K (tVar 0) "carried") (tVar 6) (tVar 7) (rIxL K) (ipI fun i j => i + j) rSetL) tNext) (tAsg (tDGet (tVar 1) (tVar 5)) (gName 4))))) (tRet (tC (.bl true))))))))),
      (pss_cons (ps_set (i := 1) sc_Flow_lessen.nd rfl (by first | exact Or.inl rfl | exact Or.inr rfl) (pe_mf0 T.cl M_reached (hr.mono (by decide)) (pv 0)))
      (pss_cons (ps_setLc (i := 2) (own := [("place", 3)]) (g := (gName 3)) (tt := (tAnd (tB (tDIn (tTup (tCons (tC (.int 0)) (tCons (tVar 3) tNil))) (tVar 1))) (tTest (tOp (rI0 fun i j => .bl (decide (j < i))) (tOp (rIxL K) (tFld K (tVar 0) "more") (tVar 3)) (tC (.int 0)))))) (te := (tVar 3)) rfl sc_Flow_lessen.nd rfl rfl (sw_true rfl rfl rfl (by decide +kernel)) (pi_range1 (by rfl) B.range (pa_cons (pe_ix ix_tup (pe_fld (pv 0) rfl) pe_int (fun _ _ => rfl)) pa_nil)) (blkOk_by (own := [("place", 3)]) (N := ["self", "found", "some", "place", "way", "here", "number", "sign"]) (sc := defScope s_Flow_lessen) (by decide +kernel)) (fun _ _ _ _ _ => (pg_name (i := 3) sc_Flow_lessen.nd rfl (by first | exact Or.inl rfl | exact Or.inr rfl))) (fun _ _ _ _ _ => (pts_one (PW.pt (pw_and (pt_cmp (pc_din (hu_of hr) (pe_tup (pa_cons pe_int (pa_cons (pv 3) pa_nil))) (pv 1)) rfl) (pw_and1 (pt_cmpR op_gt (pe_ix ix_list (pe_fld (pv 0) rfl) (pv 3) (fun _ _ => rfl)) pe_int (nomark _))))))) (fun _ _ _ _ _ => (pv 3)))
      (pss_cons (ps_if (pt_not (pt_truth (pv 2) (by intro _; rfl))) (pss_one (ps_ret pe_bl)) pss_nil)
      (pss_cons (ps_augS (pe_fld (pv 0) rfl) (pe_ix ix_list (pv 2) pe_int (fun _ _ => rfl)) get_list pe_int ip_sub set_list)
      (pss_cons (ps_set (i := 4) sc_Flow_lessen.nd rfl (by first | exact Or.inl rfl | exact Or.inr rfl) (pe_dget (hu_of hr) (pv 1) (pe_tup (pa_cons pe_int (pa_cons (pe_ix ix_list (pv 2) pe_int (fun _ _ => rfl)) pa_nil))) (fun _ _ => rfl)))
      (pss_cons (ps_while PassesOwn.never (pt_cmpR op_notN (pv 4) pe_non (nomark _))
      (pss_cons (ps_asg (pv 4) (pg_tup rfl (pgs_cons (pg_name (i := 5) sc_Flow_lessen.nd rfl (by first | exact Or.inl rfl | exact Or.inr rfl)) (pgs_cons (pg_name (i := 6) sc_Flow_lessen.nd rfl (by first | exact Or.inl rfl | exact Or.inr rfl)) (pgs_cons (pg_name (i := 7) sc_Flow_lessen.nd rfl (by first | exact Or.inl rfl | exact Or.inr rfl)) pgs_nil)))))
      (pss_cons (ps_if (pt_cmpR op_notN (pv 6) pe_non (nomark _)) (pss_one (ps_augS (pe_fld (pv 0) rfl) (pv 6) get_list (pv 7) ip_add set_list)) pss_nil)
      (pss_one (ps_set (i := 4) sc_Flow_lessen.nd rfl (by first | exact Or.inl rfl | exact Or.inr rfl) (pe_dget (hu_of hr) (pv 1) (pv 5) (fun _ _ => rfl)))))))
      (pss_one (ps_ret pe_bl)))))))), ?_⟩
    have hp := FO.ins
    walk_at "go"
    refine ⟨p, dx, a, aw, g, wa, c, m, ds, d, G, W, x, rfl, S, FO, hml, hcl, fun H1 fo kvs e1 nfo hfo hfd => ?_⟩
    have hle : lessen d G W x = match somes d (found d G W x) x with
      | [] => none
      | p :: _ => some ⟨addAt x.more p (-1), follow (found d G W x) (found d G W x).length (wayOf (found d G W x) (0, p)) x.car⟩ := rfl
    generalize found d G W x = f at hfd I hle
    have FO1 := FO.same e1
    have hp1 := FO1.ins
    have hm1 := FO1.more
    have hday1 := e1.tup hday
    have cm := FO.cm
    have nfm : fo ≠ m := ne_of hfo hm1 (fun z => nomatch z)
    have nfc : fo ≠ c := ne_of hfo FO1.car (fun z => nomatch z)
    walk_at "go"
    refine ⟨_, rfl, by omega, by omega, ?_⟩
    rw [Int.toNat_natCast]
    intro so nso
    have nsm : so ≠ m := ne_had hm1 nso
    refine lc_it walk_rng (fun j H2 => Same H1 H2 ∧ H2 so = some (.lst (vN ((List.range j).filter (fun p => decide ((0, p) ∈ keys f) && decide (0 < x.more.getD p 0)))))) ⟨Same.new nso, upd_same⟩ (fun _ _ _ _ => trivial) ?_ ?_
    · rintro j y H2 H3 hj ⟨e2, hD⟩ ⟨rfl, rfl⟩
      have hp2 := e2 _ _ hp1
      have hm2 := e2 _ _ hm1
      have hg := vI_get (show j < x.more.length by rw [hml]; exact hj)
      have hfl := List.length_filter_le (fun p => decide ((0, p) ∈ keys f) && decide (0 < x.more.getD p 0)) (List.range j)
      rw [List.length_range] at hfl
      rw [List.range_succ, List.filter_append]
      generalize hL : (List.range j).filter (fun p => decide ((0, p) ∈ keys f) && decide (0 < x.more.getD p 0)) = L at hD hfl ⊢
      walk_at "go"
      refine ⟨rfl, ?_⟩
      walk_at "go"
      refine ⟨szl (by simp), fun t nt => ?_⟩
      have hfo2 := get_new (u := .tup [V.int 0, V.int (j : Int)]) (e2 _ _ hfo) nt
      have e3 : Same H1 (upd H3 t (.tup [V.int 0, V.int (j : Int)])) := e2.trans (Same.new nt)
      have hD3 := get_new (u := .tup [V.int 0, V.int (j : Int)]) hD nt
      have hp3 := e3 _ _ hp1
      have hm3 := e3 _ _ hm1
      walk_at "go"
      refine ⟨fo, _, rfl, DGet.t (k := ndK (0, j)) hfo2 upd_same, ?_⟩
      rw [(hfd.val (0, j)).1]
      refine c_bl ?_
      refine ite2 (fun h1 => ?_) (fun h1 => ?_)
      · walk_at "go"
        refine ite2 (fun h2 => ?_) (fun h2 => ?_)
        · walk_at "go"
          refine ⟨_, hD3, szl' (by simp; omega), e3.mut nso, ?_⟩
          rw [upd_same, filt1 (q := fun p => decide ((0, p) ∈ keys f) && decide (0 < x.more.getD p 0)) (by show (_ && _) = true; rw [h1, h2]; rfl)]
          simp
        · refine ⟨e3, ?_⟩
          rw [hD3, filt0 (q := fun p => decide ((0, p) ∈ keys f) && decide (0 < x.more.getD p 0)) (by show (_ && _) = false; rw [h1, Bool.eq_false_iff.mpr h2]; rfl), List.append_nil]
      · refine iteF ?_
        refine ⟨e3, ?_⟩
        rw [hD3, filt0 (q := fun p => decide ((0, p) ∈ keys f) && decide (0 < x.more.getD p 0)) (by show (_ && _) = false; rw [Bool.eq_false_iff.mpr h1]; rfl), List.append_nil]
    · rintro H2 ⟨e2, hD⟩
      have hsm : somes d f x = (List.range d.P).filter (fun p => decide ((0, p) ∈ keys f) && decide (0 < x.more.getD p 0)) := rfl
      rw [← hsm] at hD
      have hmem : ∀ q, q ∈ somes d f x → q < d.P ∧ (0, q) ∈ keys f ∧ 0 < x.more.getD q 0 := fun q hq => somes_mem.mp hq
      have FO2 := FO1.same e2
      have hp2 := FO2.ins
      have hm2 := FO2.more
      have hfo2 := e2 _ _ hfo
      have hfd2 := hfd.tp (.of e2)
      have s2 : Same H0 H2 := s0.trans (e1.trans e2)
      walk_at "go"
      refine ⟨_, .inl ⟨_, SqL.of hD, rfl⟩, ?_⟩
      generalize hL : somes d f x = L at hD hle hmem
      cases L with
      | nil =>
        refine iteT ?_
        walk_at "go"
        exact k1 hle _ s2 FO2
      | cons q0 qs =>
        refine iteF ?_
        have hD2 : H2 so = some (.lst (V.int (q0 : Int) :: vN qs)) := hD
        obtain ⟨hq1, hq2, hq3⟩ := hmem q0 (by simp)
        have hqm : q0 < x.more.length := by rw [hml]; exact hq1
        have hg := vI_get hqm
        have hj : ixN (vI x.more).length (q0 : Int) = some q0 := ixN_nat (by simpa using hqm)
        have k2' := k2 _ hle
        clear k2 k1
        walk_at "go"
        refine ⟨szl (by simp), fun t nt => ?_⟩
        obtain ⟨H3, hH3⟩ : ∃ H3, H3 = upd (upd H2 m (.lst ((vI x.more).set q0 (V.int (x.more.getD q0 0 - 1))))) t (.tup [V.int 0, V.int (q0 : Int)]) := ⟨_, rfl⟩
        rw [← hH3]
        have hmt : upd H2 m (.lst ((vI x.more).set q0 (V.int (x.more.getD q0 0 - 1)))) m = some (.lst (vI (addAt x.more q0 (-1)))) := by
          rw [upd_same, vI_set]
          rfl
        have s3 : Same H0 H3 := by rw [hH3]; exact (s2.mut m0).trans (Same.new nt)
        have npm : p ≠ m := ne_of hp2 hm2 (fun z => nomatch z)
        have tp3 : Tp H2 H3 := by rw [hH3]; exact (Tp.mutL hm2).trans (.of (Same.new nt))
        have hp3 : H3 p = some (.ins C dx (ff a g wa c m)) := by rw [hH3]; exact get_new (get_mut npm hp2) nt
        have hc3 : H3 c = some (.lst (vI x.car)) := by rw [hH3]; exact get_new (get_mut cm FO2.car) nt
        have hm3 : H3 m = some (.lst (vI (addAt x.more q0 (-1)))) := by rw [hH3]; exact get_new hmt nt
        have hfo3 : H3 fo = some (.dT kvs) := by rw [hH3]; exact get_new (get_mut nfm hfo2) nt
        have ht3 : H3 t = some (.tup ((ndK (0, q0)).map kV)) := by rw [hH3]; exact upd_same
        have hfd3 := hfd2.tp tp3
        clear hH3 nt
        obtain ⟨⟨nd0, way0⟩, hx0, ex0⟩ := List.mem_map.mp hq2
        obtain ⟨pre0, post0, ef0⟩ := List.append_of_mem hx0
        cases ex0
        have hlk := lookup_split I.nd ef0
        have hwy : wayOf f (0, q0) = way0 := by unfold wayOf; rw [hlk]; rfl
        obtain ⟨v0, hv0, hw0⟩ := (hfd3.val (0, q0)).2 way0 hlk
        rw [hwy] at k2'
        refine ⟨fo, v0, rfl, by rw [← hv0]; exact DGet.t hfo3 ht3, ?_⟩
        obtain ⟨Wp, hWp⟩ : ∃ Wp : Nat → L2.St → Hp → Prop, Wp = fun n σ' H' => ∃ v3 v v5 v6 v7 way pre nd post cs fuel, σ' = [some (.ref p), some (.ref fo), some (.ref so), v3, some v, v5, v6, v7] ∧ Same H0 H' ∧ H' p = some (.ins C dx (ff a g wa c m)) ∧ H' c = some (.lst (vI cs)) ∧
          H' m = some (.lst (vI (addAt x.more q0 (-1)))) ∧ H' fo = some (.dT kvs) ∧ FdAt H' kvs f ∧ WayAt H' v way ∧ f = pre ++ (nd, way) :: post ∧ n = pre.length ∧ pre.length ≤ fuel ∧ follow f fuel way cs = follow f f.length way0 x.car ∧ cs.length = d.ws.length := ⟨_, rfl⟩
        walk_at "go"
        refine ⟨Wp, ⟨pre0.length, by rw [hWp]; exact ⟨_, v0, _, _, _, way0, pre0, (0, q0), post0, x.car, f.length, rfl, s3, hp3, hc3, hm3, hfo3, hfd3, hw0, ef0, rfl, by rw [ef0]; simp, rfl, hcl⟩⟩, ?_⟩
        intro n σ4 H4 h4
        rw [hWp] at h4
        obtain ⟨v3, v, v5, v6, v7, way, pre, nd, post, cs, fuel, rfl, s4, hp4, hc4, hm4, hfo4, hfd4, hw4, ef, rfl, hfu, hfol, hcsl⟩ := h4
        walk_at "go"
        refine ⟨rfl, ?_⟩
        refine c_bl ?_
        match way, hw4, ef, hfol with
        | none, hw4, ef, hfol =>
          obtain rfl : v = .non := hw4
          refine iteF ?_
          walk_at "go"
          have : follow f fuel none cs = cs := by cases fuel <;> rfl
          rw [this] at hfol
          exact k2' _ s4 ⟨hp4, by rw [← hfol]; exact hc4, hm4, cm⟩
        | some (here, num, sg), hw4, ef, hfol =>
          obtain ⟨tw, xh, rfl, htw, hxh⟩ := hw4
          obtain ⟨hk1, hk2⟩ := I.wf pre nd _ post ef
          obtain ⟨⟨nh, way'⟩, hxn, exn⟩ := List.mem_map.mp hk1
          obtain ⟨pre1, post1, ep1⟩ := List.append_of_mem hxn
          have exn' : here = nh := exn.symm
          subst exn'
          have ef1 : f = pre1 ++ (here, way') :: (post1 ++ (nd, some (here, num, sg)) :: post) := by rw [ef, ep1]; simp
          have hlk1 := lookup_split I.nd ef1
          have hwy1 : wayOf f here = way' := by unfold wayOf; rw [hlk1]; rfl
          have hpl : pre1.length < pre.length := by rw [ep1]; simp
          obtain ⟨fuel', rfl⟩ : ∃ fuel', fuel = fuel' + 1 := ⟨fuel - 1, by omega⟩
          rw [show (!decide (V.ref tw = V.non)) = true by rw [decide_eq_false (fun z => nomatch z)]; rfl]
          refine iteT ?_
          refine ⟨Wp pre1.length, fun σ' H' h => ⟨_, hpl, h⟩, ?_⟩
          with_reducible refine c_seq ?_
          walk_at "gn"
          with_reducible refine c_seqJ (fun σ' H' => ∃ cs', σ' = [some (.ref p), some (.ref fo), some (.ref so), v3, some (.ref tw), some (.ref xh), some (numV num), some (.int sg)] ∧ Same H0 H' ∧ H' p = some (.ins C dx (ff a g wa c m)) ∧ H' c = some (.lst (vI cs')) ∧
            H' m = some (.lst (vI (addAt x.more q0 (-1)))) ∧ H' fo = some (.dT kvs) ∧ Tp H4 H' ∧ follow f fuel' way' cs' = follow f f.length way0 x.car ∧ cs'.length = d.ws.length) ?_ ?_
          · rintro σ5 H5 ⟨cs', rfl, s5, hp5, hc5, hm5, hfo5, t5, hfol5, hcs5⟩
            have hfd5 := hfd4.tp t5
            obtain ⟨v', hv', hw'⟩ := (hfd5.val here).2 way' hlk1
            walk_at "go"
            refine ⟨fo, v', rfl, by rw [← hv']; exact DGet.t hfo5 (t5 _ _ hxh), ?_⟩
            walk_at "go"
            rw [hWp]
            exact ⟨_, v', _, _, _, way', pre1, here, _, cs', fuel', rfl, s5, hp5, hc5, hm5, hfo5, hfd5, hw', ef1, rfl, by omega, hfol5, hcs5⟩
          · intro R hR
            cases num with
            | none =>
              have h1 : follow f (fuel' + 1) (some (here, none, sg)) cs = follow f fuel' (wayOf f here) cs := rfl
              rw [h1, hwy1] at hfol
              walk_at "go"
              refine ⟨rfl, ?_⟩
              refine c_bl ?_
              refine iteF ?_
              walk_at "go"
              exact hR _ _ ⟨cs, rfl, s4, hp4, hc4, hm4, hfo4, .of (Same.refl _), hfol, hcsl⟩
            | some i =>
              have h1 : follow f (fuel' + 1) (some (here, some i, sg)) cs = follow f fuel' (wayOf f here) (addAt cs i sg) := rfl
              rw [h1, hwy1] at hfol
              have hi : i < cs.length := by
                rw [hcsl]
                rcases mem_steps.mp hk2 with ⟨_, z⟩ | ⟨_, z⟩ | ⟨i', w', hi', ⟨_, z⟩ | ⟨_, z⟩⟩
                · injection z with _ z; injection z with _ z; injection z with z _; cases z
                · injection z with _ z; injection z with _ z; injection z with z _; cases z
                · injection z with _ z; injection z with _ z; injection z with z _; injection z with z
                  rw [z]; exact (List.getElem?_eq_some_iff.mp hi').1
                · injection z with _ z; injection z with _ z; injection z with z _; injection z with z
                  rw [z]; exact (List.getElem?_eq_some_iff.mp hi').1
              have hgc := vI_get hi
              have hjc : ixN (vI cs).length (i : Int) = some i := ixN_nat (by simpa using hi)
              have npc : p ≠ c := ne_of hp4 hc4 (fun z => nomatch z)
              walk_at "go"
              refine ⟨rfl, ?_⟩
              refine c_bl ?_
              refine iteT ?_
              rw [show numV (some i) = V.int (i : Int) from rfl]
              walk_at "go"
              refine hR _ _ ⟨addAt cs i sg, rfl, s4.mut c0, get_mut npc hp4, ?_, get_mut cm.symm hm4, get_mut nfc hfo4, Tp.mutL hc4, hfol, by rw [addAt_length]; exact hcsl⟩
              rw [upd_same, vI_set]
              rfl
end
section
variable {P : Program} {w : World} {K : PySem.W.Frag} {mg : Str → Option Value} {base : Heap}
def spSettle (K : PySem.W.Frag) (C : Addr) : Sp := fun vs H Q _ => ∃ (H0 : Hp) (p dx a aw g wa c m : Addr) (ds : List V) (d : Day) (G W : List Int) (x : Fl), vs = [.ref p] ∧ Same H0 H ∧ H0 p = none ∧ H0 c = none ∧ H0 m = none ∧ FlowS K H0 d a aw ds g wa G W ∧ FlowO C H p dx a g wa c m x ∧ Good d G W x ∧
  ∀ H', Same H0 H' → FlowO C H' p dx a g wa c m (settle d G W x.more.sum.toNat x) → Q .non H'
theorem settle_none {d : Day} {G W : List Int} {x : Fl} (h : lessen d G W x = none) : ∀ n, settle d G W n x = x
  | 0 => rfl
  | n + 1 => by unfold Dry.settle; rw [h]
theorem mf_settle (C : Addr) (T : Ctx K C) (B : Bl mg) (M_lessen : Mf P w K mg base C "lessen" 5 ["self"] (spLessen K C)) (F : HasM K C "settle" "Flow.settle" s_Flow_settle) : Mf P w K mg base C "settle" 6 ["self"] (spSettle K C) := by
  refine mf_of F sc_Flow_settle (fun _ _ _ _ _ _ us hl => match us, hl with | [_], _ => rfl) (fun vs H Q E h => ?_) (fun f cdv A outer s H vs Q E hr h => ?_)
  · obtain ⟨H0, p, dx, a, aw, g, wa, c, m, ds, d, G, W, x, rfl, _⟩ := h
    rfl
  · obtain ⟨H0, p, dx, a, aw, g, wa, c, m, ds, d, G, W, x, rfl, s0, p0, c0, m0, S0, FO, gd, k⟩ := h
    refine ⟨(tSeq (tAsg (tC (.bl true)) (gName 1)) (tWhile (tB (tVar 1)) (tAsg (tMeth C "lessen" (spLessen K C) [] E0 (tVar 0) tNil) (gName 1)))),
      (pss_cons (ps_set (i := 1) sc_Flow_settle.nd rfl (by first | exact Or.inl rfl | exact Or.inr rfl) pe_bl)
      (pss_one (ps_while PassesOwn.never (pt_val (pv 1))
      (pss_one (ps_set (i := 1) sc_Flow_settle.nd rfl (by first | exact Or.inl rfl | exact Or.inr rfl) (pe_mf0 T.cl M_lessen (hr.mono (by decide)) (pv 0))))))), ?_⟩
    walk_at "go"
    obtain ⟨Wp, hWp⟩ : ∃ Wp : Nat → L2.St → Hp → Prop, Wp = fun n σ' H' => ∃ b y, σ' = [some (.ref p), some (.bl b)] ∧ Same H0 H' ∧ FlowO C H' p dx a g wa c m y ∧ Good d G W y ∧ settle d G W y.more.sum.toNat y = settle d G W x.more.sum.toNat x ∧ (b = true → n = y.more.sum.toNat + 1) ∧ (b = false → lessen d G W y = none) := ⟨_, rfl⟩
    refine ⟨Wp, ⟨x.more.sum.toNat + 1, by rw [hWp]; exact ⟨true, x, rfl, s0, FO, gd, rfl, fun _ => rfl, (fun z => Bool.noConfusion z)⟩⟩, ?_⟩
    intro n σ1 H1 h1
    rw [hWp] at h1
    obtain ⟨b, y, rfl, s1, FO1, g1, hs, hb1, hb2⟩ := h1
    have hp1 := FO1.ins
    walk_at "go"
    cases b with
    | false =>
      refine iteF ?_
      rw [settle_none (hb2 rfl)] at hs
      exact k _ s1 (by rw [← hs]; exact FO1)
    | true =>
      refine iteT ?_
      have hn := hb1 rfl
      refine ⟨fun σ' H' => ∃ m, m < n ∧ Wp m σ' H', fun _ _ h => h, ?_⟩
      walk_at "go"
      refine ⟨H0, p, dx, a, aw, g, wa, c, m, ds, d, G, W, y, rfl, s1, p0, c0, m0, S0, FO1, g1, fun hl H' s' FO' => ?_, fun z hl H' s' FO' => ?_⟩
      · walk_at "go"
        refine ⟨0, by omega, ?_⟩
        rw [hWp]
        exact ⟨false, y, rfl, s', FO', g1, hs, (fun z => Bool.noConfusion z), fun _ => hl⟩
      · walk_at "go"
        obtain ⟨gz, sz⟩ := lessen_good S0.ok S0.lG S0.lW g1 hl
        have nz := sum_nonneg gz.nn
        have e : y.more.sum.toNat = z.more.sum.toNat + 1 := by omega
        refine ⟨z.more.sum.toNat + 1, by omega, ?_⟩
        rw [hWp]
        refine ⟨true, z, rfl, s', FO', gz, ?_, fun _ => rfl, (fun z => Bool.noConfusion z)⟩
        rw [← hs, e]
        conv => rhs; unfold Dry.settle
        rw [hl]
def spFlowLine (K : PySem.W.Frag) (C : Addr) : Sp := fun vs H Q _ => ∃ (p dx a aw g wa c m : Addr) (ds : List V) (d : Day) (G W : List Int) (x : Fl), vs = [.ref p] ∧ FlowS K H d a aw ds g wa G W ∧ FlowO C H p dx a g wa c m x ∧ x.more.length = d.P ∧ x.car.length = d.ws.length ∧
  ∀ (H' : Hp) (r : Addr), Same H H' → H r = none → H' r = some (.tup (vN (lineFl d G W x))) → Q (.ref r) H'
theorem mf_line (C : Addr) (T : Ctx K C) (B : Bl mg) (M_reached : Mf P w K mg base C "reached" 4 ["self"] (spReached K C)) (F : HasM K C "line" "Flow.line" s_Flow_line) : Mf P w K mg base C "line" 5 ["self"] (spFlowLine K C) := by
  refine mf_of F sc_Flow_line (fun _ _ _ _ _ _ us hl => match us, hl with | [_], _ => rfl) (fun vs H Q E h => ?_) (fun f cdv A outer s H vs Q E hr h => ?_)
  · obtain ⟨p, dx, a, aw, g, wa, c, m, ds, d, G, W, x, rfl, _⟩ := h
    rfl
  · obtain ⟨p, dx, a, aw, g, wa, c, m, ds, d, G, W, x, rfl, S, FO, hml, hcl, k⟩ := h
    have hP := S.sm.P
    have hT := S.sm.T
    have hday := S.day.day
    have hp := FO.ins
    refine ⟨(tSeq (tAsg (tMeth C "reached" (spReached K C) [] E0 (tVar 0) tNil) (gName 1)) (tSeq (tAsg (tLst tNil) (gName 2)) (tSeq (tFor (iRng1 (tCons (tOp (rIxT K) (tFld K (tVar 0) "day") (tC (.int 0))) tNil)) (gName 3) (tDrop (tBM K "list" rAppend (tVar 2) (tCons (tCB (rLenS K) (tCons (tLc (iRng1 (tCons (tOp (rI0 fun i j => .int (i + j)) (tOp (rIxT K) (tFld K (tVar 0) "day") (tC (.int 1))) (tC (.int 1))) tNil)) (gName 4) (tB (tDNotIn (tTup (tCons (tVar 4) (tCons (tVar 3) tNil))) (tVar 1))) (tC (.int 1)) [4]) tNil)) tNil)))) (tRet (tCB (rTupOf K) (tCons (tVar 2) tNil)))))),
      (pss_cons (ps_set (i := 1) sc_Flow_line.nd rfl (by first | exact Or.inl rfl | exact Or.inr rfl) (pe_mf0 T.cl M_reached (hr.mono (by decide)) (pv 0)))
      (pss_cons (ps_set (i := 2) sc_Flow_line.nd rfl (by first | exact Or.inl rfl | exact Or.inr rfl) (pe_lst pa_nil))
      (pss_cons (ps_for PassesOwn.never rfl (pi_range1 (by rfl) B.range (pa_cons (pe_ix ix_tup (pe_fld (pv 0) rfl) pe_int (fun _ _ => rfl)) pa_nil)) (pg_name (i := 3) sc_Flow_line.nd rfl (by first | exact Or.inl rfl | exact Or.inr rfl))
      (pss_one (ps_expr (pe_bm PySem.F.plainAttrs_list PySem.F.slot_list_append PySem.F.type_list_append mt_append (pv 2) (pa_cons (pe_callB call_len_seq (by rfl) B.len bt_len (pa_cons (pe_lc (own := [("moment", 4)]) (g := (gName 4)) (tt := (tB (tDNotIn (tTup (tCons (tVar 4) (tCons (tVar 3) tNil))) (tVar 1)))) (te := (tC (.int 1))) rfl sc_Flow_line.nd (pi_range1 (by rfl) B.range (pa_cons (pe_op op_add (pe_ix ix_tup (pe_fld (pv 0) rfl) pe_int (fun _ _ => rfl)) pe_int) pa_nil)) (blkOk_by (own := [("moment", 4)]) (N := ["self", "found", "counts", "place", "moment"]) (sc := defScope s_Flow_line) (by decide +kernel)) (fun _ _ _ _ _ => (pg_name (i := 4) sc_Flow_line.nd rfl (by first | exact Or.inl rfl | exact Or.inr rfl))) (fun _ _ _ _ _ => (pts_one (pt_cmp (pc_dnotin (hu_of hr) (pe_tup (pa_cons (pv 4) (pa_cons (pv 3) pa_nil))) (pv 1)) rfl))) (fun _ _ _ _ _ => pe_int)) pa_nil)) pa_nil)))))
      (pss_one (ps_ret (pe_callTy call_tuple_of (by rfl) B.tuple bt_tuple (pa_cons (pv 2) pa_nil))))))), ?_⟩
    walk_at "go"
    refine ⟨p, dx, a, aw, g, wa, c, m, ds, d, G, W, x, rfl, S, FO, hml, hcl, fun H1 fo kvs e1 nfo hfo hfd => ?_⟩
    have hli : lineFl d G W x = (List.range d.P).map fun p => ((List.range (d.T + 1)).filter fun m => decide ((m, p) ∉ keys (found d G W x))).length := rfl
    rw [hli] at k
    generalize found d G W x = f at hfd k
    have hp1 := e1 _ _ hp
    have hday1 := e1.tup hday
    walk_at "go"
    refine ⟨szl (by simp), fun co nco => ?_⟩
    walk_at "go"
    refine ⟨_, rfl, by omega, by omega, ?_⟩
    rw [Int.toNat_natCast]
    refine for_it walk_rng (fun i σ' H' => ∃ v3, σ' = [some (.ref p), some (.ref fo), some (.ref co), v3, none] ∧ Same H1 H' ∧ H' co = some (.lst (vN ((List.range i).map fun p => ((List.range (d.T + 1)).filter fun m => decide ((m, p) ∉ keys f)).length))))
      ⟨_, rfl, Same.new nco, upd_same⟩ (fun _ _ _ _ _ => trivial) ?_ ?_
    · rintro i y σ' H2 H3 hi ⟨v3, rfl, e2, hco⟩ ⟨rfl, rfl⟩
      have hp2 := e2 _ _ hp1
      have hday2 := e2.tup hday1
      walk_at "go"
      refine ⟨_, rfl, by omega, by omega, ?_⟩
      have eT : ((d.T : Int) + 1).toNat = d.T + 1 := by omega
      rw [eT]
      intro so nso
      refine lc_it walk_rng (fun j H4 => Same H3 H4 ∧ H4 so = some (.lst (List.replicate ((List.range j).filter fun m => decide ((m, i) ∉ keys f)).length (V.int 1)))) ⟨Same.new nso, upd_same⟩ (fun _ _ _ _ => trivial) ?_ ?_
      · rintro j y H4 H5 hj ⟨e4, hD⟩ ⟨rfl, rfl⟩
        have hfl := List.length_filter_le (fun m => decide ((m, i) ∉ keys f)) (List.range j)
        rw [List.length_range] at hfl
        rw [List.range_succ, List.filter_append, List.length_append]
        walk_at "go"
        refine ⟨rfl, ?_⟩
        walk_at "go"
        refine ⟨szl (by simp), fun t nt => ?_⟩
        have e5 : Same H1 (upd H5 t (.tup [V.int (j : Int), V.int (i : Int)])) := e2.trans (e4.trans (Same.new nt))
        walk_at "go"
        refine ⟨fo, _, rfl, DGet.t (k := ndK (j, i)) (e5 _ _ hfo) upd_same, ?_⟩
        rw [(hfd.val (j, i)).1]
        refine c_bl ?_
        by_cases hm : (j, i) ∈ keys f
        · rw [decide_eq_true hm]
          refine iteF ⟨e4.trans (Same.new nt), ?_⟩
          rw [filt0 (q := fun m => decide ((m, i) ∉ keys f)) (by simp [hm])]
          exact get_new hD nt
        · rw [decide_eq_false hm]
          refine iteT ?_
          walk_at "go"
          refine ⟨_, get_new hD nt, szl' (by rw [List.length_replicate]; omega), (e4.trans (Same.new nt)).mut nso, ?_⟩
          rw [upd_same, filt1 (q := fun m => decide ((m, i) ∉ keys f)) (by simp [hm])]
          rw [List.length_singleton, List.replicate_succ']
      · rintro H4 ⟨e4, hD⟩
        have hco4 := e4 _ _ hco
        walk_at "go"
        refine c_app hco4 (szl' (by simp; omega)) ?_
        refine ⟨_, rfl, (e2.trans e4).mut nco, ?_⟩
        rw [upd_same, range_succ_map]
        simp
    · rintro σ' H2 ⟨v3, rfl, e2, hco⟩
      walk_at "go"
      intro r nr
      walk_at "go"
      exact k _ r (e1.trans (e2.trans (Same.new nr))) (none_back (e1.trans e2) nr) upd_same
end
section
variable {P : Program} {w : World} {K : PySem.W.Frag} {mg : Str → Option Value} {base : Heap}
def spSettled (K : PySem.W.Frag) (C : Addr) : Sp := fun vs H Q _ => ∃ (a aw g wa : Addr) (ds : List V) (d : Day) (G W : List Int), vs = [.ref a, .ref g, .ref wa] ∧ FlowS K H d a aw ds g wa G W ∧ (∀ p, 0 ≤ G.getD p 0) ∧ (∀ p, 0 ≤ W.getD p 0) ∧
  ∀ (H' : Hp) (p dx c m : Addr), Same H H' → FlowO C H' p dx a g wa c m (settled d G W) → Q (.ref p) H'
theorem df_settled (C : Addr) (T : Ctx K C) (B : Bl mg) (M_init : Mkf P w K mg base "Flow" C 1 ["self", "day", "given", "wanted"] (spInit K C)) (M_settle : Mf P w K mg base C "settle" 6 ["self"] (spSettle K C)) (F : Has K mg "settled" s_settled) : Df P w K mg base "settled" 7 ["day", "given", "wanted"] (spSettled K C) := by
  refine df_of F sc_settled (fun _ _ _ _ _ _ us hl => match us, hl with | [_, _, _], _ => rfl) (fun vs H Q E h => ?_) (fun f cdv A outer s H vs Q E hr h => ?_)
  · obtain ⟨a, aw, g, wa, ds, d, G, W, rfl, _⟩ := h
    rfl
  · obtain ⟨a, aw, g, wa, ds, d, G, W, rfl, S, gn, wn, k⟩ := h
    refine ⟨(tSeq (tAsg (tMake C (spInit K C) [] E0 (tCons (tVar 0) (tCons (tVar 1) (tCons (tVar 2) tNil)))) (gName 3)) (tSeq (tDrop (tMeth C "settle" (spSettle K C) [] E0 (tVar 3) tNil)) (tRet (tVar 3)))),
      (pss_cons (ps_set (i := 3) sc_settled.nd rfl (by first | exact Or.inl rfl | exact Or.inr rfl) (pe_mk M_init (hr.mono (by decide)) (by rfl) (pa_cons (pv 0) (pa_cons (pv 1) (pa_cons (pv 2) pa_nil)))))
      (pss_cons (ps_expr (pe_mf0 T.cl M_settle (hr.mono (by decide)) (pv 3)))
      (pss_one (ps_ret (pv 3))))), ?_⟩
    walk_at "go"
    intro p dx np ndx ne
    have np1 : upd H dx (.own p) p = none := by rw [upd_ne ne.symm]; exact np
    refine ⟨H, p, dx, a, aw, g, wa, ds, d, G, W, rfl, (Same.new ndx).trans (Same.new np1), np, upd_same, S, fun H1 c m e1 c0 m0 FO => ⟨rfl, ?_⟩⟩
    have hp1 := FO.ins
    walk_at "go"
    refine ⟨H, p, dx, a, aw, g, wa, c, m, ds, d, G, W, flow0 d W, rfl, e1, np, c0, m0, S, FO, flow0_good S.ok S.lG S.lW gn wn, fun H2 s2 FO2 => ?_⟩
    walk_at "go"
    exact k _ p dx c m s2 FO2
end
section
variable {P : Program} {w : World} {K : PySem.W.Frag} {mg : Str → Option Value} {base : Heap}
def spFewest (K : PySem.W.Frag) : Sp := fun vs H Q _ => ∃ (a aw wa : Addr) (ds : List V) (d : Day) (W : List Int), vs = [.ref a, .ref wa] ∧ DayAt K H a aw ds d ∧ d.Ok ∧ d.Sm ∧ 2 ≤ d.P ∧ SqT K H wa (vI W) ∧ W.length = d.P ∧ (∀ p, 0 ≤ W.getD p 0) ∧
  ∀ (H' : Hp) (r s c : Addr), Same H H' → H' r = some (.tup [.int (fewest d W).1, .ref s, .ref c]) → H' s = some (.tup (vI (fewest d W).2.1)) → H' c = some (.tup (vI (fewest d W).2.2)) → Q (.ref r) H'
theorem df_fewest (C : Addr) (T : Ctx K C) (B : Bl mg) (D_settled : Df P w K mg base "settled" 7 ["day", "given", "wanted"] (spSettled K C)) (M_starts : Mf P w K mg base C "starts" 1 ["self"] (spStarts K C)) (F : Has K mg "fewest" s_fewest) : Df P w K mg base "fewest" 8 ["day", "wanted"] (spFewest K) := by
  refine df_of F sc_fewest (fun _ _ _ _ _ _ us hl => match us, hl with | [_, _], _ => rfl) (fun vs H Q E h => ?_) (fun f cdv A outer s H vs Q E hr h => ?_)
  · obtain ⟨a, aw, wa, ds, d, W, rfl, _⟩ := h
    rfl
  · obtain ⟨a, aw, wa, ds, d, W, rfl, hd, ok, sm, h2, hW, lW, wn, k⟩ := h
    have hday := hd.day
    have hP := sm.P
    refine ⟨(tSeq (tAsg (tCall (spSettled K C) [] E0 (tCons (tVar 0) (tCons (tOp (rRepT K) (tTup (tCons (tC (.int 0)) tNil)) (tOp (rIxT K) (tVar 0) (tC (.int 0)))) (tCons (tVar 1) tNil)))) (gName 2)) (tRet (tTup (tCons (tCB (rSum K) (tCons (tFld K (tVar 2) "more") tNil)) (tCons (tMeth C "starts" (spStarts K C) [] E0 (tVar 2) tNil) (tCons (tCB (rTupOf K) (tCons (tFld K (tVar 2) "carried") tNil)) tNil)))))),
      (pss_cons (ps_set (i := 2) sc_fewest.nd rfl (by first | exact Or.inl rfl | exact Or.inr rfl) (pe_df D_settled (hr.mono (by decide)) (by rfl) (pa_cons (pv 0) (pa_cons (pe_op op_repT (pe_tup (pa_cons pe_int pa_nil)) (pe_ix ix_tup (pv 0) pe_int (fun _ _ => rfl))) (pa_cons (pv 1) pa_nil)))))
      (pss_one (ps_ret (pe_tup (pa_cons (pe_callB (cr_sum rfl) (by rfl) B.sum bt_sum (pa_cons (pe_fld (pv 2) rfl) pa_nil)) (pa_cons (pe_mf0 T.cl M_starts (hr.mono (by decide)) (pv 2)) (pa_cons (pe_callTy call_tuple_of (by rfl) B.tuple bt_tuple (pa_cons (pe_fld (pv 2) rfl) pa_nil)) pa_nil))))))), ?_⟩
    walk_at "go"
    refine ⟨szl (by simp), fun z nz => ?_⟩
    have hdz := (Same.new (o := .tup [V.int 0]) nz).tup hday
    walk_at "go"
    refine ⟨z, (d.P : Int), [.int 0], rfl, rfl, SqT.of upd_same, by simp, by omega, by omega, by simp, fun g ng => ?_⟩
    have eP : ((d.P : Int)).toNat = d.P := by omega
    rw [eP, rep0]
    have e1 : Same H (upd (upd H z (.tup [V.int 0])) g (.tup (vI (List.replicate d.P 0)))) := (Same.new nz).trans (Same.new ng)
    have hg : SqT K (upd (upd H z (.tup [V.int 0])) g (.tup (vI (List.replicate d.P 0)))) g (vI (zeros d)) := SqT.of upd_same
    generalize upd (upd H z (.tup [V.int 0])) g (.tup (vI (List.replicate d.P 0))) = H1 at e1 hg ⊢
    have S1 : FlowS K H1 d a aw ds g wa (zeros d) W := ⟨hd.tx (.of e1), ok, sm, hg, e1.tup hW, zeros_length d, lW⟩
    walk_at "go"
    have zn : ∀ p, 0 ≤ (zeros d).getD p 0 := fun p => by rw [zeros_getD]; exact Int.le_refl _
    refine ⟨a, aw, g, wa, ds, d, zeros d, W, rfl, S1, zn, wn, fun H2 p dx c m e2 FO => ?_⟩
    obtain ⟨gd, _⟩ := settled_good ok (zeros_length d) lW zn wn
    have hf : fewest d W = ((settled d (zeros d) W).more.sum, addL (zeros d) (settled d (zeros d) W).more, (settled d (zeros d) W).car) := rfl
    rw [hf] at k
    generalize settled d (zeros d) W = x at FO gd k
    have hp2 := FO.ins
    have hm2 := FO.more
    have hc2 := FO.car
    have S2 := S1.tx (.of e2)
    walk_at "go"
    refine c_sum (SqL.of hm2) ?_
    walk_at "go"
    refine ⟨p, dx, a, aw, g, wa, c, m, ds, d, zeros d, W, x, rfl, S2, FO, gd.len, fun H3 r e3 nr hr3 => ?_⟩
    have hp3 := e3 _ _ hp2
    have hc3 := e3 _ _ hc2
    walk_at "go"
    intro t nt
    walk_at "go"
    refine ⟨szl (by simp), fun q nq => ?_⟩
    exact k _ q r t (e1.trans (e2.trans (e3.trans ((Same.new nt).trans (Same.new nq))))) upd_same (get_new (get_new hr3 nt) nq) (get_new upd_same nq)
end
section
variable {P : Program} {w : World} {K : PySem.W.Frag} {mg : Str → Option Value} {base : Heap}
def spAreFrom (K : PySem.W.Frag) : Sp := fun vs H Q _ => ∃ (a aw : Addr) (d : Day) (x : V) (o : Option (List V)) (hi : Int), vs = [.ref a, x, .int hi] ∧ SqT K H a [.int (d.P : Int), .int (d.T : Int), .ref aw] ∧ TV K H x o ∧
  ∀ H', Same H H' → Q (.bl (match o with | none => false | some ss => decide (ss.length = d.P) && ss.all (fun x => isFromV x 0 hi))) H'
theorem df_are_from (B : Bl mg) (D_is_from : Df P w K mg base "is_from" 1 ["thing", "low", "high"] (spIsFrom K)) (F : Has K mg "are_from" s_are_from) : Df P w K mg base "are_from" 2 ["day", "thing", "high"] (spAreFrom K) := by
  refine df_of F sc_are_from (fun _ _ _ _ _ _ us hl => match us, hl with | [_, _, _], _ => rfl) (fun vs H Q E h => ?_) (fun f cdv A outer s H vs Q E hr h => ?_)
  · obtain ⟨a, aw, d, x, o, hi, rfl, _⟩ := h
    rfl
  · obtain ⟨a, aw, d, x, o, hi, rfl, hday, hx, k⟩ := h
    refine ⟨(tRet (tAndV (tCB (rIsi K) (tCons (tVar 1) (tCons (tC (.ty "tuple")) tNil))) (tAndV (tOp rEq (tCB (rLenS K) (tCons (tVar 1) tNil)) (tOp (rIxT K) (tVar 0) (tC (.int 0)))) (tCB (rAll K) (tCons (tLc (iTup K (tVar 1)) (gName 3) tYes (tCall (spIsFrom K) [] E0 (tCons (tVar 3) (tCons (tC (.int 0)) (tCons (tVar 2) tNil)))) [3]) tNil))))),
      (pss_one (ps_ret (pe_and (pe_callB call_isi (by rfl) B.isinstance bt_isinstance (pa_cons (pv 1) (pa_cons (pe_bltn (v := .ty "tuple") (by rfl) B.tuple bt_tuple rfl) pa_nil))) (pe_and (pe_cmpR op_eq (pe_callB call_len_seq (by rfl) B.len bt_len (pa_cons (pv 1) pa_nil)) (pe_ix ix_tup (pv 0) pe_int (fun _ _ => rfl)) (nomark _)) (pe_one (pe_callB (cr_all rfl) (by rfl) B.all bt_all (pa_cons (pe_lc (own := [("one", 3)]) (g := (gName 3)) (tt := tYes) (te := (tCall (spIsFrom K) [] E0 (tCons (tVar 3) (tCons (tC (.int 0)) (tCons (tVar 2) tNil))))) rfl sc_are_from.nd (pi_tup (pv 1)) (blkOk_by (own := [("one", 3)]) (N := ["day", "thing", "high", "one"]) (sc := defScope s_are_from) (by decide +kernel)) (fun _ _ _ _ _ => (pg_name (i := 3) sc_are_from.nd rfl (by first | exact Or.inl rfl | exact Or.inr rfl))) (fun _ _ _ _ _ => pts_nil) (fun _ _ _ _ _ => (pe_df D_is_from (hr.mono (by decide)) (by rfl) (pa_cons (pv 3) (pa_cons pe_int (pa_cons (pv 2) pa_nil)))))) pa_nil))))))), ?_⟩
    walk_at "go"
    rcases hx with ⟨rfl, hn⟩ | ⟨t, ss, rfl, rfl, ht, hf, hl⟩
    · refine isi_ntup hn ?_
      walk_at "go"
      refine iteF ?_
      exact k _ (Same.refl _)
    · refine isi_tup ht ?_
      walk_at "go"
      refine iteT ?_
      walk_at "go"
      dsimp only at k
      by_cases hP : ss.length = d.P
      · rw [show decide ((ss.length : Int) = (d.P : Int)) = true from decide_eq_true (by omega)]
        rw [decide_eq_true hP] at k
        refine iteT ?_
        walk_at "go"
        refine ⟨t, rfl, ⟨ss, ht⟩, fun D nD => ?_⟩
        refine lc_it (walk_tup (xs := ss)) (fun j H2 => Same H H2 ∧ H2 D = some (.lst (((ss.take j).map fun x => isFromV x 0 hi).map V.bl))) ⟨Same.new nD, upd_same⟩ (fun j H2 _ h => h.1.tup ht) ?_ ?_
        · rintro j y H2 H3 hj ⟨e2, hD⟩ ⟨rfl, hy⟩
          walk_at "go"
          refine ⟨rfl, ?_⟩
          walk_at "go"
          refine iteT ?_
          walk_at "go"
          refine ⟨y, 0, hi, rfl, (hf y (List.mem_of_getElem? hy)).kn, ?_⟩
          refine ⟨_, hD, szl' (by simp; omega), e2.mut nD, ?_⟩
          rw [upd_same, take_succ_get hy]
          simp
        · rintro H2 ⟨e2, hD⟩
          rw [List.take_length] at hD
          walk_at "go"
          refine c_all (SqL.of hD) ?_
          have hall : ((ss.map fun x => isFromV x 0 hi).all id) = ss.all (fun x => isFromV x 0 hi) := by simp [List.all_map, Function.comp_def]
          rw [hall]
          exact k _ e2
      · rw [show decide ((ss.length : Int) = (d.P : Int)) = false from decide_eq_false (by omega)]
        rw [decide_eq_false hP] at k
        refine iteF ?_
        exact k _ (Same.refl _)
def spAreCarried (K : PySem.W.Frag) : Sp := fun vs H Q _ => ∃ (aw : Addr) (ds : List V) (d : Day) (x : V) (o : Option (List V)), vs = [.ref aw, x] ∧ SqT K H aw ds ∧ Wks K H ds d.ws ∧ d.ws.length ≤ 1000 ∧ TV K H x o ∧
  ∀ H', Same H H' → Q (.bl (match o with | none => false | some cs => cOk d cs)) H'
theorem carAll_list {ws : List Wk} {cs : List V} (hl : cs.length = ws.length) : ((List.zipWith (fun (w : Wk) c => isFromV c w.wi (w.r : Int)) ws cs).all id) = carAll ws cs := by
  induction ws generalizing cs with
  | nil => cases cs <;> simp [carAll]
  | cons w ws ih =>
    cases cs with
    | nil => simp at hl
    | cons c cs =>
      rw [List.zipWith_cons_cons, List.all_cons, ih (by simpa using hl)]
      rfl
def spVerdict (K : PySem.W.Frag) : Sp := fun vs H Q _ => ∃ (a aw g wa : Addr) (ds : List V) (d : Day) (G W : List Int), vs = [.ref a, .ref g, .ref wa] ∧ FlowS K H d a aw ds g wa G W ∧ (∀ p, 0 ≤ G.getD p 0) ∧ (∀ p, 0 ≤ W.getD p 0) ∧
  ((settled d G W).more.sum = 0 → ∀ (H' : Hp) (r c : Addr), Same H H' → H' r = some (.tup [.str "dry", .ref c]) → H' c = some (.tup (vI (settled d G W).car)) → Q (.ref r) H') ∧
  ((settled d G W).more.sum ≠ 0 → ∀ (H' : Hp) (r l : Addr), Same H H' → H' r = some (.tup [.str "wet", .ref l]) → H' l = some (.tup (vN (lineFl d G W (settled d G W)))) → Q (.ref r) H')
theorem df_verdict (C : Addr) (T : Ctx K C) (B : Bl mg) (D_settled : Df P w K mg base "settled" 7 ["day", "given", "wanted"] (spSettled K C)) (M_line : Mf P w K mg base C "line" 5 ["self"] (spFlowLine K C)) (F : Has K mg "verdict" s_verdict) : Df P w K mg base "verdict" 8 ["day", "starts", "wanted"] (spVerdict K) := by
  refine df_of F sc_verdict (fun _ _ _ _ _ _ us hl => match us, hl with | [_, _, _], _ => rfl) (fun vs H Q E h => ?_) (fun f cdv A outer s H vs Q E hr h => ?_)
  · obtain ⟨a, aw, g, wa, ds, d, G, W, rfl, _⟩ := h
    rfl
  · obtain ⟨a, aw, g, wa, ds, d, G, W, rfl, S, gn, wn, k1, k2⟩ := h
    refine ⟨(tSeq (tAsg (tCall (spSettled K C) [] E0 (tCons (tVar 0) (tCons (tVar 1) (tCons (tVar 2) tNil)))) (gName 3)) (tSeq (tIfS (tTest (tOp rEq (tCB (rSum K) (tCons (tFld K (tVar 3) "more") tNil)) (tC (.int 0)))) (tRet (tTup (tCons (tC (.str "dry")) (tCons (tCB (rTupOf K) (tCons (tFld K (tVar 3) "carried") tNil)) tNil)))) tNext) (tRet (tTup (tCons (tC (.str "wet")) (tCons (tMeth C "line" (spFlowLine K C) [] E0 (tVar 3) tNil) tNil)))))),
      (pss_cons (ps_set (i := 3) sc_verdict.nd rfl (by first | exact Or.inl rfl | exact Or.inr rfl) (pe_df D_settled (hr.mono (by decide)) (by rfl) (pa_cons (pv 0) (pa_cons (pv 1) (pa_cons (pv 2) pa_nil)))))
      (pss_cons (ps_if (pt_cmpR op_eq (pe_callB (cr_sum rfl) (by rfl) B.sum bt_sum (pa_cons (pe_fld (pv 3) rfl) pa_nil)) pe_int (nomark _)) (pss_one (ps_ret (pe_tup (pa_cons pe_str (pa_cons (pe_callTy call_tuple_of (by rfl) B.tuple bt_tuple (pa_cons (pe_fld (pv 3) rfl) pa_nil)) pa_nil))))) pss_nil)
      (pss_one (ps_ret (pe_tup (pa_cons pe_str (pa_cons (pe_mf0 T.cl M_line (hr.mono (by decide)) (pv 3)) pa_nil))))))), ?_⟩
    walk_at "go"
    refine ⟨a, aw, g, wa, ds, d, G, W, rfl, S, gn, wn, fun H1 p dx c m e1 FO => ?_⟩
    obtain ⟨gd, _⟩ := settled_good S.ok S.lG S.lW gn wn
    generalize settled d G W = x at FO gd k1 k2
    have hp1 := FO.ins
    have hm1 := FO.more
    have hc1 := FO.car
    have S1 := S.tx (.of e1)
    walk_at "go"
    refine c_sum (SqL.of hm1) ?_
    walk_at "go"
    refine ite2 (fun hq => ?_) (fun hq => ?_)
    · have hz := of_decide_eq_true hq
      walk_at "go"
      intro t nt
      walk_at "go"
      refine ⟨szl (by simp), fun q nq => ?_⟩
      exact k1 hz _ q t (e1.trans ((Same.new nt).trans (Same.new nq))) upd_same (get_new upd_same nq)
    · have hz : x.more.sum ≠ 0 := fun z => hq (decide_eq_true z)
      walk_at "go"
      refine ⟨p, dx, a, aw, g, wa, c, m, ds, d, G, W, x, rfl, S1, FO, gd.len, gd.feas.len, fun H2 r e2 nr hr2 => ?_⟩
      walk_at "go"
      refine ⟨szl (by simp), fun q nq => ?_⟩
      exact k2 hz _ q r (e1.trans (e2.trans (Same.new nq))) upd_same (get_new hr2 nq)
end
section
variable {P : Program} {w : World} {K : PySem.W.Frag} {mg : Str → Option Value} {base : Heap}
def spTake : Sp := fun vs H Q _ => ∃ (r : Addr) (n : Nat), vs = [.ref r, .int (n : Int)] ∧ Bag H r ∧ 1 ≤ n ∧ n ≤ 1000000 ∧ ∀ (v : Nat) (H' : Hp), v < n → Ov r H H' → Bag H' r → Q (.int (v : Int)) H'
theorem modN (x : Int) {n : Nat} (h : 1 ≤ n) : ∃ v : Nat, v < n ∧ x % (n : Int) = (v : Int) := by
  refine ⟨(x % (n : Int)).toNat, ?_, ?_⟩
  · have h1 := Int.emod_lt_of_pos x (show (0 : Int) < n by omega)
    have h2 := Int.emod_nonneg x (show (n : Int) ≠ 0 by omega)
    omega
  · have h2 := Int.emod_nonneg x (show (n : Int) ≠ 0 by omega)
    omega
theorem df_take (B : Bl mg) (F : Has K mg "_law_take" s__law_take) : Df P w K mg base "_law_take" 1 ["bag", "count"] spTake := by
  refine df_of F sc__law_take (fun _ _ _ _ _ _ us hl => match us, hl with | [_, _], _ => rfl) (fun vs H Q E h => ?_) (fun f cdv A outer s H vs Q E hr h => ?_)
  · obtain ⟨r, n, rfl, _⟩ := h
    rfl
  · obtain ⟨r, n, rfl, ⟨b0, b1, hb, h0, h1, h2⟩, n1, n2, k⟩ := h
    have i0 : ixN [V.int b0, V.int b1].length 0 = some 0 := rfl
    have i1 : ixN [V.int b0, V.int b1].length 1 = some 1 := rfl
    refine ⟨(tSeq (tIfS (tTest (tOp (rI0 fun i j => .bl (decide (j < i))) (tOp (rIxL K) (tVar 0) (tC (.int 0))) (tC (.int 0)))) (tSeq (tAsg (tOp (rI (fun _ j => 0 < j) fun i j => .int (i % j)) (tOp (rIxL K) (tVar 0) (tC (.int 0))) (tVar 1)) (gName 2)) (tSeq (tAsg (tOp (rI CDiv fun i j => .int (i / j)) (tOp (rIxL K) (tVar 0) (tC (.int 0))) (tVar 1)) (gSub (tVar 0) (tC (.int 0)) rSetL)) (tRet (tVar 2)))) tNext) (tSeq (tAsg (tOp (rI (fun _ j => 0 < j) fun i j => .int (i % j)) (tOp (rI CMul fun i j => .int (i * j)) (tOp (rIxL K) (tVar 0) (tC (.int 1))) (tC (.int 48271))) (tC (.int 2147483647))) (gSub (tVar 0) (tC (.int 1)) rSetL)) (tRet (tOp (rI (fun _ j => 0 < j) fun i j => .int (i % j)) (tOp (rI CDiv fun i j => .int (i / j)) (tOp (rI (fun _ j => 0 < j) fun i j => .int (i % j)) (tOp (rI CMul fun i j => .int (i * j)) (tOp (rI CDiv fun i j => .int (i / j)) (tOp (rIxL K) (tVar 0) (tC (.int 1))) (tC (.int 13))) (tOp (rI0 fun i j => .int (i + j)) (tOp (rI (fun _ j => 0 < j) fun i j => .int (i % j)) (tOp (rIxL K) (tVar 0) (tC (.int 1))) (tC (.int 32749))) (tC (.int 17)))) (tC (.int 2147483629))) (tC (.int 32))) (tVar 1))))),
      (pss_cons (ps_if (pt_cmpR op_gt (pe_ix ix_list (pv 0) pe_int (fun _ _ => rfl)) pe_int (nomark _)) (pss_cons (ps_set (i := 2) sc__law_take.nd rfl (by first | exact Or.inl rfl | exact Or.inr rfl) (pe_op op_mod (pe_ix ix_list (pv 0) pe_int (fun _ _ => rfl)) (pv 1)))
      (pss_cons (ps_asg (pe_op op_fdiv (pe_ix ix_list (pv 0) pe_int (fun _ _ => rfl)) (pv 1)) (pg_sub (pv 0) pe_int set_list))
      (pss_one (ps_ret (pv 2))))) pss_nil)
      (pss_cons (ps_asg (pe_op op_mod (pe_op op_mul (pe_ix ix_list (pv 0) pe_int (fun _ _ => rfl)) pe_int) pe_int) (pg_sub (pv 0) pe_int set_list))
      (pss_one (ps_ret (pe_op op_mod (pe_op op_fdiv (pe_op op_mod (pe_op op_mul (pe_op op_fdiv (pe_ix ix_list (pv 0) pe_int (fun _ _ => rfl)) pe_int) (pe_op op_add (pe_op op_mod (pe_ix ix_list (pv 0) pe_int (fun _ _ => rfl)) pe_int) pe_int)) pe_int) pe_int) (pv 1)))))), ?_⟩
    walk_at "go"
    refine ite2 (fun hq => ?_) (fun hq => ?_)
    · walk_at "go"
      obtain ⟨v, hv, ev⟩ := modN b0 n1
      rw [ev]
      have hdiv : 0 ≤ b0 / (n : Int) := Int.ediv_nonneg h0 (by omega)
      exact k v _ hv Ov.upd ⟨_, _, upd_same, hdiv, h1, h2⟩
    · walk_at "go"
      have hm1 := Int.emod_nonneg (b1 * 48271) (show (2147483647 : Int) ≠ 0 by decide)
      have hm2 := Int.emod_lt_of_pos (b1 * 48271) (show (0 : Int) < 2147483647 by decide)
      have hb' : upd H r (.lst ([V.int b0, V.int b1].set 1 (V.int (b1 * 48271 % 2147483647)))) r = some (.lst [V.int b0, V.int (b1 * 48271 % 2147483647)]) := upd_same
      generalize b1 * 48271 % 2147483647 = c1 at hm1 hm2 hb' ⊢
      walk_at "go"
      obtain ⟨v, hv, ev⟩ := modN (c1 / 13 * (c1 % 32749 + 17) % 2147483629 / 32) n1
      rw [ev]
      exact k v _ hv Ov.upd ⟨b0, c1, hb', h0, hm1, by omega⟩
def spOf (K : PySem.W.Frag) : Sp := fun vs H Q _ => ∃ (r l : Addr) (b : Bool) (xs : List V), vs = [.ref r, .ref l] ∧ Bag H r ∧ SqB K b H l xs ∧ l ≠ r ∧ 1 ≤ xs.length ∧ xs.length ≤ 1000000 ∧ ∀ (i : Nat) (v : V) (H' : Hp), xs[i]? = some v → Ov r H H' → Bag H' r → Q v H'
theorem df_of' (B : Bl mg) (D_take : Df P w K mg base "_law_take" 1 ["bag", "count"] spTake) (F : Has K mg "_law_of" s__law_of) : Df P w K mg base "_law_of" 2 ["bag", "some"] (spOf K) := by
  refine df_of F sc__law_of (fun _ _ _ _ _ _ us hl => match us, hl with | [_, _], _ => rfl) (fun vs H Q E h => ?_) (fun f cdv A outer s H vs Q E hr h => ?_)
  · obtain ⟨r, l, b, xs, rfl, _⟩ := h
    rfl
  · obtain ⟨r, l, b, xs, rfl, hb, hl, nlr, l1, l2, k⟩ := h
    refine ⟨(tRet (tOp (rIx K) (tVar 1) (tCall spTake [] E0 (tCons (tVar 0) (tCons (tCB (rLenS K) (tCons (tVar 1) tNil)) tNil))))),
      (pss_one (ps_ret (pe_ix ix_seq (pv 1) (pe_df D_take (hr.mono (by decide)) (by rfl) (pa_cons (pv 0) (pa_cons (pe_callB call_len_seq (by rfl) B.len bt_len (pa_cons (pv 1) pa_nil)) pa_nil))) (fun _ _ => rfl)))), ?_⟩
    have hlen : SqL K H l xs ∨ SqT K H l xs := by cases b; exact .inl hl; exact .inr hl
    have fin : ∀ (v : Nat) (H' : Hp), v < xs.length → Ov r H H' → Bag H' r → rIx K (.ref l) (.int (v : Int)) H' Q := by
      intro v H' hv e hb'
      have hx : xs[v]? = some xs[v] := List.getElem?_eq_getElem hv
      have fin := k v _ H' hx e hb'
      cases b with
      | false => exact .inl ⟨l, xs, (v : Int), _, rfl, rfl, e.sqL nlr hl, atI_nat hx, fin⟩
      | true => exact .inr (.inl ⟨l, xs, (v : Int), _, rfl, rfl, (hb.tx e).tup hl, atI_nat hx, fin⟩)
    clear hl k
    with_reducible refine c_ret ?_
    with_reducible refine c_op ?_
    with_reducible refine c_var rfl ?_
    with_reducible refine c_call ?_
    with_reducible refine c_cons ?_
    with_reducible refine c_var rfl ?_
    with_reducible refine c_cons ?_
    with_reducible refine c_cb ?_
    with_reducible refine c_cons ?_
    with_reducible refine c_var rfl ?_
    with_reducible refine c_nil ?_
    refine ⟨l, xs, rfl, hlen, ?_⟩
    refine c_nil ?_
    exact ⟨r, xs.length, rfl, hb, l1, l2, fun v H' hv e hb' => fin v H' hv e hb'⟩
end
section
variable {P : Program} {w : World} {K : PySem.W.Frag} {mg : Str → Option Value} {base : Heap}
def spBag (K : PySem.W.Frag) : Sp := fun vs H Q _ => ∃ (a : Addr) (k : Nat) (ns : List Int), vs = [.ref a, .int (k : Int)] ∧ SqL K H a (vI ns) ∧ k ≤ 1000 ∧ ∀ (H' : Hp) (r : Addr), Same H H' → H r = none → Bag H' r → Q (.ref r) H'
theorem df_bag (B : Bl mg) (F : Has K mg "_law_bag" s__law_bag) : Df P w K mg base "_law_bag" 1 ["script", "k"] (spBag K) := by
  refine df_of F sc__law_bag (fun _ _ _ _ _ _ us hl => match us, hl with | [_, _], _ => rfl) (fun vs H Q E h => ?_) (fun f cdv A outer s H vs Q E hr h => ?_)
  · obtain ⟨a, k, ns, rfl, _⟩ := h
    rfl
  · obtain ⟨a, j, ns, rfl, ha, hj, k⟩ := h
    refine ⟨(tSeq (tAsg (tC (.int 0)) (gName 2)) (tSeq (tIfS (tTest (tOp (rI0 fun i j => .bl (decide (i < j))) (tVar 1) (tCB (rLenS K) (tCons (tVar 0) tNil)))) (tAsg (tOp (rI (fun _ j => 0 < j) fun i j => .int (i % j)) (tOp (rIxL K) (tVar 0) (tVar 1)) tSome) (gName 2)) tNext) (tSeq (tAsg (tOp (rI0 fun i j => .int (i + j)) (tC (.int 1)) (tOp (rI (fun _ j => 0 < j) fun i j => .int (i % j)) (tOp (rI0 fun i j => .int (i + j)) (tOp (rI0 fun i j => .int (i + j)) (tOp (rI0 fun i j => .int (i + j)) (tOp (rI CMul fun i j => .int (i * j)) (tOp (rI (fun _ j => 0 < j) fun i j => .int (i % j)) (tVar 2) (tC (.int 2147483629))) (tC (.int 16807))) (tOp (rI CMul fun i j => .int (i * j)) (tOp (rI CMul fun i j => .int (i * j)) (tC (.int 40009)) (tVar 1)) (tVar 1))) (tOp (rI CMul fun i j => .int (i * j)) (tC (.int 7919)) (tVar 1))) (tC (.int 1009))) (tC (.int 2147483645)))) (gName 3)) (tSeq (tIfS (tTest (tOp (rI0 fun i j => .bl (decide (i < j))) (tVar 2) tSome)) (tRet (tLst (tCons (tC (.int 0)) (tCons (tVar 3) tNil)))) tNext) (tRet (tLst (tCons (tVar 2) (tCons (tVar 3) tNil)))))))),
      (pss_cons (ps_set (i := 2) sc__law_bag.nd rfl (by first | exact Or.inl rfl | exact Or.inr rfl) pe_int)
      (pss_cons (ps_if (pt_cmpR op_lt (pv 1) (pe_callB call_len_seq (by rfl) B.len bt_len (pa_cons (pv 0) pa_nil)) (nomark _)) (pss_one (ps_set (i := 2) sc__law_bag.nd rfl (by first | exact Or.inl rfl | exact Or.inr rfl) (pe_op op_mod (pe_ix ix_list (pv 0) (pv 1) (fun _ _ => rfl)) (pe_some (pe_op op_pow pe_int pe_int) (i := 10) (j := 60) (by decide) ⟨by decide, by decide, by decide⟩)))) pss_nil)
      (pss_cons (ps_set (i := 3) sc__law_bag.nd rfl (by first | exact Or.inl rfl | exact Or.inr rfl) (pe_op op_add pe_int (pe_op op_mod (pe_op op_add (pe_op op_add (pe_op op_add (pe_op op_mul (pe_op op_mod (pv 2) pe_int) pe_int) (pe_op op_mul (pe_op op_mul pe_int (pv 1)) (pv 1))) (pe_op op_mul pe_int (pv 1))) pe_int) pe_int)))
      (pss_cons (ps_if (pt_cmpR op_lt (pv 2) (pe_some (pe_op op_pow pe_int pe_int) (i := 10) (j := 18) (by decide) ⟨by decide, by decide, by decide⟩) (nomark _)) (pss_one (ps_ret (pe_lst (pa_cons pe_int (pa_cons (pv 3) pa_nil))))) pss_nil)
      (pss_one (ps_ret (pe_lst (pa_cons (pv 2) (pa_cons (pv 3) pa_nil))))))))), ?_⟩
    with_reducible refine c_seq ?_
    walk_at "gn"
    with_reducible refine c_seqJ (fun σ' H' => ∃ (cell : Int), σ' = [some (.ref a), some (.int (j : Int)), some (.int cell), none] ∧ H' = H ∧ 0 ≤ cell) ?_ ?_
    · rintro σ1 H1 ⟨cell, rfl, rfl, h0⟩
      have q1 := Int.emod_nonneg cell (show (2147483629 : Int) ≠ 0 by decide)
      have q2 := Int.emod_lt_of_pos cell (show (0 : Int) < 2147483629 by decide)
      walk_at "go"
      intro n hn
      have m1 := Int.emod_nonneg (cell % 2147483629 * 16807 + 40009 * ↑j * ↑j + 7919 * ↑j + 1009) (show (2147483645 : Int) ≠ 0 by decide)
      have m2 := Int.emod_lt_of_pos (cell % 2147483629 * 16807 + 40009 * ↑j * ↑j + 7919 * ↑j + 1009) (show (0 : Int) < 2147483645 by decide)
      generalize (cell % 2147483629 * 16807 + 40009 * ↑j * ↑j + 7919 * ↑j + 1009) % 2147483645 = sd at m1 m2 ⊢
      walk_at "go"
      refine ite2 (fun hq => ?_) (fun hq => ?_)
      · walk_at "go"
        refine ⟨szl (by simp), fun r nr => ?_⟩
        exact k _ r (Same.new nr) nr ⟨0, _, upd_same, Int.le_refl _, by omega, by omega⟩
      · walk_at "go"
        refine ⟨szl (by simp), fun r nr => ?_⟩
        exact k _ r (Same.new nr) nr ⟨cell, _, upd_same, h0, by omega, by omega⟩
    · intro R hR
      walk_at "go"
      refine ite2 (fun hq => ?_) (fun hq => ?_)
      · have hjl : j < ns.length := by have := of_decide_eq_true hq; simp at this; omega
        have hg := vI_get hjl
        walk_at "go"
        intro n hn
        walk_at "go"
        exact hR _ _ ⟨_, rfl, rfl, Int.emod_nonneg _ (by omega)⟩
      · walk_at "go"
        exact hR _ _ ⟨0, rfl, rfl, Int.le_refl _⟩
end
section
variable {P : Program} {w : World} {K : PySem.W.Frag} {mg : Str → Option Value} {base : Heap}
def spDay (K : PySem.W.Frag) : Sp := fun vs H Q _ => ∃ (r : Addr) (many hours walks : Nat), vs = [.ref r, .int (many : Int), .int (hours : Int), .int (walks : Int)] ∧ Bag H r ∧ 2 ≤ many ∧ many ≤ 100 ∧ 1 ≤ hours ∧ hours ≤ 100 ∧ walks ≤ 60 ∧
  ∀ (H' : Hp) (ad aw : Addr) (ds : List V) (d : Day), Ov r H H' → Bag H' r → DayAt K H' ad aw ds d → DayD many hours walks d → Q (.ref ad) H'
theorem df_day (B : Bl mg) (D_take : Df P w K mg base "_law_take" 1 ["bag", "count"] spTake) (D_of : Df P w K mg base "_law_of" 2 ["bag", "some"] (spOf K)) (F : Has K mg "_law_day" s__law_day) : Df P w K mg base "_law_day" 3 ["bag", "many", "hours", "walks"] (spDay K) := by
  refine df_of F sc__law_day (fun _ _ _ _ _ _ us hl => match us, hl with | [_, _, _, _], _ => rfl) (fun vs H Q E h => ?_) (fun f cdv A outer s H vs Q E hr h => ?_)
  · obtain ⟨r, many, hours, walks, rfl, _⟩ := h
    rfl
  · obtain ⟨r, many, hours, walks, rfl, hb, hm1, hm2, hh1, hh2, hw2, k⟩ := h
    refine ⟨(tSeq (tPar 4 5 (tCons (tOp (rI0 fun i j => .int (i + j)) (tC (.int 2)) (tCall spTake [] E0 (tCons (tVar 0) (tCons (tOp (rI0 fun i j => .int (i - j)) (tVar 1) (tC (.int 1))) tNil)))) (tCons (tOp (rI0 fun i j => .int (i + j)) (tC (.int 1)) (tCall spTake [] E0 (tCons (tVar 0) (tCons (tVar 2) tNil)))) tNil))) (tSeq (tAsg (tDNewW P w) (gName 6)) (tSeq (tFor (iRng1 (tCons (tCall spTake [] E0 (tCons (tVar 0) (tCons (tOp (rI0 fun i j => .int (i + j)) (tVar 3) (tC (.int 1))) tNil))) tNil)) (gName 7) (tSeq (tAsg (tCall spTake [] E0 (tCons (tVar 0) (tCons (tVar 4) tNil))) (gName 8)) (tSeq (tAsg (tOp (rI (fun _ j => 0 < j) fun i j => .int (i % j)) (tOp (rI0 fun i j => .int (i + j)) (tOp (rI0 fun i j => .int (i + j)) (tVar 8) (tC (.int 1))) (tCall spTake [] E0 (tCons (tVar 0) (tCons (tOp (rI0 fun i j => .int (i - j)) (tVar 4) (tC (.int 1))) tNil)))) (tVar 4)) (gName 9)) (tSeq (tPar 10 11 (tCons (tOp (rI0 fun i j => .bl (decide (j < i))) (tCall spTake [] E0 (tCons (tVar 0) (tCons (tC (.int 3)) tNil))) (tC (.int 0))) (tCons (tOp (rI0 fun i j => .int (i + j)) (tC (.int 1)) (tCall (spOf K) [] E0 (tCons (tVar 0) (tCons (tLst (tCons (tC (.int 0)) (tCons (tC (.int 0)) (tCons (tC (.int 1)) (tCons (tC (.int 2)) tNil))))) tNil)))) tNil))) (sWPut K P w (tVar 6) (tTup (tCons (tCall spTake [] E0 (tCons (tVar 0) (tCons (tVar 5) tNil))) (tCons (tVar 8) (tCons (tVar 9) (tCons (tVar 10) (tCons (tVar 11) tNil)))))) (tC (.bl true))))))) (tRet (tTup (tCons (tVar 4) (tCons (tVar 5) (tCons (tCB (rTupOf K) (tCons (tCB (rSortedW K P w) (tCons (tVar 6) tNil)) tNil)) tNil)))))))),
      (pss_cons (ps_par (i := 4) (j := 5) (by rfl) sc__law_day.nd rfl rfl (by decide) rfl rfl (pa_cons (pe_op op_add pe_int (pe_df D_take (hr.mono (by decide)) (by rfl) (pa_cons (pv 0) (pa_cons (pe_op op_sub (pv 1) pe_int) pa_nil)))) (pa_cons (pe_op op_add pe_int (pe_df D_take (hr.mono (by decide)) (by rfl) (pa_cons (pv 0) (pa_cons (pv 2) pa_nil)))) pa_nil)) (by rfl))
      (pss_cons (ps_set (i := 6) sc__law_day.nd rfl (by first | exact Or.inl rfl | exact Or.inr rfl) pe_dnewW)
      (pss_cons (ps_for PassesOwn.never rfl (pi_range1 (by rfl) B.range (pa_cons (pe_df D_take (hr.mono (by decide)) (by rfl) (pa_cons (pv 0) (pa_cons (pe_op op_add (pv 3) pe_int) pa_nil))) pa_nil)) (pg_name (i := 7) sc__law_day.nd rfl (by first | exact Or.inl rfl | exact Or.inr rfl))
      (pss_cons (ps_set (i := 8) sc__law_day.nd rfl (by first | exact Or.inl rfl | exact Or.inr rfl) (pe_df D_take (hr.mono (by decide)) (by rfl) (pa_cons (pv 0) (pa_cons (pv 4) pa_nil))))
      (pss_cons (ps_set (i := 9) sc__law_day.nd rfl (by first | exact Or.inl rfl | exact Or.inr rfl) (pe_op op_mod (pe_op op_add (pe_op op_add (pv 8) pe_int) (pe_df D_take (hr.mono (by decide)) (by rfl) (pa_cons (pv 0) (pa_cons (pe_op op_sub (pv 4) pe_int) pa_nil)))) (pv 4)))
      (pss_cons (ps_par (i := 10) (j := 11) (by rfl) sc__law_day.nd rfl rfl (by decide) rfl rfl (pa_cons (pe_cmpR op_gt (pe_df D_take (hr.mono (by decide)) (by rfl) (pa_cons (pv 0) (pa_cons pe_int pa_nil))) pe_int (nomark _)) (pa_cons (pe_op op_add pe_int (pe_df D_of (hr.mono (by decide)) (by rfl) (pa_cons (pv 0) (pa_cons (pe_lst (pa_cons pe_int (pa_cons pe_int (pa_cons pe_int (pa_cons pe_int pa_nil))))) pa_nil)))) pa_nil)) (by rfl))
      (pss_one (ps_dputW (hu_of hr) (pv 6) (pe_tup (pa_cons (pe_df D_take (hr.mono (by decide)) (by rfl) (pa_cons (pv 0) (pa_cons (pv 5) pa_nil))) (pa_cons (pv 8) (pa_cons (pv 9) (pa_cons (pv 10) (pa_cons (pv 11) pa_nil)))))) pe_bl rfl))))))
      (pss_one (ps_ret (pe_tup (pa_cons (pv 4) (pa_cons (pv 5) (pa_cons (pe_callTy call_tuple_of (by rfl) B.tuple bt_tuple (pa_cons (pe_callB (cr_sortedW rfl) (by rfl) B.sorted bt_sorted (pa_cons (pv 6) pa_nil)) pa_nil)) pa_nil))))))))), ?_⟩
    walk_at "go"
    refine ⟨r, many - 1, by rw [show ((many : Int) - 1) = ((many - 1 : Nat) : Int) by omega]; rfl, hb, by omega, by omega, fun p0 H1 hp0 e1 hb1 => ?_⟩
    walk_at "go"
    refine ⟨r, hours, rfl, hb1, by omega, by omega, fun t0 H2 ht0 e2 hb2 => ?_⟩
    walk_at "go"
    intro fo nfo
    have nfr : fo ≠ r := hb2.ne nfo
    have e3 : Ov r H (upd H2 fo (DWO P w fo [])) := (e1.trans e2).trans (.new nfo)
    have hb3 : Bag (upd H2 fo (DWO P w fo [])) r := hb2.mut nfr.symm
    walk_at "go"
    refine ⟨r, walks + 1, by simp, hb3, by omega, by omega, fun n H4 hn e4 hb4 => ?_⟩
    walk_at "go"
    refine ⟨_, rfl, by omega, by omega, ?_⟩
    rw [Int.toNat_natCast]
    have hP : (2 + (p0 : Int)) = ((p0 + 2 : Nat) : Int) := by omega
    have hT : (1 + (t0 : Int)) = ((t0 + 1 : Nat) : Int) := by omega
    rw [hP, hT]
    have hPm : p0 + 2 ≤ many := by omega
    have hTm : t0 + 1 ≤ hours := by omega
    have hP2 : 2 ≤ p0 + 2 := by omega
    have hT2 : 1 ≤ t0 + 1 := by omega
    generalize p0 + 2 = P0 at hPm hP2 ⊢
    generalize t0 + 1 = T0 at hTm hT2 ⊢
    have hnf : H fo = none := hb2.free (e1.trans e2) nfo
    have hfo4 : H4 fo = some (DWO P w fo []) := e4 _ _ upd_same nfr
    refine for_it walk_rng (fun i σ' H' => ∃ v7 v8 v9 v10 v11 L, σ' = [some (.ref r), some (.int (many : Int)), some (.int (hours : Int)), some (.int (walks : Int)), some (.int (P0 : Int)), some (.int (T0 : Int)), some (.ref fo), v7, v8, v9, v10, v11] ∧ Ov r H H' ∧ Bag H' r ∧
      H' fo = some (DWO P w fo L) ∧ (∀ q ∈ L, SqT K H' q.2 (wkV q.1)) ∧ (∀ q ∈ L, WkB P0 T0 q.1) ∧ L.length ≤ i)
      ⟨_, _, _, _, _, [], rfl, e3.trans e4, hb4, hfo4, by simp, by simp, Nat.le_refl _⟩ (fun _ _ _ _ _ => trivial) ?_ ?_
    · rintro i y σ' H5 H6 hi ⟨v7, v8, v9, v10, v11, L, rfl, e5, hb5, hfo5, hk5, hW5, hl5⟩ ⟨rfl, rfl⟩
      walk_at "go"
      refine ⟨r, P0, rfl, hb5, by omega, by omega, fun b H7 hb' e7 hb7 => ?_⟩
      have t7 := hb5.tx e7
      walk_at "go"
      refine ⟨r, P0 - 1, by rw [show ((P0 : Int) - 1) = ((P0 - 1 : Nat) : Int) by omega]; rfl, hb7, by omega, by omega, fun c H8 hc' e8 hb8 => ?_⟩
      have t8 := t7.trans (hb7.tx e8)
      have em : ((b : Int) + 1 + (c : Int)) % (P0 : Int) = (((b + 1 + c) % P0 : Nat) : Int) := by
        rw [show ((b : Int) + 1 + (c : Int)) = ((b + 1 + c : Nat) : Int) by omega]
        exact (Int.natCast_emod _ _).symm
      obtain ⟨he1, he2⟩ := mod_other hb' hc'
      walk_at "go"
      rw [em]
      generalize (b + 1 + c) % P0 = en at he1 he2 ⊢
      refine ⟨r, 3, rfl, hb8, by omega, by omega, fun v H9 hv' e9 hb9 => ?_⟩
      have t9 := t8.trans (hb8.tx e9)
      walk_at "go"
      refine ⟨szl (by simp), fun l nl => ?_⟩
      have nlr : l ≠ r := hb9.ne nl
      walk_at "go"
      refine ⟨r, l, false, _, rfl, hb9.mut nlr.symm, SqL.of upd_same, nlr, by simp, by simp, fun j u H10 hu e10 hb10 => ?_⟩
      obtain ⟨z, hz, rfl⟩ : ∃ z : Nat, z ≤ 2 ∧ u = .int (z : Int) := by
        match j, hu with
        | 0, hu => cases hu; exact ⟨0, by omega, rfl⟩
        | 1, hu => cases hu; exact ⟨0, by omega, rfl⟩
        | 2, hu => cases hu; exact ⟨1, by omega, rfl⟩
        | 3, hu => cases hu; exact ⟨2, by omega, rfl⟩
        | n + 4, hu => simp at hu
      have t10 := t9.trans ((Tx.new nl).trans ((hb9.mut nlr.symm).tx e10))
      walk_at "go"
      refine ⟨r, T0, rfl, hb10, by omega, by omega, fun h H11 hh' e11 hb11 => ?_⟩
      have t11 := t10.trans (hb10.tx e11)
      walk_at "go"
      refine ⟨szl (by simp), fun t nt => ?_⟩
      have o9 : Ov r H6 H9 := e7.trans (e8.trans e9)
      have o11 : Ov r H6 H11 := o9.trans ((Ov.new nl).trans (e10.trans e11))
      have hfo11 := o11 _ _ hfo5 nfr
      have ntf : t ≠ fo := ne_had hfo11 nt
      have ntr : t ≠ r := hb11.ne nt
      refine ⟨fo, t, L, ⟨h, b, en, decide ((0 : Int) < (v : Int)), 1 + z⟩, rfl, rfl, rfl, get_new hfo11 nt, fun q hq => (t11.trans (.new nt)).tup (hk5 q hq), SqT.of upd_same, by omega, ?_⟩
      have tl : Tx (upd H11 t (.tup [V.int (h : Int), V.int (b : Int), V.int (en : Int), V.bl (decide ((0 : Int) < (v : Int))), V.int (1 + (z : Int))])) (upd (upd H11 t (.tup [V.int (h : Int), V.int (b : Int), V.int (en : Int), V.bl (decide ((0 : Int) < (v : Int))), V.int (1 + (z : Int))])) fo (DWO P w fo (putW L ⟨h, b, en, decide ((0 : Int) < (v : Int)), 1 + z⟩ t))) := Tx.mut (get_new hfo11 nt) rfl
      have wb : WkB P0 T0 ⟨h, b, en, decide ((0 : Int) < (v : Int)), 1 + z⟩ := ⟨hh', hb', he1, he2, by show 1 ≤ 1 + z; omega, by show 1 + z ≤ 3; omega⟩
      refine ⟨_, _, _, _, _, _, rfl, ((e5.trans o11).trans (.new nt)).mut hnf, (hb11.mut ntr.symm).mut nfr.symm, upd_same, fun q hq => ?_, fun q hq => ?_, ?_⟩
      · unfold putW at hq
        split at hq
        · exact tl.tup ((t11.trans (.new nt)).tup (hk5 q hq))
        · rcases List.mem_append.mp hq with hq | hq
          · exact tl.tup ((t11.trans (.new nt)).tup (hk5 q hq))
          · obtain rfl := List.mem_singleton.mp hq
            exact tl.tup (SqT.of upd_same)
      · unfold putW at hq
        split at hq
        · exact hW5 q hq
        · rcases List.mem_append.mp hq with hq | hq
          · exact hW5 q hq
          · obtain rfl := List.mem_singleton.mp hq
            exact wb
      · unfold putW
        split
        · omega
        · simp; omega
    · rintro σ' H5 ⟨v7, v8, v9, v10, v11, L, rfl, e5, hb5, hfo5, hk5, hW5, hl5⟩
      walk_at "go"
      refine ⟨fo, L, rfl, hfo5, hk5, by omega, fun q hq => (hW5 q hq).bd (by omega) (by omega), fun L' p pm nd srt np => ?_⟩
      walk_at "go"
      intro t nt
      walk_at "go"
      refine ⟨szl (by simp), fun ad nad => ?_⟩
      have s1 : Same H5 (upd (upd (upd H5 p (.lst (L'.map fun q => V.ref q.2))) t (.tup (L'.map fun q => V.ref q.2))) ad (.tup [V.int (P0 : Int), V.int (T0 : Int), V.ref t])) := (Same.new np).trans ((Same.new nt).trans (Same.new nad))
      have hm : ∀ q ∈ L', q ∈ L := fun q hq => pm.mem_iff.mp hq
      have hm2 : ∀ v ∈ L'.map (·.1), WkB P0 T0 v := fun v hv => by
        obtain ⟨q, hq, rfl⟩ := List.mem_map.mp hv
        exact hW5 q (hm q hq)
      refine k _ ad t (L'.map fun q => V.ref q.2) ⟨P0, T0, L'.map (·.1)⟩ (e5.trans (.of s1)) (hb5.same s1) ⟨SqT.of upd_same, SqT.of (get_new upd_same nad), wks_of fun q hq => s1.tup (hk5 q (hm q hq))⟩ ?_
      refine ⟨⟨fun v hv => (hm2 v hv).h, fun v hv => (hm2 v hv).b, fun v hv => (hm2 v hv).e, fun v hv => (hm2 v hv).r1⟩, hP2, hPm, hT2, hTm, ?_, fun v hv => (hm2 v hv).r3, fun v hv => (hm2 v hv).ne, pw_strict (by omega) (by omega) (fun q hq => hW5 q (hm q hq)) nd srt⟩
      show (L'.map (·.1)).length ≤ walks
      rw [List.length_map, pm.length_eq]
      omega
end
section
variable {P : Program} {w : World} {K : PySem.W.Frag} {mg : Str → Option Value} {base : Heap}
def spWanted (K : PySem.W.Frag) : Sp := fun vs H Q _ => ∃ (r ad aw : Addr) (most : Nat) (d : Day), vs = [.ref r, .ref ad, .int (most : Int)] ∧ Bag H r ∧ SqT K H ad [.int (d.P : Int), .int (d.T : Int), .ref aw] ∧ 2 ≤ d.P ∧ d.P ≤ 1000 ∧ most ≤ 1000 ∧
  ∀ (H' : Hp) (wa : Addr) (W : List Int), Ov r H H' → Bag H' r → SqT K H' wa (vI W) → W.length = d.P → (∀ p, 0 ≤ W.getD p 0) → (∀ p, W.getD p 0 ≤ (most : Int)) → Q (.ref wa) H'
theorem rep0' (n : Nat) : (List.replicate n [V.int 0]).flatten = vI (List.replicate n 0) := by
  induction n with
  | zero => rfl
  | succ n ih =>
    rw [List.replicate_succ, List.flatten_cons, ih]
    rfl
theorem df_wanted (B : Bl mg) (D_take : Df P w K mg base "_law_take" 1 ["bag", "count"] spTake) (F : Has K mg "_law_wanted" s__law_wanted) : Df P w K mg base "_law_wanted" 2 ["bag", "day", "most"] (spWanted K) := by
  refine df_of F sc__law_wanted (fun _ _ _ _ _ _ us hl => match us, hl with | [_, _, _], _ => rfl) (fun vs H Q E h => ?_) (fun f cdv A outer s H vs Q E hr h => ?_)
  · obtain ⟨r, ad, aw, most, d, rfl, _⟩ := h
    rfl
  · obtain ⟨r, ad, aw, most, d, rfl, hb, hd, h2, hP, hm, k⟩ := h
    refine ⟨(tSeq (tIfS (tTest (tOp rEq (tCall spTake [] E0 (tCons (tVar 0) (tCons (tC (.int 2)) tNil))) (tC (.int 0)))) (tRet (tOp (rRepT K) (tTup (tCons (tC (.int 0)) tNil)) (tOp (rIxT K) (tVar 1) (tC (.int 0))))) tNext) (tRet (tCB (rTupOf K) (tCons (tLc (iRng1 (tCons (tOp (rIxT K) (tVar 1) (tC (.int 0))) tNil)) (gName 3) tYes (tCall spTake [] E0 (tCons (tVar 0) (tCons (tOp (rI0 fun i j => .int (i + j)) (tVar 2) (tC (.int 1))) tNil))) [3]) tNil)))),
      (pss_cons (ps_if (pt_cmpR op_eq (pe_df D_take (hr.mono (by decide)) (by rfl) (pa_cons (pv 0) (pa_cons pe_int pa_nil))) pe_int (nomark _)) (pss_one (ps_ret (pe_op op_repT (pe_tup (pa_cons pe_int pa_nil)) (pe_ix ix_tup (pv 1) pe_int (fun _ _ => rfl))))) pss_nil)
      (pss_one (ps_ret (pe_callTy call_tuple_of (by rfl) B.tuple bt_tuple (pa_cons (pe_lc (own := [("place", 3)]) (g := (gName 3)) (tt := tYes) (te := (tCall spTake [] E0 (tCons (tVar 0) (tCons (tOp (rI0 fun i j => .int (i + j)) (tVar 2) (tC (.int 1))) tNil)))) rfl sc__law_wanted.nd (pi_range1 (by rfl) B.range (pa_cons (pe_ix ix_tup (pv 1) pe_int (fun _ _ => rfl)) pa_nil)) (blkOk_by (own := [("place", 3)]) (N := ["bag", "day", "most", "place"]) (sc := defScope s__law_wanted) (by decide +kernel)) (fun _ _ _ _ _ => (pg_name (i := 3) sc__law_wanted.nd rfl (by first | exact Or.inl rfl | exact Or.inr rfl))) (fun _ _ _ _ _ => pts_nil) (fun _ _ _ _ _ => (pe_df D_take (hr.mono (by decide)) (by rfl) (pa_cons (pv 0) (pa_cons (pe_op op_add (pv 2) pe_int) pa_nil))))) pa_nil))))), ?_⟩
    walk_at "go"
    refine ⟨r, 2, rfl, hb, by omega, by omega, fun v H1 hv e1 hb1 => ?_⟩
    have hd1 := (hb.tx e1).tup hd
    walk_at "go"
    refine ite2 (fun hq => ?_) (fun hq => ?_)
    · walk_at "go"
      refine ⟨szl (by simp), fun z nz => ?_⟩
      have hdz := (Same.new (o := .tup [V.int 0]) nz).tup hd1
      walk_at "go"
      refine ⟨z, (d.P : Int), [.int 0], rfl, rfl, SqT.of upd_same, by simp, by omega, by omega, by simp, fun g ng => ?_⟩
      have eP : ((d.P : Int)).toNat = d.P := by omega
      rw [eP, rep0']
      have s1 := (Same.new (o := .tup [V.int 0]) nz).trans (Same.new (o := .tup (vI (List.replicate d.P 0))) ng)
      exact k _ g (List.replicate d.P 0) (e1.trans (.of s1)) (hb1.same s1) (SqT.of upd_same) (by simp) (fun p => by rw [replicate_getD]; exact Int.le_refl _) (fun p => by rw [replicate_getD]; omega)
    · walk_at "go"
      refine ⟨_, rfl, by omega, by omega, ?_⟩
      rw [Int.toNat_natCast]
      intro D nD
      have nDr : D ≠ r := hb1.ne nD
      refine lc_it walk_rng (fun j H2 => ∃ W : List Int, Ov r H1 H2 ∧ Bag H2 r ∧ H2 D = some (.lst (vI W)) ∧ W.length = j ∧ (∀ x ∈ W, 0 ≤ x ∧ x ≤ (most : Int))) ⟨[], .new nD, hb1.mut nDr.symm, upd_same, rfl, by simp⟩ (fun _ _ _ _ => trivial) ?_ ?_
      · rintro j y H2 H3 hj ⟨W, e2, hb2, hD, hl, hw⟩ ⟨rfl, rfl⟩
        walk_at "go"
        refine ⟨rfl, ?_⟩
        walk_at "go"
        refine iteT ?_
        walk_at "go"
        refine ⟨r, most + 1, by simp, hb2, by omega, by omega, fun v H4 hv e4 hb4 => ?_⟩
        refine ⟨_, e4 _ _ hD nDr, szl' (by simp; omega), W ++ [(v : Int)], (e2.trans e4).mut nD, hb4.mut nDr.symm, ?_, by simp [hl], fun x hx => ?_⟩
        · rw [upd_same]; simp
        · rcases List.mem_append.mp hx with hx | hx
          · exact hw x hx
          · obtain rfl := List.mem_singleton.mp hx
            omega
      · rintro H2 ⟨W, e2, hb2, hD, hl, hw⟩
        walk_at "go"
        intro t nt
        have s1 := Same.new (o := .tup (vI W)) nt
        have hwg : ∀ p, 0 ≤ W.getD p 0 ∧ W.getD p 0 ≤ (most : Int) := fun p => by
          by_cases hp : p < W.length
          · have e : W.getD p 0 = W[p] := by simp [List.getD_eq_getElem?_getD, hp]
            rw [e]
            exact hw _ (List.getElem_mem hp)
          · rw [getD_big (by omega)]; omega
        walk_at "go"
        exact k _ t W ((e1.trans e2).trans (.of s1)) (hb2.same s1) (SqT.of upd_same) hl (fun p => (hwg p).1) (fun p => (hwg p).2)
theorem df_is_number (B : Bl mg) (F : Has K mg "_law_is_number" s__law_is_number) : Df P w K mg base "_law_is_number" 1 ["thing", "least", "most"] (spIsFrom K) := by
  refine df_of F sc__law_is_number (fun _ _ _ _ _ _ us hl => match us, hl with | [_, _, _], _ => rfl) (fun vs H Q E h => ?_) (fun f cdv A outer s H vs Q E hr h => ?_)
  · obtain ⟨x, lo, hi, rfl, _⟩ := h
    rfl
  · obtain ⟨x, lo, hi, rfl, hk, k⟩ := h
    refine ⟨(tRet (tAndV (tCB (rIsi K) (tCons (tVar 0) (tCons (tC (.ty "int")) tNil))) (tAndV (tNotV (tCB (rIsi K) (tCons (tVar 0) (tCons (tC (.ty "bool")) tNil)))) (tChain (rI0 fun i j => .bl (decide (i ≤ j))) (rI0 fun i j => .bl (decide (i ≤ j))) (tVar 1) (tVar 0) (tVar 2))))),
      (pss_one (ps_ret (pe_and (pe_callB call_isi (by rfl) B.isinstance bt_isinstance (pa_cons (pv 0) (pa_cons (pe_bltn (v := .ty "int") (by rfl) B.int bt_int rfl) pa_nil))) (pe_and (pe_not (pe_callB call_isi (by rfl) B.isinstance bt_isinstance (pa_cons (pv 0) (pa_cons (pe_bltn (v := .ty "bool") (by rfl) B.bool bt_bool rfl) pa_nil)))) (pe_one (pe_chain op_le op_le (pv 1) (pv 0) (pv 2))))))), ?_⟩
    walk_at "go"
    refine isi_int hk ?_
    walk_at "go"
    cases x with
    | int i =>
      refine iteT ?_
      walk_at "go"
      refine isi_bool hk ?_
      walk_at "go"
      refine iteT ?_
      walk_at "go"
      refine ite2 (fun h1 => ?_) (fun h1 => ?_)
      · walk_at "go"
        have e : decide (i ≤ hi) = isFromV (.int i) lo hi := by
          show _ = (decide (lo ≤ i) && decide (i ≤ hi))
          rw [h1]; rfl
        rw [e]; exact k
      · have e : false = isFromV (.int i) lo hi := by
          show _ = (decide (lo ≤ i) && decide (i ≤ hi))
          rw [Bool.eq_false_iff.mpr h1]; rfl
        rw [e]; exact k
    | bl b =>
      refine iteT ?_
      walk_at "go"
      refine isi_bool hk ?_
      walk_at "go"
      exact iteF k
    | non => exact iteF k
    | str z => exact iteF k
    | ref a => exact iteF k
    | byt _ => exact hk.elim
    | flt _ => exact hk.elim
    | ty _ => exact hk.elim
end
section
variable {P : Program} {w : World} {K : PySem.W.Frag} {mg : Str → Option Value} {base : Heap}
def spIsWalk (K : PySem.W.Frag) : Sp := fun vs H Q _ => ∃ (P T : Int) (x : V) (o : Option (List V)), vs = [.int P, .int T, x] ∧ TK K H x o ∧ Q (.bl (walkB P T o)) H
theorem five_of {ys : List V} (h : ys.length = 5) : ∃ a b c d e, ys = [a, b, c, d, e] := by
  match ys, h with
  | [a, b, c, d, e], _ => exact ⟨a, b, c, d, e, rfl⟩
theorem walkB_no {P T : Int} {ys : List V} (h : ys.length ≠ 5) : walkB P T (some ys) = false := by
  match ys, h with
  | [], _ => rfl
  | [_], _ => rfl
  | [_, _], _ => rfl
  | [_, _, _], _ => rfl
  | [_, _, _, _], _ => rfl
  | [_, _, _, _, _], h => exact absurd rfl h
  | _ :: _ :: _ :: _ :: _ :: _ :: _, _ => rfl
theorem df_is_walk (B : Bl mg) (hROOM : ∃ t, mg "ROOM" = some (.int 3 t)) (D_is_from : Df P w K mg base "is_from" 1 ["thing", "low", "high"] (spIsFrom K)) (F : Has K mg "is_walk" s_is_walk) : Df P w K mg base "is_walk" 2 ["places", "hours", "thing"] (spIsWalk K) := by
  obtain ⟨tr, hROOM⟩ := hROOM
  refine df_of F sc_is_walk (fun _ _ _ _ _ _ us hl => match us, hl with | [_, _, _], _ => rfl) (fun vs H Q E h => ?_) (fun f cdv A outer s H vs Q E hr h => ?_)
  · obtain ⟨P, T, x, o, rfl, _⟩ := h
    rfl
  · obtain ⟨P, T, x, o, rfl, hx, k⟩ := h
    refine ⟨(tSeq (tIfS (tOr (tNot (tB (tCB (rIsi K) (tCons (tVar 2) (tCons (tC (.ty "tuple")) tNil))))) (tTest (tOp rNe (tCB (rLenS K) (tCons (tVar 2) tNil)) (tC (.int 5))))) (tRet (tC (.bl false))) tNext) (tSeq (tAsg (tVar 2) (gTup K 5 (gCons (gName 3) (gCons (gName 4) (gCons (gName 5) (gCons (gName 6) (gCons (gName 7) gNil))))))) (tSeq (tIfS (tOr (tNot (tB (tCall (spIsFrom K) [] E0 (tCons (tVar 3) (tCons (tC (.int 0)) (tCons (tOp (rI0 fun i j => .int (i - j)) (tVar 1) (tC (.int 1))) tNil)))))) (tOr (tNot (tB (tCall (spIsFrom K) [] E0 (tCons (tVar 4) (tCons (tC (.int 0)) (tCons (tOp (rI0 fun i j => .int (i - j)) (tVar 0) (tC (.int 1))) tNil)))))) (tNot (tB (tCall (spIsFrom K) [] E0 (tCons (tVar 5) (tCons (tC (.int 0)) (tCons (tOp (rI0 fun i j => .int (i - j)) (tVar 0) (tC (.int 1))) tNil)))))))) (tRet (tC (.bl false))) tNext) (tRet (tAndV (tOp rNe (tVar 4) (tVar 5)) (tAndV (tCB (rIsi K) (tCons (tVar 6) (tCons (tC (.ty "bool")) tNil))) (tCall (spIsFrom K) [] E0 (tCons (tVar 7) (tCons (tC (.int 1)) (tCons (tC (.int 3)) tNil)))))))))),
      (pss_cons (ps_if (PW.pt (pw_or (pt_not (pt_val (pe_callB call_isi (by rfl) B.isinstance bt_isinstance (pa_cons (pv 2) (pa_cons (pe_bltn (v := .ty "tuple") (by rfl) B.tuple bt_tuple rfl) pa_nil))))) (pw_or1 (pt_cmpR op_ne (pe_callB call_len_seq (by rfl) B.len bt_len (pa_cons (pv 2) pa_nil)) pe_int (nomark _))))) (pss_one (ps_ret pe_bl)) pss_nil)
      (pss_cons (ps_asg (pv 2) (pg_tup rfl (pgs_cons (pg_name (i := 3) sc_is_walk.nd rfl (by first | exact Or.inl rfl | exact Or.inr rfl)) (pgs_cons (pg_name (i := 4) sc_is_walk.nd rfl (by first | exact Or.inl rfl | exact Or.inr rfl)) (pgs_cons (pg_name (i := 5) sc_is_walk.nd rfl (by first | exact Or.inl rfl | exact Or.inr rfl)) (pgs_cons (pg_name (i := 6) sc_is_walk.nd rfl (by first | exact Or.inl rfl | exact Or.inr rfl)) (pgs_cons (pg_name (i := 7) sc_is_walk.nd rfl (by first | exact Or.inl rfl | exact Or.inr rfl)) pgs_nil)))))))
      (pss_cons (ps_if (PW.pt (pw_or (pt_not (pt_val (pe_df D_is_from (hr.mono (by decide)) (by rfl) (pa_cons (pv 3) (pa_cons pe_int (pa_cons (pe_op op_sub (pv 1) pe_int) pa_nil)))))) (pw_or (pt_not (pt_val (pe_df D_is_from (hr.mono (by decide)) (by rfl) (pa_cons (pv 4) (pa_cons pe_int (pa_cons (pe_op op_sub (pv 0) pe_int) pa_nil)))))) (pw_or1 (pt_not (pt_val (pe_df D_is_from (hr.mono (by decide)) (by rfl) (pa_cons (pv 5) (pa_cons pe_int (pa_cons (pe_op op_sub (pv 0) pe_int) pa_nil)))))))))) (pss_one (ps_ret pe_bl)) pss_nil)
      (pss_one (ps_ret (pe_and (pe_cmpR op_ne (pv 4) (pv 5) (nomark _)) (pe_and (pe_callB call_isi (by rfl) B.isinstance bt_isinstance (pa_cons (pv 6) (pa_cons (pe_bltn (v := .ty "bool") (by rfl) B.bool bt_bool rfl) pa_nil))) (pe_one (pe_df D_is_from (hr.mono (by decide)) (by rfl) (pa_cons (pv 7) (pa_cons pe_int (pa_cons (pe_glob (v := (.int 3)) (by rfl) hROOM ⟨_, rfl⟩) pa_nil)))))))))))), ?_⟩
    walk_at "go"
    rcases hx with ⟨rfl, hn⟩ | ⟨t, ys, rfl, rfl, ht, hk, hl⟩
    · refine isi_ntup hn ?_
      walk_at "go"
      refine iteT ?_
      refine iteT ?_
      walk_at "go"
      exact k
    · refine isi_tup ht ?_
      walk_at "go"
      refine iteF ?_
      walk_at "go"
      by_cases h5 : ys.length = 5
      · obtain ⟨h, b, e, wt, r, rfl⟩ := five_of h5
        refine iteF ?_
        walk_at "go"
        refine ⟨h, 0, T - 1, rfl, hk h (by simp), ?_⟩
        refine c_bl ?_
        have hw : walkB P T (some [h, b, e, wt, r]) = (isFromV h 0 (T - 1) && (isFromV b 0 (P - 1) && (isFromV e 0 (P - 1) && (!decide (intV b = intV e) && (isBoolV wt && isFromV r 1 3))))) := rfl
        rw [hw] at k
        cases q1 : isFromV h 0 (T - 1) with
        | false =>
          rw [q1] at k
          refine iteT ?_
          refine iteT ?_
          walk_at "go"
          exact k
        | true =>
          rw [q1, Bool.true_and] at k
          refine iteF ?_
          walk_at "go"
          refine ⟨b, 0, P - 1, rfl, hk b (by simp), ?_⟩
          refine c_bl ?_
          cases q2 : isFromV b 0 (P - 1) with
          | false =>
            rw [q2] at k
            refine iteT ?_
            refine iteT ?_
            walk_at "go"
            exact k
          | true =>
            rw [q2, Bool.true_and] at k
            refine iteF ?_
            walk_at "go"
            refine ⟨e, 0, P - 1, rfl, hk e (by simp), ?_⟩
            refine c_bl ?_
            cases q3 : isFromV e 0 (P - 1) with
            | false =>
              rw [q3] at k
              refine iteT ?_
              walk_at "go"
              exact k
            | true =>
              rw [q3, Bool.true_and] at k
              refine iteF ?_
              obtain ⟨b', rfl, _, _⟩ := isFromV_ex q2
              obtain ⟨e', rfl, _, _⟩ := isFromV_ex q3
              walk_at "go"
              have hi : (!decide (intV (V.int b') = intV (V.int e'))) = !decide (b' = e') := rfl
              rw [hi] at k
              cases q4 : !decide (b' = e') with
              | false =>
                rw [q4] at k
                exact iteF k
              | true =>
                rw [q4, Bool.true_and] at k
                refine iteT ?_
                walk_at "go"
                refine isi_bool (hk wt (by simp)) ?_
                refine c_bl ?_
                cases q5 : isBoolV wt with
                | false =>
                  rw [q5] at k
                  exact iteF k
                | true =>
                  rw [q5, Bool.true_and] at k
                  refine iteT ?_
                  walk_at "go"
                  exact ⟨r, 1, 3, rfl, hk r (by simp), k⟩
      · rw [show (!decide ((ys.length : Int) = 5)) = true by simp; omega]
        rw [walkB_no h5] at k
        refine iteT ?_
        walk_at "go"
        exact k
def spIsDay (K : PySem.W.Frag) : Sp := fun vs H Q _ => ∃ (x : V) (o : DOf), vs = [x] ∧ DK K H x o ∧ ∀ H', Same H H' → Q (.bl (dayB o)) H'
theorem df_is_day {aP : Addr} (B : Bl mg) (hPLACES : mg "PLACES" = some (.ref aP)) (hPl : ∀ H, SqT K H aP [.int 2, .int 5]) (hHOURS : ∃ t, mg "HOURS" = some (.int 8 t)) (hWALKS : ∃ t, mg "WALKS" = some (.int 12 t)) (D_is_from : Df P w K mg base "is_from" 1 ["thing", "low", "high"] (spIsFrom K)) (D_is_walk : Df P w K mg base "is_walk" 2 ["places", "hours", "thing"] (spIsWalk K)) (F : Has K mg "is_day" s_is_day) : Df P w K mg base "is_day" 3 ["thing"] (spIsDay K) := by
  obtain ⟨th, hHOURS⟩ := hHOURS
  obtain ⟨tw, hWALKS⟩ := hWALKS
  refine df_of F sc_is_day (fun _ _ _ _ _ _ us hl => match us, hl with | [_], _ => rfl) (fun vs H Q E h => ?_) (fun f cdv A outer s H vs Q E hr h => ?_)
  · obtain ⟨x, o, rfl, _⟩ := h
    rfl
  · obtain ⟨x, o, rfl, hx, k⟩ := h
    refine ⟨(tSeq (tIfS (tOr (tNot (tB (tCB (rIsi K) (tCons (tVar 0) (tCons (tC (.ty "tuple")) tNil))))) (tTest (tOp rNe (tCB (rLenS K) (tCons (tVar 0) tNil)) (tC (.int 3))))) (tRet (tC (.bl false))) tNext) (tSeq (tAsg (tVar 0) (gTup K 3 (gCons (gName 1) (gCons (gName 2) (gCons (gName 3) gNil))))) (tSeq (tIfS (tOr (tNot (tB (tCall (spIsFrom K) [] E0 (tCons (tVar 1) (tCons (tOp (rIxT K) (tC (.ref aP)) (tC (.int 0))) (tCons (tOp (rIxT K) (tC (.ref aP)) (tC (.int 1))) tNil)))))) (tNot (tB (tCall (spIsFrom K) [] E0 (tCons (tVar 2) (tCons (tC (.int 1)) (tCons (tC (.int 8)) tNil))))))) (tRet (tC (.bl false))) tNext) (tSeq (tIfS (tOr (tNot (tB (tCB (rIsi K) (tCons (tVar 3) (tCons (tC (.ty "tuple")) tNil))))) (tOr (tTest (tOp (rI0 fun i j => .bl (decide (j < i))) (tCB (rLenS K) (tCons (tVar 3) tNil)) (tC (.int 12)))) (tNot (tB (tCB (rAll K) (tCons (tLc (iTup K (tVar 3)) (gName 4) tYes (tCall (spIsWalk K) [] E0 (tCons (tVar 1) (tCons (tVar 2) (tCons (tVar 4) tNil)))) [4]) tNil)))))) (tRet (tC (.bl false))) tNext) (tRet (tCB (rAll K) (tCons (tLc (iZip2 K (tCons (tVar 3) (tCons (tSl (rSlA K) (tVar 3) (tPart (tC (.int 1))) tNoPart) tNil))) (gTup K 2 (gCons (gName 4) (gCons (gName 5) gNil))) tYes (tOp (rLtD K) (tVar 4) (tVar 5)) [4, 5]) tNil))))))),
      (pss_cons (ps_if (PW.pt (pw_or (pt_not (pt_val (pe_callB call_isi (by rfl) B.isinstance bt_isinstance (pa_cons (pv 0) (pa_cons (pe_bltn (v := .ty "tuple") (by rfl) B.tuple bt_tuple rfl) pa_nil))))) (pw_or1 (pt_cmpR op_ne (pe_callB call_len_seq (by rfl) B.len bt_len (pa_cons (pv 0) pa_nil)) pe_int (nomark _))))) (pss_one (ps_ret pe_bl)) pss_nil)
      (pss_cons (ps_asg (pv 0) (pg_tup rfl (pgs_cons (pg_name (i := 1) sc_is_day.nd rfl (by first | exact Or.inl rfl | exact Or.inr rfl)) (pgs_cons (pg_name (i := 2) sc_is_day.nd rfl (by first | exact Or.inl rfl | exact Or.inr rfl)) (pgs_cons (pg_name (i := 3) sc_is_day.nd rfl (by first | exact Or.inl rfl | exact Or.inr rfl)) pgs_nil)))))
      (pss_cons (ps_if (PW.pt (pw_or (pt_not (pt_val (pe_df D_is_from (hr.mono (by decide)) (by rfl) (pa_cons (pv 1) (pa_cons (pe_ix ix_tup (pe_glob (v := (.ref aP)) (by rfl) hPLACES rfl) pe_int (fun _ _ => rfl)) (pa_cons (pe_ix ix_tup (pe_glob (v := (.ref aP)) (by rfl) hPLACES rfl) pe_int (fun _ _ => rfl)) pa_nil)))))) (pw_or1 (pt_not (pt_val (pe_df D_is_from (hr.mono (by decide)) (by rfl) (pa_cons (pv 2) (pa_cons pe_int (pa_cons (pe_glob (v := (.int 8)) (by rfl) hHOURS ⟨_, rfl⟩) pa_nil))))))))) (pss_one (ps_ret pe_bl)) pss_nil)
      (pss_cons (ps_if (PW.pt (pw_or (pt_not (pt_val (pe_callB call_isi (by rfl) B.isinstance bt_isinstance (pa_cons (pv 3) (pa_cons (pe_bltn (v := .ty "tuple") (by rfl) B.tuple bt_tuple rfl) pa_nil))))) (pw_or (pt_cmpR op_gt (pe_callB call_len_seq (by rfl) B.len bt_len (pa_cons (pv 3) pa_nil)) (pe_glob (v := (.int 12)) (by rfl) hWALKS ⟨_, rfl⟩) (nomark _)) (pw_or1 (pt_not (pt_val (pe_callB (cr_all rfl) (by rfl) B.all bt_all (pa_cons (pe_lc (own := [("one", 4)]) (g := (gName 4)) (tt := tYes) (te := (tCall (spIsWalk K) [] E0 (tCons (tVar 1) (tCons (tVar 2) (tCons (tVar 4) tNil))))) rfl sc_is_day.nd (pi_tup (pv 3)) (blkOk_by (own := [("one", 4)]) (N := ["thing", "places", "hours", "walks", "one", "other"]) (sc := defScope s_is_day) (by decide +kernel)) (fun _ _ _ _ _ => (pg_name (i := 4) sc_is_day.nd rfl (by first | exact Or.inl rfl | exact Or.inr rfl))) (fun _ _ _ _ _ => pts_nil) (fun _ _ _ _ _ => (pe_df D_is_walk (hr.mono (by decide)) (by rfl) (pa_cons (pv 1) (pa_cons (pv 2) (pa_cons (pv 4) pa_nil)))))) pa_nil)))))))) (pss_one (ps_ret pe_bl)) pss_nil)
      (pss_one (ps_ret (pe_callB (cr_all rfl) (by rfl) B.all bt_all (pa_cons (pe_lc (own := [("one", 4), ("other", 5)]) (g := (gTup K 2 (gCons (gName 4) (gCons (gName 5) gNil)))) (tt := tYes) (te := (tOp (rLtD K) (tVar 4) (tVar 5))) rfl sc_is_day.nd (pi_zip2 (by rfl) B.zip (pa_cons (pv 3) (pa_cons (pe_slice sl_tupA (pv 3) (po_some pe_int) po_none) pa_nil))) (blkOk_by (own := [("one", 4), ("other", 5)]) (N := ["thing", "places", "hours", "walks", "one", "other"]) (sc := defScope s_is_day) (by decide +kernel)) (fun _ _ _ _ _ => (pg_tup rfl (pgs_cons (pg_name (i := 4) sc_is_day.nd rfl (by first | exact Or.inl rfl | exact Or.inr rfl)) (pgs_cons (pg_name (i := 5) sc_is_day.nd rfl (by first | exact Or.inl rfl | exact Or.inr rfl)) pgs_nil)))) (fun _ _ _ _ _ => pts_nil) (fun _ _ _ _ _ => (pe_cmpR (op_ltD hr.units) (pv 4) (pv 5) (nomark _)))) pa_nil)))))))), ?_⟩
    walk_at "go"
    rcases hx with ⟨rfl, hn | ⟨t, ys, rfl, ht, h3⟩⟩ | ⟨t, p, h, z, ow, rfl, rfl, ht, kp, kh, hz⟩
    · refine isi_ntup hn ?_
      walk_at "go"
      refine iteT ?_
      refine iteT ?_
      walk_at "go"
      exact k _ (Same.refl _)
    · refine isi_tup ht ?_
      walk_at "go"
      refine iteF ?_
      walk_at "go"
      rw [show (!decide ((ys.length : Int) = 3)) = true by simp; omega]
      refine iteT ?_
      walk_at "go"
      exact k _ (Same.refl _)
    · refine isi_tup ht ?_
      walk_at "go"
      refine iteF ?_
      walk_at "go"
      refine iteF ?_
      walk_at "go"
      refine c_ixT (hPl _) at0 ?_
      walk_at "go"
      refine c_ixT (hPl _) at1 ?_
      walk_at "go"
      refine ⟨p, 2, 5, rfl, kp, ?_⟩
      refine c_bl ?_
      have hd : dayB (some (p, h, ow)) = (isFromV p 2 5 && (isFromV h 1 8 && match ow with | none => false | some os => (decide (os.length ≤ 12) && (os.all (walkB (intV p) (intV h)) && risingB (os.map wkOf))))) := by
        cases ow with
        | none => show false = _; simp
        | some os => rfl
      rw [hd] at k
      cases q1 : isFromV p 2 5 with
      | false =>
        rw [q1] at k
        refine iteT ?_
        refine iteT ?_
        walk_at "go"
        exact k _ (Same.refl _)
      | true =>
        rw [q1, Bool.true_and] at k
        refine iteF ?_
        walk_at "go"
        refine ⟨h, 1, 8, rfl, kh, ?_⟩
        refine c_bl ?_
        cases q2 : isFromV h 1 8 with
        | false =>
          rw [q2] at k
          refine iteT ?_
          walk_at "go"
          exact k _ (Same.refl _)
        | true =>
          rw [q2, Bool.true_and] at k
          refine iteF ?_
          obtain ⟨P', rfl, p1, p2⟩ := isFromV_ex q1
          obtain ⟨T', rfl, t1, t2⟩ := isFromV_ex q2
          have hip : intV (V.int P') = P' := rfl
          have hih : intV (V.int T') = T' := rfl
          rw [hip, hih] at k
          walk_at "go"
          rcases hz with ⟨rfl, hz⟩ | ⟨tz, ws, os, rfl, rfl, htz, hwl, hol, hws⟩
          · refine isi_ntup hz ?_
            walk_at "go"
            refine iteT ?_
            refine iteT ?_
            walk_at "go"
            exact k _ (Same.refl _)
          · refine isi_tup htz ?_
            walk_at "go"
            refine iteF ?_
            walk_at "go"
            dsimp only at k
            by_cases h12 : os.length ≤ 12
            · rw [show decide ((12 : Int) < (ws.length : Int)) = false from decide_eq_false (by omega)]
              rw [decide_eq_true h12, Bool.true_and] at k
              refine iteF ?_
              walk_at "go"
              refine ⟨tz, rfl, ⟨ws, htz⟩, fun D nD => ?_⟩
              refine lc_it (walk_tup (xs := ws)) (fun j H2 => Same H H2 ∧ H2 D = some (.lst (((os.take j).map (walkB P' T')).map V.bl))) ⟨Same.new nD, upd_same⟩ (fun j H2 _ h => h.1.tup htz) ?_ ?_
              · rintro j y H2 H3 hj ⟨e2, hD⟩ ⟨rfl, hy⟩
                have hol' : j < os.length := by omega
                have ho : os[j]? = some os[j] := List.getElem?_eq_getElem hol'
                walk_at "go"
                refine ⟨rfl, ?_⟩
                walk_at "go"
                refine iteT ?_
                walk_at "go"
                refine ⟨P', T', y, os[j], rfl, (hws j y _ hy ho).same e2, ?_⟩
                refine ⟨_, hD, szl' (by simp; omega), e2.mut nD, ?_⟩
                rw [upd_same, take_succ_get ho, List.map_append, List.map_append]
                rfl
              · rintro H2 ⟨e2, hD⟩
                rw [List.take_of_length_le (by omega)] at hD
                walk_at "go"
                refine c_all (SqL.of hD) ?_
                have hall : ((os.map (walkB P' T')).all id) = os.all (walkB P' T') := by simp [List.all_map, Function.comp_def]
                rw [hall]
                refine c_bl ?_
                cases q3 : os.all (walkB P' T') with
                | false =>
                  rw [q3] at k
                  refine iteT ?_
                  walk_at "go"
                  exact k _ e2
                | true =>
                  rw [q3, Bool.true_and] at k
                  refine iteF ?_
                  have htz2 := e2.tup htz
                  walk_at "go"
                  refine c_slQ htz2 fun p1' H3 e3 h1 => ?_
                  rw [cut1] at h1
                  have htz3 := e3.tup htz2
                  have e03 := e2.trans e3
                  refine ⟨true, true, tz, p1', ws, ws.drop 1, rfl, htz3, h1, fun D2 nD2 => ?_⟩
                  have hos : ∀ (i : Nat) (x : V), ws[i]? = some x → ∃ (a : Addr) (wk : Wk), x = .ref a ∧ (os.map wkOf)[i]? = some wk ∧ SqT K H3 a (wkV wk) := by
                    intro i x hx
                    have hi := (List.getElem?_eq_some_iff.mp hx).1
                    have ho : os[i]? = some (os[i]'(by omega)) := List.getElem?_eq_getElem _
                    have hb := List.all_eq_true.mp q3 _ (List.mem_of_getElem? ho)
                    obtain ⟨_, _, _, _, _, ho2⟩ := walkB_of hb
                    rcases hws i x _ hx ho with ⟨hn, _⟩ | ⟨t', ys, h1, h2, h3, _⟩
                    · rw [ho2] at hn; cases hn
                    · rw [ho2] at h1
                      cases h1
                      exact ⟨t', _, h2, by rw [List.getElem?_map, ho]; rfl, e03.tup h3⟩
                  refine lc_it (walk_zip2r (n := ws.length - 1) (by omega) (by rw [List.length_drop])) (fun j H4 => Same H3 H4 ∧ H4 D2 = some (.lst (((List.zipWith wkLt (os.map wkOf) ((os.map wkOf).drop 1)).take j).map V.bl))) ⟨Same.new nD2, upd_same⟩ (fun j H4 _ h => ⟨h.1.tup htz3, h.1.tup h1⟩) ?_ ?_
                  · rintro j y H4 H5 hj ⟨e4, hD4⟩ ⟨T1, x1, y1, rfl, nT, rfl, hx1, hy1⟩
                    dsimp only at hx1 hy1
                    rw [List.getElem?_drop] at hy1
                    obtain ⟨a1, w1, rfl, g1, s1⟩ := hos _ _ hx1
                    obtain ⟨a2, w2, rfl, g2, s2⟩ := hos _ _ hy1
                    have e5 := e4.trans (Same.new (o := .tup [V.ref a1, V.ref a2]) nT)
                    walk_at "go"
                    refine ⟨rfl, ?_⟩
                    walk_at "go"
                    refine iteT ?_
                    walk_at "go"
                    refine c_ltW (e5.tup s1) (e5.tup s2) ?_
                    refine ⟨_, get_new hD4 nT, szl' (by simp; omega), e5.mut nD2, ?_⟩
                    rw [upd_same, take_succ_get (show (List.zipWith wkLt (os.map wkOf) ((os.map wkOf).drop 1))[j]? = some (wkLt w1 w2) by rw [List.getElem?_zipWith, g1, List.getElem?_drop, g2])]
                    simp
                  · rintro H4 ⟨e4, hD4⟩
                    rw [List.take_of_length_le (by rw [List.length_zipWith, List.length_drop, List.length_map]; omega)] at hD4
                    walk_at "go"
                    refine c_all (SqL.of hD4) ?_
                    rw [rising_list]
                    exact k _ (e03.trans e4)
            · rw [show decide ((12 : Int) < (ws.length : Int)) = true from decide_eq_true (by omega)]
              rw [decide_eq_false h12] at k
              refine iteT ?_
              refine iteT ?_
              walk_at "go"
              exact k _ (Same.refl _)
def spAreNumbers (K : PySem.W.Frag) : Sp := fun vs H Q _ => ∃ (a aw : Addr) (d : Day) (x : V) (o : Option (List V)), vs = [.ref a, x] ∧ SqT K H a [.int (d.P : Int), .int (d.T : Int), .ref aw] ∧ TV K H x o ∧
  ∀ H', Same H H' → Q (.bl (match o with | none => false | some ss => decide (ss.length = d.P) && ss.all (fun x => isFromV x 0 20))) H'
theorem df_are_numbers (B : Bl mg) (hMOST : ∃ t, mg "MOST" = some (.int 20 t)) (D_are_from : Df P w K mg base "are_from" 2 ["day", "thing", "high"] (spAreFrom K)) (F : Has K mg "are_numbers" s_are_numbers) : Df P w K mg base "are_numbers" 3 ["day", "thing"] (spAreNumbers K) := by
  obtain ⟨tm, hMOST⟩ := hMOST
  refine df_of F sc_are_numbers (fun _ _ _ _ _ _ us hl => match us, hl with | [_, _], _ => rfl) (fun vs H Q E h => ?_) (fun f cdv A outer s H vs Q E hr h => ?_)
  · obtain ⟨a, aw, d, x, o, rfl, _⟩ := h
    rfl
  · obtain ⟨a, aw, d, x, o, rfl, hday, hx, k⟩ := h
    refine ⟨(tRet (tCall (spAreFrom K) [] E0 (tCons (tVar 0) (tCons (tVar 1) (tCons (tC (.int 20)) tNil))))),
      (pss_one (ps_ret (pe_df D_are_from (hr.mono (by decide)) (by rfl) (pa_cons (pv 0) (pa_cons (pv 1) (pa_cons (pe_glob (v := (.int 20)) (by rfl) hMOST ⟨_, rfl⟩) pa_nil)))))), ?_⟩
    walk_at "go"
    exact ⟨a, aw, d, x, o, 20, rfl, hday, hx, k⟩
end
section
variable {P : Program} {w : World} {K : PySem.W.Frag} {mg : Str → Option Value} {base : Heap}
theorem ei_soaked (Er : Ers K mg) (F : HasM K (gE K "Soaked") "__init__" "Soaked.__init__" s_Soaked___init__) : ExI P w K mg base "Soaked" "walk" 1 (gE K "Soaked") := by
  obtain ⟨f, fd, F, hm⟩ := F.ex
  have hb := F.binds (ps := ["self", "walk"]) fun _ _ _ _ _ _ us hl => match us, hl with | [_, _], _ => rfl
  obtain ⟨m1, m2, m3⟩ := id hm
  refine ⟨Er.oex _ (by decide), Er.glo _ (by decide), f, fd, ["self", "walk"], m1, beq_iff_eq.mp m2, ?_, hb⟩
  refine F.ok sc_Soaked___init__ (fun vs H Q E h => ?_) (fun cdv A outer s H vs Q E hr h => ?_)
  · obtain ⟨a, v, rfl, _⟩ := h
    rfl
  · obtain ⟨a, v, rfl, ha, k⟩ := h
    refine ⟨(tSeq (tDrop (tVeI K (tCons (tVar 0) (tCons (tC (.str "soaked")) tNil)))) (tOst K "walk" (tVar 0) (tVar 1))),
      (pss_cons (ps_expr (pe_weinit (by rfl) Er.weg Er.wsp Er.wrd Er.wfi (pa_cons (pv 0) (pa_cons pe_str pa_nil))))
      (pss_one (ps_ost (pv 0) (pv 1)))), ?_⟩
    walk_at "go"
    refine c_veI ?_
    walk_at "go"
    refine ⟨a, _, [V.str "soaked"], rfl, by simp, Er.oex "Soaked" (by decide), ha, ?_⟩
    walk_at "go"
    exact c_ostV rfl rfl ⟨a, _, rfl, Er.oex _ (by decide), Er.walk, ha, fun dx ndx ne => k dx ndx ne⟩
theorem ei_lacks (Er : Ers K mg) (F : HasM K (gE K "Lacks") "__init__" "Lacks.__init__" s_Lacks___init__) : ExI P w K mg base "Lacks" "place" 1 (gE K "Lacks") := by
  obtain ⟨f, fd, F, hm⟩ := F.ex
  have hb := F.binds (ps := ["self", "place"]) fun _ _ _ _ _ _ us hl => match us, hl with | [_, _], _ => rfl
  obtain ⟨m1, m2, m3⟩ := id hm
  refine ⟨Er.oex _ (by decide), Er.glo _ (by decide), f, fd, ["self", "place"], m1, beq_iff_eq.mp m2, ?_, hb⟩
  refine F.ok sc_Lacks___init__ (fun vs H Q E h => ?_) (fun cdv A outer s H vs Q E hr h => ?_)
  · obtain ⟨a, v, rfl, _⟩ := h
    rfl
  · obtain ⟨a, v, rfl, ha, k⟩ := h
    refine ⟨(tSeq (tDrop (tVeI K (tCons (tVar 0) (tCons (tC (.str "lacks")) tNil)))) (tOst K "place" (tVar 0) (tVar 1))),
      (pss_cons (ps_expr (pe_weinit (by rfl) Er.weg Er.wsp Er.wrd Er.wfi (pa_cons (pv 0) (pa_cons pe_str pa_nil))))
      (pss_one (ps_ost (pv 0) (pv 1)))), ?_⟩
    walk_at "go"
    refine c_veI ?_
    walk_at "go"
    refine ⟨a, _, [V.str "lacks"], rfl, by simp, Er.oex "Lacks" (by decide), ha, ?_⟩
    walk_at "go"
    exact c_ostV rfl rfl ⟨a, _, rfl, Er.oex _ (by decide), Er.place, ha, fun dx ndx ne => k dx ndx ne⟩
end
section
variable {P : Program} {w : World} {K : PySem.W.Frag} {mg : Str → Option Value} {base : Heap}
def numV (d : Day) : Option (List V) → Bool
  | none => false
  | some ss => decide (ss.length = d.P) && ss.all (fun x => isFromV x 0 20)
def spHouseX (K : PySem.W.Frag) (C : Addr) : Sp := fun vs H Q E => ∃ (H0 : Hp) (p dx : Addr) (x y : V), vs = [.ref p, x, y] ∧ Same H0 H ∧ H0 p = none ∧ H p = some (.ins C dx []) ∧
  ((∃ o, DK K H0 x o ∧ dayB o = false ∧ ∀ H', Same H0 H' → E (.ref (gE K "NoDay")) none H') ∨
   (∃ (ad aw : Addr) (ds : List V) (d : Day) (oy : Option (List V)), x = .ref ad ∧ DayAt K H0 ad aw ds d ∧ DayD 5 8 12 d ∧ TV K H0 y oy ∧ numV d oy = false ∧ ∀ H', Same H0 H' → E (.ref (gE K "NoStarts")) none H') ∨
   (∃ (ad aw g : Addr) (ds : List V) (d : Day) (G : List Int), x = .ref ad ∧ y = .ref g ∧ DayAt K H0 ad aw ds d ∧ DayD 5 8 12 d ∧ SqT K H0 g (vI G) ∧ G.length = d.P ∧ (∀ p, 0 ≤ G.getD p 0 ∧ G.getD p 0 ≤ 20) ∧
     ∀ (H' : Hp) (ro pa : Addr), Same H0 H' → H0 ro = none → H0 pa = none → HouS K C H' p dx ad aw ro pa ds d [G] [] → Q .non H'))
theorem hf_put {ad ro pa : Addr} : putF "past" (.ref pa) (putF "rows" (.ref ro) (putF "day" (.ref ad) [])) = hf ad ro pa := rfl
theorem dk_same {K : PySem.W.Frag} {H H' : Hp} {x : V} {o : DOf} (e : Same H H') (h : DK K H x o) : DK K H' x o := by
  rcases h with ⟨h1, h2 | ⟨t, ys, h2, h3, h4⟩⟩ | ⟨t, p, h, z, ow, h1, h2, h3, h4, h5, h6⟩
  · exact .inl ⟨h1, .inl (h2.kp (.of e))⟩
  · exact .inl ⟨h1, .inr ⟨t, ys, h2, e.tup h3, h4⟩⟩
  · exact .inr ⟨t, p, h, z, ow, h1, h2, e.tup h3, h4.kp (.of e), h5.kp (.of e), h6.same e⟩
theorem mf_houseX (CH : Addr) (TH : CtxH K CH) (Er : Ers K mg) (B : Bl mg) (D_is_day : Df P w K mg base "is_day" 3 ["thing"] (spIsDay K)) (D_are_numbers : Df P w K mg base "are_numbers" 3 ["day", "thing"] (spAreNumbers K)) (F : HasI K mg "House" CH "House.__init__" s_House___init__) : MkfX P w K mg base "House" CH 4 ["self", "day", "starts"] (spHouseX K CH) := by
  refine mkfx_of F sc_House___init__ (fun _ _ _ _ _ _ us hl => match us, hl with | [_, _, _], _ => rfl) (fun vs H Q E h => ?_) (fun f cdv A outer s H vs Q E hr h => ?_)
  · obtain ⟨H0, p, dx, x, y, rfl, _⟩ := h
    rfl
  · obtain ⟨H0, p, dx, x, y, rfl, s0, p0, hp, h⟩ := h
    refine ⟨(tSeq (tIfS (tNot (tB (tCall (spIsDay K) [] E0 (tCons (tVar 1) tNil)))) (tRs (gE K "NoDay") E) tNext) (tSeq (tIfS (tNot (tB (tCall (spAreNumbers K) [] E0 (tCons (tVar 1) (tCons (tVar 2) tNil))))) (tRs (gE K "NoStarts") E) tNext) (tSeq (sFld K (tVar 0) (tVar 1) "day") (tSeq (sFld K (tVar 0) (tLst (tCons (tVar 2) tNil)) "rows") (sFld K (tVar 0) (tLst tNil) "past"))))),
      (pss_cons (ps_if (pt_not (pt_val (pe_df D_is_day (hr.mono (by decide)) (by rfl) (pa_cons (pv 1) pa_nil)))) (pss_one (ps_rs rfl (L2N.takes_of rfl rfl rfl rfl) (Er.six "NoDay" (by decide)) (by rfl))) pss_nil)
      (pss_cons (ps_if (pt_not (pt_val (pe_df D_are_numbers (hr.mono (by decide)) (by rfl) (pa_cons (pv 1) (pa_cons (pv 2) pa_nil))))) (pss_one (ps_rs rfl (L2N.takes_of rfl rfl rfl rfl) (Er.six "NoStarts" (by decide)) (by rfl))) pss_nil)
      (pss_cons (ps_fld (pv 0) (pv 1) rfl)
      (pss_cons (ps_fld (pv 0) (pe_lst (pa_cons (pv 2) pa_nil)) rfl)
      (pss_one (ps_fld (pv 0) (pe_lst pa_nil) rfl)))))), ?_⟩
    rcases h with ⟨o, ho, hb, k⟩ | ⟨ad, aw, ds, d, oy, rfl, hd, DD, hy, hb, k⟩ | ⟨ad, aw, g, ds, d, G, rfl, rfl, hd, DD, hg, lG, hG, k⟩
    · walk_at "go"
      refine ⟨x, o, rfl, dk_same s0 ho, fun H1 e1 => ?_⟩
      rw [hb]
      refine c_bl ?_
      refine iteT ?_
      exact c_rs (k _ (s0.trans e1))
    · have hWl := DD.W
      have hPm := DD.PM
      walk_at "go"
      refine ⟨.ref ad, _, rfl, kn_days (hd.tx (.of s0)) (by omega), fun H1 e1 => ?_⟩
      rw [DD.dayB (by decide) (by decide) (by decide)]
      refine c_bl ?_
      refine iteF ?_
      have s1 := s0.trans e1
      walk_at "go"
      refine ⟨ad, aw, d, y, oy, rfl, s1.tup hd.day, hy.kp (.of s1), fun H2 e2 => ?_⟩
      cases oy with
      | none =>
        refine c_bl ?_
        refine iteT ?_
        exact c_rs (k _ (s1.trans e2))
      | some ss =>
        dsimp only
        rw [show (decide (ss.length = d.P) && ss.all (fun x => isFromV x 0 20)) = false from hb]
        refine c_bl ?_
        refine iteT ?_
        exact c_rs (k _ (s1.trans e2))
    · have hWl := DD.W
      have hPm := DD.PM
      walk_at "go"
      refine ⟨.ref ad, _, rfl, kn_days (hd.tx (.of s0)) (by omega), fun H1 e1 => ?_⟩
      rw [DD.dayB (by decide) (by decide) (by decide)]
      refine c_bl ?_
      refine iteF ?_
      have s1 := s0.trans e1
      walk_at "go"
      refine ⟨ad, aw, d, .ref g, some (vI G), rfl, s1.tup hd.day, tv_ints (s1.tup hg) (by omega), fun H2 e2 => ?_⟩
      have s2 := s1.trans e2
      have hp2 := e2 _ _ (e1 _ _ hp)
      dsimp only
      rw [decide_eq_true (show (vI G).length = d.P by rw [List.length_map]; exact lG), all_from (fun p _ => hG p)]
      refine c_bl ?_
      refine iteF ?_
      walk_at "go"
      refine ⟨szl (by simp), fun ro nro => ?_⟩
      have nrp : ro ≠ p := ne_upd nro
      have nro2 : H2 ro = none := none_upd nro
      have hp3 : upd (upd H2 p (.ins CH dx (putF "day" (.ref ad) []))) ro (.lst [V.ref g]) p = some (.ins CH dx (putF "day" (.ref ad) [])) := get_new upd_same nro
      have hro3 : upd (upd H2 p (.ins CH dx (putF "day" (.ref ad) []))) ro (.lst [V.ref g]) ro = some (.lst [V.ref g]) := upd_same
      have s3 : Same H0 (upd (upd H2 p (.ins CH dx (putF "day" (.ref ad) []))) ro (.lst [V.ref g])) := (s2.mut p0).trans (Same.new nro)
      generalize upd (upd H2 p (.ins CH dx (putF "day" (.ref ad) []))) ro (.lst [V.ref g]) = H3 at hp3 hro3 s3 ⊢
      walk_at "go"
      refine ⟨szl (by simp), fun pa npa => ?_⟩
      have hro4 : upd H3 p (.ins CH dx (putF "rows" (.ref ro) (putF "day" (.ref ad) []))) ro = some (.lst [V.ref g]) := get_mut nrp hro3
      have npp : pa ≠ p := ne_upd npa
      have npr : pa ≠ ro := ne_had hro4 npa
      have hp5 : upd (upd H3 p (.ins CH dx (putF "rows" (.ref ro) (putF "day" (.ref ad) [])))) pa (.lst []) p = some (.ins CH dx (putF "rows" (.ref ro) (putF "day" (.ref ad) []))) := get_new upd_same npa
      have hpa5 : upd (upd H3 p (.ins CH dx (putF "rows" (.ref ro) (putF "day" (.ref ad) [])))) pa (.lst []) pa = some (.lst []) := upd_same
      have hro5 := get_new (u := .lst []) hro4 npa
      have s5 : Same H0 (upd (upd H3 p (.ins CH dx (putF "rows" (.ref ro) (putF "day" (.ref ad) [])))) pa (.lst [])) := (s3.mut p0).trans (Same.new npa)
      have npa3 := none_upd npa
      generalize upd (upd H3 p (.ins CH dx (putF "rows" (.ref ro) (putF "day" (.ref ad) [])))) pa (.lst []) = H5 at hp5 hpa5 hro5 s5 ⊢
      walk_at "go"
      rw [hf_put]
      have s6 : Same H0 (upd H5 p (.ins CH dx (hf ad ro pa))) := s5.mut p0
      refine k _ ro pa s6 (none_back s2 nro2) (none_back s3 npa3) ⟨upd_same, npr.symm, ⟨[V.ref g], [], get_mut nrp hro5, get_mut npp hpa5, ?_, .nil⟩, hd.tx (.of s6), DD, rfl, Nat.zero_le _, fun R hR => ?_⟩
      · exact Refs.nil.snoc (vss := []) (show SqB K true _ _ _ from s6.tup hg)
      · obtain rfl := List.mem_singleton.mp hR
        exact ⟨lG, fun p => (hG p).1⟩
end
section
variable {P : Program} {w : World} {K : PySem.W.Frag} {mg : Str → Option Value} {base : Heap}
def spHourX (K : PySem.W.Frag) (C : Addr) : Sp := fun vs H Q E => ∃ (h dx ad aw ro pa : Addr) (v : V) (o : Option (List V)) (ds : List V) (d : Day) (Rs Cs : List (List Int)), vs = [.ref h, v] ∧ HouS K C H h dx ad aw ro pa ds d Rs Cs ∧ TV K H v o ∧ Rz K E H (hourA d Cs.length (lastR Rs) o) ∧
  ∀ (cs new : List Int) (H' : Hp) (t : Addr), hourA d Cs.length (lastR Rs) o = .tup new → o = some (vI cs) → Mh ro pa H H' → HouS K C H' h dx ad aw ro pa ds d (Rs ++ [new]) (Cs ++ [cs]) → SqT K H' t (vI new) → Q (.ref t) H'
theorem mf_hourX (CH : Addr) (TH : CtxH K CH) (Er : Ers K mg) (B : Bl mg) (EI_Soaked : ExI P w K mg base "Soaked" "walk" 1 (gE K "Soaked")) (EI_Lacks : ExI P w K mg base "Lacks" "place" 1 (gE K "Lacks")) (D_is_from : Df P w K mg base "is_from" 1 ["thing", "low", "high"] (spIsFrom K)) (F : HasM K CH "hour" "House.hour" s_House_hour) : MfX P w K mg base CH "hour" 3 ["self", "carried"] (spHourX K CH) := by
  refine mfx_of F sc_House_hour (fun _ _ _ _ _ _ us hl => match us, hl with | [_, _], _ => rfl) (fun vs H Q E h => ?_) (fun f cdv A outer s H vs Q E hr h => ?_)
  · obtain ⟨h, dx, ad, aw, ro, pa, v, o, ds, d, Rs, Cs, rfl, _⟩ := h
    rfl
  · obtain ⟨h, dx, ad, aw, ro, pa, vc, o, ds, d, Rs, Cs, rfl, S, hvc, hz, k⟩ := h
    obtain ⟨rs, ps, hro, hpa, hrs, hps⟩ := S.ex
    have hin := S.ins
    have hday := S.day.day
    have hWl := S.dd.W
    have hTm := S.dd.TM
    have hcap := S.cap
    have hwl := S.day.wks.len
    have hrl : rs.length = Cs.length + 1 := by rw [hrs.len, List.length_map, S.len]
    have hpl : ps.length = Cs.length := by rw [hps.len, List.length_map]
    have hRl : Rs.length = Cs.length + 1 := S.len
    obtain ⟨R, hR⟩ : ∃ R, Rs[Cs.length]? = some R := ⟨Rs[Cs.length], List.getElem?_eq_getElem (by omega)⟩
    have hlr : lastR Rs = R := by
      unfold lastR
      rw [hRl, Nat.add_sub_cancel, List.getD_eq_getElem?_getD, hR]
      rfl
    obtain ⟨lR, nR⟩ := S.row R (List.mem_of_getElem? hR)
    obtain ⟨xr, hxr, hxR⟩ := hrs.at_ Cs.length (vI R) (by rw [List.getElem?_map, hR]; rfl)
    rw [hlr] at hz k
    refine ⟨(tSeq (tAsg (tCB (rLenS K) (tCons (tFld K (tVar 0) "past") tNil)) (gName 2)) (tSeq (tIfS (tTest (tOp rEq (tVar 2) (tOp (rIxT K) (tFld K (tVar 0) "day") (tC (.int 1))))) (tRs (gE K "Over") E) tNext) (tSeq (tAsg (tLc (iEnumB K (tCons (tOp (rIxT K) (tFld K (tVar 0) "day") (tC (.int 2))) tNil)) (gTup K 2 (gCons (gName 4) (gCons (gName 5) gNil))) (tTest (tOp rEq (tOp (rIxT K) (tVar 5) (tC (.int 0))) (tVar 2))) (tTup (tCons (tVar 4) (tCons (tVar 5) tNil))) [4, 5]) (gName 3)) (tSeq (tIfS (tOr (tNot (tB (tCB (rIsi K) (tCons (tVar 1) (tCons (tC (.ty "tuple")) tNil))))) (tTest (tOp rNe (tCB (rLenS K) (tCons (tVar 1) tNil)) (tCB (rLenS K) (tCons (tVar 3) tNil))))) (tRs (gE K "NoCarried") E) tNext) (tSeq (tIfS (tNot (tB (tCB (rAll K) (tCons (tLc (iZip2 K (tCons (tVar 1) (tCons (tVar 3) tNil))) (gTup K 2 (gCons (gName 6) (gCons (gName 7) gNil))) tYes (tCall (spIsFrom K) [] E0 (tCons (tVar 6) (tCons (tC (.int 0)) (tCons (tOp (rIxT K) (tOp (rIxT K) (tVar 7) (tC (.int 1))) (tC (.int 4))) tNil)))) [6, 7]) tNil)))) (tRs (gE K "NoCarried") E) tNext) (tSeq (tFor (iZip2 K (tCons (tVar 1) (tCons (tVar 3) tNil))) (gTup K 2 (gCons (gName 6) (gCons (gName 7) gNil))) (tIfS (tAnd (tB (tOp (rIxT K) (tOp (rIxT K) (tVar 7) (tC (.int 1))) (tC (.int 3)))) (tTest (tOp rEq (tVar 6) (tC (.int 0))))) (tRsI (gE K "Soaked") "walk" E (tOp (rIxT K) (tVar 7) (tC (.int 0)))) tNext)) (tSeq (tAsg (tCB (rListOf K) (tCons (tOp (rIxL K) (tFld K (tVar 0) "rows") (tUn (rU fun i => .int (-i)) (tC (.int 1)))) tNil)) (gName 8)) (tSeq (tFor (iZip2 K (tCons (tVar 1) (tCons (tVar 3) tNil))) (gTup K 2 (gCons (gName 6) (gCons (gName 7) gNil))) (tAugS (tVar 8) (tOp (rIxT K) (tOp (rIxT K) (tVar 7) (tC (.int 1))) (tC (.int 1))) (tVar 6) (rIxL K) (ipI fun i j => i - j) rSetL)) (tSeq (tFor (iEnumB K (tCons (tVar 8) tNil)) (gTup K 2 (gCons (gName 9) (gCons (gName 6) gNil))) (tIfS (tTest (tOp (rI0 fun i j => .bl (decide (i < j))) (tVar 6) (tC (.int 0)))) (tRsI (gE K "Lacks") "place" E (tVar 9)) tNext)) (tSeq (tFor (iZip2 K (tCons (tVar 1) (tCons (tVar 3) tNil))) (gTup K 2 (gCons (gName 6) (gCons (gName 7) gNil))) (tAugS (tVar 8) (tOp (rIxT K) (tOp (rIxT K) (tVar 7) (tC (.int 1))) (tC (.int 2))) (tVar 6) (rIxL K) (ipI fun i j => i + j) rSetL)) (tSeq (tDrop (tBM K "list" rAppend (tFld K (tVar 0) "rows") (tCons (tCB (rTupOf K) (tCons (tVar 8) tNil)) tNil))) (tSeq (tDrop (tBM K "list" rAppend (tFld K (tVar 0) "past") (tCons (tVar 1) tNil))) (tRet (tCB (rTupOf K) (tCons (tVar 8) tNil))))))))))))))),
      (pss_cons (ps_set (i := 2) sc_House_hour.nd rfl (by first | exact Or.inl rfl | exact Or.inr rfl) (pe_callB call_len_seq (by rfl) B.len bt_len (pa_cons (pe_fld (pv 0) rfl) pa_nil)))
      (pss_cons (ps_if (pt_cmpR op_eq (pv 2) (pe_ix ix_tup (pe_fld (pv 0) rfl) pe_int (fun _ _ => rfl)) (nomark _)) (pss_one (ps_rs rfl (L2N.takes_of rfl rfl rfl rfl) (Er.six "Over" (by decide)) (by rfl))) pss_nil)
      (pss_cons (ps_setLc (i := 3) (own := [("number", 4), ("walk", 5)]) (g := (gTup K 2 (gCons (gName 4) (gCons (gName 5) gNil)))) (tt := (tTest (tOp rEq (tOp (rIxT K) (tVar 5) (tC (.int 0))) (tVar 2)))) (te := (tTup (tCons (tVar 4) (tCons (tVar 5) tNil)))) rfl sc_House_hour.nd rfl rfl (sw_true rfl rfl rfl (by decide +kernel)) (pi_enumB (by rfl) B.enumerate (pa_cons (pe_ix ix_tup (pe_fld (pv 0) rfl) pe_int (fun _ _ => rfl)) pa_nil)) (blkOk_by (own := [("number", 4), ("walk", 5)]) (N := ["self", "carried", "now", "walks", "number", "walk", "many", "pair", "left", "place"]) (sc := defScope s_House_hour) (by decide +kernel)) (fun _ _ _ _ _ => (pg_tup rfl (pgs_cons (pg_name (i := 4) sc_House_hour.nd rfl (by first | exact Or.inl rfl | exact Or.inr rfl)) (pgs_cons (pg_name (i := 5) sc_House_hour.nd rfl (by first | exact Or.inl rfl | exact Or.inr rfl)) pgs_nil)))) (fun _ _ _ _ _ => (pts_one (pt_cmpR op_eq (pe_ix ix_tup (pv 5) pe_int (fun _ _ => rfl)) (pv 2) (nomark _)))) (fun _ _ _ _ _ => (pe_tup (pa_cons (pv 4) (pa_cons (pv 5) pa_nil)))))
      (pss_cons (ps_if (PW.pt (pw_or (pt_not (pt_val (pe_callB call_isi (by rfl) B.isinstance bt_isinstance (pa_cons (pv 1) (pa_cons (pe_bltn (v := .ty "tuple") (by rfl) B.tuple bt_tuple rfl) pa_nil))))) (pw_or1 (pt_cmpR op_ne (pe_callB call_len_seq (by rfl) B.len bt_len (pa_cons (pv 1) pa_nil)) (pe_callB call_len_seq (by rfl) B.len bt_len (pa_cons (pv 3) pa_nil)) (nomark _))))) (pss_one (ps_rs rfl (L2N.takes_of rfl rfl rfl rfl) (Er.six "NoCarried" (by decide)) (by rfl))) pss_nil)
      (pss_cons (ps_if (pt_not (pt_val (pe_callB (cr_all rfl) (by rfl) B.all bt_all (pa_cons (pe_lc (own := [("many", 6), ("pair", 7)]) (g := (gTup K 2 (gCons (gName 6) (gCons (gName 7) gNil)))) (tt := tYes) (te := (tCall (spIsFrom K) [] E0 (tCons (tVar 6) (tCons (tC (.int 0)) (tCons (tOp (rIxT K) (tOp (rIxT K) (tVar 7) (tC (.int 1))) (tC (.int 4))) tNil))))) rfl sc_House_hour.nd (pi_zip2 (by rfl) B.zip (pa_cons (pv 1) (pa_cons (pv 3) pa_nil))) (blkOk_by (own := [("many", 6), ("pair", 7)]) (N := ["self", "carried", "now", "walks", "number", "walk", "many", "pair", "left", "place"]) (sc := defScope s_House_hour) (by decide +kernel)) (fun _ _ _ _ _ => (pg_tup rfl (pgs_cons (pg_name (i := 6) sc_House_hour.nd rfl (by first | exact Or.inl rfl | exact Or.inr rfl)) (pgs_cons (pg_name (i := 7) sc_House_hour.nd rfl (by first | exact Or.inl rfl | exact Or.inr rfl)) pgs_nil)))) (fun _ _ _ _ _ => pts_nil) (fun _ _ _ _ _ => (pe_df D_is_from (hr.mono (by decide)) (by rfl) (pa_cons (pv 6) (pa_cons pe_int (pa_cons (pe_ix ix_tup (pe_ix ix_tup (pv 7) pe_int (fun _ _ => rfl)) pe_int (fun _ _ => rfl)) pa_nil)))))) pa_nil)))) (pss_one (ps_rs rfl (L2N.takes_of rfl rfl rfl rfl) (Er.six "NoCarried" (by decide)) (by rfl))) pss_nil)
      (pss_cons (ps_for PassesOwn.leaving rfl (pi_zip2 (by rfl) B.zip (pa_cons (pv 1) (pa_cons (pv 3) pa_nil))) (pg_tup rfl (pgs_cons (pg_name (i := 6) sc_House_hour.nd rfl (by first | exact Or.inl rfl | exact Or.inr rfl)) (pgs_cons (pg_name (i := 7) sc_House_hour.nd rfl (by first | exact Or.inl rfl | exact Or.inr rfl)) pgs_nil)))
      (pss_one (ps_if (PW.pt (pw_and (pt_val (pe_ix ix_tup (pe_ix ix_tup (pv 7) pe_int (fun _ _ => rfl)) pe_int (fun _ _ => rfl))) (pw_and1 (pt_cmpR op_eq (pv 6) pe_int (nomark _))))) (pss_one (ps_rsI rfl (L2N.takes_of rfl rfl rfl rfl) EI_Soaked (hr.mono (by decide)) (by rfl) (pe_ix ix_tup (pv 7) pe_int (fun _ _ => rfl)))) pss_nil)))
      (pss_cons (ps_set (i := 8) sc_House_hour.nd rfl (by first | exact Or.inl rfl | exact Or.inr rfl) (pe_callTy call_list_of (by rfl) B.list bt_list (pa_cons (pe_ix ix_list (pe_fld (pv 0) rfl) (pe_un un_neg pe_int) (fun _ _ => rfl)) pa_nil)))
      (pss_cons (ps_for PassesOwn.leaving rfl (pi_zip2 (by rfl) B.zip (pa_cons (pv 1) (pa_cons (pv 3) pa_nil))) (pg_tup rfl (pgs_cons (pg_name (i := 6) sc_House_hour.nd rfl (by first | exact Or.inl rfl | exact Or.inr rfl)) (pgs_cons (pg_name (i := 7) sc_House_hour.nd rfl (by first | exact Or.inl rfl | exact Or.inr rfl)) pgs_nil)))
      (pss_one (ps_augS (pv 8) (pe_ix ix_tup (pe_ix ix_tup (pv 7) pe_int (fun _ _ => rfl)) pe_int (fun _ _ => rfl)) get_list (pv 6) ip_sub set_list)))
      (pss_cons (ps_for PassesOwn.leaving rfl (pi_enumB (by rfl) B.enumerate (pa_cons (pv 8) pa_nil)) (pg_tup rfl (pgs_cons (pg_name (i := 9) sc_House_hour.nd rfl (by first | exact Or.inl rfl | exact Or.inr rfl)) (pgs_cons (pg_name (i := 6) sc_House_hour.nd rfl (by first | exact Or.inl rfl | exact Or.inr rfl)) pgs_nil)))
      (pss_one (ps_if (pt_cmpR op_lt (pv 6) pe_int (nomark _)) (pss_one (ps_rsI rfl (L2N.takes_of rfl rfl rfl rfl) EI_Lacks (hr.mono (by decide)) (by rfl) (pv 9))) pss_nil)))
      (pss_cons (ps_for PassesOwn.leaving rfl (pi_zip2 (by rfl) B.zip (pa_cons (pv 1) (pa_cons (pv 3) pa_nil))) (pg_tup rfl (pgs_cons (pg_name (i := 6) sc_House_hour.nd rfl (by first | exact Or.inl rfl | exact Or.inr rfl)) (pgs_cons (pg_name (i := 7) sc_House_hour.nd rfl (by first | exact Or.inl rfl | exact Or.inr rfl)) pgs_nil)))
      (pss_one (ps_augS (pv 8) (pe_ix ix_tup (pe_ix ix_tup (pv 7) pe_int (fun _ _ => rfl)) pe_int (fun _ _ => rfl)) get_list (pv 6) ip_add set_list)))
      (pss_cons (ps_expr (pe_bm PySem.F.plainAttrs_list PySem.F.slot_list_append PySem.F.type_list_append mt_append (pe_fld (pv 0) rfl) (pa_cons (pe_callTy call_tuple_of (by rfl) B.tuple bt_tuple (pa_cons (pv 8) pa_nil)) pa_nil)))
      (pss_cons (ps_expr (pe_bm PySem.F.plainAttrs_list PySem.F.slot_list_append PySem.F.type_list_append mt_append (pe_fld (pv 0) rfl) (pa_cons (pv 1) pa_nil)))
      (pss_one (ps_ret (pe_callTy call_tuple_of (by rfl) B.tuple bt_tuple (pa_cons (pv 8) pa_nil)))))))))))))))), ?_⟩
    walk_at "go"
    rw [hpl]
    by_cases hov : Cs.length = d.T
    · rw [show decide ((Cs.length : Int) = (d.T : Int)) = true from decide_eq_true (by omega)]
      rw [hourA_over hov] at hz
      refine iteT ?_
      exact c_rs (hz _ (Same.refl _))
    have hnow : Cs.length < d.T := by omega
    rw [show decide ((Cs.length : Int) = (d.T : Int)) = false from decide_eq_false (by omega)]
    refine iteF ?_
    walk_at "go"
    refine ⟨true, aw, ds, rfl, S.day.seq, fun D nD => ?_⟩
    refine lc_it walk_enumB (fun j H1 => ∃ zs, Same H H1 ∧ H1 D = some (.lst zs) ∧ PrsAt K H1 zs (((enumF 0 d.ws).take j).filter fun p => decide (p.2.h = Cs.length))) ⟨[], Same.new nD, upd_same, .nil⟩ (fun j H1 _ ⟨_, e, _⟩ => e.tup S.day.seq) ?_ ?_
    · rintro j y H1 H2 hj ⟨zs, e1, hD, hzs⟩ ⟨T', x1, y1, rfl, nT, rfl, hx1, hy1⟩
      cases hx1
      obtain ⟨v, xw, hv, rfl, hvT⟩ := S.day.wks.get hy1
      have hen : (enumF 0 d.ws)[j]? = some (j, v) := by rw [enumF_get, hv]; simp
      have s2 := Same.new (o := .tup [V.int (j : Int), V.ref xw]) nT
      have hvT' : SqT K (upd H1 T' (.tup [V.int (j : Int), V.ref xw])) xw [.int (v.h : Int), .int (v.b : Int), .int (v.e : Int), .bl v.wet, .int (v.r : Int)] := (e1.trans s2).tup hvT
      have hD2 := s2 _ _ hD
      have hT2 : upd H1 T' (.tup [V.int (j : Int), V.ref xw]) T' = some (.tup [V.int (j : Int), V.ref xw]) := upd_same
      generalize upd H1 T' (.tup [V.int (j : Int), V.ref xw]) = H2 at s2 hvT' hD2 hT2 ⊢
      have hfl := List.length_filter_le (fun p : Nat × Wk => decide (p.2.h = Cs.length)) ((enumF 0 d.ws).take j)
      rw [List.length_take, enumF_length] at hfl
      have hzl := hzs.1
      rw [take_succ_get hen, List.filter_append]
      walk_at "go"
      dsimp only [L2.wipe, List.foldl, List.set]
      refine ⟨rfl, ?_⟩
      walk_at "go"
      refine ite2 (fun hq => ?_) (fun hq => ?_)
      · have hq' : v.h = Cs.length := by have := of_decide_eq_true hq; omega
        walk_at "go"
        refine ⟨szl (by simp), fun t nt => ?_⟩
        have s3 := Same.new (o := .tup [V.int (j : Int), V.ref xw]) nt
        have hD3 := s3 _ _ hD2
        have tm := Tx.mutL (o := .lst (zs ++ [V.ref t])) hD3
        refine ⟨_, hD3, szl' (by omega), _, (e1.trans (s2.trans s3)).mut nD, upd_same, ?_⟩
        have e : [(j, v)].filter (fun p => decide (p.2.h = Cs.length)) = [(j, v)] := by simp [hq']
        rw [e]
        exact ((hzs.tx (.of (s2.trans s3))).tx tm).snoc (tm.tup (SqT.of upd_same)) (tm.tup (s3.tup hvT'))
      · have hq' : ¬ v.h = Cs.length := fun z => hq (decide_eq_true (by omega))
        have e : [(j, v)].filter (fun p => decide (p.2.h = Cs.length)) = [] := by simp [hq']
        rw [e, List.append_nil]
        exact ⟨zs, e1.trans s2, hD2, hzs.tx (.of s2)⟩
    · rintro H1 ⟨zs, e1, hD, hzs⟩
      rw [List.take_of_length_le (by rw [enumF_length]; omega)] at hzs
      have hzs' : PrsAt K H1 zs (hwN d Cs.length) := hzs
      have hsnd := hwN_snd d Cs.length
      have hnl : (hwN d Cs.length).length ≤ 12 := Nat.le_trans (hwN_le d _) hWl
      have hev : ∀ w ∈ hw d Cs.length, w.b < d.P ∧ w.e < d.P := fun w hw' => ⟨S.dd.ok.b w (List.mem_filter.mp hw').1, S.dd.ok.e w (List.mem_filter.mp hw').1⟩
      have hzl := hzs'.1
      rcases hvc with ⟨rfl, hnt⟩ | ⟨ca, ys, rfl, rfl, hca, hys, hyl⟩
      · rw [hourA_none hov] at hz
        walk_at "go"
        refine isi_ntup (hnt.kp (.of e1)) ?_
        walk_at "go"
        refine iteT ?_
        refine iteT ?_
        exact c_rs (hz _ e1)
      have hca1 := e1.tup hca
      walk_at "go"
      refine isi_tup hca1 ?_
      walk_at "go"
      refine iteF ?_
      walk_at "go"
      by_cases hlen : ys.length ≠ (hwN d Cs.length).length
      · rw [hourA_no hov (fun z => hlen z.1)] at hz
        rw [show (!decide (((ys.length : Nat) : Int) = ((zs.length : Nat) : Int))) = true by simp; omega]
        refine iteT ?_
        exact c_rs (hz _ e1)
      replace hlen := Decidable.not_not.mp hlen
      rw [show (!decide (((ys.length : Nat) : Int) = ((zs.length : Nat) : Int))) = false by simp; omega]
      refine iteF ?_
      walk_at "go"
      refine ⟨true, false, ca, D, _, zs, rfl, hca1, SqL.of hD, fun D2 nD2 => ?_⟩
      refine lc_it (walk_zip2 (n := (hwN d Cs.length).length) hlen hzl) (fun j H2 => Same H1 H2 ∧ H2 D2 = some (.lst (((((hwN d Cs.length).zip ys).map okq).take j).map V.bl))) ⟨Same.new nD2, upd_same⟩ (fun j H2 _ h => ⟨h.1.tup hca1, h.1.lst (SqL.of hD)⟩) ?_ ?_
      · rintro j y H2 H3 hj ⟨e2, hD2⟩ ⟨T', x1, y1, rfl, nT, rfl, hx1, hy1⟩
        obtain ⟨n, v, t, x, hu, rfl, ht, hx⟩ := hzs'.get hy1
        have s3 := e2.trans (Same.new (o := .tup [x1, V.ref t]) nT)
        have ht3 := s3.tup ht
        have hx3 : SqT K (upd H2 T' (.tup [x1, V.ref t])) x [.int (v.h : Int), .int (v.b : Int), .int (v.e : Int), .bl v.wet, .int (v.r : Int)] := s3.tup hx
        have hzg : (((hwN d Cs.length).zip ys).map okq)[j]? = some (isFromV x1 0 (v.r : Int)) := by rw [List.getElem?_map, zip_get hu hx1]; rfl
        walk_at "go"
        dsimp only [L2.wipe, List.foldl, List.set]
        refine ⟨rfl, ?_⟩
        walk_at "go"
        refine iteT ?_
        walk_at "go"
        refine ⟨x1, 0, (v.r : Int), rfl, (hys x1 (List.mem_of_getElem? hx1)).kn, ?_⟩
        refine ⟨_, get_new hD2 nT, szl' (by simp; omega), s3.mut nD2, ?_⟩
        rw [upd_same, take_succ_get hzg]
        simp
      · rintro H2 ⟨e2, hD2⟩
        rw [List.take_of_length_le (by rw [List.length_map, List.length_zip]; omega)] at hD2
        walk_at "go"
        refine c_all (SqL.of hD2) ?_
        rw [show ((((hwN d Cs.length).zip ys).map okq).all id) = okC (hwN d Cs.length) ys by unfold okC; rw [List.all_map]; rfl]
        have e12 := e1.trans e2
        cases hok : okC (hwN d Cs.length) ys with
        | false =>
          rw [hourA_no hov (fun z => by rw [hok] at z; cases z.2)] at hz
          refine c_bl ?_
          refine iteT ?_
          exact c_rs (hz _ e12)
        | true =>
        refine c_bl ?_
        refine iteF ?_
        have hyi := okC_ints hlen hok
        obtain ⟨cs, hcs0⟩ : ∃ cs, ys = vI cs := ⟨_, hyi⟩
        subst hcs0
        clear hyi hys
        rw [List.length_map] at hlen
        have hcl := hlen
        have hcs : ∀ (i : Nat) (w : Wk) (c : Int), ((hwN d Cs.length).map (·.2))[i]? = some w → cs[i]? = some c → 0 ≤ c ∧ c ≤ (w.r : Int) := fun i w c h1 h2 => by
          rw [List.getElem?_map] at h1
          obtain ⟨⟨n, w'⟩, h3, h4⟩ := Option.map_eq_some_iff.mp h1
          subst h4
          exact okC_at hok h3 h2
        have hca2 := e2.tup hca1
        have hDz := e2 _ _ hD
        have hzs2 := hzs'.tx (.of e2)
        have hlvd : leaveH d Cs.length R cs = (((hwN d Cs.length).map (·.2)).zip cs).foldl leave1 R := by unfold leaveH; rw [hsnd]
        have hhrd : hourH d Cs.length R cs = (((hwN d Cs.length).map (·.2)).zip cs).foldl come1 (leaveH d Cs.length R cs) := by unfold hourH; rw [hsnd]
        rw [← hsnd] at hev
        have hS1 := fun (n : Nat) (r : List Nat) => hourA_soak (d := d) (t := Cs.length) (R := R) (n := n) (r := r) hov hcl hok
        have hS2 := fun (n : Nat) (r : List Nat) => hourA_lack (d := d) (t := Cs.length) (R := R) (n := n) (r := r) hov hcl hok
        have hS3 := hourA_of (d := d) (t := Cs.length) (R := R) hov hcl hok
        clear hD2 hzs' hca1 hD e1 e2 hzs hsnd hok
        generalize hwN d Cs.length = us at hcl hcs hzs2 hlvd hhrd hev hS1 hS2 hS3 hnl hzl
        walk_at "go"
        refine ⟨true, false, ca, D, _, zs, rfl, hca2, SqL.of hDz, ?_⟩
        refine for_it (walk_zip2 (n := us.length) (by rw [List.length_map]; exact hcl) hzl) (fun j σ' H3 => ∃ v6 v7, σ' = [some (.ref h), some (.ref ca), some (.int (Cs.length : Int)), some (.ref D), none, none, v6, v7, none, none] ∧ Same H2 H3 ∧ ((us.zip cs).take j).filter skq = []) ⟨_, _, rfl, Same.refl _, rfl⟩ (fun j σ' H3 _ ⟨_, _, _, e, _⟩ => ⟨e.tup hca2, e.lst (SqL.of hDz)⟩) ?_ ?_
        · rintro j y σ' H3 H4 hj ⟨v6, v7, rfl, e3, hnone⟩ ⟨T', x1, y1, rfl, nT, rfl, hx1, hy1⟩
          obtain ⟨c, hc, rfl⟩ := vI_inv hx1
          obtain ⟨n, v, t, x, hu, rfl, ht, hx⟩ := hzs2.get hy1
          have s3 := e3.trans (Same.new (o := .tup [V.int c, V.ref t]) nT)
          have ht3 := s3.tup ht
          have hx3 : SqT K (upd H3 T' (.tup [V.int c, V.ref t])) x [.int (v.h : Int), .int (v.b : Int), .int (v.e : Int), .bl v.wet, .int (v.r : Int)] := s3.tup hx
          have hzg := zip_get hu hc
          walk_at "go"
          cases hwet : v.wet with
          | true =>
            refine iteT ?_
            walk_at "go"
            by_cases hc0 : c = 0
            · rw [show decide (c = 0) = true from decide_eq_true hc0]
              refine iteT ?_
              obtain ⟨r, hr0⟩ := filt_head (p := skq) hzg (show (v.wet && decide (c = 0)) = true by rw [hwet, decide_eq_true hc0]; rfl) hnone
              have hso : soaks us cs = n :: r.map (·.1.1) := by unfold soaks; rw [hr0]; rfl
              rw [hS1 n _ hso] at hz
              refine c_rsI ?_
              walk_at "go"
              exact rs_pair hz (e12.trans s3) (by decide)
            · rw [show decide (c = 0) = false from decide_eq_false hc0]
              refine iteF ?_
              walk_at "go"
              exact ⟨_, _, rfl, s3, filt_next hzg (show (v.wet && decide (c = 0)) = false by rw [decide_eq_false hc0]; exact Bool.and_false _) hnone⟩
          | false =>
            refine iteF ?_
            refine iteF ?_
            walk_at "go"
            exact ⟨_, _, rfl, s3, filt_next hzg (show (v.wet && decide (c = 0)) = false by rw [hwet]; rfl) hnone⟩
        · rintro σ' H3 ⟨v6, v7, rfl, e3, hnone⟩
          rw [List.take_of_length_le (by rw [List.length_zip]; omega)] at hnone
          have hS0 : soaks us cs = [] := by unfold soaks; rw [hnone]; rfl
          have e03 := e12.trans e3
          have hin3 := e03 _ _ hin
          have hro3 := e03 _ _ hro
          have hca3 := e3.tup hca2
          have hDz3 := e3 _ _ hDz
          have hzs3 := hzs2.tx (.of e3)
          have hxR3 : SqT K H3 xr (vI R) := e03.tup (show SqT K H xr (vI R) from hxR)
          clear hca2 hDz hzs2 e12 e3
          walk_at "go"
          refine c_ixL (SqL.of hro3) (atLast (by rw [hrl, Nat.add_sub_cancel]; exact hxr)) ?_
          walk_at "go"
          intro L nL
          have s4 := Same.new (o := .lst (vI R)) nL
          have hL4 : upd H3 L (.lst (vI R)) L = some (.lst (vI R)) := upd_same
          have nDL : D ≠ L := (ne_had hDz3 nL).symm
          have nL0 : H L = none := none_back e03 nL
          generalize upd H3 L (.lst (vI R)) = H4 at s4 hL4 ⊢
          have hca4 := s4.tup hca3
          have hDz4 := s4 _ _ hDz3
          have hzs4 := hzs3.tx (.of s4)
          have e04 := e03.trans s4
          clear hca3 hDz3 hzs3 s4 hxR3 nL hin3 hro3
          walk_at "go"
          refine ⟨true, false, ca, D, _, zs, rfl, hca4, SqL.of hDz4, ?_⟩
          refine for_it (walk_zip2 (n := us.length) (by rw [List.length_map]; exact hcl) hzl) (fun j σ' H5 => ∃ v6 v7, σ' = [some (.ref h), some (.ref ca), some (.int (Cs.length : Int)), some (.ref D), none, none, v6, v7, some (.ref L), none] ∧ Same H H5 ∧ Tx H4 H5 ∧ H5 D = some (.lst zs) ∧ H5 L = some (.lst (vI (((us.map (·.2)).zip cs).take j |>.foldl leave1 R)))) ⟨_, _, rfl, e04, Tx.refl _, hDz4, hL4⟩ (fun j σ' H5 _ ⟨_, _, _, _, t, hDD, _⟩ => ⟨t.tup hca4, SqL.of hDD⟩) ?_ ?_
          · rintro j y σ' H5 H6 hj ⟨v6, v7, rfl, e5, t5, hD5, hL5⟩ ⟨T', x1, y1, rfl, nT, rfl, hx1, hy1⟩
            obtain ⟨c, hc, rfl⟩ := vI_inv hx1
            obtain ⟨n, v, t, x, hu, rfl, ht, hx⟩ := hzs4.get hy1
            have s6 := Same.new (o := .tup [V.int c, V.ref t]) nT
            have t6 := t5.trans (.of s6)
            have ht6 := t6.tup ht
            have hx6 : SqT K (upd H5 T' (.tup [V.int c, V.ref t])) x [.int (v.h : Int), .int (v.b : Int), .int (v.e : Int), .bl v.wet, .int (v.r : Int)] := t6.tup hx
            have hL6 := s6 _ _ hL5
            have hD6 := s6 _ _ hD5
            have e6 := e5.trans s6
            have hT6 : upd H5 T' (.tup [V.int c, V.ref t]) T' = some (.tup [V.int c, V.ref t]) := upd_same
            generalize upd H5 T' (.tup [V.int c, V.ref t]) = H6 at s6 t6 ht6 hx6 hL6 hD6 e6 hT6 ⊢
            have hum : (us.map (·.2))[j]? = some v := by rw [List.getElem?_map, hu]; rfl
            have hvb := (hev v (List.mem_of_getElem? hum)).1
            have hll := fold_len leave1_len (((us.map (·.2)).zip cs).take j) R
            rw [take_succ_get (zip_get hum hc), List.foldl_append]
            generalize (((us.map (·.2)).zip cs).take j).foldl leave1 R = l at hL6 hll ⊢
            have b0 : v.b < l.length := by omega
            have g1 := vI_get b0
            have j1 : ixN (vI l).length (v.b : Int) = some v.b := ixN_nat (by simpa using b0)
            walk_at "go"
            refine ⟨_, _, rfl, e6.mut nL0, t6.trans (.mutL hL6), get_mut nDL hD6, ?_⟩
            rw [upd_same, vI_set]
            show some (HO.lst (vI (l.set v.b (l.getD v.b 0 - c)))) = some (.lst (vI (addAt l v.b (-c))))
            unfold addAt
            rw [Int.sub_eq_add_neg]
          · rintro σ' H5 ⟨v6, v7, rfl, e5, t5, hD5, hL5⟩
            rw [List.take_of_length_le (by rw [List.length_zip, List.length_map]; omega), ← hlvd] at hL5
            have hll : (leaveH d Cs.length R cs).length = d.P := by rw [leaveH_len, lR]
            have hPm := S.dd.PM
            have hS2 := fun (n : Nat) (r : List Nat) => hS2 n r hS0
            have hS3 := hS3 hS0
            generalize leaveH d Cs.length R cs = l at hL5 hhrd hll hS2 hS3
            walk_at "go"
            refine ⟨false, L, vI l, rfl, SqL.of hL5, ?_⟩
            refine for_it walk_enumB (fun j σ' H6 => ∃ v6 v9, σ' = [some (.ref h), some (.ref ca), some (.int (Cs.length : Int)), some (.ref D), none, none, v6, v7, some (.ref L), v9] ∧ Same H5 H6 ∧ ((List.range l.length).take j).filter (lkq l) = []) ⟨_, _, rfl, Same.refl _, rfl⟩ (fun j σ' H6 _ ⟨_, _, _, e, _⟩ => e.lst (SqL.of hL5)) ?_ ?_
            · rintro j y σ' H6 H7 hj ⟨w6, v9, rfl, e6, hnone6⟩ ⟨T', x1, y1, rfl, nT, rfl, hx1, hy1⟩
              cases hx1
              obtain ⟨n1, f1, rfl⟩ := vI_inv hy1
              have hjl : j < l.length := (List.getElem?_eq_some_iff.mp f1).1
              have hrg : (List.range l.length)[j]? = some j := by rw [List.getElem?_range hjl]
              have hlk : lkq l j = decide (n1 < 0) := by unfold lkq; rw [getD_of f1]
              walk_at "go"
              by_cases hn1 : n1 < 0
              · rw [show decide (n1 < 0) = true from decide_eq_true hn1]
                refine iteT ?_
                obtain ⟨r, hr0⟩ := filt_head (p := lkq l) hrg (by rw [hlk]; exact decide_eq_true hn1) hnone6
                rw [hS2 j r hr0] at hz
                refine c_rsI ?_
                walk_at "go"
                exact rs_pair hz (e5.trans (e6.trans (Same.new nT))) (by decide)
              · rw [show decide (n1 < 0) = false from decide_eq_false hn1]
                refine iteF ?_
                walk_at "go"
                exact ⟨_, _, rfl, e6.trans (Same.new nT), filt_next hrg (by rw [hlk]; exact decide_eq_false hn1) hnone6⟩
            · rintro σ' H6 ⟨w6, v9, rfl, e6, hnone6⟩
              rw [List.take_of_length_le (by rw [List.length_range, List.length_map]; exact Nat.le_refl _)] at hnone6
              have hlv := lacks_nil (l := l) hnone6
              have hS3 := hS3 hnone6
              have t6 := t5.trans (.of e6)
              have e06 := e5.trans e6
              have hD6 := e6 _ _ hD5
              have hL6 := e6 _ _ hL5
              have hca6 := t6.tup hca4
              have hzs6 := hzs4.tx t6
              clear e5 e6 t5 t6 hD5 hL5 hzs4 hca4 hDz4 hL4 e04 e03
              walk_at "go"
              refine ⟨true, false, ca, D, _, zs, rfl, hca6, SqL.of hD6, ?_⟩
              refine for_it (walk_zip2 (n := us.length) (by rw [List.length_map]; exact hcl) hzl) (fun j σ' H7 => ∃ v6 v7, σ' = [some (.ref h), some (.ref ca), some (.int (Cs.length : Int)), some (.ref D), none, none, v6, v7, some (.ref L), v9] ∧ Same H H7 ∧ Tx H6 H7 ∧ H7 D = some (.lst zs) ∧ H7 L = some (.lst (vI (((us.map (·.2)).zip cs).take j |>.foldl come1 l)))) ⟨_, _, rfl, e06, Tx.refl _, hD6, hL6⟩ (fun j σ' H7 _ ⟨_, _, _, _, t, hDD, _⟩ => ⟨t.tup hca6, SqL.of hDD⟩) ?_ ?_
              · rintro j y σ' H7 H8 hj ⟨w6, w7, rfl, e7, t7, hD7, hL7⟩ ⟨T', x1, y1, rfl, nT, rfl, hx1, hy1⟩
                obtain ⟨c, hc, rfl⟩ := vI_inv hx1
                obtain ⟨n, v, t, x, hu, rfl, ht, hx⟩ := hzs6.get hy1
                have s8 := Same.new (o := .tup [V.int c, V.ref t]) nT
                have t8 := t7.trans (.of s8)
                have ht8 := t8.tup ht
                have hx8 : SqT K (upd H7 T' (.tup [V.int c, V.ref t])) x [.int (v.h : Int), .int (v.b : Int), .int (v.e : Int), .bl v.wet, .int (v.r : Int)] := t8.tup hx
                have hL8 := s8 _ _ hL7
                have hD8 := s8 _ _ hD7
                have e8 := e7.trans s8
                have hT8 : upd H7 T' (.tup [V.int c, V.ref t]) T' = some (.tup [V.int c, V.ref t]) := upd_same
                generalize upd H7 T' (.tup [V.int c, V.ref t]) = H8 at s8 t8 ht8 hx8 hL8 hD8 e8 hT8 ⊢
                have hum : (us.map (·.2))[j]? = some v := by rw [List.getElem?_map, hu]; rfl
                have hve := (hev v (List.mem_of_getElem? hum)).2
                have hll' := fold_len come1_len (((us.map (·.2)).zip cs).take j) l
                rw [take_succ_get (zip_get hum hc), List.foldl_append]
                generalize (((us.map (·.2)).zip cs).take j).foldl come1 l = l' at hL8 hll' ⊢
                have b0 : v.e < l'.length := by omega
                have g1 := vI_get b0
                have j1 : ixN (vI l').length (v.e : Int) = some v.e := ixN_nat (by simpa using b0)
                walk_at "go"
                refine ⟨_, _, rfl, e8.mut nL0, t8.trans (.mutL hL8), get_mut nDL hD8, ?_⟩
                rw [upd_same, vI_set]
                rfl
              · rintro σ' H7 ⟨w6, w7, rfl, e7, t7, hD7, hL7⟩
                have hcnn : ∀ q ∈ (us.map (·.2)).zip cs, 0 ≤ q.2 := fun q hq => by
                  obtain ⟨i, hi, rfl⟩ := List.getElem_of_mem hq
                  have h1 := List.getElem?_eq_getElem hi
                  rw [List.length_zip] at hi
                  have h2 : (us.map (·.2))[i]? = some ((us.map (·.2))[i]'(by omega)) := List.getElem?_eq_getElem _
                  have h3 : cs[i]? = some (cs[i]'(by omega)) := List.getElem?_eq_getElem _
                  have := (hcs i _ _ h2 h3).1
                  simpa using this
                have hnn := come_nn ((us.map (·.2)).zip cs) l hlv hcnn
                have hnl := fold_len come1_len ((us.map (·.2)).zip cs) l
                rw [List.take_of_length_le (by rw [List.length_zip, List.length_map]; omega), ← hhrd] at hL7
                rw [← hhrd] at hnn hnl
                generalize hourH d Cs.length R cs = new at hL7 hnn hnl hS3
                have hin7 := e7 _ _ hin
                have hro7 := e7 _ _ hro
                have hpa7 := e7 _ _ hpa
                have nLr : L ≠ ro := ne_had hro nL0
                have nLp : L ≠ pa := ne_had hpa nL0
                clear hD7 hL6 hD6 hca6 hzs6 t7 e06
                walk_at "go"
                intro t1 nt1
                have s8 := Same.new (o := .tup (vI new)) nt1
                have ht1 : SqT K (upd H7 t1 (.tup (vI new))) t1 (vI new) := SqT.of upd_same
                have hin8 := s8 _ _ hin7
                have hro8 := s8 _ _ hro7
                have hpa8 := s8 _ _ hpa7
                have hL8 := s8 _ _ hL7
                have e8 := e7.trans s8
                generalize upd H7 t1 (.tup (vI new)) = H8 at s8 ht1 hin8 hro8 hpa8 hL8 e8 ⊢
                walk_at "go"
                refine c_app hro8 (szl' (by omega)) ?_
                have nhr : h ≠ ro := fun z => by rw [z, hro] at hin; cases hin
                have nhp : h ≠ pa := fun z => by rw [z, hpa] at hin; cases hin
                have m9 : Mh ro pa H (upd H8 ro (.lst (rs ++ [V.ref t1]))) := fun b o hb n _ => by rw [upd_ne n]; exact e8 b o hb
                have t89 : Tx H8 (upd H8 ro (.lst (rs ++ [V.ref t1]))) := Tx.mutL hro8
                have hin9 : upd H8 ro (.lst (rs ++ [V.ref t1])) h = _ := get_mut nhr hin8
                have hpa9 : upd H8 ro (.lst (rs ++ [V.ref t1])) pa = _ := get_mut S.ne.symm hpa8
                have hL9 : upd H8 ro (.lst (rs ++ [V.ref t1])) L = _ := get_mut nLr hL8
                have hro9 : upd H8 ro (.lst (rs ++ [V.ref t1])) ro = some (.lst (rs ++ [V.ref t1])) := upd_same
                generalize upd H8 ro (.lst (rs ++ [V.ref t1])) = H9 at m9 t89 hin9 hpa9 hL9 hro9 ⊢
                walk_at "go"
                refine c_app hpa9 (szl' (by omega)) ?_
                have m10 : Mh ro pa H (upd H9 pa (.lst (ps ++ [V.ref ca]))) := fun b o hb n n2 => by rw [upd_ne n2]; exact m9 b o hb n n2
                have t910 : Tx H9 (upd H9 pa (.lst (ps ++ [V.ref ca]))) := Tx.mutL hpa9
                have hin10 : upd H9 pa (.lst (ps ++ [V.ref ca])) h = _ := get_mut nhp hin9
                have hro10 : upd H9 pa (.lst (ps ++ [V.ref ca])) ro = _ := get_mut S.ne hro9
                have hL10 : upd H9 pa (.lst (ps ++ [V.ref ca])) L = _ := get_mut nLp hL9
                have hpa10 : upd H9 pa (.lst (ps ++ [V.ref ca])) pa = some (.lst (ps ++ [V.ref ca])) := upd_same
                generalize upd H9 pa (.lst (ps ++ [V.ref ca])) = H10 at m10 t910 hin10 hro10 hL10 hpa10 ⊢
                walk_at "go"
                intro t2 nt2
                have s11 := Same.new (o := .tup (vI new)) nt2
                have m11 := m10.trans (.of s11)
                have tAll := S.tx m11
                have t811 := t89.trans (t910.trans (.of s11))
                refine k cs new _ t2 hS3 rfl m11 ⟨s11 _ _ hin10, S.ne, ⟨_, _, s11 _ _ hro10, s11 _ _ hpa10, ?_, ?_⟩, S.day.tx tAll, S.dd, by simp [S.len], by rw [List.length_append]; exact hnow, fun R' hR' => ?_⟩ (SqT.of upd_same)
                · rw [List.map_append]
                  exact (hrs.tx tAll).snoc (show SqB K true _ _ _ from t811.tup ht1)
                · rw [List.map_append]
                  exact (hps.tx tAll).snoc (show SqB K true _ _ _ from tAll.tup hca)
                · rcases List.mem_append.mp hR' with hR' | hR'
                  · exact S.row R' hR'
                  · obtain rfl := List.mem_singleton.mp hR'
                    exact ⟨by omega, hnn⟩
end
section
variable {P : Program} {w : World} {K : PySem.W.Frag} {mg : Str → Option Value} {base : Heap}
def spBackX (K : PySem.W.Frag) (C : Addr) : Sp := fun vs H Q E => ∃ (h dx ad aw ro pa : Addr) (ds : List V) (d : Day) (Rs Cs : List (List Int)), vs = [.ref h] ∧ HouS K C H h dx ad aw ro pa ds d Rs Cs ∧
  (Cs = [] → ∀ H', Same H H' → E (.ref (gE K "NothingLeft")) none H') ∧
  (Cs ≠ [] → ∀ (H' : Hp), Mh ro pa H H' → HouS K C H' h dx ad aw ro pa ds d Rs.dropLast Cs.dropLast → Q .non H')
theorem mf_backX (CH : Addr) (TH : CtxH K CH) (Er : Ers K mg) (B : Bl mg) (F : HasM K CH "back" "House.back" s_House_back) : MfX P w K mg base CH "back" 1 ["self"] (spBackX K CH) := by
  refine mfx_of F sc_House_back (fun _ _ _ _ _ _ us hl => match us, hl with | [_], _ => rfl) (fun vs H Q E h => ?_) (fun f cdv A outer s H vs Q E hr h => ?_)
  · obtain ⟨h, dx, ad, aw, ro, pa, ds, d, Rs, Cs, rfl, _⟩ := h
    rfl
  · obtain ⟨h, dx, ad, aw, ro, pa, ds, d, Rs0, Cs0, rfl, S, k0, k⟩ := h
    refine ⟨(tSeq (tIfS (tNot (fun σ H Q => (tFld K (tVar 0) "past") σ H fun x H' => ∃ k, TruV K x H' k ∧ Q k H')) (tRs (gE K "NothingLeft") E) tNext) (tSeq (tDrop (tBM0 K "list" rPop (tFld K (tVar 0) "rows"))) (tDrop (tBM0 K "list" rPop (tFld K (tVar 0) "past"))))),
      (pss_cons (ps_if (pt_not (pt_truth (pe_fld (pv 0) rfl) (by intro _; rfl))) (pss_one (ps_rs rfl (L2N.takes_of rfl rfl rfl rfl) (Er.six "NothingLeft" (by decide)) (by rfl))) pss_nil)
      (pss_cons (ps_expr (pe_bm0 PySem.F.plainAttrs_list PySem.F.slot_list_pop PySem.F.type_list_pop mt_pop (pe_fld (pv 0) rfl)))
      (pss_one (ps_expr (pe_bm0 PySem.F.plainAttrs_list PySem.F.slot_list_pop PySem.F.type_list_pop mt_pop (pe_fld (pv 0) rfl)))))), ?_⟩
    by_cases hC : Cs0 = []
    · obtain ⟨rs, ps, hro, hpa, hrs, hps⟩ := S.ex
      have hin := S.ins
      have hpl := hps.len
      rw [hC] at hpl
      walk_at "go"
      refine ⟨false, .inl ⟨ps, SqL.of hpa, ?_⟩, ?_⟩
      · cases ps with
        | nil => rfl
        | cons _ _ => simp at hpl
      refine iteT ?_
      exact c_rs (k0 hC _ (Same.refl _))
    obtain ⟨Cs, cs, rfl⟩ : ∃ Cs cs, Cs0 = Cs ++ [cs] := ⟨Cs0.dropLast, Cs0.getLast hC, (List.dropLast_concat_getLast hC).symm⟩
    have hR0 : Rs0 ≠ [] := fun z => by have := S.len; rw [z] at this; simp at this
    obtain ⟨Rs, R, rfl⟩ : ∃ Rs R, Rs0 = Rs ++ [R] := ⟨Rs0.dropLast, Rs0.getLast hR0, (List.dropLast_concat_getLast hR0).symm⟩
    replace k := k hC
    rw [List.dropLast_concat, List.dropLast_concat] at k
    obtain ⟨rs, ps, hro, hpa, hrs, hps⟩ := S.ex
    have hin := S.ins
    rw [List.map_append] at hrs hps
    have hrl := hrs.len
    have hpl := hps.len
    have hne := S.ne
    have hlen := S.len
    simp only [List.length_append, List.length_map, List.length_cons, List.length_nil] at hrl hpl hlen
    have hcap := S.cap
    rw [List.length_append, List.length_singleton] at hcap
    walk_at "go"
    refine ⟨true, .inl ⟨ps, SqL.of hpa, ?_⟩, ?_⟩
    · cases ps with
      | nil => simp at hpl
      | cons _ _ => rfl
    refine iteF ?_
    walk_at "go"
    have nhr : h ≠ ro := fun z => by rw [z, hro] at hin; cases hin
    refine ⟨ro, rs, rs[rs.length - 1]'(by omega), rfl, rfl, hro, List.getElem?_eq_getElem _, ?_⟩
    have hin1 : upd H ro (.lst rs.dropLast) h = _ := get_mut nhr hin
    have hpa1 : upd H ro (.lst rs.dropLast) pa = _ := get_mut hne.symm hpa
    have t1 : Tx H (upd H ro (.lst rs.dropLast)) := Tx.mutL hro
    have m1 : Mh ro pa H (upd H ro (.lst rs.dropLast)) := fun b o hb n _ => by rw [upd_ne n]; exact hb
    have hro1 : upd H ro (.lst rs.dropLast) ro = some (.lst rs.dropLast) := upd_same
    generalize upd H ro (.lst rs.dropLast) = H1 at hin1 hpa1 t1 m1 hro1 ⊢
    walk_at "go"
    have nhp : h ≠ pa := fun z => by rw [z, hpa] at hin; cases hin
    refine ⟨pa, ps, ps[ps.length - 1]'(by omega), rfl, rfl, hpa1, List.getElem?_eq_getElem _, ?_⟩
    have hin2 : upd H1 pa (.lst ps.dropLast) h = _ := get_mut nhp hin1
    have hro2 : upd H1 pa (.lst ps.dropLast) ro = _ := get_mut hne hro1
    have t2 : Tx H (upd H1 pa (.lst ps.dropLast)) := t1.trans (Tx.mutL hpa1)
    have m2 : Mh ro pa H (upd H1 pa (.lst ps.dropLast)) := fun b o hb n n2 => by rw [upd_ne n2]; exact m1 b o hb n n2
    exact k _ m2 ⟨hin2, hne, ⟨_, _, hro2, upd_same, refs_init (hrs.tx t2), refs_init (hps.tx t2)⟩, S.day.tx t2, S.dd, by omega, by omega, fun R' hR' => S.row R' (by simp [hR'])⟩
def spStayX (K : PySem.W.Frag) (C : Addr) : Sp := fun vs H Q E => ∃ (h dx ad aw ro pa : Addr) (v : V) (o : Option (List V)) (ds : List V) (d : Day) (Rs Cs : List (List Int)), vs = [.ref h, v] ∧ HouS K C H h dx ad aw ro pa ds d Rs Cs ∧ TV K H v o ∧ Rz K E H (askA d Cs.length (lastR Rs) o) ∧
  ∀ b H', askA d Cs.length (lastR Rs) o = .bl b → Same H H' → Q (.bl b) H'
theorem mf_stayX (CH : Addr) (TH : CtxH K CH) (Er : Ers K mg) (B : Bl mg) (D_are_numbers : Df P w K mg base "are_numbers" 3 ["day", "thing"] (spAreNumbers K)) (D_verdict : Df P w K mg base "verdict" 8 ["day", "starts", "wanted"] (spVerdict K)) (F : HasM K CH "can_stay_dry" "House.can_stay_dry" s_House_can_stay_dry) : MfX P w K mg base CH "can_stay_dry" 9 ["self", "wanted"] (spStayX K CH) := by
  refine mfx_of F sc_House_can_stay_dry (fun _ _ _ _ _ _ us hl => match us, hl with | [_, _], _ => rfl) (fun vs H Q E h => ?_) (fun f cdv A outer s H vs Q E hr h => ?_)
  · obtain ⟨h, dx, ad, aw, ro, pa, v, o, ds, d, Rs, Cs, rfl, _⟩ := h
    rfl
  · obtain ⟨h, dx, ad, aw, ro, pa, v, o, ds, d, Rs, Cs, rfl, S, hv, hz, k⟩ := h
    obtain ⟨rs, ps, hro, hpa, hrs, hps⟩ := S.ex
    have hin := S.ins
    have hday := S.day.day
    have hPm := S.dd.PM
    have hTm := S.dd.TM
    have hWl := S.dd.W
    have hwl := S.day.wks.len
    have hcap := S.cap
    have hrl : rs.length = Cs.length + 1 := by rw [hrs.len, List.length_map, S.len]
    have hpl : ps.length = Cs.length := by rw [hps.len, List.length_map]
    have hRl : Rs.length = Cs.length + 1 := S.len
    obtain ⟨R, hR⟩ : ∃ R, Rs[Cs.length]? = some R := ⟨Rs[Cs.length], List.getElem?_eq_getElem (by omega)⟩
    have hlr : lastR Rs = R := by
      unfold lastR
      rw [hRl, Nat.add_sub_cancel, List.getD_eq_getElem?_getD, hR]
      rfl
    obtain ⟨lR, nR⟩ := S.row R (List.mem_of_getElem? hR)
    obtain ⟨xr, hxr, hxR⟩ := hrs.at_ Cs.length (vI R) (by rw [List.getElem?_map, hR]; rfl)
    rw [hlr] at k hz
    refine ⟨(tSeq (tIfS (tNot (tB (tCall (spAreNumbers K) [] E0 (tCons (tFld K (tVar 0) "day") (tCons (tVar 1) tNil))))) (tRs (gE K "NoWanted") E) tNext) (tSeq (tAsg (tFld K (tVar 0) "day") (gTup K 3 (gCons (gName 2) (gCons (gName 3) (gCons (gName 4) gNil))))) (tSeq (tAsg (tCB (rLenS K) (tCons (tFld K (tVar 0) "past") tNil)) (gName 5)) (tSeq (tIfS (tTest (tOp rEq (tVar 5) (tVar 3))) (tRet (tCB (rAll K) (tCons (tLc (iZip2 K (tCons (tOp (rIxL K) (tFld K (tVar 0) "rows") (tUn (rU fun i => .int (-i)) (tC (.int 1)))) (tCons (tVar 1) tNil))) (gTup K 2 (gCons (gName 6) (gCons (gName 7) gNil))) tYes (tOp (rI0 fun i j => .bl (decide (j ≤ i))) (tVar 6) (tVar 7)) [6, 7]) tNil))) tNext) (tSeq (tAsg (tCB (rTupOf K) (tCons (tLc (iTup K (tVar 4)) (gName 9) (tTest (tOp (rI0 fun i j => .bl (decide (j ≤ i))) (tOp (rIxT K) (tVar 9) (tC (.int 0))) (tVar 5))) (tOp (rCatA K) (tTup (tCons (tOp (rI0 fun i j => .int (i - j)) (tOp (rIxT K) (tVar 9) (tC (.int 0))) (tVar 5)) tNil)) (tSl (rSlA K) (tVar 9) (tPart (tC (.int 1))) tNoPart)) [9]) tNil)) (gName 8)) (tRet (tOp rEq (tOp (rIxT K) (tCall (spVerdict K) [] E0 (tCons (tTup (tCons (tVar 2) (tCons (tOp (rI0 fun i j => .int (i - j)) (tVar 3) (tVar 5)) (tCons (tVar 8) tNil)))) (tCons (tOp (rIxL K) (tFld K (tVar 0) "rows") (tUn (rU fun i => .int (-i)) (tC (.int 1)))) (tCons (tVar 1) tNil)))) (tC (.int 0))) (tC (.str "dry"))))))))),
      (pss_cons (ps_if (pt_not (pt_val (pe_df D_are_numbers (hr.mono (by decide)) (by rfl) (pa_cons (pe_fld (pv 0) rfl) (pa_cons (pv 1) pa_nil))))) (pss_one (ps_rs rfl (L2N.takes_of rfl rfl rfl rfl) (Er.six "NoWanted" (by decide)) (by rfl))) pss_nil)
      (pss_cons (ps_asg (pe_fld (pv 0) rfl) (pg_tup rfl (pgs_cons (pg_name (i := 2) sc_House_can_stay_dry.nd rfl (by first | exact Or.inl rfl | exact Or.inr rfl)) (pgs_cons (pg_name (i := 3) sc_House_can_stay_dry.nd rfl (by first | exact Or.inl rfl | exact Or.inr rfl)) (pgs_cons (pg_name (i := 4) sc_House_can_stay_dry.nd rfl (by first | exact Or.inl rfl | exact Or.inr rfl)) pgs_nil)))))
      (pss_cons (ps_set (i := 5) sc_House_can_stay_dry.nd rfl (by first | exact Or.inl rfl | exact Or.inr rfl) (pe_callB call_len_seq (by rfl) B.len bt_len (pa_cons (pe_fld (pv 0) rfl) pa_nil)))
      (pss_cons (ps_if (pt_cmpR op_eq (pv 5) (pv 3) (nomark _)) (pss_one (ps_ret (pe_callB (cr_all rfl) (by rfl) B.all bt_all (pa_cons (pe_lc (own := [("stands", 6), ("least", 7)]) (g := (gTup K 2 (gCons (gName 6) (gCons (gName 7) gNil)))) (tt := tYes) (te := (tOp (rI0 fun i j => .bl (decide (j ≤ i))) (tVar 6) (tVar 7))) rfl sc_House_can_stay_dry.nd (pi_zip2 (by rfl) B.zip (pa_cons (pe_ix ix_list (pe_fld (pv 0) rfl) (pe_un un_neg pe_int) (fun _ _ => rfl)) (pa_cons (pv 1) pa_nil))) (blkOk_by (own := [("stands", 6), ("least", 7)]) (N := ["self", "wanted", "places", "hours", "walks", "now", "stands", "least", "left", "walk"]) (sc := defScope s_House_can_stay_dry) (by decide +kernel)) (fun _ _ _ _ _ => (pg_tup rfl (pgs_cons (pg_name (i := 6) sc_House_can_stay_dry.nd rfl (by first | exact Or.inl rfl | exact Or.inr rfl)) (pgs_cons (pg_name (i := 7) sc_House_can_stay_dry.nd rfl (by first | exact Or.inl rfl | exact Or.inr rfl)) pgs_nil)))) (fun _ _ _ _ _ => pts_nil) (fun _ _ _ _ _ => (pe_cmpR op_ge (pv 6) (pv 7) (nomark _)))) pa_nil)))) pss_nil)
      (pss_cons (ps_set (i := 8) sc_House_can_stay_dry.nd rfl (by first | exact Or.inl rfl | exact Or.inr rfl) (pe_callTy call_tuple_of (by rfl) B.tuple bt_tuple (pa_cons (pe_lc (own := [("walk", 9)]) (g := (gName 9)) (tt := (tTest (tOp (rI0 fun i j => .bl (decide (j ≤ i))) (tOp (rIxT K) (tVar 9) (tC (.int 0))) (tVar 5)))) (te := (tOp (rCatA K) (tTup (tCons (tOp (rI0 fun i j => .int (i - j)) (tOp (rIxT K) (tVar 9) (tC (.int 0))) (tVar 5)) tNil)) (tSl (rSlA K) (tVar 9) (tPart (tC (.int 1))) tNoPart))) rfl sc_House_can_stay_dry.nd (pi_tup (pv 4)) (blkOk_by (own := [("walk", 9)]) (N := ["self", "wanted", "places", "hours", "walks", "now", "stands", "least", "left", "walk"]) (sc := defScope s_House_can_stay_dry) (by decide +kernel)) (fun _ _ _ _ _ => (pg_name (i := 9) sc_House_can_stay_dry.nd rfl (by first | exact Or.inl rfl | exact Or.inr rfl))) (fun _ _ _ _ _ => (pts_one (pt_cmpR op_ge (pe_ix ix_tup (pv 9) pe_int (fun _ _ => rfl)) (pv 5) (nomark _)))) (fun _ _ _ _ _ => (pe_op op_catA (pe_tup (pa_cons (pe_op op_sub (pe_ix ix_tup (pv 9) pe_int (fun _ _ => rfl)) (pv 5)) pa_nil)) (pe_slice sl_tupA (pv 9) (po_some pe_int) po_none)))) pa_nil)))
      (pss_one (ps_ret (pe_cmpR op_eq (pe_ix ix_tup (pe_df D_verdict (hr.mono (by decide)) (by rfl) (pa_cons (pe_tup (pa_cons (pv 2) (pa_cons (pe_op op_sub (pv 3) (pv 5)) (pa_cons (pv 8) pa_nil)))) (pa_cons (pe_ix ix_list (pe_fld (pv 0) rfl) (pe_un un_neg pe_int) (fun _ _ => rfl)) (pa_cons (pv 1) pa_nil)))) pe_int (fun _ _ => rfl)) pe_str (nomark _))))))))), ?_⟩
    walk_at "go"
    refine ⟨ad, aw, d, v, o, rfl, hday, hv, fun H1 e1 => ?_⟩
    rcases hv with ⟨rfl, hnt⟩ | ⟨wa, ys, rfl, rfl, hW, hys, hyl⟩
    · refine c_bl ?_
      refine iteT ?_
      exact c_rs (hz _ e1)
    dsimp only
    by_cases hok : ¬ (ys.length = d.P ∧ ys.all (fun x => isFromV x 0 20) = true)
    · have e : askA d Cs.length R (some ys) = .word "NoWanted" := if_neg hok
      rw [e] at hz
      rw [show (decide (ys.length = d.P) && ys.all (fun x => isFromV x 0 20)) = false by
        refine Bool.eq_false_iff.mpr fun z => hok ?_
        rw [Bool.and_eq_true] at z
        exact ⟨of_decide_eq_true z.1, z.2⟩]
      refine c_bl ?_
      refine iteT ?_
      exact c_rs (hz _ e1)
    replace hok := Decidable.not_not.mp hok
    have eA : askA d Cs.length R (some ys) = .bl (stayB d Cs.length R (ys.map intV)) := if_pos hok
    replace k := fun H' => k _ H' eA
    obtain ⟨W, hW0⟩ : ∃ W, ys = vI W := ⟨_, allInt hok.2⟩
    subst hW0
    have lW : W.length = d.P := by have := hok.1; rwa [List.length_map] at this
    have hWb : ∀ p, 0 ≤ W.getD p 0 ∧ W.getD p 0 ≤ 20 := fun p => by
      by_cases hp : p < W.length
      · have h1 := vI_get hp
        obtain ⟨_, h2, h3⟩ := isFromV_int (List.all_eq_true.mp hok.2 _ (List.mem_of_getElem? h1))
        exact ⟨h2, h3⟩
      · rw [getD_big (by omega)]; decide
    rw [vI_intV] at k
    rw [decide_eq_true hok.1, hok.2]
    refine c_bl ?_
    refine iteF ?_
    have hin1 := e1 _ _ hin
    have hro1 := e1 _ _ hro
    have hpa1 := e1 _ _ hpa
    have hday1 := e1.tup hday
    have hW1 := e1.tup hW
    have hxR1 : SqT K H1 xr (vI R) := e1.tup (show SqT K H xr (vI R) from hxR)
    walk_at "go"
    rw [hpl]
    unfold stayB at k
    by_cases hT : Cs.length = d.T
    · rw [if_pos hT] at k
      rw [show decide ((Cs.length : Int) = (d.T : Int)) = true from decide_eq_true (by omega)]
      refine iteT ?_
      walk_at "go"
      refine c_ixL (SqL.of hro1) (atLast (by rw [hrl, Nat.add_sub_cancel]; exact hxr)) ?_
      walk_at "go"
      refine ⟨true, true, xr, wa, _, _, rfl, hxR1, hW1, fun D nD => ?_⟩
      refine lc_it (walk_zip2 (n := d.P) (by rw [List.length_map]; exact lR) (by rw [List.length_map]; exact lW)) (fun j H2 => Same H1 H2 ∧ H2 D = some (.lst (((List.zipWith (fun s l => decide (l ≤ s)) R W).take j).map V.bl))) ⟨Same.new nD, upd_same⟩ (fun j H2 _ h => ⟨h.1.tup hxR1, h.1.tup hW1⟩) ?_ ?_
      · rintro j y H2 H3 hj ⟨e2, hD⟩ ⟨T', x1, y1, rfl, nT, rfl, hx1, hy1⟩
        obtain ⟨n1, f1, rfl⟩ := vI_inv hx1
        obtain ⟨n2, f2, rfl⟩ := vI_inv hy1
        walk_at "go"
        refine ⟨rfl, ?_⟩
        walk_at "go"
        refine iteT ?_
        walk_at "go"
        refine ⟨_, get_new hD nT, szl' (by simp; omega), (e2.trans (Same.new nT)).mut nD, ?_⟩
        rw [upd_same, take_succ_get (show (List.zipWith (fun s l => decide (l ≤ s)) R W)[j]? = some (decide (n2 ≤ n1)) by simp [List.getElem?_zipWith, f1, f2])]
        simp
      · rintro H2 ⟨e2, hD⟩
        rw [List.take_of_length_le (by rw [List.length_zipWith]; omega)] at hD
        walk_at "go"
        refine c_all (SqL.of hD) ?_
        exact k _ (e1.trans e2)
    · rw [if_neg hT] at k
      rw [show decide ((Cs.length : Int) = (d.T : Int)) = false from decide_eq_false (by omega)]
      refine iteF ?_
      have hseq1 := e1.tup S.day.seq
      walk_at "go"
      refine ⟨aw, rfl, ⟨ds, hseq1⟩, fun D nD => ?_⟩
      refine lc_it (walk_tup (xs := ds)) (fun j H2 => ∃ zs, Same H1 H2 ∧ H2 D = some (.lst zs) ∧ Wks K H2 zs (((d.ws.take j).filter fun w => decide (Cs.length ≤ w.h)).map (restWk Cs.length))) ⟨[], Same.new nD, upd_same, .nil⟩ (fun j H2 _ ⟨_, e, _⟩ => e.tup hseq1) ?_ ?_
      · rintro j y H2 H3 hj ⟨zs, e2, hD, hzs⟩ ⟨rfl, hy⟩
        obtain ⟨v, xw, hv, rfl, hvT⟩ := S.day.wks.get hy
        have hvT' : SqT K H3 xw [.int (v.h : Int), .int (v.b : Int), .int (v.e : Int), .bl v.wet, .int (v.r : Int)] := (e1.trans e2).tup hvT
        have hfl := List.length_filter_le (fun w : Wk => decide (Cs.length ≤ w.h)) (d.ws.take j)
        rw [List.length_take] at hfl
        have hzl := hzs.len
        rw [List.length_map] at hzl
        rw [take_succ_get hv, List.filter_append, List.map_append]
        walk_at "go"
        refine ⟨rfl, ?_⟩
        walk_at "go"
        refine ite2 (fun hq => ?_) (fun hq => ?_)
        · have hq' : Cs.length ≤ v.h := by have := of_decide_eq_true hq; omega
          walk_at "go"
          refine ⟨szl (by simp), fun t1 nt1 => ?_⟩
          have s3 := Same.new (o := .tup [V.int ((v.h : Int) - (Cs.length : Int))]) nt1
          have ht1 : SqT K (upd H3 t1 (.tup [V.int ((v.h : Int) - (Cs.length : Int))])) t1 [V.int ((v.h : Int) - (Cs.length : Int))] := SqT.of upd_same
          have hvT3 := s3.tup hvT'
          generalize upd H3 t1 (.tup [V.int ((v.h : Int) - (Cs.length : Int))]) = H4 at s3 ht1 hvT3 ⊢
          walk_at "go"
          refine c_slQ hvT3 fun t2 H5 s5 h5 => ?_
          rw [cut1] at h5
          refine c_catQ (s5.tup ht1) h5 (szl (by simp)) fun t3 H6 s6 h6 => ?_
          have s36 := s3.trans (s5.trans s6)
          have hD6 := s36 _ _ hD
          have tm := Tx.mutL (o := .lst (zs ++ [V.ref t3])) hD6
          have h6' : SqT K H6 t3 (wkV (restWk Cs.length v)) := by
            have e : (v.h : Int) - (Cs.length : Int) = ((v.h - Cs.length : Nat) : Int) := by omega
            rw [e] at h6
            exact h6
          refine ⟨_, hD6, szl' (by omega), _, (e2.trans s36).mut nD, upd_same, ?_⟩
          have e : [v].filter (fun w => decide (Cs.length ≤ w.h)) = [v] := by simp [hq']
          rw [e]
          exact ((hzs.tx (.of s36)).tx tm).snoc (tm.tup h6')
        · have hq' : ¬ Cs.length ≤ v.h := fun z => hq (decide_eq_true (by omega))
          have e : [v].filter (fun w => decide (Cs.length ≤ w.h)) = [] := by simp [hq']
          rw [e]
          exact ⟨zs, e2, hD, by simpa using hzs⟩
      · rintro H2 ⟨zs, e2, hD, hzs⟩
        rw [List.take_of_length_le (by omega)] at hzs
        have hrest := restD_len d Cs.length
        have hzl : zs.length ≤ 12 := by rw [hzs.len]; exact Nat.le_trans hrest hWl
        walk_at "go"
        intro tw ntw
        have s3 := Same.new (o := .tup zs) ntw
        have htw : SqT K (upd H2 tw (.tup zs)) tw zs := SqT.of upd_same
        generalize upd H2 tw (.tup zs) = H3 at s3 htw ⊢
        walk_at "go"
        refine ⟨szl (by simp), fun t4 nt4 => ?_⟩
        have s4 := Same.new (o := .tup [V.int (d.P : Int), V.int ((d.T : Int) - (Cs.length : Int)), V.ref tw]) nt4
        have s14 := e2.trans (s3.trans s4)
        have hd4 : DayAt K (upd H3 t4 (.tup [V.int (d.P : Int), V.int ((d.T : Int) - (Cs.length : Int)), V.ref tw])) t4 tw zs (restD d Cs.length) := by
          refine ⟨?_, s4.tup htw, hzs.tx (.of (s3.trans s4))⟩
          have e : (d.T : Int) - (Cs.length : Int) = ((d.T - Cs.length : Nat) : Int) := by omega
          rw [e]
          exact SqT.of upd_same
        generalize upd H3 t4 (.tup [V.int (d.P : Int), V.int ((d.T : Int) - (Cs.length : Int)), V.ref tw]) = H4 at s4 s14 hd4 ⊢
        have hin4 := s14 _ _ hin1
        have hro4 := s14 _ _ hro1
        walk_at "go"
        refine c_ixL (SqL.of hro4) (atLast (by rw [hrl, Nat.add_sub_cancel]; exact hxr)) ?_
        walk_at "go"
        refine ⟨t4, tw, xr, wa, zs, restD d Cs.length, R, W, rfl, ⟨hd4, restD_ok S.dd.ok _, ⟨by show d.P ≤ 1000; omega, by show d.T - Cs.length ≤ 1000; omega, by omega⟩, s14.tup hxR1, s14.tup hW1, lR, lW⟩, nR, fun p => (hWb p).1, fun hz H5 vr vc e5 hvr _ => ?_, fun hz H5 vr vl e5 hvr _ => ?_⟩
        · have hdb : dryB (restD d Cs.length) R W = true := decide_eq_true hz
          rw [hdb] at k
          walk_at "go"
          refine c_eqS ?_
          rw [show decide (("dry" : Str) = "dry") = true by simp]
          exact k _ (e1.trans (s14.trans e5))
        · have hdb : dryB (restD d Cs.length) R W = false := decide_eq_false hz
          rw [hdb] at k
          walk_at "go"
          refine c_eqS ?_
          rw [show decide (("wet" : Str) = "dry") = false by decide]
          exact k _ (e1.trans (s14.trans e5))
end
section
variable {P : Program} {w : World} {K : PySem.W.Frag} {mg : Str → Option Value} {base : Heap}
def spLenH (K : PySem.W.Frag) (C : Addr) : Sp := fun vs H Q _ => ∃ (h dx ad aw ro pa : Addr) (ds : List V) (d : Day) (Rs Cs : List (List Int)), vs = [.ref h] ∧ HouS K C H h dx ad aw ro pa ds d Rs Cs ∧ Q (.int (Cs.length : Int)) H
theorem mf_lenH (CH : Addr) (TH : CtxH K CH) (B : Bl mg) (F : HasM K CH "__len__" "House.__len__" s_House___len__) : Mf P w K mg base CH "__len__" 1 ["self"] (spLenH K CH) := by
  refine mf_of F sc_House___len__ (fun _ _ _ _ _ _ us hl => match us, hl with | [_], _ => rfl) (fun vs H Q E h => ?_) (fun f cdv A outer s H vs Q E hr h => ?_)
  · obtain ⟨h, dx, ad, aw, ro, pa, ds, d, Rs, Cs, rfl, _⟩ := h
    rfl
  · obtain ⟨h, dx, ad, aw, ro, pa, ds, d, Rs, Cs, rfl, S, k⟩ := h
    obtain ⟨rs, ps, hro, hpa, hrs, hps⟩ := S.ex
    have hin := S.ins
    have hpl : ps.length = Cs.length := by rw [hps.len, List.length_map]
    refine ⟨(tRet (tCB (rLenS K) (tCons (tFld K (tVar 0) "past") tNil))),
      (pss_one (ps_ret (pe_callB call_len_seq (by rfl) B.len bt_len (pa_cons (pe_fld (pv 0) rfl) pa_nil)))), ?_⟩
    walk_at "go"
    rw [hpl]
    exact k
theorem mf_gone (CH : Addr) (TH : CtxH K CH) (B : Bl mg) (F : HasM K CH "gone" "House.gone" s_House_gone) : Mf P w K mg base CH "gone" 1 ["self"] (spLenH K CH) := by
  refine mf_of F sc_House_gone (fun _ _ _ _ _ _ us hl => match us, hl with | [_], _ => rfl) (fun vs H Q E h => ?_) (fun f cdv A outer s H vs Q E hr h => ?_)
  · obtain ⟨h, dx, ad, aw, ro, pa, ds, d, Rs, Cs, rfl, _⟩ := h
    rfl
  · obtain ⟨h, dx, ad, aw, ro, pa, ds, d, Rs, Cs, rfl, S, k⟩ := h
    obtain ⟨rs, ps, hro, hpa, hrs, hps⟩ := S.ex
    have hin := S.ins
    have hpl : ps.length = Cs.length := by rw [hps.len, List.length_map]
    refine ⟨(tRet (tCB (rLenS K) (tCons (tFld K (tVar 0) "past") tNil))),
      (pss_one (ps_ret (pe_callB call_len_seq (by rfl) B.len bt_len (pa_cons (pe_fld (pv 0) rfl) pa_nil)))), ?_⟩
    walk_at "go"
    rw [hpl]
    exact k
def spStandsH (K : PySem.W.Frag) (C : Addr) : Sp := fun vs H Q _ => ∃ (h dx ad aw ro pa : Addr) (ds : List V) (d : Day) (Rs Cs : List (List Int)), vs = [.ref h] ∧ HouS K C H h dx ad aw ro pa ds d Rs Cs ∧ ∀ x, SqT K H x (vI (lastR Rs)) → Q (.ref x) H
theorem mf_stands (CH : Addr) (TH : CtxH K CH) (B : Bl mg) (F : HasM K CH "stands" "House.stands" s_House_stands) : Mf P w K mg base CH "stands" 1 ["self"] (spStandsH K CH) := by
  refine mf_of F sc_House_stands (fun _ _ _ _ _ _ us hl => match us, hl with | [_], _ => rfl) (fun vs H Q E h => ?_) (fun f cdv A outer s H vs Q E hr h => ?_)
  · obtain ⟨h, dx, ad, aw, ro, pa, ds, d, Rs, Cs, rfl, _⟩ := h
    rfl
  · obtain ⟨h, dx, ad, aw, ro, pa, ds, d, Rs, Cs, rfl, S, k⟩ := h
    obtain ⟨rs, ps, hro, hpa, hrs, hps⟩ := S.ex
    have hin := S.ins
    have hrl : rs.length = Cs.length + 1 := by rw [hrs.len, List.length_map, S.len]
    have hRl : Rs.length = Cs.length + 1 := S.len
    obtain ⟨R, hR⟩ : ∃ R, Rs[Cs.length]? = some R := ⟨Rs[Cs.length], List.getElem?_eq_getElem (by omega)⟩
    have hlr : lastR Rs = R := by
      unfold lastR
      rw [hRl, Nat.add_sub_cancel, List.getD_eq_getElem?_getD, hR]
      rfl
    obtain ⟨xr, hxr, hxR⟩ := hrs.at_ Cs.length (vI R) (by rw [List.getElem?_map, hR]; rfl)
    rw [hlr] at k
    refine ⟨(tRet (tOp (rIxL K) (tFld K (tVar 0) "rows") (tUn (rU fun i => .int (-i)) (tC (.int 1))))),
      (pss_one (ps_ret (pe_ix ix_list (pe_fld (pv 0) rfl) (pe_un un_neg pe_int) (fun _ _ => rfl)))), ?_⟩
    walk_at "go"
    refine c_ixL (SqL.of hro) (atLast (by rw [hrl, Nat.add_sub_cancel]; exact hxr)) ?_
    exact k _ hxR
def spLog (K : PySem.W.Frag) (C : Addr) : Sp := fun vs H Q _ => ∃ (h dx ad aw ro pa : Addr) (ds : List V) (d : Day) (Rs Cs : List (List Int)), vs = [.ref h] ∧ HouS K C H h dx ad aw ro pa ds d Rs Cs ∧
  ∀ (l : Addr) (ps : List V) (H' : Hp), Same H H' → H l = none → H' l = some (.lst ps) → Refs true K H' ps (Cs.map vI) → Q (.ref l) H'
theorem mf_log (CH : Addr) (TH : CtxH K CH) (B : Bl mg) (F : HasM K CH "log" "House.log" s_House_log) : Mf P w K mg base CH "log" 1 ["self"] (spLog K CH) := by
  refine mf_of F sc_House_log (fun _ _ _ _ _ _ us hl => match us, hl with | [_], _ => rfl) (fun vs H Q E h => ?_) (fun f cdv A outer s H vs Q E hr h => ?_)
  · obtain ⟨h, dx, ad, aw, ro, pa, ds, d, Rs, Cs, rfl, _⟩ := h
    rfl
  · obtain ⟨h, dx, ad, aw, ro, pa, ds, d, Rs, Cs, rfl, S, k⟩ := h
    obtain ⟨rs, ps, hro, hpa, hrs, hps⟩ := S.ex
    have hin := S.ins
    refine ⟨(tRet (tCB (rListOf K) (tCons (tFld K (tVar 0) "past") tNil))),
      (pss_one (ps_ret (pe_callTy call_list_of (by rfl) B.list bt_list (pa_cons (pe_fld (pv 0) rfl) pa_nil)))), ?_⟩
    walk_at "go"
    intro l nl
    exact k l ps _ (Same.new nl) nl upd_same (hps.tx (.of (Same.new nl)))
def spEqH (K : PySem.W.Frag) (C : Addr) : Sp := fun vs H Q _ => ∃ (h dx ad aw ro pa : Addr) (y : V) (ds : List V) (d : Day) (Rs Cs : List (List Int)) (G : List Int), vs = [.ref h, y] ∧ HouS K C H h dx ad aw ro pa ds d Rs Cs ∧ Rs[0]? = some G ∧
  ((∃ (h2 dx2 ad2 aw2 ro2 pa2 : Addr) (ds2 : List V) (d2 : Day) (Rs2 Cs2 : List (List Int)) (G2 : List Int), y = .ref h2 ∧ HouS K C H h2 dx2 ad2 aw2 ro2 pa2 ds2 d2 Rs2 Cs2 ∧ Rs2[0]? = some G2 ∧ ∀ H', Same H H' → Q (.bl (PyData.eqv (houD d G Cs) (houD d2 G2 Cs2))) H') ∨
   (∃ (t : Addr) (xs : List V), y = .ref t ∧ SqT K H t xs ∧ Q (.bl false) H))
theorem mf_eqH (CH : Addr) (TH : CtxH K CH) (HC : HouC K CH) (B : Bl mg) (hHouse : mg "House" = some (.ref CH)) (F : HasM K CH "__eq__" "House.__eq__" s_House___eq__) : Mf P w K mg base CH "__eq__" 1 ["self", "other"] (spEqH K CH) := by
  refine mf_of F sc_House___eq__ (fun _ _ _ _ _ _ us hl => match us, hl with | [_, _], _ => rfl) (fun vs H Q E h => ?_) (fun f cdv A outer s H vs Q E hr h => ?_)
  · obtain ⟨h, dx, ad, aw, ro, pa, y, ds, d, Rs, Cs, G, rfl, _⟩ := h
    rfl
  · obtain ⟨h, dx, ad, aw, ro, pa, y, ds, d, Rs, Cs, G, rfl, S, hG, hy⟩ := h
    refine ⟨(tSeq (tIfS (tNot (tB (tCB (rIsi K) (tCons (tVar 1) (tCons (tC (.ref CH)) tNil))))) (tRet (tC (.bl false))) tNext) (tRet (tOp (rEqD K) (tTup (tCons (tFld K (tVar 0) "day") (tCons (tOp (rIxL K) (tFld K (tVar 0) "rows") (tC (.int 0))) (tCons (tFld K (tVar 0) "past") tNil)))) (tTup (tCons (tFld K (tVar 1) "day") (tCons (tOp (rIxL K) (tFld K (tVar 1) "rows") (tC (.int 0))) (tCons (tFld K (tVar 1) "past") tNil))))))),
      (pss_cons (ps_if (pt_not (pt_val (pe_callB call_isi (by rfl) B.isinstance bt_isinstance (pa_cons (pv 1) (pa_cons (pe_glob (v := (.ref CH)) (by rfl) hHouse rfl) pa_nil))))) (pss_one (ps_ret pe_bl)) pss_nil)
      (pss_one (ps_ret (pe_cmpR (op_eqD hr.units) (pe_tup (pa_cons (pe_fld (pv 0) rfl) (pa_cons (pe_ix ix_list (pe_fld (pv 0) rfl) pe_int (fun _ _ => rfl)) (pa_cons (pe_fld (pv 0) rfl) pa_nil)))) (pe_tup (pa_cons (pe_fld (pv 1) rfl) (pa_cons (pe_ix ix_list (pe_fld (pv 1) rfl) pe_int (fun _ _ => rfl)) (pa_cons (pe_fld (pv 1) rfl) pa_nil)))) (nomark _))))), ?_⟩
    rcases hy with ⟨h2, dx2, ad2, aw2, ro2, pa2, ds2, d2, Rs2, Cs2, G2, rfl, S2, hG2, k⟩ | ⟨t, xs, rfl, ht, k⟩
    · obtain ⟨rs, ps, hro, hpa, hrs, hps⟩ := S.ex
      obtain ⟨rs2, ps2, hro2, hpa2, hrs2, hps2⟩ := S2.ex
      have hin := S.ins
      have hin2 := S2.ins
      obtain ⟨xr, hxr, hxR⟩ := hrs.at_ 0 (vI G) (by rw [List.getElem?_map, hG]; rfl)
      obtain ⟨xr2, hxr2, hxR2⟩ := hrs2.at_ 0 (vI G2) (by rw [List.getElem?_map, hG2]; rfl)
      walk_at "go"
      refine ⟨.ref h2, .ref CH, .ref CH, .ref CH, true, rfl, .own CH, .base (.ins hin2 TH.cl HC.ha HC.hn HC.ht HC.hm), HC.self, ?_⟩
      walk_at "go"
      refine iteF ?_
      walk_at "go"
      refine ⟨szl (by simp), fun t1 n1 => ?_⟩
      have s1 := Same.new (o := .tup [V.ref ad, V.ref xr, V.ref pa]) n1
      have ht1 : SqT K (upd H t1 (.tup [V.ref ad, V.ref xr, V.ref pa])) t1 [V.ref ad, V.ref xr, V.ref pa] := SqT.of upd_same
      generalize upd H t1 (.tup [V.ref ad, V.ref xr, V.ref pa]) = H1 at s1 ht1 ⊢
      have hin21 := s1 _ _ hin2
      have hro21 := s1 _ _ hro2
      have hpa21 := s1 _ _ hpa2
      walk_at "go"
      refine ⟨szl (by simp), fun t2 n2 => ?_⟩
      have s2 := Same.new (o := .tup [V.ref ad2, V.ref xr2, V.ref pa2]) n2
      have ht2 : SqT K (upd H1 t2 (.tup [V.ref ad2, V.ref xr2, V.ref pa2])) t2 [V.ref ad2, V.ref xr2, V.ref pa2] := SqT.of upd_same
      have s12 := s1.trans s2
      refine ⟨houD d G Cs, houD d2 G2 Cs2, .tup (s2.tup ht1) (.cons (dp_day (S.day.tx (.of s12))) (.cons (.tup (s12.tup (show SqT K H xr (vI G) from hxR)) (dp_ints G)) (.cons (.lst (SqL.of (s12 _ _ hpa)) (dp_rowsI (hps.tx (.of s12)))) .nil))), .tup ht2 (.cons (dp_day (S2.day.tx (.of s12))) (.cons (.tup (s12.tup (show SqT K H xr2 (vI G2) from hxR2)) (dp_ints G2)) (.cons (.lst (SqL.of (s12 _ _ hpa2)) (dp_rowsI (hps2.tx (.of s12)))) .nil))), houD_sh _ _ _, houD_sh _ _ _, ?_⟩
      exact k _ s12
    · walk_at "go"
      refine ⟨.ref t, .ref CH, .type "tuple", .ref CH, false, rfl, .own CH, ty_tup ht, HC.tup, ?_⟩
      walk_at "go"
      refine iteT ?_
      walk_at "go"
      exact k
end
section
variable {P : Program} {w : World} {K : PySem.W.Frag} {mg : Str → Option Value} {base : Heap}
def spKind (K : PySem.W.Frag) : SpP := fun a cls d vs H Q _ => ∃ ans, vs = [.ref a] ∧ ErAt K H cls d ans ∧ ∀ x H', Same H H' → AnsAt K H' x ans → Q x H'
theorem dp_kind (Er : Ers K mg) (B : Bl mg) (F : Has K mg "_law_kind" s__law_kind) : DfP P w K mg base "_law_kind" 1 ["e"] (spKind K) := by
  refine dp_of F sc__law_kind (fun _ _ _ _ _ _ us hl => match us, hl with | [_], _ => rfl) (fun a cls d vs H Q E h => ?_) (fun f cdv A outer s H vs Q E p cls d hot hz hr h => ?_)
  · obtain ⟨ans, rfl, _⟩ := h
    rfl
  · obtain ⟨ans, rfl, hE, k⟩ := h
    obtain ⟨wd, hwd, rfl, hdd, hans⟩ := hE.cls
    have hp : p ∈ [p] := List.mem_singleton.mpr rfl
    have hf : ∃ vs, p.2.data = .fields vs := let ⟨_, vs, h1, _⟩ := hot; ⟨vs, h1⟩
    refine ⟨(tSeq (tAsg (tLst (tCons (tCB (rIsP K (gE K wd) p.1 d) (tCons (tVar 0) (tCons (tC (.ref (gE K "Lacks"))) tNil))) (tCons (tCB (rIsP K (gE K wd) p.1 d) (tCons (tVar 0) (tCons (tC (.ref (gE K "NoCarried"))) tNil))) (tCons (tCB (rIsP K (gE K wd) p.1 d) (tCons (tVar 0) (tCons (tC (.ref (gE K "NoDay"))) tNil))) (tCons (tCB (rIsP K (gE K wd) p.1 d) (tCons (tVar 0) (tCons (tC (.ref (gE K "NoStarts"))) tNil))) tNil))))) (gName 1)) (tSeq (tAsg (tOp rCat (tVar 1) (tLst (tCons (tCB (rIsP K (gE K wd) p.1 d) (tCons (tVar 0) (tCons (tC (.ref (gE K "NothingLeft"))) tNil))) (tCons (tCB (rIsP K (gE K wd) p.1 d) (tCons (tVar 0) (tCons (tC (.ref (gE K "NoWanted"))) tNil))) (tCons (tCB (rIsP K (gE K wd) p.1 d) (tCons (tVar 0) (tCons (tC (.ref (gE K "Over"))) tNil))) (tCons (tCB (rIsP K (gE K wd) p.1 d) (tCons (tVar 0) (tCons (tC (.ref (gE K "Soaked"))) tNil))) tNil)))))) (gName 1)) (tSeq (tAsg (tLst (tCons (tC (.str "Lacks")) (tCons (tC (.str "NoCarried")) (tCons (tC (.str "NoDay")) (tCons (tC (.str "NoStarts")) (tCons (tC (.str "NothingLeft")) (tCons (tC (.str "NoWanted")) (tCons (tC (.str "Over")) (tCons (tC (.str "Soaked")) tNil))))))))) (gName 2)) (tSeq (tAsg (tM1 (rJoin K) (tC (.str " ")) (tLc (iZipH K (tCons (tVar 2) (tCons (tVar 1) tNil))) (gTup K 2 (gCons (gName 3) (gCons (gName 4) gNil))) (tB (tVar 4)) (tVar 3) [3, 4])) (gName 3)) (tSeq (tIfS (tB (tCB (rIsP K (gE K wd) p.1 d) (tCons (tVar 0) (tCons (tC (.ref (gE K "Lacks"))) tNil)))) (tRet (tTup (tCons (tVar 3) (tCons (tXf p.1 (.ref (gE K wd)) d (gE K "Lacks") "place" (tVar 0)) tNil)))) tNext) (tRet (tIf (tB (tCB (rIsP K (gE K wd) p.1 d) (tCons (tVar 0) (tCons (tC (.ref (gE K "Soaked"))) tNil)))) (tTup (tCons (tVar 3) (tCons (tXf p.1 (.ref (gE K wd)) d (gE K "Soaked") "walk" (tVar 0)) tNil))) (tVar 3)))))))),
      (pss_cons (ps_set (i := 1) sc__law_kind.nd rfl (by first | exact Or.inl rfl | exact Or.inr rfl) (pe_lst (pa_cons (pe_callB (call_isP (Er.exc wd hwd) hz.zc hf hp) (by rfl) B.isinstance bt_isinstance (pa_cons (pv 0) (pa_cons (pe_glob (v := (.ref (gE K "Lacks"))) (by rfl) (Er.glo "Lacks" (by decide)) rfl) pa_nil))) (pa_cons (pe_callB (call_isP (Er.exc wd hwd) hz.zc hf hp) (by rfl) B.isinstance bt_isinstance (pa_cons (pv 0) (pa_cons (pe_glob (v := (.ref (gE K "NoCarried"))) (by rfl) (Er.glo "NoCarried" (by decide)) rfl) pa_nil))) (pa_cons (pe_callB (call_isP (Er.exc wd hwd) hz.zc hf hp) (by rfl) B.isinstance bt_isinstance (pa_cons (pv 0) (pa_cons (pe_glob (v := (.ref (gE K "NoDay"))) (by rfl) (Er.glo "NoDay" (by decide)) rfl) pa_nil))) (pa_cons (pe_callB (call_isP (Er.exc wd hwd) hz.zc hf hp) (by rfl) B.isinstance bt_isinstance (pa_cons (pv 0) (pa_cons (pe_glob (v := (.ref (gE K "NoStarts"))) (by rfl) (Er.glo "NoStarts" (by decide)) rfl) pa_nil))) pa_nil))))))
      (pss_cons (ps_set (i := 1) sc__law_kind.nd rfl (by first | exact Or.inl rfl | exact Or.inr rfl) (pe_op op_cat (pv 1) (pe_lst (pa_cons (pe_callB (call_isP (Er.exc wd hwd) hz.zc hf hp) (by rfl) B.isinstance bt_isinstance (pa_cons (pv 0) (pa_cons (pe_glob (v := (.ref (gE K "NothingLeft"))) (by rfl) (Er.glo "NothingLeft" (by decide)) rfl) pa_nil))) (pa_cons (pe_callB (call_isP (Er.exc wd hwd) hz.zc hf hp) (by rfl) B.isinstance bt_isinstance (pa_cons (pv 0) (pa_cons (pe_glob (v := (.ref (gE K "NoWanted"))) (by rfl) (Er.glo "NoWanted" (by decide)) rfl) pa_nil))) (pa_cons (pe_callB (call_isP (Er.exc wd hwd) hz.zc hf hp) (by rfl) B.isinstance bt_isinstance (pa_cons (pv 0) (pa_cons (pe_glob (v := (.ref (gE K "Over"))) (by rfl) (Er.glo "Over" (by decide)) rfl) pa_nil))) (pa_cons (pe_callB (call_isP (Er.exc wd hwd) hz.zc hf hp) (by rfl) B.isinstance bt_isinstance (pa_cons (pv 0) (pa_cons (pe_glob (v := (.ref (gE K "Soaked"))) (by rfl) (Er.glo "Soaked" (by decide)) rfl) pa_nil))) pa_nil)))))))
      (pss_cons (ps_set (i := 2) sc__law_kind.nd rfl (by first | exact Or.inl rfl | exact Or.inr rfl) (pe_lst (pa_cons pe_str (pa_cons pe_str (pa_cons pe_str (pa_cons pe_str (pa_cons pe_str (pa_cons pe_str (pa_cons pe_str (pa_cons pe_str pa_nil))))))))))
      (pss_cons (ps_set (i := 3) sc__law_kind.nd rfl (by first | exact Or.inl rfl | exact Or.inr rfl) (pe_joinK pe_str (pe_lcH (own := [("word", 3), ("is_it", 4)]) (g := (gTup K 2 (gCons (gName 3) (gCons (gName 4) gNil)))) (tt := (tB (tVar 4))) (te := (tVar 3)) (hot_deeper hot) hp sc__law_kind.nd (pi_zipH (by rfl) B.zip (pa_cons (pv 2) (pa_cons (pv 1) pa_nil))) (blkOk_by (own := [("word", 3), ("is_it", 4)]) (N := ["e", "some", "words", "word", "is_it"]) (sc := defScope s__law_kind) (by decide +kernel)) (fun _ _ _ _ _ => (pg_tupH (hotC_blk (hot_deeper hot)) (pgs_cons (pg_name (i := 3) sc__law_kind.nd rfl (by first | exact Or.inl rfl | exact Or.inr rfl)) (pgs_cons (pg_name (i := 4) sc__law_kind.nd rfl (by first | exact Or.inl rfl | exact Or.inr rfl)) pgs_nil)))) (fun _ _ _ _ _ => (pts_one (pt_val (pv 4)))) (fun _ _ _ _ _ => (pv 3)))))
      (pss_cons (ps_if (pt_val (pe_callB (call_isP (Er.exc wd hwd) hz.zc hf hp) (by rfl) B.isinstance bt_isinstance (pa_cons (pv 0) (pa_cons (pe_glob (v := (.ref (gE K "Lacks"))) (by rfl) (Er.glo "Lacks" (by decide)) rfl) pa_nil)))) (pss_one (ps_ret (pe_tup (pa_cons (pv 3) (pa_cons (pe_xfP (Er.xf (w := "Lacks") (by decide)) Er.place hz.zc hf hp (pv 0)) pa_nil))))) pss_nil)
      (pss_one (ps_ret (pe_ifExp (pt_val (pe_callB (call_isP (Er.exc wd hwd) hz.zc hf hp) (by rfl) B.isinstance bt_isinstance (pa_cons (pv 0) (pa_cons (pe_glob (v := (.ref (gE K "Soaked"))) (by rfl) (Er.glo "Soaked" (by decide)) rfl) pa_nil)))) (pe_tup (pa_cons (pv 3) (pa_cons (pe_xfP (Er.xf (w := "Soaked") (by decide)) Er.walk hz.zc hf hp (pv 0)) pa_nil))) (pv 3))))))))), ?_⟩
    walk_at "go"
    refine c_isP Er hwd (by decide) hdd ?_
    walk_at "go"
    refine c_isP Er hwd (by decide) hdd ?_
    walk_at "go"
    refine c_isP Er hwd (by decide) hdd ?_
    walk_at "go"
    refine c_isP Er hwd (by decide) hdd ?_
    walk_at "go"
    refine ⟨szl (by simp), fun l1 n1 => ?_⟩
    have s1 := Same.new (o := .lst [V.bl (decide (wd = "Lacks")), V.bl (decide (wd = "NoCarried")), V.bl (decide (wd = "NoDay")), V.bl (decide (wd = "NoStarts"))]) n1
    have h1 : upd H l1 (.lst [V.bl (decide (wd = "Lacks")), V.bl (decide (wd = "NoCarried")), V.bl (decide (wd = "NoDay")), V.bl (decide (wd = "NoStarts"))]) l1 = some (.lst [V.bl (decide (wd = "Lacks")), V.bl (decide (wd = "NoCarried")), V.bl (decide (wd = "NoDay")), V.bl (decide (wd = "NoStarts"))]) := upd_same
    generalize upd H l1 (.lst [V.bl (decide (wd = "Lacks")), V.bl (decide (wd = "NoCarried")), V.bl (decide (wd = "NoDay")), V.bl (decide (wd = "NoStarts"))]) = H1 at s1 h1 ⊢
    have hdd1 : ∀ dd, d = some dd → ∃ fs, H1 dd = some (.xd fs) := fun dd e => let ⟨fs, h⟩ := hdd dd e; ⟨fs, s1 _ _ h⟩
    walk_at "go"
    refine c_isP Er hwd (by decide) hdd1 ?_
    walk_at "go"
    refine c_isP Er hwd (by decide) hdd1 ?_
    walk_at "go"
    refine c_isP Er hwd (by decide) hdd1 ?_
    walk_at "go"
    refine c_isP Er hwd (by decide) hdd1 ?_
    walk_at "go"
    refine ⟨szl (by simp), fun l2 n2 => ?_⟩
    have s2 := Same.new (o := .lst [V.bl (decide (wd = "NothingLeft")), V.bl (decide (wd = "NoWanted")), V.bl (decide (wd = "Over")), V.bl (decide (wd = "Soaked"))]) n2
    have h2 : upd H1 l2 (.lst [V.bl (decide (wd = "NothingLeft")), V.bl (decide (wd = "NoWanted")), V.bl (decide (wd = "Over")), V.bl (decide (wd = "Soaked"))]) l2 = some (.lst [V.bl (decide (wd = "NothingLeft")), V.bl (decide (wd = "NoWanted")), V.bl (decide (wd = "Over")), V.bl (decide (wd = "Soaked"))]) := upd_same
    generalize upd H1 l2 (.lst [V.bl (decide (wd = "NothingLeft")), V.bl (decide (wd = "NoWanted")), V.bl (decide (wd = "Over")), V.bl (decide (wd = "Soaked"))]) = H2 at s2 h2 ⊢
    refine ⟨l1, l2, _, _, rfl, rfl, s2 _ _ h1, h2, szl (by simp), fun l3 n3 => ?_⟩
    have s3 := Same.new (o := .lst ((ern.map (fun v => decide (wd = v))).map V.bl)) n3
    have h3 : upd H2 l3 (.lst ((ern.map (fun v => decide (wd = v))).map V.bl)) l3 = some (.lst ((ern.map (fun v => decide (wd = v))).map V.bl)) := upd_same
    have hlist : [V.bl (decide (wd = "Lacks")), V.bl (decide (wd = "NoCarried")), V.bl (decide (wd = "NoDay")), V.bl (decide (wd = "NoStarts"))] ++ [V.bl (decide (wd = "NothingLeft")), V.bl (decide (wd = "NoWanted")), V.bl (decide (wd = "Over")), V.bl (decide (wd = "Soaked"))] = (ern.map (fun v => decide (wd = v))).map V.bl := rfl
    rw [hlist]
    generalize upd H2 l3 (.lst ((ern.map (fun v => decide (wd = v))).map V.bl)) = H3 at s3 h3 ⊢
    walk_at "go"
    refine ⟨szl (by simp), fun l4 n4 => ?_⟩
    have s4 := Same.new (o := .lst (ern.map V.str)) n4
    have h4 : upd H3 l4 (.lst (ern.map V.str)) l4 = some (.lst (ern.map V.str)) := upd_same
    have hlist4 : [V.str "Lacks", V.str "NoCarried", V.str "NoDay", V.str "NoStarts", V.str "NothingLeft", V.str "NoWanted", V.str "Over", V.str "Soaked"] = ern.map V.str := rfl
    rw [hlist4]
    generalize upd H3 l4 (.lst (ern.map V.str)) = H4 at s4 h4 ⊢
    have h34 := s4 _ _ h3
    have s04 := s1.trans (s2.trans (s3.trans s4))
    clear h1 h2 h3 n1 n2 n3 n4 s1 s2 s3 s4 hlist hlist4 hdd1
    walk_at "go"
    refine c_m1 ?_
    walk_at "go"
    refine ⟨⟨_, rfl⟩, ?_⟩
    walk_at "go"
    refine c_zipH ?_
    walk_at "go"
    refine ⟨l4, l3, _, _, rfl, SqL.of h4, SqL.of h34, fun D nD => ?_⟩
    refine lc_it (walk_zip2 (n := 8) rfl rfl) (fun j H5 => Same H4 H5 ∧ H5 D = some (.lst ((((ern.zip (ern.map (fun v => decide (wd = v)))).take j).filter (·.2)).map fun q => V.str q.1))) ⟨Same.new nD, upd_same⟩ (fun j H5 _ h => ⟨h.1.lst (SqL.of h4), h.1.lst (SqL.of h34)⟩) ?_ ?_
    · rintro j y H5 H6 hj ⟨e5, hD⟩ ⟨T', x1, y1, rfl, nT, rfl, hx1, hy1⟩
      dsimp only at hx1 hy1
      rw [List.getElem?_map] at hx1 hy1
      obtain ⟨v, hv, rfl⟩ := Option.map_eq_some_iff.mp hx1
      obtain ⟨b, hb, rfl⟩ := Option.map_eq_some_iff.mp hy1
      have s6 := e5.trans (Same.new (o := .tup [V.str v, V.bl b]) nT)
      have hfl : (((ern.zip (ern.map (fun v => decide (wd = v)))).take j).filter (·.2)).length ≤ 8 := by
        refine Nat.le_trans (List.length_filter_le _ _) ?_
        rw [List.length_take, List.length_zip, List.length_map]
        exact Nat.le_trans (Nat.min_le_right _ _) (Nat.min_le_left _ _)
      have hD6 := get_new (u := .tup [V.str v, V.bl b]) hD nT
      walk_at "go"
      dsimp only [L2.wipe, List.foldl, List.set]
      refine ⟨rfl, ?_⟩
      walk_at "go"
      rw [take_succ_get (zip_get hv hb), List.filter_append, List.map_append]
      cases b with
      | true =>
        refine iteT ?_
        walk_at "go"
        exact ⟨_, hD6, szl' (by rw [List.length_map]; omega), s6.mut nD, upd_same⟩
      | false =>
        refine iteF ?_
        exact ⟨s6, by rw [hD6]; simp⟩
    · rintro H5 ⟨e5, hD⟩
      rw [List.take_of_length_le (by rw [List.length_zip, List.length_map]; exact Nat.min_le_left _ _), show (fun q : Str × Bool => V.str q.1) = V.str ∘ (·.1) from rfl, ← List.map_map, ern_pick wd hwd] at hD
      refine ⟨" ", D, [wd], rfl, rfl, .inl (SqL.of hD), ern_len wd hwd, ?_⟩
      rw [ern_join wd hwd]
      have s05 := s04.trans e5
      have hdd5 : ∀ dd, d = some dd → ∃ fs, H5 dd = some (.xd fs) := fun dd e => let ⟨fs, h⟩ := hdd dd e; ⟨fs, s05 _ _ h⟩
      walk_at "go"
      refine c_isP Er hwd (by decide) hdd5 ?_
      rcases hans with ⟨h6, rfl⟩ | ⟨n, dd, h2, rfl, rfl, hx⟩
      · obtain ⟨n1, n2⟩ := not6 h6
        rw [decide_eq_false n1]
        refine c_bl ?_
        refine iteF ?_
        walk_at "go"
        refine c_isP Er hwd (by decide) hdd5 ?_
        rw [decide_eq_false n2]
        refine c_bl ?_
        refine iteF ?_
        walk_at "go"
        exact k _ _ s05 rfl
      · simp only [List.mem_cons, List.not_mem_nil, or_false] at h2
        rcases h2 with rfl | rfl
        · rw [show decide ((("Soaked" : Str)) = "Lacks") = false by decide]
          refine c_bl ?_
          refine iteF ?_
          walk_at "go"
          refine c_isP Er hwd (by decide) hdd5 ?_
          rw [show decide ((("Soaked" : Str)) = "Soaked") = true by decide]
          refine c_bl ?_
          refine iteT ?_
          walk_at "go"
          refine c_xf rfl rfl rfl (s05 _ _ hx) rfl ?_
          walk_at "go"
          exact ⟨szl (by simp), fun t nt => k _ _ (s05.trans (Same.new nt)) ⟨t, rfl, SqT.of upd_same⟩⟩
        · rw [show decide ((("Lacks" : Str)) = "Lacks") = true by decide]
          refine c_bl ?_
          refine iteT ?_
          walk_at "go"
          refine c_xf rfl rfl rfl (s05 _ _ hx) rfl ?_
          walk_at "go"
          exact ⟨szl (by simp), fun t nt => k _ _ (s05.trans (Same.new nt)) ⟨t, rfl, SqT.of upd_same⟩⟩
end
section
variable {P : Program} {w : World} {K : PySem.W.Frag} {mg : Str → Option Value} {base : Heap}
def spDid (K : PySem.W.Frag) (C : Addr) : Sp := fun vs H Q _ => ∃ (h dx ad aw ro pa da : Addr) (ds : List V) (d : Day) (Rs Cs : List (List Int)) (dd : Deed), vs = [.ref h, .ref da] ∧ HouS K C H h dx ad aw ro pa ds d Rs Cs ∧ DeedAt K H da dd ∧
  ∀ x H', Mh ro pa H H' → HouS K C H' h dx ad aw ro pa ds d (stepR d Rs Cs dd) (stepC d Rs Cs dd) → AnsAt K H' x (ansOf d Rs Cs dd) → Q x H'
theorem df_did (CH : Addr) (TH : CtxH K CH) (Er : Ers K mg) (B : Bl mg) (M_hour : MfX P w K mg base CH "hour" 3 ["self", "carried"] (spHourX K CH)) (M_back : MfX P w K mg base CH "back" 1 ["self"] (spBackX K CH)) (M_stay : MfX P w K mg base CH "can_stay_dry" 9 ["self", "wanted"] (spStayX K CH)) (D_kind : DfP P w K mg base "_law_kind" 1 ["e"] (spKind K)) (F : Has K mg "_law_did" s__law_did) : Df P w K mg base "_law_did" 10 ["house", "deed"] (spDid K CH) := by
  refine df_of F sc__law_did (fun _ _ _ _ _ _ us hl => match us, hl with | [_, _], _ => rfl) (fun vs H Q E h => ?_) (fun f cdv A outer s H vs Q E hr h => ?_)
  · obtain ⟨h, dx, ad, aw, ro, pa, da, ds, d, Rs, Cs, dd, rfl, _⟩ := h
    rfl
  · obtain ⟨h, dx, ad, aw, ro, pa, da, ds, d, Rs, Cs, dd, rfl, S, hda, k⟩ := h
    have hin := S.ins
    refine ⟨(tTry K (.ref (gE K "WalkError")) 2 (fun W => (tSeq (tIfS (tTest (tOp rEq (tOp (rIxT K) (tVar 1) (tC (.int 0))) (tC (.str "hour")))) (tRet (L2H.tMethH CH "hour" (spHourX K CH) (WE W) (tVar 0) (tCons (tOp (rIxT K) (tVar 1) (tC (.int 1))) tNil))) tNext) (tRet (tIf (tTest (tOp rEq (tOp (rIxT K) (tVar 1) (tC (.int 0))) (tC (.str "ask")))) (L2H.tMethH CH "can_stay_dry" (spStayX K CH) (WE W) (tVar 0) (tCons (tOp (rIxT K) (tVar 1) (tC (.int 1))) tNil)) (L2H.tMethH CH "back" (spBackX K CH) (WE W) (tVar 0) tNil))))) (fun a cls d => (tRet (tCallS (spKind K a cls d) (fun _ => E0) (tCons (tVar 2) tNil))))),
      (pss_one (ps_try (i := 2) rfl rfl sc__law_did.nd rfl rfl ⟨rfl, by decide, .inl Er.weg⟩ (fun W pn xe tk _ => (pss_cons (ps_if (pt_cmpR op_eq (pe_ix ix_tup (pv 1) pe_int (fun _ _ => rfl)) pe_str (nomark _)) (pss_one (ps_ret (pe_mfx TH.cl M_hour (hr.mono (by decide)) (fun σ => L2N.passAt tk σ) (pv 0) (pa_cons (pe_ix ix_tup (pv 1) pe_int (fun _ _ => rfl)) pa_nil)))) pss_nil)
      (pss_one (ps_ret (pe_ifExp (pt_cmpR op_eq (pe_ix ix_tup (pv 1) pe_int (fun _ _ => rfl)) pe_str (nomark _)) (pe_mfx TH.cl M_stay (hr.mono (by decide)) (fun σ => L2N.passAt tk σ) (pv 0) (pa_cons (pe_ix ix_tup (pv 1) pe_int (fun _ _ => rfl)) pa_nil)) (pe_mfx0 TH.cl M_back (hr.mono (by decide)) (fun σ => L2N.passAt tk σ) (pv 0))))))) (fun a oe cls d pn hz hf => (pss_one (ps_ret (pe_dp D_kind (room_suite (hr.mono (by decide))) (hot_suite hz hf) hz List.mem_cons_self (by rfl) (pa_cons (pv 2) pa_nil))))))), ?_⟩
    refine c_try ?_
    cases dd with
    | hour o =>
      obtain ⟨v, hdt, hv⟩ := hda
      walk_at "go"
      refine c_eqS ?_
      rw [show decide (("hour" : Str) = "hour") = true by decide]
      refine c_bl ?_
      refine iteT ?_
      walk_at "go"
      refine c_methH ?_
      walk_at "go"
      refine ⟨h, dx, ad, aw, ro, pa, v, o, ds, d, Rs, Cs, rfl, S, hv, rz_of (hourA_e _ _ _ _) fun cls e H' es he => ?_, fun cs new H' t eA eo m S' ht => ?_⟩
      · refine w_as Er he fun a na => ?_
        walk_at "go"
        refine c_callS ?_
        walk_at "go"
        refine ⟨_, rfl, he, fun x H'' e2 hx => ?_⟩
        have e3 := es.trans e2
        obtain ⟨r1, r2⟩ := step_err he
        refine k x H'' (.of e3) ?_ hx
        rw [r1, r2]
        exact S.same e3
      · obtain ⟨_, cs', e1, e2, _⟩ := hourA_tup eA
        have ecs : csOf o = cs := by
          rw [eo]
          exact vI_intV cs
        refine k _ H' m ?_ ?_
        · unfold stepR stepC
          dsimp only
          rw [eA, ecs]
          exact S'
        · show AnsAt K H' _ (hourA d Cs.length (lastR Rs) o)
          rw [eA]
          exact ⟨t, rfl, ht⟩
    | back =>
      have hdt : SqT K H da [V.str "back"] := hda
      walk_at "go"
      refine c_eqS ?_
      rw [show decide (("back" : Str) = "hour") = false by decide]
      refine c_bl ?_
      refine iteF ?_
      walk_at "go"
      refine c_eqS ?_
      rw [show decide (("back" : Str) = "ask") = false by decide]
      refine c_bl ?_
      refine iteF ?_
      refine c_methH ?_
      walk_at "go"
      refine ⟨h, dx, ad, aw, ro, pa, ds, d, Rs, Cs, rfl, S, fun hC H' es => ?_, fun hC H' m S' => ?_⟩
      · have ea : ansOf d Rs Cs .back = .word "NothingLeft" := if_pos hC
        have he : ErAt K H' (.ref (gE K "NothingLeft")) none (ansOf d Rs Cs .back) := by rw [ea]; exact ⟨by decide, rfl, rfl⟩
        refine w_as Er he fun a na => ?_
        walk_at "go"
        refine c_callS ?_
        walk_at "go"
        refine ⟨_, rfl, he, fun x H'' e2 hx => ?_⟩
        have e3 := es.trans e2
        refine k x H'' (.of e3) ?_ hx
        rw [show stepR d Rs Cs .back = Rs from if_pos hC, show stepC d Rs Cs .back = Cs from if_pos hC]
        exact S.same e3
      · refine k _ H' m ?_ ?_
        · rw [show stepR d Rs Cs .back = Rs.dropLast from if_neg hC, show stepC d Rs Cs .back = Cs.dropLast from if_neg hC]
          exact S'
        · rw [show ansOf d Rs Cs .back = .non from if_neg hC]
          rfl
    | ask o =>
      obtain ⟨v, hdt, hv⟩ := hda
      walk_at "go"
      refine c_eqS ?_
      rw [show decide (("ask" : Str) = "hour") = false by decide]
      refine c_bl ?_
      refine iteF ?_
      walk_at "go"
      refine c_eqS ?_
      rw [show decide (("ask" : Str) = "ask") = true by decide]
      refine c_bl ?_
      refine iteT ?_
      refine c_methH ?_
      walk_at "go"
      refine ⟨h, dx, ad, aw, ro, pa, v, o, ds, d, Rs, Cs, rfl, S, hv, rz_of (askA_e _ _ _ _) fun cls e H' es he => ?_, fun b H' eA es => ?_⟩
      · refine w_as Er he fun a na => ?_
        walk_at "go"
        refine c_callS ?_
        walk_at "go"
        refine ⟨_, rfl, he, fun x H'' e2 hx => ?_⟩
        have e3 := es.trans e2
        exact k x H'' (.of e3) (S.same e3) hx
      · refine k _ H' (.of es) (S.same es) ?_
        show AnsAt K H' _ (askA d Cs.length (lastR Rs) o)
        rw [eA]
        rfl
end
section
variable {P : Program} {w : World} {K : PySem.W.Frag} {mg : Str → Option Value} {base : Heap}
def spHourDue (K : PySem.W.Frag) : Sp := fun vs H Q _ => ∃ (ad aw l : Addr) (v : V) (o : Option (List V)) (ds : List V) (d : Day) (Rs Cs : List (List Int)), vs = [.ref ad, .ref l, v] ∧ DayAt K H ad aw ds d ∧ DayD 5 8 12 d ∧ RowsAt K H l Rs Cs ∧ RunS d Rs Cs ∧ TV K H v o ∧
  ∀ x H', Ov l H H' → RowsAt K H' l (stepR d Rs Cs (.hour o)) (stepC d Rs Cs (.hour o)) → AnsAt K H' x (hourA d Cs.length (lastR Rs) o) → Q x H'
theorem step_no {d : Day} {Rs Cs : List (List Int)} {o : Option (List V)} (h : ∀ new, hourA d Cs.length (lastR Rs) o ≠ .tup new) : stepR d Rs Cs (.hour o) = Rs ∧ stepC d Rs Cs (.hour o) = Cs := by
  unfold stepR stepC
  dsimp only
  cases ha : hourA d Cs.length (lastR Rs) o with
  | tup l => exact (h l ha).elim
  | _ => exact ⟨rfl, rfl⟩
theorem step_yes {d : Day} {Rs Cs : List (List Int)} {cs new : List Int} (h : hourA d Cs.length (lastR Rs) (some (vI cs)) = .tup new) : stepR d Rs Cs (.hour (some (vI cs))) = Rs ++ [new] ∧ stepC d Rs Cs (.hour (some (vI cs))) = Cs ++ [cs] := by
  unfold stepR stepC
  dsimp only
  rw [h]
  exact ⟨rfl, by rw [show csOf (some (vI cs)) = cs from vI_intV cs]⟩
theorem df_hour_due (B : Bl mg) (D_is_number : Df P w K mg base "_law_is_number" 1 ["thing", "least", "most"] (spIsFrom K)) (F : Has K mg "_law_hour_due" s__law_hour_due) : Df P w K mg base "_law_hour_due" 2 ["day", "rows", "carried"] (spHourDue K) := by
  refine df_of F sc__law_hour_due (fun _ _ _ _ _ _ us hl => match us, hl with | [_, _, _], _ => rfl) (fun vs H Q E h => ?_) (fun f cdv A outer s H vs Q E hr h => ?_)
  · obtain ⟨ad, aw, l, v, o, ds, d, Rs, Cs, rfl, _⟩ := h
    rfl
  · obtain ⟨ad, aw, l, vc, o, ds, d, Rs, Cs, rfl, hd, DD, hrw, hru, hvc, k⟩ := h
    obtain ⟨rs, tl, xl, yl, hl, hrl, hrt, hrt2, hxl⟩ := hrw.last hru.len
    have hday := hd.day
    have hWl := DD.W
    have hTm := DD.TM
    have hPm := DD.PM
    have hwl := hd.wks.len
    have hcap := hru.cap
    have hlenR := hru.len
    obtain ⟨lR, nR⟩ : (lastR Rs).length = d.P ∧ ∀ p, 0 ≤ (lastR Rs).getD p 0 := by
      refine hru.row _ ?_
      have hne : Rs.length - 1 < Rs.length := by omega
      unfold lastR
      rw [List.getD_eq_getElem?_getD, List.getElem?_eq_getElem hne]
      exact List.getElem_mem hne
    have kno : ∀ x H', (∀ new, hourA d Cs.length (lastR Rs) o ≠ .tup new) → Same H H' → AnsAt K H' x (hourA d Cs.length (lastR Rs) o) → Q x H' := fun x H' hno e hx => by
      obtain ⟨r1, r2⟩ := step_no hno
      exact k x H' (.of e) (by rw [r1, r2]; exact hrw.same e) hx
    have kyes : ∀ cs new x H', hourA d Cs.length (lastR Rs) o = .tup new → o = some (vI cs) → Ov l H H' → RowsAt K H' l (Rs ++ [new]) (Cs ++ [cs]) → AnsAt K H' x (.tup new) → Q x H' := fun cs new x H' h1 h2 h3 h4 h5 => by
      subst h2
      obtain ⟨r1, r2⟩ := step_yes h1
      refine k x H' h3 (by rw [r1, r2]; exact h4) (by rw [h1]; exact h5)
    clear k
    generalize lastR Rs = R at *
    refine ⟨(tSeq (tAsg (tTup (tCons (tOp (rI0 fun i j => .int (i - j)) (tCB (rLenS K) (tCons (tVar 1) tNil)) (tC (.int 1))) (tCons (tCB (rListOf K) (tCons (tOp (rIxT K) (tOp (rIxL K) (tVar 1) (tUn (rU fun i => .int (-i)) (tC (.int 1)))) (tC (.int 0))) tNil)) tNil))) (gTup K 2 (gCons (gName 3) (gCons (gName 4) gNil)))) (tSeq (tIfS (tTest (tOp rEq (tVar 3) (tOp (rIxT K) (tVar 0) (tC (.int 1))))) (tRet (tC (.str "Over"))) tNext) (tSeq (tAsg (tLc (iEnumB K (tCons (tOp (rIxT K) (tVar 0) (tC (.int 2))) tNil)) (gTup K 2 (gCons (gName 6) (gCons (gName 7) gNil))) (tTest (tOp rEq (tOp (rIxT K) (tVar 7) (tC (.int 0))) (tVar 3))) (tTup (tCons (tVar 6) (tCons (tVar 7) tNil))) [6, 7]) (gName 5)) (tSeq (tIfS (tOr (tNot (tB (tCB (rIsi K) (tCons (tVar 2) (tCons (tC (.ty "tuple")) tNil))))) (tTest (tOp rNe (tCB (rLenS K) (tCons (tVar 2) tNil)) (tCB (rLenS K) (tCons (tVar 5) tNil))))) (tRet (tC (.str "NoCarried"))) tNext) (tSeq (tIfS (tTest (tOp (rNeD K) (tLc (iZip2 K (tCons (tVar 2) (tCons (tVar 5) tNil))) (gTup K 2 (gCons (gName 8) (gCons (gName 9) gNil))) (tNot (tB (tCall (spIsFrom K) [] E0 (tCons (tVar 8) (tCons (tC (.int 0)) (tCons (tOp (rIxT K) (tOp (rIxT K) (tVar 9) (tC (.int 1))) (tC (.int 4))) tNil)))))) (tC (.int 1)) [8, 9]) (tLst tNil))) (tRet (tC (.str "NoCarried"))) tNext) (tSeq (tAsg (tLc (iZip2 K (tCons (tVar 2) (tCons (tVar 5) tNil))) (gTup K 2 (gCons (gName 8) (gCons (gName 9) gNil))) (tAnd (tB (tOp (rIxT K) (tOp (rIxT K) (tVar 9) (tC (.int 1))) (tC (.int 3)))) (tTest (tOp rEq (tVar 8) (tC (.int 0))))) (tOp (rIxT K) (tVar 9) (tC (.int 0))) [8, 9]) (gName 10)) (tSeq (tIfS (tTest (tOp (rNeD K) (tVar 10) (tLst tNil))) (tRet (tTup (tCons (tC (.str "Soaked")) (tCons (tOp (rIxL K) (tVar 10) (tC (.int 0))) tNil)))) tNext) (tSeq (tFor (iZip2 K (tCons (tVar 2) (tCons (tVar 5) tNil))) (gTup K 2 (gCons (gName 8) (gCons (gName 9) gNil))) (tAsg (tOp (rI0 fun i j => .int (i - j)) (tOp (rIxL K) (tVar 4) (tOp (rIxT K) (tOp (rIxT K) (tVar 9) (tC (.int 1))) (tC (.int 1)))) (tVar 8)) (gSub (tVar 4) (tOp (rIxT K) (tOp (rIxT K) (tVar 9) (tC (.int 1))) (tC (.int 1))) rSetL))) (tSeq (tAsg (tLc (iRng1 (tCons (tOp (rIxT K) (tVar 0) (tC (.int 0))) tNil)) (gName 12) (tTest (tOp (rI0 fun i j => .bl (decide (i < j))) (tOp (rIxL K) (tVar 4) (tVar 12)) (tC (.int 0)))) (tVar 12) [12]) (gName 11)) (tSeq (tIfS (tTest (tOp (rNeD K) (tVar 11) (tLst tNil))) (tRet (tTup (tCons (tC (.str "Lacks")) (tCons (tOp (rIxL K) (tVar 11) (tC (.int 0))) tNil)))) tNext) (tSeq (tFor (iZip2 K (tCons (tVar 2) (tCons (tVar 5) tNil))) (gTup K 2 (gCons (gName 8) (gCons (gName 9) gNil))) (tAsg (tOp (rI0 fun i j => .int (i + j)) (tOp (rIxL K) (tVar 4) (tOp (rIxT K) (tOp (rIxT K) (tVar 9) (tC (.int 1))) (tC (.int 2)))) (tVar 8)) (gSub (tVar 4) (tOp (rIxT K) (tOp (rIxT K) (tVar 9) (tC (.int 1))) (tC (.int 2))) rSetL))) (tSeq (tDrop (tBM K "list" rAppend (tVar 1) (tCons (tTup (tCons (tCB (rTupOf K) (tCons (tVar 4) tNil)) (tCons (tVar 2) tNil))) tNil))) (tRet (tCB (rTupOf K) (tCons (tVar 4) tNil))))))))))))))),
      (pss_cons (ps_asg (pe_tup (pa_cons (pe_op op_sub (pe_callB call_len_seq (by rfl) B.len bt_len (pa_cons (pv 1) pa_nil)) pe_int) (pa_cons (pe_callTy call_list_of (by rfl) B.list bt_list (pa_cons (pe_ix ix_tup (pe_ix ix_list (pv 1) (pe_un un_neg pe_int) (fun _ _ => rfl)) pe_int (fun _ _ => rfl)) pa_nil)) pa_nil))) (pg_tup rfl (pgs_cons (pg_name (i := 3) sc__law_hour_due.nd rfl (by first | exact Or.inl rfl | exact Or.inr rfl)) (pgs_cons (pg_name (i := 4) sc__law_hour_due.nd rfl (by first | exact Or.inl rfl | exact Or.inr rfl)) pgs_nil))))
      (pss_cons (ps_if (pt_cmpR op_eq (pv 3) (pe_ix ix_tup (pv 0) pe_int (fun _ _ => rfl)) (nomark _)) (pss_one (ps_ret pe_str)) pss_nil)
      (pss_cons (ps_setLc (i := 5) (own := [("at", 6), ("walk", 7)]) (g := (gTup K 2 (gCons (gName 6) (gCons (gName 7) gNil)))) (tt := (tTest (tOp rEq (tOp (rIxT K) (tVar 7) (tC (.int 0))) (tVar 3)))) (te := (tTup (tCons (tVar 6) (tCons (tVar 7) tNil)))) rfl sc__law_hour_due.nd rfl rfl (sw_true rfl rfl rfl (by decide +kernel)) (pi_enumB (by rfl) B.enumerate (pa_cons (pe_ix ix_tup (pv 0) pe_int (fun _ _ => rfl)) pa_nil)) (blkOk_by (own := [("at", 6), ("walk", 7)]) (N := ["day", "rows", "carried", "now", "here", "walks", "at", "walk", "many", "pair", "soaked", "lacks", "place"]) (sc := defScope s__law_hour_due) (by decide +kernel)) (fun _ _ _ _ _ => (pg_tup rfl (pgs_cons (pg_name (i := 6) sc__law_hour_due.nd rfl (by first | exact Or.inl rfl | exact Or.inr rfl)) (pgs_cons (pg_name (i := 7) sc__law_hour_due.nd rfl (by first | exact Or.inl rfl | exact Or.inr rfl)) pgs_nil)))) (fun _ _ _ _ _ => (pts_one (pt_cmpR op_eq (pe_ix ix_tup (pv 7) pe_int (fun _ _ => rfl)) (pv 3) (nomark _)))) (fun _ _ _ _ _ => (pe_tup (pa_cons (pv 6) (pa_cons (pv 7) pa_nil)))))
      (pss_cons (ps_if (PW.pt (pw_or (pt_not (pt_val (pe_callB call_isi (by rfl) B.isinstance bt_isinstance (pa_cons (pv 2) (pa_cons (pe_bltn (v := .ty "tuple") (by rfl) B.tuple bt_tuple rfl) pa_nil))))) (pw_or1 (pt_cmpR op_ne (pe_callB call_len_seq (by rfl) B.len bt_len (pa_cons (pv 2) pa_nil)) (pe_callB call_len_seq (by rfl) B.len bt_len (pa_cons (pv 5) pa_nil)) (nomark _))))) (pss_one (ps_ret pe_str)) pss_nil)
      (pss_cons (ps_if (pt_cmpR (op_neD hr.units) (pe_lc (own := [("many", 8), ("pair", 9)]) (g := (gTup K 2 (gCons (gName 8) (gCons (gName 9) gNil)))) (tt := (tNot (tB (tCall (spIsFrom K) [] E0 (tCons (tVar 8) (tCons (tC (.int 0)) (tCons (tOp (rIxT K) (tOp (rIxT K) (tVar 9) (tC (.int 1))) (tC (.int 4))) tNil))))))) (te := (tC (.int 1))) rfl sc__law_hour_due.nd (pi_zip2 (by rfl) B.zip (pa_cons (pv 2) (pa_cons (pv 5) pa_nil))) (blkOk_by (own := [("many", 8), ("pair", 9)]) (N := ["day", "rows", "carried", "now", "here", "walks", "at", "walk", "many", "pair", "soaked", "lacks", "place"]) (sc := defScope s__law_hour_due) (by decide +kernel)) (fun _ _ _ _ _ => (pg_tup rfl (pgs_cons (pg_name (i := 8) sc__law_hour_due.nd rfl (by first | exact Or.inl rfl | exact Or.inr rfl)) (pgs_cons (pg_name (i := 9) sc__law_hour_due.nd rfl (by first | exact Or.inl rfl | exact Or.inr rfl)) pgs_nil)))) (fun _ _ _ _ _ => (pts_one (pt_not (pt_val (pe_df D_is_number (hr.mono (by decide)) (by rfl) (pa_cons (pv 8) (pa_cons pe_int (pa_cons (pe_ix ix_tup (pe_ix ix_tup (pv 9) pe_int (fun _ _ => rfl)) pe_int (fun _ _ => rfl)) pa_nil)))))))) (fun _ _ _ _ _ => pe_int)) (pe_lst pa_nil) (nomark _)) (pss_one (ps_ret pe_str)) pss_nil)
      (pss_cons (ps_setLc (i := 10) (own := [("many", 8), ("pair", 9)]) (g := (gTup K 2 (gCons (gName 8) (gCons (gName 9) gNil)))) (tt := (tAnd (tB (tOp (rIxT K) (tOp (rIxT K) (tVar 9) (tC (.int 1))) (tC (.int 3)))) (tTest (tOp rEq (tVar 8) (tC (.int 0)))))) (te := (tOp (rIxT K) (tVar 9) (tC (.int 0)))) rfl sc__law_hour_due.nd rfl rfl (sw_true rfl rfl rfl (by decide +kernel)) (pi_zip2 (by rfl) B.zip (pa_cons (pv 2) (pa_cons (pv 5) pa_nil))) (blkOk_by (own := [("many", 8), ("pair", 9)]) (N := ["day", "rows", "carried", "now", "here", "walks", "at", "walk", "many", "pair", "soaked", "lacks", "place"]) (sc := defScope s__law_hour_due) (by decide +kernel)) (fun _ _ _ _ _ => (pg_tup rfl (pgs_cons (pg_name (i := 8) sc__law_hour_due.nd rfl (by first | exact Or.inl rfl | exact Or.inr rfl)) (pgs_cons (pg_name (i := 9) sc__law_hour_due.nd rfl (by first | exact Or.inl rfl | exact Or.inr rfl)) pgs_nil)))) (fun _ _ _ _ _ => (pts_one (PW.pt (pw_and (pt_val (pe_ix ix_tup (pe_ix ix_tup (pv 9) pe_int (fun _ _ => rfl)) pe_int (fun _ _ => rfl))) (pw_and1 (pt_cmpR op_eq (pv 8) pe_int (nomark _))))))) (fun _ _ _ _ _ => (pe_ix ix_tup (pv 9) pe_int (fun _ _ => rfl))))
      (pss_cons (ps_if (pt_cmpR (op_neD hr.units) (pv 10) (pe_lst pa_nil) (nomark _)) (pss_one (ps_ret (pe_tup (pa_cons pe_str (pa_cons (pe_ix ix_list (pv 10) pe_int (fun _ _ => rfl)) pa_nil))))) pss_nil)
      (pss_cons (ps_for PassesOwn.never rfl (pi_zip2 (by rfl) B.zip (pa_cons (pv 2) (pa_cons (pv 5) pa_nil))) (pg_tup rfl (pgs_cons (pg_name (i := 8) sc__law_hour_due.nd rfl (by first | exact Or.inl rfl | exact Or.inr rfl)) (pgs_cons (pg_name (i := 9) sc__law_hour_due.nd rfl (by first | exact Or.inl rfl | exact Or.inr rfl)) pgs_nil)))
      (pss_one (ps_asg (pe_op op_sub (pe_ix ix_list (pv 4) (pe_ix ix_tup (pe_ix ix_tup (pv 9) pe_int (fun _ _ => rfl)) pe_int (fun _ _ => rfl)) (fun _ _ => rfl)) (pv 8)) (pg_sub (pv 4) (pe_ix ix_tup (pe_ix ix_tup (pv 9) pe_int (fun _ _ => rfl)) pe_int (fun _ _ => rfl)) set_list))))
      (pss_cons (ps_setLc (i := 11) (own := [("place", 12)]) (g := (gName 12)) (tt := (tTest (tOp (rI0 fun i j => .bl (decide (i < j))) (tOp (rIxL K) (tVar 4) (tVar 12)) (tC (.int 0))))) (te := (tVar 12)) rfl sc__law_hour_due.nd rfl rfl (sw_true rfl rfl rfl (by decide +kernel)) (pi_range1 (by rfl) B.range (pa_cons (pe_ix ix_tup (pv 0) pe_int (fun _ _ => rfl)) pa_nil)) (blkOk_by (own := [("place", 12)]) (N := ["day", "rows", "carried", "now", "here", "walks", "at", "walk", "many", "pair", "soaked", "lacks", "place"]) (sc := defScope s__law_hour_due) (by decide +kernel)) (fun _ _ _ _ _ => (pg_name (i := 12) sc__law_hour_due.nd rfl (by first | exact Or.inl rfl | exact Or.inr rfl))) (fun _ _ _ _ _ => (pts_one (pt_cmpR op_lt (pe_ix ix_list (pv 4) (pv 12) (fun _ _ => rfl)) pe_int (nomark _)))) (fun _ _ _ _ _ => (pv 12)))
      (pss_cons (ps_if (pt_cmpR (op_neD hr.units) (pv 11) (pe_lst pa_nil) (nomark _)) (pss_one (ps_ret (pe_tup (pa_cons pe_str (pa_cons (pe_ix ix_list (pv 11) pe_int (fun _ _ => rfl)) pa_nil))))) pss_nil)
      (pss_cons (ps_for PassesOwn.never rfl (pi_zip2 (by rfl) B.zip (pa_cons (pv 2) (pa_cons (pv 5) pa_nil))) (pg_tup rfl (pgs_cons (pg_name (i := 8) sc__law_hour_due.nd rfl (by first | exact Or.inl rfl | exact Or.inr rfl)) (pgs_cons (pg_name (i := 9) sc__law_hour_due.nd rfl (by first | exact Or.inl rfl | exact Or.inr rfl)) pgs_nil)))
      (pss_one (ps_asg (pe_op op_add (pe_ix ix_list (pv 4) (pe_ix ix_tup (pe_ix ix_tup (pv 9) pe_int (fun _ _ => rfl)) pe_int (fun _ _ => rfl)) (fun _ _ => rfl)) (pv 8)) (pg_sub (pv 4) (pe_ix ix_tup (pe_ix ix_tup (pv 9) pe_int (fun _ _ => rfl)) pe_int (fun _ _ => rfl)) set_list))))
      (pss_cons (ps_expr (pe_bm PySem.F.plainAttrs_list PySem.F.slot_list_append PySem.F.type_list_append mt_append (pv 1) (pa_cons (pe_tup (pa_cons (pe_callTy call_tuple_of (by rfl) B.tuple bt_tuple (pa_cons (pv 4) pa_nil)) (pa_cons (pv 2) pa_nil))) pa_nil)))
      (pss_one (ps_ret (pe_callTy call_tuple_of (by rfl) B.tuple bt_tuple (pa_cons (pv 4) pa_nil)))))))))))))))), ?_⟩
    walk_at "go"
    refine c_ixL (SqL.of hl) (atLast hrt) ?_
    walk_at "go"
    intro L nL
    have s0 := Same.new (o := .lst (vI R)) nL
    have hL0 : upd H L (.lst (vI R)) L = some (.lst (vI R)) := upd_same
    have nlL : L ≠ l := ne_had hl nL
    generalize upd H L (.lst (vI R)) = H00 at s0 hL0 ⊢
    have enow : ((rs.length : Int) - 1) = (Cs.length : Int) := by omega
    rw [enow]
    walk_at "go"
    refine ⟨szl (by simp), fun T0 nT0 => ?_⟩
    have s00 := Same.new (o := .tup [V.int (Cs.length : Int), V.ref L]) nT0
    have hT00 : upd H00 T0 (.tup [V.int (Cs.length : Int), V.ref L]) T0 = some (.tup [V.int (Cs.length : Int), V.ref L]) := upd_same
    replace hL0 := s00 _ _ hL0
    replace s0 := s0.trans s00
    generalize upd H00 T0 (.tup [V.int (Cs.length : Int), V.ref L]) = H0 at s0 hL0 hT00 ⊢
    clear s00
    have hday0 := s0.tup hday
    have hl0 := s0 _ _ hl
    have hd0 := hd.tx (.of s0)
    walk_at "go"
    by_cases hov : Cs.length = d.T
    · rw [show decide ((Cs.length : Int) = (d.T : Int)) = true from decide_eq_true (by omega)]
      refine iteT ?_
      walk_at "go"
      have eA : hourA d Cs.length R o = .word "Over" := hourA_over hov
      exact kno _ _ (fun new z => by rw [eA] at z; cases z) s0 (by rw [eA]; rfl)
    rw [show decide ((Cs.length : Int) = (d.T : Int)) = false from decide_eq_false (by omega)]
    refine iteF ?_
    walk_at "go"
    refine ⟨true, aw, ds, rfl, hd0.seq, fun D nD => ?_⟩
    refine lc_it walk_enumB (fun j H1 => ∃ zs, Same H0 H1 ∧ H1 D = some (.lst zs) ∧ PrsAt K H1 zs (((enumF 0 d.ws).take j).filter fun p => decide (p.2.h = Cs.length))) ⟨[], Same.new nD, upd_same, .nil⟩ (fun j H1 _ ⟨_, e, _⟩ => e.tup hd0.seq) ?_ ?_
    · rintro j y H1 H2 hj ⟨zs, e1, hD, hzs⟩ ⟨T', x1, y1, rfl, nT, rfl, hx1, hy1⟩
      cases hx1
      obtain ⟨v, xw, hv, rfl, hvT⟩ := hd0.wks.get hy1
      have hen : (enumF 0 d.ws)[j]? = some (j, v) := by rw [enumF_get, hv]; simp
      have s2 := Same.new (o := .tup [V.int (j : Int), V.ref xw]) nT
      have hvT' : SqT K (upd H1 T' (.tup [V.int (j : Int), V.ref xw])) xw [.int (v.h : Int), .int (v.b : Int), .int (v.e : Int), .bl v.wet, .int (v.r : Int)] := (e1.trans s2).tup hvT
      have hD2 := s2 _ _ hD
      have hT2 : upd H1 T' (.tup [V.int (j : Int), V.ref xw]) T' = some (.tup [V.int (j : Int), V.ref xw]) := upd_same
      generalize upd H1 T' (.tup [V.int (j : Int), V.ref xw]) = H2 at s2 hvT' hD2 hT2 ⊢
      have hfl := List.length_filter_le (fun p : Nat × Wk => decide (p.2.h = Cs.length)) ((enumF 0 d.ws).take j)
      rw [List.length_take, enumF_length] at hfl
      have hzl := hzs.1
      rw [take_succ_get hen, List.filter_append]
      walk_at "go"
      dsimp only [L2.wipe, List.foldl, List.set]
      refine ⟨rfl, ?_⟩
      walk_at "go"
      refine ite2 (fun hq => ?_) (fun hq => ?_)
      · have hq' : v.h = Cs.length := by have := of_decide_eq_true hq; omega
        walk_at "go"
        refine ⟨szl (by simp), fun t nt => ?_⟩
        have s3 := Same.new (o := .tup [V.int (j : Int), V.ref xw]) nt
        have hD3 := s3 _ _ hD2
        have tm := Tx.mutL (o := .lst (zs ++ [V.ref t])) hD3
        refine ⟨_, hD3, szl' (by omega), _, (e1.trans (s2.trans s3)).mut nD, upd_same, ?_⟩
        have e : [(j, v)].filter (fun p => decide (p.2.h = Cs.length)) = [(j, v)] := by simp [hq']
        rw [e]
        exact ((hzs.tx (.of (s2.trans s3))).tx tm).snoc (tm.tup (SqT.of upd_same)) (tm.tup (s3.tup hvT'))
      · have hq' : ¬ v.h = Cs.length := fun z => hq (decide_eq_true (by omega))
        have e : [(j, v)].filter (fun p => decide (p.2.h = Cs.length)) = [] := by simp [hq']
        rw [e, List.append_nil]
        exact ⟨zs, e1.trans s2, hD2, hzs.tx (.of s2)⟩
    · rintro H1 ⟨zs, e1, hD, hzs⟩
      rw [List.take_of_length_le (by rw [enumF_length]; omega)] at hzs
      have hzs' : PrsAt K H1 zs (hwN d Cs.length) := hzs
      have hsnd := hwN_snd d Cs.length
      have hnl : (hwN d Cs.length).length ≤ 12 := Nat.le_trans (hwN_le d _) hWl
      have hev : ∀ w ∈ hw d Cs.length, w.b < d.P ∧ w.e < d.P := fun w hw' => ⟨DD.ok.b w (List.mem_filter.mp hw').1, DD.ok.e w (List.mem_filter.mp hw').1⟩
      have hzl := hzs'.1
      have e01 := s0.trans e1
      have hL1 := e1 _ _ hL0
      have nLD : L ≠ D := (ne_had hL0 nD).symm
      have nD0 : H D = none := none_back s0 nD
      have nLH := nL
      rcases hvc with ⟨rfl, hnt⟩ | ⟨ca, ys, rfl, rfl, hca, hys, hyl⟩
      · have eA : hourA d Cs.length R none = .word "NoCarried" := hourA_none hov
        walk_at "go"
        refine isi_ntup (hnt.kp (.of e01)) ?_
        walk_at "go"
        refine iteT ?_
        refine iteT ?_
        walk_at "go"
        exact kno _ _ (fun new z => by rw [eA] at z; cases z) e01 (by rw [eA]; rfl)
      have hca1 := e01.tup hca
      walk_at "go"
      refine isi_tup hca1 ?_
      walk_at "go"
      refine iteF ?_
      walk_at "go"
      by_cases hlen : ys.length ≠ (hwN d Cs.length).length
      · have eA : hourA d Cs.length R (some ys) = .word "NoCarried" := hourA_no hov (fun z => hlen z.1)
        rw [show (!decide (((ys.length : Nat) : Int) = ((zs.length : Nat) : Int))) = true by simp; omega]
        refine iteT ?_
        walk_at "go"
        exact kno _ _ (fun new z => by rw [eA] at z; cases z) e01 (by rw [eA]; rfl)
      replace hlen := Decidable.not_not.mp hlen
      rw [show (!decide (((ys.length : Nat) : Int) = ((zs.length : Nat) : Int))) = false by simp; omega]
      refine iteF ?_
      walk_at "go"
      refine ⟨true, false, ca, D, _, zs, rfl, hca1, SqL.of hD, fun D2 nD2 => ?_⟩
      refine lc_it (walk_zip2 (n := (hwN d Cs.length).length) hlen hzl) (fun j H2 => Same H1 H2 ∧ H2 D2 = some (.lst (vI ((((((hwN d Cs.length).zip ys)).take j).filter (fun q => !okq q)).map (fun _ => (1 : Int)))))) ⟨Same.new nD2, upd_same⟩ (fun j H2 _ h => ⟨h.1.tup hca1, h.1.lst (SqL.of hD)⟩) ?_ ?_
      · rintro j y H2 H3 hj ⟨e2, hD2⟩ ⟨T', x1, y1, rfl, nT, rfl, hx1, hy1⟩
        obtain ⟨n, v, t, x, hu, rfl, ht, hx⟩ := hzs'.get hy1
        have s3 := e2.trans (Same.new (o := .tup [x1, V.ref t]) nT)
        have ht3 := s3.tup ht
        have hx3 : SqT K (upd H2 T' (.tup [x1, V.ref t])) x [.int (v.h : Int), .int (v.b : Int), .int (v.e : Int), .bl v.wet, .int (v.r : Int)] := s3.tup hx
        have hzg := zip_get hu hx1
        have hfl : (((((hwN d Cs.length).zip ys)).take j).filter (fun q => !okq q)).length ≤ 12 := by
          refine Nat.le_trans (List.length_filter_le _ _) ?_
          rw [List.length_take, List.length_zip]
          omega
        have hD2' := get_new (u := .tup [x1, V.ref t]) hD2 nT
        rw [take_succ_get hzg, List.filter_append, List.map_append]
        walk_at "go"
        dsimp only [L2.wipe, List.foldl, List.set]
        refine ⟨rfl, ?_⟩
        walk_at "go"
        refine ⟨x1, 0, (v.r : Int), rfl, (hys x1 (List.mem_of_getElem? hx1)).kn, ?_⟩
        have hq : okq ((n, v), x1) = isFromV x1 0 (v.r : Int) := rfl
        refine c_bl ?_
        cases hb : isFromV x1 0 (v.r : Int) with
        | true =>
          refine iteF ?_
          refine ⟨s3, ?_⟩
          rw [List.filter_cons, if_neg (by rw [hq, hb]; decide)]
          simpa using hD2'
        | false =>
          refine iteT ?_
          walk_at "go"
          refine ⟨_, hD2', szl' (by simp; omega), s3.mut nD2, ?_⟩
          rw [upd_same, List.filter_cons, if_pos (by rw [hq, hb]; decide)]
          simp
      · rintro H2 ⟨e2, hD2⟩
        rw [List.take_of_length_le (by rw [List.length_zip]; omega)] at hD2
        walk_at "go"
        refine ⟨szl (by simp), fun N1 nN1 => ?_⟩
        have sN := Same.new (o := .lst []) nN1
        refine c_neNil (SqL.of (sN _ _ hD2)) (SqL.of upd_same) ?_
        rw [bad_empty]
        have e12 := e01.trans (e2.trans sN)
        generalize upd H2 N1 (.lst []) = H2' at sN e12 ⊢
        have e22 := e2.trans sN
        cases hok : okC (hwN d Cs.length) ys with
        | false =>
          have eA : hourA d Cs.length R (some ys) = .word "NoCarried" := hourA_no hov (fun z => by rw [hok] at z; cases z.2)
          refine c_bl ?_
          refine iteT ?_
          walk_at "go"
          exact kno _ _ (fun new z => by rw [eA] at z; cases z) e12 (by rw [eA]; rfl)
        | true =>
        refine c_bl ?_
        refine iteF ?_
        have hyi := okC_ints hlen hok
        obtain ⟨cs, hcs0⟩ : ∃ cs, ys = vI cs := ⟨_, hyi⟩
        subst hcs0
        clear hyi hys
        rw [List.length_map] at hlen
        have hcl := hlen
        have hcs : ∀ (i : Nat) (w : Wk) (c : Int), ((hwN d Cs.length).map (·.2))[i]? = some w → cs[i]? = some c → 0 ≤ c ∧ c ≤ (w.r : Int) := fun i w c h1 h2 => by
          rw [List.getElem?_map] at h1
          obtain ⟨⟨n, w'⟩, h3, h4⟩ := Option.map_eq_some_iff.mp h1
          subst h4
          exact okC_at hok h3 h2
        have hca2 := e22.tup hca1
        have hDz := e22 _ _ hD
        have hL2 := e22 _ _ hL1
        have hzs2 := hzs'.tx (.of e22)
        have hlvd : leaveH d Cs.length R cs = (((hwN d Cs.length).map (·.2)).zip cs).foldl leave1 R := by unfold leaveH; rw [hsnd]
        have hhrd : hourH d Cs.length R cs = (((hwN d Cs.length).map (·.2)).zip cs).foldl come1 (leaveH d Cs.length R cs) := by unfold hourH; rw [hsnd]
        rw [← hsnd] at hev
        have hS1 := fun (n : Nat) (r : List Nat) => hourA_soak (d := d) (t := Cs.length) (R := R) (n := n) (r := r) hov hcl hok
        have hS2 := fun (n : Nat) (r : List Nat) => hourA_lack (d := d) (t := Cs.length) (R := R) (n := n) (r := r) hov hcl hok
        have hS3 := hourA_of (d := d) (t := Cs.length) (R := R) hov hcl hok
        clear hD2 hzs' hca1 hD e1 e2 hzs hsnd hok hL1 sN e22 e01 hL0 hd0 hl0 hday0 nN1
        generalize hwN d Cs.length = us at hcl hcs hzs2 hlvd hhrd hev hS1 hS2 hS3 hnl hzl
        clear H2
        rename Hp => H2
        walk_at "go"
        refine ⟨true, false, ca, D, _, zs, rfl, hca2, SqL.of hDz, fun D3 nD3 => ?_⟩
        refine lc_it (walk_zip2 (n := us.length) (by rw [List.length_map]; exact hcl) hzl) (fun j H3 => Same H2 H3 ∧ H3 D3 = some (.lst (vI ((((us.zip cs).take j).filter skq).map (fun q => ((q.1.1 : Nat) : Int)))))) ⟨Same.new nD3, upd_same⟩ (fun j H3 _ h => ⟨h.1.tup hca2, h.1.lst (SqL.of hDz)⟩) ?_ ?_
        · rintro j y H3 H4 hj ⟨e3, hD3⟩ ⟨T', x1, y1, rfl, nT, rfl, hx1, hy1⟩
          obtain ⟨c, hc, rfl⟩ := vI_inv hx1
          obtain ⟨n, v, t, x, hu, rfl, ht, hx⟩ := hzs2.get hy1
          have s3 := e3.trans (Same.new (o := .tup [V.int c, V.ref t]) nT)
          have ht3 := s3.tup ht
          have hx3 : SqT K (upd H3 T' (.tup [V.int c, V.ref t])) x [.int (v.h : Int), .int (v.b : Int), .int (v.e : Int), .bl v.wet, .int (v.r : Int)] := s3.tup hx
          have hzg := zip_get hu hc
          have hfl : (((us.zip cs).take j).filter skq).length ≤ 12 := by
            refine Nat.le_trans (List.length_filter_le _ _) ?_
            rw [List.length_take, List.length_zip]
            omega
          have hD3' := get_new (u := .tup [V.int c, V.ref t]) hD3 nT
          have hq : skq ((n, v), c) = (v.wet && decide (c = 0)) := rfl
          rw [take_succ_get hzg, List.filter_append, List.map_append]
          walk_at "go"
          dsimp only [L2.wipe, List.foldl, List.set]
          refine ⟨rfl, ?_⟩
          walk_at "go"
          cases hwet : v.wet with
          | true =>
            refine iteT ?_
            walk_at "go"
            by_cases hc0 : c = 0
            · rw [show decide (c = 0) = true from decide_eq_true hc0]
              refine iteT ?_
              walk_at "go"
              refine ⟨_, hD3', szl' (by simp; omega), s3.mut nD3, ?_⟩
              rw [upd_same, List.filter_cons, if_pos (by rw [hq, hwet, decide_eq_true hc0]; rfl)]
              simp
            · rw [show decide (c = 0) = false from decide_eq_false hc0]
              refine iteF ?_
              refine ⟨s3, ?_⟩
              rw [List.filter_cons, if_neg (by rw [hq, decide_eq_false hc0]; simp)]
              simpa using hD3'
          | false =>
            refine iteF ?_
            refine iteF ?_
            refine ⟨s3, ?_⟩
            rw [List.filter_cons, if_neg (by rw [hq, hwet]; simp)]
            simpa using hD3'
        · rintro H3 ⟨e3, hD3⟩
          rw [List.take_of_length_le (by rw [List.length_zip]; omega)] at hD3
          have hso : ((us.zip cs).filter skq).map (fun q => ((q.1.1 : Nat) : Int)) = (soaks us cs).map (fun n : Nat => (n : Int)) := by unfold soaks; rw [List.map_map]; rfl
          rw [hso] at hD3
          walk_at "go"
          refine ⟨szl (by simp), fun N1 nN1 => ?_⟩
          have sN := Same.new (o := .lst []) nN1
          have hD3N := sN _ _ hD3
          refine c_neNil (SqL.of hD3N) (SqL.of upd_same) ?_
          generalize upd H3 N1 (.lst []) = H3' at sN hD3N ⊢
          have e03 := e12.trans (e3.trans sN)
          cases hsk : soaks us cs with
          | cons n r =>
            have eA := hS1 n r hsk
            rw [hsk] at hD3N
            refine c_bl ?_
            refine iteT ?_
            walk_at "go"
            refine ⟨szl (by simp), fun t nt => ?_⟩
            exact kno _ _ (fun new z => by rw [eA] at z; cases z) (e03.trans (Same.new nt)) (by rw [eA]; exact ⟨t, rfl, SqT.of upd_same⟩)
          | nil =>
          refine c_bl ?_
          refine iteF ?_
          have hS0 : soaks us cs = [] := hsk
          have e3N := e3.trans sN
          have hca3 := e3N.tup hca2
          have hDz3 := e3N _ _ hDz
          have hzs3 := hzs2.tx (.of e3N)
          have hL3 := e3N _ _ hL2
          clear hca2 hDz hzs2 e12 e3 hD3 sN e3N hL2 hso nN1
          clear H3
          rename Hp => H3
          walk_at "go"
          refine ⟨true, false, ca, D, _, zs, rfl, hca3, SqL.of hDz3, ?_⟩
          refine for_it (walk_zip2 (n := us.length) (by rw [List.length_map]; exact hcl) hzl) (fun j σ' H5 => ∃ v8 v9, σ' = [some (.ref ad), some (.ref l), some (.ref ca), some (.int (Cs.length : Int)), some (.ref L), some (.ref D), none, none, v8, v9, some (.ref D3), none, none] ∧ Same H H5 ∧ Tx H3 H5 ∧ H5 D = some (.lst zs) ∧ H5 L = some (.lst (vI (((us.map (·.2)).zip cs).take j |>.foldl leave1 R)))) ⟨_, _, rfl, e03, Tx.refl _, hDz3, hL3⟩ (fun j σ' H5 _ ⟨_, _, _, _, t, hDD, _⟩ => ⟨t.tup hca3, SqL.of hDD⟩) ?_ ?_
          · rintro j y σ' H5 H6 hj ⟨v8, v9, rfl, e5, t5, hD5, hL5⟩ ⟨T', x1, y1, rfl, nT, rfl, hx1, hy1⟩
            obtain ⟨c, hc, rfl⟩ := vI_inv hx1
            obtain ⟨n, v, t, x, hu, rfl, ht, hx⟩ := hzs3.get hy1
            have s6 := Same.new (o := .tup [V.int c, V.ref t]) nT
            have t6 := t5.trans (.of s6)
            have ht6 := t6.tup ht
            have hx6 : SqT K (upd H5 T' (.tup [V.int c, V.ref t])) x [.int (v.h : Int), .int (v.b : Int), .int (v.e : Int), .bl v.wet, .int (v.r : Int)] := t6.tup hx
            have hL6 := s6 _ _ hL5
            have hD6 := s6 _ _ hD5
            have e6 := e5.trans s6
            have hT6 : upd H5 T' (.tup [V.int c, V.ref t]) T' = some (.tup [V.int c, V.ref t]) := upd_same
            generalize upd H5 T' (.tup [V.int c, V.ref t]) = H6 at s6 t6 ht6 hx6 hL6 hD6 e6 hT6 ⊢
            have hum : (us.map (·.2))[j]? = some v := by rw [List.getElem?_map, hu]; rfl
            have hvb := (hev v (List.mem_of_getElem? hum)).1
            have hll := fold_len leave1_len (((us.map (·.2)).zip cs).take j) R
            rw [take_succ_get (zip_get hum hc), List.foldl_append]
            generalize (((us.map (·.2)).zip cs).take j).foldl leave1 R = l' at hL6 hll ⊢
            have b0 : v.b < l'.length := by omega
            have g1 := vI_get b0
            have j1 : ixN (vI l').length (v.b : Int) = some v.b := ixN_nat (by simpa using b0)
            walk_at "go"
            refine ⟨_, _, rfl, e6.mut nLH, t6.trans (.mutL hL6), get_mut nLD.symm hD6, ?_⟩
            rw [upd_same, vI_set]
            show some (HO.lst (vI (l'.set v.b (l'.getD v.b 0 - c)))) = some (.lst (vI (addAt l' v.b (-c))))
            unfold addAt
            rw [Int.sub_eq_add_neg]
          · rintro σ' H5 ⟨v8, v9, rfl, e5, t5, hD5, hL5⟩
            rw [List.take_of_length_le (by rw [List.length_zip, List.length_map]; omega), ← hlvd] at hL5
            have hll : (leaveH d Cs.length R cs).length = d.P := by rw [leaveH_len, lR]
            have hS2 := fun (n : Nat) (r : List Nat) => hS2 n r hS0
            have hS3 := hS3 hS0
            generalize leaveH d Cs.length R cs = lv at hL5 hhrd hll hS2 hS3
            have hday5 := e5.tup hday
            walk_at "go"
            refine ⟨_, rfl, by omega, by omega, fun D4 nD4 => ?_⟩
            rw [Int.toNat_natCast]
            refine lc_it walk_rng (fun j H6 => Same H5 H6 ∧ H6 D4 = some (.lst (vI ((((List.range lv.length).take j).filter (lkq lv)).map (fun n : Nat => (n : Int)))))) ⟨Same.new nD4, upd_same⟩ (fun j H6 _ _ => trivial) ?_ ?_
            · rintro j y H6 H7 hj ⟨e6, hD6⟩ ⟨rfl, rfl⟩
              have hjl : j < lv.length := by omega
              have g1 := vI_get hjl
              have hrg : (List.range lv.length)[j]? = some j := by rw [List.getElem?_range hjl]
              have hL6 := e6 _ _ hL5
              have hfl : (((List.range lv.length).take j).filter (lkq lv)).length ≤ 5 := by
                refine Nat.le_trans (List.length_filter_le _ _) ?_
                rw [List.length_take, List.length_range]
                omega
              rw [take_succ_get hrg, List.filter_append, List.map_append]
              walk_at "go"
              refine ⟨rfl, ?_⟩
              walk_at "go"
              refine ite2 (fun hq => ?_) (fun hq => ?_)
              · walk_at "go"
                refine ⟨_, hD6, szl' (by rw [List.length_map, List.length_map]; omega), e6.mut nD4, ?_⟩
                rw [upd_same, List.filter_cons, if_pos (show lkq lv j = true from hq)]
                simp
              · refine ⟨e6, ?_⟩
                rw [List.filter_cons, if_neg (show ¬ lkq lv j = true from hq)]
                simpa using hD6
            · rintro H6 ⟨e6, hD6⟩
              rw [List.take_of_length_le (by rw [List.length_range]; omega)] at hD6
              have hla : ((List.range lv.length).filter (lkq lv)) = lacksL lv := rfl
              rw [hla] at hD6
              walk_at "go"
              refine ⟨szl (by simp), fun N1 nN1 => ?_⟩
              have sN := Same.new (o := .lst []) nN1
              have hD6N := sN _ _ hD6
              refine c_neNil (SqL.of hD6N) (SqL.of upd_same) ?_
              generalize upd H6 N1 (.lst []) = H6' at sN hD6N ⊢
              have e6N := e6.trans sN
              have e06 := e5.trans e6N
              cases hlk : lacksL lv with
              | cons n r =>
                have eA := hS2 n r hlk
                rw [hlk] at hD6N
                refine c_bl ?_
                refine iteT ?_
                walk_at "go"
                refine ⟨szl (by simp), fun t nt => ?_⟩
                exact kno _ _ (fun new z => by rw [eA] at z; cases z) (e06.trans (Same.new nt)) (by rw [eA]; exact ⟨t, rfl, SqT.of upd_same⟩)
              | nil =>
              refine c_bl ?_
              refine iteF ?_
              have hlv := lacks_nil hlk
              have hS3 := hS3 hlk
              have t6 := t5.trans (.of e6N)
              have hca6 := t6.tup hca3
              have hDz6 := e6N _ _ hD5
              have hzs6 := hzs3.tx t6
              have hL6 := e6N _ _ hL5
              clear hD6 hD6N e6 sN e6N t6 t5 e5 hD5 hL5 hca3 hDz3 hzs3 hL3 nN1
              clear H6
              rename Hp => H6
              walk_at "go"
              refine ⟨true, false, ca, D, _, zs, rfl, hca6, SqL.of hDz6, ?_⟩
              refine for_it (walk_zip2 (n := us.length) (by rw [List.length_map]; exact hcl) hzl) (fun j σ' H7 => ∃ v8 v9, σ' = [some (.ref ad), some (.ref l), some (.ref ca), some (.int (Cs.length : Int)), some (.ref L), some (.ref D), none, none, v8, v9, some (.ref D3), some (.ref D4), none] ∧ Same H H7 ∧ Tx H6 H7 ∧ H7 D = some (.lst zs) ∧ H7 L = some (.lst (vI (((us.map (·.2)).zip cs).take j |>.foldl come1 lv)))) ⟨_, _, rfl, e06, Tx.refl _, hDz6, hL6⟩ (fun j σ' H7 _ ⟨_, _, _, _, t, hDD, _⟩ => ⟨t.tup hca6, SqL.of hDD⟩) ?_ ?_
              · rintro j y σ' H7 H8 hj ⟨w8, w9, rfl, e7, t7, hD7, hL7⟩ ⟨T', x1, y1, rfl, nT, rfl, hx1, hy1⟩
                obtain ⟨c, hc, rfl⟩ := vI_inv hx1
                obtain ⟨n, v, t, x, hu, rfl, ht, hx⟩ := hzs6.get hy1
                have s8 := Same.new (o := .tup [V.int c, V.ref t]) nT
                have t8 := t7.trans (.of s8)
                have ht8 := t8.tup ht
                have hx8 : SqT K (upd H7 T' (.tup [V.int c, V.ref t])) x [.int (v.h : Int), .int (v.b : Int), .int (v.e : Int), .bl v.wet, .int (v.r : Int)] := t8.tup hx
                have hL8 := s8 _ _ hL7
                have hD8 := s8 _ _ hD7
                have e8 := e7.trans s8
                have hT8 : upd H7 T' (.tup [V.int c, V.ref t]) T' = some (.tup [V.int c, V.ref t]) := upd_same
                generalize upd H7 T' (.tup [V.int c, V.ref t]) = H8 at s8 t8 ht8 hx8 hL8 hD8 e8 hT8 ⊢
                have hum : (us.map (·.2))[j]? = some v := by rw [List.getElem?_map, hu]; rfl
                have hve := (hev v (List.mem_of_getElem? hum)).2
                have hll' := fold_len come1_len (((us.map (·.2)).zip cs).take j) lv
                rw [take_succ_get (zip_get hum hc), List.foldl_append]
                generalize (((us.map (·.2)).zip cs).take j).foldl come1 lv = l' at hL8 hll' ⊢
                have b0 : v.e < l'.length := by omega
                have g1 := vI_get b0
                have j1 : ixN (vI l').length (v.e : Int) = some v.e := ixN_nat (by simpa using b0)
                walk_at "go"
                refine ⟨_, _, rfl, e8.mut nLH, t8.trans (.mutL hL8), get_mut nLD.symm hD8, ?_⟩
                rw [upd_same, vI_set]
                rfl
              · rintro σ' H7 ⟨w8, w9, rfl, e7, t7, hD7, hL7⟩
                rw [List.take_of_length_le (by rw [List.length_zip, List.length_map]; omega), ← hhrd] at hL7
                generalize hourH d Cs.length R cs = new at hL7 hS3
                have hl7 := e7 _ _ hl
                clear hD7 hL6 hDz6 hca6 hzs6 t7 e06
                walk_at "go"
                intro t1 nt1
                have s8 := Same.new (o := .tup (vI new)) nt1
                have ht1 : SqT K (upd H7 t1 (.tup (vI new))) t1 (vI new) := SqT.of upd_same
                have hl8 := s8 _ _ hl7
                have hL8 := s8 _ _ hL7
                have e8 := e7.trans s8
                generalize upd H7 t1 (.tup (vI new)) = H8 at s8 ht1 hl8 hL8 e8 ⊢
                walk_at "go"
                refine ⟨szl (by simp), fun t2 nt2 => ?_⟩
                have s9 := Same.new (o := .tup [V.ref t1, V.ref ca]) nt2
                have ht2 : SqT K (upd H8 t2 (.tup [V.ref t1, V.ref ca])) t2 [V.ref t1, V.ref ca] := SqT.of upd_same
                have hl9 := s9 _ _ hl8
                have hL9 := s9 _ _ hL8
                have e9 := e8.trans s9
                have ht19 := s9.tup ht1
                generalize upd H8 t2 (.tup [V.ref t1, V.ref ca]) = H9 at s9 ht2 hl9 hL9 e9 ht19 ⊢
                walk_at "go"
                refine c_app hl9 (szl' (by omega)) ?_
                have t910 : Tx H9 (upd H9 l (.lst (rs ++ [V.ref t2]))) := Tx.mutL hl9
                have hL10 : upd H9 l (.lst (rs ++ [V.ref t2])) L = _ := get_mut nlL hL9
                have hl10 : upd H9 l (.lst (rs ++ [V.ref t2])) l = some (.lst (rs ++ [V.ref t2])) := upd_same
                have o10 : Ov l H (upd H9 l (.lst (rs ++ [V.ref t2]))) := (Ov.of e9).trans Ov.upd
                generalize upd H9 l (.lst (rs ++ [V.ref t2])) = H10 at t910 hL10 hl10 o10 ⊢
                walk_at "go"
                intro t3 nt3
                have s11 := Same.new (o := .tup (vI new)) nt3
                have tA : Tx H H10 := (Tx.of e9).trans t910
                refine kyes cs new _ _ hS3 rfl (o10.trans (.of s11)) ?_ ⟨t3, rfl, SqT.of upd_same⟩
                exact (hrw.snoc hl hru.len tA hl10 (t910.tup ht2) (t910.tup ht19) (tA.tup hca)).same s11
end
section
variable {P : Program} {w : World} {K : PySem.W.Frag} {mg : Str → Option Value} {base : Heap}
def spDue (K : PySem.W.Frag) : Sp := fun vs H Q _ => ∃ (ad aw l da : Addr) (ds : List V) (d : Day) (Rs Cs : List (List Int)) (dd : Deed), vs = [.ref ad, .ref l, .ref da] ∧ DayAt K H ad aw ds d ∧ DayD 5 8 12 d ∧ RowsAt K H l Rs Cs ∧ RunS d Rs Cs ∧ DeedAt K H da dd ∧
  ∀ x H', Ov l H H' → RowsAt K H' l (stepR d Rs Cs dd) (stepC d Rs Cs dd) → AnsAt K H' x (ansOf d Rs Cs dd) → Q x H'
theorem less_empty : ∀ R W : List Int, (((R.zip W).filter (fun q => decide (q.1 < q.2))).map (fun _ => (1 : Int))).isEmpty = (List.zipWith (fun s l => decide (l ≤ s)) R W).all id
  | [], W => by simp
  | _ :: _, [] => by simp
  | x :: R, y :: W => by
    have ih := less_empty R W
    rw [List.zip_cons_cons, List.filter_cons, List.zipWith_cons_cons, List.all_cons, ← ih]
    by_cases h : x < y
    · rw [if_pos (decide_eq_true h)]
      have h2 : ¬ y ≤ x := by omega
      simp [h2]
    · rw [if_neg (fun z => h (of_decide_eq_true z))]
      have h2 : y ≤ x := by omega
      simp [h2]
theorem df_due (B : Bl mg) (D_is_number : Df P w K mg base "_law_is_number" 1 ["thing", "least", "most"] (spIsFrom K)) (D_hour_due : Df P w K mg base "_law_hour_due" 2 ["day", "rows", "carried"] (spHourDue K)) (D_verdict : Df P w K mg base "verdict" 8 ["day", "starts", "wanted"] (spVerdict K)) (F : Has K mg "_law_due" s__law_due) : Df P w K mg base "_law_due" 9 ["day", "rows", "deed"] (spDue K) := by
  refine df_of F sc__law_due (fun _ _ _ _ _ _ us hl => match us, hl with | [_, _, _], _ => rfl) (fun vs H Q E h => ?_) (fun f cdv A outer s H vs Q E hr h => ?_)
  · obtain ⟨ad, aw, l, da, ds, d, Rs, Cs, dd, rfl, _⟩ := h
    rfl
  · obtain ⟨ad, aw, l, da, ds, d, Rs, Cs, dd, rfl, hd, DD, hrw, hru, hda, k⟩ := h
    obtain ⟨rs, tl, xl, yl, hl, hrl, hrt, hrt2, hxl⟩ := hrw.last hru.len
    have hday := hd.day
    have hWl := DD.W
    have hTm := DD.TM
    have hPm := DD.PM
    have hwl := hd.wks.len
    have hcap := hru.cap
    have hlenR := hru.len
    obtain ⟨lR, nR⟩ : (lastR Rs).length = d.P ∧ ∀ p, 0 ≤ (lastR Rs).getD p 0 := by
      refine hru.row _ ?_
      have hne : Rs.length - 1 < Rs.length := by omega
      unfold lastR
      rw [List.getD_eq_getElem?_getD, List.getElem?_eq_getElem hne]
      exact List.getElem_mem hne
    refine ⟨(tSeq (tIfS (tTest (tOp rEq (tOp (rIxT K) (tVar 2) (tC (.int 0))) (tC (.str "hour")))) (tRet (tCall (spHourDue K) [] E0 (tCons (tVar 0) (tCons (tVar 1) (tCons (tOp (rIxT K) (tVar 2) (tC (.int 1))) tNil))))) tNext) (tSeq (tIfS (tTest (tOp rEq (tOp (rIxT K) (tVar 2) (tC (.int 0))) (tC (.str "back")))) (tSeq (tIfS (tTest (tOp rEq (tCB (rLenS K) (tCons (tVar 1) tNil)) (tC (.int 1)))) (tRet (tC (.str "NothingLeft"))) tNext) (tSeq (tDrop (tBM0 K "list" rPop (tVar 1))) (tRet (tC .non)))) tNext) (tSeq (tAsg (tTup (tCons (tOp (rIxT K) (tVar 2) (tC (.int 1))) (tCons (tOp (rI0 fun i j => .int (i - j)) (tCB (rLenS K) (tCons (tVar 1) tNil)) (tC (.int 1))) tNil))) (gTup K 2 (gCons (gName 3) (gCons (gName 4) gNil)))) (tSeq (tIfS (tOr (tNot (tB (tCB (rIsi K) (tCons (tVar 3) (tCons (tC (.ty "tuple")) tNil))))) (tTest (tOp rNe (tCB (rLenS K) (tCons (tVar 3) tNil)) (tOp (rIxT K) (tVar 0) (tC (.int 0)))))) (tRet (tC (.str "NoWanted"))) tNext) (tSeq (tIfS (tTest (tOp (rNeD K) (tLc (iTup K (tVar 3)) (gName 5) (tNot (tB (tCall (spIsFrom K) [] E0 (tCons (tVar 5) (tCons (tC (.int 0)) (tCons (tC (.int 20)) tNil)))))) (tVar 5) [5]) (tLst tNil))) (tRet (tC (.str "NoWanted"))) tNext) (tSeq (tIfS (tTest (tOp rEq (tVar 4) (tOp (rIxT K) (tVar 0) (tC (.int 1))))) (tRet (tOp (rEqD K) (tLc (iZip2 K (tCons (tOp (rIxT K) (tOp (rIxL K) (tVar 1) (tUn (rU fun i => .int (-i)) (tC (.int 1)))) (tC (.int 0))) (tCons (tVar 3) tNil))) (gTup K 2 (gCons (gName 5) (gCons (gName 6) gNil))) (tTest (tOp (rI0 fun i j => .bl (decide (i < j))) (tVar 5) (tVar 6))) (tC (.int 1)) [5, 6]) (tLst tNil))) tNext) (tSeq (tAsg (tCB (rTupOf K) (tCons (tLc (iTup K (tOp (rIxT K) (tVar 0) (tC (.int 2)))) (gName 8) (tTest (tOp (rI0 fun i j => .bl (decide (j ≤ i))) (tOp (rIxT K) (tVar 8) (tC (.int 0))) (tVar 4))) (tOp (rCatA K) (tTup (tCons (tOp (rI0 fun i j => .int (i - j)) (tOp (rIxT K) (tVar 8) (tC (.int 0))) (tVar 4)) tNil)) (tSl (rSlA K) (tVar 8) (tPart (tC (.int 1))) tNoPart)) [8]) tNil)) (gName 7)) (tRet (tOp rEq (tOp (rIxT K) (tCall (spVerdict K) [] E0 (tCons (tTup (tCons (tOp (rIxT K) (tVar 0) (tC (.int 0))) (tCons (tOp (rI0 fun i j => .int (i - j)) (tOp (rIxT K) (tVar 0) (tC (.int 1))) (tVar 4)) (tCons (tVar 7) tNil)))) (tCons (tOp (rIxT K) (tOp (rIxL K) (tVar 1) (tUn (rU fun i => .int (-i)) (tC (.int 1)))) (tC (.int 0))) (tCons (tVar 3) tNil)))) (tC (.int 0))) (tC (.str "dry"))))))))))),
      (pss_cons (ps_if (pt_cmpR op_eq (pe_ix ix_tup (pv 2) pe_int (fun _ _ => rfl)) pe_str (nomark _)) (pss_one (ps_ret (pe_df D_hour_due (hr.mono (by decide)) (by rfl) (pa_cons (pv 0) (pa_cons (pv 1) (pa_cons (pe_ix ix_tup (pv 2) pe_int (fun _ _ => rfl)) pa_nil)))))) pss_nil)
      (pss_cons (ps_if (pt_cmpR op_eq (pe_ix ix_tup (pv 2) pe_int (fun _ _ => rfl)) pe_str (nomark _)) (pss_cons (ps_if (pt_cmpR op_eq (pe_callB call_len_seq (by rfl) B.len bt_len (pa_cons (pv 1) pa_nil)) pe_int (nomark _)) (pss_one (ps_ret pe_str)) pss_nil)
      (pss_cons (ps_expr (pe_bm0 PySem.F.plainAttrs_list PySem.F.slot_list_pop PySem.F.type_list_pop mt_pop (pv 1)))
      (pss_one (ps_ret pe_non)))) pss_nil)
      (pss_cons (ps_asg (pe_tup (pa_cons (pe_ix ix_tup (pv 2) pe_int (fun _ _ => rfl)) (pa_cons (pe_op op_sub (pe_callB call_len_seq (by rfl) B.len bt_len (pa_cons (pv 1) pa_nil)) pe_int) pa_nil))) (pg_tup rfl (pgs_cons (pg_name (i := 3) sc__law_due.nd rfl (by first | exact Or.inl rfl | exact Or.inr rfl)) (pgs_cons (pg_name (i := 4) sc__law_due.nd rfl (by first | exact Or.inl rfl | exact Or.inr rfl)) pgs_nil))))
      (pss_cons (ps_if (PW.pt (pw_or (pt_not (pt_val (pe_callB call_isi (by rfl) B.isinstance bt_isinstance (pa_cons (pv 3) (pa_cons (pe_bltn (v := .ty "tuple") (by rfl) B.tuple bt_tuple rfl) pa_nil))))) (pw_or1 (pt_cmpR op_ne (pe_callB call_len_seq (by rfl) B.len bt_len (pa_cons (pv 3) pa_nil)) (pe_ix ix_tup (pv 0) pe_int (fun _ _ => rfl)) (nomark _))))) (pss_one (ps_ret pe_str)) pss_nil)
      (pss_cons (ps_if (pt_cmpR (op_neD hr.units) (pe_lc (own := [("one", 5)]) (g := (gName 5)) (tt := (tNot (tB (tCall (spIsFrom K) [] E0 (tCons (tVar 5) (tCons (tC (.int 0)) (tCons (tC (.int 20)) tNil))))))) (te := (tVar 5)) rfl sc__law_due.nd (pi_tup (pv 3)) (blkOk_by (own := [("one", 5)]) (N := ["day", "rows", "deed", "wanted", "now", "one", "least", "left", "walk"]) (sc := defScope s__law_due) (by decide +kernel)) (fun _ _ _ _ _ => (pg_name (i := 5) sc__law_due.nd rfl (by first | exact Or.inl rfl | exact Or.inr rfl))) (fun _ _ _ _ _ => (pts_one (pt_not (pt_val (pe_df D_is_number (hr.mono (by decide)) (by rfl) (pa_cons (pv 5) (pa_cons pe_int (pa_cons pe_int pa_nil)))))))) (fun _ _ _ _ _ => (pv 5))) (pe_lst pa_nil) (nomark _)) (pss_one (ps_ret pe_str)) pss_nil)
      (pss_cons (ps_if (pt_cmpR op_eq (pv 4) (pe_ix ix_tup (pv 0) pe_int (fun _ _ => rfl)) (nomark _)) (pss_one (ps_ret (pe_cmpR (op_eqD hr.units) (pe_lc (own := [("one", 5), ("least", 6)]) (g := (gTup K 2 (gCons (gName 5) (gCons (gName 6) gNil)))) (tt := (tTest (tOp (rI0 fun i j => .bl (decide (i < j))) (tVar 5) (tVar 6)))) (te := (tC (.int 1))) rfl sc__law_due.nd (pi_zip2 (by rfl) B.zip (pa_cons (pe_ix ix_tup (pe_ix ix_list (pv 1) (pe_un un_neg pe_int) (fun _ _ => rfl)) pe_int (fun _ _ => rfl)) (pa_cons (pv 3) pa_nil))) (blkOk_by (own := [("one", 5), ("least", 6)]) (N := ["day", "rows", "deed", "wanted", "now", "one", "least", "left", "walk"]) (sc := defScope s__law_due) (by decide +kernel)) (fun _ _ _ _ _ => (pg_tup rfl (pgs_cons (pg_name (i := 5) sc__law_due.nd rfl (by first | exact Or.inl rfl | exact Or.inr rfl)) (pgs_cons (pg_name (i := 6) sc__law_due.nd rfl (by first | exact Or.inl rfl | exact Or.inr rfl)) pgs_nil)))) (fun _ _ _ _ _ => (pts_one (pt_cmpR op_lt (pv 5) (pv 6) (nomark _)))) (fun _ _ _ _ _ => pe_int)) (pe_lst pa_nil) (nomark _)))) pss_nil)
      (pss_cons (ps_set (i := 7) sc__law_due.nd rfl (by first | exact Or.inl rfl | exact Or.inr rfl) (pe_callTy call_tuple_of (by rfl) B.tuple bt_tuple (pa_cons (pe_lc (own := [("walk", 8)]) (g := (gName 8)) (tt := (tTest (tOp (rI0 fun i j => .bl (decide (j ≤ i))) (tOp (rIxT K) (tVar 8) (tC (.int 0))) (tVar 4)))) (te := (tOp (rCatA K) (tTup (tCons (tOp (rI0 fun i j => .int (i - j)) (tOp (rIxT K) (tVar 8) (tC (.int 0))) (tVar 4)) tNil)) (tSl (rSlA K) (tVar 8) (tPart (tC (.int 1))) tNoPart))) rfl sc__law_due.nd (pi_tup (pe_ix ix_tup (pv 0) pe_int (fun _ _ => rfl))) (blkOk_by (own := [("walk", 8)]) (N := ["day", "rows", "deed", "wanted", "now", "one", "least", "left", "walk"]) (sc := defScope s__law_due) (by decide +kernel)) (fun _ _ _ _ _ => (pg_name (i := 8) sc__law_due.nd rfl (by first | exact Or.inl rfl | exact Or.inr rfl))) (fun _ _ _ _ _ => (pts_one (pt_cmpR op_ge (pe_ix ix_tup (pv 8) pe_int (fun _ _ => rfl)) (pv 4) (nomark _)))) (fun _ _ _ _ _ => (pe_op op_catA (pe_tup (pa_cons (pe_op op_sub (pe_ix ix_tup (pv 8) pe_int (fun _ _ => rfl)) (pv 4)) pa_nil)) (pe_slice sl_tupA (pv 8) (po_some pe_int) po_none)))) pa_nil)))
      (pss_one (ps_ret (pe_cmpR op_eq (pe_ix ix_tup (pe_df D_verdict (hr.mono (by decide)) (by rfl) (pa_cons (pe_tup (pa_cons (pe_ix ix_tup (pv 0) pe_int (fun _ _ => rfl)) (pa_cons (pe_op op_sub (pe_ix ix_tup (pv 0) pe_int (fun _ _ => rfl)) (pv 4)) (pa_cons (pv 7) pa_nil)))) (pa_cons (pe_ix ix_tup (pe_ix ix_list (pv 1) (pe_un un_neg pe_int) (fun _ _ => rfl)) pe_int (fun _ _ => rfl)) (pa_cons (pv 3) pa_nil)))) pe_int (fun _ _ => rfl)) pe_str (nomark _))))))))))), ?_⟩
    cases dd with
    | hour o =>
      obtain ⟨v, hdt, hv⟩ := hda
      walk_at "go"
      refine c_eqS ?_
      rw [show decide (("hour" : Str) = "hour") = true by decide]
      refine c_bl ?_
      refine iteT ?_
      walk_at "go"
      exact ⟨ad, aw, l, v, o, ds, d, Rs, Cs, rfl, hd, DD, hrw, hru, hv, fun x H' h1 h2 h3 => k x H' h1 h2 h3⟩
    | back =>
      have hdt : SqT K H da [V.str "back"] := hda
      walk_at "go"
      refine c_eqS ?_
      rw [show decide (("back" : Str) = "hour") = false by decide]
      refine c_bl ?_
      refine iteF ?_
      walk_at "go"
      refine c_eqS ?_
      rw [show decide (("back" : Str) = "back") = true by decide]
      refine c_bl ?_
      refine iteT ?_
      walk_at "go"
      by_cases hC : Cs = []
      · have hC0 : Cs.length = 0 := by rw [hC]; rfl
        rw [show decide (((rs.length : Nat) : Int) = 1) = true from decide_eq_true (by omega)]
        refine iteT ?_
        walk_at "go"
        refine k _ _ (Ov.refl _ _) ?_ ?_
        · rw [show stepR d Rs Cs .back = Rs from if_pos hC, show stepC d Rs Cs .back = Cs from if_pos hC]
          exact hrw
        · rw [show ansOf d Rs Cs .back = .word "NothingLeft" from if_pos hC]
          rfl
      · have hC0 : Cs.length ≠ 0 := fun z => hC (List.eq_nil_of_length_eq_zero z)
        rw [show decide (((rs.length : Nat) : Int) = 1) = false from decide_eq_false (by omega)]
        refine iteF ?_
        walk_at "go"
        refine ⟨l, rs, rs[rs.length - 1]'(by omega), rfl, rfl, hl, List.getElem?_eq_getElem _, ?_⟩
        have t1 : Tx H (upd H l (.lst rs.dropLast)) := Tx.mutL hl
        walk_at "go"
        refine k _ _ Ov.upd ?_ ?_
        · rw [show stepR d Rs Cs .back = Rs.dropLast from if_neg hC, show stepC d Rs Cs .back = Cs.dropLast from if_neg hC]
          exact hrw.pop (n := 0) hl hru.len hC t1 upd_same
        · rw [show ansOf d Rs Cs .back = .non from if_neg hC]
          rfl
    | ask o =>
      obtain ⟨v, hdt, hv⟩ := hda
      have kk : ∀ x H', Same H H' → AnsAt K H' x (askA d Cs.length (lastR Rs) o) → Q x H' := fun x H' e hx => k x H' (.of e) (hrw.same e) hx
      clear k
      generalize lastR Rs = R at *
      walk_at "go"
      refine c_eqS ?_
      rw [show decide (("ask" : Str) = "hour") = false by decide]
      refine c_bl ?_
      refine iteF ?_
      walk_at "go"
      refine c_eqS ?_
      rw [show decide (("ask" : Str) = "back") = false by decide]
      refine c_bl ?_
      refine iteF ?_
      walk_at "go"
      have enow : ((rs.length : Int) - 1) = (Cs.length : Int) := by omega
      rw [enow]
      refine ⟨szl (by simp), fun T0 nT0 => ?_⟩
      have s0 := Same.new (o := .tup [v, V.int (Cs.length : Int)]) nT0
      have hT0 : upd H T0 (.tup [v, V.int (Cs.length : Int)]) T0 = some (.tup [v, V.int (Cs.length : Int)]) := upd_same
      generalize upd H T0 (.tup [v, V.int (Cs.length : Int)]) = H0 at s0 hT0 ⊢
      have hday0 := s0.tup hday
      have hl0 := s0 _ _ hl
      rcases hv with ⟨rfl, hnt⟩ | ⟨wa, ys, rfl, rfl, hW, hys, hyl⟩
      · walk_at "go"
        refine isi_ntup (hnt.kp (.of s0)) ?_
        walk_at "go"
        refine iteT ?_
        refine iteT ?_
        walk_at "go"
        exact kk _ _ s0 rfl
      have hW0 := s0.tup hW
      walk_at "go"
      refine isi_tup hW0 ?_
      walk_at "go"
      refine iteF ?_
      walk_at "go"
      by_cases hlen : ys.length ≠ d.P
      · have eA : askA d Cs.length R (some ys) = .word "NoWanted" := if_neg fun z => hlen z.1
        rw [show (!decide (((ys.length : Nat) : Int) = (d.P : Int))) = true by simp; omega]
        refine iteT ?_
        walk_at "go"
        exact kk _ _ s0 (by rw [eA]; rfl)
      replace hlen := Decidable.not_not.mp hlen
      rw [show (!decide (((ys.length : Nat) : Int) = (d.P : Int))) = false by simp; omega]
      refine iteF ?_
      walk_at "go"
      refine ⟨wa, rfl, ⟨ys, hW0⟩, fun D nD => ?_⟩
      refine lc_it (walk_tup (xs := ys)) (fun j H1 => Same H0 H1 ∧ H1 D = some (.lst ((ys.take j).filter fun x => !isFromV x 0 20))) ⟨Same.new nD, upd_same⟩ (fun j H1 _ h => h.1.tup hW0) ?_ ?_
      · rintro j y H1 H2 hj ⟨e1, hD⟩ ⟨rfl, hy⟩
        have hfl : ((ys.take j).filter fun x => !isFromV x 0 20).length ≤ 5 := by
          refine Nat.le_trans (List.length_filter_le _ _) ?_
          rw [List.length_take]
          omega
        rw [take_succ_get hy, List.filter_append]
        walk_at "go"
        refine ⟨rfl, ?_⟩
        walk_at "go"
        refine ⟨y, 0, 20, rfl, (hys y (List.mem_of_getElem? hy)).kn, ?_⟩
        refine c_bl ?_
        cases hb : isFromV y 0 20 with
        | true =>
          refine iteF ?_
          exact ⟨e1, by simpa [hb] using hD⟩
        | false =>
          refine iteT ?_
          walk_at "go"
          refine ⟨_, hD, szl' (by omega), e1.mut nD, ?_⟩
          rw [upd_same]
          simp [hb]
      · rintro H1 ⟨e1, hD⟩
        rw [List.take_of_length_le (Nat.le_refl _)] at hD
        walk_at "go"
        refine ⟨szl (by simp), fun N1 nN1 => ?_⟩
        have sN := Same.new (o := .lst []) nN1
        refine c_neNilF (fun x hx => hys x (List.mem_filter.mp hx).1) (SqL.of (sN _ _ hD)) (SqL.of upd_same) ?_
        generalize upd H1 N1 (.lst []) = H1' at sN ⊢
        have e01 := s0.trans (e1.trans sN)
        have hem : (ys.filter fun x => !isFromV x 0 20).isEmpty = ys.all (fun x => isFromV x 0 20) := by
          clear hys hyl hlen hW hW0 hD kk
          induction ys with
          | nil => rfl
          | cons y ys ih =>
            rw [List.filter_cons, List.all_cons]
            cases isFromV y 0 20 <;> simp [ih] at ih ⊢
        rw [hem]
        cases hok : ys.all (fun x => isFromV x 0 20) with
        | false =>
          have eA : askA d Cs.length R (some ys) = .word "NoWanted" := if_neg fun z => by rw [hok] at z; cases z.2
          refine c_bl ?_
          refine iteT ?_
          walk_at "go"
          exact kk _ _ e01 (by rw [eA]; rfl)
        | true =>
        refine c_bl ?_
        refine iteF ?_
        have eA : askA d Cs.length R (some ys) = .bl (stayB d Cs.length R (ys.map intV)) := if_pos ⟨hlen, hok⟩
        replace kk : ∀ H', Same H H' → Q (.bl (stayB d Cs.length R (ys.map intV))) H' := fun H' e => kk _ H' e (by rw [eA]; rfl)
        obtain ⟨W, hW0'⟩ : ∃ W, ys = vI W := ⟨_, allInt hok⟩
        subst hW0'
        have lW : W.length = d.P := by rwa [List.length_map] at hlen
        have hWb : ∀ p, 0 ≤ W.getD p 0 ∧ W.getD p 0 ≤ 20 := fun p => by
          by_cases hp : p < W.length
          · have h1 := vI_get hp
            obtain ⟨_, h2, h3⟩ := isFromV_int (List.all_eq_true.mp hok _ (List.mem_of_getElem? h1))
            exact ⟨h2, h3⟩
          · rw [getD_big (by omega)]; decide
        rw [vI_intV] at kk
        have hday1 := e01.tup hday
        have hl1 := e01 _ _ hl
        have hW1 := e01.tup hW
        have hseq1 := e01.tup hd.seq
        have hrt1 := e01.tup hrt2
        have hxR1 : SqT K H1' xl (vI R) := e01.tup hxl
        clear hD e1 sN hem hok nN1 hW0 hl0 hday0 hT0
        unfold stayB at kk
        walk_at "go"
        by_cases hT : Cs.length = d.T
        · rw [if_pos hT] at kk
          rw [show decide ((Cs.length : Int) = (d.T : Int)) = true from decide_eq_true (by omega)]
          refine iteT ?_
          walk_at "go"
          refine c_ixL (SqL.of hl1) (atLast hrt) ?_
          walk_at "go"
          refine ⟨true, true, xl, wa, _, _, rfl, hxR1, hW1, fun D2 nD2 => ?_⟩
          refine lc_it (walk_zip2 (n := d.P) (by rw [List.length_map]; exact lR) (by rw [List.length_map]; exact lW)) (fun j H2 => Same H1' H2 ∧ H2 D2 = some (.lst (vI ((((R.zip W).take j).filter (fun q => decide (q.1 < q.2))).map (fun _ => (1 : Int)))))) ⟨Same.new nD2, upd_same⟩ (fun j H2 _ h => ⟨h.1.tup hxR1, h.1.tup hW1⟩) ?_ ?_
          · rintro j y H2 H3 hj ⟨e2, hD2⟩ ⟨T', x1, y1, rfl, nT, rfl, hx1, hy1⟩
            obtain ⟨n1, f1, rfl⟩ := vI_inv hx1
            obtain ⟨n2, f2, rfl⟩ := vI_inv hy1
            have hfl : (((R.zip W).take j).filter (fun q => decide (q.1 < q.2))).length ≤ 5 := by
              refine Nat.le_trans (List.length_filter_le _ _) ?_
              rw [List.length_take, List.length_zip]
              omega
            have s3 := e2.trans (Same.new (o := .tup [V.int n1, V.int n2]) nT)
            have hD2' := get_new (u := .tup [V.int n1, V.int n2]) hD2 nT
            rw [take_succ_get (zip_get f1 f2), List.filter_append, List.map_append]
            walk_at "go"
            refine ⟨rfl, ?_⟩
            walk_at "go"
            refine ite2 (fun hq => ?_) (fun hq => ?_)
            · walk_at "go"
              refine ⟨_, hD2', szl' (by rw [List.length_map, List.length_map]; omega), s3.mut nD2, ?_⟩
              rw [upd_same, List.filter_cons, if_pos hq]
              simp
            · refine ⟨s3, ?_⟩
              rw [List.filter_cons, if_neg hq]
              simpa using hD2'
          · rintro H2 ⟨e2, hD2⟩
            rw [List.take_of_length_le (by rw [List.length_zip]; omega)] at hD2
            walk_at "go"
            refine ⟨szl (by simp), fun N2 nN2 => ?_⟩
            have sN := Same.new (o := .lst []) nN2
            refine c_eqNil (SqL.of (sN _ _ hD2)) (SqL.of upd_same) ?_
            rw [less_empty]
            exact kk _ (e01.trans (e2.trans sN))
        · rw [if_neg hT] at kk
          rw [show decide ((Cs.length : Int) = (d.T : Int)) = false from decide_eq_false (by omega)]
          refine iteF ?_
          walk_at "go"
          refine ⟨aw, rfl, ⟨ds, hseq1⟩, fun D nD => ?_⟩
          refine lc_it (walk_tup (xs := ds)) (fun j H2 => ∃ zs, Same H1' H2 ∧ H2 D = some (.lst zs) ∧ Wks K H2 zs (((d.ws.take j).filter fun w => decide (Cs.length ≤ w.h)).map (restWk Cs.length))) ⟨[], Same.new nD, upd_same, .nil⟩ (fun j H2 _ ⟨_, e, _⟩ => e.tup hseq1) ?_ ?_
          · rintro j y H2 H3 hj ⟨zs, e2, hD, hzs⟩ ⟨rfl, hy⟩
            obtain ⟨v, xw, hv, rfl, hvT⟩ := hd.wks.get hy
            have hvT' : SqT K H3 xw [.int (v.h : Int), .int (v.b : Int), .int (v.e : Int), .bl v.wet, .int (v.r : Int)] := (e01.trans e2).tup hvT
            have hfl := List.length_filter_le (fun w : Wk => decide (Cs.length ≤ w.h)) (d.ws.take j)
            rw [List.length_take] at hfl
            have hzl := hzs.len
            rw [List.length_map] at hzl
            rw [take_succ_get hv, List.filter_append, List.map_append]
            walk_at "go"
            refine ⟨rfl, ?_⟩
            walk_at "go"
            refine ite2 (fun hq => ?_) (fun hq => ?_)
            · have hq' : Cs.length ≤ v.h := by have := of_decide_eq_true hq; omega
              walk_at "go"
              refine ⟨szl (by simp), fun t1 nt1 => ?_⟩
              have s3 := Same.new (o := .tup [V.int ((v.h : Int) - (Cs.length : Int))]) nt1
              have ht1 : SqT K (upd H3 t1 (.tup [V.int ((v.h : Int) - (Cs.length : Int))])) t1 [V.int ((v.h : Int) - (Cs.length : Int))] := SqT.of upd_same
              have hvT3 := s3.tup hvT'
              generalize upd H3 t1 (.tup [V.int ((v.h : Int) - (Cs.length : Int))]) = H4 at s3 ht1 hvT3 ⊢
              walk_at "go"
              refine c_slQ hvT3 fun t2 H5 s5 h5 => ?_
              rw [cut1] at h5
              refine c_catQ (s5.tup ht1) h5 (szl (by simp)) fun t3 H6 s6 h6 => ?_
              have s36 := s3.trans (s5.trans s6)
              have hD6 := s36 _ _ hD
              have tm := Tx.mutL (o := .lst (zs ++ [V.ref t3])) hD6
              have h6' : SqT K H6 t3 (wkV (restWk Cs.length v)) := by
                have e : (v.h : Int) - (Cs.length : Int) = ((v.h - Cs.length : Nat) : Int) := by omega
                rw [e] at h6
                exact h6
              refine ⟨_, hD6, szl' (by omega), _, (e2.trans s36).mut nD, upd_same, ?_⟩
              have e : [v].filter (fun w => decide (Cs.length ≤ w.h)) = [v] := by simp [hq']
              rw [e]
              exact ((hzs.tx (.of s36)).tx tm).snoc (tm.tup h6')
            · have hq' : ¬ Cs.length ≤ v.h := fun z => hq (decide_eq_true (by omega))
              have e : [v].filter (fun w => decide (Cs.length ≤ w.h)) = [] := by simp [hq']
              rw [e]
              exact ⟨zs, e2, hD, by simpa using hzs⟩
          · rintro H2 ⟨zs, e2, hD, hzs⟩
            rw [List.take_of_length_le (by omega)] at hzs
            have hrest := restD_len d Cs.length
            have hzl : zs.length ≤ 12 := by rw [hzs.len]; exact Nat.le_trans hrest hWl
            walk_at "go"
            intro tw ntw
            have s3 := Same.new (o := .tup zs) ntw
            have htw : SqT K (upd H2 tw (.tup zs)) tw zs := SqT.of upd_same
            generalize upd H2 tw (.tup zs) = H3 at s3 htw ⊢
            walk_at "go"
            refine ⟨szl (by simp), fun t4 nt4 => ?_⟩
            have s4 := Same.new (o := .tup [V.int (d.P : Int), V.int ((d.T : Int) - (Cs.length : Int)), V.ref tw]) nt4
            have s14 := e2.trans (s3.trans s4)
            have hd4 : DayAt K (upd H3 t4 (.tup [V.int (d.P : Int), V.int ((d.T : Int) - (Cs.length : Int)), V.ref tw])) t4 tw zs (restD d Cs.length) := by
              refine ⟨?_, s4.tup htw, hzs.tx (.of (s3.trans s4))⟩
              have e : (d.T : Int) - (Cs.length : Int) = ((d.T - Cs.length : Nat) : Int) := by omega
              rw [e]
              exact SqT.of upd_same
            generalize upd H3 t4 (.tup [V.int (d.P : Int), V.int ((d.T : Int) - (Cs.length : Int)), V.ref tw]) = H4 at s4 s14 hd4 ⊢
            have hl4 := s14 _ _ hl1
            have hrt4 := s14.tup hrt1
            walk_at "go"
            refine c_ixL (SqL.of hl4) (atLast hrt) ?_
            walk_at "go"
            refine ⟨t4, tw, xl, wa, zs, restD d Cs.length, R, W, rfl, ⟨hd4, restD_ok DD.ok _, ⟨by show d.P ≤ 1000; omega, by show d.T - Cs.length ≤ 1000; omega, by omega⟩, s14.tup hxR1, s14.tup hW1, lR, lW⟩, nR, fun p => (hWb p).1, fun hz H5 vr vc e5 hvr _ => ?_, fun hz H5 vr vl e5 hvr _ => ?_⟩
            · have hdb : dryB (restD d Cs.length) R W = true := decide_eq_true hz
              rw [hdb] at kk
              walk_at "go"
              refine c_eqS ?_
              rw [show decide (("dry" : Str) = "dry") = true by simp]
              exact kk _ (e01.trans (s14.trans e5))
            · have hdb : dryB (restD d Cs.length) R W = false := decide_eq_false hz
              rw [hdb] at kk
              walk_at "go"
              refine c_eqS ?_
              rw [show decide (("wet" : Str) = "dry") = false by decide]
              exact kk _ (e01.trans (s14.trans e5))
end
section
variable {P : Program} {w : World} {K : PySem.W.Frag} {mg : Str → Option Value} {base : Heap}
def spADeed (K : PySem.W.Frag) : Sp := fun vs H Q _ => ∃ (r ad aw pl : Addr) (t : Nat) (ds : List V) (d : Day) (C : List Int), vs = [.ref r, .ref ad, .ref pl, .int (t : Int)] ∧ Bag H r ∧ DayAt K H ad aw ds d ∧ DayD 5 8 12 d ∧ SqT K H pl (vI C) ∧ C.length = d.ws.length ∧ t ≤ d.T ∧
  ∀ (H' : Hp) (da : Addr) (dd : Deed), Ov r H H' → Bag H' r → DeedAt K H' da dd → Q (.ref da) H'
theorem fl_ints (l : List Int) : ∀ y ∈ vI l, Fl3 y := fun y hy => by
  obtain ⟨n, _, rfl⟩ := List.mem_map.mp hy
  trivial
theorem tv_ref {K : PySem.W.Frag} {H : Hp} {t : Addr} {ys : List V} (h : SqT K H t ys) (hf : ∀ y ∈ ys, Fl3 y) (hl : ys.length ≤ 1000) : TV K H (.ref t) (some ys) := .inr ⟨t, ys, rfl, rfl, h, hf, hl⟩
theorem tv_no {K : PySem.W.Frag} {H : Hp} {x : V} (h : NTup K H x) : TV K H x none := .inl ⟨rfl, h⟩
theorem df_a_deed (B : Bl mg) (D_take : Df P w K mg base "_law_take" 1 ["bag", "count"] spTake) (D_of : Df P w K mg base "_law_of" 2 ["bag", "some"] (spOf K)) (F : Has K mg "_law_a_deed" s__law_a_deed) : Df P w K mg base "_law_a_deed" 3 ["bag", "day", "plan", "now"] (spADeed K) := by
  refine df_of F sc__law_a_deed (fun _ _ _ _ _ _ us hl => match us, hl with | [_, _, _, _], _ => rfl) (fun vs H Q E h => ?_) (fun f cdv A outer s H vs Q E hr h => ?_)
  · obtain ⟨r, ad, aw, pl, t, ds, d, C, rfl, _⟩ := h
    rfl
  · obtain ⟨r, ad, aw, pl, tt, ds, d, C, rfl, hb, hd, DD, hpl, lC, hT, k⟩ := h
    have hday := hd.day
    have hWl := DD.W
    have hTm := DD.TM
    have hPm := DD.PM
    have hP2 := DD.P2
    have hwl := hd.wks.len
    refine ⟨(tSeq (tAsg (tLc (iEnumB K (tCons (tOp (rIxT K) (tVar 1) (tC (.int 2))) tNil)) (gTup K 2 (gCons (gName 5) (gCons (gName 6) gNil))) (tTest (tOp rEq (tOp (rIxT K) (tVar 6) (tC (.int 0))) (tVar 3))) (tTup (tCons (tVar 5) (tCons (tVar 6) tNil))) [5, 6]) (gName 4)) (tSeq (tAsg (tCB (rTupOf K) (tCons (tLc (iList K (tVar 4)) (gTup K 2 (gCons (gName 5) (gCons (gName 6) gNil))) tYes (tOp (rIxT K) (tVar 2) (tVar 5)) [5, 6]) tNil)) (gName 7)) (tSeq (tAsg (tCB (rTupOf K) (tCons (tLc (iList K (tVar 4)) (gTup K 2 (gCons (gName 5) (gCons (gName 6) gNil))) tYes (tCall spTake [] E0 (tCons (tVar 0) (tCons (tOp (rI0 fun i j => .int (i + j)) (tOp (rIxT K) (tVar 6) (tC (.int 4))) (tC (.int 2))) tNil))) [5, 6]) tNil)) (gName 8)) (tSeq (tAsg (tCall spTake [] E0 (tCons (tVar 0) (tCons (tC (.int 10)) tNil))) (gName 9)) (tSeq (tIfS (tTest (tOp (rI0 fun i j => .bl (decide (i < j))) (tVar 9) (tC (.int 5)))) (tRet (tTup (tCons (tC (.str "hour")) (tCons (tVar 7) tNil)))) tNext) (tSeq (tIfS (tTest (tOp (rI0 fun i j => .bl (decide (i < j))) (tVar 9) (tC (.int 7)))) (tRet (tTup (tCons (tC (.str "hour")) (tCons (tCall (spOf K) [] E0 (tCons (tVar 0) (tCons (tLst (tCons (tVar 8) (tCons (tCB (rListOf K) (tCons (tVar 7) tNil)) (tCons (tOp (rCatA K) (tVar 7) (tTup (tCons (tC (.int 0)) tNil))) (tCons (tSl (rSlA K) (tVar 7) (tPart (tC (.int 1))) tNoPart) (tCons (tC .non) (tCons (tOp (rRepA K) (tTup (tCons (tC (.bl true)) tNil)) (tCB (rLenS K) (tCons (tVar 7) tNil))) (tCons (tC (.int 3)) tNil)))))))) tNil))) tNil)))) tNext) (tSeq (tIfS (tTest (tOp rEq (tVar 9) (tC (.int 7)))) (tRet (tTup (tCons (tC (.str "back")) tNil))) tNext) (tSeq (tAsg (tCB (rTupOf K) (tCons (tLc (iRng1 (tCons (tOp (rIxT K) (tVar 1) (tC (.int 0))) tNil)) (gName 10) tYes (tCall spTake [] E0 (tCons (tVar 0) (tCons (tC (.int 3)) tNil))) [10]) tNil)) (gName 8)) (tSeq (tAsg (tLst (tCons (tOp (rRepA K) (tTup (tCons (tC (.int 0)) tNil)) (tOp (rIxT K) (tVar 1) (tC (.int 0)))) (tCons (tVar 8) (tCons (tC .non) (tCons (tTup (tCons (tC (.int 0)) tNil)) (tCons (tOp (rRepA K) (tTup (tCons (tC (.int 21)) tNil)) (tOp (rIxT K) (tVar 1) (tC (.int 0)))) (tCons (tOp rRep (tLst (tCons (tC (.int 0)) tNil)) (tOp (rIxT K) (tVar 1) (tC (.int 0)))) tNil))))))) (gName 11)) (tRet (tTup (tCons (tC (.str "ask")) (tCons (tCall (spOf K) [] E0 (tCons (tVar 0) (tCons (tVar 11) tNil))) tNil))))))))))))),
      (pss_cons (ps_setLc (i := 4) (own := [("at", 5), ("walk", 6)]) (g := (gTup K 2 (gCons (gName 5) (gCons (gName 6) gNil)))) (tt := (tTest (tOp rEq (tOp (rIxT K) (tVar 6) (tC (.int 0))) (tVar 3)))) (te := (tTup (tCons (tVar 5) (tCons (tVar 6) tNil)))) rfl sc__law_a_deed.nd rfl rfl (sw_true rfl rfl rfl (by decide +kernel)) (pi_enumB (by rfl) B.enumerate (pa_cons (pe_ix ix_tup (pv 1) pe_int (fun _ _ => rfl)) pa_nil)) (blkOk_by (own := [("at", 5), ("walk", 6)]) (N := ["bag", "day", "plan", "now", "walks", "at", "walk", "good", "drawn", "kind_so", "place", "odd"]) (sc := defScope s__law_a_deed) (by decide +kernel)) (fun _ _ _ _ _ => (pg_tup rfl (pgs_cons (pg_name (i := 5) sc__law_a_deed.nd rfl (by first | exact Or.inl rfl | exact Or.inr rfl)) (pgs_cons (pg_name (i := 6) sc__law_a_deed.nd rfl (by first | exact Or.inl rfl | exact Or.inr rfl)) pgs_nil)))) (fun _ _ _ _ _ => (pts_one (pt_cmpR op_eq (pe_ix ix_tup (pv 6) pe_int (fun _ _ => rfl)) (pv 3) (nomark _)))) (fun _ _ _ _ _ => (pe_tup (pa_cons (pv 5) (pa_cons (pv 6) pa_nil)))))
      (pss_cons (ps_set (i := 7) sc__law_a_deed.nd rfl (by first | exact Or.inl rfl | exact Or.inr rfl) (pe_callTy call_tuple_of (by rfl) B.tuple bt_tuple (pa_cons (pe_lc (own := [("at", 5), ("walk", 6)]) (g := (gTup K 2 (gCons (gName 5) (gCons (gName 6) gNil)))) (tt := tYes) (te := (tOp (rIxT K) (tVar 2) (tVar 5))) rfl sc__law_a_deed.nd (pi_list (pv 4)) (blkOk_by (own := [("at", 5), ("walk", 6)]) (N := ["bag", "day", "plan", "now", "walks", "at", "walk", "good", "drawn", "kind_so", "place", "odd"]) (sc := defScope s__law_a_deed) (by decide +kernel)) (fun _ _ _ _ _ => (pg_tup rfl (pgs_cons (pg_name (i := 5) sc__law_a_deed.nd rfl (by first | exact Or.inl rfl | exact Or.inr rfl)) (pgs_cons (pg_name (i := 6) sc__law_a_deed.nd rfl (by first | exact Or.inl rfl | exact Or.inr rfl)) pgs_nil)))) (fun _ _ _ _ _ => pts_nil) (fun _ _ _ _ _ => (pe_ix ix_tup (pv 2) (pv 5) (fun _ _ => rfl)))) pa_nil)))
      (pss_cons (ps_set (i := 8) sc__law_a_deed.nd rfl (by first | exact Or.inl rfl | exact Or.inr rfl) (pe_callTy call_tuple_of (by rfl) B.tuple bt_tuple (pa_cons (pe_lc (own := [("at", 5), ("walk", 6)]) (g := (gTup K 2 (gCons (gName 5) (gCons (gName 6) gNil)))) (tt := tYes) (te := (tCall spTake [] E0 (tCons (tVar 0) (tCons (tOp (rI0 fun i j => .int (i + j)) (tOp (rIxT K) (tVar 6) (tC (.int 4))) (tC (.int 2))) tNil)))) rfl sc__law_a_deed.nd (pi_list (pv 4)) (blkOk_by (own := [("at", 5), ("walk", 6)]) (N := ["bag", "day", "plan", "now", "walks", "at", "walk", "good", "drawn", "kind_so", "place", "odd"]) (sc := defScope s__law_a_deed) (by decide +kernel)) (fun _ _ _ _ _ => (pg_tup rfl (pgs_cons (pg_name (i := 5) sc__law_a_deed.nd rfl (by first | exact Or.inl rfl | exact Or.inr rfl)) (pgs_cons (pg_name (i := 6) sc__law_a_deed.nd rfl (by first | exact Or.inl rfl | exact Or.inr rfl)) pgs_nil)))) (fun _ _ _ _ _ => pts_nil) (fun _ _ _ _ _ => (pe_df D_take (hr.mono (by decide)) (by rfl) (pa_cons (pv 0) (pa_cons (pe_op op_add (pe_ix ix_tup (pv 6) pe_int (fun _ _ => rfl)) pe_int) pa_nil))))) pa_nil)))
      (pss_cons (ps_set (i := 9) sc__law_a_deed.nd rfl (by first | exact Or.inl rfl | exact Or.inr rfl) (pe_df D_take (hr.mono (by decide)) (by rfl) (pa_cons (pv 0) (pa_cons pe_int pa_nil))))
      (pss_cons (ps_if (pt_cmpR op_lt (pv 9) pe_int (nomark _)) (pss_one (ps_ret (pe_tup (pa_cons pe_str (pa_cons (pv 7) pa_nil))))) pss_nil)
      (pss_cons (ps_if (pt_cmpR op_lt (pv 9) pe_int (nomark _)) (pss_one (ps_ret (pe_tup (pa_cons pe_str (pa_cons (pe_df D_of (hr.mono (by decide)) (by rfl) (pa_cons (pv 0) (pa_cons (pe_lst (pa_cons (pv 8) (pa_cons (pe_callTy call_list_of (by rfl) B.list bt_list (pa_cons (pv 7) pa_nil)) (pa_cons (pe_op op_catA (pv 7) (pe_tup (pa_cons pe_int pa_nil))) (pa_cons (pe_slice sl_tupA (pv 7) (po_some pe_int) po_none) (pa_cons pe_non (pa_cons (pe_op op_repA (pe_tup (pa_cons pe_bl pa_nil)) (pe_callB call_len_seq (by rfl) B.len bt_len (pa_cons (pv 7) pa_nil))) (pa_cons pe_int pa_nil)))))))) pa_nil))) pa_nil))))) pss_nil)
      (pss_cons (ps_if (pt_cmpR op_eq (pv 9) pe_int (nomark _)) (pss_one (ps_ret (pe_tup (pa_cons pe_str pa_nil)))) pss_nil)
      (pss_cons (ps_set (i := 8) sc__law_a_deed.nd rfl (by first | exact Or.inl rfl | exact Or.inr rfl) (pe_callTy call_tuple_of (by rfl) B.tuple bt_tuple (pa_cons (pe_lc (own := [("place", 10)]) (g := (gName 10)) (tt := tYes) (te := (tCall spTake [] E0 (tCons (tVar 0) (tCons (tC (.int 3)) tNil)))) rfl sc__law_a_deed.nd (pi_range1 (by rfl) B.range (pa_cons (pe_ix ix_tup (pv 1) pe_int (fun _ _ => rfl)) pa_nil)) (blkOk_by (own := [("place", 10)]) (N := ["bag", "day", "plan", "now", "walks", "at", "walk", "good", "drawn", "kind_so", "place", "odd"]) (sc := defScope s__law_a_deed) (by decide +kernel)) (fun _ _ _ _ _ => (pg_name (i := 10) sc__law_a_deed.nd rfl (by first | exact Or.inl rfl | exact Or.inr rfl))) (fun _ _ _ _ _ => pts_nil) (fun _ _ _ _ _ => (pe_df D_take (hr.mono (by decide)) (by rfl) (pa_cons (pv 0) (pa_cons pe_int pa_nil))))) pa_nil)))
      (pss_cons (ps_set (i := 11) sc__law_a_deed.nd rfl (by first | exact Or.inl rfl | exact Or.inr rfl) (pe_lst (pa_cons (pe_op op_repA (pe_tup (pa_cons pe_int pa_nil)) (pe_ix ix_tup (pv 1) pe_int (fun _ _ => rfl))) (pa_cons (pv 8) (pa_cons pe_non (pa_cons (pe_tup (pa_cons pe_int pa_nil)) (pa_cons (pe_op op_repA (pe_tup (pa_cons pe_int pa_nil)) (pe_ix ix_tup (pv 1) pe_int (fun _ _ => rfl))) (pa_cons (pe_op op_rep (pe_lst (pa_cons pe_int pa_nil)) (pe_ix ix_tup (pv 1) pe_int (fun _ _ => rfl))) pa_nil))))))))
      (pss_one (ps_ret (pe_tup (pa_cons pe_str (pa_cons (pe_df D_of (hr.mono (by decide)) (by rfl) (pa_cons (pv 0) (pa_cons (pv 11) pa_nil))) pa_nil)))))))))))))), ?_⟩
    walk_at "go"
    refine ⟨true, aw, ds, rfl, hd.seq, fun D nD => ?_⟩
    refine lc_it walk_enumB (fun j H1 => ∃ zs, Same H H1 ∧ H1 D = some (.lst zs) ∧ PrsAt K H1 zs (((enumF 0 d.ws).take j).filter fun p => decide (p.2.h = tt))) ⟨[], Same.new nD, upd_same, .nil⟩ (fun j H1 _ ⟨_, e, _⟩ => e.tup hd.seq) ?_ ?_
    · rintro j y H1 H2 hj ⟨zs, e1, hD, hzs⟩ ⟨T', x1, y1, rfl, nT, rfl, hx1, hy1⟩
      cases hx1
      obtain ⟨v, xw, hv, rfl, hvT⟩ := hd.wks.get hy1
      have hen : (enumF 0 d.ws)[j]? = some (j, v) := by rw [enumF_get, hv]; simp
      have s2 := Same.new (o := .tup [V.int (j : Int), V.ref xw]) nT
      have hvT' : SqT K (upd H1 T' (.tup [V.int (j : Int), V.ref xw])) xw [.int (v.h : Int), .int (v.b : Int), .int (v.e : Int), .bl v.wet, .int (v.r : Int)] := (e1.trans s2).tup hvT
      have hD2 := s2 _ _ hD
      have hT2 : upd H1 T' (.tup [V.int (j : Int), V.ref xw]) T' = some (.tup [V.int (j : Int), V.ref xw]) := upd_same
      generalize upd H1 T' (.tup [V.int (j : Int), V.ref xw]) = H2 at s2 hvT' hD2 hT2 ⊢
      have hfl := List.length_filter_le (fun p : Nat × Wk => decide (p.2.h = tt)) ((enumF 0 d.ws).take j)
      rw [List.length_take, enumF_length] at hfl
      have hzl := hzs.1
      rw [take_succ_get hen, List.filter_append]
      walk_at "go"
      dsimp only [L2.wipe, List.foldl, List.set]
      refine ⟨rfl, ?_⟩
      walk_at "go"
      refine ite2 (fun hq => ?_) (fun hq => ?_)
      · have hq' : v.h = tt := by have := of_decide_eq_true hq; omega
        walk_at "go"
        refine ⟨szl (by simp), fun t nt => ?_⟩
        have s3 := Same.new (o := .tup [V.int (j : Int), V.ref xw]) nt
        have hD3 := s3 _ _ hD2
        have tm := Tx.mutL (o := .lst (zs ++ [V.ref t])) hD3
        refine ⟨_, hD3, szl' (by omega), _, (e1.trans (s2.trans s3)).mut nD, upd_same, ?_⟩
        have e : [(j, v)].filter (fun p => decide (p.2.h = tt)) = [(j, v)] := by simp [hq']
        rw [e]
        exact ((hzs.tx (.of (s2.trans s3))).tx tm).snoc (tm.tup (SqT.of upd_same)) (tm.tup (s3.tup hvT'))
      · have hq' : ¬ v.h = tt := fun z => hq (decide_eq_true (by omega))
        have e : [(j, v)].filter (fun p => decide (p.2.h = tt)) = [] := by simp [hq']
        rw [e, List.append_nil]
        exact ⟨zs, e1.trans s2, hD2, hzs.tx (.of s2)⟩
    · rintro H1 ⟨zs, e1, hD, hzs⟩
      rw [List.take_of_length_le (by rw [enumF_length]; omega)] at hzs
      have hzs' : PrsAt K H1 zs (hwN d tt) := hzs
      have hnl : (hwN d tt).length ≤ 12 := Nat.le_trans (hwN_le d _) hWl
      have hzl := hzs'.1
      have hub : ∀ q ∈ hwN d tt, q.1 < C.length ∧ q.2.r ≤ 3 := fun q hq => by
        have h1 := (List.mem_filter.mp hq).1
        obtain ⟨j, e, h2⟩ := (mem_enumF d.ws 0 q.1 q.2).mp h1
        refine ⟨?_, DD.r3 _ (List.mem_of_getElem? h2)⟩
        have := (List.getElem?_eq_some_iff.mp h2).1
        omega
      generalize hwN d tt = us at hzs' hnl hzl hub
      clear hzs
      have hb1 := hb.same e1
      have hpl1 := e1.tup hpl
      have hday1 := e1.tup hday
      have nDr : D ≠ r := hb.ne nD
      walk_at "go"
      refine ⟨D, rfl, ⟨zs, SqL.of hD⟩, fun D2 nD2 => ?_⟩
      refine lc_it (walk_list (xs := zs)) (fun j H2 => Same H1 H2 ∧ H2 D2 = some (.lst (vI ((us.take j).map fun q => C.getD q.1 0)))) ⟨Same.new nD2, upd_same⟩ (fun j H2 _ h => h.1.lst (SqL.of hD)) ?_ ?_
      · rintro j y H2 H3 hj ⟨e2, hD2⟩ ⟨rfl, hy⟩
        obtain ⟨n, v, t, x, hu, rfl, ht, hx⟩ := hzs'.get hy
        have hb0 := (hub _ (List.mem_of_getElem? hu)).1
        have g1 := vI_get hb0
        have ht2 := e2.tup ht
        have hpl2 := e2.tup hpl1
        walk_at "go"
        dsimp only [L2.wipe, List.foldl, List.set]
        refine ⟨rfl, ?_⟩
        walk_at "go"
        refine iteT ?_
        walk_at "go"
        refine ⟨_, hD2, szl' (by simp; omega), e2.mut nD2, ?_⟩
        rw [upd_same, take_succ_get hu]
        simp
      · rintro H2 ⟨e2, hD2⟩
        rw [List.take_of_length_le (by omega)] at hD2
        generalize hgood : (us.map fun q => C.getD q.1 0) = good at hD2
        have hgl : good.length = us.length := by rw [← hgood, List.length_map]
        walk_at "go"
        intro tg ntg
        have s3 := Same.new (o := .tup (vI good)) ntg
        have htg : SqT K (upd H2 tg (.tup (vI good))) tg (vI good) := SqT.of upd_same
        have e13 := e2.trans s3
        have hb3 := hb1.same e13
        have hD3 := e13 _ _ hD
        have hzs3 := hzs'.tx (.of e13)
        have hday3 := e13.tup hday1
        have e03 := e1.trans e13
        generalize upd H2 tg (.tup (vI good)) = H3 at s3 htg e13 hb3 hD3 hzs3 hday3 e03 ⊢
        clear hD2 hzs' hD e1 e2 hb1 hpl1 hday1 s3 e13
        walk_at "go"
        refine ⟨D, rfl, ⟨zs, SqL.of hD3⟩, fun D3 nD3 => ?_⟩
        have nD3r : D3 ≠ r := hb3.ne nD3
        have nDD : D ≠ D3 := (ne_had hD3 nD3).symm
        refine lc_it (walk_list (xs := zs)) (fun j H4 => ∃ W : List Int, Ov r H3 H4 ∧ Bag H4 r ∧ H4 D3 = some (.lst (vI W)) ∧ W.length = j) ⟨[], .new nD3, hb3.mut nD3r.symm, upd_same, rfl⟩ (fun j H4 _ ⟨_, o, _, _⟩ => SqL.of (o _ _ hD3 nDr)) ?_ ?_
        · rintro j y H4 H5 hj ⟨W, e4, hb4, hD4, hl4⟩ ⟨rfl, hy⟩
          obtain ⟨n, v, t, x, hu, rfl, ht, hx⟩ := hzs3.get hy
          have hr3 : v.r ≤ 3 := (hub _ (List.mem_of_getElem? hu)).2
          have t4 := hb3.tx e4
          have ht4 := t4.tup ht
          have hx4 : SqT K H5 x [.int (v.h : Int), .int (v.b : Int), .int (v.e : Int), .bl v.wet, .int (v.r : Int)] := t4.tup hx
          walk_at "go"
          dsimp only [L2.wipe, List.foldl, List.set]
          refine ⟨rfl, ?_⟩
          walk_at "go"
          refine iteT ?_
          walk_at "go"
          refine ⟨r, v.r + 2, by simp, hb4, by omega, by omega, fun z H6 hz e6 hb6 => ?_⟩
          refine ⟨_, e6 _ _ hD4 nD3r, szl' (by simp; omega), W ++ [(z : Int)], (e4.trans e6).mut nD3, hb6.mut nD3r.symm, ?_, by simp [hl4]⟩
          rw [upd_same]; simp
        · rintro H4 ⟨dr, e4, hb4, hD4, hl4⟩
          walk_at "go"
          intro td ntd
          have s5 := Same.new (o := .tup (vI dr)) ntd
          have htd : SqT K (upd H4 td (.tup (vI dr))) td (vI dr) := SqT.of upd_same
          have t4 := hb3.tx e4
          have htg5 := s5.tup (t4.tup htg)
          have hday5 := s5.tup (t4.tup hday3)
          have hb5 := hb4.same s5
          have o5 : Ov r H (upd H4 td (.tup (vI dr))) := ((Ov.of e03).trans e4).trans (.of s5)
          generalize upd H4 td (.tup (vI dr)) = H5 at s5 htd htg5 hday5 hb5 o5 ⊢
          have hdl : dr.length ≤ 12 := by omega
          clear hD4 e4 hb4 t4 htg hday3 hb3 hD3 hzs3 e03 s5 hl4
          walk_at "go"
          refine ⟨r, 10, rfl, hb5, by omega, by omega, fun z H6 hz o6 hb6 => ?_⟩
          have t6 := hb5.tx o6
          have htd6 := t6.tup htd
          have htg6 := t6.tup htg5
          have hday6 := t6.tup hday5
          have o06 := o5.trans o6
          clear htd htg5 hday5 hb5 o5 o6 t6
          walk_at "go"
          refine ite2 (fun hq => ?_) (fun hq => ?_)
          · walk_at "go"
            refine ⟨szl (by simp), fun da nda => ?_⟩
            have s7 := Same.new (o := .tup [V.str "hour", V.ref tg]) nda
            exact k _ da (.hour (some (vI good))) (o06.trans (.of s7)) (hb6.same s7) ⟨_, SqT.of upd_same, tv_ref (s7.tup htg6) (fl_ints good) (by simp; omega)⟩
          walk_at "go"
          refine ite2 (fun hq2 => ?_) (fun hq2 => ?_)
          · walk_at "go"
            intro l1 nl1
            have s7 := Same.new (o := .lst (vI good)) nl1
            have hl7 : SqL K (upd H6 l1 (.lst (vI good))) l1 (vI good) := SqL.of upd_same
            generalize upd H6 l1 (.lst (vI good)) = H7 at s7 hl7 ⊢
            have htd7 := s7.tup htd6
            have htg7 := s7.tup htg6
            have hb7 := hb6.same s7
            have o07 := o06.trans (.of s7)
            walk_at "go"
            refine ⟨szl (by simp), fun z1 nz1 => ?_⟩
            have s8 := Same.new (o := .tup [V.int 0]) nz1
            have hz8 : SqT K (upd H7 z1 (.tup [V.int 0])) z1 [V.int 0] := SqT.of upd_same
            generalize upd H7 z1 (.tup [V.int 0]) = H8 at s8 hz8 ⊢
            refine c_catQ (s8.tup htg7) hz8 (szl (by simp; omega)) fun p1 H9 s9 hp1 => ?_
            walk_at "go"
            refine c_slQ ((s8.trans s9).tup htg7) fun p2 H10 s10 hp2 => ?_
            walk_at "go"
            refine ⟨szl (by simp), fun z2 nz2 => ?_⟩
            have s11 := Same.new (o := .tup [V.bl true]) nz2
            have hz11 : SqT K (upd H10 z2 (.tup [V.bl true])) z2 [V.bl true] := SqT.of upd_same
            generalize upd H10 z2 (.tup [V.bl true]) = H11 at s11 hz11 ⊢
            have s7_11 := s8.trans (s9.trans (s10.trans s11))
            have htg11 := s7_11.tup htg7
            walk_at "go"
            refine c_repA hz11 (by simp; omega) fun p3 H12 s12 hp3 => ?_
            walk_at "go"
            refine ⟨szl (by simp), fun lst nlst => ?_⟩
            have s7_12 := s7_11.trans s12
            have s13 := Same.new (o := .lst [V.ref td, V.ref l1, V.ref p1, V.ref p2, V.non, V.ref p3, V.int 3]) nlst
            have hl13 : upd H12 lst (.lst [V.ref td, V.ref l1, V.ref p1, V.ref p2, V.non, V.ref p3, V.int 3]) lst = some (.lst [V.ref td, V.ref l1, V.ref p1, V.ref p2, V.non, V.ref p3, V.int 3]) := upd_same
            generalize upd H12 lst (.lst [V.ref td, V.ref l1, V.ref p1, V.ref p2, V.non, V.ref p3, V.int 3]) = H13 at s13 hl13 ⊢
            have s7_13 := s7_12.trans s13
            have hall : ∀ v ∈ [V.ref td, V.ref l1, V.ref p1, V.ref p2, V.non, V.ref p3, V.int 3], ∃ o, TV K H13 v o := by
              intro v hv
              simp only [List.mem_cons, List.not_mem_nil, or_false] at hv
              rcases hv with rfl | rfl | rfl | rfl | rfl | rfl | rfl
              · exact ⟨_, tv_ref (s7_13.tup htd7) (fl_ints dr) (by simp; omega)⟩
              · exact ⟨_, tv_no ⟨_, s7_13.lst hl7⟩⟩
              · refine ⟨_, tv_ref ((s10.trans (s11.trans (s12.trans s13))).tup hp1) (fun y hy => ?_) (by simp; omega)⟩
                rcases List.mem_append.mp hy with hy | hy
                · exact fl_ints good y hy
                · rw [List.mem_singleton.mp hy]; trivial
              · exact ⟨_, tv_ref ((s11.trans (s12.trans s13)).tup hp2) (fun y hy => fl_ints good y (cut_mem hy)) (Nat.le_trans (cutV_length _ _ _) (by simp; omega))⟩
              · exact ⟨_, tv_no trivial⟩
              · exact ⟨_, tv_ref (s13.tup hp3) (fun y hy => by rw [(List.mem_replicate.mp hy).2]; trivial) (by simp; omega)⟩
              · exact ⟨_, tv_no trivial⟩
            have hb13 := hb7.same s7_13
            have nlr : lst ≠ r := (hb7.same s7_12).ne nlst
            walk_at "go"
            refine ⟨r, lst, false, _, rfl, hb13, SqL.of hl13, nlr, by simp, by simp, fun i v H14 hv o14 hb14 => ?_⟩
            obtain ⟨o, ho⟩ := hall v (List.mem_of_getElem? hv)
            have kp := Kp.ov o14 hb13 hb14
            walk_at "go"
            refine ⟨szl (by simp), fun da nda => ?_⟩
            have s15 := Same.new (o := .tup [V.str "hour", v]) nda
            exact k _ da (.hour o) (((o07.trans (.of s7_13)).trans o14).trans (.of s15)) (hb14.same s15) ⟨_, SqT.of upd_same, (ho.kp kp).kp (.of s15)⟩
          walk_at "go"
          refine ite2 (fun hq3 => ?_) (fun hq3 => ?_)
          · walk_at "go"
            refine ⟨szl (by simp), fun da nda => ?_⟩
            have s7 := Same.new (o := .tup [V.str "back"]) nda
            exact k _ da .back (o06.trans (.of s7)) (hb6.same s7) (SqT.of upd_same)
          walk_at "go"
          refine ⟨_, rfl, by omega, by omega, ?_⟩
          rw [Int.toNat_natCast]
          intro D4 nD4
          have nD4r : D4 ≠ r := hb6.ne nD4
          refine lc_it walk_rng (fun j H7 => ∃ W : List Int, Ov r H6 H7 ∧ Bag H7 r ∧ H7 D4 = some (.lst (vI W)) ∧ W.length = j) ⟨[], .new nD4, hb6.mut nD4r.symm, upd_same, rfl⟩ (fun _ _ _ _ => trivial) ?_ ?_
          · rintro j y H7 H8 hj ⟨W, e7, hb7, hD7, hl7⟩ ⟨rfl, rfl⟩
            walk_at "go"
            refine ⟨rfl, ?_⟩
            walk_at "go"
            refine iteT ?_
            walk_at "go"
            refine ⟨r, 3, rfl, hb7, by omega, by omega, fun z H9 hz e9 hb9 => ?_⟩
            refine ⟨_, e9 _ _ hD7 nD4r, szl' (by simp; omega), W ++ [(z : Int)], (e7.trans e9).mut nD4, hb9.mut nD4r.symm, ?_, by simp [hl7]⟩
            rw [upd_same]; simp
          · rintro H7 ⟨W, e7, hb7, hD7, hl7⟩
            walk_at "go"
            intro tw ntw
            have s8 := Same.new (o := .tup (vI W)) ntw
            have htw : SqT K (upd H7 tw (.tup (vI W))) tw (vI W) := SqT.of upd_same
            have hday8 := s8.tup ((hb6.tx e7).tup hday6)
            have hb8 := hb7.same s8
            have o08 := (o06.trans e7).trans (.of s8)
            generalize upd H7 tw (.tup (vI W)) = H8 at s8 htw hday8 hb8 o08 ⊢
            walk_at "go"
            refine ⟨szl (by simp), fun z1 nz1 => ?_⟩
            have s9 := Same.new (o := .tup [V.int 0]) nz1
            have hz9 : SqT K (upd H8 z1 (.tup [V.int 0])) z1 [V.int 0] := SqT.of upd_same
            have hday9 := s9.tup hday8
            generalize upd H8 z1 (.tup [V.int 0]) = H9 at s9 hz9 hday9 ⊢
            walk_at "go"
            refine c_repA hz9 (by omega) fun p1 H10 s10 hp1 => ?_
            have hday10 := s10.tup hday9
            walk_at "go"
            refine ⟨szl (by simp), fun z2 nz2 => ?_⟩
            have s11 := Same.new (o := .tup [V.int 0]) nz2
            have hz11 : SqT K (upd H10 z2 (.tup [V.int 0])) z2 [V.int 0] := SqT.of upd_same
            have hday11 := s11.tup hday10
            generalize upd H10 z2 (.tup [V.int 0]) = H11 at s11 hz11 hday11 ⊢
            walk_at "go"
            refine ⟨szl (by simp), fun z3 nz3 => ?_⟩
            have s12 := Same.new (o := .tup [V.int 21]) nz3
            have hz12 : SqT K (upd H11 z3 (.tup [V.int 21])) z3 [V.int 21] := SqT.of upd_same
            have hday12 := s12.tup hday11
            generalize upd H11 z3 (.tup [V.int 21]) = H12 at s12 hz12 hday12 ⊢
            walk_at "go"
            refine c_repA hz12 (by omega) fun p3 H13 s13 hp3 => ?_
            have hday13 := s13.tup hday12
            walk_at "go"
            refine ⟨szl (by simp), fun l4 nl4 => ?_⟩
            have s14 := Same.new (o := .lst [V.int 0]) nl4
            have hl14 : upd H13 l4 (.lst [V.int 0]) l4 = some (.lst [V.int 0]) := upd_same
            have hday14 := s14.tup hday13
            generalize upd H13 l4 (.lst [V.int 0]) = H14 at s14 hl14 hday14 ⊢
            walk_at "go"
            refine ⟨l4, _, _, rfl, rfl, hl14, by omega, by omega, szl (by simp; omega), fun p5 np5 => ?_⟩
            generalize (List.replicate ((d.P : Int)).toNat [V.int 0]).flatten = zz
            have s15 := Same.new (o := .lst zz) np5
            have hl15 : upd H14 p5 (.lst zz) p5 = some (.lst zz) := upd_same
            generalize upd H14 p5 (.lst zz) = H15 at s15 hl15 ⊢
            walk_at "go"
            refine ⟨szl (by simp), fun lst nlst => ?_⟩
            have s16 := Same.new (o := .lst [V.ref p1, V.ref tw, V.non, V.ref z2, V.ref p3, V.ref p5]) nlst
            have hl16 : upd H15 lst (.lst [V.ref p1, V.ref tw, V.non, V.ref z2, V.ref p3, V.ref p5]) lst = some (.lst [V.ref p1, V.ref tw, V.non, V.ref z2, V.ref p3, V.ref p5]) := upd_same
            generalize upd H15 lst (.lst [V.ref p1, V.ref tw, V.non, V.ref z2, V.ref p3, V.ref p5]) = H16 at s16 hl16 ⊢
            have s13_16 := s14.trans (s15.trans s16)
            have s11_16 := s12.trans (s13.trans s13_16)
            have s10_16 := s11.trans s11_16
            have s8_15 := s9.trans (s10.trans (s11.trans (s12.trans (s13.trans (s14.trans s15)))))
            have s8_16 := s8_15.trans s16
            have hall : ∀ v ∈ [V.ref p1, V.ref tw, V.non, V.ref z2, V.ref p3, V.ref p5], ∃ o, TV K H16 v o := by
              intro v hv
              simp only [List.mem_cons, List.not_mem_nil, or_false] at hv
              rcases hv with rfl | rfl | rfl | rfl | rfl | rfl
              · exact ⟨_, tv_ref (s10_16.tup hp1) (fun y hy => by rw [(List.mem_replicate.mp hy).2]; trivial) (by simp; omega)⟩
              · exact ⟨_, tv_ref (s8_16.tup htw) (fl_ints W) (by simp; omega)⟩
              · exact ⟨_, tv_no trivial⟩
              · exact ⟨_, tv_ref (s11_16.tup hz11) (fun y hy => by rw [List.mem_singleton.mp hy]; trivial) (by simp)⟩
              · exact ⟨_, tv_ref (s13_16.tup hp3) (fun y hy => by rw [(List.mem_replicate.mp hy).2]; trivial) (by simp; omega)⟩
              · exact ⟨_, tv_no ⟨_, SqL.of (s16 _ _ hl15)⟩⟩
            have hb16 := hb8.same s8_16
            have nlr : lst ≠ r := (hb8.same s8_15).ne nlst
            walk_at "go"
            refine ⟨r, lst, false, _, rfl, hb16, SqL.of hl16, nlr, by simp, by simp, fun i v H17 hv o17 hb17 => ?_⟩
            obtain ⟨o, ho⟩ := hall v (List.mem_of_getElem? hv)
            have kp := Kp.ov o17 hb16 hb17
            walk_at "go"
            refine ⟨szl (by simp), fun da nda => ?_⟩
            have s18 := Same.new (o := .tup [V.str "ask", v]) nda
            exact k _ da (.ask o) (((o08.trans (.of s8_16)).trans o17).trans (.of s18)) (hb17.same s18) ⟨_, SqT.of upd_same, (ho.kp kp).kp (.of s18)⟩
end
section
variable {P : Program} {w : World} {K : PySem.W.Frag} {mg : Str → Option Value} {base : Heap}
def spStandsSo (K : PySem.W.Frag) (C : Addr) : Sp := fun vs H Q _ => ∃ (h dx ad aw ro pa l : Addr) (ds : List V) (d : Day) (Rs Cs : List (List Int)), vs = [.ref h, .ref l] ∧ HouS K C H h dx ad aw ro pa ds d Rs Cs ∧ RowsAt K H l Rs Cs ∧ ∀ H', Same H H' → Q (.bl true) H'
theorem df_stands_so (CH : Addr) (TH : CtxH K CH) (B : Bl mg) (M_len : Mf P w K mg base CH "__len__" 1 ["self"] (spLenH K CH)) (M_gone : Mf P w K mg base CH "gone" 1 ["self"] (spLenH K CH)) (M_stands : Mf P w K mg base CH "stands" 1 ["self"] (spStandsH K CH)) (M_log : Mf P w K mg base CH "log" 1 ["self"] (spLog K CH)) (F : Has K mg "_law_stands_so" s__law_stands_so) : Df P w K mg base "_law_stands_so" 3 ["house", "rows"] (spStandsSo K CH) := by
  refine df_of F sc__law_stands_so (fun _ _ _ _ _ _ us hl => match us, hl with | [_, _], _ => rfl) (fun vs H Q E h => ?_) (fun f cdv A outer s H vs Q E hr h => ?_)
  · obtain ⟨h, dx, ad, aw, ro, pa, l, ds, d, Rs, Cs, rfl, _⟩ := h
    rfl
  · obtain ⟨h, dx, ad, aw, ro, pa, l, ds, d, Rs, Cs, rfl, S, hrw, k⟩ := h
    have hin := S.ins
    have hlenR := S.len
    have hcap := S.cap
    have hTm := S.dd.TM
    obtain ⟨rs, tl, xl, yl, hl, hrl, hrt, hrt2, hxl⟩ := hrw.last S.len
    refine ⟨(tSeq (tIfS (tOr (tTest (tOp (rNeD K) (tMeth CH "stands" (spStandsH K CH) [] E0 (tVar 0) tNil) (tOp (rIxT K) (tOp (rIxL K) (tVar 1) (tUn (rU fun i => .int (-i)) (tC (.int 1)))) (tC (.int 0))))) (tOr (tTest (tOp rNe (tMeth CH "gone" (spLenH K CH) [] E0 (tVar 0) tNil) (tOp (rI0 fun i j => .int (i - j)) (tCB (rLenS K) (tCons (tVar 1) tNil)) (tC (.int 1))))) (tTest (tOp rNe (tCB (rLenO CH (spLenH K CH)) (tCons (tVar 0) tNil)) (tOp (rI0 fun i j => .int (i - j)) (tCB (rLenS K) (tCons (tVar 1) tNil)) (tC (.int 1))))))) (tRet (tC (.bl false))) tNext) (tSeq (tDrop (tBM K "list" rAppend (tMeth CH "log" (spLog K CH) [] E0 (tVar 0) tNil) (tCons (tC .non) tNil))) (tRet (tOp (rEqD K) (tMeth CH "log" (spLog K CH) [] E0 (tVar 0) tNil) (tLc (iList K (tSl (rSlL K) (tVar 1) (tPart (tC (.int 1))) tNoPart)) (gName 2) tYes (tOp (rIxT K) (tVar 2) (tC (.int 1))) [2]))))),
      (pss_cons (ps_if (PW.pt (pw_or (pt_cmpR (op_neD hr.units) (pe_mf0 TH.cl M_stands (hr.mono (by decide)) (pv 0)) (pe_ix ix_tup (pe_ix ix_list (pv 1) (pe_un un_neg pe_int) (fun _ _ => rfl)) pe_int (fun _ _ => rfl)) (nomark _)) (pw_or (pt_cmpR op_ne (pe_mf0 TH.cl M_gone (hr.mono (by decide)) (pv 0)) (pe_op op_sub (pe_callB call_len_seq (by rfl) B.len bt_len (pa_cons (pv 1) pa_nil)) pe_int) (nomark _)) (pw_or1 (pt_cmpR op_ne (pe_callB (call_lenO M_len (hr.mono (by decide))) (by rfl) B.len bt_len (pa_cons (pv 0) pa_nil)) (pe_op op_sub (pe_callB call_len_seq (by rfl) B.len bt_len (pa_cons (pv 1) pa_nil)) pe_int) (nomark _)))))) (pss_one (ps_ret pe_bl)) pss_nil)
      (pss_cons (ps_expr (pe_bm PySem.F.plainAttrs_list PySem.F.slot_list_append PySem.F.type_list_append mt_append (pe_mf0 TH.cl M_log (hr.mono (by decide)) (pv 0)) (pa_cons pe_non pa_nil)))
      (pss_one (ps_ret (pe_cmpR (op_eqD hr.units) (pe_mf0 TH.cl M_log (hr.mono (by decide)) (pv 0)) (pe_lc (own := [("row", 2)]) (g := (gName 2)) (tt := tYes) (te := (tOp (rIxT K) (tVar 2) (tC (.int 1)))) rfl sc__law_stands_so.nd (pi_list (pe_slice sl_list (pv 1) (po_some pe_int) po_none)) (blkOk_by (own := [("row", 2)]) (N := ["house", "rows", "row"]) (sc := defScope s__law_stands_so) (by decide +kernel)) (fun _ _ _ _ _ => (pg_name (i := 2) sc__law_stands_so.nd rfl (by first | exact Or.inl rfl | exact Or.inr rfl))) (fun _ _ _ _ _ => pts_nil) (fun _ _ _ _ _ => (pe_ix ix_tup (pv 2) pe_int (fun _ _ => rfl)))) (nomark _)))))), ?_⟩
    walk_at "go"
    refine ⟨h, dx, ad, aw, ro, pa, ds, d, Rs, Cs, rfl, S, fun x hx => ?_⟩
    walk_at "go"
    refine c_ixL (SqL.of hl) (atLast hrt) ?_
    walk_at "go"
    refine c_neTs hx hxl ?_
    refine c_bl ?_
    refine iteF ?_
    walk_at "go"
    refine ⟨h, dx, ad, aw, ro, pa, ds, d, Rs, Cs, rfl, S, ?_⟩
    walk_at "go"
    rw [show (!decide ((Cs.length : Int) = ((rs.length : Nat) : Int) - 1)) = false by simp; omega]
    refine iteF ?_
    walk_at "go"
    refine ⟨h, dx, _, rfl, hin, h, dx, ad, aw, ro, pa, ds, d, Rs, Cs, rfl, S, (Cs.length : Int), rfl, by omega, by omega, ?_⟩
    walk_at "go"
    rw [show (!decide ((Cs.length : Int) = ((rs.length : Nat) : Int) - 1)) = false by simp; omega]
    refine iteF ?_
    walk_at "go"
    refine ⟨h, dx, ad, aw, ro, pa, ds, d, Rs, Cs, rfl, S, fun l1 ps1 H1 e1 n1 hl1 hps1 => ?_⟩
    have hpl1 : ps1.length = Cs.length := by rw [hps1.len, List.length_map]
    walk_at "go"
    refine c_app hl1 (szl' (by omega)) ?_
    have s2 : Same H (upd H1 l1 (.lst (ps1 ++ [V.non]))) := e1.mut n1
    generalize upd H1 l1 (.lst (ps1 ++ [V.non])) = H2 at s2 ⊢
    have S2 := S.same s2
    have hin2 := S2.ins
    have hl2 := s2 _ _ hl
    have hrw2 := hrw.same s2
    walk_at "go"
    refine ⟨h, dx, ad, aw, ro, pa, ds, d, Rs, Cs, rfl, S2, fun l3 ps3 H3 e3 n3 hl3 hps3 => ?_⟩
    have hl3' := e3 _ _ hl2
    have hrw3 := hrw2.same e3
    walk_at "go"
    refine ⟨l, rs, rfl, SqL.of hl3', fun l4 n4 => ?_⟩
    rw [cut1]
    have s4 := Same.new (o := .lst (rs.drop 1)) n4
    have hl4 : upd H3 l4 (.lst (rs.drop 1)) l4 = some (.lst (rs.drop 1)) := upd_same
    generalize upd H3 l4 (.lst (rs.drop 1)) = H4 at s4 hl4 ⊢
    have hrw4 := hrw3.same s4
    walk_at "go"
    refine ⟨l4, rfl, ⟨_, SqL.of hl4⟩, fun D nD => ?_⟩
    refine lc_it (walk_list (xs := rs.drop 1)) (fun j H5 => ∃ zs, Same H4 H5 ∧ H5 D = some (.lst zs) ∧ Refs true K H5 zs ((Cs.take j).map vI)) ⟨[], Same.new nD, upd_same, .nil⟩ (fun j H5 _ ⟨_, e, _⟩ => e.lst (SqL.of hl4)) ?_ ?_
    · rintro j y H5 H6 hj ⟨zs, e5, hD, hzs⟩ ⟨rfl, hy⟩
      rw [List.getElem?_drop] at hy
      have hj2 : j < Cs.length := by
        have := (List.getElem?_eq_some_iff.mp hy).1
        omega
      obtain ⟨rs', hr', hrl', hg⟩ := hrw4.ex
      have er : rs' = rs := by
        have h1 := s4 _ _ hl3'
        rw [hr'] at h1
        cases h1
        rfl
      subst er
      obtain ⟨t, x, yv, ht, ht2, hx2, hc⟩ := hg (1 + j) _ (List.getElem?_eq_getElem (by omega))
      rw [hy] at ht
      obtain rfl := Option.some.inj ht
      obtain ⟨ca, rfl, hca⟩ := hc j _ (by omega) (List.getElem?_eq_getElem hj2)
      have hg2 : Cs[j]? = some Cs[j] := List.getElem?_eq_getElem hj2
      have hzl := hzs.len
      rw [List.length_map, List.length_take] at hzl
      have ht5 := e5.tup ht2
      have hca5 := e5.tup hca
      rw [take_succ_get hg2, List.map_append]
      walk_at "go"
      refine ⟨rfl, ?_⟩
      walk_at "go"
      refine iteT ?_
      walk_at "go"
      have tm := Tx.mutL (o := .lst (zs ++ [V.ref ca])) hD
      refine ⟨_, hD, szl' (by omega), _, e5.mut nD, upd_same, ?_⟩
      exact (hzs.tx tm).snoc (show SqB K true _ _ _ from tm.tup hca5)
    · rintro H5 ⟨zs, e5, hD, hzs⟩
      rw [List.take_of_length_le (by rw [List.length_drop]; omega)] at hzs
      have e35 := s4.trans e5
      walk_at "go"
      refine c_eqRows (SqL.of (e35 _ _ hl3)) (SqL.of hD) (hps3.tx (.of e35)) hzs ?_
      exact k _ (s2.trans (e3.trans e35))
end
section
variable {P : Program} {w : World} {K : PySem.W.Frag} {mg : Str → Option Value} {base : Heap}
def spLaw (K : PySem.W.Frag) : Sp := fun vs H Q _ => ∃ (a : Addr) (ns : List Int), vs = [.ref a] ∧ SqL K H a (ns.map V.int) ∧ ns.length ≤ 63 ∧ ∀ H', Q (.bl true) H'
/-- what is refused at the making of a house -/
def RefW (K : PySem.W.Frag) (H : Hp) (x y : V) (w : Str) : Prop :=
  ((NTup K H x ∨ ∃ t ys, x = .ref t ∧ SqT K H t ys ∧ ys.length ≠ 3) ∧ w = "NoDay") ∨ ∃ (ad aw : Addr) (ds : List V) (d : Day) (oy : Option (List V)), x = .ref ad ∧ DayAt K H ad aw ds d ∧ DayD 5 8 12 d ∧ TV K H y oy ∧ numV d oy = false ∧ w = "NoStarts"
theorem RefW.kp {K : PySem.W.Frag} {H H' : Hp} {x y : V} {w : Str} (e : Kp H H') (h : RefW K H x y w) : RefW K H' x y w := by
  rcases h with ⟨h1 | ⟨t, ys, h1, h2, h3⟩, h4⟩ | ⟨ad, aw, ds, d, oy, h1, h2, h3, h4, h5, h6⟩
  · exact .inl ⟨.inl (h1.kp e), h4⟩
  · exact .inl ⟨.inr ⟨t, ys, h1, e.tx.tup h2, h3⟩, h4⟩
  · exact .inr ⟨ad, aw, ds, d, oy, h1, h2.tx e.tx, h3, h4.kp e, h5, h6⟩
theorem RefW.mem {K : PySem.W.Frag} {H : Hp} {x y : V} {w : Str} (h : RefW K H x y w) : w ∈ ern6 := by
  rcases h with ⟨_, rfl⟩ | ⟨ad, aw, ds, d, oy, h1, h2, h3, h4, h5, rfl⟩ <;> decide
theorem house_ref {K : PySem.W.Frag} {C p dx : Addr} {H0 H : Hp} {x y : V} {w : Str} {Q : VK} {E : XK} (h : RefW K H0 x y w) (s : Same H0 H) (np : H0 p = none) (hp : H p = some (.ins C dx [])) (q : ∀ H', Same H0 H' → E (.ref (gE K w)) none H') : spHouseX K C [.ref p, x, y] H Q E := by
  refine ⟨H0, p, dx, x, y, rfl, s, np, hp, ?_⟩
  rcases h with ⟨h1, rfl⟩ | ⟨ad, aw, ds, d, oy, h1, h2, h3, h4, h5, rfl⟩
  · exact .inl ⟨none, .inl ⟨rfl, h1⟩, rfl, q⟩
  · exact .inr (.inl ⟨ad, aw, ds, d, oy, h1, h2, h3, h4, h5, q⟩)
theorem fn_law {f : Addr} {fd : FuncData} (CH : Addr) (TH : CtxH K CH) (Er : Ers K mg) (HC : HouC K CH) (hHouse : mg "House" = some (.ref CH)) (B : Bl mg) (D_bag : Df P w K mg base "_law_bag" 1 ["script", "k"] (spBag K)) (D_take : Df P w K mg base "_law_take" 1 ["bag", "count"] spTake) (D_day : Df P w K mg base "_law_day" 3 ["bag", "many", "hours", "walks"] (spDay K)) (D_wanted : Df P w K mg base "_law_wanted" 2 ["bag", "day", "most"] (spWanted K)) (D_fewest : Df P w K mg base "fewest" 8 ["day", "wanted"] (spFewest K))
    (M_house : MkfX P w K mg base "House" CH 4 ["self", "day", "starts"] (spHouseX K CH)) (M_hour : MfX P w K mg base CH "hour" 3 ["self", "carried"] (spHourX K CH)) (M_back : MfX P w K mg base CH "back" 1 ["self"] (spBackX K CH)) (M_eq : Mf P w K mg base CH "__eq__" 1 ["self", "other"] (spEqH K CH)) (D_a_deed : Df P w K mg base "_law_a_deed" 3 ["bag", "day", "plan", "now"] (spADeed K)) (D_due : Df P w K mg base "_law_due" 9 ["day", "rows", "deed"] (spDue K)) (D_did : Df P w K mg base "_law_did" 10 ["house", "deed"] (spDid K CH)) (D_stands_so : Df P w K mg base "_law_stands_so" 3 ["house", "rows"] (spStandsSo K CH)) (D_kind : DfP P w K mg base "_law_kind" 1 ["e"] (spKind K)) (F : Fun K "law" "law" s_law f fd) : FnOk P w K mg base CX0 11 f fd ["script"] (spLaw K) := by
  refine F.ok sc_law (fun vs H Q E h => ?_) (fun cdv A outer s H vs Q E hr h => ?_)
  · obtain ⟨a, ns, rfl, _⟩ := h
    rfl
  · obtain ⟨a, ns, rfl, hS, hlen, k⟩ := h
    refine ⟨(tSeq (tAsg (tCall (spBag K) [] E0 (tCons (tVar 0) (tCons (tC (.int 0)) tNil))) (gName 1)) (tSeq (tAsg (tCall (spDay K) [] E0 (tCons (tVar 1) (tCons (tC (.int 5)) (tCons (tC (.int 8)) (tCons (tC (.int 12)) tNil))))) (gName 2)) (tSeq (tAsg (tCall (spFewest K) [] E0 (tCons (tVar 2) (tCons (tCall (spWanted K) [] E0 (tCons (tVar 1) (tCons (tVar 2) (tCons (tC (.int 2)) tNil)))) tNil))) (gTup K 3 (gCons (gName 3) (gCons (gName 4) (gCons (gName 5) gNil))))) (tSeq (tAsg (tCB (rTupOf K) (tCons (tLc (iTup K (tVar 4)) (gName 6) tYes (tCB rMin2 (tCons (tC (.int 20)) (tCons (tOp (rI0 fun i j => .int (i + j)) (tVar 6) (tCall spTake [] E0 (tCons (tVar 1) (tCons (tC (.int 2)) tNil)))) tNil))) [6]) tNil)) (gName 4)) (tSeq (tPar3 7 8 9 (tCons (tMakeE CH (spHouseX K CH) (fun _ => E0) (tCons (tVar 2) (tCons (tVar 4) tNil))) (tCons (tMakeE CH (spHouseX K CH) (fun _ => E0) (tCons (tVar 2) (tCons (tVar 4) tNil))) (tCons (tLst (tCons (tTup (tCons (tVar 4) (tCons (tC .non) tNil))) tNil)) tNil)))) (tSeq (tFor (iRng1 (tCons (tOp (rI0 fun i j => .int (i + j)) (tCB rMin2 (tCons (tCB (rLenS K) (tCons (tVar 0) tNil)) (tCons (tC (.int 12)) tNil))) (tC (.int 1))) tNil)) (gName 10) (tSeq (tAsg (tCall (spBag K) [] E0 (tCons (tVar 0) (tCons (tOp (rI0 fun i j => .int (i + j)) (tVar 10) (tC (.int 1))) tNil))) (gName 1)) (tFor (iRng1 (tCons (tC (.int 2)) tNil)) (gName 11) (tSeq (tAsg (tCall (spADeed K) [] E0 (tCons (tVar 1) (tCons (tVar 2) (tCons (tVar 5) (tCons (tOp (rI0 fun i j => .int (i - j)) (tCB (rLenS K) (tCons (tVar 9) tNil)) (tC (.int 1))) tNil))))) (gName 12)) (tSeq (tAsg (tCall (spDue K) [] E0 (tCons (tVar 2) (tCons (tVar 9) (tCons (tVar 12) tNil)))) (gName 13)) (tIfS (tOr (tTest (tOp (rNeD K) (tCall (spDid K CH) [] E0 (tCons (tVar 7) (tCons (tVar 12) tNil))) (tVar 13))) (tNot (tB (tCall (spStandsSo K CH) [] E0 (tCons (tVar 7) (tCons (tVar 9) tNil)))))) (tRet (tC (.bl false))) tNext)))))) (tSeq (tFor (iList K (tSl (rSlL K) (tVar 9) (tPart (tC (.int 1))) tNoPart)) (gTup K 2 (gCons (gName 14) (gCons (gName 15) gNil))) (tSeq (tIfS (tTest (tOp (rEqO K CH (spEqH K CH)) (tVar 7) (tVar 8))) (tRet (tC (.bl false))) tNext) (tDrop (L2H.tMethH CH "hour" (spHourX K CH) (fun _ => E0) (tVar 8) (tCons (tVar 15) tNil))))) (tSeq (tIfS (tOr (tNot (tTest (tOp (rEqO K CH (spEqH K CH)) (tVar 7) (tVar 8)))) (tOr (tTest (tOp (rEqO K CH (spEqH K CH)) (tVar 7) (tVar 2))) (tTest (tOp (rEqO K CH (spEqH K CH)) (tVar 7) (tMakeE CH (spHouseX K CH) (fun _ => E0) (tCons (tVar 2) (tCons (tCB (rTupOf K) (tCons (tLc (iTup K (tVar 4)) (gName 6) tYes (tOp (rI0 fun i j => .int (i + j)) (tVar 6) (tC (.int 1))) [6]) tNil)) tNil))))))) (tRet (tC (.bl false))) tNext) (tSeq (tFor (iList K (tSl (rSlL K) (tVar 9) (tPart (tC (.int 1))) tNoPart)) (gName 16) (tDrop (L2H.tMethH CH "back" (spBackX K CH) (fun _ => E0) (tVar 7) tNil))) (tSeq (tIfS (tOr (tNot (tTest (tOp (rEqO K CH (spEqH K CH)) (tVar 7) (tMakeE CH (spHouseX K CH) (fun _ => E0) (tCons (tVar 2) (tCons (tVar 4) tNil)))))) (tTest (tOp (rNeD K) (tCall (spDid K CH) [] E0 (tCons (tVar 7) (tCons (tTup (tCons (tC (.str "back")) tNil)) tNil))) (tC (.str "NothingLeft"))))) (tRet (tC (.bl false))) tNext) (tSeq (tAsg (tLst tNil) (gName 17)) (tSeq (tFor (iList K (tLst (tCons (tTup (tCons (tSl (rSlA K) (tVar 2) tNoPart (tPart (tC (.int 2)))) (tCons (tVar 4) tNil))) (tCons (tTup (tCons (tC .non) (tCons (tC .non) tNil))) (tCons (tTup (tCons (tVar 2) (tCons (tSl (rSlA K) (tVar 4) (tPart (tC (.int 1))) tNoPart) tNil))) (tCons (tTup (tCons (tVar 2) (tCons (tOp (rRepT K) (tTup (tCons (tC (.int 21)) tNil)) (tOp (rIxT K) (tVar 2) (tC (.int 0)))) tNil))) (tCons (tTup (tCons (tVar 2) (tCons (tCB (rListOf K) (tCons (tVar 4) tNil)) tNil))) tNil))))))) (gTup K 2 (gCons (gName 18) (gCons (gName 19) gNil))) (tTry K (.ref (gE K "WalkError")) 20 (fun W => (tDrop (tBM K "list" rAppend (tVar 17) (tCons (tMakeE CH (spHouseX K CH) (WE W) (tCons (tVar 18) (tCons (tVar 19) tNil))) tNil)))) (fun a cls d => (tDrop (tBM K "list" rAppend (tVar 17) (tCons (tCallS (spKind K a cls d) (fun _ => E0) (tCons (tVar 20) tNil)) tNil)))))) (tRet (tOp (rEqD K) (tVar 17) (tLst (tCons (tC (.str "NoDay")) (tCons (tC (.str "NoDay")) (tCons (tC (.str "NoStarts")) (tCons (tC (.str "NoStarts")) (tCons (tC (.str "NoStarts")) tNil)))))))))))))))))))),
      (pss_cons (ps_set (i := 1) sc_law.nd rfl (by first | exact Or.inl rfl | exact Or.inr rfl) (pe_df D_bag (hr.mono (by decide)) (by rfl) (pa_cons (pv 0) (pa_cons pe_int pa_nil))))
      (pss_cons (ps_set (i := 2) sc_law.nd rfl (by first | exact Or.inl rfl | exact Or.inr rfl) (pe_df D_day (hr.mono (by decide)) (by rfl) (pa_cons (pv 1) (pa_cons pe_int (pa_cons pe_int (pa_cons pe_int pa_nil))))))
      (pss_cons (ps_asg (pe_df D_fewest (hr.mono (by decide)) (by rfl) (pa_cons (pv 2) (pa_cons (pe_df D_wanted (hr.mono (by decide)) (by rfl) (pa_cons (pv 1) (pa_cons (pv 2) (pa_cons pe_int pa_nil)))) pa_nil))) (pg_tup rfl (pgs_cons (pg_name (i := 3) sc_law.nd rfl (by first | exact Or.inl rfl | exact Or.inr rfl)) (pgs_cons (pg_name (i := 4) sc_law.nd rfl (by first | exact Or.inl rfl | exact Or.inr rfl)) (pgs_cons (pg_name (i := 5) sc_law.nd rfl (by first | exact Or.inl rfl | exact Or.inr rfl)) pgs_nil)))))
      (pss_cons (ps_set (i := 4) sc_law.nd rfl (by first | exact Or.inl rfl | exact Or.inr rfl) (pe_callTy call_tuple_of (by rfl) B.tuple bt_tuple (pa_cons (pe_lc (own := [("start", 6)]) (g := (gName 6)) (tt := tYes) (te := (tCB rMin2 (tCons (tC (.int 20)) (tCons (tOp (rI0 fun i j => .int (i + j)) (tVar 6) (tCall spTake [] E0 (tCons (tVar 1) (tCons (tC (.int 2)) tNil)))) tNil)))) rfl sc_law.nd (pi_tup (pv 4)) (blkOk_by (own := [("start", 6)]) (N := ["script", "bag", "day", "number", "starts", "plan", "start", "house", "other", "rows", "k", "turn", "deed", "due", "stands_so", "carried", "row", "kinds", "one", "two", "e"]) (sc := defScope s_law) (by decide +kernel)) (fun _ _ _ _ _ => (pg_name (i := 6) sc_law.nd rfl (by first | exact Or.inl rfl | exact Or.inr rfl))) (fun _ _ _ _ _ => pts_nil) (fun _ _ _ _ _ => (pe_callB (call_min2 rfl) (by rfl) B.min bt_min (pa_cons pe_int (pa_cons (pe_op op_add (pv 6) (pe_df D_take (hr.mono (by decide)) (by rfl) (pa_cons (pv 1) (pa_cons pe_int pa_nil)))) pa_nil))))) pa_nil)))
      (pss_cons (ps_par3 (i := 7) (j := 8) (l := 9) (by rfl) sc_law.nd rfl rfl rfl (by decide) (by decide) (by decide) rfl rfl rfl (pa_cons (pe_mkx M_house (hr.mono (by decide)) (fun _ => passE0) (by rfl) (pa_cons (pv 2) (pa_cons (pv 4) pa_nil))) (pa_cons (pe_mkx M_house (hr.mono (by decide)) (fun _ => passE0) (by rfl) (pa_cons (pv 2) (pa_cons (pv 4) pa_nil))) (pa_cons (pe_lst (pa_cons (pe_tup (pa_cons (pv 4) (pa_cons pe_non pa_nil))) pa_nil)) pa_nil))) (by rfl))
      (pss_cons (ps_for PassesOwn.never rfl (pi_range1 (by rfl) B.range (pa_cons (pe_op op_add (pe_callB (call_min2 rfl) (by rfl) B.min bt_min (pa_cons (pe_callB call_len_seq (by rfl) B.len bt_len (pa_cons (pv 0) pa_nil)) (pa_cons pe_int pa_nil))) pe_int) pa_nil)) (pg_name (i := 10) sc_law.nd rfl (by first | exact Or.inl rfl | exact Or.inr rfl))
      (pss_cons (ps_set (i := 1) sc_law.nd rfl (by first | exact Or.inl rfl | exact Or.inr rfl) (pe_df D_bag (hr.mono (by decide)) (by rfl) (pa_cons (pv 0) (pa_cons (pe_op op_add (pv 10) pe_int) pa_nil))))
      (pss_one (ps_for PassesOwn.never rfl (pi_range1 (by rfl) B.range (pa_cons pe_int pa_nil)) (pg_name (i := 11) sc_law.nd rfl (by first | exact Or.inl rfl | exact Or.inr rfl))
      (pss_cons (ps_set (i := 12) sc_law.nd rfl (by first | exact Or.inl rfl | exact Or.inr rfl) (pe_df D_a_deed (hr.mono (by decide)) (by rfl) (pa_cons (pv 1) (pa_cons (pv 2) (pa_cons (pv 5) (pa_cons (pe_op op_sub (pe_callB call_len_seq (by rfl) B.len bt_len (pa_cons (pv 9) pa_nil)) pe_int) pa_nil))))))
      (pss_cons (ps_set (i := 13) sc_law.nd rfl (by first | exact Or.inl rfl | exact Or.inr rfl) (pe_df D_due (hr.mono (by decide)) (by rfl) (pa_cons (pv 2) (pa_cons (pv 9) (pa_cons (pv 12) pa_nil)))))
      (pss_one (ps_if (PW.pt (pw_or (pt_cmpR (op_neD hr.units) (pe_df D_did (hr.mono (by decide)) (by rfl) (pa_cons (pv 7) (pa_cons (pv 12) pa_nil))) (pv 13) (nomark _)) (pw_or1 (pt_not (pt_val (pe_df D_stands_so (hr.mono (by decide)) (by rfl) (pa_cons (pv 7) (pa_cons (pv 9) pa_nil)))))))) (pss_one (ps_ret pe_bl)) pss_nil))))))))
      (pss_cons (ps_for PassesOwn.never rfl (pi_list (pe_slice sl_list (pv 9) (po_some pe_int) po_none)) (pg_tup rfl (pgs_cons (pg_name (i := 14) sc_law.nd rfl (by first | exact Or.inl rfl | exact Or.inr rfl)) (pgs_cons (pg_name (i := 15) sc_law.nd rfl (by first | exact Or.inl rfl | exact Or.inr rfl)) pgs_nil)))
      (pss_cons (ps_if (pt_cmpR (op_eqO M_eq HC (hr.mono (by decide))) (pv 7) (pv 8) (nomark _)) (pss_one (ps_ret pe_bl)) pss_nil)
      (pss_one (ps_expr (pe_mfx TH.cl M_hour (hr.mono (by decide)) (fun _ => passE0) (pv 8) (pa_cons (pv 15) pa_nil))))))
      (pss_cons (ps_if (PW.pt (pw_or (pt_not (pt_cmpR (op_eqO M_eq HC (hr.mono (by decide))) (pv 7) (pv 8) (nomark _))) (pw_or (pt_cmpR (op_eqO M_eq HC (hr.mono (by decide))) (pv 7) (pv 2) (nomark _)) (pw_or1 (pt_cmpR (op_eqO M_eq HC (hr.mono (by decide))) (pv 7) (pe_mkx M_house (hr.mono (by decide)) (fun _ => passE0) (by rfl) (pa_cons (pv 2) (pa_cons (pe_callTy call_tuple_of (by rfl) B.tuple bt_tuple (pa_cons (pe_lc (own := [("start", 6)]) (g := (gName 6)) (tt := tYes) (te := (tOp (rI0 fun i j => .int (i + j)) (tVar 6) (tC (.int 1)))) rfl sc_law.nd (pi_tup (pv 4)) (blkOk_by (own := [("start", 6)]) (N := ["script", "bag", "day", "number", "starts", "plan", "start", "house", "other", "rows", "k", "turn", "deed", "due", "stands_so", "carried", "row", "kinds", "one", "two", "e"]) (sc := defScope s_law) (by decide +kernel)) (fun _ _ _ _ _ => (pg_name (i := 6) sc_law.nd rfl (by first | exact Or.inl rfl | exact Or.inr rfl))) (fun _ _ _ _ _ => pts_nil) (fun _ _ _ _ _ => (pe_op op_add (pv 6) pe_int))) pa_nil)) pa_nil))) (nomark _)))))) (pss_one (ps_ret pe_bl)) pss_nil)
      (pss_cons (ps_for PassesOwn.never rfl (pi_list (pe_slice sl_list (pv 9) (po_some pe_int) po_none)) (pg_name (i := 16) sc_law.nd rfl (by first | exact Or.inl rfl | exact Or.inr rfl))
      (pss_one (ps_expr (pe_mfx0 TH.cl M_back (hr.mono (by decide)) (fun _ => passE0) (pv 7)))))
      (pss_cons (ps_if (PW.pt (pw_or (pt_not (pt_cmpR (op_eqO M_eq HC (hr.mono (by decide))) (pv 7) (pe_mkx M_house (hr.mono (by decide)) (fun _ => passE0) (by rfl) (pa_cons (pv 2) (pa_cons (pv 4) pa_nil))) (nomark _))) (pw_or1 (pt_cmpR (op_neD hr.units) (pe_df D_did (hr.mono (by decide)) (by rfl) (pa_cons (pv 7) (pa_cons (pe_tup (pa_cons pe_str pa_nil)) pa_nil))) pe_str (nomark _))))) (pss_one (ps_ret pe_bl)) pss_nil)
      (pss_cons (ps_set (i := 17) sc_law.nd rfl (by first | exact Or.inl rfl | exact Or.inr rfl) (pe_lst pa_nil))
      (pss_cons (ps_for PassesOwn.never rfl (pi_list (pe_lst (pa_cons (pe_tup (pa_cons (pe_slice sl_tupA (pv 2) po_none (po_some pe_int)) (pa_cons (pv 4) pa_nil))) (pa_cons (pe_tup (pa_cons pe_non (pa_cons pe_non pa_nil))) (pa_cons (pe_tup (pa_cons (pv 2) (pa_cons (pe_slice sl_tupA (pv 4) (po_some pe_int) po_none) pa_nil))) (pa_cons (pe_tup (pa_cons (pv 2) (pa_cons (pe_op op_repT (pe_tup (pa_cons pe_int pa_nil)) (pe_ix ix_tup (pv 2) pe_int (fun _ _ => rfl))) pa_nil))) (pa_cons (pe_tup (pa_cons (pv 2) (pa_cons (pe_callTy call_list_of (by rfl) B.list bt_list (pa_cons (pv 4) pa_nil)) pa_nil))) pa_nil))))))) (pg_tup rfl (pgs_cons (pg_name (i := 18) sc_law.nd rfl (by first | exact Or.inl rfl | exact Or.inr rfl)) (pgs_cons (pg_name (i := 19) sc_law.nd rfl (by first | exact Or.inl rfl | exact Or.inr rfl)) pgs_nil)))
      (pss_one (ps_try (i := 20) rfl rfl sc_law.nd rfl rfl ⟨rfl, by decide, .inl Er.weg⟩ (fun W pn xe tk _ => (pss_one (ps_expr (pe_bm PySem.F.plainAttrs_list PySem.F.slot_list_append PySem.F.type_list_append mt_append (pv 17) (pa_cons (pe_mkx M_house (hr.mono (by decide)) (fun σ => L2N.passAt tk σ) (by rfl) (pa_cons (pv 18) (pa_cons (pv 19) pa_nil))) pa_nil))))) (fun a oe cls d pn hz hf => (pss_one (ps_expr (pe_bm PySem.F.plainAttrs_list PySem.F.slot_list_append PySem.F.type_list_append mt_append (pv 17) (pa_cons (pe_dp D_kind (room_suite (hr.mono (by decide))) (hot_suite hz hf) hz List.mem_cons_self (by rfl) (pa_cons (pv 20) pa_nil)) pa_nil))))))))
      (pss_one (ps_ret (pe_cmpR (op_eqD hr.units) (pv 17) (pe_lst (pa_cons pe_str (pa_cons pe_str (pa_cons pe_str (pa_cons pe_str (pa_cons pe_str pa_nil)))))) (nomark _)))))))))))))))), ?_⟩
    walk_at "go"
    refine ⟨a, 0, ns, rfl, hS, by omega, fun H1 r e1 nr hb1 => ?_⟩
    walk_at "go"
    refine ⟨r, 5, 8, 12, rfl, hb1, by omega, by omega, by omega, by omega, by omega, fun H2 ad aw ds d o2 hb2 hd DD => ?_⟩
    have hP := DD.PM
    have hT := DD.TM
    have hP2 := DD.P2
    have hWl := DD.W
    have ok := DD.ok
    have sm := DD.sm (by decide) (by decide) (by decide)
    have e2 : Same H H2 := o2.same e1 nr
    clear o2 hb1 e1
    walk_at "go"
    refine ⟨r, ad, aw, 2, d, rfl, hb2, hd.day, hP2, by omega, by omega, fun H4 wa W o4 hb4 hW lW wn wm => ?_⟩
    have hd4 := hd.tx (hb2.tx o4)
    have e4 : Same H H4 := o4.same e2 nr
    clear hb2 o4 e2 hd
    walk_at "go"
    refine ⟨ad, aw, wa, ds, d, W, rfl, hd4, ok, sm, hP2, hW, lW, wn, fun H6 fr fs fc e6 hfr hfs hfc => ?_⟩
    have hTold := fewest_told ok lW wn
    have hSl := hTold.len
    have hSn := hTold.nn
    have hPl := hTold.feas.len
    have hSb : ∀ p, (fewest d W).2.1.getD p 0 ≤ 14 := fun p => by
      have h1 := few_start_le ok lW wn p
      have h2 := wm p
      omega
    generalize (fewest d W).2.1 = S at hfs hSl hSn hSb
    generalize (fewest d W).2.2 = Pn at hfc hPl
    generalize (fewest d W).1 = num at hfr
    have hd6 := hd4.tx (.of e6)
    have hb6 := hb4.same e6
    have e06 := e4.trans e6
    clear hTold hW lW wn wm hb4 hd4 e4
    walk_at "go"
    refine ⟨fs, rfl, ⟨_, SqT.of hfs⟩, fun D nD => ?_⟩
    have nDr : D ≠ r := hb6.ne nD
    refine lc_it (walk_tup (xs := vI S)) (fun j H7 => ∃ G : List Int, Ov r H6 H7 ∧ Bag H7 r ∧ H7 D = some (.lst (vI G)) ∧ G.length = j ∧ ∀ x ∈ G, 0 ≤ x ∧ x ≤ 15) ⟨[], .new nD, hb6.mut nDr.symm, upd_same, rfl, by simp⟩ (fun j H7 _ ⟨_, o, _⟩ => (hb6.tx o).tup (SqT.of hfs)) ?_ ?_
    · rintro j y H7 H8 hj ⟨G, o7, hb7, hD7, hl7, hG7⟩ ⟨rfl, hy⟩
      obtain ⟨n, hn, rfl⟩ := vI_inv hy
      have hn0 := hSn j
      have hn1 := hSb j
      rw [getD_of hn] at hn0 hn1
      have hjl := (List.getElem?_eq_some_iff.mp hn).1
      walk_at "go"
      refine ⟨rfl, ?_⟩
      walk_at "go"
      refine iteT ?_
      walk_at "go"
      refine ⟨r, 2, rfl, hb7, by omega, by omega, fun z H9 hz o9 hb9 => ?_⟩
      walk_at "go"
      refine ⟨_, o9 _ _ hD7 nDr, szl' (by simp; omega), G ++ [n + (z : Int)], (o7.trans o9).mut nD, hb9.mut nDr.symm, ?_, by simp [hl7], fun x hx => ?_⟩
      · rw [upd_same, if_pos (by omega)]; simp
      · rcases List.mem_append.mp hx with hx | hx
        · exact hG7 x hx
        · obtain rfl := List.mem_singleton.mp hx
          omega
    · rintro H7 ⟨G, o7, hb7, hD7, hl7, hGb⟩
      rw [List.length_map, hSl] at hl7
      walk_at "go"
      intro g ng
      have s8 := Same.new (o := .tup (vI G)) ng
      have hg8 : SqT K (upd H7 g (.tup (vI G))) g (vI G) := SqT.of upd_same
      have t7 := hb6.tx o7
      have hd8 := hd6.tx (t7.trans (.of s8))
      have hfc8 : SqT K (upd H7 g (.tup (vI G))) fc (vI Pn) := s8.tup (t7.tup (SqT.of hfc))
      have e08 : Same H (upd H7 g (.tup (vI G))) := (o7.same e06 nr).trans s8
      generalize upd H7 g (.tup (vI G)) = H8 at s8 hg8 hd8 hfc8 e08 ⊢
      have hGd := mem_bd (m := 15) (by decide) hGb
      have hGd20 : ∀ p, 0 ≤ G.getD p 0 ∧ G.getD p 0 ≤ 20 := fun p => ⟨(hGd p).1, by have := (hGd p).2; omega⟩
      clear hD7 o7 hb7 hb6 hd6 t7 s8 e06 e6 nD nDr hfs hSl hSn hSb hfr hfc ng
      walk_at "go"
      refine c_par3 ?_
      walk_at "go"
      refine c_makeE ?_
      walk_at "go"
      intro h dx nh ndx ne
      refine ⟨H8, h, dx, .ref ad, .ref g, rfl, new2 nh ndx ne, nh, upd_same, .inr (.inr ⟨ad, aw, g, ds, d, G, rfl, rfl, hd8, DD, hg8, hl7, hGd20, fun H9 ro pa s9 nro npa S9 => ⟨rfl, ?_⟩⟩)⟩
      have e09 := e08.trans s9
      have hd9 := hd8.tx (.of s9)
      have hg9 := s9.tup hg8
      have hfc9 := s9.tup hfc8
      walk_at "go"
      refine c_makeE ?_
      walk_at "go"
      intro h2 dx2 nh2 ndx2 ne2
      refine ⟨H9, h2, dx2, .ref ad, .ref g, rfl, new2 nh2 ndx2 ne2, nh2, upd_same, .inr (.inr ⟨ad, aw, g, ds, d, G, rfl, rfl, hd9, DD, hg9, hl7, hGd20, fun H10 ro2 pa2 s10 nro2 npa2 S10 => ⟨rfl, ?_⟩⟩)⟩
      have S9' := S9.same s10
      have e010 := e09.trans s10
      walk_at "go"
      refine ⟨szl (by simp), fun t nt => ?_⟩
      have s11 := Same.new (o := .tup [V.ref g, V.non]) nt
      have ht11 : SqT K (upd H10 t (.tup [V.ref g, V.non])) t [V.ref g, V.non] := SqT.of upd_same
      generalize upd H10 t (.tup [V.ref g, V.non]) = H11 at s11 ht11 ⊢
      walk_at "go"
      refine ⟨szl (by simp), fun l nl => ?_⟩
      have s12 := Same.new (o := .lst [V.ref t]) nl
      have hl12 : upd H11 l (.lst [V.ref t]) l = some (.lst [V.ref t]) := upd_same
      generalize upd H11 l (.lst [V.ref t]) = H12 at s12 hl12 ⊢
      have s10_12 := s11.trans s12
      have s9_12 := s10.trans s10_12
      obtain ⟨⟨x1, q1⟩, x2, q2⟩ := S9.lsts
      obtain ⟨⟨x3, q3⟩, x4, q4⟩ := S10.lsts
      have hst : HSt K CH H H12 ad aw g fc l h dx ro pa h2 dx2 ro2 pa2 ds d G Pn [G] [] [G] [] [G] [] :=
        ⟨e010.trans s10_12, s9_12.tup hg9, s9_12.tup hfc9, S9'.same s10_12, S10.same s10_12, .one hl12 (s12.tup ht11) (s9_12.tup hg9),
          ne_had ((s10.trans s11) _ _ q1) nl, ne_had ((s10.trans s11) _ _ q2) nl, ne_had (s11 _ _ q3) nl, ne_had (s11 _ _ q4) nl,
          (ne_had q1 nro2).symm, (ne_had q1 npa2).symm, (ne_had q2 nro2).symm, (ne_had q2 npa2).symm,
          none_back (e010.trans s11) nl, none_back e08 nro, none_back e08 npa, none_back e09 nro2, none_back e09 npa2⟩
      have hrun := RunOk.one d G
      clear S9 S9' S10 q1 q2 q3 q4 s9_12 s10_12 s12 s11 s10 s9 hl12 ht11 nl nt e010 e09 e08 hd9 hg9 hfc9 hd8 hg8 hfc8 nro npa nro2 npa2 nh ndx ne nh2 ndx2 ne2
      refine ⟨_, _, _, rfl, ?_⟩
      have hS12 := hst.sm.lst hS
      walk_at "go"
      refine ⟨_, rfl, by simp; omega, by simp; omega, ?_⟩
      generalize hm : ((if (12 : Int) < ((List.map V.int ns).length : Int) then (12 : Int) else ((List.map V.int ns).length : Int)) + 1).toNat = m
      have hm8 : m ≤ 100 := by rw [← hm]; split <;> omega
      clear hm hS12
      refine for_it walk_rng (fun i σ' H' => ∃ v1 v10 v11 v12 v13 Rs Cs, σ' = [some (.ref a), v1, some (.ref ad), some (.int num), some (.ref g), some (.ref fc), none, some (.ref h), some (.ref h2), some (.ref l), v10, v11, v12, v13, none, none, none, none, none, none, none] ∧ HSt K CH H H' ad aw g fc l h dx ro pa h2 dx2 ro2 pa2 ds d G Pn Rs Cs Rs Cs [G] [] ∧ RunOk d G Rs Cs) ⟨_, _, _, _, _, _, _, rfl, hst, hrun⟩ (fun _ _ _ _ _ => trivial) ?_ ?_
      · rintro i y σ' Ha Hs hi ⟨v1, v10, v11, v12, v13, Rs, Cs, rfl, hst, hrun⟩ ⟨rfl, rfl⟩
        have hSs := hst.sm.lst hS
        walk_at "go"
        have ei : ((i : Int) + 1) = ((i + 1 : Nat) : Int) := by omega
        rw [ei]
        refine ⟨a, i + 1, ns, rfl, hSs, by omega, fun Hb r e1 nr hb1 => ?_⟩
        have nrH : H r = none := none_back hst.sm nr
        obtain ⟨zl, hzl, _⟩ := hst.rw_.lst
        obtain ⟨⟨x1, q1⟩, x2, q2⟩ := hst.S1.lsts
        obtain ⟨⟨x3, q3⟩, x4, q4⟩ := hst.S2.lsts
        have r1 : l ≠ r := (ne_had hzl nr).symm
        have r2 : ro ≠ r := (ne_had q1 nr).symm
        have r3 : pa ≠ r := (ne_had q2 nr).symm
        have r4 : ro2 ≠ r := (ne_had q3 nr).symm
        have r5 : pa2 ≠ r := (ne_had q4 nr).symm
        replace hst := hst.same e1
        clear hzl q1 q2 q3 q4 hSs ei nr
        walk_at "go"
        refine ⟨2, rfl, by omega, by omega, ?_⟩
        refine for_it walk_rng (fun j σ' H' => ∃ v11 v12 v13 Rs Cs, σ' = [some (.ref a), some (.ref r), some (.ref ad), some (.int num), some (.ref g), some (.ref fc), none, some (.ref h), some (.ref h2), some (.ref l), some (.int (i : Int)), v11, v12, v13, none, none, none, none, none, none, none] ∧ HSt K CH H H' ad aw g fc l h dx ro pa h2 dx2 ro2 pa2 ds d G Pn Rs Cs Rs Cs [G] [] ∧ RunOk d G Rs Cs ∧ Bag H' r) ⟨_, _, _, _, _, rfl, hst, hrun, hb1⟩ (fun _ _ _ _ _ => trivial) ?_ ?_
        · rintro j y σ' Hc Hd hj ⟨u11, u12, u13, Rs, Cs, rfl, hst, hrun, hb⟩ ⟨rfl, rfl⟩
          obtain ⟨zs, hzl, hzn⟩ := hst.rw_.lst
          have hlenR := hrun.len
          have hcap := hst.S1.cap
          walk_at "go"
          have en : ((zs.length : Nat) : Int) - 1 = (Cs.length : Int) := by omega
          rw [en]
          refine ⟨r, ad, aw, fc, Cs.length, ds, d, Pn, rfl, hb, hst.S1.day, DD, hst.pn, hPl, hcap, fun He da dd o2 hb2 hda => ?_⟩
          obtain ⟨xb, hxb⟩ := hb.lst
          have hst2 := hst.ov o2 hxb nrH r1 r2 r3 r4 r5
          clear hst hb hxb hzl
          walk_at "go"
          refine ⟨ad, aw, l, da, ds, d, Rs, Cs, dd, rfl, hst2.S1.day, DD, hst2.rw_, hst2.S1.run, hda, fun x Hf o3 hr3 hx3 => ?_⟩
          obtain ⟨z2, hz2, _⟩ := hst2.rw_.lst
          obtain ⟨z3, hz3, _⟩ := hr3.lst
          have hda3 := hda.kp (Kp.ovL o3 hz2 hz3)
          have hst3 := hst2.due o3 hr3
          have hb3 := hb2.ovl o3 r1
          clear hst2 hda hb2 hz2 hz3 o2 o3
          walk_at "go"
          refine ⟨h, dx, ad, aw, ro, pa, da, ds, d, Rs, Cs, dd, rfl, hst3.S1, hda3, fun y Hg m4 S4 hy4 => ?_⟩
          have t4 := hst3.S1.tx m4
          have hst4 := hst3.did m4 S4
          have hb4 := hb3.mh m4 r2 r3
          have hx4 := hx3.tx t4
          clear hst3 hb3 hx3 hda3 m4 S4
          walk_at "go"
          refine c_neAns (ansOf_ok d Rs Cs dd) hy4 hx4 ?_
          refine c_bl ?_
          refine iteF ?_
          walk_at "go"
          refine ⟨h, dx, ad, aw, ro, pa, l, ds, d, _, _, rfl, hst4.S1, hst4.rw_, fun Hh e5 => ?_⟩
          refine c_bl ?_
          refine iteF ?_
          walk_at "go"
          exact ⟨_, _, _, _, _, rfl, hst4.same e5, hrun.step dd, hb4.same e5⟩
        · rintro σ' Hc ⟨u11, u12, u13, Rs, Cs, rfl, hst, hrun, hb⟩
          exact ⟨_, _, _, _, _, _, _, rfl, hst, hrun⟩
      rintro σ' H13 ⟨v1, v10, v11, v12, v13, Rs, Cs, rfl, hst0, hrun0⟩
      clear hst hrun
      have hst := hst0
      have hrun := hrun0
      clear hst0 hrun0
      obtain ⟨zs, hzl, hzn⟩ := hst.rw_.lst
      have hlenR := hrun.len
      have hcap := hst.S1.cap
      walk_at "go"
      refine ⟨l, zs, rfl, SqL.of hzl, fun l4 n4 => ?_⟩
      rw [cut1]
      have s14 := Same.new (o := .lst (zs.drop 1)) n4
      have hl14 : upd H13 l4 (.lst (zs.drop 1)) l4 = some (.lst (zs.drop 1)) := upd_same
      have m3 : l4 ≠ ro2 := by obtain ⟨⟨x3, q3⟩, _⟩ := hst.S2.lsts; exact ne_had q3 n4
      have m4 : l4 ≠ pa2 := by obtain ⟨_, x3, q3⟩ := hst.S2.lsts; exact ne_had q3 n4
      generalize upd H13 l4 (.lst (zs.drop 1)) = H14 at s14 hl14 ⊢
      have hst14 := hst.same s14
      have hzl14 := s14 _ _ hzl
      clear hst s14 n4 hzl
      walk_at "go"
      refine ⟨l4, rfl, ⟨_, SqL.of hl14⟩, ?_⟩
      refine for_it (walk_list (xs := zs.drop 1)) (fun j σ' H' => ∃ v14 v15, σ' = [some (.ref a), v1, some (.ref ad), some (.int num), some (.ref g), some (.ref fc), none, some (.ref h), some (.ref h2), some (.ref l), v10, v11, v12, v13, v14, v15, none, none, none, none, none] ∧ HSt K CH H H' ad aw g fc l h dx ro pa h2 dx2 ro2 pa2 ds d G Pn Rs Cs Rs Cs (Rs.take (j + 1)) (Cs.take j) ∧ H' l4 = some (.lst (zs.drop 1)) ∧ Tx H14 H') ⟨_, _, rfl, ?_, hl14, Tx.refl _⟩ (fun j σ' H' _ ⟨_, _, _, _, hq, _⟩ => SqL.of hq) ?_ ?_
      · have e1 : Rs.take 1 = [G] := by
          cases Rs with
          | nil => simp at hlenR
          | cons R Rs =>
            have := hrun.st
            simp at this
            rw [this]
            rfl
        show HSt K CH H H14 ad aw g fc l h dx ro pa h2 dx2 ro2 pa2 ds d G Pn Rs Cs Rs Cs (Rs.take 1) (Cs.take 0)
        rw [e1]
        exact hst14
      · rintro j y σ' Ha Hb hj ⟨v14, v15, rfl, hst, hl4, tx⟩ ⟨rfl, hy⟩
        rw [List.getElem?_drop] at hy
        have hj2 : j < Cs.length := by
          have := (List.getElem?_eq_some_iff.mp hy).1
          omega
        obtain ⟨zs', hr', _, hg⟩ := hst14.rw_.ex
        have er : zs' = zs := by
          rw [hr'] at hzl14
          cases hzl14
          rfl
        subst er
        obtain ⟨R, R', hRj, hRj', hA⟩ := hrun.go j _ (List.getElem?_eq_getElem hj2)
        obtain ⟨t, x, yv, ht, ht2, hx2, hc⟩ := hg (1 + j) R' (by rw [Nat.add_comm]; exact hRj')
        rw [hy] at ht
        obtain rfl := Option.some.inj ht
        obtain ⟨ca, rfl, hca⟩ := hc j _ (by omega) (List.getElem?_eq_getElem hj2)
        have hcj : Cs[j]? = some Cs[j] := List.getElem?_eq_getElem hj2
        generalize Cs[j] = c at hA hca hcj
        have ht3 := tx.tup ht2
        have hca3 := tx.tup hca
        have hcl : c.length ≤ 1000 := by
          obtain ⟨_, cs, e1, _, e3, _⟩ := hourA_tup hA
          have e4 := vI_inj (Option.some.inj e1)
          rw [e4, e3]
          have := hwN_le d j
          omega
        have hin1 := hst.S1.ins
        have hin2 := hst.S2.ins
        have hCl : (Cs.take j).length = j := by rw [List.length_take]; omega
        walk_at "go"
        refine ⟨h, dx, _, .ref CH, rfl, hin1, .ins hin2, h, dx, ad, aw, ro, pa, .ref h2, ds, d, Rs, Cs, G, rfl, hst.S1, hrun.st, .inl ⟨h2, dx2, ad, aw, ro2, pa2, ds, d, Rs.take (j + 1), Cs.take j, G, rfl, hst.S2, by rw [List.getElem?_take_of_lt (by omega)]; exact hrun.st, fun Hc e3 => ⟨_, rfl, ?_⟩⟩⟩
        rw [houD_ne (by omega)]
        refine c_bl ?_
        refine iteF ?_
        have hst3 := hst.same e3
        have hca4 := e3.tup hca3
        have hl5 := e3 _ _ hl4
        have tx3 := tx.trans (.of e3)
        have hin23 := hst3.S2.ins
        clear hst hin1 hin2 hl4 ht3
        walk_at "go"
        refine c_methH ?_
        walk_at "go"
        have hA2 : hourA d (Cs.take j).length (lastR (Rs.take (j + 1))) (some (vI c)) = .tup R' := by rw [hCl, take_last hRj]; exact hA
        refine ⟨h2, dx2, ad, aw, ro2, pa2, .ref ca, some (vI c), ds, d, Rs.take (j + 1), Cs.take j, rfl, hst3.S2, tv_ref hca4 (fl_ints c) (by simp; omega), by rw [hA2]; trivial, fun cs new Hd t2 eA eo m S' ht' => ?_⟩
        rw [hA2] at eA
        cases eA
        have ecs := vI_inj (Option.some.inj eo)
        subst ecs
        rw [← take_succ_get hRj', ← take_succ_get hcj] at S'
        have tm := hst3.S2.tx m
        walk_at "go"
        exact ⟨_, _, rfl, hst3.did2 m S', m _ _ hl5 m3 m4, tx3.trans tm⟩
      · rintro σ' H15 ⟨v14, v15, rfl, hst0, _, _⟩
        have e1 : (zs.drop 1).length = Cs.length := by rw [List.length_drop]; omega
        rw [e1, List.take_of_length_le (by omega), List.take_of_length_le (Nat.le_refl _)] at hst0
        clear hst14 hzl14 hl14 m3 m4
        have hst := hst0
        clear hst0 e1
        have hin1 := hst.S1.ins
        have hin2 := hst.S2.ins
        walk_at "go"
        refine ⟨h, dx, _, .ref CH, rfl, hin1, .ins hin2, h, dx, ad, aw, ro, pa, .ref h2, ds, d, Rs, Cs, G, rfl, hst.S1, hrun.st, .inl ⟨h2, dx2, ad, aw, ro2, pa2, ds, d, Rs, Cs, G, rfl, hst.S2, hrun.st, fun H16 e16 => ⟨_, rfl, ?_⟩⟩⟩
        rw [houD_eq]
        refine c_bl ?_
        refine iteF ?_
        replace hst := hst.same e16
        clear hin1 hin2
        have hin1 := hst.S1.ins
        walk_at "go"
        refine ⟨h, dx, _, .type "tuple", rfl, hin1, .tup hst.S1.day.day, h, dx, ad, aw, ro, pa, .ref ad, ds, d, Rs, Cs, G, rfl, hst.S1, hrun.st, .inr ⟨ad, _, rfl, hst.S1.day.day, ⟨_, rfl, ?_⟩⟩⟩
        refine c_bl ?_
        refine iteF ?_
        have hgt := hst.st
        walk_at "go"
        refine c_makeE ?_
        walk_at "go"
        refine ⟨g, rfl, ⟨_, hgt⟩, fun D nD => ?_⟩
        refine lc_it (walk_tup (xs := vI G)) (fun j H' => Same H16 H' ∧ H' D = some (.lst (vI ((G.take j).map (· + 1))))) ⟨Same.new nD, upd_same⟩ (fun j H' _ h => h.1.tup hgt) ?_ ?_
        · rintro j y Ha Hb hj ⟨e2, hD⟩ ⟨rfl, hy⟩
          obtain ⟨n, hn, rfl⟩ := vI_inv hy
          have hjl := (List.getElem?_eq_some_iff.mp hn).1
          walk_at "go"
          refine ⟨rfl, ?_⟩
          walk_at "go"
          refine iteT ?_
          walk_at "go"
          refine ⟨_, hD, szl' (by simp; omega), e2.mut nD, ?_⟩
          rw [upd_same, take_succ_get hn]
          simp
        · rintro H17 ⟨e17, hD⟩
          rw [List.take_of_length_le (by rw [List.length_map]; omega)] at hD
          walk_at "go"
          intro g2 ng2
          have s18 := Same.new (o := .tup (vI (G.map (· + 1)))) ng2
          have hg18 : SqT K (upd H17 g2 (.tup (vI (G.map (· + 1))))) g2 (vI (G.map (· + 1))) := SqT.of upd_same
          generalize upd H17 g2 (.tup (vI (G.map (· + 1)))) = H18 at s18 hg18 ⊢
          replace hst := hst.same (e17.trans s18)
          clear hin1 hgt hD e17 s18 ng2 nD
          walk_at "go"
          intro h3 dx3 nh3 ndx3 ne3
          refine ⟨H18, h3, dx3, .ref ad, .ref g2, rfl, new2 nh3 ndx3 ne3, nh3, upd_same, .inr (.inr ⟨ad, aw, g2, ds, d, G.map (· + 1), rfl, rfl, hst.S1.day, DD, hg18, by rw [List.length_map]; exact hl7, ?_, fun H19 ro3 pa3 s19 _ _ S19 => ⟨rfl, ?_⟩⟩)⟩
          · refine mem_bd (by decide) fun x hx => ?_
            obtain ⟨z, hz, rfl⟩ := List.mem_map.mp hx
            have := hGb z hz
            omega
          replace hst := hst.same s19
          have hin1 := hst.S1.ins
          have hin3 := S19.ins
          refine ⟨h, dx, _, .ref CH, rfl, hin1, .ins hin3, h, dx, ad, aw, ro, pa, .ref h3, ds, d, Rs, Cs, G, rfl, hst.S1, hrun.st, .inl ⟨h3, dx3, ad, aw, ro3, pa3, ds, d, [G.map (· + 1)], [], G.map (· + 1), rfl, S19, rfl, fun H20 e20 => ⟨_, rfl, ?_⟩⟩⟩
          obtain ⟨x0, G0, rfl⟩ : ∃ x0 G0, G = x0 :: G0 := by
            cases G with
            | nil => simp at hl7; omega
            | cons x0 G0 => exact ⟨x0, G0, rfl⟩
          rw [List.map_cons, houD_start (by omega)]
          refine c_bl ?_
          refine iteF ?_
          replace hst := hst.same e20
          clear S19 hin1 hin3 hg18 e20 s19 nh3 ndx3 ne3
          generalize x0 :: G0 = G at hst hrun hl7 hGd20 hGb hGd
          obtain ⟨zs5, hz5, hzn5⟩ := hst.rw_.lst
          walk_at "go"
          refine ⟨l, zs5, rfl, SqL.of hz5, fun l5 n5 => ?_⟩
          rw [cut1]
          have s21 := Same.new (o := .lst (zs5.drop 1)) n5
          have hl21 : upd H20 l5 (.lst (zs5.drop 1)) l5 = some (.lst (zs5.drop 1)) := upd_same
          have m3 : l5 ≠ ro := by obtain ⟨⟨x3, q3⟩, _⟩ := hst.S1.lsts; exact ne_had q3 n5
          have m4 : l5 ≠ pa := by obtain ⟨_, x3, q3⟩ := hst.S1.lsts; exact ne_had q3 n5
          generalize upd H20 l5 (.lst (zs5.drop 1)) = H21 at s21 hl21 ⊢
          replace hst := hst.same s21
          clear s21 n5 hz5
          walk_at "go"
          refine ⟨l5, rfl, ⟨_, SqL.of hl21⟩, ?_⟩
          refine for_it (walk_list (xs := zs5.drop 1)) (fun j σ' H' => ∃ v16, σ' = [some (.ref a), v1, some (.ref ad), some (.int num), some (.ref g), some (.ref fc), none, some (.ref h), some (.ref h2), some (.ref l), v10, v11, v12, v13, v14, v15, v16, none, none, none, none] ∧ HSt K CH H H' ad aw g fc l h dx ro pa h2 dx2 ro2 pa2 ds d G Pn (Rs.take (Cs.length + 1 - j)) (Cs.take (Cs.length - j)) Rs Cs Rs Cs ∧ H' l5 = some (.lst (zs5.drop 1))) ⟨_, rfl, ?_, hl21⟩ (fun j σ' H' _ ⟨_, _, _, hq⟩ => SqL.of hq) ?_ ?_
          · rw [Nat.sub_zero, Nat.sub_zero, List.take_of_length_le (by omega), List.take_of_length_le (Nat.le_refl _)]
            exact hst
          · rintro j y σ' Ha Hb hj ⟨v16, rfl, hst, hl5⟩ ⟨rfl, hy⟩
            rw [List.getElem?_drop] at hy
            have hj2 : j < Cs.length := by
              have := (List.getElem?_eq_some_iff.mp hy).1
              omega
            have hin1 := hst.S1.ins
            walk_at "go"
            refine c_methH ?_
            walk_at "go"
            refine ⟨h, dx, ad, aw, ro, pa, ds, d, _, _, rfl, hst.S1, fun hC => ?_, fun hC Hc m S' => ?_⟩
            · have := congrArg List.length hC
              rw [List.length_take] at this
              simp at this
              omega
            · rw [tk_drop (by omega), tk_drop (by omega)] at S'
              walk_at "go"
              refine ⟨_, rfl, ?_, m _ _ hl5 m3 m4⟩
              have e1 : Cs.length + 1 - (j + 1) = Cs.length + 1 - j - 1 := by omega
              have e2 : Cs.length - (j + 1) = Cs.length - j - 1 := by omega
              rw [e1, e2]
              exact hst.did m S'
          rintro σ' H22 ⟨v16, rfl, hst0, _⟩
          have e1 : (zs5.drop 1).length = Cs.length := by rw [List.length_drop]; omega
          have e2 : Rs.take 1 = [G] := by
            cases Rs with
            | nil => simp at hlenR
            | cons R Rs =>
              have := hrun.st
              simp at this
              rw [this]
              rfl
          rw [e1, show Cs.length + 1 - Cs.length = 1 by omega, Nat.sub_self, e2, List.take_zero] at hst0
          clear hst hl21 m3 m4 e1 e2
          have hst := hst0
          clear hst0
          have hday22 := hst.S1.day.day
          walk_at "go"
          refine c_makeE ?_
          walk_at "go"
          intro h3 dx3 nh3 ndx3 ne3
          refine ⟨H22, h3, dx3, .ref ad, .ref g, rfl, new2 nh3 ndx3 ne3, nh3, upd_same, .inr (.inr ⟨ad, aw, g, ds, d, G, rfl, rfl, hst.S1.day, DD, hst.st, hl7, hGd20, fun H23 ro3 pa3 s23 _ _ S23 => ⟨rfl, ?_⟩⟩)⟩
          replace hst := hst.same s23
          have hin1 := hst.S1.ins
          have hin3 := S23.ins
          refine ⟨h, dx, _, .ref CH, rfl, hin1, .ins hin3, h, dx, ad, aw, ro, pa, .ref h3, ds, d, [G], [], G, rfl, hst.S1, rfl, .inl ⟨h3, dx3, ad, aw, ro3, pa3, ds, d, [G], [], G, rfl, S23, rfl, fun H24 e24 => ⟨_, rfl, ?_⟩⟩⟩
          rw [houD_eq]
          refine c_bl ?_
          refine iteF ?_
          replace hst := hst.same e24
          clear S23 hin1 hin3 e24 s23 nh3 ndx3 ne3 hday22
          walk_at "go"
          refine ⟨szl (by simp), fun tb ntb => ?_⟩
          have s25 := Same.new (o := .tup [V.str "back"]) ntb
          have htb : SqT K (upd H24 tb (.tup [V.str "back"])) tb [V.str "back"] := SqT.of upd_same
          generalize upd H24 tb (.tup [V.str "back"]) = H25 at s25 htb ⊢
          replace hst := hst.same s25
          walk_at "go"
          refine ⟨h, dx, ad, aw, ro, pa, tb, ds, d, [G], [], .back, rfl, hst.S1, htb, fun x H26 m S' hx => ?_⟩
          replace hst := hst.did m S'
          clear htb s25 ntb m S'
          walk_at "go"
          refine c_neAns (a := .word "NothingLeft") (by decide : ("NothingLeft" : Str) ∈ ern) hx rfl ?_
          refine c_bl ?_
          refine iteF ?_
          clear hx
          have hd26 := hst.S1.day
          have hg26 := hst.st
          clear hst
          walk_at "go"
          refine ⟨szl (by simp), fun kl nkl => ?_⟩
          have s27 := Same.new (o := .lst []) nkl
          have hk27 : upd H26 kl (.lst []) kl = some (.lst []) := upd_same
          generalize upd H26 kl (.lst []) = H27 at s27 hk27 ⊢
          have hd27 := hd26.tx (.of s27)
          have hg27 := s27.tup hg26
          have hday27 := hd27.day
          walk_at "go"
          refine c_slQ hday27 fun p1 H28 s28 hp1 => ?_
          walk_at "go"
          refine ⟨szl (by simp), fun t1 n1 => ?_⟩
          have s29 := Same.new (o := .tup [V.ref p1, V.ref g]) n1
          have ht1 : SqT K (upd H28 t1 (.tup [V.ref p1, V.ref g])) t1 [V.ref p1, V.ref g] := SqT.of upd_same
          generalize upd H28 t1 (.tup [V.ref p1, V.ref g]) = H29 at s29 ht1 ⊢
          walk_at "go"
          refine ⟨szl (by simp), fun t2 n2 => ?_⟩
          have s30 := Same.new (o := .tup [V.non, V.non]) n2
          have ht2 : SqT K (upd H29 t2 (.tup [V.non, V.non])) t2 [V.non, V.non] := SqT.of upd_same
          generalize upd H29 t2 (.tup [V.non, V.non]) = H30 at s30 ht2 ⊢
          have s27_30 := s28.trans (s29.trans s30)
          have hg30 := s27_30.tup hg27
          walk_at "go"
          refine c_slQ hg30 fun p3 H31 s31 hp3 => ?_
          rw [cut1] at hp3
          walk_at "go"
          refine ⟨szl (by simp), fun t3 n3 => ?_⟩
          have s32 := Same.new (o := .tup [V.ref ad, V.ref p3]) n3
          have ht3 : SqT K (upd H31 t3 (.tup [V.ref ad, V.ref p3])) t3 [V.ref ad, V.ref p3] := SqT.of upd_same
          generalize upd H31 t3 (.tup [V.ref ad, V.ref p3]) = H32 at s32 ht3 ⊢
          walk_at "go"
          refine ⟨szl (by simp), fun z4 nz4 => ?_⟩
          have s33 := Same.new (o := .tup [V.int 21]) nz4
          have hz33 : SqT K (upd H32 z4 (.tup [V.int 21])) z4 [V.int 21] := SqT.of upd_same
          generalize upd H32 z4 (.tup [V.int 21]) = H33 at s33 hz33 ⊢
          have s27_33 := s27_30.trans (s31.trans (s32.trans s33))
          have hday33 := s27_33.tup hday27
          walk_at "go"
          refine c_repQ hz33 hP2 (by omega) fun p4 H34 s34 _ hp4 => ?_
          walk_at "go"
          refine ⟨szl (by simp), fun t4 n4 => ?_⟩
          have s35 := Same.new (o := .tup [V.ref ad, V.ref p4]) n4
          have ht4 : SqT K (upd H34 t4 (.tup [V.ref ad, V.ref p4])) t4 [V.ref ad, V.ref p4] := SqT.of upd_same
          generalize upd H34 t4 (.tup [V.ref ad, V.ref p4]) = H35 at s35 ht4 ⊢
          have s27_35 := s27_33.trans (s34.trans s35)
          have hg35 := s27_35.tup hg27
          walk_at "go"
          intro p5 np5
          have s36 := Same.new (o := .lst (vI G)) np5
          have hp5 : SqL K (upd H35 p5 (.lst (vI G))) p5 (vI G) := SqL.of upd_same
          generalize upd H35 p5 (.lst (vI G)) = H36 at s36 hp5 ⊢
          walk_at "go"
          refine ⟨szl (by simp), fun t5 n5 => ?_⟩
          have s37 := Same.new (o := .tup [V.ref ad, V.ref p5]) n5
          have ht5 : SqT K (upd H36 t5 (.tup [V.ref ad, V.ref p5])) t5 [V.ref ad, V.ref p5] := SqT.of upd_same
          generalize upd H36 t5 (.tup [V.ref ad, V.ref p5]) = H37 at s37 ht5 ⊢
          walk_at "go"
          refine ⟨szl (by simp), fun ll nll => ?_⟩
          have s38 := Same.new (o := .lst [V.ref t1, V.ref t2, V.ref t3, V.ref t4, V.ref t5]) nll
          have hll : upd H37 ll (.lst [V.ref t1, V.ref t2, V.ref t3, V.ref t4, V.ref t5]) ll = some (.lst [V.ref t1, V.ref t2, V.ref t3, V.ref t4, V.ref t5]) := upd_same
          generalize upd H37 ll (.lst [V.ref t1, V.ref t2, V.ref t3, V.ref t4, V.ref t5]) = H38 at s38 hll ⊢
          have s36_38 := s37.trans s38
          have s35_38 := s36.trans s36_38
          have s34_38 := s35.trans s35_38
          have s32_38 := s33.trans (s34.trans s34_38)
          have s31_38 := s32.trans s32_38
          have s30_38 := s31.trans s31_38
          have s29_38 := s30.trans s30_38
          have s28_38 := s29.trans s29_38
          have s27_38 := s28.trans s28_38
          have hd38 := hd27.tx (.of s27_38)
          have hk38 := s27_38 _ _ hk27
          have nkl37 : ll ≠ kl := ne_had ((s27_35.trans (s36.trans s37)) _ _ hk27) nll
          have hall : ∀ (j : Nat) (y : V), [V.ref t1, V.ref t2, V.ref t3, V.ref t4, V.ref t5][j]? = some y → ∃ (t : Addr) (x z : V) (w : Str), y = .ref t ∧ SqT K H38 t [x, z] ∧ kindsL[j]? = some w ∧ RefW K H38 x z w := by
            intro j y hj
            match j, hj with
            | 0, hj => cases hj; exact ⟨t1, _, _, _, rfl, s29_38.tup ht1, rfl, .inl ⟨.inr ⟨p1, _, rfl, s28_38.tup hp1, show ¬ ((2 : Nat) = 3) by decide⟩, rfl⟩⟩
            | 1, hj => cases hj; exact ⟨t2, _, _, _, rfl, s30_38.tup ht2, rfl, .inl ⟨.inl trivial, rfl⟩⟩
            | 2, hj =>
              cases hj
              refine ⟨t3, _, _, _, rfl, s32_38.tup ht3, rfl, .inr ⟨ad, aw, ds, d, some ((vI G).drop 1), rfl, hd38, DD, tv_ref (s31_38.tup hp3) (fun y hy => fl_ints G y (List.mem_of_mem_drop hy)) (by simp; omega), ?_, rfl⟩⟩
              show (decide (((vI G).drop 1).length = d.P) && _) = false
              rw [decide_eq_false (by simp; omega)]
              rfl
            | 3, hj =>
              cases hj
              refine ⟨t4, _, _, _, rfl, s35_38.tup ht4, rfl, .inr ⟨ad, aw, ds, d, some (List.replicate d.P (.int 21)), rfl, hd38, DD, tv_ref (s34_38.tup hp4) (fun y hy => by rw [(List.mem_replicate.mp hy).2]; trivial) (by simp; omega), ?_, rfl⟩⟩
              show (_ && (List.replicate d.P (V.int 21)).all (fun x => isFromV x 0 20)) = false
              obtain ⟨n, hn⟩ : ∃ n, d.P = n + 1 := ⟨d.P - 1, by omega⟩
              rw [hn, List.replicate_succ, List.all_cons, show isFromV (.int 21) 0 20 = false by decide]
              simp
            | 4, hj => cases hj; exact ⟨t5, _, _, _, rfl, s38.tup ht5, rfl, .inr ⟨ad, aw, ds, d, none, rfl, hd38, DD, tv_no ⟨_, s36_38.lst hp5⟩, rfl, rfl⟩⟩
            | n + 5, hj => simp at hj
          clear s36_38 s35_38 s34_38 s32_38 s31_38 s30_38 s29_38 s28_38 s27_38 hd38 s38 s37 s36 s35 s34 s33 s32 s31 s30 s29 s28 ht1 ht2 ht3 ht4 ht5 hp1 hp3 hp4 hp5 hz33 hday33 hg35 hg30 hday27 hg27 hd27 s27 hk27 hg26 hd26 s27_30 s27_33 s27_35 n1 n2 n3 n4 n5 nz4 np5 nll
          walk_at "go"
          refine ⟨ll, rfl, ⟨_, SqL.of hll⟩, ?_⟩
          refine for_it (walk_list (xs := [V.ref t1, V.ref t2, V.ref t3, V.ref t4, V.ref t5])) (fun j σ' H' => ∃ v18 v19, σ' = [some (.ref a), v1, some (.ref ad), some (.int num), some (.ref g), some (.ref fc), none, some (.ref h), some (.ref h2), some (.ref l), v10, v11, v12, v13, v14, v15, v16, some (.ref kl), v18, v19, none] ∧ Ov kl H38 H' ∧ H' kl = some (.lst ((kindsL.take j).map V.str))) ⟨_, _, rfl, .refl _ _, hk38⟩ (fun j σ' H' _ ⟨_, _, _, o, _⟩ => SqL.of (o _ _ hll nkl37)) ?_ ?_
          · rintro j y σ' Ha Hb hj ⟨v18, v19, rfl, o, hk⟩ ⟨rfl, hy⟩
            obtain ⟨t, x, z, w, rfl, ht, hkw, hRf⟩ := hall j y hy
            have kp := Kp.ovL o hk38 hk
            replace ht := kp.tx.tup ht
            replace hRf := hRf.kp kp
            have hw6 := hRf.mem
            have hkl : ((kindsL.take j).map V.str).length ≤ 5 := by
              rw [List.length_map, List.length_take]
              exact Nat.min_le_right _ _
            walk_at "go"
            refine c_try ?_
            walk_at "go"
            refine c_makeE ?_
            walk_at "go"
            intro h6 dx6 nh ndx ne
            refine house_ref hRf (new2 nh ndx ne) nh upd_same fun H' es => ?_
            refine w_as Er (ans := .word w) ⟨hw6, rfl, rfl⟩ fun e6 na => ?_
            have hk2 := es _ _ hk
            walk_at "go"
            refine c_callS ?_
            walk_at "go"
            refine ⟨.word w, rfl, ⟨hw6, rfl, rfl⟩, fun v H'' e2 hv => ?_⟩
            obtain rfl : v = .str w := hv
            have hk3 := e2 _ _ hk2
            walk_at "go"
            refine c_app hk3 (szl' (by omega)) ?_
            walk_at "go"
            refine ⟨_, _, rfl, (o.trans (.of (es.trans e2))).trans Ov.upd, ?_⟩
            rw [upd_same, take_succ_get hkw]
            simp
          · rintro σ' H39 ⟨v18, v19, rfl, o, hk⟩
            walk_at "go"
            refine ⟨szl (by simp), fun l9 n9 => ?_⟩
            refine c_eqKinds (SqL.of (Same.new n9 _ _ hk)) (SqL.of upd_same) ?_
            exact k _
end
end Dw

namespace Dw
open PySem L2 HX Dry
def fnL0 : List He.FnD := [fnD "is_from" s_is_from, fnD "is_walk" s_is_walk, fnD "is_day" s_is_day, fnD "are_from" s_are_from, fnD "are_numbers" s_are_numbers, fnD "moved" s_moved, fnD "standing" s_standing, fnD "settled" s_settled, fnD "fewest" s_fewest, fnD "verdict" s_verdict, fnD "_law_bag" s__law_bag, fnD "_law_take" s__law_take, fnD "_law_of" s__law_of, fnD "_law_day" s__law_day, fnD "_law_wanted" s__law_wanted, fnD "_law_is_number" s__law_is_number, fnD "_law_kind" s__law_kind, fnD "_law_did" s__law_did, fnD "_law_hour_due" s__law_hour_due, fnD "_law_due" s__law_due]
def fnL1 : List He.FnD := [fnD "_law_a_deed" s__law_a_deed, fnD "_law_stands_so" s__law_stands_so, fnD "law" s_law, fnM "Flow" "__init__" "Flow.__init__" s_Flow___init__, fnM "Flow" "starts" "Flow.starts" s_Flow_starts, fnM "Flow" "waits" "Flow.waits" s_Flow_waits, fnM "Flow" "steps" "Flow.steps" s_Flow_steps, fnM "Flow" "reached" "Flow.reached" s_Flow_reached, fnM "Flow" "lessen" "Flow.lessen" s_Flow_lessen, fnM "Flow" "settle" "Flow.settle" s_Flow_settle, fnM "Flow" "line" "Flow.line" s_Flow_line, fnM "House" "__init__" "House.__init__" s_House___init__, fnM "House" "__len__" "House.__len__" s_House___len__, fnM "House" "__eq__" "House.__eq__" s_House___eq__, fnM "House" "hour" "House.hour" s_House_hour, fnM "House" "back" "House.back" s_House_back, fnM "House" "gone" "House.gone" s_House_gone, fnM "House" "stands" "House.stands" s_House_stands, fnM "House" "log" "House.log" s_House_log, fnM "House" "can_stay_dry" "House.can_stay_dry" s_House_can_stay_dry]
def fnL2 : List He.FnD := [fnM "Soaked" "__init__" "Soaked.__init__" s_Soaked___init__, fnM "Lacks" "__init__" "Lacks.__init__" s_Lacks___init__]
def fnL : List He.FnD := fnL0 ++ fnL1 ++ fnL2
def faL0 : List He.Fa := [.glo "is_from", .keep "is_from", .glo "is_walk", .keep "is_walk", .glo "is_day", .keep "is_day", .glo "are_from", .keep "are_from", .glo "are_numbers", .keep "are_numbers", .glo "moved", .keep "moved", .glo "standing", .keep "standing", .glo "settled", .keep "settled", .glo "fewest", .keep "fewest", .glo "verdict", .keep "verdict"]
def faL1 : List He.Fa := [.glo "_law_bag", .keep "_law_bag", .glo "_law_take", .keep "_law_take", .glo "_law_of", .keep "_law_of", .glo "_law_day", .keep "_law_day", .glo "_law_wanted", .keep "_law_wanted", .glo "_law_is_number", .keep "_law_is_number", .glo "_law_kind", .keep "_law_kind", .glo "_law_did", .keep "_law_did", .glo "_law_hour_due", .keep "_law_hour_due", .glo "_law_due", .keep "_law_due"]
def faL2 : List He.Fa := [.glo "_law_a_deed", .keep "_law_a_deed", .glo "_law_stands_so", .keep "_law_stands_so", .glo "law", .keep "law", .glo "Flow", .cls "Flow", .mkr "Flow", .meth "Flow" "__init__", .meth "Flow" "starts", .meth "Flow" "waits", .meth "Flow" "steps", .meth "Flow" "reached", .meth "Flow" "lessen", .meth "Flow" "settle", .meth "Flow" "line", .noat "Flow" "day", .noat "Flow" "given", .noat "Flow" "wanted"]
def faL3 : List He.Fa := [.noat "Flow" "carried", .noat "Flow" "more", .glo "House", .cls "House", .mkr "House", .meth "House" "__init__", .meth "House" "__len__", .meth "House" "__eq__", .meth "House" "hour", .meth "House" "back", .meth "House" "gone", .meth "House" "stands", .meth "House" "log", .meth "House" "can_stay_dry", .noat "House" "day", .noat "House" "rows", .noat "House" "past", .meth "Soaked" "__init__", .meth "Lacks" "__init__", .free "len"]
def faL4 : List He.Fa := [.free "int", .free "bool", .free "str", .free "tuple", .free "list", .free "isinstance", .free "sum", .free "max", .free "min", .free "all", .free "any", .free "zip", .free "range", .free "enumerate", .free "sorted", .int "HOURS" 8, .int "WALKS" 12, .int "ROOM" 3, .int "MOST" 20, .glo "PLACES"]
def faL : List He.Fa := faL0 ++ faL1 ++ faL2 ++ faL3 ++ faL4
def looseL0 : List PySem.Str := ["__name__", "PLACES", "HOURS", "WALKS", "ROOM", "MOST", "is_from", "is_walk", "is_day", "are_from", "are_numbers", "WalkError", "NoDay", "NoStarts", "NoWanted", "NoCarried", "Over", "NothingLeft", "Soaked", "Lacks"]
def looseL1 : List PySem.Str := ["moved", "standing", "Flow", "settled", "fewest", "verdict", "House", "_law_bag", "_law_take", "_law_of", "_law_day", "_law_wanted", "_law_stands", "_law_is_number", "_law_is_plan", "_law_kind", "_law_did", "_law_hour_due", "_law_due", "_law_a_deed"]
def looseL2 : List PySem.Str := ["_law_stands_so"]
def looseL : List PySem.Str := looseL0 ++ looseL1 ++ looseL2
def taL : List (PySem.Str × List He.Dv) := [("PLACES", [.int (2), .int (5)])]
def xlL : List (PySem.W.Frag → Bool) := [ckGlo, ckExm, ckKit, ckExc, ckSix, ckTwo, ckWe, ckHou]
abbrev RR : PySem.W.OpenRow := PySem.W.OpenLaw.row PySem.Challenge.rw_drywalks_k08_whole_a_house_hour_by_hour
abbrev hkE : PySem.W.Hook := hookX 5 faL fnL taL xlL
def obE (s : PySem.W.SharedT) : He.Al := obsXG 5 faL fnL taL xlL (HandSHeadRun.getT s)
theorem obE_eq (s : PySem.W.SharedT) : obE s = hkE.obs s.abs := obsXG_eq (HandSHeadRun.getT_eq s)
set_option maxHeartbeats 0 in
theorem runE (w : World) : HandSHeadRun.RunEq RR (PySem.W.view RR.prog [47]) hkE obE 4000 looseL w := by
  intro os
  kernel_rfl
theorem factsE {P : Program} {w : World} {K : PySem.W.Frag} {h : Heap} {mg : Str → Option Value} {f : Addr} (X : K.In h) (G : h.Ns mainGlobals mg) (hfa : mg ("law" : Str) = some (.ref f)) (c : SaysX faL fnL taL xlL K) :
    ∃ fd : FuncData, (∀ (s : Shared) (v : Value), BindsTo s fd ⟨[v], []⟩ [("script", v)]) ∧ ∀ base : Heap, K.In base → base.Ns mainGlobals mg → FnOk P w K mg base CX0 11 f fd ["script"] (spLaw K) := by
  have cX := c
  have cT := cX.both.1
  replace c := cT.e
  have B : Bl mg := ⟨(free_of X G c 79 rfl), (free_of X G c 80 rfl), (free_of X G c 81 rfl), (free_of X G c 82 rfl), (free_of X G c 83 rfl), (free_of X G c 84 rfl), (free_of X G c 85 rfl), (free_of X G c 86 rfl), (free_of X G c 87 rfl), (free_of X G c 88 rfl), (free_of X G c 89 rfl), (free_of X G c 90 rfl), (free_of X G c 91 rfl), (free_of X G c 92 rfl), (free_of X G c 93 rfl), (free_of X G c 94 rfl)⟩
  have F_is_from : Has K mg "is_from" s_is_from := has_of X G c 0 0 1 rfl rfl rfl
  have F_is_walk : Has K mg "is_walk" s_is_walk := has_of X G c 1 2 3 rfl rfl rfl
  have F_is_day : Has K mg "is_day" s_is_day := has_of X G c 2 4 5 rfl rfl rfl
  have F_are_from : Has K mg "are_from" s_are_from := has_of X G c 3 6 7 rfl rfl rfl
  have F_are_numbers : Has K mg "are_numbers" s_are_numbers := has_of X G c 4 8 9 rfl rfl rfl
  have F_moved : Has K mg "moved" s_moved := has_of X G c 5 10 11 rfl rfl rfl
  have F_standing : Has K mg "standing" s_standing := has_of X G c 6 12 13 rfl rfl rfl
  have F_settled : Has K mg "settled" s_settled := has_of X G c 7 14 15 rfl rfl rfl
  have F_fewest : Has K mg "fewest" s_fewest := has_of X G c 8 16 17 rfl rfl rfl
  have F_verdict : Has K mg "verdict" s_verdict := has_of X G c 9 18 19 rfl rfl rfl
  have F__law_bag : Has K mg "_law_bag" s__law_bag := has_of X G c 10 20 21 rfl rfl rfl
  have F__law_take : Has K mg "_law_take" s__law_take := has_of X G c 11 22 23 rfl rfl rfl
  have F__law_of : Has K mg "_law_of" s__law_of := has_of X G c 12 24 25 rfl rfl rfl
  have F__law_day : Has K mg "_law_day" s__law_day := has_of X G c 13 26 27 rfl rfl rfl
  have F__law_wanted : Has K mg "_law_wanted" s__law_wanted := has_of X G c 14 28 29 rfl rfl rfl
  have F__law_is_number : Has K mg "_law_is_number" s__law_is_number := has_of X G c 15 30 31 rfl rfl rfl
  have F__law_kind : Has K mg "_law_kind" s__law_kind := has_of X G c 16 32 33 rfl rfl rfl
  have F__law_did : Has K mg "_law_did" s__law_did := has_of X G c 17 34 35 rfl rfl rfl
  have F__law_hour_due : Has K mg "_law_hour_due" s__law_hour_due := has_of X G c 18 36 37 rfl rfl rfl
  have F__law_due : Has K mg "_law_due" s__law_due := has_of X G c 19 38 39 rfl rfl rfl
  have F__law_a_deed : Has K mg "_law_a_deed" s__law_a_deed := has_of X G c 20 40 41 rfl rfl rfl
  have F__law_stands_so : Has K mg "_law_stands_so" s__law_stands_so := has_of X G c 21 42 43 rfl rfl rfl
  have F_law : Has K mg "law" s_law := has_of X G c 22 44 45 rfl rfl rfl
  have F_Flow___init__ : HasI K mg "Flow" (He.ga K "Flow") "Flow.__init__" s_Flow___init__ := hasI_of X G c 23 49 48 46 rfl rfl rfl rfl
  have F_Flow_starts : HasM K (He.ga K "Flow") "starts" "Flow.starts" s_Flow_starts := hasM_of c 24 50 rfl rfl
  have F_Flow_waits : HasM K (He.ga K "Flow") "waits" "Flow.waits" s_Flow_waits := hasM_of c 25 51 rfl rfl
  have F_Flow_steps : HasM K (He.ga K "Flow") "steps" "Flow.steps" s_Flow_steps := hasM_of c 26 52 rfl rfl
  have F_Flow_reached : HasM K (He.ga K "Flow") "reached" "Flow.reached" s_Flow_reached := hasM_of c 27 53 rfl rfl
  have F_Flow_lessen : HasM K (He.ga K "Flow") "lessen" "Flow.lessen" s_Flow_lessen := hasM_of c 28 54 rfl rfl
  have F_Flow_settle : HasM K (He.ga K "Flow") "settle" "Flow.settle" s_Flow_settle := hasM_of c 29 55 rfl rfl
  have F_Flow_line : HasM K (He.ga K "Flow") "line" "Flow.line" s_Flow_line := hasM_of c 30 56 rfl rfl
  have T_Flow : Ctx K (He.ga K "Flow") := ⟨He.cls_ok (c.fact 47 rfl), noat_of c 57 rfl, noat_of c 58 rfl, noat_of c 59 rfl, noat_of c 60 rfl, noat_of c 61 rfl⟩
  have F_House___init__ : HasI K mg "House" (He.ga K "House") "House.__init__" s_House___init__ := hasI_of X G c 31 65 64 62 rfl rfl rfl rfl
  have F_House___len__ : HasM K (He.ga K "House") "__len__" "House.__len__" s_House___len__ := hasM_of c 32 66 rfl rfl
  have F_House___eq__ : HasM K (He.ga K "House") "__eq__" "House.__eq__" s_House___eq__ := hasM_of c 33 67 rfl rfl
  have F_House_hour : HasM K (He.ga K "House") "hour" "House.hour" s_House_hour := hasM_of c 34 68 rfl rfl
  have F_House_back : HasM K (He.ga K "House") "back" "House.back" s_House_back := hasM_of c 35 69 rfl rfl
  have F_House_gone : HasM K (He.ga K "House") "gone" "House.gone" s_House_gone := hasM_of c 36 70 rfl rfl
  have F_House_stands : HasM K (He.ga K "House") "stands" "House.stands" s_House_stands := hasM_of c 37 71 rfl rfl
  have F_House_log : HasM K (He.ga K "House") "log" "House.log" s_House_log := hasM_of c 38 72 rfl rfl
  have F_House_can_stay_dry : HasM K (He.ga K "House") "can_stay_dry" "House.can_stay_dry" s_House_can_stay_dry := hasM_of c 39 73 rfl rfl
  have T_House : CtxH K (He.ga K "House") := ⟨He.cls_ok (c.fact 63 rfl), noat_of c 74 rfl, noat_of c 75 rfl, noat_of c 76 rfl⟩
  have F_Soaked___init__ : HasM K (He.ga K "Soaked") "__init__" "Soaked.__init__" s_Soaked___init__ := hasM_of c 40 77 rfl rfl
  have F_Lacks___init__ : HasM K (He.ga K "Lacks") "__init__" "Lacks.__init__" s_Lacks___init__ := hasM_of c 41 78 rfl rfl
  have ckGlo_h := cX.at_ 0 (f := ckGlo) rfl
  have ckExm_h := cX.at_ 1 (f := ckExm) rfl
  have ckKit_h := cX.at_ 2 (f := ckKit) rfl
  have ckExc_h := cX.at_ 3 (f := ckExc) rfl
  have ckSix_h := cX.at_ 4 (f := ckSix) rfl
  have ckTwo_h := cX.at_ 5 (f := ckTwo) rfl
  have ckWe_h := cX.at_ 6 (f := ckWe) rfl
  have ckHou_h := cX.at_ 7 (f := ckHou) rfl
  have hPLACES : mg "PLACES" = some (.ref (He.ga K "PLACES")) := He.glo_ok X G (c.fact 99 rfl)
  have hT_PLACES : ∀ H, SqT K H (He.ga K "PLACES") [.int (2), .int (5)] := cT.tup 0 rfl
  have hHOURS : ∃ t, mg "HOURS" = some (.int 8 t) := He.int_ok X G (c.fact 95 rfl)
  have hWALKS : ∃ t, mg "WALKS" = some (.int 12 t) := He.int_ok X G (c.fact 96 rfl)
  have hROOM : ∃ t, mg "ROOM" = some (.int 3 t) := He.int_ok X G (c.fact 97 rfl)
  have hMOST : ∃ t, mg "MOST" = some (.int 20 t) := He.int_ok X G (c.fact 98 rfl)
  obtain ⟨fL, fdL, FL, hmL⟩ := F_law.ex
  rw [hfa] at hmL
  cases hmL
  have bL := FL.binds (ps := ["script"]) fun _ _ _ _ _ _ us hl => match us, hl with | [_], _ => rfl
  refine ⟨fdL, fun s v => ?_, fun base _ _ => ?_⟩
  · obtain ⟨oc, od, kV, doc, pm, an, cdv, ct, osl, rfl, _, _⟩ := FL.ex
    exact .of_eq rfl
  · have D_is_from := df_is_from (P := P) (w := w) (base := base) B F_is_from
    have D_is_walk := df_is_walk (P := P) (w := w) (base := base) B hROOM D_is_from F_is_walk
    have D_is_day := df_is_day (P := P) (w := w) (base := base) B hPLACES hT_PLACES hHOURS hWALKS D_is_from D_is_walk F_is_day
    have D_are_from := df_are_from (P := P) (w := w) (base := base) B D_is_from F_are_from
    have D_are_numbers := df_are_numbers (P := P) (w := w) (base := base) B hMOST D_are_from F_are_numbers
    have D_moved := df_moved (P := P) (w := w) (base := base) B F_moved
    have D_standing := df_standing (P := P) (w := w) (base := base) B D_moved F_standing
    have T := T_Flow
    have M_init := mf_init (P := P) (w := w) (base := base) _ T B F_Flow___init__
    have M_starts := mf_starts (P := P) (w := w) (base := base) _ T B F_Flow_starts
    have M_waits := mf_waits (P := P) (w := w) (base := base) _ T B M_starts D_standing F_Flow_waits
    have M_steps := mf_steps (P := P) (w := w) (base := base) _ T B F_Flow_steps
    have M_reached := mf_reached (P := P) (w := w) (base := base) _ T B M_waits M_steps F_Flow_reached
    have M_lessen := mf_lessen (P := P) (w := w) (base := base) _ T B M_reached F_Flow_lessen
    have M_settle := mf_settle (P := P) (w := w) (base := base) _ T B M_lessen F_Flow_settle
    have D_settled := df_settled (P := P) (w := w) (base := base) _ T B M_init M_settle F_settled
    have D_fewest := df_fewest (P := P) (w := w) (base := base) _ T B D_settled M_starts F_fewest
    have M_line := mf_line (P := P) (w := w) (base := base) _ T B M_reached F_Flow_line
    have D_verdict := df_verdict (P := P) (w := w) (base := base) _ T B D_settled M_line F_verdict
    have TH := T_House
    have D_bag := df_bag (P := P) (w := w) (base := base) B F__law_bag
    have D_take := df_take (P := P) (w := w) (base := base) B F__law_take
    have Er : Ers K mg := ers_of X G ckGlo_h ckExm_h ckKit_h ckExc_h ckSix_h ckTwo_h ckWe_h
    have HC : HouC K (He.ga K "House") := houC_of ckHou_h
    have hHouse : mg "House" = some (.ref (He.ga K "House")) := He.glo_ok X G (c.fact 62 rfl)
    have EI_Soaked := ei_soaked (P := P) (w := w) (base := base) Er F_Soaked___init__
    have EI_Lacks := ei_lacks (P := P) (w := w) (base := base) Er F_Lacks___init__
    have M_house := mf_houseX (P := P) (w := w) (base := base) _ TH Er B D_is_day D_are_numbers F_House___init__
    have M_hour := mf_hourX (P := P) (w := w) (base := base) _ TH Er B EI_Soaked EI_Lacks D_is_from F_House_hour
    have M_back := mf_backX (P := P) (w := w) (base := base) _ TH Er B F_House_back
    have M_stay := mf_stayX (P := P) (w := w) (base := base) _ TH Er B D_are_numbers D_verdict F_House_can_stay_dry
    have M_len := mf_lenH (P := P) (w := w) (base := base) _ TH B F_House___len__
    have M_gone := mf_gone (P := P) (w := w) (base := base) _ TH B F_House_gone
    have M_stands := mf_stands (P := P) (w := w) (base := base) _ TH B F_House_stands
    have M_log := mf_log (P := P) (w := w) (base := base) _ TH B F_House_log
    have M_eq := mf_eqH (P := P) (w := w) (base := base) _ TH HC B hHouse F_House___eq__
    have D_kind := dp_kind (P := P) (w := w) (base := base) Er B F__law_kind
    have D_did := df_did (P := P) (w := w) (base := base) _ TH Er B M_hour M_back M_stay D_kind F__law_did
    have D_is_number := df_is_number (P := P) (w := w) (base := base) B F__law_is_number
    have D_hour_due := df_hour_due (P := P) (w := w) (base := base) B D_is_number F__law_hour_due
    have D_due := df_due (P := P) (w := w) (base := base) B D_is_number D_hour_due D_verdict F__law_due
    have D_of := df_of' (P := P) (w := w) (base := base) B D_take F__law_of
    have D_day := df_day (P := P) (w := w) (base := base) B D_take D_of F__law_day
    have D_wanted := df_wanted (P := P) (w := w) (base := base) B D_take F__law_wanted
    have D_a_deed := df_a_deed (P := P) (w := w) (base := base) B D_take D_of F__law_a_deed
    have D_stands_so := df_stands_so (P := P) (w := w) (base := base) _ TH B M_len M_gone M_stands M_log F__law_stands_so
    exact fn_law _ TH Er HC hHouse B D_bag D_take D_day D_wanted D_fewest M_house M_hour M_back M_eq D_a_deed D_due D_did D_stands_so D_kind FL
end Dw
open PySem PySem.W PySem.Calls PyProof.Rows in
set_option maxRecDepth 100000 in
set_option maxHeartbeats 0 in
theorem PySem.Challenge.cw_drywalks_k08_whole_a_house_hour_by_hour_holds : PySem.Challenge.rw_drywalks_k08_whole_a_house_hour_by_hour.Holds := by
  w_on; o_law
  refine HandSHeadRun.head_any (r := OpenLaw.row PySem.Challenge.rw_drywalks_k08_whole_a_house_hour_by_hour) (q := view (OpenLaw.row PySem.Challenge.rw_drywalks_k08_whole_a_house_hour_by_hour).prog [47]) (H := Dw.hkE) (ob := Dw.obE) (M := 4000) (loose := Dw.looseL) (d := HandSHeadRun.topDef (OpenLaw.row PySem.Challenge.rw_drywalks_k08_whole_a_house_hour_by_hour).prog 47) (kwd := []) Dw.obE_eq
    (by kernel_rfl) (fun s => by kernel_rfl) Dw.runE (by kernel_rfl) (by kernel_rfl) (by kernel_rfl) (by rfl) (by first | assumption | decide +kernel) (by decide +kernel) ⟨rfl, rfl, rfl, rfl, rfl, by decide +kernel⟩ ?hw ?hc
  case hw => w_witness2
  case hc =>
    refine L2.walk_ofE (l := PySem.Challenge.rw_drywalks_k08_whole_a_house_hour_by_hour) (n := 63) (k := 11) (x := "script") (CX := L2.CX0) rfl (by decide) (by kernel_rfl) ⟨rfl, by decide, by decide⟩ ?F (fun _ _ _ _ z => z)
    intro w mg fa h Y G hmg0
    obtain ⟨K, KX, c⟩ := Y
    have hmg : mg ("law" : PySem.Str) = some (.ref fa) := by
      have e : (HandSHeadRun.topDef (OpenLaw.row PySem.Challenge.rw_drywalks_k08_whole_a_house_hour_by_hour).prog 47).name = ("law" : PySem.Str) := by kernel_rfl
      rw [← e]
      exact hmg0
    obtain ⟨fd, hb, hF⟩ := Dw.factsE (P := (PySem.Challenge.rw_drywalks_k08_whole_a_house_hour_by_hour).prog) (w := w) KX G hmg c
    exact ⟨K, fd, Dw.spLaw K, KX, hb, fun H a ns hl _ hS => ⟨a, ns, rfl, hS, hl, fun _ => rfl⟩, hF⟩
#print axioms PySem.Challenge.cw_drywalks_k08_whole_a_house_hour_by_hour_holds
