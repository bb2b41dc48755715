import PyProof.Rows.All
import Wide.All
import OpenK.AllK
import Wide.FinOn
import Open.SpecLaws
import KE.OsGo
import HandS.ForSpec
import HandS.Comp
import HandS.Iter
import HandS.ExcInit
import HandS.ExcField
import PySem.Challenge.RW_fewstones_s01_answers
set_option Elab.async false
set_option linter.all false
set_option maxRecDepth 100000
set_option maxHeartbeats 4000000
/-! The mirror of the program over plain lists -/
namespace FS
abbrev Sh := List (Int × Int)
def tiles (l : Sh) : Int := l.foldl (fun a s => a + s.2) 0
def iabs (i : Int) : Int := if i < 0 then -i else i
def errWith (l : Sh) (c : Int) : Int := l.foldl (fun a s => a + s.2 * iabs (s.1 - c)) 0
def medGo (w : Int) : Int → Sh → Int
  | _, [] => 0
  | a, s :: r => if w ≤ 2 * (a + s.2) then s.1 else medGo w (a + s.2) r
def med (l : Sh) : Int := medGo (tiles l) 0 l
def gErr (l : Sh) : Int := errWith l (med l)
def cut {α : Type} (l : List α) (i j : Nat) : List α := (l.drop i).take (j - i)
abbrev Dv := Int × List Nat
abbrev Rs := List (Option Dv)
def pick (f : Option Dv) (t : Int) (z : List Nat) : Option Dv := match f with
  | none => some (t, z)
  | some g => if t < g.1 then some (t, z) else some g
def stepSize (l : Sh) (i : Nat) (rests : Rs) (f : Option Dv) (s : Nat) : Option Dv := match rests[i + s]?.join with
  | none => f
  | some r => pick f (gErr (cut l i (i + s)) + r.1) (s :: r.2)
def bestFrom (l : Sh) (i : Nat) (rests : Rs) : Option Dv := (List.range (l.length - i)).foldl (fun f d => stepSize l i rests f (d + 1)) none
def firstRests (l : Sh) : Rs := l.map (fun _ => none) ++ [some (0, [])]
def nextRests (l : Sh) (rests : Rs) : Rs := (List.range l.length).map (fun i => bestFrom l i rests) ++ [some (0, [])]
def restsK (l : Sh) : Nat → Rs
  | 0 => firstRests l
  | k + 1 => nextRests l (restsK l k)
def bestDiv (l : Sh) (k : Nat) : Option Dv := (restsK l k)[0]?.join
def dv (l : Sh) (k : Nat) : Dv := (bestDiv l k).getD (0, [])
def allErr (l : Sh) : List (Option Int) := (List.range (l.length + 1)).map fun k => (bestDiv l k).map (·.1)
def groupsGo (l : Sh) : Nat → List Nat → List Sh
  | _, [] => []
  | i, s :: r => cut l i (i + s) :: groupsGo l (i + s) r
def groupsOf (l : Sh) (z : List Nat) : List Sh := groupsGo l 0 z
def gwGo (place : Int) : Nat → Nat → List Nat → Nat
  | _, n, [] => n
  | e, n, s :: r => if place < ((e + s : Nat) : Int) then n else gwGo place (e + s) (n + 1) r
def groupWith (z : List Nat) (place : Int) : Nat := gwGo place 0 0 z
def least : List Int → Int
  | [] => 0
  | x :: r => r.foldl (fun m y => if y < m then y else m) x
def leastDist (pal : List Int) (lv : Int) : Int := least (pal.map fun c => iabs (lv - c))
def palErr (l : Sh) (pal : List Int) : Int := l.foldl (fun a s => a + s.2 * leastDist pal s.1) 0
def flat (l : Sh) : List Int := l.flatMap fun s => [s.1, s.2]
def placeOf (l : Sh) (lv : Int) : Nat := (l.filter fun s => decide (s.1 < lv)).length
def hasLevel (l : Sh) (lv : Int) : Bool := l.any fun s => s.1 == lv
def withShade (l : Sh) (lv ct : Int) : Sh := l.take (placeOf l lv) ++ [(lv, ct)] ++ l.drop (placeOf l lv)
def withoutShade (l : Sh) (i : Nat) : Sh := l.take i ++ l.drop (i + 1)
def withCount (l : Sh) (i : Nat) (ct : Int) : Sh := l.take i ++ [((l.getD i (0, 0)).1, ct)] ++ l.drop (i + 1)
/-! the operations -/
def isLevel (x : Int) : Bool := decide (0 ≤ x) && decide (x ≤ 255)
def isCount (x : Int) : Bool := decide (1 ≤ x) && decide (x ≤ 999)
def isK (x : Int) : Bool := decide (0 ≤ x) && decide (x ≤ 12)
def isSh (l : Sh) (i : Int) : Bool := decide (0 ≤ i) && decide (i < (l.length : Int))
def posK (l : Sh) (k : Int) : Bool := decide (0 < k) || l.isEmpty
abbrev Ans := Except Int (List Int)
def withK (l : Sh) (k : Int) (r : List Int) : Ans := if isK k = false then .error (-22) else if posK l k = false then .error (-33) else .ok r
def gsFor (l : Sh) (k : Int) : List Sh := groupsOf l (dv l k.toNat).2
def qMinError (l : Sh) (k : Int) : Ans := withK l k [(dv l k.toNat).1]
def qPalette (l : Sh) (k : Int) : Ans := withK l k (((gsFor l k).length : Int) :: (gsFor l k).map med)
def qGroups (l : Sh) (k : Int) : Ans := withK l k (((gsFor l k).length : Int) :: (gsFor l k).flatMap fun g => [(g.length : Int), gErr g])
def qColourOf (l : Sh) (i k : Int) : Ans := if isSh l i = false then .error (-2) else withK l k [med ((gsFor l k).getD (groupWith (dv l k.toNat).2 i) [])]
def qReduction (l : Sh) (k : Int) : Ans := withK l k [(dv l k.toNat).1 - (dv l (k.toNat + 1)).1]
def qTable (l : Sh) : Ans := .ok ((l.length : Int) :: (allErr l).map fun e => e.getD (-1))
def mcGo (b : Int) (d : Int) : Nat → List (Option Int) → Int
  | _, [] => d
  | n, none :: r => mcGo b d (n + 1) r
  | n, some e :: r => if e ≤ b then (n : Int) else mcGo b d (n + 1) r
def qMinColours (l : Sh) (b : Int) : Ans := if b < 0 then .error (-22) else .ok [mcGo b l.length 0 (allErr l)]
def palOk (pal : List Int) : Bool := decide (1 ≤ pal.length) && decide (pal.length ≤ 12)
def qPalErr (l : Sh) (pal : List Int) : Ans := if palOk pal = false then .error (-22) else if pal.all isLevel = false then .error (-22) else .ok [palErr l pal]
def qMedian (l : Sh) (i j : Int) : Ans := if isSh l i = false then .error (-2) else if isSh l j = false then .error (-2) else if j < i then .error (-22)
  else .ok [med (cut l i.toNat (j.toNat + 1)), errWith (cut l i.toNat (j.toNat + 1)) (med (cut l i.toNat (j.toNat + 1)))]
def qCounts (l : Sh) (k : Int) : Ans := withK l k (((gsFor l k).length : Int) :: (gsFor l k).map tiles)
def qTotals (l : Sh) : Ans := .ok [(l.length : Int), tiles l]
def qDescribe (l : Sh) : Ans := .ok ((l.length : Int) :: flat l)
def cAdd (l : Sh) (lv ct : Int) : Except Int (Sh × List Int) := if (isLevel lv && isCount ct) = false then .error (-22) else if hasLevel l lv = true then .error (-17) else if 12 ≤ l.length then .error (-28)
  else .ok (withShade l lv ct, [(placeOf l lv : Int)])
def cRemove (l : Sh) (i : Int) : Except Int (Sh × List Int) := if isSh l i = false then .error (-2) else .ok (withoutShade l i.toNat, [((withoutShade l i.toNat).length : Int)])
def cSet (l : Sh) (i ct : Int) : Except Int (Sh × List Int) := if isSh l i = false then .error (-2) else if isCount ct = false then .error (-22) else .ok (withCount l i.toNat ct, [(l.getD i.toNat (0, 0)).2])
def a0 (n : List Int) : Int := n.getD 0 0
def a1 (n : List Int) : Int := n.getD 1 0
def asked (l : Sh) (call : Int) (n row : List Int) : Ans :=
  if call = 4 then qMinError l (a0 n) else if call = 5 then qPalette l (a0 n) else if call = 6 then qGroups l (a0 n) else if call = 7 then qColourOf l (a0 n) (a1 n)
  else if call = 8 then qReduction l (a0 n) else if call = 9 then qTable l else if call = 10 then qMinColours l (a0 n) else if call = 11 then qPalErr l row
  else if call = 12 then qMedian l (a0 n) (a1 n) else if call = 13 then qCounts l (a0 n) else if call = 14 then qTotals l else qDescribe l
def changed (l : Sh) (call : Int) (n : List Int) : Except Int (Sh × List Int) :=
  if call = 1 then cAdd l (a0 n) (a1 n) else if call = 2 then cRemove l (a0 n) else cSet l (a0 n) (a1 n)
/-- Desk.called: the new state where something changes -/
def called (st : Option Sh) (call : Int) (n row : List Int) : Except Int (Option Sh × List Int) :=
  if call = 0 then .ok (some [], [0]) else match st with
  | none => .error (-11)
  | some l => if call < 4 then (changed l call n).map fun r => (some r.1, r.2) else (asked l call n row).map fun r => (some l, r)
/-- Desk.answer -/
def answer (st : Option Sh) (call : Int) (n row : List Int) : Option Sh × List Int := match called st call n row with
  | .ok r => r
  | .error c => (st, [c])
end FS
/-! The mirror against the specification: sums, medians, divisions -/
namespace FS
open Sr110
def enc (s : Shade) : Int × Int := ((s.level : Int), (s.count : Int))
def encP (p : Picture) : Sh := p.map enc
theorem encP_length (p : Picture) : (encP p).length = p.length := List.length_map ..
theorem encP_cut (p : Picture) (i j : Nat) : cut (encP p) i j = encP (cut p i j) := by
  unfold cut encP
  rw [← List.map_drop, ← List.map_take]
theorem cut_length {α : Type} (l : List α) (i j : Nat) (h : j ≤ l.length) : (cut l i j).length = j - i := by
  unfold cut
  rw [List.length_take, List.length_drop]
  omega
/-! sums -/
theorem foldl_add : ∀ (l : List Nat) (a : Nat), l.foldl (· + ·) a = a + l.sum
  | [], a => by simp
  | x :: r, a => by
    rw [List.foldl_cons, foldl_add r, List.sum_cons]
    omega
theorem sum_eq (l : List Nat) : SrCommon.sum l = l.sum := by
  unfold SrCommon.sum
  rw [foldl_add]
  omega
theorem tiles_from : ∀ (p : Picture) (a : Int), (encP p).foldl (fun a s => a + s.2) a = a + ((p.map (·.count)).sum : Nat)
  | [], a => by simp [encP]
  | s :: r, a => by
    show (encP r).foldl (fun a s => a + s.2) (a + (enc s).2) = _
    rw [tiles_from r]
    show a + (s.count : Int) + _ = _
    rw [List.map_cons, List.sum_cons]
    omega
theorem tiles_enc (p : Picture) : tiles (encP p) = ((p.map (·.count)).sum : Nat) := by
  unfold tiles
  rw [tiles_from]
  omega
theorem iabs_diff (a b : Nat) : iabs ((a : Int) - (b : Int)) = (difference a b : Nat) := by
  unfold iabs difference
  split <;> omega
theorem errWith_from : ∀ (p : Picture) (c : Nat) (a : Int), (encP p).foldl (fun a s => a + s.2 * iabs (s.1 - c)) a = a + ((p.map fun s => s.count * difference s.level c).sum : Nat)
  | [], c, a => by simp [encP]
  | s :: r, c, a => by
    show (encP r).foldl (fun a s => a + s.2 * iabs (s.1 - c)) (a + (s.count : Int) * iabs ((s.level : Int) - (c : Int))) = _
    rw [errWith_from r, iabs_diff, List.map_cons, List.sum_cons]
    push_cast
    omega
theorem errWith_enc (p : Picture) (c : Nat) : errWith (encP p) c = ((p.map fun s => s.count * difference s.level c).sum : Nat) := by
  unfold errWith
  rw [errWith_from]
  omega
/-- a walk by places is a walk over a part -/
theorem map_cut {β : Type} (p : Picture) (i j : Nat) (hj : j ≤ p.length) (f : Shade → β) : ((List.range (j - i)).map fun k => f (shadeAt p (i + k))) = (cut p i j).map f := by
  apply List.ext_getElem
  · rw [List.length_map, List.length_range, List.length_map, cut_length p i j hj]
  · intro n h1 h2
    rw [List.length_map, List.length_range] at h1
    rw [List.getElem_map, List.getElem_map, List.getElem_range]
    unfold cut shadeAt
    rw [List.getElem_take, List.getElem_drop, List.getD_eq_getElem?_getD, List.getElem?_eq_getElem (by omega)]
    rfl
theorem tileCount_cut (p : Picture) (i j : Nat) (hj : j ≤ p.length) : tiles (encP (cut p i j)) = (tileCount p i j : Nat) := by
  unfold tileCount
  rw [sum_eq, map_cut p i j hj, tiles_enc]
theorem errorWith_cut (p : Picture) (i j c : Nat) (hj : j ≤ p.length) : errWith (encP (cut p i j)) c = (errorWith p i j c : Nat) := by
  unfold errorWith
  rw [sum_eq, map_cut p i j hj (fun s => s.count * difference s.level c), errWith_enc]
/-! medians -/
theorem med_find : ∀ (q : Picture) (w a : Nat) (k : Nat), ((List.range q.length).find? fun k => decide (w ≤ 2 * (a + ((q.take (k + 1)).map (·.count)).sum))) = some k →
    medGo w a (encP q) = ((q.getD k ⟨0, 0⟩).level : Int)
  | [], w, a, k, h => by simp at h
  | s :: r, w, a, k, h => by
    show (if (w : Int) ≤ 2 * ((a : Int) + (s.count : Int)) then (s.level : Int) else medGo w ((a : Int) + (s.count : Int)) (encP r)) = _
    rw [List.length_cons, List.range_succ_eq_map, List.find?_cons] at h
    by_cases c : w ≤ 2 * (a + s.count)
    · have e : decide (w ≤ 2 * (a + (((s :: r).take (0 + 1)).map (·.count)).sum)) = true := by simp; omega
      rw [e] at h
      have hk : 0 = k := Option.some.inj h
      subst hk
      rw [if_pos (by omega)]
      rfl
    · have e : decide (w ≤ 2 * (a + (((s :: r).take (0 + 1)).map (·.count)).sum)) = false := by simp; omega
      rw [e] at h
      rw [if_neg (by omega)]
      rw [List.find?_map] at h
      cases hf : (List.range r.length).find? ((fun k => decide (w ≤ 2 * (a + (((s :: r).take (k + 1)).map (·.count)).sum))) ∘ Nat.succ) with
      | none => rw [hf] at h; cases h
      | some k' =>
        rw [hf] at h
        have hk : k'.succ = k := Option.some.inj h
        subst hk
        have e2 : ((fun k => decide (w ≤ 2 * (a + (((s :: r).take (k + 1)).map (·.count)).sum))) ∘ Nat.succ) = fun k => decide (w ≤ 2 * (a + s.count + ((r.take (k + 1)).map (·.count)).sum)) := by
          funext k
          simp [Nat.add_assoc]
        rw [e2] at hf
        have ih := med_find r w (a + s.count) k' hf
        have e3 : ((a + s.count : Nat) : Int) = (a : Int) + (s.count : Int) := by omega
        rw [e3] at ih
        rw [ih]
        rfl
theorem tileCount_take (p : Picture) (i j k : Nat) (hj : j ≤ p.length) (hk : k < j - i) : tileCount p i (i + k + 1) = (((cut p i j).take (k + 1)).map (·.count)).sum := by
  unfold tileCount
  rw [sum_eq, map_cut p i (i + k + 1) (by omega)]
  unfold cut
  rw [List.take_take]
  congr 3
  omega
theorem find_congr {α : Type} : ∀ {l : List α} {f g : α → Bool}, (∀ x ∈ l, f x = g x) → l.find? f = l.find? g
  | [], f, g, h => rfl
  | x :: r, f, g, h => by
    rw [List.find?_cons, List.find?_cons, h x List.mem_cons_self, find_congr fun y hy => h y (List.mem_cons_of_mem _ hy)]
theorem median_cut (p : Picture) (i j : Nat) (hi : i < j) (hj : j ≤ p.length) : med (encP (cut p i j)) = (Sr110.median p i j : Nat) := by
  have hl := cut_length p i j hj
  unfold med Sr110.median
  rw [tileCount_cut p i j hj]
  have e : ((List.range (j - i)).find? fun k => decide (tileCount p i j ≤ 2 * tileCount p i (i + k + 1))) = ((List.range (cut p i j).length).find? fun k => decide (tileCount p i j ≤ 2 * (0 + (((cut p i j).take (k + 1)).map (·.count)).sum))) := by
    rw [hl]
    refine find_congr fun k hk => ?_
    rw [tileCount_take p i j k hj (List.mem_range.mp hk), Nat.zero_add]
  rw [e]
  cases hf : ((List.range (cut p i j).length).find? fun k => decide (tileCount p i j ≤ 2 * (0 + (((cut p i j).take (k + 1)).map (·.count)).sum))) with
  | none =>
    exfalso
    have q := List.find?_eq_none.mp hf (j - i - 1) (List.mem_range.mpr (by omega))
    have e1 : (cut p i j).take (j - i - 1 + 1) = cut p i j := List.take_of_length_le (by omega)
    rw [e1] at q
    have e2 : tileCount p i j = ((cut p i j).map (·.count)).sum := by
      unfold tileCount
      rw [sum_eq, map_cut p i j hj]
    rw [e2] at q
    simp at q
    omega
  | some k =>
    have hk : k < j - i := by
      have := List.mem_range.mp (List.mem_of_find?_eq_some hf)
      omega
    rw [show (0 : Int) = ((0 : Nat) : Int) from rfl, med_find _ _ _ _ hf]
    show _ = ((shadeAt p (k + i)).level : Int)
    unfold shadeAt cut
    rw [List.getD_eq_getElem?_getD, List.getD_eq_getElem?_getD, List.getElem?_take_of_lt hk, List.getElem?_drop, Nat.add_comm]
theorem gErr_cut (p : Picture) (i j : Nat) (hi : i < j) (hj : j ≤ p.length) : gErr (encP (cut p i j)) = (groupError p i j : Nat) := by
  unfold gErr groupError
  rw [median_cut p i j hi hj, errorWith_cut p i j _ hj]
end FS
/-! The best divisions -/
namespace FS
open Sr110
/-! ### the first least one of a row -/
def F (val : Nat → Option Nat) (sz : Nat → List Nat) (f : Option Dv) (d : Nat) : Option Dv := match val d with
  | none => f
  | some e => pick f (e : Int) (sz d)
def M (val : Nat → Option Nat) (b : Option Nat) (d : Nat) : Option Nat := minOption b (val d)
theorem M_all (val : Nat → Option Nat) : ∀ n, match (List.range n).foldl (M val) none with
    | none => ∀ d, d < n → val d = none
    | some m => (∀ d, d < n → ∀ e, val d = some e → m ≤ e) ∧ ∃ d, d < n ∧ val d = some m
  | 0 => fun d h => absurd h (Nat.not_lt_zero d)
  | n + 1 => by
    have ih := M_all val n
    rw [List.range_succ, List.foldl_append]
    show match M val ((List.range n).foldl (M val) none) n with
    | none => ∀ d, d < n + 1 → val d = none
    | some m => (∀ d, d < n + 1 → ∀ e, val d = some e → m ≤ e) ∧ ∃ d, d < n + 1 ∧ val d = some m
    show match minOption ((List.range n).foldl (M val) none) (val n) with
    | none => ∀ d, d < n + 1 → val d = none
    | some m => (∀ d, d < n + 1 → ∀ e, val d = some e → m ≤ e) ∧ ∃ d, d < n + 1 ∧ val d = some m
    cases hb : (List.range n).foldl (M val) none with
    | none =>
      rw [hb] at ih
      cases hv : val n with
      | none =>
        simp only [minOption]
        intro d hd
        by_cases e : d = n
        · rw [e]; exact hv
        · exact ih d (by omega)
      | some x =>
        simp only [minOption]
        refine ⟨fun d hd e he => ?_, n, by omega, hv⟩
        by_cases h : d = n
        · rw [h, hv] at he
          cases he
          omega
        · rw [ih d (by omega)] at he
          cases he
    | some m =>
      rw [hb] at ih
      obtain ⟨h1, d0, h2, h3⟩ := ih
      cases hv : val n with
      | none =>
        simp only [minOption]
        refine ⟨fun d hd e he => ?_, d0, by omega, h3⟩
        by_cases h : d = n
        · rw [h, hv] at he
          cases he
        · exact h1 d (by omega) e he
      | some x =>
        simp only [minOption]
        refine ⟨fun d hd e he => ?_, ?_⟩
        · by_cases h : d = n
          · rw [h, hv] at he
            cases he
            omega
          · have := h1 d (by omega) e he
            omega
        · by_cases h : m ≤ x
          · exact ⟨d0, by omega, by rw [h3]; congr 1; omega⟩
          · exact ⟨n, by omega, by rw [hv]; congr 1; omega⟩
theorem F_all (val : Nat → Option Nat) (sz : Nat → List Nat) : ∀ n, (List.range n).foldl (F val sz) none =
    ((List.range n).foldl (M val) none).map fun (m : Nat) => ((m : Int), match (List.range n).find? (fun d => val d == some m) with | some d => sz d | none => [])
  | 0 => rfl
  | n + 1 => by
    have ih := F_all val sz n
    have al := M_all val n
    rw [List.range_succ, List.foldl_append, List.foldl_append]
    show F val sz ((List.range n).foldl (F val sz) none) n = (M val ((List.range n).foldl (M val) none) n).map fun (m : Nat) => ((m : Int), match (List.range n ++ [n]).find? (fun d => val d == some m) with | some d => sz d | none => [])
    rw [ih]
    cases hb : (List.range n).foldl (M val) none with
    | none =>
      rw [hb] at al
      have al : ∀ d, d < n → val d = none := al
      cases hv : val n with
      | none => simp [F, M, hv, minOption]
      | some x =>
        have nf : (List.range n).find? (fun d => val d == some x) = none := List.find?_eq_none.mpr fun d hd => by
          rw [al d (List.mem_range.mp hd)]
          simp
        simp only [F, M, hv, minOption, Option.map_none, pick, Option.map_some]
        rw [List.find?_append, nf]
        simp [hv]
    | some m =>
      rw [hb] at al
      obtain ⟨h1, d0, h2, h3⟩ := al
      have some0 : ∃ d, (List.range n).find? (fun d => val d == some m) = some d := by
        cases hf : (List.range n).find? (fun d => val d == some m) with
        | some d => exact ⟨d, rfl⟩
        | none =>
          have q := List.find?_eq_none.mp hf d0 (List.mem_range.mpr h2)
          rw [h3] at q
          simp at q
      obtain ⟨df, hf⟩ := some0
      cases hv : val n with
      | none =>
        simp only [F, M, hv, minOption, Option.map_some]
        rw [List.find?_append, hf]
        rfl
      | some x =>
        simp only [F, M, hv, minOption, Option.map_some, pick]
        by_cases c : x < m
        · have nf : (List.range n).find? (fun d => val d == some x) = none := List.find?_eq_none.mpr fun d hd hq => by
            have he : val d = some x := by simpa using hq
            have := h1 d (List.mem_range.mp hd) x he
            omega
          rw [if_pos (by omega), show min m x = x by omega, List.find?_append, nf]
          simp [hv]
        · rw [if_neg (by omega), show min m x = m by omega, List.find?_append, hf]
          rfl
/-! ### the table and its divisions -/
def gsz (g : Group) : Nat := g.last - g.first
/-- what stands in the row of rests -/
def rowAt (p : Picture) (k i : Nat) : Option Dv := ((errorTable p k).getD i none).map fun e => ((e : Int), (bestGroupsFrom p k i).map gsz)
theorem table_length (p : Picture) : ∀ k, (errorTable p k).length = p.length + 1
  | 0 => by simp [errorTable, firstTable]
  | k + 1 => by simp [errorTable, nextTable]
theorem range_getD {α : Type} (n i : Nat) (f : Nat → α) (d : α) (h : i < n) : ((List.range n).map f).getD i d = f i := by
  rw [List.getD_eq_getElem?_getD, List.getElem?_map, List.getElem?_range h]
  rfl
def val (p : Picture) (k i d : Nat) : Option Nat := ((errorTable p k).getD (i + d + 1) none).map fun e => e + groupError p i (i + d + 1)
theorem table_succ (p : Picture) (k i : Nat) (h : i < p.length) : (errorTable p (k + 1)).getD i none = (List.range (p.length - i)).foldl (M (val p k i)) none := by
  show (nextTable p (errorTable p k)).getD i none = _
  unfold nextTable
  rw [range_getD _ _ _ _ (by omega), if_neg (by omega)]
  rfl
theorem table_end (p : Picture) : ∀ k, (errorTable p k).getD p.length none = some 0
  | 0 => by
    show (firstTable p).getD p.length none = some 0
    unfold firstTable
    rw [range_getD _ _ _ _ (by omega), if_pos (Nat.le_refl _)]
  | k + 1 => by
    show (nextTable p (errorTable p k)).getD p.length none = some 0
    unfold nextTable
    rw [range_getD _ _ _ _ (by omega), if_pos (Nat.le_refl _)]
theorem table_zero (p : Picture) (i : Nat) (h : i < p.length) : (errorTable p 0).getD i none = none := by
  show (firstTable p).getD i none = none
  unfold firstTable
  rw [range_getD _ _ _ _ (by omega), if_neg (by omega)]
theorem groups_end (p : Picture) (i : Nat) (h : p.length ≤ i) : ∀ k, bestGroupsFrom p k i = []
  | 0 => by unfold bestGroupsFrom; rfl
  | k + 1 => by unfold bestGroupsFrom; rw [if_pos h]
/-- the groups from a place on, told by the table's number -/
theorem groups_succ (p : Picture) (k i m : Nat) (h : i < p.length) (e : (errorTable p (k + 1)).getD i none = some m) :
    bestGroupsFrom p (k + 1) i = match (List.range (p.length - i)).find? (fun d => val p k i d == some m) with
      | none => []
      | some d => ⟨i, i + d + 1, Sr110.median p i (i + d + 1)⟩ :: bestGroupsFrom p k (i + d + 1) := by
  conv => lhs; unfold bestGroupsFrom
  rw [if_neg (by omega)]
  have q : ((List.range (p.length - i)).find? fun d => ((errorTable p k).getD (i + d + 1) none).isSome &&
          ((errorTable p k).getD (i + d + 1) none).map (fun e => e + groupError p i (i + d + 1)) == (errorTable p (k + 1)).getD i none) = (List.range (p.length - i)).find? (fun d => val p k i d == some m) := by
    refine find_congr fun d _ => ?_
    rw [e]
    show (((errorTable p k).getD (i + d + 1) none).isSome && (val p k i d == some m)) = (val p k i d == some m)
    unfold val
    cases (errorTable p k).getD (i + d + 1) none with
    | none => rfl
    | some x => rfl
  rw [q]
  cases (List.range (p.length - i)).find? (fun d => val p k i d == some m) <;> rfl
theorem row_end (p : Picture) (k : Nat) : rowAt p k p.length = some (0, []) := by
  unfold rowAt
  rw [table_end, groups_end p p.length (Nat.le_refl _) k]
  rfl
theorem foldl_congr_range {α : Type} (f g : α → Nat → α) : ∀ (n : Nat) (a : α), (∀ d, d < n → ∀ b, f b d = g b d) → (List.range n).foldl f a = (List.range n).foldl g a
  | 0, a, h => rfl
  | n + 1, a, h => by
    rw [List.range_succ, List.foldl_append, List.foldl_append, foldl_congr_range f g n a (fun d hd b => h d (by omega) b)]
    exact h n (by omega) _
theorem best_row (p : Picture) (k i : Nat) (rests : Rs) (h : i < p.length) (hr : ∀ j, j ≤ p.length → rests[j]? = some (rowAt p k j)) : bestFrom (encP p) i rests = rowAt p (k + 1) i := by
  unfold bestFrom
  rw [encP_length]
  have e : (List.range (p.length - i)).foldl (fun f d => stepSize (encP p) i rests f (d + 1)) none = (List.range (p.length - i)).foldl (F (val p k i) fun d => (d + 1) :: (bestGroupsFrom p k (i + d + 1)).map gsz) none := by
    refine foldl_congr_range _ _ _ _ fun d hd b => ?_
    unfold stepSize F val
    have ej : i + (d + 1) = i + d + 1 := by omega
    rw [ej, hr (i + d + 1) (by omega)]
    unfold rowAt
    cases (errorTable p k).getD (i + d + 1) none with
    | none => rfl
    | some x =>
      show pick b (gErr (cut (encP p) i (i + d + 1)) + (x : Int)) _ = pick b ((x + groupError p i (i + d + 1) : Nat) : Int) _
      rw [encP_cut, gErr_cut p i (i + d + 1) (by omega) (by omega)]
      congr 1
      omega
  rw [e, F_all, ← table_succ p k i h]
  unfold rowAt
  cases hm : (errorTable p (k + 1)).getD i none with
  | none => rfl
  | some m =>
    show some ((m : Int), _) = some ((m : Int), _)
    rw [groups_succ p k i m h hm]
    cases (List.range (p.length - i)).find? (fun d => val p k i d == some m) with
    | none => rfl
    | some d =>
      show some ((m : Int), (d + 1) :: (bestGroupsFrom p k (i + d + 1)).map gsz) = some ((m : Int), (i + d + 1 - i) :: (bestGroupsFrom p k (i + d + 1)).map gsz)
      congr 3
      omega
theorem rests_row (p : Picture) : ∀ k j, j ≤ p.length → (restsK (encP p) k)[j]? = some (rowAt p k j)
  | 0, j, h => by
    show (firstRests (encP p))[j]? = _
    unfold firstRests
    by_cases c : j < p.length
    · rw [List.getElem?_append_left (by simpa [encP_length] using c), List.getElem?_map, List.getElem?_eq_getElem (by rw [encP_length]; exact c)]
      unfold rowAt
      rw [table_zero p j c]
      rfl
    · have e : j = p.length := by omega
      subst e
      rw [row_end, List.getElem?_append_right (by simp [encP_length])]
      simp [encP_length]
  | k + 1, j, h => by
    show (nextRests (encP p) (restsK (encP p) k))[j]? = _
    unfold nextRests
    by_cases c : j < p.length
    · rw [List.getElem?_append_left (by simpa [encP_length] using c), List.getElem?_map, List.getElem?_range (by rw [encP_length]; exact c)]
      show some (bestFrom (encP p) j (restsK (encP p) k)) = _
      rw [best_row p k j _ c (fun j hj => rests_row p k j hj)]
    · have e : j = p.length := by omega
      subst e
      rw [row_end, List.getElem?_append_right (by simp [encP_length])]
      simp [encP_length]
theorem bestDiv_row (p : Picture) (k : Nat) : bestDiv (encP p) k = (Sr110.minError p k).map fun e => ((e : Int), (Sr110.bestGroups p k).map gsz) := by
  unfold bestDiv
  rw [rests_row p k 0 (Nat.zero_le _)]
  rfl
/-! ### there is a division -/
theorem table_some (p : Picture) (k i : Nat) (h : i ≤ p.length) : ∃ m, (errorTable p (k + 1)).getD i none = some m := by
  by_cases c : i < p.length
  · rw [table_succ p k i c]
    have al := M_all (val p k i) (p.length - i)
    cases hm : (List.range (p.length - i)).foldl (M (val p k i)) none with
    | some m => exact ⟨m, rfl⟩
    | none =>
      rw [hm] at al
      have q := al (p.length - i - 1) (by omega)
      unfold val at q
      rw [show i + (p.length - i - 1) + 1 = p.length by omega, table_end] at q
      cases q
  · have e : i = p.length := by omega
    subst e
    exact ⟨0, table_end p (k + 1)⟩
theorem minError_none (p : Picture) (k : Nat) : Sr110.minError p k = none ↔ k = 0 ∧ p ≠ [] := by
  unfold Sr110.minError
  cases k with
  | zero =>
    cases p with
    | nil =>
      have e : (errorTable [] 0).getD 0 none = some 0 := table_end [] 0
      rw [e]
      simp
    | cons s r =>
      rw [table_zero (s :: r) 0 (by simp)]
      simp
  | succ k =>
    obtain ⟨m, e⟩ := table_some p k 0 (Nat.zero_le _)
    rw [e]
    simp
/-! ### the groups stand one behind another -/
def Chain (p : Picture) : Nat → List Group → Prop
  | i, [] => i = p.length
  | i, g :: r => g.first = i ∧ i < g.last ∧ g.last ≤ p.length ∧ g.colour = Sr110.median p g.first g.last ∧ Chain p g.last r
theorem groups_chain (p : Picture) : ∀ k i m, i ≤ p.length → (errorTable p k).getD i none = some m → Chain p i (bestGroupsFrom p k i)
  | 0, i, m, hi, e => by
    by_cases c : i < p.length
    · rw [table_zero p i c] at e
      cases e
    · unfold bestGroupsFrom
      show i = p.length
      omega
  | k + 1, i, m, hi, e => by
    by_cases c : i < p.length
    · rw [groups_succ p k i m c e]
      cases hf : (List.range (p.length - i)).find? (fun d => val p k i d == some m) with
      | none =>
        exfalso
        have al := M_all (val p k i) (p.length - i)
        rw [← table_succ p k i c, e] at al
        obtain ⟨_, d, hd, hv⟩ := al
        have q := List.find?_eq_none.mp hf d (List.mem_range.mpr hd)
        rw [hv] at q
        simp at q
      | some d =>
        have hd := List.mem_range.mp (List.mem_of_find?_eq_some hf)
        have hv : val p k i d = some m := by
          have := List.find?_some hf
          simpa using this
        have ht : ∃ x, (errorTable p k).getD (i + d + 1) none = some x := by
          unfold val at hv
          cases hx : (errorTable p k).getD (i + d + 1) none with
          | none => rw [hx] at hv; cases hv
          | some x => exact ⟨x, rfl⟩
        obtain ⟨x, hx⟩ := ht
        exact ⟨rfl, by show i < i + d + 1; omega, by show i + d + 1 ≤ p.length; omega, rfl, groups_chain p k (i + d + 1) x (by omega) hx⟩
    · rw [groups_end p i (by omega)]
      show i = p.length
      omega
def gcut (p : Picture) (g : Group) : Sh := encP (cut p g.first g.last)
theorem groupsGo_chain (p : Picture) : ∀ (gs : List Group) (i : Nat), Chain p i gs → groupsGo (encP p) i (gs.map gsz) = gs.map (gcut p)
  | [], i, _ => rfl
  | g :: r, i, ⟨h1, h2, h3, h4, h5⟩ => by
    have e : i + gsz g = g.last := by unfold gsz; omega
    show cut (encP p) i (i + gsz g) :: groupsGo (encP p) (i + gsz g) (r.map gsz) = gcut p g :: r.map (gcut p)
    rw [e, groupsGo_chain p r g.last h5, encP_cut]
    unfold gcut
    rw [h1]
theorem chain_med (p : Picture) : ∀ (gs : List Group) (i : Nat), Chain p i gs → (gs.map (gcut p)).map med = gs.map fun g => (g.colour : Int)
  | [], i, _ => rfl
  | g :: r, i, ⟨h1, h2, h3, h4, h5⟩ => by
    rw [List.map_cons, List.map_cons, List.map_cons, chain_med p r g.last h5]
    unfold gcut
    rw [median_cut p g.first g.last (by omega) h3, h4]
theorem chain_tiles (p : Picture) : ∀ (gs : List Group) (i : Nat), Chain p i gs → (gs.map (gcut p)).map tiles = gs.map fun g => (tileCount p g.first g.last : Int)
  | [], i, _ => rfl
  | g :: r, i, ⟨h1, h2, h3, h4, h5⟩ => by
    rw [List.map_cons, List.map_cons, List.map_cons, chain_tiles p r g.last h5]
    unfold gcut
    rw [tileCount_cut p g.first g.last h3]
theorem chain_flat (p : Picture) : ∀ (gs : List Group) (i : Nat), Chain p i gs → (gs.map (gcut p)).flatMap (fun g => [(g.length : Int), gErr g]) = gs.flatMap fun g => [((g.last - g.first : Nat) : Int), (groupError p g.first g.last : Int)]
  | [], i, _ => rfl
  | g :: r, i, ⟨h1, h2, h3, h4, h5⟩ => by
    rw [List.map_cons, List.flatMap_cons, List.flatMap_cons, chain_flat p r g.last h5]
    unfold gcut
    rw [gErr_cut p g.first g.last (by omega) h3, encP_length, cut_length p _ _ h3]
theorem chain_find (p : Picture) (x : Nat) (hx : x < p.length) : ∀ (gs : List Group) (i n : Nat), Chain p i gs → i ≤ x → ∃ g, gs.find? (fun g => decide (g.first ≤ x) && decide (x < g.last)) = some g ∧
    n ≤ gwGo x i n (gs.map gsz) ∧ (gs.map (gcut p))[gwGo x i n (gs.map gsz) - n]? = some (gcut p g) ∧ (g.colour : Int) = med (gcut p g)
  | [], i, n, h, hi => by
    have h : i = p.length := h
    omega
  | g :: r, i, n, ⟨h1, h2, h3, h4, h5⟩, hi => by
    have e : i + gsz g = g.last := by unfold gsz; omega
    show ∃ g', (g :: r).find? _ = some g' ∧ n ≤ (if (x : Int) < ((i + gsz g : Nat) : Int) then n else gwGo x (i + gsz g) (n + 1) (r.map gsz)) ∧ (gcut p g :: r.map (gcut p))[(if (x : Int) < ((i + gsz g : Nat) : Int) then n else gwGo x (i + gsz g) (n + 1) (r.map gsz)) - n]? = some (gcut p g') ∧ (g'.colour : Int) = med (gcut p g')
    rw [e, List.find?_cons]
    by_cases c : x < g.last
    · have b : (decide (g.first ≤ x) && decide (x < g.last)) = true := by simp; omega
      rw [b, if_pos (by omega)]
      refine ⟨g, rfl, Nat.le_refl _, ?_, ?_⟩
      · rw [Nat.sub_self]
        rfl
      · unfold gcut
        rw [median_cut p g.first g.last (by omega) h3, h4]
    · have b : (decide (g.first ≤ x) && decide (x < g.last)) = false := by simp; omega
      rw [b, if_neg (by omega)]
      obtain ⟨g', a1, a2, a3, a4⟩ := chain_find p x hx r g.last (n + 1) h5 (by omega)
      refine ⟨g', a1, by omega, ?_, a4⟩
      have e2 : gwGo x g.last (n + 1) (r.map gsz) - n = gwGo x g.last (n + 1) (r.map gsz) - (n + 1) + 1 := by omega
      rw [e2]
      exact a3
end FS
/-! The operations against the specification -/
namespace FS
open Sr110
def lst (r : SrCommon.Result) : List Int := r.code :: r.values
def toL : Ans → List Int
  | .ok r => r
  | .error c => [c]
structure Good (p : Picture) : Prop where
  len : p.length ≤ 12
  rng : ∀ s ∈ p, s.level ≤ 255 ∧ 1 ≤ s.count ∧ s.count ≤ 999
  srt : p.Pairwise fun a b => a.level < b.level
theorem isK_eq (k : Int) : isColourCount k = isK k := rfl
theorem isSh_eq (p : Picture) (i : Int) : isShade p i = isSh (encP p) i := by
  unfold isShade SrCommon.isIndex isSh
  rw [encP_length]
theorem posK_eq (p : Picture) (k : Int) (hk : isK k = true) : posK (encP p) k = (Sr110.minError p k.toNat).isSome := by
  have h0 : 0 ≤ k := by
    unfold isK at hk
    simp at hk
    exact hk.1
  have h := minError_none p k.toNat
  unfold posK
  cases hm : Sr110.minError p k.toNat with
  | none =>
    obtain ⟨h1, h2⟩ := h.mp hm
    have e1 : decide (0 < k) = false := by simp; omega
    rw [e1]
    cases p with
    | nil => exact absurd rfl h2
    | cons s r => rfl
  | some m =>
    rw [hm] at h
    by_cases c : 0 < k
    · simp [c]
    · cases p with
      | nil => simp [encP]
      | cons s r =>
        have := h.mpr ⟨by omega, by simp⟩
        cases this
theorem groups_law (p : Picture) (k : Int) (f : List Group → SrCommon.Result) (r : List Int) (h : ∀ m, Sr110.minError p k.toNat = some m → lst (f (Sr110.bestGroups p k.toNat)) = r) : lst (groupsResult p k f) = toL (withK (encP p) k r) := by
  unfold groupsResult withK
  rw [isK_eq]
  by_cases c : isK k = false
  · rw [if_pos c, if_pos c]
    rfl
  · rw [if_neg c, if_neg c, posK_eq p k (by simpa using c)]
    cases hm : Sr110.minError p k.toNat with
    | none => rfl
    | some m =>
      show lst (f (Sr110.bestGroups p k.toNat)) = toL (if (some m).isSome = false then .error (-33) else .ok r)
      rw [h m hm]
      rfl
theorem dv_some (p : Picture) (k m : Nat) (h : Sr110.minError p k = some m) : dv (encP p) k = ((m : Int), (Sr110.bestGroups p k).map gsz) := by
  unfold dv
  rw [bestDiv_row, h]
  rfl
theorem chain_some (p : Picture) (k m : Nat) (h : Sr110.minError p k = some m) : Chain p 0 (Sr110.bestGroups p k) := groups_chain p k 0 m (Nat.zero_le _) h
theorem gs_some (p : Picture) (k : Int) (m : Nat) (h : Sr110.minError p k.toNat = some m) : gsFor (encP p) k = (Sr110.bestGroups p k.toNat).map (gcut p) := by
  unfold gsFor groupsOf
  rw [dv_some p _ m h]
  exact groupsGo_chain p _ 0 (chain_some p _ m h)
theorem l_minError (p : Picture) (k : Int) : lst (perform p (.minError k)).2 = toL (qMinError (encP p) k) := by
  show lst (if isColourCount k = false then .ofCode SrCommon.invalidArgument else match Sr110.minError p k.toNat with | none => .ofCode SrCommon.noSolution | some e => countResult e) = _
  unfold qMinError withK
  rw [isK_eq]
  by_cases c : isK k = false
  · rw [if_pos c, if_pos c]
    rfl
  · rw [if_neg c, if_neg c, posK_eq p k (by simpa using c)]
    cases hm : Sr110.minError p k.toNat with
    | none => rfl
    | some m =>
      rw [dv_some p _ m hm]
      rfl
theorem natsToInts_eq (l : List Group) : SrCommon.natsToInts (l.map fun g => g.colour) = l.map fun g => (g.colour : Int) := by
  unfold SrCommon.natsToInts
  rw [List.map_map]
  rfl
theorem l_palette (p : Picture) (k : Int) : lst (perform p (.bestPalette k)).2 = toL (qPalette (encP p) k) := by
  refine groups_law p k _ _ fun m hm => ?_
  rw [gs_some p k m hm, chain_med p _ 0 (chain_some p _ m hm), List.length_map, ← natsToInts_eq]
  rfl
theorem l_groups (p : Picture) (k : Int) : lst (perform p (.bestGroups k)).2 = toL (qGroups (encP p) k) := by
  refine groups_law p k _ _ fun m hm => ?_
  rw [gs_some p k m hm, chain_flat p _ 0 (chain_some p _ m hm), List.length_map]
  rfl
theorem l_counts (p : Picture) (k : Int) : lst (perform p (.groupCounts k)).2 = toL (qCounts (encP p) k) := by
  refine groups_law p k _ _ fun m hm => ?_
  rw [gs_some p k m hm, chain_tiles p _ 0 (chain_some p _ m hm), List.length_map]
  rfl
theorem l_colourOf (p : Picture) (i k : Int) : lst (perform p (.colourOf i k)).2 = toL (qColourOf (encP p) i k) := by
  show lst (if isShade p i = false then .ofCode SrCommon.notFound else if isColourCount k = false then .ofCode SrCommon.invalidArgument
    else match (Sr110.bestGroups p k.toNat).find? fun g => decide (g.first ≤ i.toNat) && decide (i.toNat < g.last) with
      | none => .ofCode SrCommon.noSolution
      | some g => countResult g.colour) = _
  unfold qColourOf withK
  rw [isK_eq, isSh_eq]
  by_cases ci : isSh (encP p) i = false
  · rw [if_pos ci, if_pos ci]
    rfl
  · rw [if_neg ci, if_neg ci]
    have hi : 0 ≤ i ∧ i < p.length := by
      have : isSh (encP p) i = true := by simpa using ci
      unfold isSh at this
      rw [encP_length] at this
      simpa using this
    by_cases c : isK k = false
    · rw [if_pos c, if_pos c]
      rfl
    · rw [if_neg c, if_neg c, posK_eq p k (by simpa using c)]
      cases hm : Sr110.minError p k.toNat with
      | none =>
        have hk := ((minError_none p k.toNat).mp hm).1
        rw [hk]
        have e0 : Sr110.bestGroups p 0 = [] := by
          unfold Sr110.bestGroups bestGroupsFrom
          rfl
        rw [e0]
        rfl
      | some m =>
        obtain ⟨g, h1, _, h3, h4⟩ := chain_find p i.toNat (by omega) _ 0 0 (chain_some p _ m hm) (by omega)
        rw [h1, gs_some p k m hm, dv_some p _ m hm]
        unfold groupWith
        rw [show ((i.toNat : Nat) : Int) = i by omega, Nat.sub_zero] at h3
        rw [List.getD_eq_getElem?_getD, h3]
        show [(g.colour : Int)] = [med (gcut p g)]
        rw [h4]
theorem M_le (val val' : Nat → Option Nat) (n : Nat) (h : ∀ d, d < n → ∀ m, val d = some m → ∃ m', val' d = some m' ∧ m' ≤ m) : ∀ m, (List.range n).foldl (M val) none = some m → ∃ m', (List.range n).foldl (M val') none = some m' ∧ m' ≤ m := by
  intro m hm
  have a := M_all val n
  have b := M_all val' n
  rw [hm] at a
  obtain ⟨_, d, hd, hv⟩ := a
  obtain ⟨m1, hv1, hle⟩ := h d hd m hv
  cases hb : (List.range n).foldl (M val') none with
  | none =>
    rw [hb] at b
    rw [b d hd] at hv1
    cases hv1
  | some m' =>
    rw [hb] at b
    have := b.1 d hd m1 hv1
    exact ⟨m', rfl, by omega⟩
theorem table_mono (p : Picture) : ∀ k i m, i ≤ p.length → (errorTable p k).getD i none = some m → ∃ m', (errorTable p (k + 1)).getD i none = some m' ∧ m' ≤ m
  | 0, i, m, hi, h => by
    by_cases c : i < p.length
    · rw [table_zero p i c] at h
      cases h
    · have e : i = p.length := by omega
      subst e
      exact ⟨0, table_end p 1, Nat.zero_le _⟩
  | k + 1, i, m, hi, h => by
    by_cases c : i < p.length
    · rw [table_succ p k i c] at h
      rw [table_succ p (k + 1) i c]
      refine M_le _ _ _ (fun d hd m hv => ?_) m h
      unfold val at hv ⊢
      cases hx : (errorTable p k).getD (i + d + 1) none with
      | none => rw [hx] at hv; cases hv
      | some x =>
        rw [hx] at hv
        have hv' : x + groupError p i (i + d + 1) = m := Option.some.inj hv
        obtain ⟨x', h1, h2⟩ := table_mono p k (i + d + 1) x (by omega) hx
        rw [h1]
        exact ⟨x' + groupError p i (i + d + 1), rfl, by omega⟩
    · have e : i = p.length := by omega
      subst e
      exact ⟨0, table_end p _, Nat.zero_le _⟩
theorem l_reduction (p : Picture) (k : Int) : lst (perform p (.errorReduction k)).2 = toL (qReduction (encP p) k) := by
  show lst (if isColourCount k = false then .ofCode SrCommon.invalidArgument else match Sr110.minError p k.toNat, Sr110.minError p (k.toNat + 1) with
      | some a, some b => countResult (a - b)
      | _, _ => .ofCode SrCommon.noSolution) = _
  unfold qReduction withK
  rw [isK_eq]
  by_cases c : isK k = false
  · rw [if_pos c, if_pos c]
    rfl
  · rw [if_neg c, if_neg c, posK_eq p k (by simpa using c)]
    cases hm : Sr110.minError p k.toNat with
    | none => rfl
    | some m =>
      obtain ⟨m', h1, h2⟩ := table_mono p k.toNat 0 m (Nat.zero_le _) hm
      have h1 : Sr110.minError p (k.toNat + 1) = some m' := h1
      rw [h1, dv_some p _ m hm, dv_some p _ m' h1]
      show [((m - m' : Nat) : Int)] = [(m : Int) - (m' : Int)]
      congr 1
      omega
theorem allErr_enc (p : Picture) : allErr (encP p) = (List.range (p.length + 1)).map fun k => (Sr110.minError p k).map fun e => (e : Int) := by
  unfold allErr
  rw [encP_length]
  refine List.map_congr_left fun k _ => ?_
  rw [bestDiv_row, Option.map_map]
  rfl
theorem l_table (p : Picture) : lst (perform p .errorTable).2 = toL (qTable (encP p)) := by
  show (p.length : Int) :: (List.range (p.length + 1)).map (fun k => optionToInt (Sr110.minError p k)) = ((encP p).length : Int) :: (allErr (encP p)).map fun e => e.getD (-1)
  rw [allErr_enc, encP_length, List.map_map]
  congr 1
  refine List.map_congr_left fun k _ => ?_
  show optionToInt (Sr110.minError p k) = ((Sr110.minError p k).map fun e => (e : Int)).getD (-1)
  cases Sr110.minError p k <;> rfl
theorem mc_find (b : Int) (d : Nat) (f : Nat → Option Nat) (hb : 0 ≤ b) : ∀ m s, mcGo b d s ((List.range' s m).map fun k => (f k).map fun e => (e : Int)) =
    ((((List.range' s m).find? fun k => match f k with | none => false | some e => decide (e ≤ b.toNat)).getD d : Nat) : Int)
  | 0, s => rfl
  | m + 1, s => by
    rw [List.range'_succ, List.map_cons, List.find?_cons]
    have ih := mc_find b d f hb m (s + 1)
    cases hf : f s with
    | none => exact ih
    | some e =>
      show (if (e : Int) ≤ b then (s : Int) else mcGo b d (s + 1) _) = _
      by_cases c : (e : Int) ≤ b
      · rw [if_pos c]
        have q : decide (e ≤ b.toNat) = true := by simp; omega
        simp only [q]
        rfl
      · rw [if_neg c]
        have q : decide (e ≤ b.toNat) = false := by simp; omega
        simp only [q]
        exact ih
theorem l_minColours (p : Picture) (b : Int) : lst (perform p (.minColours b)).2 = toL (qMinColours (encP p) b) := by
  show lst (if b < 0 then .ofCode SrCommon.invalidArgument else countResult (Sr110.minColours p b.toNat)) = _
  unfold qMinColours
  by_cases c : b < 0
  · rw [if_pos c, if_pos c]
    rfl
  · rw [if_neg c, if_neg c, allErr_enc, encP_length, List.range_eq_range', mc_find b p.length _ (by omega)]
    show [((Sr110.minColours p b.toNat : Nat) : Int)] = _
    unfold Sr110.minColours
    rw [List.range_eq_range']
    rfl
/-! palettes -/
theorem least_from : ∀ (r : List Nat) (lv c0 : Nat), (((r.foldl (fun best c => if difference lv c < difference lv best then c else best) c0 |> difference lv) : Nat) : Int) = (r.map fun (c : Nat) => iabs ((lv : Int) - (c : Int))).foldl (fun (m y : Int) => if y < m then y else m) ((difference lv c0 : Nat) : Int)
  | [], lv, c0 => rfl
  | x :: r, lv, c0 => by
    show (((r.foldl (fun best c => if difference lv c < difference lv best then c else best) (if difference lv x < difference lv c0 then x else c0) |> difference lv) : Nat) : Int) = (r.map fun (c : Nat) => iabs ((lv : Int) - (c : Int))).foldl (fun m y => if y < m then y else m) (if iabs ((lv : Int) - (x : Int)) < ((difference lv c0 : Nat) : Int) then iabs ((lv : Int) - (x : Int)) else ((difference lv c0 : Nat) : Int))
    rw [iabs_diff]
    by_cases c : difference lv x < difference lv c0
    · rw [if_pos c, if_pos (by omega)]
      exact least_from r lv x
    · rw [if_neg c, if_neg (by omega)]
      exact least_from r lv c0
theorem least_near (pal : List Nat) (lv : Nat) (h : pal ≠ []) : ((difference lv (nearestColour pal lv) : Nat) : Int) = least (pal.map fun (c : Nat) => iabs ((lv : Int) - (c : Int))) := by
  cases pal with
  | nil => exact absurd rfl h
  | cons c r =>
    unfold nearestColour
    show ((difference lv (r.foldl _ (if difference lv c < difference lv c then c else c)) : Nat) : Int) = (r.map fun (c : Nat) => iabs ((lv : Int) - (c : Int))).foldl (fun m y => if y < m then y else m) (iabs ((lv : Int) - (c : Int)))
    rw [if_neg (Nat.lt_irrefl _), iabs_diff]
    exact least_from r lv c
theorem palErr_from (pal : List Nat) (h : pal ≠ []) : ∀ (p : Picture) (a : Int), (encP p).foldl (fun a s => a + s.2 * leastDist (pal.map fun (c : Nat) => (c : Int)) s.1) a = a + ((p.map fun s => s.count * difference s.level (nearestColour pal s.level)).sum : Nat)
  | [], a => by simp [encP]
  | s :: r, a => by
    show (encP r).foldl (fun a s => a + s.2 * leastDist (pal.map fun (c : Nat) => (c : Int)) s.1) (a + (s.count : Int) * leastDist (pal.map fun (c : Nat) => (c : Int)) (s.level : Int)) = _
    have e : leastDist (pal.map fun (c : Nat) => (c : Int)) (s.level : Int) = (difference s.level (nearestColour pal s.level) : Nat) := by
      unfold leastDist
      rw [List.map_map, least_near pal s.level h]
      rfl
    rw [palErr_from pal h r, e, List.map_cons, List.sum_cons]
    push_cast
    omega
theorem ints_back (pal : List Int) (h : pal.all isLevel = true) : (SrCommon.intsToNats pal).map (fun (c : Nat) => (c : Int)) = pal := by
  unfold SrCommon.intsToNats
  rw [List.map_map]
  have e : ∀ c ∈ pal, ((fun (c : Nat) => (c : Int)) ∘ fun x => x.toNat) c = id c := fun c hc => by
    have q := List.all_eq_true.mp h c hc
    unfold isLevel at q
    simp at q
    show ((c.toNat : Nat) : Int) = c
    omega
  rw [List.map_congr_left e, List.map_id]
theorem l_palErr (p : Picture) (pal : List Int) : lst (perform p (.paletteError pal)).2 = toL (qPalErr (encP p) pal) := by
  show lst (if pal = [] ∨ maxShades < pal.length ∨ pal.all Sr110.isLevel = false then .ofCode SrCommon.invalidArgument else countResult (Sr110.paletteError p (SrCommon.intsToNats pal))) = _
  unfold qPalErr
  have el : pal.all Sr110.isLevel = pal.all isLevel := rfl
  rw [el]
  by_cases c1 : palOk pal = false
  · rw [if_pos c1, if_pos]
    · rfl
    · unfold palOk at c1
      cases pal with
      | nil => exact .inl rfl
      | cons x r =>
        simp at c1
        refine .inr (.inl ?_)
        show 12 < (x :: r).length
        rw [List.length_cons]
        omega
  · rw [if_neg c1]
    by_cases c2 : pal.all isLevel = false
    · rw [if_pos c2, if_pos (.inr (.inr c2))]
      rfl
    · have p1 : palOk pal = true := by simpa using c1
      unfold palOk at p1
      simp only [Bool.and_eq_true, decide_eq_true_eq] at p1
      have ne : pal ≠ [] := fun e => by
        rw [e] at p1
        exact absurd p1.1 (by decide)
      rw [if_neg c2, if_neg]
      · show [((Sr110.paletteError p (SrCommon.intsToNats pal) : Nat) : Int)] = [palErr (encP p) pal]
        have ne2 : SrCommon.intsToNats pal ≠ [] := fun e => ne (by
          unfold SrCommon.intsToNats at e
          simpa using e)
        have q := palErr_from (SrCommon.intsToNats pal) ne2 p 0
        rw [ints_back pal (by simpa using c2)] at q
        unfold palErr Sr110.paletteError
        rw [q, sum_eq]
        congr 1
        omega
      · rintro (h | h | h)
        · exact ne h
        · have h : 12 < pal.length := h
          omega
        · exact c2 h
theorem l_median (p : Picture) (i j : Int) : lst (perform p (.median i j)).2 = toL (qMedian (encP p) i j) := by
  show lst (if isShade p i = false ∨ isShade p j = false then .ofCode SrCommon.notFound else if j < i then .ofCode SrCommon.invalidArgument
    else ⟨(Sr110.median p i.toNat (j.toNat + 1) : Int), [(groupError p i.toNat (j.toNat + 1) : Int)]⟩) = _
  unfold qMedian
  rw [isSh_eq, isSh_eq]
  by_cases c1 : isSh (encP p) i = false
  · rw [if_pos c1, if_pos (.inl c1)]
    rfl
  · rw [if_neg c1]
    by_cases c2 : isSh (encP p) j = false
    · rw [if_pos c2, if_pos (.inr c2)]
      rfl
    · rw [if_neg c2, if_neg (fun h => h.elim c1 c2)]
      by_cases c3 : j < i
      · rw [if_pos c3, if_pos c3]
        rfl
      · rw [if_neg c3, if_neg c3]
        have h1 : isSh (encP p) i = true := by simpa using c1
        have h2 : isSh (encP p) j = true := by simpa using c2
        unfold isSh at h1 h2
        rw [encP_length] at h1 h2
        simp at h1 h2
        show [((Sr110.median p i.toNat (j.toNat + 1) : Nat) : Int), ((groupError p i.toNat (j.toNat + 1) : Nat) : Int)] = [_, gErr (cut (encP p) i.toNat (j.toNat + 1))]
        rw [encP_cut, gErr_cut p _ _ (by omega) (by omega), median_cut p _ _ (by omega) (by omega)]
theorem l_totals (p : Picture) : lst (perform p .totals).2 = toL (qTotals (encP p)) := by
  show [(p.length : Int), ((SrCommon.sum (p.map fun s => s.count) : Nat) : Int)] = [((encP p).length : Int), tiles (encP p)]
  rw [encP_length, tiles_enc, sum_eq]
theorem l_describe (p : Picture) : lst (perform p .describe).2 = toL (qDescribe (encP p)) := by
  show (p.length : Int) :: p.flatMap (fun s => [(s.level : Int), (s.count : Int)]) = ((encP p).length : Int) :: (encP p).flatMap fun s => [s.1, s.2]
  rw [encP_length]
  unfold encP
  rw [List.flatMap_map]
  rfl
/-! changes -/
theorem hasLevel_enc (p : Picture) (lv : Int) (h : 0 ≤ lv) : hasLevel (encP p) lv = p.any fun s => s.level == lv.toNat := by
  unfold hasLevel encP
  rw [List.any_map]
  congr 1
  funext s
  show ((s.level : Int) == lv) = (s.level == lv.toNat)
  by_cases c : s.level = lv.toNat
  · have c' : (s.level : Int) = lv := by omega
    rw [beq_iff_eq.mpr c, beq_iff_eq.mpr c']
  · have c' : ¬ (s.level : Int) = lv := by omega
    rw [beq_false_of_ne c, beq_false_of_ne c']
theorem placeOf_enc (p : Picture) (lv : Int) (h : 0 ≤ lv) : placeOf (encP p) lv = (p.filter fun s => decide (s.level < lv.toNat)).length := by
  unfold placeOf encP
  rw [List.filter_map, List.length_map]
  congr 2
  funext s
  show decide ((s.level : Int) < lv) = decide (s.level < lv.toNat)
  by_cases c : s.level < lv.toNat
  · rw [decide_eq_true c, decide_eq_true (by omega)]
  · rw [decide_eq_false c, decide_eq_false (by omega)]
theorem insert_split (s : Shade) : ∀ p : Picture, p.Pairwise (fun a b => a.level < b.level) → (∀ t ∈ p, t.level ≠ s.level) →
    insertShade s p = p.take (p.filter fun t => decide (t.level < s.level)).length ++ [s] ++ p.drop (p.filter fun t => decide (t.level < s.level)).length
  | [], _, _ => rfl
  | t :: r, hp, hn => by
    have hp' := List.pairwise_cons.mp hp
    show (if s.level < t.level then s :: t :: r else t :: insertShade s r) = _
    by_cases c : s.level < t.level
    · have z : (t :: r).filter (fun t => decide (t.level < s.level)) = [] := List.filter_eq_nil_iff.mpr fun x hx => by
        rcases List.mem_cons.mp hx with e | e
        · rw [e]; simp; omega
        · have := hp'.1 x e
          simp; omega
      rw [if_pos c, z]
      rfl
    · have h1 : t.level < s.level := by
        have := hn t List.mem_cons_self
        omega
      rw [if_neg c, List.filter_cons, if_pos (by simpa using h1), List.length_cons, List.take_succ_cons, List.drop_succ_cons, insert_split s r hp'.2 fun x hx => hn x (List.mem_cons_of_mem _ hx)]
      rfl
theorem mem_insert (s : Shade) : ∀ (p : Picture) (x : Shade), x ∈ insertShade s p → x = s ∨ x ∈ p
  | [], x, h => by
    have h : x ∈ [s] := h
    exact .inl (by simpa using h)
  | t :: r, x, h => by
    have h : x ∈ (if s.level < t.level then s :: t :: r else t :: insertShade s r) := h
    by_cases c : s.level < t.level
    · rw [if_pos c] at h
      exact List.mem_cons.mp h
    · rw [if_neg c] at h
      rcases List.mem_cons.mp h with e | e
      · exact .inr (by rw [e]; exact List.mem_cons_self)
      · exact (mem_insert s r x e).imp id fun q => List.mem_cons_of_mem _ q
theorem insert_length (s : Shade) : ∀ p : Picture, (insertShade s p).length = p.length + 1
  | [] => rfl
  | t :: r => by
    show (if s.level < t.level then s :: t :: r else t :: insertShade s r).length = _
    split
    · rfl
    · rw [List.length_cons, insert_length s r]
      rfl
theorem insert_sorted (s : Shade) : ∀ p : Picture, p.Pairwise (fun a b => a.level < b.level) → (∀ t ∈ p, t.level ≠ s.level) → (insertShade s p).Pairwise (fun a b => a.level < b.level)
  | [], _, _ => by
    show [s].Pairwise _
    simp
  | t :: r, hp, hn => by
    have hp' := List.pairwise_cons.mp hp
    show (if s.level < t.level then s :: t :: r else t :: insertShade s r).Pairwise _
    by_cases c : s.level < t.level
    · rw [if_pos c]
      refine List.pairwise_cons.mpr ⟨fun x hx => ?_, hp⟩
      rcases List.mem_cons.mp hx with e | e
      · rw [e]; exact c
      · have := hp'.1 x e
        omega
    · have h1 : t.level < s.level := by
        have := hn t List.mem_cons_self
        omega
      rw [if_neg c]
      refine List.pairwise_cons.mpr ⟨fun x hx => ?_, insert_sorted s r hp'.2 fun x hx => hn x (List.mem_cons_of_mem _ hx)⟩
      rcases mem_insert s r x hx with e | e
      · rw [e]; exact h1
      · exact hp'.1 x e
def toE {α : Type} (f : Picture → α) : Except Int (Picture × List Int) → Except Int (α × List Int)
  | .ok r => .ok (f r.1, r.2)
  | .error c => .error c
/-- a change: the specification's new picture, and what is answered -/
def Chg (p : Picture) (call : Sr110.Call) (m : Except Int (Sh × List Int)) : Prop := match m with
  | .ok r => ∃ p', Good p' ∧ r.1 = encP p' ∧ (perform p call).1 = some p' ∧ lst (perform p call).2 = r.2
  | .error c => (perform p call).1 = none ∧ lst (perform p call).2 = [c]
theorem l_add (p : Picture) (g : Good p) (lv ct : Int) : Chg p (.addShade lv ct) (cAdd (encP p) lv ct) := by
  have e : perform p (.addShade lv ct) = (if Sr110.isLevel lv = false ∨ Sr110.isCount ct = false then error SrCommon.invalidArgument
    else if p.any (fun s => s.level == lv.toNat) then error SrCommon.duplicate
    else if maxShades ≤ p.length then error SrCommon.capacityReached
    else (some (insertShade ⟨lv.toNat, ct.toNat⟩ p), countResult (p.filter fun s => s.level < lv.toNat).length)) := rfl
  unfold Chg
  rw [e]
  unfold cAdd
  have a1 : Sr110.isLevel lv = isLevel lv := rfl
  have a2 : Sr110.isCount ct = isCount ct := rfl
  rw [a1, a2]
  by_cases c1 : (isLevel lv && isCount ct) = false
  · rw [if_pos c1, if_pos (by cases h1 : isLevel lv <;> cases h2 : isCount ct <;> simp_all)]
    exact ⟨rfl, rfl⟩
  · have c1' : isLevel lv = true ∧ isCount ct = true := by simpa using c1
    rw [if_neg c1, if_neg (show ¬ (isLevel lv = false ∨ isCount ct = false) by rw [c1'.1, c1'.2]; simp)]
    have b1 : 0 ≤ lv ∧ lv ≤ 255 := by simpa [isLevel] using c1'.1
    have b2 : 1 ≤ ct ∧ ct ≤ 999 := by simpa [isCount] using c1'.2
    rw [hasLevel_enc p lv b1.1]
    by_cases c2 : (p.any fun s => s.level == lv.toNat) = true
    · rw [if_pos c2, if_pos c2]
      exact ⟨rfl, rfl⟩
    · rw [if_neg c2, if_neg c2, encP_length]
      by_cases c3 : 12 ≤ p.length
      · rw [if_pos c3, if_pos (show maxShades ≤ p.length from c3)]
        exact ⟨rfl, rfl⟩
      · rw [if_neg c3, if_neg (show ¬ maxShades ≤ p.length from c3)]
        have hn : ∀ t ∈ p, t.level ≠ (⟨lv.toNat, ct.toNat⟩ : Shade).level := fun t ht q => c2 (List.any_eq_true.mpr ⟨t, ht, by simpa using q⟩)
        refine ⟨insertShade ⟨lv.toNat, ct.toNat⟩ p, ⟨?_, fun s hs => ?_, insert_sorted _ p g.srt hn⟩, ?_, rfl, ?_⟩
        · rw [insert_length]; omega
        · rcases mem_insert _ p s hs with q | q
          · rw [q]
            exact ⟨by show lv.toNat ≤ 255; omega, by show 1 ≤ ct.toNat; omega, by show ct.toNat ≤ 999; omega⟩
          · exact g.rng s q
        · show withShade (encP p) lv ct = encP (insertShade ⟨lv.toNat, ct.toNat⟩ p)
          unfold withShade
          rw [placeOf_enc p lv b1.1, insert_split _ p g.srt hn]
          unfold encP
          rw [List.map_append, List.map_append, List.map_take, List.map_drop, List.map_singleton]
          congr 2
          show [(lv, ct)] = [((lv.toNat : Int), (ct.toNat : Int))]
          rw [show ((lv.toNat : Nat) : Int) = lv by omega, show ((ct.toNat : Nat) : Int) = ct by omega]
        · show [((p.filter fun s => decide (s.level < lv.toNat)).length : Int)] = [(placeOf (encP p) lv : Int)]
          rw [placeOf_enc p lv b1.1]
theorem isSh_bounds {p : Picture} {i : Int} (h : ¬ isSh (encP p) i = false) : 0 ≤ i ∧ i < p.length := by
  have : isSh (encP p) i = true := by simpa using h
  unfold isSh at this
  rw [encP_length] at this
  simpa using this
theorem erase_split {α : Type} : ∀ (l : List α) (i : Nat), l.eraseIdx i = l.take i ++ l.drop (i + 1)
  | [], i => by simp
  | x :: r, 0 => rfl
  | x :: r, i + 1 => by
    show x :: r.eraseIdx i = x :: (r.take i ++ r.drop (i + 1))
    rw [erase_split r i]
theorem l_remove (p : Picture) (g : Good p) (i : Int) : Chg p (.removeShade i) (cRemove (encP p) i) := by
  have e : perform p (.removeShade i) = (if isShade p i = false then error SrCommon.notFound else (some (p.eraseIdx i.toNat), countResult (p.length - 1))) := rfl
  unfold Chg
  rw [e]
  unfold cRemove
  rw [isSh_eq]
  by_cases c : isSh (encP p) i = false
  · rw [if_pos c, if_pos c]
    exact ⟨rfl, rfl⟩
  · have b := isSh_bounds c
    rw [if_neg c, if_neg c]
    have eq : withoutShade (encP p) i.toNat = encP (p.eraseIdx i.toNat) := by
      unfold withoutShade
      rw [erase_split]
      unfold encP
      rw [List.map_append, List.map_take, List.map_drop]
    have len : (p.eraseIdx i.toNat).length = p.length - 1 := List.length_eraseIdx_of_lt (by omega)
    refine ⟨p.eraseIdx i.toNat, ⟨?_, fun s hs => g.rng s ((List.eraseIdx_sublist p i.toNat).subset hs), g.srt.sublist (List.eraseIdx_sublist p i.toNat)⟩, eq, rfl, ?_⟩
    · have := g.len
      omega
    · show [((p.length - 1 : Nat) : Int)] = [((withoutShade (encP p) i.toNat).length : Int)]
      rw [eq, encP_length, len]
theorem set_split {α : Type} : ∀ (l : List α) (i : Nat) (x : α), i < l.length → l.set i x = l.take i ++ [x] ++ l.drop (i + 1)
  | [], i, x, h => absurd h (Nat.not_lt_zero i)
  | y :: r, 0, x, h => rfl
  | y :: r, i + 1, x, h => by
    show y :: r.set i x = y :: (r.take i ++ [x] ++ r.drop (i + 1))
    rw [set_split r i x (Nat.lt_of_succ_lt_succ h)]
theorem set_sorted (p : Picture) (i : Nat) (s : Shade) (h : i < p.length) (e : s.level = (shadeAt p i).level) (hp : p.Pairwise fun a b => a.level < b.level) : (p.set i s).Pairwise fun a b => a.level < b.level := by
  have m : (p.set i s).map (·.level) = p.map (·.level) := by
    rw [List.map_set]
    apply List.ext_getElem?
    intro n
    rw [List.getElem?_set]
    by_cases c : i = n
    · subst c
      rw [if_pos rfl, if_pos (by simpa using h), e]
      unfold shadeAt
      rw [List.getElem?_map, List.getD_eq_getElem?_getD, List.getElem?_eq_getElem h]
      rfl
    · rw [if_neg c]
  have q : (p.map (·.level)).Pairwise (· < ·) := List.pairwise_map.mpr hp
  rw [← m] at q
  exact List.pairwise_map.mp q
theorem enc_at (p : Picture) (i : Nat) (h : i < p.length) : (encP p).getD i (0, 0) = enc (shadeAt p i) := by
  unfold encP shadeAt
  rw [List.getD_eq_getElem?_getD, List.getD_eq_getElem?_getD, List.getElem?_map, List.getElem?_eq_getElem h]
  rfl
theorem l_set (p : Picture) (g : Good p) (i ct : Int) : Chg p (.setCount i ct) (cSet (encP p) i ct) := by
  have e : perform p (.setCount i ct) = (if isShade p i = false then error SrCommon.notFound else if Sr110.isCount ct = false then error SrCommon.invalidArgument
    else (some (p.set i.toNat { shadeAt p i.toNat with count := ct.toNat }), countResult (shadeAt p i.toNat).count)) := rfl
  unfold Chg
  rw [e]
  unfold cSet
  rw [isSh_eq, show Sr110.isCount ct = isCount ct from rfl]
  by_cases c : isSh (encP p) i = false
  · rw [if_pos c, if_pos c]
    exact ⟨rfl, rfl⟩
  · have b := isSh_bounds c
    rw [if_neg c, if_neg c]
    by_cases c2 : isCount ct = false
    · rw [if_pos c2, if_pos c2]
      exact ⟨rfl, rfl⟩
    · have c2' : isCount ct = true := by simpa using c2
      have b2 : 1 ≤ ct ∧ ct ≤ 999 := by simpa [isCount] using c2'
      rw [if_neg c2, if_neg c2]
      have hi : i.toNat < p.length := by omega
      refine ⟨p.set i.toNat { shadeAt p i.toNat with count := ct.toNat }, ⟨by rw [List.length_set]; exact g.len, fun s hs => ?_, set_sorted p i.toNat _ hi rfl g.srt⟩, ?_, rfl, ?_⟩
      · rcases List.mem_or_eq_of_mem_set hs with q | q
        · exact g.rng s q
        · rw [q]
          have m : shadeAt p i.toNat ∈ p := by
            unfold shadeAt
            rw [List.getD_eq_getElem?_getD, List.getElem?_eq_getElem hi]
            exact List.getElem_mem hi
          exact ⟨(g.rng _ m).1, by show 1 ≤ ct.toNat; omega, by show ct.toNat ≤ 999; omega⟩
      · show withCount (encP p) i.toNat ct = encP (p.set i.toNat { shadeAt p i.toNat with count := ct.toNat })
        unfold withCount
        rw [enc_at p _ hi, set_split _ _ _ hi]
        unfold encP
        rw [List.map_append, List.map_append, List.map_take, List.map_drop, List.map_singleton]
        congr 2
        show [(((shadeAt p i.toNat).level : Int), ct)] = [(((shadeAt p i.toNat).level : Int), (ct.toNat : Int))]
        rw [show ((ct.toNat : Nat) : Int) = ct by omega]
      · show [((shadeAt p i.toNat).count : Int)] = [((encP p).getD i.toNat (0, 0)).2]
        rw [enc_at p _ hi]
        rfl
end FS
/-! One call, and the list of all calls -/
namespace FS
open Sr110
def encS (st : Option Picture) : Option Sh := st.map encP
def GoodS (st : Option Picture) : Prop := ∀ p, st = some p → Good p
inductive Shaped : Int → List Int → List Int → List (List Int) → Prop
  | c0 : Shaped 0 [] [] []
  | c1 (a b : Int) : Shaped 1 [a, b] [] []
  | c2 (a : Int) : Shaped 2 [a] [] []
  | c3 (a b : Int) : Shaped 3 [a, b] [] []
  | c4 (a : Int) : Shaped 4 [a] [] []
  | c5 (a : Int) : Shaped 5 [a] [] []
  | c6 (a : Int) : Shaped 6 [a] [] []
  | c7 (a b : Int) : Shaped 7 [a, b] [] []
  | c8 (a : Int) : Shaped 8 [a] [] []
  | c9 : Shaped 9 [] [] []
  | c10 (a : Int) : Shaped 10 [a] [] []
  | c11 (r : List Int) : Shaped 11 [] r [r]
  | c12 (a b : Int) : Shaped 12 [a, b] [] []
  | c13 (a : Int) : Shaped 13 [a] [] []
  | c14 : Shaped 14 [] [] []
  | c15 : Shaped 15 [] [] []
/-- what one call is to be -/
def Step1 (st : Option Picture) (call : Int) (n row : List Int) (c : List (List Int)) : Prop :=
  ∃ st', GoodS st' ∧ Sr110Neutral.step st c = (st', (answer (encS st) call n row).2) ∧ (answer (encS st) call n row).1 = encS st'
theorem fin_q {p : Picture} (g : Good p) {call : Int} {n row : List Int} {c : List (List Int)} (sc : Sr110.Call) (q : Ans) (hq : called (some (encP p)) call n row = q.map fun r => (some (encP p), r)) (hl : lst (perform p sc).2 = toL q)
    (hs : Sr110Neutral.step (some p) c = (some p, lst (perform p sc).2)) : Step1 (some p) call n row c := by
  refine ⟨some p, fun p' e => by cases e; exact g, ?_, ?_⟩
  · rw [hs, hl]
    show (some p, toL q) = (some p, (answer (some (encP p)) call n row).2)
    unfold answer
    rw [hq]
    cases q <;> rfl
  · show (answer (some (encP p)) call n row).1 = some (encP p)
    unfold answer
    rw [hq]
    cases q <;> rfl
theorem fin_c {p : Picture} (g : Good p) {call : Int} {n row : List Int} {c : List (List Int)} (sc : Sr110.Call) (m : Except Int (Sh × List Int)) (hq : called (some (encP p)) call n row = m.map fun r => (some r.1, r.2)) (hl : Chg p sc m)
    (hs : Sr110Neutral.step (some p) c = ((match (perform p sc).1 with | some p' => some p' | none => some p), lst (perform p sc).2)) : Step1 (some p) call n row c := by
  cases m with
  | ok r =>
    obtain ⟨p', g', e1, e2, e3⟩ := hl
    refine ⟨some p', fun p2 e => by cases e; exact g', ?_, ?_⟩
    · rw [hs, e2, e3]
      show (some p', r.2) = (some p', (answer (some (encP p)) call n row).2)
      unfold answer
      rw [hq]
      rfl
    · show (answer (some (encP p)) call n row).1 = some (encP p')
      unfold answer
      rw [hq, ← e1]
      rfl
  | error x =>
    obtain ⟨e1, e2⟩ := hl
    refine ⟨some p, fun p2 e => by cases e; exact g, ?_, ?_⟩
    · rw [hs, e1, e2]
      show (some p, [x]) = (some p, (answer (some (encP p)) call n row).2)
      unfold answer
      rw [hq]
      rfl
    · show (answer (some (encP p)) call n row).1 = some (encP p)
      unfold answer
      rw [hq]
      rfl
theorem fin_n {call : Int} {n row : List Int} {c : List (List Int)} (hq : called none call n row = .error (-11)) (hs : Sr110Neutral.step none c = (none, [-11])) : Step1 none call n row c := by
  refine ⟨none, fun p2 e => (by cases e), ?_, ?_⟩
  · rw [hs]
    show (none, [-11]) = (none, (answer none call n row).2)
    unfold answer
    rw [hq]
  · show (answer none call n row).1 = none
    unfold answer
    rw [hq]
theorem good_nil : Good [] := ⟨by decide, fun s h => (by cases h), List.Pairwise.nil⟩
theorem chg_step (p : Picture) (sc : Sr110.Call) : (match perform p sc with | (some ch, r) => (some ch, r) | (none, r) => (some p, r) : Sr110.State × SrCommon.Result) = ((match (perform p sc).1 with | some p' => some p' | none => some p), (perform p sc).2) := by
  cases h : perform p sc with
  | mk a b => cases a <;> rfl
theorem step_law (st : Option Picture) (hg : GoodS st) (call : Int) (n row : List Int) (rows : List (List Int)) (h : Shaped call n row rows) : Step1 st call n row ((call :: n) :: rows) := by
  cases st with
  | none =>
    cases h with
    | c0 => exact ⟨some [], fun p e => by cases e; exact good_nil, rfl, rfl⟩
    | _ => exact fin_n rfl rfl
  | some p =>
    have g := hg p rfl
    cases h with
    | c0 => exact ⟨some [], fun p e => by cases e; exact good_nil, rfl, rfl⟩
    | c1 a b =>
      refine fin_c g (.addShade a b) _ rfl (l_add p g a b) ?_
      show ((match perform p (.addShade a b) with | (some ch, r) => (some ch, r) | (none, r) => (some p, r) : Sr110.State × SrCommon.Result).1, lst (match perform p (.addShade a b) with | (some ch, r) => (some ch, r) | (none, r) => (some p, r) : Sr110.State × SrCommon.Result).2) = _
      rw [chg_step]
    | c2 a =>
      refine fin_c g (.removeShade a) _ rfl (l_remove p g a) ?_
      show ((match perform p (.removeShade a) with | (some ch, r) => (some ch, r) | (none, r) => (some p, r) : Sr110.State × SrCommon.Result).1, lst (match perform p (.removeShade a) with | (some ch, r) => (some ch, r) | (none, r) => (some p, r) : Sr110.State × SrCommon.Result).2) = _
      rw [chg_step]
    | c3 a b =>
      refine fin_c g (.setCount a b) _ rfl (l_set p g a b) ?_
      show ((match perform p (.setCount a b) with | (some ch, r) => (some ch, r) | (none, r) => (some p, r) : Sr110.State × SrCommon.Result).1, lst (match perform p (.setCount a b) with | (some ch, r) => (some ch, r) | (none, r) => (some p, r) : Sr110.State × SrCommon.Result).2) = _
      rw [chg_step]
    | c4 a => exact fin_q g (.minError a) _ rfl (l_minError p a) rfl
    | c5 a => exact fin_q g (.bestPalette a) _ rfl (l_palette p a) rfl
    | c6 a => exact fin_q g (.bestGroups a) _ rfl (l_groups p a) rfl
    | c7 a b => exact fin_q g (.colourOf a b) _ rfl (l_colourOf p a b) rfl
    | c8 a => exact fin_q g (.errorReduction a) _ rfl (l_reduction p a) rfl
    | c9 => exact fin_q g .errorTable _ rfl (l_table p) rfl
    | c10 a => exact fin_q g (.minColours a) _ rfl (l_minColours p a) rfl
    | c11 => exact fin_q g (.paletteError row) _ rfl (l_palErr p row) rfl
    | c12 a b => exact fin_q g (.median a b) _ rfl (l_median p a b) rfl
    | c13 a => exact fin_q g (.groupCounts a) _ rfl (l_counts p a) rfl
    | c14 => exact fin_q g .totals _ rfl (l_totals p) rfl
    | c15 => exact fin_q g .describe _ rfl (l_describe p) rfl
theorem whole_id (c : List (List Int)) : PySr110.whole c = c := by
  unfold PySr110.whole
  split <;> rfl
/-! the flat list -/
def wn : List Int := [0, 2, 1, 2, 1, 1, 1, 2, 1, 0, 1, 0, 2, 1, 0, 0]
structure Kind (p : Int) (w k : Nat) : Prop where
  nn : 0 ≤ p ∧ p ≤ 15
  wn : wn[p.toNat]? = some (w : Int)
  rows : (p = 11 ∧ k = 1 ∧ w = 0) ∨ (p ≠ 11 ∧ k = 0)
  w2 : w ≤ 2
theorem kind_of (p : Int) (w k : Nat) (h : PySr110.shape p = some (w, k)) : Kind p w k := by
  unfold PySr110.shape at h
  by_cases e0 : p = 0
  · subst e0
    cases h
    exact ⟨by decide, rfl, by decide, by decide⟩
  rw [if_neg e0] at h
  by_cases e1 : p = 1
  · subst e1
    cases h
    exact ⟨by decide, rfl, by decide, by decide⟩
  rw [if_neg e1] at h
  by_cases e2 : p = 2
  · subst e2
    cases h
    exact ⟨by decide, rfl, by decide, by decide⟩
  rw [if_neg e2] at h
  by_cases e3 : p = 3
  · subst e3
    cases h
    exact ⟨by decide, rfl, by decide, by decide⟩
  rw [if_neg e3] at h
  by_cases e4 : p = 4
  · subst e4
    cases h
    exact ⟨by decide, rfl, by decide, by decide⟩
  rw [if_neg e4] at h
  by_cases e5 : p = 5
  · subst e5
    cases h
    exact ⟨by decide, rfl, by decide, by decide⟩
  rw [if_neg e5] at h
  by_cases e6 : p = 6
  · subst e6
    cases h
    exact ⟨by decide, rfl, by decide, by decide⟩
  rw [if_neg e6] at h
  by_cases e7 : p = 7
  · subst e7
    cases h
    exact ⟨by decide, rfl, by decide, by decide⟩
  rw [if_neg e7] at h
  by_cases e8 : p = 8
  · subst e8
    cases h
    exact ⟨by decide, rfl, by decide, by decide⟩
  rw [if_neg e8] at h
  by_cases e9 : p = 9
  · subst e9
    cases h
    exact ⟨by decide, rfl, by decide, by decide⟩
  rw [if_neg e9] at h
  by_cases e10 : p = 10
  · subst e10
    cases h
    exact ⟨by decide, rfl, by decide, by decide⟩
  rw [if_neg e10] at h
  by_cases e11 : p = 11
  · subst e11
    cases h
    exact ⟨by decide, rfl, by decide, by decide⟩
  rw [if_neg e11] at h
  by_cases e12 : p = 12
  · subst e12
    cases h
    exact ⟨by decide, rfl, by decide, by decide⟩
  rw [if_neg e12] at h
  by_cases e13 : p = 13
  · subst e13
    cases h
    exact ⟨by decide, rfl, by decide, by decide⟩
  rw [if_neg e13] at h
  by_cases e14 : p = 14
  · subst e14
    cases h
    exact ⟨by decide, rfl, by decide, by decide⟩
  rw [if_neg e14] at h
  by_cases e15 : p = 15
  · subst e15
    cases h
    exact ⟨by decide, rfl, by decide, by decide⟩
  rw [if_neg e15] at h
  cases h
theorem shaped_of (p : Int) (w k : Nat) (n row : List Int) (rows : List (List Int)) (h : PySr110.shape p = some (w, k)) (hn : n.length = w) (h0 : k = 0 → rows = [] ∧ row = []) (h1 : k = 1 → rows = [row]) : Shaped p n row rows := by
  have n0 : ∀ n : List Int, n.length = 0 → n = [] := fun n h => List.length_eq_zero_iff.mp h
  have n1 : ∀ n : List Int, n.length = 1 → ∃ a, n = [a] := fun n h => List.length_eq_one_iff.mp h
  have n2 : ∀ n : List Int, n.length = 2 → ∃ a b, n = [a, b] := fun n h => match n, h with | [a, b], _ => ⟨a, b, rfl⟩
  unfold PySr110.shape at h
  by_cases e0 : p = 0
  · subst e0
    cases h
    obtain ⟨rfl, rfl⟩ := h0 rfl
    obtain rfl := n0 n hn
    exact .c0
  rw [if_neg e0] at h
  by_cases e1 : p = 1
  · subst e1
    cases h
    obtain ⟨rfl, rfl⟩ := h0 rfl
    obtain ⟨a, b, rfl⟩ := n2 n hn
    exact .c1 a b
  rw [if_neg e1] at h
  by_cases e2 : p = 2
  · subst e2
    cases h
    obtain ⟨rfl, rfl⟩ := h0 rfl
    obtain ⟨a, rfl⟩ := n1 n hn
    exact .c2 a
  rw [if_neg e2] at h
  by_cases e3 : p = 3
  · subst e3
    cases h
    obtain ⟨rfl, rfl⟩ := h0 rfl
    obtain ⟨a, b, rfl⟩ := n2 n hn
    exact .c3 a b
  rw [if_neg e3] at h
  by_cases e4 : p = 4
  · subst e4
    cases h
    obtain ⟨rfl, rfl⟩ := h0 rfl
    obtain ⟨a, rfl⟩ := n1 n hn
    exact .c4 a
  rw [if_neg e4] at h
  by_cases e5 : p = 5
  · subst e5
    cases h
    obtain ⟨rfl, rfl⟩ := h0 rfl
    obtain ⟨a, rfl⟩ := n1 n hn
    exact .c5 a
  rw [if_neg e5] at h
  by_cases e6 : p = 6
  · subst e6
    cases h
    obtain ⟨rfl, rfl⟩ := h0 rfl
    obtain ⟨a, rfl⟩ := n1 n hn
    exact .c6 a
  rw [if_neg e6] at h
  by_cases e7 : p = 7
  · subst e7
    cases h
    obtain ⟨rfl, rfl⟩ := h0 rfl
    obtain ⟨a, b, rfl⟩ := n2 n hn
    exact .c7 a b
  rw [if_neg e7] at h
  by_cases e8 : p = 8
  · subst e8
    cases h
    obtain ⟨rfl, rfl⟩ := h0 rfl
    obtain ⟨a, rfl⟩ := n1 n hn
    exact .c8 a
  rw [if_neg e8] at h
  by_cases e9 : p = 9
  · subst e9
    cases h
    obtain ⟨rfl, rfl⟩ := h0 rfl
    obtain rfl := n0 n hn
    exact .c9
  rw [if_neg e9] at h
  by_cases e10 : p = 10
  · subst e10
    cases h
    obtain ⟨rfl, rfl⟩ := h0 rfl
    obtain ⟨a, rfl⟩ := n1 n hn
    exact .c10 a
  rw [if_neg e10] at h
  by_cases e11 : p = 11
  · subst e11
    cases h
    obtain rfl := h1 rfl
    obtain rfl := n0 n hn
    exact .c11 _
  rw [if_neg e11] at h
  by_cases e12 : p = 12
  · subst e12
    cases h
    obtain ⟨rfl, rfl⟩ := h0 rfl
    obtain ⟨a, b, rfl⟩ := n2 n hn
    exact .c12 a b
  rw [if_neg e12] at h
  by_cases e13 : p = 13
  · subst e13
    cases h
    obtain ⟨rfl, rfl⟩ := h0 rfl
    obtain ⟨a, rfl⟩ := n1 n hn
    exact .c13 a
  rw [if_neg e13] at h
  by_cases e14 : p = 14
  · subst e14
    cases h
    obtain ⟨rfl, rfl⟩ := h0 rfl
    obtain rfl := n0 n hn
    exact .c14
  rw [if_neg e14] at h
  by_cases e15 : p = 15
  · subst e15
    cases h
    obtain ⟨rfl, rfl⟩ := h0 rfl
    obtain rfl := n0 n hn
    exact .c15
  rw [if_neg e15] at h
  cases h
structure Turn (l : List Int) (i : Nat) (cs : List (List (List Int))) (call : Int) (w : Nat) (row : List Int) (rows : List (List Int)) (e f : Nat) (cs' : List (List (List Int))) : Prop where
  at_ : l[i]? = some call
  nn : 0 ≤ call
  wn : wn[call.toNat]? = some (w : Int)
  w2 : w ≤ 2
  fits : i + 1 + w ≤ l.length
  shaped : Shaped call (cut l (i + 1) (i + 1 + w)) row rows
  cs_ : cs = ((call :: cut l (i + 1) (i + 1 + w)) :: rows) :: cs'
  rest : PyFlat.calls PySr110.shape f (l.drop e) = some cs'
  lt : i < e
  le : e ≤ l.length
  plain : call ≠ 11 → row = [] ∧ e = i + 1 + w
  rowed : call = 11 → ∃ m : Nat, l[i + 1 + w]? = some (m : Int) ∧ e = i + 1 + w + 1 + m ∧ row = cut l (i + 1 + w + 1) e
theorem cut_take (l : List Int) (i w : Nat) : cut l i (i + w) = (l.drop i).take w := by
  unfold cut
  rw [Nat.add_sub_cancel_left]
theorem turn_law (l : List Int) (i f : Nat) (cs : List (List (List Int))) (hi : i < l.length) (h : PyFlat.calls PySr110.shape f (l.drop i) = some cs) : ∃ call w row rows e f' cs', Turn l i cs call w row rows e f' cs' := by
  have hd : l.drop i = l[i] :: l.drop (i + 1) := List.drop_eq_getElem_cons hi
  rw [hd] at h
  cases f with
  | zero => cases h
  | succ f =>
    have h : (match PyFlat.call PySr110.shape (l[i] :: l.drop (i + 1)) with
      | none => none
      | some (c, t) => match PyFlat.calls PySr110.shape f t with
        | none => none
        | some cs => some (c :: cs)) = some cs := h
    cases hc : PyFlat.call PySr110.shape (l[i] :: l.drop (i + 1)) with
    | none => rw [hc] at h; cases h
    | some ct =>
      obtain ⟨c, t⟩ := ct
      rw [hc] at h
      cases ht : PyFlat.calls PySr110.shape f t with
      | none => simp only [ht] at h; cases h
      | some cs' =>
        simp only [ht] at h
        have ecs : c :: cs' = cs := Option.some.inj h
        have hc : (match PySr110.shape l[i] with
          | none => none
          | some (n, k) => if (l.drop (i + 1)).length < n then none else match PyFlat.rows k ((l.drop (i + 1)).drop n) with
            | none => none
            | some (xs, t) => some ((l[i] :: (l.drop (i + 1)).take n) :: xs, t)) = some (c, t) := hc
        cases hs : PySr110.shape l[i] with
        | none => simp only [hs] at hc; cases hc
        | some wk =>
          obtain ⟨w, k⟩ := wk
          simp only [hs] at hc
          by_cases hw : (l.drop (i + 1)).length < w
          · rw [if_pos hw] at hc
            cases hc
          · rw [if_neg hw] at hc
            rw [List.length_drop] at hw
            have K := kind_of _ w k hs
            have en : (l.drop (i + 1)).take w = cut l (i + 1) (i + 1 + w) := (cut_take l (i + 1) w).symm
            have ln : (cut l (i + 1) (i + 1 + w)).length = w := by rw [cut_length _ _ _ (by omega)]; omega
            rw [en, List.drop_drop] at hc
            rcases K.rows with ⟨p11, hk, w0⟩ | ⟨p11, hk⟩
            · subst hk
              subst w0
              have hc : (match (match PyFlat.row (l.drop (i + 1 + 0)) with
                  | none => none
                  | some (x, s) => match (some ([], s) : Option (List (List Int) × List Int)) with
                    | none => none
                    | some (xs, t) => some (x :: xs, t)) with
                | none => none
                | some (xs, t) => some ((l[i] :: cut l (i + 1) (i + 1 + 0)) :: xs, t)) = some (c, t) := hc
              cases hr : PyFlat.row (l.drop (i + 1 + 0)) with
              | none => simp only [hr] at hc; cases hc
              | some xs =>
                obtain ⟨x, s⟩ := xs
                simp only [hr] at hc
                have hc' := Option.some.inj hc
                have c1 : (l[i] :: cut l (i + 1) (i + 1 + 0)) :: [x] = c := congrArg Prod.fst hc'
                have c2 : s = t := congrArg Prod.snd hc'
                by_cases hz : i + 1 + 0 < l.length
                · rw [List.drop_eq_getElem_cons hz] at hr
                  have hr : (if 0 ≤ l[i + 1 + 0] ∧ (l[i + 1 + 0]).toNat ≤ (l.drop (i + 1 + 0 + 1)).length then some ((l.drop (i + 1 + 0 + 1)).take (l[i + 1 + 0]).toNat, (l.drop (i + 1 + 0 + 1)).drop (l[i + 1 + 0]).toNat) else none) = some (x, s) := hr
                  by_cases hm : 0 ≤ l[i + 1 + 0] ∧ (l[i + 1 + 0]).toNat ≤ (l.drop (i + 1 + 0 + 1)).length
                  · rw [if_pos hm] at hr
                    have hr' := Option.some.inj hr
                    have r1 : (l.drop (i + 1 + 0 + 1)).take (l[i + 1 + 0]).toNat = x := congrArg Prod.fst hr'
                    have r2 : (l.drop (i + 1 + 0 + 1)).drop (l[i + 1 + 0]).toNat = s := congrArg Prod.snd hr'
                    rw [List.length_drop] at hm
                    refine ⟨l[i], 0, x, [x], i + 1 + 0 + 1 + (l[i + 1 + 0]).toNat, f, cs', List.getElem?_eq_getElem hi, K.nn.1, K.wn, by omega, by omega, shaped_of _ 0 1 _ _ _ hs ln (fun z => by cases z) (fun _ => rfl), ?_, ?_, by omega, by omega, fun z => absurd p11 z, fun _ => ⟨(l[i + 1 + 0]).toNat, ?_, rfl, ?_⟩⟩
                    · rw [← ecs, ← c1]
                    · rw [← ht, ← c2, ← r2, List.drop_drop]
                    · rw [List.getElem?_eq_getElem hz]
                      congr 1
                      omega
                    · rw [cut_take, r1]
                  · rw [if_neg hm] at hr
                    cases hr
                · rw [List.drop_eq_nil_of_le (by omega)] at hr
                  cases hr
            · subst hk
              have hc' := Option.some.inj hc
              have c1 : (l[i] :: cut l (i + 1) (i + 1 + w)) :: [] = c := congrArg Prod.fst hc'
              have c2 : l.drop (i + 1 + w) = t := congrArg Prod.snd hc'
              refine ⟨l[i], w, [], [], i + 1 + w, f, cs', List.getElem?_eq_getElem hi, K.nn.1, K.wn, K.w2, by omega, shaped_of _ w 0 _ _ _ hs ln (fun _ => ⟨rfl, rfl⟩) (fun z => by cases z), ?_, ?_, by omega, by omega, fun _ => ⟨rfl, rfl⟩, fun z => absurd z p11⟩
              · rw [← ecs, ← c1]
              · rw [← ht, ← c2]
/-- what is still to be answered -/
def todo (st : Option Picture) (cs : List (List (List Int))) : List Int := PyFlat.told (PyFlat.played Sr110Neutral.step st (cs.map PySr110.whole))
theorem todo_nil (st : Option Picture) : todo st [] = [] := rfl
theorem todo_cons (st : Option Picture) (c : List (List Int)) (cs : List (List (List Int))) : todo st (c :: cs) = (((Sr110Neutral.step st c).2.length : Int) :: (Sr110Neutral.step st c).2) ++ todo (Sr110Neutral.step st c).1 cs := by
  unfold todo
  rw [List.map_cons, whole_id]
  rfl
theorem answers_todo (l : List Int) (cs : List (List (List Int))) (h : PyFlat.calls PySr110.shape l.length l = some cs) : PySr110.answers l = todo none cs := by
  unfold PySr110.answers PySr110.calls
  rw [h]
  rfl
theorem asked_calls (l : List Int) (h : PySr110.answers_asked l = true) : ∃ cs, PyFlat.calls PySr110.shape l.length l = some cs ∧ (PySr110.answers l).length ≤ 10000000 := by
  unfold PySr110.answers_asked at h
  cases hc : PyFlat.calls PySr110.shape l.length l with
  | none => rw [hc] at h; cases h
  | some cs =>
    rw [hc] at h
    simp only [Bool.and_eq_true] at h
    exact ⟨cs, rfl, by simpa [PyFlat.short] using h.2⟩
end FS
/-! A small layer of our own: beside the whole heap h a part k of it that never changes and that values stand in -/
namespace FW
open PySem PySem.Spec PyProof.Rows L2
def Ex (H H' : Hp) : Prop := ∀ a o, H a = some o → H' a = some o
theorem Ex.refl (H : Hp) : Ex H H := fun _ _ h => h
theorem Ex.trans {H H1 H2 : Hp} (a : Ex H H1) (b : Ex H1 H2) : Ex H H2 := fun x o h => b x o (a x o h)
theorem Ex.none {H H1 : Hp} (e : Ex H H1) {a : Addr} (h : H1 a = Option.none) : H a = Option.none := by
  cases q : H a with
  | none => rfl
  | some o =>
    rw [e a o q] at h
    cases h
theorem Ex.upd {H H1 : Hp} (e : Ex H H1) {a : Addr} (h : H a = Option.none) (o : HO) : Ex H (upd H1 a o) := fun b u q => by
  rw [upd_ne (ne_of_none q h)]
  exact e b u q
theorem Ex.both {H H1 : Hp} (e : Ex H H1) (a : Addr) (o : HO) : Ex (L2.upd H a o) (L2.upd H1 a o) := fun b u q => by
  by_cases hb : b = a
  · subst hb
    rw [upd_same] at q ⊢
    exact q
  · rw [upd_ne hb] at q ⊢
    exact e b u q
/-- from the known k and the whole h on to k' and h' -/
structure Le (k h k' h' : Hp) : Prop where
  kk : Ex k k'
  hh : Ex h h'
  kh : Ex k' h'
  fr : ∀ a o, h a = some o → k' a = k a
section
variable {k h k1 h1 k2 h2 : Hp}
theorem Le.refl (w : Ex k h) : Le k h k h := ⟨Ex.refl k, Ex.refl h, w, fun _ _ _ => rfl⟩
theorem Le.same (e : Le k h k1 h1) : Le k1 h1 k1 h1 := Le.refl e.kh
theorem Le.trans (a : Le k h k1 h1) (b : Le k1 h1 k2 h2) : Le k h k2 h2 :=
  ⟨a.kk.trans b.kk, a.hh.trans b.hh, b.kh, fun x o q => (b.fr x o (a.hh x o q)).trans (a.fr x o q)⟩
/-- a new thing that never changes -/
theorem Le.new (w : Ex k h) {p : Addr} (hp : h p = none) (o : HO) : Le k h (upd k p o) (upd h p o) :=
  ⟨(Ex.refl k).upd (w.none hp) o, (Ex.refl h).upd hp o, w.both p o, fun a u q => upd_ne (ne_of_none q hp)⟩
theorem Le.add (e : Le k h k1 h1) {p : Addr} (hp : h1 p = none) (o : HO) : Le k h (upd k1 p o) (upd h1 p o) := e.trans (Le.new e.kh hp o)
/-- a new thing that may change -/
theorem Le.newh (w : Ex k h) {p : Addr} (hp : h p = none) (o : HO) : Le k h k (upd h p o) :=
  ⟨Ex.refl k, (Ex.refl h).upd hp o, w.upd (w.none hp) o, fun _ _ _ => rfl⟩
/-- a thing that h does not have is changed -/
theorem Le.put (e : Le k h k1 h1) {p : Addr} (hp : h p = none) (hk : k1 p = none) (o : HO) : Le k h k1 (upd h1 p o) :=
  ⟨e.kk, e.hh.upd hp o, e.kh.upd hk o, e.fr⟩
/-- it is not to be changed any more -/
theorem Le.fix (e : Le k h k1 h1) {p : Addr} (hp : h p = none) {o : HO} (ho : h1 p = some o) : Le k h (upd k1 p o) h1 := by
  refine ⟨fun a u q => ?_, e.hh, fun a u q => ?_, fun a u q => ?_⟩
  · by_cases ha : a = p
    · subst ha
      have z := e.kh a u (e.kk a u q)
      rw [ho] at z
      cases z
      exact upd_same
    · rw [upd_ne ha]
      exact e.kk a u q
  · by_cases ha : a = p
    · subst ha
      rw [upd_same] at q
      cases q
      exact ho
    · rw [upd_ne ha] at q
      exact e.kh a u q
  · rw [upd_ne (ne_of_none q hp)]
    exact e.fr a u q
/-- what is new and changing is not known -/
theorem Le.unk (e : Le k h k1 h1) {p : Addr} {o : HO} (hk : k p = none) (ho : h p = some o) : k1 p = none := (e.fr p o ho).trans hk
end
/-! ### what a value stands for -/
structure Rp (α : Type) where
  rel : Hp → V → α → Prop
  mono : ∀ {H H' : Hp} {v : V} {x : α}, Ex H H' → rel H v x → rel H' v x
def rZ : Rp Int := ⟨fun _ v x => v = .int x, fun _ h => h⟩
def rN : Rp Nat := ⟨fun _ v x => v = .int (x : Int), fun _ h => h⟩
def rB : Rp Bool := ⟨fun _ v x => v = .bl x, fun _ h => h⟩
theorem pair_mono {α : Type} (A : Rp α) {H H' : Hp} (e : Ex H H') : ∀ {vs : List V} {xs : List α}, Paired (A.rel H) vs xs → Paired (A.rel H') vs xs
  | _, _, .nil => .nil
  | _, _, .cons r t => .cons (A.mono e r) (pair_mono A e t)
def rL {α : Type} (A : Rp α) : Rp (List α) :=
  ⟨fun H v xs => ∃ p vs, v = .ref p ∧ H p = some (.lst vs) ∧ Paired (A.rel H) vs xs, fun e ⟨p, vs, h1, h2, h3⟩ => ⟨p, vs, h1, e _ _ h2, pair_mono A e h3⟩⟩
def rP {α β : Type} (A : Rp α) (B : Rp β) : Rp (α × β) :=
  ⟨fun H v x => ∃ t a b, v = .ref t ∧ H t = some (.tup [a, b]) ∧ A.rel H a x.1 ∧ B.rel H b x.2, fun e ⟨t, a, b, h1, h2, h3, h4⟩ => ⟨t, a, b, h1, e _ _ h2, A.mono e h3, B.mono e h4⟩⟩
def rO {α : Type} (A : Rp α) : Rp (Option α) :=
  ⟨fun H v x => match x with | none => v = .non | some y => v ≠ .non ∧ A.rel H v y, fun {H H' v x} e h => match x, h with | none, h => h | some _, h => ⟨h.1, A.mono e h.2⟩⟩
/-- a list that may not be ours: read alone -/
def rQ (K : PySem.W.Frag) : Rp (List Int) := ⟨fun H v xs => ∃ p, v = .ref p ∧ SqL K H p (xs.map V.int), fun e ⟨p, h1, h2⟩ => ⟨p, h1, by
  rcases h2 with (h | ⟨o, h⟩) | h
  · exact .inl (.inl (e _ _ h))
  · exact .inl (.inr ⟨o, e _ _ h⟩)
  · exact .inr h⟩⟩

section
variable {α β : Type} {A : Rp α} {B : Rp β} {H H' : Hp}
theorem pr_get : ∀ {vs : List V} {xs : List α}, Paired (A.rel H) vs xs → ∀ {i : Nat} {x : α}, xs[i]? = some x → ∃ v, vs[i]? = some v ∧ A.rel H v x
  | _, _, .nil, i, x, h => by cases h
  | _, _, .cons r t, 0, x, h => by
    cases h
    exact ⟨_, rfl, r⟩
  | _, _, .cons r t, i + 1, x, h => pr_get t (i := i) (x := x) h
theorem pr_len {vs : List V} {xs : List α} (h : Paired (A.rel H) vs xs) : vs.length = xs.length := Paired.length h
theorem pr_app : ∀ {vs ws : List V} {xs ys : List α}, Paired (A.rel H) vs xs → Paired (A.rel H) ws ys → Paired (A.rel H) (vs ++ ws) (xs ++ ys)
  | _, _, _, _, .nil, h => h
  | _, _, _, _, .cons r t, h => .cons r (pr_app t h)
theorem pr_drop : ∀ (n : Nat) {vs : List V} {xs : List α}, Paired (A.rel H) vs xs → Paired (A.rel H) (vs.drop n) (xs.drop n)
  | 0, _, _, h => h
  | n + 1, _, _, .nil => .nil
  | n + 1, _, _, .cons r t => pr_drop n t
theorem pr_take : ∀ (n : Nat) {vs : List V} {xs : List α}, Paired (A.rel H) vs xs → Paired (A.rel H) (vs.take n) (xs.take n)
  | 0, _, _, _ => .nil
  | n + 1, _, _, .nil => .nil
  | n + 1, _, _, .cons r t => .cons r (pr_take n t)
theorem pr_ints : ∀ {vs : List V} {xs : List Int}, Paired (rZ.rel H) vs xs → vs = xs.map V.int
  | _, _, .nil => rfl
  | _, _, .cons r t => by
    rw [List.map_cons, ← pr_ints t]
    congr 1
theorem ints_pr : ∀ (xs : List Int), Paired (rZ.rel H) (xs.map V.int) xs
  | [] => .nil
  | x :: r => .cons rfl (ints_pr r)
theorem pr_bls : ∀ {vs : List V} {xs : List Bool}, Paired (rB.rel H) vs xs → vs = xs.map V.bl
  | _, _, .nil => rfl
  | _, _, .cons r t => by
    rw [List.map_cons, ← pr_bls t]
    congr 1
end
/-! ### expressions -/
def Ev {α : Type} (te : TE) (σ : L2.St) (k h : Hp) (A : Rp α) (x : α) : Prop := ∀ k1 h1, Le k h k1 h1 → ∀ Q : VK, (∀ v k2 h2, Le k1 h1 k2 h2 → A.rel k2 v x → Q v h2) → te σ h1 Q
def EvT (tt : TT) (σ : L2.St) (k h : Hp) (b : Bool) : Prop := ∀ k1 h1, Le k h k1 h1 → ∀ Q : Bool → Hp → Prop, (∀ k2 h2, Le k1 h1 k2 h2 → Q b h2) → tt σ h1 Q
def EvA (ta : TA) (σ : L2.St) (k h : Hp) (R : Hp → Hp → List V → Prop) : Prop := ∀ k1 h1, Le k h k1 h1 → ∀ Q : List V → Hp → Prop, (∀ vs k2 h2, Le k1 h1 k2 h2 → R k2 h2 vs → Q vs h2) → ta σ h1 Q
section
variable {α β γ : Type} {A : Rp α} {B : Rp β} {Cc : Rp γ} {σ : L2.St} {k h k' h' : Hp} {te ta tb tc : TE} {tt tu : TT} {x : α} {y : β} {i : Nat} {v : V} {K : PySem.W.Frag} {b b' : Bool}
theorem Ev.mono (e : Le k h k' h') (q : Ev te σ k h A x) : Ev te σ k' h' A x := fun k1 h1 l => q k1 h1 (e.trans l)
theorem EvT.mono (e : Le k h k' h') (q : EvT tt σ k h b) : EvT tt σ k' h' b := fun k1 h1 l => q k1 h1 (e.trans l)
theorem ev_val (r : A.rel k v x) : Ev (tC v) σ k h A x := fun k1 h1 l Q q => q v k1 h1 l.same (A.mono l.kk r)
theorem ev_var (s : σ[i]? = some (some v)) (r : A.rel k v x) : Ev (tVar i) σ k h A x := fun k1 h1 l Q q => ⟨v, s, q v k1 h1 l.same (A.mono l.kk r)⟩
theorem ev_int (i : Int) : Ev (tC (.int i)) σ k h rZ i := ev_val rfl
theorem ev_bl (c : Bool) : Ev (tC (.bl c)) σ k h rB c := ev_val rfl
theorem ev_non : Ev (tC .non) σ k h (rO A) none := ev_val rfl
theorem ev_is (q : Ev te σ k h A x) {z : α} (e : x = z) : Ev te σ k h A z := e ▸ q
/-- another reading of the same value -/
theorem ev_as (q : Ev te σ k h A x) (f : ∀ H v, A.rel H v x → B.rel H v y) : Ev te σ k h B y := fun k1 h1 l Q q' => q k1 h1 l Q fun v k2 h2 l2 r => q' v k2 h2 l2 (f _ _ r)
theorem ev_n {n : Nat} (q : Ev te σ k h rZ (n : Int)) : Ev te σ k h rN n := ev_as q fun _ _ r => r
theorem ev_z {n : Nat} (q : Ev te σ k h rN n) : Ev te σ k h rZ (n : Int) := ev_as q fun _ _ r => r
theorem ev_I0 {g : Int → Int → V} {m n : Int} {z : γ} (ha : Ev ta σ k h rZ m) (hb : Ev tb σ k h rZ n) (hz : ∀ H, Cc.rel H (g m n) z) : Ev (tOp (rI0 g) ta tb) σ k h Cc z := fun k1 h1 l Q q =>
  ha k1 h1 l _ fun v k2 h2 l2 r => hb k2 h2 (l.trans l2) _ fun u k3 h3 l3 s => ⟨m, n, r, s, q _ k3 h3 (l2.trans l3) (hz k3)⟩
theorem ev_I {C : Int → Int → Prop} {g : Int → Int → V} {m n : Int} {z : γ} (ha : Ev ta σ k h rZ m) (hb : Ev tb σ k h rZ n) (hc : C m n) (hz : ∀ H, Cc.rel H (g m n) z) : Ev (tOp (rI C g) ta tb) σ k h Cc z := fun k1 h1 l Q q =>
  ha k1 h1 l _ fun v k2 h2 l2 r => hb k2 h2 (l.trans l2) _ fun u k3 h3 l3 s => ⟨m, n, r, s, hc, q _ k3 h3 (l2.trans l3) (hz k3)⟩
theorem ev_add {m n : Int} (ha : Ev ta σ k h rZ m) (hb : Ev tb σ k h rZ n) : Ev (tOp (rI0 fun i j => .int (i + j)) ta tb) σ k h rZ (m + n) := ev_I0 ha hb fun _ => rfl
theorem ev_sub {m n : Int} (ha : Ev ta σ k h rZ m) (hb : Ev tb σ k h rZ n) : Ev (tOp (rI0 fun i j => .int (i - j)) ta tb) σ k h rZ (m - n) := ev_I0 ha hb fun _ => rfl
theorem ev_mul {m n : Int} (ha : Ev ta σ k h rZ m) (hb : Ev tb σ k h rZ n) (hc : CMul m n) : Ev (tOp (rI CMul fun i j => .int (i * j)) ta tb) σ k h rZ (m * n) := ev_I ha hb hc fun _ => rfl
theorem ev_lt {m n : Int} (ha : Ev ta σ k h rZ m) (hb : Ev tb σ k h rZ n) : Ev (tOp (rI0 fun i j => .bl (decide (i < j))) ta tb) σ k h rB (decide (m < n)) := ev_I0 ha hb fun _ => rfl
theorem ev_le {m n : Int} (ha : Ev ta σ k h rZ m) (hb : Ev tb σ k h rZ n) : Ev (tOp (rI0 fun i j => .bl (decide (i ≤ j))) ta tb) σ k h rB (decide (m ≤ n)) := ev_I0 ha hb fun _ => rfl
theorem ev_gt {m n : Int} (ha : Ev ta σ k h rZ m) (hb : Ev tb σ k h rZ n) : Ev (tOp (rI0 fun i j => .bl (decide (j < i))) ta tb) σ k h rB (decide (n < m)) := ev_I0 ha hb fun _ => rfl
theorem ev_ge {m n : Int} (ha : Ev ta σ k h rZ m) (hb : Ev tb σ k h rZ n) : Ev (tOp (rI0 fun i j => .bl (decide (j ≤ i))) ta tb) σ k h rB (decide (n ≤ m)) := ev_I0 ha hb fun _ => rfl
def rEqI : R2 := rEq
theorem ev_eq {m n : Int} (ha : Ev ta σ k h rZ m) (hb : Ev tb σ k h rZ n) : Ev (tOp rEq ta tb) σ k h rB (decide (m = n)) := fun k1 h1 l Q q =>
  ha k1 h1 l _ fun v k2 h2 l2 r => hb k2 h2 (l.trans l2) _ fun u k3 h3 l3 s => by
    cases r
    cases s
    refine ⟨rfl, ?_⟩
    rw [dec_int]
    exact q _ k3 h3 (l2.trans l3) (by show V.bl _ = V.bl _; congr 1)
theorem ev_ne {m n : Int} (ha : Ev ta σ k h rZ m) (hb : Ev tb σ k h rZ n) : Ev (tOp rNe ta tb) σ k h rB (!decide (m = n)) := fun k1 h1 l Q q =>
  ha k1 h1 l _ fun v k2 h2 l2 r => hb k2 h2 (l.trans l2) _ fun u k3 h3 l3 s => by
    cases r
    cases s
    refine ⟨rfl, ?_⟩
    rw [dec_int]
    exact q _ k3 h3 (l2.trans l3) (by show V.bl _ = V.bl _; congr 1)
def rNone : R2 := fun x y H Q => y = .non ∧ Q (.bl (decide (x = .non))) H
def rSome : R2 := fun x y H Q => y = .non ∧ Q (.bl (!decide (x = .non))) H
theorem rO_non {H : Hp} {z : Option α} (r : (rO A).rel H v z) : decide (v = .non) = z.isNone := by
  cases z with
  | none =>
    have r : v = .non := r
    rw [r]
    rfl
  | some y => exact decide_eq_false r.1
theorem ev_isN {z : Option α} (ha : Ev ta σ k h (rO A) z) : Ev (tOp rNone ta (tC .non)) σ k h rB z.isNone := fun k1 h1 l Q q =>
  ha k1 h1 l _ fun v k2 h2 l2 r => ⟨rfl, by rw [rO_non r]; exact q _ k2 h2 l2 rfl⟩
theorem ev_notN {z : Option α} (ha : Ev ta σ k h (rO A) z) : Ev (tOp rSome ta (tC .non)) σ k h rB z.isSome := fun k1 h1 l Q q =>
  ha k1 h1 l _ fun v k2 h2 l2 r => ⟨rfl, by rw [rO_non r]; exact q _ k2 h2 l2 (by show V.bl _ = V.bl _; cases z <;> rfl)⟩
theorem ev_some {z : α} (ha : Ev ta σ k h (rO A) (some z)) : Ev ta σ k h A z := ev_as ha fun _ _ r => r.2
theorem ev_ixL {xs : List α} {j : Nat} {n : Int} (ha : Ev ta σ k h (rL A) xs) (hb : Ev tb σ k h rZ n) (hx : xs[j]? = some x) (e : n = (j : Int)) : Ev (tOp (rIxL K) ta tb) σ k h A x := fun k1 h1 l Q q =>
  ha k1 h1 l _ fun v k2 h2 l2 ⟨p, vs, ep, hp, pr⟩ => hb k2 h2 (l.trans l2) _ fun u k3 h3 l3 s => by
    obtain ⟨w, hw, r⟩ := pr_get (pair_mono A l3.kk pr) hx
    exact ⟨p, vs, n, w, ep, s, SqL.of (l3.kh _ _ (l3.kk _ _ hp)), at_of e hw, q w k3 h3 (l2.trans l3) r⟩
theorem ev_ixQ {xs : List Int} {j : Nat} {n z : Int} (ha : Ev ta σ k h (rQ K) xs) (hb : Ev tb σ k h rZ n) (hx : xs[j]? = some z) (e : n = (j : Int)) : Ev (tOp (rIxL K) ta tb) σ k h rZ z := fun k1 h1 l Q q =>
  ha k1 h1 l _ fun v k2 h2 l2 r0 => hb k2 h2 (l.trans l2) _ fun u k3 h3 l3 s => by
    obtain ⟨p, ep, hp⟩ := (rQ K).mono (l3.kk.trans l3.kh) r0
    exact ⟨p, _, n, .int z, ep, s, hp, at_of e (by rw [List.getElem?_map, hx]; rfl), q _ k3 h3 (l2.trans l3) rfl⟩
theorem ev_ixT0 {z : α × β} (ha : Ev ta σ k h (rP A B) z) : Ev (tOp (rIxT K) ta (tC (.int 0))) σ k h A z.1 := fun k1 h1 l Q q =>
  ha k1 h1 l _ fun v k2 h2 l2 ⟨t, a, b, et, ht, ra, rb⟩ => ⟨t, [a, b], 0, a, et, rfl, SqT.of (l2.kh _ _ ht), atI_nat (j := 0) rfl, q a k2 h2 l2 ra⟩
theorem ev_ixT1 {z : α × β} (ha : Ev ta σ k h (rP A B) z) : Ev (tOp (rIxT K) ta (tC (.int 1))) σ k h B z.2 := fun k1 h1 l Q q =>
  ha k1 h1 l _ fun v k2 h2 l2 ⟨t, a, b, et, ht, ra, rb⟩ => ⟨t, [a, b], 1, b, et, rfl, SqT.of (l2.kh _ _ ht), atI_nat (j := 1) rfl, q b k2 h2 l2 rb⟩
theorem ev_notV {c : Bool} (ha : Ev ta σ k h rB c) : Ev (tNotV ta) σ k h rB (!c) := fun k1 h1 l Q q => ha k1 h1 l _ fun v k2 h2 l2 r => ⟨c, r, q _ k2 h2 l2 rfl⟩
theorem ev_andV {c d : Bool} (ha : Ev ta σ k h rB c) (hb : c = true → Ev tb σ k h rB d) : Ev (tAndV ta tb) σ k h rB (c && d) := fun k1 h1 l Q q => ha k1 h1 l _ fun v k2 h2 l2 r => ⟨c, r, by
  cases c with
  | true => exact hb rfl k2 h2 (l.trans l2) Q fun v k3 h3 l3 r => q v k3 h3 (l2.trans l3) r
  | false => exact q _ k2 h2 l2 rfl⟩
theorem ev_orV {c d : Bool} (ha : Ev ta σ k h rB c) (hb : c = false → Ev tb σ k h rB d) : Ev (tOrV ta tb) σ k h rB (c || d) := fun k1 h1 l Q q => ha k1 h1 l _ fun v k2 h2 l2 r => ⟨c, r, by
  cases c with
  | false => exact hb rfl k2 h2 (l.trans l2) Q fun v k3 h3 l3 r => q v k3 h3 (l2.trans l3) r
  | true => exact q _ k2 h2 l2 rfl⟩
/-- a op b op' c of ints -/
theorem ev_chain {g g' : Int → Int → Bool} {m n o : Int} (ha : Ev ta σ k h rZ m) (hb : Ev tb σ k h rZ n) (hc : Ev tc σ k h rZ o) :
    Ev (tChain (rI0 fun i j => .bl (g i j)) (rI0 fun i j => .bl (g' i j)) ta tb tc) σ k h rB (g m n && g' n o) := fun k1 h1 l Q q =>
  ha k1 h1 l _ fun v k2 h2 l2 r => hb k2 h2 (l.trans l2) _ fun u k3 h3 l3 s => ⟨m, n, r, s, g m n, rfl, by
    cases hg : g m n with
    | false =>
      rw [hg] at q
      exact q _ k3 h3 (l2.trans l3) rfl
    | true =>
      rw [hg] at q
      refine hc k3 h3 ((l.trans l2).trans l3) _ fun w k4 h4 l4 t => ⟨n, o, s, t, q _ k4 h4 ((l2.trans l3).trans l4) rfl⟩⟩
theorem ev_if {c : Bool} (ht : EvT tt σ k h c) (h1 : c = true → Ev ta σ k h A x) (h2 : c = false → Ev tb σ k h A x) : Ev (tIf tt ta tb) σ k h A x := fun k1 h1' l Q q => ht k1 h1' l _ fun k2 h2' l2 => by
  cases c with
  | true => exact h1 rfl k2 h2' (l.trans l2) Q fun v k3 h3 l3 r => q v k3 h3 (l2.trans l3) r
  | false => exact h2 rfl k2 h2' (l.trans l2) Q fun v k3 h3 l3 r => q v k3 h3 (l2.trans l3) r
/-! tests -/
theorem et_B (ha : Ev ta σ k h rB b) : EvT (tB ta) σ k h b := fun k1 h1 l Q q => ha k1 h1 l _ fun v k2 h2 l2 r => ⟨b, r, q k2 h2 l2⟩
theorem et_T (ha : Ev ta σ k h rB b) : EvT (tTest ta) σ k h b := fun k1 h1 l Q q => ha k1 h1 l _ fun v k2 h2 l2 r => ⟨b, r, q k2 h2 l2⟩
theorem et_not (ha : EvT tt σ k h b) : EvT (tNot tt) σ k h (!b) := fun k1 h1 l Q q => ha k1 h1 l _ fun k2 h2 l2 => q k2 h2 l2
theorem et_and (ha : EvT tt σ k h b) (hb : b = true → EvT tu σ k h b') : EvT (tAnd tt tu) σ k h (b && b') := fun k1 h1 l Q q => ha k1 h1 l _ fun k2 h2 l2 => by
  cases b with
  | true => exact hb rfl k2 h2 (l.trans l2) Q fun k3 h3 l3 => q k3 h3 (l2.trans l3)
  | false => exact q k2 h2 l2
theorem et_or (ha : EvT tt σ k h b) (hb : b = false → EvT tu σ k h b') : EvT (tOr tt tu) σ k h (b || b') := fun k1 h1 l Q q => ha k1 h1 l _ fun k2 h2 l2 => by
  cases b with
  | false => exact hb rfl k2 h2 (l.trans l2) Q fun k3 h3 l3 => q k3 h3 (l2.trans l3)
  | true => exact q k2 h2 l2
theorem et_is (ha : EvT tt σ k h b) (e : b = b') : EvT tt σ k h b' := e ▸ ha
theorem et_yes : EvT tYes σ k h true := fun k1 h1 l Q q => q k1 h1 l.same
/-! arguments -/
theorem ea_nil : EvA tNil σ k h fun _ _ vs => vs = [] := fun k1 h1 l Q q => q [] k1 h1 l.same rfl
theorem ea_1 (ha : Ev ta σ k h A x) : EvA (tCons ta tNil) σ k h fun k _ vs => ∃ v, vs = [v] ∧ A.rel k v x := fun k1 h1 l Q q =>
  ha k1 h1 l _ fun v k2 h2 l2 r => q [v] k2 h2 l2 ⟨v, rfl, r⟩
theorem ea_2 (ha : Ev ta σ k h A x) (hb : Ev tb σ k h B y) : EvA (tCons ta (tCons tb tNil)) σ k h fun k _ vs => ∃ v u, vs = [v, u] ∧ A.rel k v x ∧ B.rel k u y := fun k1 h1 l Q q =>
  ha k1 h1 l _ fun v k2 h2 l2 r => hb k2 h2 (l.trans l2) _ fun u k3 h3 l3 s => q [v, u] k3 h3 (l2.trans l3) ⟨v, u, rfl, A.mono l3.kk r, s⟩
theorem ea_3 {z : γ} (ha : Ev ta σ k h A x) (hb : Ev tb σ k h B y) (hc : Ev tc σ k h Cc z) : EvA (tCons ta (tCons tb (tCons tc tNil))) σ k h fun k _ vs => ∃ v u w, vs = [v, u, w] ∧ A.rel k v x ∧ B.rel k u y ∧ Cc.rel k w z := fun k1 h1 l Q q =>
  ha k1 h1 l _ fun v k2 h2 l2 r => hb k2 h2 (l.trans l2) _ fun u k3 h3 l3 s => hc k3 h3 ((l.trans l2).trans l3) _ fun w k4 h4 l4 t =>
    q [v, u, w] k4 h4 ((l2.trans l3).trans l4) ⟨v, u, w, rfl, A.mono (l3.kk.trans l4.kk) r, B.mono l4.kk s, t⟩
/-! new lists and tuples -/
theorem ev_nil : Ev (tLst tNil) σ k h (rL A) [] := fun k1 h1 l Q q => ⟨by decide, fun p hp => q (.ref p) _ _ (Le.new l.kh hp (.lst [])) ⟨p, [], rfl, upd_same, .nil⟩⟩
theorem ev_lst1 (ha : Ev ta σ k h A x) : Ev (tLst (tCons ta tNil)) σ k h (rL A) [x] := fun k1 h1 l Q q => ha k1 h1 l _ fun v k2 h2 l2 r => ⟨by show 1 ≤ sizeLine; decide, fun p hp =>
  have n := Le.new l2.kh hp (.lst [v])
  q (.ref p) _ _ (l2.trans n) ⟨p, [v], rfl, upd_same, .cons (A.mono n.kk r) .nil⟩⟩
theorem ev_lst2 {z : α} (ha : Ev ta σ k h A x) (hb : Ev tb σ k h A z) : Ev (tLst (tCons ta (tCons tb tNil))) σ k h (rL A) [x, z] := fun k1 h1 l Q q => ha k1 h1 l _ fun v k2 h2 l2 r =>
  hb k2 h2 (l.trans l2) _ fun u k3 h3 l3 s => ⟨by show 2 ≤ sizeLine; decide, fun p hp =>
  have n := Le.new l3.kh hp (.lst [v, u])
  q (.ref p) _ _ ((l2.trans l3).trans n) ⟨p, [v, u], rfl, upd_same, .cons (A.mono (l3.kk.trans n.kk) r) (.cons (A.mono n.kk s) .nil)⟩⟩
theorem ev_tup (ha : Ev ta σ k h A x) (hb : Ev tb σ k h B y) : Ev (tTup (tCons ta (tCons tb tNil))) σ k h (rP A B) (x, y) := fun k1 h1 l Q q => ha k1 h1 l _ fun v k2 h2 l2 r =>
  hb k2 h2 (l.trans l2) _ fun u k3 h3 l3 s => ⟨by show 2 ≤ sizeLine; decide, fun p hp =>
  have n := Le.new l3.kh hp (.tup [v, u])
  q (.ref p) _ _ ((l2.trans l3).trans n) ⟨p, v, u, rfl, upd_same, A.mono (l3.kk.trans n.kk) r, B.mono n.kk s⟩⟩
theorem ne_ref {v : V} {t : Addr} (h : v = .ref t) : v ≠ .non := fun e => by
  rw [e] at h
  cases h
theorem ne_int {v : V} {t : Int} (h : v = .int t) : v ≠ .non := fun e => by
  rw [e] at h
  cases h
theorem ev_someP {z : α × β} (q : Ev te σ k h (rP A B) z) : Ev te σ k h (rO (rP A B)) (some z) := ev_as q fun _ _ r => ⟨let ⟨_, _, _, h1, _⟩ := r; ne_ref h1, r⟩
theorem ev_someI {z : Int} (q : Ev te σ k h rZ z) : Ev te σ k h (rO rZ) (some z) := ev_as q fun _ v r => ⟨ne_int (show v = .int z from r), r⟩
theorem ev_cat {xs ys : List α} (ha : Ev ta σ k h (rL A) xs) (hb : Ev tb σ k h (rL A) ys) (hz : xs.length + ys.length ≤ 100000) : Ev (tOp rCat ta tb) σ k h (rL A) (xs ++ ys) := fun k1 h1 l Q q =>
  ha k1 h1 l _ fun v k2 h2 l2 ⟨p, vs, ep, hp, pr⟩ => hb k2 h2 (l.trans l2) _ fun u k3 h3 l3 ⟨p', us, ep', hp', pr'⟩ => by
    refine ⟨p, p', vs, us, ep, ep', l3.kh _ _ (l3.kk _ _ hp), l3.kh _ _ hp', ?_, fun r hr => ?_⟩
    · rw [pr_len pr, pr_len pr']
      exact Nat.le_trans hz (by decide)
    · have n := Le.new l3.kh hr (.lst (vs ++ us))
      exact q (.ref r) _ _ ((l2.trans l3).trans n) ⟨r, vs ++ us, rfl, upd_same, pr_app (pair_mono A (l3.kk.trans n.kk) pr) (pair_mono A n.kk pr')⟩
theorem ev_len {xs : List α} (ha : Ev ta σ k h (rL A) xs) : Ev (tCB (fun xs H Q => ∃ p ys, xs = [.ref p] ∧ (SqL K H p ys ∨ SqT K H p ys) ∧ Q (.int ys.length) H) (tCons ta tNil)) σ k h rZ (xs.length : Int) := fun k1 h1 l Q q =>
  ha k1 h1 l _ fun v k2 h2 l2 ⟨p, vs, ep, hp, pr⟩ => ⟨p, vs, by rw [ep], .inl (SqL.of (l2.kh _ _ hp)), q _ k2 h2 l2 (by show V.int _ = V.int _; rw [pr_len pr])⟩
theorem ev_lenQ {xs : List Int} (ha : Ev ta σ k h (rQ K) xs) : Ev (tCB (fun xs H Q => ∃ p ys, xs = [.ref p] ∧ (SqL K H p ys ∨ SqT K H p ys) ∧ Q (.int ys.length) H) (tCons ta tNil)) σ k h rZ (xs.length : Int) := fun k1 h1 l Q q =>
  ha k1 h1 l _ fun v k2 h2 l2 r => by
    obtain ⟨p, ep, hp⟩ := (rQ K).mono l2.kh r
    exact ⟨p, _, by rw [ep], .inl hp, q _ k2 h2 l2 (by show V.int _ = V.int _; rw [List.length_map])⟩
theorem ev_abs {n : Int} (ha : Ev ta σ k h rZ n) : Ev (tCB (fun xs H Q => ∃ i, xs = [.int i] ∧ Q (.int (if i < 0 then -i else i)) H) (tCons ta tNil)) σ k h rZ (if n < 0 then -n else n) := fun k1 h1 l Q q =>
  ha k1 h1 l _ fun v k2 h2 l2 r => ⟨n, by rw [show v = .int n from r], q _ k2 h2 l2 rfl⟩
theorem ev_min {xs : List Int} {z : Int} (ha : Ev ta σ k h (rL rZ) xs) (hne : 0 < xs.length) (hz : ∀ m, m ∈ xs → (∀ y, y ∈ xs → m ≤ y) → m = z) : Ev (tCB (rMin K) (tCons ta tNil)) σ k h rZ z := fun k1 h1 l Q q =>
  ha k1 h1 l _ fun v k2 h2 l2 ⟨p, vs, ep, hp, pr⟩ => ⟨p, xs, by rw [ep], by rw [← pr_ints pr]; exact SqL.of (l2.kh _ _ hp), hne, fun m h1 h2' => q _ k2 h2 l2 (by show V.int _ = V.int _; rw [hz m h1 h2'])⟩
theorem ev_all {xs : List Bool} (ha : Ev ta σ k h (rL rB) xs) : Ev (tCB (rAll K) (tCons ta tNil)) σ k h rB (xs.all id) := fun k1 h1 l Q q =>
  ha k1 h1 l _ fun v k2 h2 l2 ⟨p, vs, ep, hp, pr⟩ => ⟨p, xs, by rw [ep], by rw [← pr_bls pr]; exact SqL.of (l2.kh _ _ hp), q _ k2 h2 l2 rfl⟩
theorem ev_in {xs : List Int} {n : Int} (ha : Ev ta σ k h rZ n) (hb : Ev tb σ k h (rL rZ) xs) : Ev (tOp (rIn K false) ta tb) σ k h rB (inV (.int n) (xs.map V.int)) := fun k1 h1 l Q q =>
  ha k1 h1 l _ fun v k2 h2 l2 r => hb k2 h2 (l.trans l2) _ fun u k3 h3 l3 ⟨p, vs, ep, hp, pr⟩ => by
    have ev := pr_ints pr
    subst ev
    refine ⟨p, _, ep, .inl (SqL.of (l3.kh _ _ hp)), by rw [show v = .int n from r]; rfl, by rw [List.all_map]; exact List.all_eq_true.mpr fun _ _ => rfl, ?_⟩
    rw [show v = .int n from r]
    exact q _ k3 h3 (l2.trans l3) rfl
/-! slices -/
theorem cut_vs (vs : List V) (i j : Nat) (hi : i ≤ vs.length) (hj : j ≤ vs.length) : cutV vs (some (i : Int)) (some (j : Int)) = (vs.drop i).take (j - i) := by
  unfold cutV
  rw [HT.sIx_nat, HT.sIx_nat, Nat.min_eq_left hi, Nat.min_eq_left hj]
theorem ev_cut {xs : List α} {i j : Nat} {m n : Int} (ha : Ev ta σ k h (rL A) xs) (hl : Ev tb σ k h rZ m) (hu : Ev tc σ k h rZ n) (em : m = (i : Int)) (en : n = (j : Int)) (hi : i ≤ xs.length) (hj : j ≤ xs.length) :
    Ev (tSl (rSlL K) ta (tPart tb) (tPart tc)) σ k h (rL A) ((xs.drop i).take (j - i)) := fun k1 h1 l Q q =>
  ha k1 h1 l _ fun v k2 h2 l2 ⟨p, vs, ep, hp, pr⟩ => hl k2 h2 (l.trans l2) _ fun u k3 h3 l3 s => ⟨m, s, hu k3 h3 ((l.trans l2).trans l3) _ fun w k4 h4 l4 t => ⟨n, t, p, vs, ep, SqL.of (l4.kh _ _ (l4.kk _ _ (l3.kk _ _ hp))), fun r hr => by
    rw [em, en, cut_vs vs i j (by rw [pr_len pr]; exact hi) (by rw [pr_len pr]; exact hj)]
    have n' := Le.new l4.kh hr (.lst ((vs.drop i).take (j - i)))
    refine q (.ref r) _ _ (((l2.trans l3).trans l4).trans n') ⟨r, _, rfl, upd_same, ?_⟩
    exact pr_take _ (pr_drop _ (pair_mono A (((l3.kk.trans l4.kk)).trans n'.kk) pr))⟩⟩
theorem ev_cutL {xs : List α} {j : Nat} {n : Int} (ha : Ev ta σ k h (rL A) xs) (hu : Ev tc σ k h rZ n) (en : n = (j : Int)) : Ev (tSl (rSlL K) ta tNoPart (tPart tc)) σ k h (rL A) (xs.take j) := fun k1 h1 l Q q =>
  ha k1 h1 l _ fun v k2 h2 l2 ⟨p, vs, ep, hp, pr⟩ => hu k2 h2 (l.trans l2) _ fun w k4 h4 l4 t => ⟨n, t, p, vs, ep, SqL.of (l4.kh _ _ (l4.kk _ _ hp)), fun r hr => by
    have e : cutV vs none (some n) = vs.take j := by
      unfold cutV
      rw [en, HT.sIx_nat, HT.sIx_none, List.drop_zero, Nat.sub_zero]
      apply List.ext_getElem?
      intro m
      rw [List.getElem?_take, List.getElem?_take]
      by_cases c : m < vs.length
      · by_cases d : m < j
        · rw [if_pos (by omega), if_pos d]
        · rw [if_neg (by omega), if_neg d]
      · rw [List.getElem?_eq_none (by omega)]
        split <;> split <;> rfl
    rw [e]
    have n' := Le.new l4.kh hr (.lst (vs.take j))
    refine q (.ref r) _ _ ((l2.trans l4).trans n') ⟨r, _, rfl, upd_same, ?_⟩
    exact pr_take _ (pair_mono A (l4.kk.trans n'.kk) pr)⟩
theorem ev_cutR {xs : List α} {i : Nat} {m : Int} (ha : Ev ta σ k h (rL A) xs) (hl : Ev tb σ k h rZ m) (em : m = (i : Int)) (hi : i ≤ xs.length) : Ev (tSl (rSlL K) ta (tPart tb) tNoPart) σ k h (rL A) (xs.drop i) := fun k1 h1 l Q q =>
  ha k1 h1 l _ fun v k2 h2 l2 ⟨p, vs, ep, hp, pr⟩ => hl k2 h2 (l.trans l2) _ fun w k4 h4 l4 t => ⟨m, t, p, vs, ep, SqL.of (l4.kh _ _ (l4.kk _ _ hp)), fun r hr => by
    have e : cutV vs (some m) none = vs.drop i := by
      unfold cutV
      have hv := pr_len pr
      rw [em, HT.sIx_nat, HT.sIx_none, Nat.min_eq_left (by omega)]
      exact List.take_of_length_le (by rw [List.length_drop]; omega)
    rw [e]
    have n' := Le.new l4.kh hr (.lst (vs.drop i))
    refine q (.ref r) _ _ ((l2.trans l4).trans n') ⟨r, _, rfl, upd_same, ?_⟩
    exact pr_drop _ (pair_mono A (l4.kk.trans n'.kk) pr)⟩
theorem ev_cutQ {xs : List Int} {i j : Nat} {m n : Int} (ha : Ev ta σ k h (rQ K) xs) (hl : Ev tb σ k h rZ m) (hu : Ev tc σ k h rZ n) (em : m = (i : Int)) (en : n = (j : Int)) (hi : i ≤ xs.length) (hj : j ≤ xs.length) :
    Ev (tSl (rSlL K) ta (tPart tb) (tPart tc)) σ k h (rL rZ) ((xs.drop i).take (j - i)) := fun k1 h1 l Q q =>
  ha k1 h1 l _ fun v k2 h2 l2 r0 => hl k2 h2 (l.trans l2) _ fun u k3 h3 l3 s => ⟨m, s, hu k3 h3 ((l.trans l2).trans l3) _ fun w k4 h4 l4 t => by
    obtain ⟨p, ep, hp⟩ := (rQ K).mono ((l3.kk.trans l4.kk).trans l4.kh) r0
    refine ⟨n, t, p, _, ep, hp, fun r hr => ?_⟩
    have n' := Le.new l4.kh hr (.lst (cutV (xs.map V.int) (some m) (some n)))
    refine q (.ref r) _ _ (((l2.trans l3).trans l4).trans n') ⟨r, _, rfl, upd_same, ?_⟩
    rw [em, en, cut_vs _ i j (by rw [List.length_map]; exact hi) (by rw [List.length_map]; exact hj), ← List.map_drop, ← List.map_take]
    exact ints_pr _⟩
/-! a field -/
theorem ev_fld {a C dx : Addr} {fs : List (Str × V)} {f : Str} (s : σ[i]? = some (some (.ref a))) (ho : h a = some (.ins C dx fs)) (hc : Cls K C) (hn : NoAttr K C f) (hl : fs.lookup f = some v) (r : A.rel k v x) : Ev (tFld K (tVar i) f) σ k h A x := fun k1 h1 l Q q =>
  ⟨_, s, a, C, dx, fs, v, rfl, l.hh _ _ ho, hc, hn, hl, q v k1 h1 l.same (A.mono l.kk r)⟩
end
end FW
/-! The layer: comprehensions, statements, loops, calls -/
namespace FW
open PySem PySem.Spec PyProof.Rows L2
/-! ### comprehensions -/
def Cw {β : Type} (B : Rp β) (k1 h1 : Hp) (D : Addr) (ys : List β) (H : Hp) : Prop := ∃ k', Le k1 h1 k' H ∧ k' D = none ∧ ∃ acc, H D = some (.lst acc) ∧ acc.length < 100000 ∧ Paired (B.rel k') acc ys
section
variable {α β γ : Type} {A : Rp α} {B : Rp β} {Cc : Rp γ} {σ : L2.St} {k h k' h' : Hp} {te ta tb tc tl : TE} {tt tu : TT} {x : α} {y : β} {i : Nat} {v : V} {K : PySem.W.Frag} {b b' : Bool}
theorem cw_start {D : Addr} (w : Ex k h) (hD : h D = none) : Cw B k h D [] (upd h D (.lst [])) :=
  ⟨k, Le.newh w hD _, w.none hD, [], upd_same, by decide, .nil⟩
theorem cw_end {D : Addr} {ys : List β} {H : Hp} {Q : VK} (hD : h D = none) (c : Cw B k h D ys H) (q : ∀ v k2 h2, Le k h k2 h2 → (rL B).rel k2 v ys → Q v h2) : Q (.ref D) H := by
  obtain ⟨k', l, kD, acc, hacc, hz, pr⟩ := c
  exact q _ _ _ (l.fix hD hacc) ⟨D, acc, rfl, upd_same, pair_mono B ((Ex.refl k').upd kD _) pr⟩
theorem cw_turn {D : Addr} {ys : List β} {H : Hp} {σ2 : L2.St} (hD : h D = none) (c : Cw B k h D ys H) (hn : ys.length < 90000) (ht : ∀ k' h', Le k h k' h' → EvT tt σ2 k' h' b) (he : ∀ k' h', Le k h k' h' → b = true → Ev te σ2 k' h' B y) :
    tt σ2 H fun b' H3 => if b' = true then te σ2 H3 fun z H4 => ∃ acc, H4 D = some (.lst acc) ∧ acc.length < sizeLine ∧ Cw B k h D (if b = true then ys ++ [y] else ys) (upd H4 D (.lst (acc ++ [z]))) else Cw B k h D (if b = true then ys ++ [y] else ys) H3 := by
  obtain ⟨k', l, kD, acc, hacc, hz, pr⟩ := c
  refine ht k' H l k' H l.same _ fun k2 h2 l2 => ?_
  have kD2 : k2 D = none := l2.unk kD hacc
  have hacc2 := l2.hh _ _ hacc
  cases b with
  | true =>
    rw [if_pos rfl]
    refine he k2 h2 (l.trans l2) rfl k2 h2 l2.same _ fun z k3 h3 l3 r => ?_
    have kD3 : k3 D = none := l3.unk kD2 hacc2
    have hlen := pr_len pr
    refine ⟨acc, l3.hh _ _ hacc2, Nat.lt_of_lt_of_le hz (by decide), ?_⟩
    rw [if_pos rfl]
    refine ⟨k3, ((l.trans l2).trans l3).put hD kD3 _, kD3, acc ++ [z], upd_same, ?_, pr_app (pair_mono B (l2.kk.trans l3.kk) pr) (.cons r .nil)⟩
    rw [List.length_append]
    show acc.length + 1 < 100000
    omega
  | false =>
    rw [if_neg Bool.false_ne_true, if_neg Bool.false_ne_true]
    exact ⟨k2, l.trans l2, kD2, acc, hacc2, hz, pair_mono B l2.kk pr⟩
theorem take_more {α : Type} : ∀ {l : List α} {i : Nat} {x : α}, l[i]? = some x → l.take (i + 1) = l.take i ++ [x]
  | [], i, x, h => by simp at h
  | a :: l, 0, x, h => by
    have e : a = x := Option.some.inj h
    subst e
    rfl
  | a :: l, i + 1, x, h => by
    have ih := take_more (l := l) (i := i) (x := x) h
    show a :: l.take (i + 1) = a :: l.take i ++ [x]
    rw [ih]
    rfl
theorem fm_more {l : List α} {i : Nat} {x : α} (p : α → Bool) (f : α → β) (h : l[i]? = some x) : ((l.take (i + 1)).filter p).map f = if p x = true then ((l.take i).filter p).map f ++ [f x] else ((l.take i).filter p).map f := by
  rw [take_more h, List.filter_append, List.map_append]
  cases hp : p x with
  | true => rw [if_pos rfl, List.filter_cons, if_pos hp]; rfl
  | false => rw [if_neg Bool.false_ne_true, List.filter_cons, if_neg (by rw [hp]; decide)]; simp
theorem fm_len (l : List α) (i : Nat) (p : α → Bool) (f : α → β) : (((l.take i).filter p).map f).length ≤ l.length := by
  rw [List.length_map]
  refine Nat.le_trans (List.length_filter_le ..) ?_
  rw [List.length_take]
  exact Nat.min_le_right ..
/-- a name as the target -/
theorem ev_lc {c : Nat} {vs : List Nat} {xs : List α} (p : α → Bool) (f : α → β) (hl : Ev tl σ k h (rL A) xs) (hz : xs.length ≤ 40000) (hw : ∀ v, wipe ((wipe σ vs).set c (some v)) vs = wipe σ vs)
    (ht : ∀ x v k' h', x ∈ xs → Le k h k' h' → A.rel k' v x → EvT tt ((wipe σ vs).set c (some v)) k' h' (p x)) (he : ∀ x v k' h', x ∈ xs → Le k h k' h' → A.rel k' v x → p x = true → Ev te ((wipe σ vs).set c (some v)) k' h' B (f x)) :
    Ev (tLc (iList K tl) (gName c) tt te vs) σ k h (rL B) ((xs.filter p).map f) := fun k1 h1 l Q q => hl k1 h1 l _ fun v k2 h2 l2 ⟨a, us, ea, ha, pr⟩ => ⟨a, ea, ⟨us, SqL.of (l2.kh _ _ ha)⟩, fun D hD =>
  lc_list (K := K) (xs := us) (fun i H => Cw B k2 h2 D (((xs.take i).filter p).map f) H) (cw_start l2.kh hD) (fun i H _ ⟨k', l', _⟩ => SqL.of (l'.kh _ _ (l'.kk _ _ ha))) (fun i u H hu cw => by
    have hlen := pr_len pr
    have hi : i < us.length := (List.getElem?_eq_some_iff.mp hu).1
    obtain ⟨x, hx⟩ : ∃ x, xs[i]? = some x := ⟨_, List.getElem?_eq_getElem (by omega)⟩
    obtain ⟨u', hu', r⟩ := pr_get pr hx
    rw [hu] at hu'
    cases hu'
    have hm : x ∈ xs := List.mem_of_getElem? hx
    refine ⟨hw u, ?_⟩
    have t := cw_turn (σ2 := (wipe σ vs).set c (some u)) (b := p x) (y := f x) hD cw (by have := fm_len xs i p f; omega) (fun k' h' e => ht x u k' h' hm ((l.trans l2).trans e) (A.mono e.kk r)) (fun k' h' e hp => he x u k' h' hm ((l.trans l2).trans e) (A.mono e.kk r) hp)
    rw [← fm_more p f hx] at t
    exact t) (fun H cw => by
    have hlen := pr_len pr
    rw [hlen, List.take_length] at cw
    exact cw_end hD cw fun v k3 h3 l3 r => q v k3 h3 (l2.trans l3) r)⟩
/-- a pair as the target -/
theorem ev_lcP {α' : Type} {A' : Rp α'} {c d : Nat} {vs : List Nat} {xs : List (α × α')} (p : α × α' → Bool) (f : α × α' → β) (hl : Ev tl σ k h (rL (rP A A')) xs) (hz : xs.length ≤ 40000) (hw : ∀ v u, wipe (((wipe σ vs).set c (some v)).set d (some u)) vs = wipe σ vs)
    (ht : ∀ x v u k' h', x ∈ xs → Le k h k' h' → A.rel k' v x.1 → A'.rel k' u x.2 → EvT tt (((wipe σ vs).set c (some v)).set d (some u)) k' h' (p x))
    (he : ∀ x v u k' h', x ∈ xs → Le k h k' h' → A.rel k' v x.1 → A'.rel k' u x.2 → p x = true → Ev te (((wipe σ vs).set c (some v)).set d (some u)) k' h' B (f x)) :
    Ev (tLc (iList K tl) (gTup K 2 (gCons (gName c) (gCons (gName d) gNil))) tt te vs) σ k h (rL B) ((xs.filter p).map f) := fun k1 h1 l Q q => hl k1 h1 l _ fun v k2 h2 l2 ⟨a, us, ea, ha, pr⟩ => ⟨a, ea, ⟨us, SqL.of (l2.kh _ _ ha)⟩, fun D hD =>
  lc_list (K := K) (xs := us) (fun i H => Cw B k2 h2 D (((xs.take i).filter p).map f) H) (cw_start l2.kh hD) (fun i H _ ⟨k', l', _⟩ => SqL.of (l'.kh _ _ (l'.kk _ _ ha))) (fun i u H hu cw => by
    have hlen := pr_len pr
    have hi : i < us.length := (List.getElem?_eq_some_iff.mp hu).1
    obtain ⟨x, hx⟩ : ∃ x, xs[i]? = some x := ⟨_, List.getElem?_eq_getElem (by omega)⟩
    obtain ⟨u', hu', r⟩ := pr_get pr hx
    rw [hu] at hu'
    cases hu'
    have hm : x ∈ xs := List.mem_of_getElem? hx
    obtain ⟨t0, a0, b0, et, htt, ra, rb⟩ := r
    obtain ⟨k', l', cwr⟩ := id cw
    refine ⟨t0, [a0, b0], et, SqT.of (l'.kh _ _ (l'.kk _ _ htt)), rfl, a0, [b0], rfl, b0, [], rfl, rfl, hw a0 b0, ?_⟩
    have t := cw_turn (σ2 := ((wipe σ vs).set c (some a0)).set d (some b0)) (b := p x) (y := f x) hD cw (by have := fm_len xs i p f; omega) (fun k' h' e => ht x a0 b0 k' h' hm ((l.trans l2).trans e) (A.mono e.kk ra) (A'.mono e.kk rb)) (fun k' h' e hp => he x a0 b0 k' h' hm ((l.trans l2).trans e) (A.mono e.kk ra) (A'.mono e.kk rb) hp)
    rw [← fm_more p f hx] at t
    exact t) (fun H cw => by
    have hlen := pr_len pr
    rw [hlen, List.take_length] at cw
    exact cw_end hD cw fun v k3 h3 l3 r => q v k3 h3 (l2.trans l3) r)⟩
/-- over range(n) -/
theorem ev_lcR {c : Nat} {vs : List Nat} {n : Nat} {ta : TA} (f : Nat → β) (hl : EvA ta σ k h fun _ _ vs => vs = [.int (n : Int)]) (hz : n ≤ 40000) (hw : ∀ v, wipe ((wipe σ vs).set c (some v)) vs = wipe σ vs)
    (he : ∀ i k' h', i < n → Le k h k' h' → Ev te ((wipe σ vs).set c (some (.int (i : Int)))) k' h' B (f i)) :
    Ev (tLc (iRng1 ta) (gName c) tYes te vs) σ k h (rL B) ((List.range n).map f) := fun k1 h1 l Q q => hl k1 h1 l _ fun us k2 h2 l2 eu => ⟨(n : Int), eu, by omega, by omega, fun D hD =>
  lc_range (lo := 0) (n := (n : Int).toNat) (fun i H => i ≤ n ∧ Cw B k2 h2 D ((List.range i).map f) H) ⟨Nat.zero_le _, cw_start l2.kh hD⟩ (fun i H hi ⟨_, cw⟩ => by
    have hi' : i < n := by omega
    have e0 : (0 : Int) + (i : Int) = (i : Int) := Int.zero_add _
    rw [e0]
    refine ⟨hw _, ?_⟩
    unfold tYes
    dsimp only []
    rw [if_pos rfl]
    obtain ⟨k', l', kD, acc, hacc, hz', pr⟩ := cw
    refine he i k' H hi' ((l.trans l2).trans l') k' H l'.same _ fun z k3 h3 l3 r => ?_
    have kD3 : k3 D = none := l3.unk kD hacc
    have hlen := pr_len pr
    rw [List.length_map, List.length_range] at hlen
    refine ⟨acc, l3.hh _ _ hacc, Nat.lt_of_lt_of_le hz' (by decide), hi', k3, (l'.trans l3).put hD kD3 _, kD3, acc ++ [z], upd_same, ?_, ?_⟩
    · rw [List.length_append]
      show acc.length + 1 < 100000
      omega
    · rw [List.range_succ, List.map_append]
      exact pr_app (pair_mono B l3.kk pr) (.cons r .nil)) (fun H ⟨_, cw⟩ => by
    rw [Int.toNat_natCast] at cw
    exact cw_end hD cw fun v k3 h3 l3 r => q v k3 h3 (l2.trans l3) r)⟩
end
section
variable {α α' β : Type} {A : Rp α} {A' : Rp α'} {B : Rp β} {σ : L2.St} {k h : Hp} {te tl : TE} {K : PySem.W.Frag}
theorem ev_lcM {c : Nat} {vs : List Nat} {xs : List α} (f : α → β) (hl : Ev tl σ k h (rL A) xs) (hz : xs.length ≤ 40000) (hw : ∀ v, wipe ((wipe σ vs).set c (some v)) vs = wipe σ vs)
    (he : ∀ x v k' h', x ∈ xs → Le k h k' h' → A.rel k' v x → Ev te ((wipe σ vs).set c (some v)) k' h' B (f x)) : Ev (tLc (iList K tl) (gName c) tYes te vs) σ k h (rL B) (xs.map f) :=
  ev_is (ev_lc (fun _ => true) f hl hz hw (fun _ _ _ _ _ _ _ => et_yes) fun x v k' h' hx l r _ => he x v k' h' hx l r) (by rw [List.filter_eq_self.mpr fun _ _ => rfl])
theorem ev_lcPM {c d : Nat} {vs : List Nat} {xs : List (α × α')} (f : α × α' → β) (hl : Ev tl σ k h (rL (rP A A')) xs) (hz : xs.length ≤ 40000) (hw : ∀ v u, wipe (((wipe σ vs).set c (some v)).set d (some u)) vs = wipe σ vs)
    (he : ∀ x v u k' h', x ∈ xs → Le k h k' h' → A.rel k' v x.1 → A'.rel k' u x.2 → Ev te (((wipe σ vs).set c (some v)).set d (some u)) k' h' B (f x)) :
    Ev (tLc (iList K tl) (gTup K 2 (gCons (gName c) (gCons (gName d) gNil))) tYes te vs) σ k h (rL B) (xs.map f) :=
  ev_is (ev_lcP (fun _ => true) f hl hz hw (fun _ _ _ _ _ _ _ _ _ => et_yes) fun x v u k' h' hx l r s _ => he x v u k' h' hx l r s) (by rw [List.filter_eq_self.mpr fun _ _ => rfl])
end
/-! ### statements -/
section
variable {α β γ : Type} {A : Rp α} {B : Rp β} {Cc : Rp γ} {σ : L2.St} {k h k' h' : Hp} {te ta tb tc tl : TE} {tt : TT} {x : α} {y : β} {i j : Nat} {v : V} {K : PySem.W.Frag} {b b' : Bool} {D : Ends} {t u tz : TS} {g : TG}
theorem s_ret (he : Ev te σ k h A x) (w : Ex k h) (q : ∀ v k2 h2, Le k h k2 h2 → A.rel k2 v x → D.rt v h2) : tRet te D σ h := he k h (Le.refl w) _ q
theorem s_asg (he : Ev te σ k h A x) (w : Ex k h) (q : ∀ v k2 h2, Le k h k2 h2 → A.rel k2 v x → D.nx (σ.set i (some v)) h2) : tAsg te (gName i) D σ h := he k h (Le.refl w) _ q
theorem q_asg (he : Ev te σ k h A x) (w : Ex k h) (q : ∀ v k2 h2, Le k h k2 h2 → A.rel k2 v x → tz D (σ.set i (some v)) h2) : tSeq (tAsg te (gName i)) tz D σ h := he k h (Le.refl w) _ q
/-- name = an int -/
theorem q_asgI {n : Int} (he : Ev te σ k h rZ n) (w : Ex k h) (q : ∀ k2 h2, Le k h k2 h2 → tz D (σ.set i (some (.int n))) h2) : tSeq (tAsg te (gName i)) tz D σ h := he k h (Le.refl w) _ fun v k2 h2 l r => by
  rw [show v = .int n from r]
  exact q k2 h2 l
theorem s_asgI {n : Int} (he : Ev te σ k h rZ n) (w : Ex k h) (q : ∀ k2 h2, Le k h k2 h2 → D.nx (σ.set i (some (.int n))) h2) : tAsg te (gName i) D σ h := he k h (Le.refl w) _ fun v k2 h2 l r => by
  rw [show v = .int n from r]
  exact q k2 h2 l
theorem s_if (ht : EvT tt σ k h b) (w : Ex k h) (h1 : b = true → ∀ k2 h2, Le k h k2 h2 → t D σ h2) (h2 : b = false → ∀ k2 h2, Le k h k2 h2 → u D σ h2) : tIfS tt t u D σ h := ht k h (Le.refl w) _ fun k2 h2' l => by
  cases b with
  | true => exact h1 rfl k2 h2' l
  | false => exact h2 rfl k2 h2' l
/-- found = [] -/
theorem q_new (q : ∀ p, h p = none → tz D (σ.set i (some (.ref p))) (upd h p (.lst []))) : tSeq (tAsg (tLst tNil) (gName i)) tz D σ h := ⟨by decide, fun p hp => q p hp⟩
theorem s_app {p : Addr} {acc : List V} (hp : h p = some (.lst acc)) (hs : σ[j]? = some (some (.ref p))) (he : Ev te σ k h A x) (w : Ex k h) (hz : acc.length < 100000) (q : ∀ v k2 h2, Le k h k2 h2 → A.rel k2 v x → D.nx σ (upd h2 p (.lst (acc ++ [v])))) :
    tDrop (tBM K "list" rAppend (tVar j) (tCons te tNil)) D σ h :=
  ⟨_, hs, .inl ⟨rfl, _, SqL.of hp⟩, he k h (Le.refl w) _ fun v k2 h2 l r => ⟨p, acc, v, rfl, rfl, l.hh _ _ hp, Nat.lt_of_lt_of_le hz (by decide), q v k2 h2 l r⟩⟩
theorem q_app {p : Addr} {acc : List V} (hp : h p = some (.lst acc)) (hs : σ[j]? = some (some (.ref p))) (he : Ev te σ k h A x) (w : Ex k h) (hz : acc.length < 100000) (q : ∀ v k2 h2, Le k h k2 h2 → A.rel k2 v x → tz D σ (upd h2 p (.lst (acc ++ [v])))) :
    tSeq (tDrop (tBM K "list" rAppend (tVar j) (tCons te tNil))) tz D σ h := s_app (D := { D with nx := tz D }) hp hs he w hz q
def Nx (I : L2.St → Hp → Hp → Prop) : L2.St → Hp → Prop := fun σ h => ∃ k, I σ k h
/-- for .. in a name that holds a list -/
theorem s_for {xs : List α} (hv : σ[j]? = some (some v)) (hr : (rL A).rel k v xs) (I : Nat → L2.St → Hp → Hp → Prop) (h0 : I 0 σ k h) (hk : ∀ i σ' k' h', I i σ' k' h' → Ex k k' ∧ Ex k' h')
    (hs : ∀ i x v σ' k' h', xs[i]? = some x → I i σ' k' h' → A.rel k' v x → g v σ' h' fun σ2 h2 => t { D with nx := Nx (I (i + 1)), ct := Nx (I (i + 1)), bk := D.nx } σ2 h2)
    (hd : ∀ σ' k' h', I xs.length σ' k' h' → D.nx σ' h') : tFor (iList K (tVar j)) g t D σ h := by
  obtain ⟨a, us, ea, ha, pr⟩ := hr
  have hlen := pr_len pr
  have w := hk _ _ _ _ h0
  refine ⟨v, hv, a, ea, ⟨us, SqL.of (w.2 _ _ ha)⟩, ?_⟩
  refine for_list (K := K) (a := a) (xs := us) (fun i σ' h' => ∃ k', I i σ' k' h') ⟨k, h0⟩ (fun i σ' h' _ ⟨k', hI⟩ => SqL.of ((hk _ _ _ _ hI).2 _ _ ((hk _ _ _ _ hI).1 _ _ ha))) (fun i u σ' h' hu ⟨k', hI⟩ => ?_) (fun σ' h' ⟨k', hI⟩ => hd σ' k' h' (hlen ▸ hI))
  have hi : i < us.length := (List.getElem?_eq_some_iff.mp hu).1
  obtain ⟨x, hx⟩ : ∃ x, xs[i]? = some x := ⟨_, List.getElem?_eq_getElem (by omega)⟩
  obtain ⟨u', hu', r⟩ := pr_get pr hx
  rw [hu] at hu'
  cases hu'
  exact hs i x u σ' k' h' hx hI (A.mono (hk _ _ _ _ hI).1 r)
theorem g_pair {A' : Rp β} {z : α × β} {c d : Nat} {Q : L2.St → Hp → Prop} (r : (rP A A').rel k v z) (w : Ex k h) (q : ∀ a b, A.rel k a z.1 → A'.rel k b z.2 → Q ((σ.set c (some a)).set d (some b)) h) :
    gTup K 2 (gCons (gName c) (gCons (gName d) gNil)) v σ h Q := by
  obtain ⟨t0, a0, b0, et, htt, ra, rb⟩ := r
  exact ⟨t0, [a0, b0], et, SqT.of (w _ _ htt), rfl, a0, [b0], rfl, b0, [], rfl, rfl, q a0 b0 ra rb⟩
theorem g_ii {z : Int × Int} {c d : Nat} {Q : L2.St → Hp → Prop} (r : (rP rZ rZ).rel k v z) (w : Ex k h) (q : Q ((σ.set c (some (.int z.1))).set d (some (.int z.2))) h) :
    gTup K 2 (gCons (gName c) (gCons (gName d) gNil)) v σ h Q := g_pair r w fun a b ra rb => by
  rw [show a = .int z.1 from ra, show b = .int z.2 from rb]
  exact q
/-- for c in range(lo, hi) -/
theorem s_forR2 {ta : TA} {c : Nat} {lo hi : Int} {n : Nat} (hl : EvA ta σ k h fun _ _ vs => vs = [.int lo, .int hi]) (w : Ex k h) (hb : -100000 ≤ lo ∧ lo ≤ 100000 ∧ -100000 ≤ hi ∧ hi ≤ 100000) (hn : (hi - lo).toNat = n) (I : Nat → L2.St → Hp → Hp → Prop) (h0 : ∀ k2 h2, Le k h k2 h2 → I 0 σ k2 h2)
    (hs : ∀ i σ' k' h', i < n → I i σ' k' h' → t { D with nx := Nx (I (i + 1)), ct := Nx (I (i + 1)), bk := D.nx } (σ'.set c (some (.int (lo + (i : Int))))) h')
    (hd : ∀ σ' k' h', I n σ' k' h' → D.nx σ' h') : tFor (iRng2 ta) (gName c) t D σ h := hl k h (Le.refl w) _ fun vs k2 h2 l e => ⟨lo, hi, e, by omega, by
  rw [hn]
  exact for_range (lo := lo) (n := n) (fun i σ' h' => ∃ k', I i σ' k' h') ⟨k2, h0 k2 h2 l⟩ (fun i σ' h' hi ⟨k', hI⟩ => hs i σ' k' h' hi hI) (fun σ' h' ⟨k', hI⟩ => hd σ' k' h' hI)⟩
/-- for c in range(n) -/
theorem s_forR1 {ta : TA} {c : Nat} {m : Int} {n : Nat} (hl : EvA ta σ k h fun _ _ vs => vs = [.int m]) (w : Ex k h) (hb : -100000 ≤ m ∧ m ≤ 100000) (hn : m.toNat = n) (I : Nat → L2.St → Hp → Hp → Prop) (h0 : ∀ k2 h2, Le k h k2 h2 → I 0 σ k2 h2)
    (hs : ∀ i σ' k' h', i < n → I i σ' k' h' → t { D with nx := Nx (I (i + 1)), ct := Nx (I (i + 1)), bk := D.nx } (σ'.set c (some (.int (i : Int)))) h')
    (hd : ∀ σ' k' h', I n σ' k' h' → D.nx σ' h') : tFor (iRng1 ta) (gName c) t D σ h := hl k h (Le.refl w) _ fun vs k2 h2 l e => ⟨m, e, by omega, by omega, by
  rw [hn]
  exact for_range (lo := 0) (n := n) (fun i σ' h' => ∃ k', I i σ' k' h') ⟨k2, h0 k2 h2 l⟩ (fun i σ' h' hi ⟨k', hI⟩ => by
    have q := hs i σ' k' h' hi hI
    show t _ (σ'.set c (some (.int (0 + (i : Int))))) h'
    rw [Int.zero_add]
    exact q) (fun σ' h' ⟨k', hI⟩ => hd σ' k' h' hI)⟩
/-- for c, d in enumerate(list) -/
theorem s_forE {c d : Nat} {xs : List α} (hl : Ev tl σ k h (rL A) xs) (w : Ex k h) (I : Hp → Hp → Nat → L2.St → Hp → Hp → Prop) (h0 : ∀ k2 h2, Le k h k2 h2 → I k2 h2 0 σ k2 h2) (hk : ∀ k2 h2 i σ' k' h', Le k h k2 h2 → I k2 h2 i σ' k' h' → Ex k2 k' ∧ Ex k' h')
    (hs : ∀ k2 h2 i x v σ' k' h' k3 h3, Le k h k2 h2 → xs[i]? = some x → I k2 h2 i σ' k' h' → Le k' h' k3 h3 → A.rel k3 v x → t { D with nx := Nx (I k2 h2 (i + 1)), ct := Nx (I k2 h2 (i + 1)), bk := D.nx } ((σ'.set c (some (.int (i : Int)))).set d (some v)) h3)
    (hd : ∀ k2 h2 σ' k' h', Le k h k2 h2 → I k2 h2 xs.length σ' k' h' → D.nx σ' h') : tFor (iEnum K (tCons tl tNil)) (gTup K 2 (gCons (gName c) (gCons (gName d) gNil))) t D σ h := hl k h (Le.refl w) _ fun v k2 h2 l ⟨a, us, ea, ha, pr⟩ => by
  have hlen := pr_len pr
  refine ⟨a, us, by rw [ea], SqL.of (l.kh _ _ ha), ?_⟩
  refine ⟨fun i m σ' h' => m = xs.length - i ∧ i ≤ xs.length ∧ ∃ k', I k2 h2 i σ' k' h', ⟨xs.length, by simp, Nat.zero_le _, k2, h0 k2 h2 l⟩, ?_⟩
  rintro i m σ' h' ⟨rfl, hi, k', hI⟩
  have e' := hk _ _ _ _ _ _ l hI
  have hq : SqL K h' a us := SqL.of (e'.2 _ _ (e'.1 _ _ ha))
  by_cases hlt : i < xs.length
  · obtain ⟨x, hx⟩ : ∃ x, xs[i]? = some x := ⟨_, List.getElem?_eq_getElem hlt⟩
    obtain ⟨u, hu, r⟩ := pr_get pr hx
    refine .inr ⟨⟨us, u, hq, hu⟩, Nx (I k2 h2 (i + 1)), fun σ3 h3 ⟨k3, hI3⟩ => ⟨xs.length - (i + 1), by omega, rfl, hlt, k3, hI3⟩, ?_⟩
    rintro y H' ⟨T, z, ey, hT, eH, hz⟩
    have ez : z = u := by
      have := hz us hq
      rw [hu] at this
      exact (Option.some.inj this).symm
    subst ez
    subst eH
    have n := Le.new e'.2 hT (.tup [.int (i : Int), z])
    refine ⟨T, [.int (i : Int), z], ey, SqT.of upd_same, rfl, .int (i : Int), [z], rfl, z, [], rfl, rfl, ?_⟩
    exact hs k2 h2 i x z σ' k' h' _ _ l hx hI n (A.mono (e'.1.trans n.kk) r)
  · have e : i = xs.length := by omega
    subst e
    exact .inl ⟨⟨us, hq, by omega⟩, hd k2 h2 σ' k' h' l hI⟩
end
section
variable {σ : L2.St} {k h : Hp} {ta tb : TE} {m n : Int}
theorem ea_ints1 (ha : Ev ta σ k h rZ m) : EvA (tCons ta tNil) σ k h fun _ _ vs => vs = [.int m] := fun k1 h1 l Q q => ha k1 h1 l _ fun v k2 h2 l2 r => q _ k2 h2 l2 (by rw [show v = .int m from r])
theorem ea_ints2 (ha : Ev ta σ k h rZ m) (hb : Ev tb σ k h rZ n) : EvA (tCons ta (tCons tb tNil)) σ k h fun _ _ vs => vs = [.int m, .int n] := fun k1 h1 l Q q =>
  ha k1 h1 l _ fun v k2 h2 l2 r => hb k2 h2 (l.trans l2) _ fun u k3 h3 l3 s => q _ k3 h3 (l2.trans l3) (by rw [show v = .int m from r, show u = .int n from s])
theorem pe_const {X : Cx} {x : Str} {v : V} {pos : Pos} (hm : ∃ u, X.mg x = some u ∧ RelV v u) (hg : Gl X x := by rfl) (hd : (x == ("__debug__" : Str)) = false := by decide) : PE X (.Name x pos) (tC v) := by
  obtain ⟨u, h, r⟩ := hm
  exact pe_glob hg h r hd
end
/-! ### a list of one's own that grows -/
structure Gr (k H : Hp) (p : Addr) (k' h' : Hp) (acc : List V) : Prop where
  le : Le k H k' h'
  hp : H p = none
  kp : k' p = none
  at_ : h' p = some (.lst acc)
abbrev GrI (k H : Hp) (p : Addr) (k' h' : Hp) (xs : List Int) : Prop := Gr k H p k' h' (xs.map V.int)
section
variable {α β : Type} {A : Rp α} {σ : L2.St} {k h k' h' : Hp} {p : Addr} {acc : List V} {te : TE} {x : α} {K : PySem.W.Frag} {i j : Nat} {D : Ends} {tz : TS}
theorem Gr.new (w : Ex k h) (hp : h p = none) : Gr k h p k (upd h p (.lst [])) [] := ⟨Le.newh w hp _, hp, w.none hp, upd_same⟩
theorem Gr.on {k2 h2 : Hp} (G : Gr k h p k' h' acc) (l : Le k' h' k2 h2) : Gr k h p k2 h2 acc := ⟨G.le.trans l, G.hp, l.unk G.kp G.at_, l.hh _ _ G.at_⟩
theorem Gr.put {k2 h2 : Hp} (G : Gr k h p k' h' acc) (l : Le k' h' k2 h2) (acc2 : List V) : Gr k h p k2 (upd h2 p (.lst acc2)) acc2 :=
  ⟨(G.le.trans l).put G.hp (l.unk G.kp G.at_) _, G.hp, l.unk G.kp G.at_, upd_same⟩
theorem Gr.done (G : Gr k h p k' h' acc) {xs : List α} (r : Paired (A.rel k') acc xs) : Le k h (upd k' p (.lst acc)) h' ∧ (rL A).rel (upd k' p (.lst acc)) (.ref p) xs :=
  ⟨G.le.fix G.hp G.at_, p, acc, rfl, upd_same, pair_mono A ((Ex.refl k').upd G.kp _) r⟩
theorem s_grow (G : Gr k h p k' h' acc) (hs : σ[j]? = some (some (.ref p))) (he : Ev te σ k' h' A x) (hz : acc.length < 90000) (q : ∀ v k2 h2, Gr k h p k2 h2 (acc ++ [v]) → Ex k' k2 → A.rel k2 v x → D.nx σ h2) :
    tDrop (tBM K "list" rAppend (tVar j) (tCons te tNil)) D σ h' := s_app G.at_ hs he G.le.kh (by omega) fun v k2 h2 l r => q v k2 _ (G.put l _) l.kk r
theorem q_grow (G : Gr k h p k' h' acc) (hs : σ[j]? = some (some (.ref p))) (he : Ev te σ k' h' A x) (hz : acc.length < 90000) (q : ∀ v k2 h2, Gr k h p k2 h2 (acc ++ [v]) → Ex k' k2 → A.rel k2 v x → tz D σ h2) :
    tSeq (tDrop (tBM K "list" rAppend (tVar j) (tCons te tNil))) tz D σ h' := s_grow (D := { D with nx := tz D }) G hs he hz q
theorem s_growI {xs : List Int} {n : Int} (G : GrI k h p k' h' xs) (hs : σ[j]? = some (some (.ref p))) (he : Ev te σ k' h' rZ n) (hz : xs.length < 90000) (q : ∀ k2 h2, GrI k h p k2 h2 (xs ++ [n]) → Ex k' k2 → D.nx σ h2) :
    tDrop (tBM K "list" rAppend (tVar j) (tCons te tNil)) D σ h' := s_grow G hs he (by rw [List.length_map]; exact hz) fun v k2 h2 g e r => q k2 h2 (by
      unfold GrI
      rw [List.map_append]
      rw [show v = .int n from r] at g
      exact g) e
theorem q_growI {xs : List Int} {n : Int} (G : GrI k h p k' h' xs) (hs : σ[j]? = some (some (.ref p))) (he : Ev te σ k' h' rZ n) (hz : xs.length < 90000) (q : ∀ k2 h2, GrI k h p k2 h2 (xs ++ [n]) → Ex k' k2 → tz D σ h2) :
    tSeq (tDrop (tBM K "list" rAppend (tVar j) (tCons te tNil))) tz D σ h' := s_growI (D := { D with nx := tz D }) G hs he hz q
/-- return found -/
theorem s_retG {xs : List α} (G : Gr k h p k' h' acc) (hs : σ[j]? = some (some (.ref p))) (r : Paired (A.rel k') acc xs) (q : ∀ v k2 h2, Le k h k2 h2 → (rL A).rel k2 v xs → D.rt v h2) : tRet (tVar j) D σ h' :=
  ⟨_, hs, q _ _ _ (G.done r).1 (G.done r).2⟩
end
/-! ### what a def promises -/
def Sp1 {α ρ : Type} (A : Rp α) (dom : α → Prop) (R : Rp ρ) (f : α → ρ) : Sp := fun vs H Q _ => ∃ k v x, vs = [v] ∧ Ex k H ∧ A.rel k v x ∧ dom x ∧ ∀ u k2 h2, Le k H k2 h2 → R.rel k2 u (f x) → Q u h2
def Sp2 {α β ρ : Type} (A : Rp α) (B : Rp β) (dom : α → β → Prop) (R : Rp ρ) (f : α → β → ρ) : Sp := fun vs H Q _ => ∃ k v u x y, vs = [v, u] ∧ Ex k H ∧ A.rel k v x ∧ B.rel k u y ∧ dom x y ∧ ∀ z k2 h2, Le k H k2 h2 → R.rel k2 z (f x y) → Q z h2
def Sp3 {α β γ ρ : Type} (A : Rp α) (B : Rp β) (C : Rp γ) (dom : α → β → γ → Prop) (R : Rp ρ) (f : α → β → γ → ρ) : Sp := fun vs H Q _ => ∃ k v u w x y z, vs = [v, u, w] ∧ Ex k H ∧ A.rel k v x ∧ B.rel k u y ∧ C.rel k w z ∧ dom x y z ∧
  ∀ q k2 h2, Le k H k2 h2 → R.rel k2 q (f x y z) → Q q h2
section
variable {α β γ ρ : Type} {A : Rp α} {B : Rp β} {C : Rp γ} {R : Rp ρ} {σ : L2.St} {k h : Hp} {ta tb tc : TE} {x : α} {y : β} {z : γ} {E : XK}
theorem ev_call1 {dom : α → Prop} {f : α → ρ} (ha : Ev ta σ k h A x) (hd : dom x) : Ev (tCall (Sp1 A dom R f) [] E (tCons ta tNil)) σ k h R (f x) := fun k1 h1 l Q q =>
  ha k1 h1 l _ fun v k2 h2 l2 r => ⟨k2, v, x, rfl, l2.kh, r, hd, fun u k3 h3 l3 s => q u k3 h3 (l2.trans l3) s⟩
theorem ev_call2 {dom : α → β → Prop} {f : α → β → ρ} (ha : Ev ta σ k h A x) (hb : Ev tb σ k h B y) (hd : dom x y) : Ev (tCall (Sp2 A B dom R f) [] E (tCons ta (tCons tb tNil))) σ k h R (f x y) := fun k1 h1 l Q q =>
  ha k1 h1 l _ fun v k2 h2 l2 r => hb k2 h2 (l.trans l2) _ fun u k3 h3 l3 s => ⟨k3, v, u, x, y, rfl, l3.kh, A.mono l3.kk r, s, hd, fun u k4 h4 l4 t => q u k4 h4 ((l2.trans l3).trans l4) t⟩
theorem ev_call3 {dom : α → β → γ → Prop} {f : α → β → γ → ρ} (ha : Ev ta σ k h A x) (hb : Ev tb σ k h B y) (hc : Ev tc σ k h C z) (hd : dom x y z) : Ev (tCall (Sp3 A B C dom R f) [] E (tCons ta (tCons tb (tCons tc tNil)))) σ k h R (f x y z) := fun k1 h1 l Q q =>
  ha k1 h1 l _ fun v k2 h2 l2 r => hb k2 h2 (l.trans l2) _ fun u k3 h3 l3 s => hc k3 h3 ((l.trans l2).trans l3) _ fun w k4 h4 l4 t =>
    ⟨k4, v, u, w, x, y, z, rfl, l4.kh, A.mono (l3.kk.trans l4.kk) r, B.mono l4.kk s, t, hd, fun u k5 h5 l5 t => q u k5 h5 (((l2.trans l3).trans l4).trans l5) t⟩
end
end FW
/-! The walk: names -/
namespace WK
open PySem PySem.Spec PyProof.Rows L2 FW FS
def top (i : Nat) : Stmt := PySem.Challenge.pw_fewstones_s01_answers.main.body.getD i (.Pass ⟨0, 0, 0, 0⟩)
/-- a def of the top: where it stands, its name, how its arguments come -/
structure Df (K : PySem.W.Frag) (mg : Str → Option Value) (x : Str) (st : Stmt) (ps : List Str) (f : Addr) (fd : FuncData) : Prop where
  fn : Fun K x x st f fd
  g : mg x = some (.ref f)
  b : Binds K fd ps []
abbrev rS : Rp Sh := rL (rP rZ rZ)
abbrev rD : Rp Dv := rP rZ (rL rN)
abbrev rR : Rp Rs := rL (rO rD)
/-- what is not hidden by a name of the module's own -/
structure Tx (mg : Str → Option Value) : Prop where
  len : mg "len" = none
  abs : mg "abs" = none
  min : mg "min" = none
  all : mg "all" = none
  range : mg "range" = none
  enumerate : mg "enumerate" = none
  ve : mg "ValueError" = none
  nothing : ∃ u, mg "NOTHING_LEFT" = some u ∧ RelV (.int 0) u
  noInst : ∃ u, mg "NO_INSTANCE" = some u ∧ RelV (.int (-11)) u
  noShade : ∃ u, mg "NO_SHADE" = some u ∧ RelV (.int (-2)) u
  sameLv : ∃ u, mg "SAME_LEVEL" = some u ∧ RelV (.int (-17)) u
  outR : ∃ u, mg "OUT_OF_RANGE" = some u ∧ RelV (.int (-22)) u
  full : ∃ u, mg "FULL" = some u ∧ RelV (.int (-28)) u
  noCol : ∃ u, mg "NO_COLOURS" = some u ∧ RelV (.int (-33)) u
  bright : ∃ u, mg "BRIGHTEST" = some u ∧ RelV (.int 255) u
  mostT : ∃ u, mg "MOST_TILES" = some u ∧ RelV (.int 999) u
  mostS : ∃ u, mg "MOST_SHADES" = some u ∧ RelV (.int 12) u
  mostC : ∃ u, mg "MOST_COLOURS" = some u ∧ RelV (.int 12) u
  noDiv : ∃ u, mg "NO_DIVISION" = some u ∧ RelV (.int (-1)) u
  withRow : ∃ u, mg "WITH_ROW" = some u ∧ RelV (.int 11) u
def Ok (l : Sh) : Prop := l.length ≤ 12 ∧ ∀ s ∈ l, 1 ≤ s.2 ∧ s.2 ≤ 999
theorem Ok.sub {l m : Sh} (h : Ok l) (s : m.Sublist l) : Ok m := ⟨Nat.le_trans s.length_le h.1, fun x hx => h.2 x (s.subset hx)⟩
end WK
namespace WK
open PySem PySem.Spec PyProof.Rows L2 FW FS
section
variable {P : Program} {w : World} {K : PySem.W.Frag} {mg : Str → Option Value} {base : Heap} {f f1 f2 f3 : Addr} {fd fd1 fd2 fd3 : FuncData}
/-! tiles_of -/
theorem tiles_more {l : Sh} {i : Nat} {x : Int × Int} (h : l[i]? = some x) : tiles (l.take (i + 1)) = tiles (l.take i) + x.2 := by
  unfold tiles
  rw [take_more h, List.foldl_append]
  rfl
abbrev spTiles : Sp := Sp1 rS (fun _ => True) rZ tiles
theorem sc_tiles : FnScope ["shades", "found", "level", "count"] ["shades"] (defScope (top 1)) := ⟨rfl, rfl, rfl, by decide +kernel, rfl, by decide +kernel, by decide +kernel⟩
theorem ok_tiles (F : Df K mg "tiles_of" (top 1) ["shades"] f fd) : FnOk P w K mg base CX0 1 f fd ["shades"] spTiles := by
  refine F.fn.ok sc_tiles (fun vs H Q E h => ?_) (fun cdv A outer s H vs Q E hr h => ?_)
  · obtain ⟨k, v, x, rfl, _⟩ := h
    rfl
  · obtain ⟨k, v, l, rfl, w, r, _, q⟩ := h
    refine ⟨_, pss_cons (ps_set (i := 1) sc_tiles.nd rfl (.inl rfl) pe_int) (pss_cons (ps_for PassesOwn.never rfl (pi_list (pv 0)) (pg_tup rfl (pgs_cons (pg_name (i := 2) sc_tiles.nd rfl (.inl rfl)) (pgs_cons (pg_name (i := 3) sc_tiles.nd rfl (.inl rfl)) pgs_nil)))
      (pss_one (ps_set (i := 1) sc_tiles.nd rfl (.inl rfl) (pe_op op_add (pv 1) (pv 3))))) (pss_one (ps_ret (pv 1)))), ?_⟩
    refine q_asgI (ev_int 0) w fun k1 h1 l1 => ?_
    refine s_for (j := 0) (A := rP rZ rZ) (xs := l) (v := v) rfl (rS.mono l1.kk r) (fun i σ' k' h' => Le k1 h1 k' h' ∧ ∃ a b, σ' = [some v, some (.int (tiles (l.take i))), a, b]) ⟨l1.same, _, _, rfl⟩ (fun i σ' k' h' ⟨e, _⟩ => ⟨e.kk, e.kh⟩) ?_ ?_
    · rintro i x u σ' k' h' hx ⟨e, a, b, rfl⟩ rx
      refine g_ii rx e.kh (s_asgI (ev_add (ev_var rfl rfl) (ev_var rfl rfl)) e.kh fun k2 h2 l2 => ⟨k2, e.trans l2, ?_⟩)
      rw [tiles_more hx]
      exact ⟨_, _, rfl⟩
    · rintro σ' k' h' ⟨e, a, b, rfl⟩
      rw [List.take_length]
      exact s_ret (ev_var rfl rfl) e.kh fun u k2 h2 l2 ru => q u k2 h2 ((l1.trans e).trans l2) ru
/-! has_level -/
theorem inV_has (l : Sh) (lv : Int) : inV (.int lv) ((l.map (·.1)).map V.int) = hasLevel l lv := by
  unfold inV hasLevel
  rw [List.any_map, List.any_map]
  rfl
abbrev spHas : Sp := Sp2 rS rZ (fun l _ => l.length ≤ 12) rB hasLevel
theorem sc_has : FnScope ["shades", "level", "one", "count"] ["shades", "level"] (defScope (top 2)) := ⟨rfl, rfl, rfl, by decide +kernel, rfl, by decide +kernel, by decide +kernel⟩
theorem ok_has (F : Df K mg "has_level" (top 2) ["shades", "level"] f fd) : FnOk P w K mg base CX0 1 f fd ["shades", "level"] spHas := by
  refine F.fn.ok sc_has (fun vs H Q E h => ?_) (fun cdv A outer s H vs Q E hr h => ?_)
  · obtain ⟨k, v, u, x, y, rfl, _⟩ := h
    rfl
  · obtain ⟨k, v, u, l, lv, rfl, w, r, ru, hd, q⟩ := h
    refine ⟨_, pss_one (ps_ret (pe_cmpR op_in_seq (pv 1) (pe_lc (own := [("one", 2), ("count", 3)]) (g := gTup K 2 (gCons (gName 2) (gCons (gName 3) gNil))) (by rfl) sc_has.nd (pi_list (pv 0)) (blkOk_by (own := [("one", 2), ("count", 3)]) (N := ["shades", "level", "one", "count"]) (sc := defScope (top 2)) (by decide +kernel))
      (fun _ _ _ _ _ => by exact (pg_tup rfl (pgs_cons (pg_name (i := 2) sc_has.nd rfl (.inl rfl)) (pgs_cons (pg_name (i := 3) sc_has.nd rfl (.inl rfl)) pgs_nil)))) (fun _ _ _ _ _ => pts_nil) (fun _ _ _ _ _ => pv 2)) (by rfl))), ?_⟩
    refine s_ret (ev_is (ev_in (ev_var rfl ru) (ev_lcPM (·.1) (ev_var rfl r) (by omega) (fun _ _ => rfl) fun x a b k' h' hx e ra rb => ev_var rfl ra)) (inV_has l lv)) w fun z k2 h2 l2 rz => q z k2 h2 l2 rz
/-! place_of_level -/
abbrev spPlace : Sp := Sp2 rS rZ (fun l _ => l.length ≤ 12) rN placeOf
theorem sc_place : FnScope ["shades", "level", "one", "count"] ["shades", "level"] (defScope (top 3)) := ⟨rfl, rfl, rfl, by decide +kernel, rfl, by decide +kernel, by decide +kernel⟩
theorem ok_place (T : Tx mg) (F : Df K mg "place_of_level" (top 3) ["shades", "level"] f fd) : FnOk P w K mg base CX0 1 f fd ["shades", "level"] spPlace := by
  refine F.fn.ok sc_place (fun vs H Q E h => ?_) (fun cdv A outer s H vs Q E hr h => ?_)
  · obtain ⟨k, v, u, x, y, rfl, _⟩ := h
    rfl
  · obtain ⟨k, v, u, l, lv, rfl, w, r, ru, hd, q⟩ := h
    refine ⟨_, pss_one (ps_ret (pe_callB call_len_seq (by rfl) T.len PySem.boot_len (pa_cons (pe_lc (own := [("one", 2), ("count", 3)]) (g := gTup K 2 (gCons (gName 2) (gCons (gName 3) gNil))) (by rfl) sc_place.nd (pi_list (pv 0)) (blkOk_by (own := [("one", 2), ("count", 3)]) (N := ["shades", "level", "one", "count"]) (sc := defScope (top 3)) (by decide +kernel))
      (fun _ _ _ _ _ => by exact (pg_tup rfl (pgs_cons (pg_name (i := 2) sc_place.nd rfl (.inl rfl)) (pgs_cons (pg_name (i := 3) sc_place.nd rfl (.inl rfl)) pgs_nil)))) (fun _ _ _ _ _ => pts_one (pt_cmpR op_lt (pv 2) (pv 1) (nomark _))) (fun _ _ _ _ _ => pv 2)) pa_nil))), ?_⟩
    refine s_ret (ev_n (ev_is (ev_len (ev_lcP (fun s => decide (s.1 < lv)) (·.1) (ev_var rfl r) (by omega) (fun _ _ => rfl) (fun x a b k' h' hx e ra rb => et_T (ev_lt (ev_var rfl ra) (ev_var rfl ru))) fun x a b k' h' hx e ra rb _ => ev_var (A := rZ) rfl ra)) ?_)) w fun z k2 h2 l2 rz => q z k2 h2 l2 rz
    rw [List.length_map]
    rfl
/-! with_shade -/
theorem placeOf_le (l : Sh) (lv : Int) : placeOf l lv ≤ l.length := List.length_filter_le ..
abbrev spWith : Sp := Sp3 rS rZ rZ (fun l _ _ => l.length ≤ 12) rS withShade
theorem sc_with : FnScope ["shades", "level", "count", "at"] ["shades", "level", "count"] (defScope (top 4)) := ⟨rfl, rfl, rfl, by decide +kernel, rfl, by decide +kernel, by decide +kernel⟩
theorem ok_with (F : Df K mg "with_shade" (top 4) ["shades", "level", "count"] f fd) (F1 : Df K mg "place_of_level" (top 3) ["shades", "level"] f1 fd1) (G1 : FnOk P w K mg base CX0 1 f1 fd1 ["shades", "level"] spPlace) : FnOk P w K mg base CX0 2 f fd ["shades", "level", "count"] spWith := by
  refine F.fn.ok sc_with (fun vs H Q E h => ?_) (fun cdv A outer s H vs Q E hr h => ?_)
  · obtain ⟨k, v, u, z, x, y, zz, rfl, _⟩ := h
    rfl
  · obtain ⟨k, v, u, z, l, lv, ct, rfl, w, r, ru, rz, hd, q⟩ := h
    refine ⟨_, pss_cons (ps_set (i := 3) sc_with.nd rfl (.inl rfl) (pe_call G1 hr (by rfl) F1.g F1.fn.kp F1.b .nil pass0 (pa_cons (pv 0) (pa_cons (pv 1) pa_nil))))
      (pss_one (ps_ret (pe_op op_cat (pe_op op_cat (pe_slice sl_list (pv 0) po_none (po_some (pv 3))) (pe_lst (pa_cons (pe_tup (pa_cons (pv 1) (pa_cons (pv 2) pa_nil))) pa_nil))) (pe_slice sl_list (pv 0) (po_some (pv 3)) po_none)))), ?_⟩
    refine q_asg (ev_call2 (ev_var rfl r) (ev_var rfl ru) hd) w fun a k1 h1 l1 ra => ?_
    have hp := placeOf_le l lv
    have r' := rS.mono l1.kk r
    refine s_ret (ev_cat (ev_cat (ev_cutL (ev_var rfl r') (ev_z (ev_var rfl ra)) rfl) (ev_lst1 (ev_tup (ev_var rfl ru) (ev_var rfl rz))) ?_) (ev_cutR (ev_var rfl r') (ev_z (ev_var rfl ra)) rfl hp) ?_) l1.kh fun z k2 h2 l2 rz => q z k2 h2 (l1.trans l2) rz
    · rw [List.length_take, List.length_singleton]
      omega
    · rw [List.length_append, List.length_take, List.length_singleton, List.length_drop]
      omega
/-! without_shade -/
abbrev spWithout : Sp := Sp2 rS rN (fun l i => l.length ≤ 12 ∧ i < l.length) rS withoutShade
theorem sc_without : FnScope ["shades", "at"] ["shades", "at"] (defScope (top 5)) := ⟨rfl, rfl, rfl, by decide +kernel, rfl, by decide +kernel, by decide +kernel⟩
theorem ok_without (F : Df K mg "without_shade" (top 5) ["shades", "at"] f fd) : FnOk P w K mg base CX0 1 f fd ["shades", "at"] spWithout := by
  refine F.fn.ok sc_without (fun vs H Q E h => ?_) (fun cdv A outer s H vs Q E hr h => ?_)
  · obtain ⟨k, v, u, x, y, rfl, _⟩ := h
    rfl
  · obtain ⟨k, v, u, l, i, rfl, w, r, ru, ⟨hd, hi⟩, q⟩ := h
    refine ⟨_, pss_one (ps_ret (pe_op op_cat (pe_slice sl_list (pv 0) po_none (po_some (pv 1))) (pe_slice sl_list (pv 0) (po_some (pe_op op_add (pv 1) pe_int)) po_none))), ?_⟩
    refine s_ret (ev_cat (ev_cutL (ev_var rfl r) (ev_z (ev_var rfl ru)) rfl) (ev_cutR (i := i + 1) (ev_var rfl r) (ev_add (ev_z (ev_var rfl ru)) (ev_int 1)) (by omega) hi) ?_) w fun z k2 h2 l2 rz => q z k2 h2 l2 rz
    rw [List.length_take, List.length_drop]
    omega
/-! with_count -/
abbrev spWithCount : Sp := Sp3 rS rN rZ (fun l i _ => l.length ≤ 12 ∧ i < l.length) rS withCount
theorem sc_withCount : FnScope ["shades", "at", "count"] ["shades", "at", "count"] (defScope (top 6)) := ⟨rfl, rfl, rfl, by decide +kernel, rfl, by decide +kernel, by decide +kernel⟩
theorem ok_withCount (F : Df K mg "with_count" (top 6) ["shades", "at", "count"] f fd) : FnOk P w K mg base CX0 1 f fd ["shades", "at", "count"] spWithCount := by
  refine F.fn.ok sc_withCount (fun vs H Q E h => ?_) (fun cdv A outer s H vs Q E hr h => ?_)
  · obtain ⟨k, v, u, z, x, y, zz, rfl, _⟩ := h
    rfl
  · obtain ⟨k, v, u, z, l, i, ct, rfl, w, r, ru, rz, ⟨hd, hi⟩, q⟩ := h
    refine ⟨_, pss_one (ps_ret (pe_op op_cat (pe_op op_cat (pe_slice sl_list (pv 0) po_none (po_some (pv 1))) (pe_lst (pa_cons (pe_tup (pa_cons (pe_ix ix_tup (pe_ix ix_list (pv 0) (pv 1) (fun _ _ => rfl)) pe_int (fun _ _ => rfl)) (pa_cons (pv 2) pa_nil))) pa_nil)))
      (pe_slice sl_list (pv 0) (po_some (pe_op op_add (pv 1) pe_int)) po_none))), ?_⟩
    have hx : l[i]? = some (l.getD i (0, 0)) := by
      rw [List.getD_eq_getElem?_getD, List.getElem?_eq_getElem hi]
      rfl
    refine s_ret (ev_cat (ev_cat (ev_cutL (ev_var rfl r) (ev_z (ev_var rfl ru)) rfl) (ev_lst1 (ev_tup (ev_ixT0 (ev_ixL (ev_var rfl r) (ev_z (ev_var rfl ru)) hx rfl)) (ev_var rfl rz))) ?_)
      (ev_cutR (i := i + 1) (ev_var rfl r) (ev_add (ev_z (ev_var rfl ru)) (ev_int 1)) (by omega) hi) ?_) w fun z k2 h2 l2 rz => q z k2 h2 l2 rz
    · rw [List.length_take, List.length_singleton]
      omega
    · rw [List.length_append, List.length_take, List.length_singleton, List.length_drop]
      omega
end
end WK
namespace WK
open PySem PySem.Spec PyProof.Rows L2 FW FS
section
variable {P : Program} {w : World} {K : PySem.W.Frag} {mg : Str → Option Value} {base : Heap} {f f1 f2 f3 : Addr} {fd fd1 fd2 fd3 : FuncData}
/-! flat -/
theorem flat_more {l : Sh} {i : Nat} {x : Int × Int} (h : l[i]? = some x) : flat (l.take (i + 1)) = flat (l.take i) ++ [x.1] ++ [x.2] := by
  unfold flat
  rw [take_more h, List.flatMap_append]
  simp
theorem flat_len : ∀ l : Sh, (flat l).length = 2 * l.length
  | [] => rfl
  | x :: r => by
    show ([x.1, x.2] ++ flat r).length = 2 * (r.length + 1)
    rw [List.length_append, flat_len r]
    show 2 + _ = _
    omega
abbrev spFlat : Sp := Sp1 rS (fun l => l.length ≤ 12) (rL rZ) flat
theorem sc_flat : FnScope ["shades", "found", "level", "count"] ["shades"] (defScope (top 7)) := ⟨rfl, rfl, rfl, by decide +kernel, rfl, by decide +kernel, by decide +kernel⟩
theorem ok_flat (F : Df K mg "flat" (top 7) ["shades"] f fd) : FnOk P w K mg base CX0 1 f fd ["shades"] spFlat := by
  refine F.fn.ok sc_flat (fun vs H Q E h => ?_) (fun cdv A outer s H vs Q E hr h => ?_)
  · obtain ⟨k, v, x, rfl, _⟩ := h
    rfl
  · obtain ⟨k, v, l, rfl, w, r, hd, q⟩ := h
    refine ⟨_, pss_cons (ps_set (i := 1) sc_flat.nd rfl (.inl rfl) (pe_lst pa_nil)) (pss_cons (ps_for PassesOwn.never rfl (pi_list (pv 0)) (pg_tup rfl (pgs_cons (pg_name (i := 2) sc_flat.nd rfl (.inl rfl)) (pgs_cons (pg_name (i := 3) sc_flat.nd rfl (.inl rfl)) pgs_nil)))
      (pss_cons (ps_expr (pe_bm PySem.F.plainAttrs_list PySem.F.slot_list_append PySem.F.type_list_append mt_append (pv 1) (pa_cons (pv 2) pa_nil)))
      (pss_one (ps_expr (pe_bm PySem.F.plainAttrs_list PySem.F.slot_list_append PySem.F.type_list_append mt_append (pv 1) (pa_cons (pv 3) pa_nil)))))) (pss_one (ps_ret (pv 1)))), ?_⟩
    refine q_new fun p hp => ?_
    refine s_for (j := 0) (A := rP rZ rZ) (xs := l) (v := v) (k := k) rfl r (fun i σ' k' h' => GrI k H p k' h' (flat (l.take i)) ∧ ∃ a b, σ' = [some v, some (.ref p), a, b]) ⟨Gr.new w hp, _, _, rfl⟩ (fun i σ' k' h' ⟨e, _⟩ => ⟨e.le.kk, e.le.kh⟩) ?_ ?_
    · rintro i x u σ' k' h' hx ⟨e, a, b, rfl⟩ rx
      have hn : (flat (l.take i)).length < 1000 := by
        rw [flat_len, List.length_take]
        omega
      refine g_ii rx e.le.kh (q_growI e rfl (ev_var rfl rfl) (by omega) fun k2 h2 e2 _ => s_growI e2 rfl (ev_var rfl rfl) (by rw [List.length_append, List.length_singleton]; omega) fun k3 h3 e3 _ => ⟨k3, ?_, ⟨_, _, rfl⟩⟩)
      rw [flat_more hx]
      exact e3
    · rintro σ' k' h' ⟨e, a, b, rfl⟩
      rw [List.take_length] at e
      exact s_retG e rfl (ints_pr _) q
/-! error_with -/
theorem err_more {l : Sh} {c : Int} {i : Nat} {x : Int × Int} (h : l[i]? = some x) : errWith (l.take (i + 1)) c = errWith (l.take i) c + x.2 * iabs (x.1 - c) := by
  unfold errWith
  rw [take_more h, List.foldl_append]
  rfl
theorem cmul_of {x : Int} {y : Int} (h : 1 ≤ x ∧ x ≤ 999) : CMul x y := .inl ⟨by omega, by omega⟩
abbrev spErr : Sp := Sp2 rS rZ (fun l _ => Ok l) rZ errWith
theorem sc_err : FnScope ["shades", "colour", "found", "level", "count"] ["shades", "colour"] (defScope (top 9)) := ⟨rfl, rfl, rfl, by decide +kernel, rfl, by decide +kernel, by decide +kernel⟩
theorem ok_err (T : Tx mg) (F : Df K mg "error_with" (top 9) ["shades", "colour"] f fd) : FnOk P w K mg base CX0 1 f fd ["shades", "colour"] spErr := by
  refine F.fn.ok sc_err (fun vs H Q E h => ?_) (fun cdv A outer s H vs Q E hr h => ?_)
  · obtain ⟨k, v, u, x, y, rfl, _⟩ := h
    rfl
  · obtain ⟨k, v, u, l, c, rfl, w, r, ru, hd, q⟩ := h
    obtain rfl : u = .int c := ru
    refine ⟨_, pss_cons (ps_set (i := 2) sc_err.nd rfl (.inl rfl) pe_int) (pss_cons (ps_for PassesOwn.never rfl (pi_list (pv 0)) (pg_tup rfl (pgs_cons (pg_name (i := 3) sc_err.nd rfl (.inl rfl)) (pgs_cons (pg_name (i := 4) sc_err.nd rfl (.inl rfl)) pgs_nil)))
      (pss_one (ps_set (i := 2) sc_err.nd rfl (.inl rfl) (pe_op op_add (pv 2) (pe_op op_mul (pv 4) (pe_callB call_abs (by rfl) T.abs (by decide +kernel) (pa_cons (pe_op op_sub (pv 3) (pv 1)) pa_nil))))))) (pss_one (ps_ret (pv 2)))), ?_⟩
    refine q_asgI (ev_int 0) w fun k1 h1 l1 => ?_
    refine s_for (j := 0) (A := rP rZ rZ) (xs := l) (v := v) rfl (rS.mono l1.kk r) (fun i σ' k' h' => Le k1 h1 k' h' ∧ ∃ a b, σ' = [some v, some (.int c), some (.int (errWith (l.take i) c)), a, b]) ⟨l1.same, _, _, rfl⟩ (fun i σ' k' h' ⟨e, _⟩ => ⟨e.kk, e.kh⟩) ?_ ?_
    · rintro i x z σ' k' h' hx ⟨e, a, b, rfl⟩ rx
      refine g_ii rx e.kh (s_asgI (ev_add (ev_var rfl rfl) (ev_mul (ev_var rfl rfl) (ev_abs (ev_sub (ev_var rfl rfl) (ev_var rfl rfl))) (cmul_of (hd.2 x (List.mem_of_getElem? hx))))) e.kh fun k2 h2 l2 => ⟨k2, e.trans l2, ?_⟩)
      rw [err_more hx]
      exact ⟨_, _, rfl⟩
    · rintro σ' k' h' ⟨e, a, b, rfl⟩
      rw [List.take_length]
      exact s_ret (ev_var rfl rfl) e.kh fun u k2 h2 l2 ru => q u k2 h2 ((l1.trans e).trans l2) ru
/-! median_of -/
theorem tiles_nn : ∀ (l : Sh), (∀ s ∈ l, 1 ≤ s.2 ∧ s.2 ≤ 999) → 0 ≤ tiles l := by
  intro l h
  have q : ∀ (l : Sh) (a : Int), (∀ s ∈ l, 1 ≤ s.2 ∧ s.2 ≤ 999) → 0 ≤ a → 0 ≤ l.foldl (fun a s => a + s.2) a := by
    intro l
    induction l with
    | nil => intro a _ h; exact h
    | cons x r ih =>
      intro a h ha
      have := h x List.mem_cons_self
      exact ih (a + x.2) (fun s hs => h s (List.mem_cons_of_mem _ hs)) (by omega)
  exact q l 0 h (Int.le_refl _)
theorem drop_at {α : Type} : ∀ {l : List α} {i : Nat} {x : α}, l[i]? = some x → l.drop i = x :: l.drop (i + 1)
  | [], i, x, h => by simp at h
  | a :: l, 0, x, h => by
    cases h
    rfl
  | a :: l, i + 1, x, h => drop_at (l := l) (i := i) h
abbrev spMed : Sp := Sp1 rS (fun l => Ok l ∧ l ≠ []) rZ med
theorem sc_med : FnScope ["shades", "half_reached", "whole", "level", "count"] ["shades"] (defScope (top 10)) := ⟨rfl, rfl, rfl, by decide +kernel, rfl, by decide +kernel, by decide +kernel⟩
theorem ok_med (F : Df K mg "median_of" (top 10) ["shades"] f fd) (F1 : Df K mg "tiles_of" (top 1) ["shades"] f1 fd1) (G1 : FnOk P w K mg base CX0 1 f1 fd1 ["shades"] spTiles) : FnOk P w K mg base CX0 2 f fd ["shades"] spMed := by
  refine F.fn.ok sc_med (fun vs H Q E h => ?_) (fun cdv A outer s H vs Q E hr h => ?_)
  · obtain ⟨k, v, x, rfl, _⟩ := h
    rfl
  · obtain ⟨k, v, l, rfl, w, r, ⟨hd, hne⟩, q⟩ := h
    refine ⟨_, pss_cons (ps_set (i := 1) sc_med.nd rfl (.inl rfl) pe_int) (pss_cons (ps_set (i := 2) sc_med.nd rfl (.inl rfl) (pe_call G1 hr (by rfl) F1.g F1.fn.kp F1.b .nil pass0 (pa_cons (pv 0) pa_nil)))
      (pss_cons (ps_for PassesOwn.never rfl (pi_list (pv 0)) (pg_tup rfl (pgs_cons (pg_name (i := 3) sc_med.nd rfl (.inl rfl)) (pgs_cons (pg_name (i := 4) sc_med.nd rfl (.inl rfl)) pgs_nil)))
        (pss_cons (ps_set (i := 1) sc_med.nd rfl (.inl rfl) (pe_op op_add (pv 1) (pv 4))) (pss_one (ps_if (pt_cmpR op_ge (pe_op op_mul pe_int (pv 1)) (pv 2) (nomark _)) (pss_one (ps_ret (pv 3))) pss_nil))))
      (pss_one ps_never))), ?_⟩
    refine q_asgI (ev_int 0) w fun k1 h1 l1 => ?_
    refine q_asgI (ev_call1 (ev_var rfl (rS.mono l1.kk r)) trivial) l1.kh fun k2 h2 l2 => ?_
    have hpos : 0 < l.length := List.length_pos_iff.mpr hne
    refine s_for (j := 0) (A := rP rZ rZ) (xs := l) (v := v) rfl (rS.mono (l1.kk.trans l2.kk) r) (fun i σ' k' h' => Le k2 h2 k' h' ∧ i < l.length ∧ med l = medGo (tiles l) (tiles (l.take i)) (l.drop i) ∧ ∃ a b, σ' = [some v, some (.int (tiles (l.take i))), some (.int (tiles l)), a, b])
      ⟨l2.same, hpos, rfl, _, _, rfl⟩ (fun i σ' k' h' ⟨e, _⟩ => ⟨e.kk, e.kh⟩) ?_ ?_
    · rintro i x z σ' k' h' hx ⟨e, hi, hm, a, b, rfl⟩ rx
      refine g_ii rx e.kh (q_asgI (ev_add (ev_var rfl rfl) (ev_var rfl rfl)) e.kh fun k3 h3 l3 => ?_)
      have hm' : med l = if tiles l ≤ 2 * (tiles (l.take i) + x.2) then x.1 else medGo (tiles l) (tiles (l.take i) + x.2) (l.drop (i + 1)) := by
        rw [hm, drop_at hx]
        rfl
      refine s_if (b := decide (tiles l ≤ 2 * (tiles (l.take i) + x.2))) (et_T (ev_ge (ev_mul (ev_int 2) (ev_var rfl rfl) (.inl ⟨by omega, by omega⟩)) (ev_var rfl rfl))) l3.kh (fun hb k4 h4 l4 => ?_) (fun hb k4 h4 l4 => ?_)
      · rw [if_pos (of_decide_eq_true hb)] at hm'
        rw [← hm'] at *
        exact s_ret (ev_var (A := rZ) (x := med l) rfl rfl) l4.kh fun u k5 h5 l5 ru => q u k5 h5 (((((l1.trans l2).trans e).trans l3).trans l4).trans l5) ru
      · have hb' := of_decide_eq_false hb
        rw [if_neg hb'] at hm'
        refine ⟨k4, (e.trans l3).trans l4, ?_, ?_, ?_⟩
        · rcases Nat.lt_or_ge (i + 1) l.length with c | c
          · exact c
          · exfalso
            have ei : i + 1 = l.length := by omega
            have et := tiles_more hx
            rw [ei, List.take_length] at et
            have nn := tiles_nn l hd.2
            omega
        · rw [tiles_more hx]
          exact hm'
        · rw [tiles_more hx]
          exact ⟨_, _, rfl⟩
    · rintro σ' k' h' ⟨e, hi, _⟩
      exact absurd hi (Nat.lt_irrefl _)
/-! group_error -/
abbrev spGErr : Sp := Sp1 rS (fun l => Ok l ∧ l ≠ []) rZ gErr
theorem sc_gerr : FnScope ["shades"] ["shades"] (defScope (top 11)) := ⟨rfl, rfl, rfl, by decide +kernel, rfl, by decide +kernel, by decide +kernel⟩
theorem ok_gerr (F : Df K mg "group_error" (top 11) ["shades"] f fd) (F1 : Df K mg "error_with" (top 9) ["shades", "colour"] f1 fd1) (G1 : FnOk P w K mg base CX0 1 f1 fd1 ["shades", "colour"] spErr)
    (F2 : Df K mg "median_of" (top 10) ["shades"] f2 fd2) (G2 : FnOk P w K mg base CX0 2 f2 fd2 ["shades"] spMed) : FnOk P w K mg base CX0 3 f fd ["shades"] spGErr := by
  refine F.fn.ok sc_gerr (fun vs H Q E h => ?_) (fun cdv A outer s H vs Q E hr h => ?_)
  · obtain ⟨k, v, x, rfl, _⟩ := h
    rfl
  · obtain ⟨k, v, l, rfl, w, r, hd, q⟩ := h
    refine ⟨_, pss_one (ps_ret (pe_call G1 (hr.mono (by decide)) (by rfl) F1.g F1.fn.kp F1.b .nil pass0 (pa_cons (pv 0) (pa_cons (pe_call G2 hr (by rfl) F2.g F2.fn.kp F2.b .nil pass0 (pa_cons (pv 0) pa_nil)) pa_nil)))), ?_⟩
    exact s_ret (ev_call2 (ev_var rfl r) (ev_call1 (ev_var rfl r) hd) hd.1) w fun u k2 h2 l2 ru => q u k2 h2 l2 ru
/-! least_distance -/
theorem least_is : ∀ (r : List Int) (x m : Int), (m = x ∨ m ∈ r) → (∀ y, y = x ∨ y ∈ r → m ≤ y) → m = r.foldl (fun m y => if y < m then y else m) x
  | [], x, m, h, _ => h.elim id fun h => by cases h
  | y :: r, x, m, h, hl => by
    show m = r.foldl (fun m y => if y < m then y else m) (if y < x then y else x)
    have h1 := hl x (.inl rfl)
    have h2 := hl y (.inr List.mem_cons_self)
    refine least_is r _ m ?_ fun z hz => ?_
    · by_cases c : y < x
      · rw [if_pos c]
        rcases h with h | h
        · exact .inl (by omega)
        · rcases List.mem_cons.mp h with h | h
          · exact .inl h
          · exact .inr h
      · rw [if_neg c]
        rcases h with h | h
        · exact .inl h
        · rcases List.mem_cons.mp h with h | h
          · exact .inl (by omega)
          · exact .inr h
    · rcases hz with hz | hz
      · rw [hz]
        split <;> omega
      · exact hl z (.inr (List.mem_cons_of_mem _ hz))
theorem least_eq (xs : List Int) (m : Int) (h : m ∈ xs) (hl : ∀ y, y ∈ xs → m ≤ y) : m = least xs := by
  cases xs with
  | nil => cases h
  | cons x r => exact least_is r x m (List.mem_cons.mp h) fun y hy => hl y (List.mem_cons.mpr hy)
abbrev spLeast : Sp := Sp2 (rL rZ) rZ (fun p _ => p.length ≤ 12 ∧ p ≠ []) rZ leastDist
theorem sc_least : FnScope ["palette", "level", "colour"] ["palette", "level"] (defScope (top 12)) := ⟨rfl, rfl, rfl, by decide +kernel, rfl, by decide +kernel, by decide +kernel⟩
theorem ok_least (T : Tx mg) (F : Df K mg "least_distance" (top 12) ["palette", "level"] f fd) : FnOk P w K mg base CX0 1 f fd ["palette", "level"] spLeast := by
  refine F.fn.ok sc_least (fun vs H Q E h => ?_) (fun cdv A outer s H vs Q E hr h => ?_)
  · obtain ⟨k, v, u, x, y, rfl, _⟩ := h
    rfl
  · obtain ⟨k, v, u, pal, lv, rfl, w, r, ru, ⟨hd, hne⟩, q⟩ := h
    refine ⟨_, pss_one (ps_ret (pe_callB (cr_min rfl) (by rfl) T.min (by decide +kernel) (pa_cons (pe_lc (own := [("colour", 2)]) (g := gName 2) (by rfl) sc_least.nd (pi_list (pv 0)) (blkOk_by (own := [("colour", 2)]) (N := ["palette", "level", "colour"]) (sc := defScope (top 12)) (by decide +kernel))
      (fun _ _ _ _ _ => pg_name (i := 2) sc_least.nd rfl (.inl rfl)) (fun _ _ _ _ _ => pts_nil) (fun _ _ _ _ _ => pe_callB call_abs (by rfl) T.abs (by decide +kernel) (pa_cons (pe_op op_sub (pv 1) (pv 2)) pa_nil))) pa_nil))), ?_⟩
    refine s_ret (ev_min (z := leastDist pal lv) (xs := pal.map fun c => iabs (lv - c)) (ev_lcM (A := rZ) (fun c => iabs (lv - c)) (ev_var rfl r) (by omega) (fun _ => rfl) fun c a k' h' hx e ra => ev_abs (ev_sub (ev_var rfl ru) (ev_var rfl ra))) ?_ fun m h1 h2 => ?_) w fun z k2 h2 l2 rz => q z k2 h2 l2 rz
    · rw [List.length_map]
      exact List.length_pos_iff.mpr hne
    · exact least_eq _ m h1 h2
/-! palette_error -/
theorem pal_more {l : Sh} {pal : List Int} {i : Nat} {x : Int × Int} (h : l[i]? = some x) : palErr (l.take (i + 1)) pal = palErr (l.take i) pal + x.2 * leastDist pal x.1 := by
  unfold palErr
  rw [take_more h, List.foldl_append]
  rfl
abbrev spPal : Sp := Sp2 rS (rL rZ) (fun l p => Ok l ∧ p.length ≤ 12 ∧ p ≠ []) rZ palErr
theorem sc_pal : FnScope ["shades", "palette", "found", "level", "count"] ["shades", "palette"] (defScope (top 13)) := ⟨rfl, rfl, rfl, by decide +kernel, rfl, by decide +kernel, by decide +kernel⟩
theorem ok_pal (F : Df K mg "palette_error" (top 13) ["shades", "palette"] f fd) (F1 : Df K mg "least_distance" (top 12) ["palette", "level"] f1 fd1) (G1 : FnOk P w K mg base CX0 1 f1 fd1 ["palette", "level"] spLeast) :
    FnOk P w K mg base CX0 2 f fd ["shades", "palette"] spPal := by
  refine F.fn.ok sc_pal (fun vs H Q E h => ?_) (fun cdv A outer s H vs Q E hr h => ?_)
  · obtain ⟨k, v, u, x, y, rfl, _⟩ := h
    rfl
  · obtain ⟨k, v, u, l, pal, rfl, w, r, ru, ⟨hd, hp⟩, q⟩ := h
    refine ⟨_, pss_cons (ps_set (i := 2) sc_pal.nd rfl (.inl rfl) pe_int) (pss_cons (ps_for PassesOwn.never rfl (pi_list (pv 0)) (pg_tup rfl (pgs_cons (pg_name (i := 3) sc_pal.nd rfl (.inl rfl)) (pgs_cons (pg_name (i := 4) sc_pal.nd rfl (.inl rfl)) pgs_nil)))
      (pss_one (ps_set (i := 2) sc_pal.nd rfl (.inl rfl) (pe_op op_add (pv 2) (pe_op op_mul (pv 4) (pe_call G1 hr (by rfl) F1.g F1.fn.kp F1.b .nil pass0 (pa_cons (pv 1) (pa_cons (pv 3) pa_nil)))))))) (pss_one (ps_ret (pv 2)))), ?_⟩
    refine q_asgI (ev_int 0) w fun k1 h1 l1 => ?_
    refine s_for (j := 0) (A := rP rZ rZ) (xs := l) (v := v) rfl (rS.mono l1.kk r) (fun i σ' k' h' => Le k1 h1 k' h' ∧ ∃ a b, σ' = [some v, some u, some (.int (palErr (l.take i) pal)), a, b]) ⟨l1.same, _, _, rfl⟩ (fun i σ' k' h' ⟨e, _⟩ => ⟨e.kk, e.kh⟩) ?_ ?_
    · rintro i x z σ' k' h' hx ⟨e, a, b, rfl⟩ rx
      refine g_ii rx e.kh (s_asgI (ev_add (ev_var rfl rfl) (ev_mul (ev_var rfl rfl) (ev_call2 (ev_var rfl ((rL rZ).mono (l1.kk.trans e.kk) ru)) (ev_var rfl rfl) hp) (cmul_of (hd.2 x (List.mem_of_getElem? hx))))) e.kh fun k2 h2 l2 => ⟨k2, e.trans l2, ?_⟩)
      rw [pal_more hx]
      exact ⟨_, _, rfl⟩
    · rintro σ' k' h' ⟨e, a, b, rfl⟩
      rw [List.take_length]
      exact s_ret (ev_var rfl rfl) e.kh fun u k2 h2 l2 ru => q u k2 h2 ((l1.trans e).trans l2) ru
end
end WK
namespace WK
open PySem PySem.Spec PyProof.Rows L2 FW FS
section
variable {P : Program} {w : World} {K : PySem.W.Frag} {mg : Str → Option Value} {base : Heap} {f f1 f2 f3 : Addr} {fd fd1 fd2 fd3 : FuncData}
/-! the rows of rests -/
structure RestOk (l : Sh) (n : Nat) (rests : Rs) : Prop where
  len : rests.length = l.length + 1
  sz : ∀ (j : Nat) (d : Dv), rests[j]? = some (some d) → d.2.length ≤ n
theorem pick_len {n : Nat} {g : Option Dv} {t : Int} {z : List Nat} (h : ∀ d, g = some d → d.2.length ≤ n) (hz : z.length ≤ n) : ∀ d, pick g t z = some d → d.2.length ≤ n := by
  intro d e
  unfold pick at e
  cases g with
  | none =>
    cases e
    exact hz
  | some g =>
    dsimp only at e
    split at e
    · cases e
      exact hz
    · cases e
      exact h _ rfl
theorem step_len {l : Sh} {i n : Nat} {rests : Rs} {g : Option Dv} {s : Nat} (R : RestOk l n rests) (h : ∀ d, g = some d → d.2.length ≤ n + 1) : ∀ d, stepSize l i rests g s = some d → d.2.length ≤ n + 1 := by
  unfold stepSize
  cases hr : rests[i + s]? with
  | none => exact h
  | some o =>
    cases o with
    | none => exact h
    | some r =>
      refine pick_len h ?_
      have := R.sz _ _ hr
      rw [List.length_cons]
      omega
theorem best_len {l : Sh} {i n : Nat} {rests : Rs} (R : RestOk l n rests) : ∀ d, bestFrom l i rests = some d → d.2.length ≤ n + 1 := by
  unfold bestFrom
  have q : ∀ (ds : List Nat) (g : Option Dv), (∀ d, g = some d → d.2.length ≤ n + 1) → ∀ d, ds.foldl (fun f d => stepSize l i rests f (d + 1)) g = some d → d.2.length ≤ n + 1 := by
    intro ds
    induction ds with
    | nil => intro g h; exact h
    | cons a r ih => intro g h; exact ih _ (step_len R h)
  exact q _ none fun d e => by cases e
theorem first_ok (l : Sh) : RestOk l 0 (firstRests l) := by
  refine ⟨by simp [firstRests], fun j d e => ?_⟩
  unfold firstRests at e
  by_cases c : j < l.length
  · rw [List.getElem?_append_left (by rw [List.length_map]; exact c), List.getElem?_map, List.getElem?_eq_getElem c] at e
    cases e
  · rw [List.getElem?_append_right (by rw [List.length_map]; omega)] at e
    cases hj : j - (l.map fun _ => (none : Option Dv)).length with
    | zero =>
      rw [hj] at e
      cases e
      exact Nat.le_refl _
    | succ m =>
      rw [hj] at e
      cases e
theorem next_ok {l : Sh} {n : Nat} {rests : Rs} (R : RestOk l n rests) : RestOk l (n + 1) (nextRests l rests) := by
  refine ⟨by simp [nextRests], fun j d e => ?_⟩
  unfold nextRests at e
  by_cases c : j < l.length
  · rw [List.getElem?_append_left (by rw [List.length_map, List.length_range]; exact c), List.getElem?_map, List.getElem?_range c] at e
    exact best_len R d (Option.some.inj e)
  · rw [List.getElem?_append_right (by rw [List.length_map, List.length_range]; omega)] at e
    cases hj : j - ((List.range l.length).map fun i => bestFrom l i rests).length with
    | zero =>
      rw [hj] at e
      cases e
      exact Nat.zero_le _
    | succ m =>
      rw [hj] at e
      cases e
theorem rests_ok (l : Sh) : ∀ k, RestOk l k (restsK l k)
  | 0 => first_ok l
  | k + 1 => next_ok (rests_ok l k)
theorem rests_at (l : Sh) (k : Nat) : (restsK l k)[0]? = some (bestDiv l k) := by
  unfold bestDiv
  rw [List.getElem?_eq_getElem (by rw [(rests_ok l k).len]; omega)]
  rfl
/-! first_rests -/
abbrev spFirst : Sp := Sp1 rS (fun l => l.length ≤ 12) rR firstRests
theorem sc_first : FnScope ["shades", "shade"] ["shades"] (defScope (top 17)) := ⟨rfl, rfl, rfl, by decide +kernel, rfl, by decide +kernel, by decide +kernel⟩
theorem ok_first (T : Tx mg) (F : Df K mg "first_rests" (top 17) ["shades"] f fd) : FnOk P w K mg base CX0 1 f fd ["shades"] spFirst := by
  refine F.fn.ok sc_first (fun vs H Q E h => ?_) (fun cdv A outer s H vs Q E hr h => ?_)
  · obtain ⟨k, v, x, rfl, _⟩ := h
    rfl
  · obtain ⟨k, v, l, rfl, w, r, hd, q⟩ := h
    refine ⟨_, pss_one (ps_ret (pe_op op_cat (pe_lc (own := [("shade", 1)]) (g := gName 1) (by rfl) sc_first.nd (pi_list (pv 0)) (blkOk_by (own := [("shade", 1)]) (N := ["shades", "shade"]) (sc := defScope (top 17)) (by decide +kernel))
      (fun _ _ _ _ _ => pg_name (i := 1) sc_first.nd rfl (.inl rfl)) (fun _ _ _ _ _ => pts_nil) (fun _ _ _ _ _ => pe_non)) (pe_lst (pa_cons (pe_tup (pa_cons (pe_const T.nothing) (pa_cons (pe_lst pa_nil) pa_nil))) pa_nil)))), ?_⟩
    refine s_ret (A := rR) (x := firstRests l) (ev_cat (ev_lcM (A := rP rZ rZ) (fun _ => none) (ev_var rfl r) (by omega) (fun _ => rfl) fun c a k' h' hx e ra => ev_non) (ev_lst1 (ev_someP (ev_tup (ev_int 0) ev_nil))) ?_) w fun z k2 h2 l2 rz => q z k2 h2 l2 rz
    rw [List.length_map, List.length_singleton]
    omega
/-! best_from -/
def bfTo (l : Sh) (i : Nat) (rests : Rs) (m : Nat) : Option Dv := (List.range m).foldl (fun f d => stepSize l i rests f (d + 1)) none
theorem bfTo_succ (l : Sh) (i : Nat) (rests : Rs) (m : Nat) : bfTo l i rests (m + 1) = stepSize l i rests (bfTo l i rests m) (m + 1) := by
  unfold bfTo
  rw [List.range_succ, List.foldl_append]
  rfl
theorem step_none {l : Sh} {i s : Nat} {rests : Rs} {g : Option Dv} (h : rests[i + s]? = some none) : stepSize l i rests g s = g := by
  unfold stepSize
  rw [h]
  rfl
theorem step_some {l : Sh} {i s : Nat} {rests : Rs} {g : Option Dv} {r : Dv} (h : rests[i + s]? = some (some r)) : stepSize l i rests g s = pick g (gErr (cut l i (i + s)) + r.1) (s :: r.2) := by
  unfold stepSize
  rw [h]
  rfl
theorem cut_sub {l : Sh} {i j : Nat} : (cut l i j).Sublist l := (List.take_sublist ..).trans (List.drop_sublist ..)
theorem cut_ne {l : Sh} {i j : Nat} (h : i < j) (hj : j ≤ l.length) : cut l i j ≠ [] := fun e => by
  have q := congrArg List.length e
  rw [cut_length l i j hj] at q
  simp at q
  omega
abbrev spBest : Sp := Sp3 rS rN rR (fun l i rests => Ok l ∧ i < l.length ∧ ∃ n, n ≤ 1000 ∧ RestOk l n rests) (rO rD) bestFrom
theorem sc_best : FnScope ["shades", "at", "rests", "found", "size", "rest", "total"] ["shades", "at", "rests"] (defScope (top 18)) := ⟨rfl, rfl, rfl, by decide +kernel, rfl, by decide +kernel, by decide +kernel⟩
theorem ok_best (T : Tx mg) (F : Df K mg "best_from" (top 18) ["shades", "at", "rests"] f fd) (F1 : Df K mg "group_error" (top 11) ["shades"] f1 fd1) (G1 : FnOk P w K mg base CX0 3 f1 fd1 ["shades"] spGErr) :
    FnOk P w K mg base CX0 4 f fd ["shades", "at", "rests"] spBest := by
  refine F.fn.ok sc_best (fun vs H Q E h => ?_) (fun cdv A outer s H vs Q E hr h => ?_)
  · obtain ⟨k, v, u, z, x, y, zz, rfl, _⟩ := h
    rfl
  · obtain ⟨k, v, u, z, l, i, rests, rfl, w, r, ru, rz, ⟨hd, hi, n, hn, R⟩, q⟩ := h
    obtain rfl : u = .int (i : Int) := ru
    refine ⟨_, pss_cons (ps_set (i := 3) sc_best.nd rfl (.inl rfl) pe_non) (pss_cons (ps_for PassesOwn.never rfl (pi_range2 (by rfl) T.range (pa_cons pe_int (pa_cons (pe_op op_add (pe_op op_sub (pe_callB call_len_seq (by rfl) T.len PySem.boot_len (pa_cons (pv 0) pa_nil)) (pv 1)) pe_int) pa_nil))) (pg_name (i := 4) sc_best.nd rfl (.inl rfl))
      (pss_cons (ps_set (i := 5) sc_best.nd rfl (.inl rfl) (pe_ix ix_list (pv 2) (pe_op op_add (pv 1) (pv 4)) (fun _ _ => rfl)))
      (pss_one (ps_if (pt_cmpR op_notN (pv 5) pe_non (nomark _))
        (pss_cons (ps_set (i := 6) sc_best.nd rfl (.inl rfl) (pe_op op_add (pe_call G1 hr (by rfl) F1.g F1.fn.kp F1.b .nil pass0 (pa_cons (pe_slice sl_list (pv 0) (po_some (pv 1)) (po_some (pe_op op_add (pv 1) (pv 4)))) pa_nil)) (pe_ix ix_tup (pv 5) pe_int (fun _ _ => rfl))))
        (pss_one (ps_if (PW.pt (pw_or (pt_cmpR op_isN (pv 3) pe_non (nomark _)) (pw_or1 (pt_cmpR op_lt (pv 6) (pe_ix ix_tup (pv 3) pe_int (fun _ _ => rfl)) (nomark _)))))
          (pss_one (ps_set (i := 3) sc_best.nd rfl (.inl rfl) (pe_tup (pa_cons (pv 6) (pa_cons (pe_op op_cat (pe_lst (pa_cons (pv 4) pa_nil)) (pe_ix ix_tup (pv 5) pe_int (fun _ _ => rfl))) pa_nil))))) pss_nil)))
        pss_nil)))) (pss_one (ps_ret (pv 3)))), ?_⟩
    refine q_asg (A := rO rD) (x := none) ev_non w fun fv k1 h1 l1 rf => ?_
    refine s_forR2 (lo := 1) (hi := (l.length : Int) - (i : Int) + 1) (n := l.length - i) (ea_ints2 (ev_int 1) (ev_add (ev_sub (ev_len (ev_var rfl (rS.mono l1.kk r))) (ev_var rfl rfl)) (ev_int 1))) l1.kh (by have := hd.1; omega) (by omega)
      (fun m σ' k' h' => Le k1 h1 k' h' ∧ ∃ fv a b c, σ' = [some v, some (.int (i : Int)), some z, some fv, a, b, c] ∧ (rO rD).rel k' fv (bfTo l i rests m)) (fun k2 h2 l2 => ⟨l2, _, _, _, _, rfl, (rO rD).mono l2.kk rf⟩) ?_ ?_
    · rintro m σ' k' h' hm ⟨e, fv, a, b, c, rfl, rf⟩
      have hj : i + (m + 1) < rests.length := by rw [R.len]; omega
      obtain ⟨o, ho⟩ : ∃ o, rests[i + (m + 1)]? = some o := ⟨_, List.getElem?_eq_getElem hj⟩
      refine q_asg (A := rO rD) (x := o) (ev_ixL (ev_var rfl (rR.mono (l1.kk.trans e.kk) rz)) (ev_add (ev_var rfl rfl) (ev_var rfl rfl)) ho (by omega)) e.kh fun rv k2 h2 l2 rr => ?_
      refine s_if (b := o.isSome) (et_T (ev_notN (ev_var rfl rr))) l2.kh (fun hb k3 h3 l3 => ?_) (fun hb k3 h3 l3 => ?_)
      · obtain ⟨d, rfl⟩ := Option.isSome_iff_exists.mp hb
        have hle : Ex k k3 := ((l1.kk.trans e.kk).trans l2.kk).trans l3.kk
        have rr3 := (rO rD).mono l3.kk rr
        refine q_asgI (n := gErr (cut l i (i + (m + 1))) + d.1) (ev_add (ev_call1 (ev_cut (i := i) (j := i + (m + 1)) (ev_var rfl (rS.mono hle r)) (ev_var rfl rfl) (ev_add (ev_var rfl rfl) (ev_var rfl rfl)) rfl (by omega) (by omega) (by omega)) ⟨hd.sub cut_sub, cut_ne (by omega) (by omega)⟩)
          (ev_ixT0 (ev_some (ev_var rfl rr3)))) l3.kh fun k4 h4 l4 => ?_
        have ll : Le k1 h1 k4 h4 := ((e.trans l2).trans l3).trans l4
        have rf4 := (rO rD).mono ((l2.kk.trans l3.kk).trans l4.kk) rf
        have rr4 := (rO rD).mono l4.kk rr3
        have hs := step_some (l := l) (g := bfTo l i rests m) ho
        rw [← bfTo_succ] at hs
        have hz : d.2.length ≤ 1000 := Nat.le_trans (R.sz _ _ ho) hn
        have setit : ∀ k5 h5, Le k4 h4 k5 h5 → bfTo l i rests (m + 1) = some (gErr (cut l i (i + (m + 1))) + d.1, (m + 1) :: d.2) → Ev (tTup (tCons (tVar 6) (tCons (tOp rCat (tLst (tCons (tVar 4) tNil)) (tOp (rIxT K) (tVar 5) (tC (.int 1)))) tNil)))
            [some v, some (.int (i : Int)), some z, some fv, some (.int (1 + (m : Int))), some rv, some (.int (gErr (cut l i (i + (m + 1))) + d.1))] k5 h5 (rO rD) (bfTo l i rests (m + 1)) := fun k5 h5 l5 hb => by
          rw [hb]
          refine ev_someP (ev_tup (ev_var rfl rfl) (ev_cat (xs := [m + 1]) (ev_lst1 (ev_var rfl ?_)) (ev_ixT1 (ev_some (ev_var rfl ((rO rD).mono l5.kk rr4)))) ?_))
          · show V.int (1 + (m : Int)) = V.int ((m + 1 : Nat) : Int)
            congr 1
            omega
          · rw [List.length_singleton]
            omega
        cases hF : bfTo l i rests m with
        | none =>
          rw [hF] at hs rf4
          refine s_if (b := true) (et_is (et_or (b := true) (b' := true) (et_T (ev_isN (ev_var rfl rf4))) fun h => by cases h) rfl) l4.kh (fun _ k5 h5 l5 => ?_) (fun h => by cases h)
          exact s_asg (setit k5 h5 l5 hs) l5.kh fun nv k6 h6 l6 rn => ⟨k6, (ll.trans l5).trans l6, _, _, _, _, rfl, rn⟩
        | some g =>
          rw [hF] at hs rf4
          have hs : bfTo l i rests (m + 1) = if gErr (cut l i (i + (m + 1))) + d.1 < g.1 then some (gErr (cut l i (i + (m + 1))) + d.1, (m + 1) :: d.2) else some g := hs
          refine s_if (b := decide (gErr (cut l i (i + (m + 1))) + d.1 < g.1)) (et_is (et_or (b := false) (et_T (ev_isN (ev_var rfl rf4))) fun _ => et_T (ev_lt (ev_var rfl rfl) (ev_ixT0 (ev_some (ev_var rfl rf4))))) (Bool.false_or _)) l4.kh (fun hb k5 h5 l5 => ?_) (fun hb k5 h5 l5 => ?_)
          · rw [if_pos (of_decide_eq_true hb)] at hs
            exact s_asg (setit k5 h5 l5 hs) l5.kh fun nv k6 h6 l6 rn => ⟨k6, (ll.trans l5).trans l6, _, _, _, _, rfl, rn⟩
          · rw [if_neg (of_decide_eq_false hb)] at hs
            refine ⟨k5, ll.trans l5, _, _, _, _, rfl, ?_⟩
            rw [hs]
            exact (rO rD).mono l5.kk rf4
      · have hn : o = none := by
          cases o with
          | none => rfl
          | some d => cases hb
        subst hn
        refine ⟨k3, (e.trans l2).trans l3, _, _, _, _, rfl, ?_⟩
        rw [bfTo_succ, step_none ho]
        exact (rO rD).mono (l2.kk.trans l3.kk) rf
    · rintro σ' k' h' ⟨e, fv, a, b, c, rfl, rf⟩
      exact s_ret (ev_var rfl rf) e.kh fun u k2 h2 l2 ru => q u k2 h2 ((l1.trans e).trans l2) ru
end
end WK
namespace WK
open PySem PySem.Spec PyProof.Rows L2 FW FS
section
variable {P : Program} {w : World} {K : PySem.W.Frag} {mg : Str → Option Value} {base : Heap} {f f1 f2 f3 : Addr} {fd fd1 fd2 fd3 : FuncData}
/-! next_rests -/
abbrev spNext : Sp := Sp2 rS rR (fun l rests => Ok l ∧ ∃ n, n ≤ 1000 ∧ RestOk l n rests) rR nextRests
theorem sc_next : FnScope ["shades", "rests", "at"] ["shades", "rests"] (defScope (top 19)) := ⟨rfl, rfl, rfl, by decide +kernel, rfl, by decide +kernel, by decide +kernel⟩
theorem ok_next (T : Tx mg) (F : Df K mg "next_rests" (top 19) ["shades", "rests"] f fd) (F1 : Df K mg "best_from" (top 18) ["shades", "at", "rests"] f1 fd1) (G1 : FnOk P w K mg base CX0 4 f1 fd1 ["shades", "at", "rests"] spBest) :
    FnOk P w K mg base CX0 5 f fd ["shades", "rests"] spNext := by
  refine F.fn.ok sc_next (fun vs H Q E h => ?_) (fun cdv A outer s H vs Q E hr h => ?_)
  · obtain ⟨k, v, u, x, y, rfl, _⟩ := h
    rfl
  · obtain ⟨k, v, u, l, rests, rfl, w, r, ru, ⟨hd, R⟩, q⟩ := h
    refine ⟨_, pss_one (ps_ret (pe_op op_cat (pe_lc (own := [("at", 2)]) (g := gName 2) (by rfl) sc_next.nd (pi_range1 (by rfl) T.range (pa_cons (pe_callB call_len_seq (by rfl) T.len PySem.boot_len (pa_cons (pv 0) pa_nil)) pa_nil)) (blkOk_by (own := [("at", 2)]) (N := ["shades", "rests", "at"]) (sc := defScope (top 19)) (by decide +kernel))
      (fun _ _ _ _ _ => pg_name (i := 2) sc_next.nd rfl (.inl rfl)) (fun _ _ _ _ _ => pts_nil) (fun _ _ _ _ _ => pe_call G1 hr (by rfl) F1.g F1.fn.kp F1.b .nil pass0 (pa_cons (pv 0) (pa_cons (pv 2) (pa_cons (pv 1) pa_nil)))))
      (pe_lst (pa_cons (pe_tup (pa_cons (pe_const T.nothing) (pa_cons (pe_lst pa_nil) pa_nil))) pa_nil)))), ?_⟩
    refine s_ret (A := rR) (x := nextRests l rests) (ev_cat (ev_lcR (n := l.length) (fun i => bestFrom l i rests) (ea_ints1 (ev_len (ev_var rfl r))) (by have := hd.1; omega) (fun _ => rfl) fun i k' h' hi e => ?_) (ev_lst1 (ev_someP (ev_tup (ev_int 0) ev_nil))) ?_) w fun z k2 h2 l2 rz => q z k2 h2 l2 rz
    · exact ev_call3 (ev_var rfl (rS.mono e.kk r)) (ev_var rfl rfl) (ev_var rfl (rR.mono e.kk ru)) ⟨hd, hi, R⟩
    · rw [List.length_map, List.length_range, List.length_singleton]
      have := hd.1
      omega
/-! best_division -/
abbrev spDiv : Sp := Sp2 rS rN (fun l k => Ok l ∧ k ≤ 13) (rO rD) bestDiv
theorem sc_div : FnScope ["shades", "colours", "rests", "turn"] ["shades", "colours"] (defScope (top 20)) := ⟨rfl, rfl, rfl, by decide +kernel, rfl, by decide +kernel, by decide +kernel⟩
theorem ok_div (T : Tx mg) (F : Df K mg "best_division" (top 20) ["shades", "colours"] f fd) (F1 : Df K mg "first_rests" (top 17) ["shades"] f1 fd1) (G1 : FnOk P w K mg base CX0 1 f1 fd1 ["shades"] spFirst)
    (F2 : Df K mg "next_rests" (top 19) ["shades", "rests"] f2 fd2) (G2 : FnOk P w K mg base CX0 5 f2 fd2 ["shades", "rests"] spNext) : FnOk P w K mg base CX0 6 f fd ["shades", "colours"] spDiv := by
  refine F.fn.ok sc_div (fun vs H Q E h => ?_) (fun cdv A outer s H vs Q E hr h => ?_)
  · obtain ⟨k, v, u, x, y, rfl, _⟩ := h
    rfl
  · obtain ⟨k, v, u, l, c, rfl, w, r, ru, ⟨hd, hc⟩, q⟩ := h
    obtain rfl : u = .int (c : Int) := ru
    refine ⟨_, pss_cons (ps_set (i := 2) sc_div.nd rfl (.inl rfl) (pe_call G1 (hr.mono (by decide)) (by rfl) F1.g F1.fn.kp F1.b .nil pass0 (pa_cons (pv 0) pa_nil)))
      (pss_cons (ps_for PassesOwn.never rfl (pi_range1 (by rfl) T.range (pa_cons (pv 1) pa_nil)) (pg_name (i := 3) sc_div.nd rfl (.inl rfl))
        (pss_one (ps_set (i := 2) sc_div.nd rfl (.inl rfl) (pe_call G2 hr (by rfl) F2.g F2.fn.kp F2.b .nil pass0 (pa_cons (pv 0) (pa_cons (pv 2) pa_nil))))))
      (pss_one (ps_ret (pe_ix ix_list (pv 2) pe_int (fun _ _ => rfl))))), ?_⟩
    refine q_asg (A := rR) (x := firstRests l) (ev_call1 (ev_var rfl r) hd.1) w fun rv k1 h1 l1 rr => ?_
    refine s_forR1 (m := (c : Int)) (n := c) (ea_ints1 (ev_var rfl rfl)) l1.kh (by omega) (by omega)
      (fun m σ' k' h' => Le k1 h1 k' h' ∧ ∃ rv a, σ' = [some v, some (.int (c : Int)), some rv, a] ∧ rR.rel k' rv (restsK l m)) (fun k2 h2 l2 => ⟨l2, _, _, rfl, rR.mono l2.kk rr⟩) ?_ ?_
    · rintro m σ' k' h' hm ⟨e, rv, a, rfl, rr⟩
      exact s_asg (A := rR) (x := nextRests l (restsK l m)) (ev_call2 (ev_var rfl (rS.mono (l1.kk.trans e.kk) r)) (ev_var rfl rr) ⟨hd, m, by omega, rests_ok l m⟩) e.kh fun nv k2 h2 l2 rn => ⟨k2, e.trans l2, _, _, rfl, rn⟩
    · rintro σ' k' h' ⟨e, rv, a, rfl, rr⟩
      exact s_ret (ev_ixL (A := rO rD) (j := 0) (ev_var rfl rr) (ev_int 0) (rests_at l c) rfl) e.kh fun u k2 h2 l2 ru => q u k2 h2 ((l1.trans e).trans l2) ru
/-! all_least_errors -/
abbrev spAllErr : Sp := Sp1 rS Ok (rL (rO rZ)) allErr
theorem sc_allErr : FnScope ["shades", "found", "rests", "colours"] ["shades"] (defScope (top 21)) := ⟨rfl, rfl, rfl, by decide +kernel, rfl, by decide +kernel, by decide +kernel⟩
theorem pair_any {k k' : Hp} : ∀ {acc : List V} {xs : List (Option Int)}, Paired ((rO rZ).rel k) acc xs → Paired ((rO rZ).rel k') acc xs
  | _, _, .nil => .nil
  | _, _, .cons (b := o) r t => .cons (match o, r with | none, r => r | some _, r => r) (pair_any t)
theorem ok_allErr (T : Tx mg) (F : Df K mg "all_least_errors" (top 21) ["shades"] f fd) (F1 : Df K mg "first_rests" (top 17) ["shades"] f1 fd1) (G1 : FnOk P w K mg base CX0 1 f1 fd1 ["shades"] spFirst)
    (F2 : Df K mg "next_rests" (top 19) ["shades", "rests"] f2 fd2) (G2 : FnOk P w K mg base CX0 5 f2 fd2 ["shades", "rests"] spNext) : FnOk P w K mg base CX0 6 f fd ["shades"] spAllErr := by
  refine F.fn.ok sc_allErr (fun vs H Q E h => ?_) (fun cdv A outer s H vs Q E hr h => ?_)
  · obtain ⟨k, v, x, rfl, _⟩ := h
    rfl
  · obtain ⟨k, v, l, rfl, w, r, hd, q⟩ := h
    refine ⟨_, pss_cons (ps_set (i := 1) sc_allErr.nd rfl (.inl rfl) (pe_lst pa_nil)) (pss_cons (ps_set (i := 2) sc_allErr.nd rfl (.inl rfl) (pe_call G1 (hr.mono (by decide)) (by rfl) F1.g F1.fn.kp F1.b .nil pass0 (pa_cons (pv 0) pa_nil)))
      (pss_cons (ps_for PassesOwn.never rfl (pi_range1 (by rfl) T.range (pa_cons (pe_op op_add (pe_callB call_len_seq (by rfl) T.len PySem.boot_len (pa_cons (pv 0) pa_nil)) pe_int) pa_nil)) (pg_name (i := 3) sc_allErr.nd rfl (.inl rfl))
        (pss_cons (ps_expr (pe_bm PySem.F.plainAttrs_list PySem.F.slot_list_append PySem.F.type_list_append mt_append (pv 1) (pa_cons (pe_ifExp (pt_cmpR op_isN (pe_ix ix_list (pv 2) pe_int (fun _ _ => rfl)) pe_non (nomark _)) pe_non
          (pe_ix ix_tup (pe_ix ix_list (pv 2) pe_int (fun _ _ => rfl)) pe_int (fun _ _ => rfl))) pa_nil)))
        (pss_one (ps_set (i := 2) sc_allErr.nd rfl (.inl rfl) (pe_call G2 hr (by rfl) F2.g F2.fn.kp F2.b .nil pass0 (pa_cons (pv 0) (pa_cons (pv 2) pa_nil)))))))
      (pss_one (ps_ret (pv 1))))), ?_⟩
    refine q_new fun p hp => ?_
    have G0 := Gr.new w hp
    refine q_asg (A := rR) (x := firstRests l) (ev_call1 (ev_var rfl r) hd.1) G0.le.kh fun rv k1 h1 l1 rr => ?_
    have G1' := G0.on l1
    refine s_forR1 (m := (l.length : Int) + 1) (n := l.length + 1) (ea_ints1 (ev_add (ev_len (ev_var rfl (rS.mono l1.kk r))) (ev_int 1))) l1.kh (by have := hd.1; omega) (by omega)
      (fun m σ' k' h' => Ex k k' ∧ ∃ acc rv a, Gr k H p k' h' acc ∧ acc.length = m ∧ σ' = [some v, some (.ref p), some rv, a] ∧ rR.rel k' rv (restsK l m) ∧ Paired ((rO rZ).rel k') acc ((List.range m).map fun k => (bestDiv l k).map (·.1)))
      (fun k2 h2 l2 => ⟨l1.kk.trans l2.kk, [], _, _, G1'.on l2, rfl, rfl, rR.mono l2.kk rr, .nil⟩) ?_ ?_
    · rintro m σ' k' h' hm ⟨ek, acc, rv, a, G, hl, rfl, rr, pr⟩
      have e0 : Ev (tOp (rIxL K) (tVar 2) (tC (.int 0))) [some v, some (.ref p), some rv, some (.int (m : Int))] k' h' (rO rD) (bestDiv l m) := ev_ixL (A := rO rD) (j := 0) (ev_var rfl rr) (ev_int 0) (rests_at l m) rfl
      have e1 : Ev (tIf (tTest (tOp rNone (tOp (rIxL K) (tVar 2) (tC (.int 0))) (tC .non))) (tC .non) (tOp (rIxT K) (tOp (rIxL K) (tVar 2) (tC (.int 0))) (tC (.int 0)))) [some v, some (.ref p), some rv, some (.int (m : Int))] k' h' (rO rZ) ((bestDiv l m).map (·.1)) := by
        refine ev_if (et_T (ev_isN e0)) (fun hb => ?_) (fun hb => ?_)
        · cases hx : bestDiv l m with
          | none => exact ev_non
          | some d => rw [hx] at hb; cases hb
        · cases hx : bestDiv l m with
          | none => rw [hx] at hb; cases hb
          | some d =>
            rw [hx] at e0
            exact ev_someI (ev_ixT0 (ev_some e0))
      refine q_grow G rfl e1 (by have := hd.1; omega) fun nv k2 h2 G2' ex2 rn => ?_
      refine s_asg (A := rR) (x := nextRests l (restsK l m)) (ev_call2 (ev_var rfl (rS.mono (ek.trans ex2) r)) (ev_var rfl (rR.mono ex2 rr)) ⟨hd, m, by have := hd.1; omega, rests_ok l m⟩) G2'.le.kh fun nr k3 h3 l3 rr3 => ?_
      refine ⟨k3, (ek.trans ex2).trans l3.kk, acc ++ [nv], _, _, G2'.on l3, by rw [List.length_append, hl]; rfl, rfl, rr3, ?_⟩
      rw [List.range_succ, List.map_append]
      exact pr_app (pair_any pr) (.cons ((rO rZ).mono l3.kk rn) .nil)
    · rintro σ' k' h' ⟨ek, acc, rv, a, G, hl, rfl, rr, pr⟩
      exact s_retG G rfl pr q
/-! groups_of -/
theorem go_app (l : Sh) : ∀ (x : List Nat) (a s : Nat), groupsGo l a (x ++ [s]) = groupsGo l a x ++ [cut l (a + x.sum) (a + x.sum + s)]
  | [], a, s => by
    show [cut l a (a + s)] = [cut l (a + 0) (a + 0 + s)]
    rw [Nat.add_zero]
  | y :: r, a, s => by
    show cut l a (a + y) :: groupsGo l (a + y) (r ++ [s]) = cut l a (a + y) :: groupsGo l (a + y) r ++ [cut l (a + (y :: r).sum) (a + (y :: r).sum + s)]
    rw [go_app l r (a + y) s, List.sum_cons, Nat.add_assoc]
    rfl
theorem sum_take_le : ∀ (x : List Nat) (i : Nat), (x.take i).sum ≤ x.sum
  | [], i => by simp
  | y :: r, 0 => by simp
  | y :: r, i + 1 => by
    rw [List.take_succ_cons, List.sum_cons, List.sum_cons]
    have := sum_take_le r i
    omega
theorem sum_more {x : List Nat} {i s : Nat} (h : x[i]? = some s) : (x.take (i + 1)).sum = (x.take i).sum + s := by
  rw [take_more h, List.sum_append]
  simp
abbrev spGroups : Sp := Sp2 rS (rL rN) (fun l z => l.length ≤ 12 ∧ z.sum ≤ l.length ∧ z.length ≤ 1000) (rL rS) groupsOf
theorem sc_groups : FnScope ["shades", "sizes", "found", "at", "size"] ["shades", "sizes"] (defScope (top 22)) := ⟨rfl, rfl, rfl, by decide +kernel, rfl, by decide +kernel, by decide +kernel⟩
theorem ok_groups (F : Df K mg "groups_of" (top 22) ["shades", "sizes"] f fd) : FnOk P w K mg base CX0 1 f fd ["shades", "sizes"] spGroups := by
  refine F.fn.ok sc_groups (fun vs H Q E h => ?_) (fun cdv A outer s H vs Q E hr h => ?_)
  · obtain ⟨k, v, u, x, y, rfl, _⟩ := h
    rfl
  · obtain ⟨k, v, u, l, z, rfl, w, r, ru, ⟨hd, hs, hz⟩, q⟩ := h
    refine ⟨_, pss_cons (ps_set (i := 2) sc_groups.nd rfl (.inl rfl) (pe_lst pa_nil)) (pss_cons (ps_set (i := 3) sc_groups.nd rfl (.inl rfl) pe_int)
      (pss_cons (ps_for PassesOwn.never rfl (pi_list (pv 1)) (pg_name (i := 4) sc_groups.nd rfl (.inl rfl))
        (pss_cons (ps_expr (pe_bm PySem.F.plainAttrs_list PySem.F.slot_list_append PySem.F.type_list_append mt_append (pv 2) (pa_cons (pe_slice sl_list (pv 0) (po_some (pv 3)) (po_some (pe_op op_add (pv 3) (pv 4)))) pa_nil)))
        (pss_one (ps_set (i := 3) sc_groups.nd rfl (.inl rfl) (pe_op op_add (pv 3) (pv 4))))))
      (pss_one (ps_ret (pv 2))))), ?_⟩
    refine q_new fun p hp => ?_
    have G0 := Gr.new w hp
    refine q_asgI (ev_int 0) G0.le.kh fun k1 h1 l1 => ?_
    refine s_for (j := 1) (A := rN) (xs := z) (v := u) (k := k1) rfl ((rL rN).mono l1.kk ru) (fun i σ' k' h' => Ex k1 k' ∧ ∃ acc a, Gr k H p k' h' acc ∧ σ' = [some v, some u, some (.ref p), some (.int (((z.take i).sum : Nat) : Int)), a] ∧ acc.length = i ∧ Paired (rS.rel k') acc (groupsGo l 0 (z.take i)))
      ⟨Ex.refl _, [], _, G0.on l1, rfl, rfl, .nil⟩ (fun i σ' k' h' ⟨e, _, _, G, _⟩ => ⟨e, G.le.kh⟩) ?_ ?_
    · rintro i s sv σ' k' h' hx ⟨e, acc, a, G, rfl, hl, pr⟩ rx
      obtain rfl : sv = .int (s : Int) := rx
      have hm := sum_more hx
      have hle := sum_take_le z (i + 1)
      have hi : i < z.length := (List.getElem?_eq_some_iff.mp hx).1
      refine q_grow G rfl (A := rS) (x := cut l (z.take i).sum ((z.take i).sum + s)) (ev_cut (i := (z.take i).sum) (j := (z.take i).sum + s) (ev_var rfl (rS.mono (l1.kk.trans e) r)) (ev_var rfl rfl) (ev_add (ev_var rfl rfl) (ev_var rfl rfl)) rfl (by omega) (by omega) (by omega)) (by omega) fun nv k2 h2 G2 e2 rn => ?_
      refine s_asgI (n := (((z.take (i + 1)).sum : Nat) : Int)) (ev_is (ev_add (ev_var rfl rfl) (ev_var rfl rfl)) (by rw [hm]; omega)) G2.le.kh fun k3 h3 l3 => ⟨k3, (e.trans e2).trans l3.kk, acc ++ [nv], _, G2.on l3, rfl, by rw [List.length_append, hl]; rfl, ?_⟩
      rw [take_more hx, go_app, Nat.zero_add]
      exact pr_app (pair_mono rS (e2.trans l3.kk) pr) (.cons (rS.mono l3.kk rn) .nil)
    · rintro σ' k' h' ⟨e, acc, a, G, rfl, hl, pr⟩
      rw [List.take_length] at pr
      exact s_retG G rfl pr q
/-! group_with -/
abbrev spGw : Sp := Sp2 (rL rN) rZ (fun _ _ => True) rN groupWith
theorem sc_gw : FnScope ["sizes", "place", "end", "number", "size"] ["sizes", "place"] (defScope (top 23)) := ⟨rfl, rfl, rfl, by decide +kernel, rfl, by decide +kernel, by decide +kernel⟩
theorem ok_gw (T : Tx mg) (F : Df K mg "group_with" (top 23) ["sizes", "place"] f fd) : FnOk P w K mg base CX0 1 f fd ["sizes", "place"] spGw := by
  refine F.fn.ok sc_gw (fun vs H Q E h => ?_) (fun cdv A outer s H vs Q E hr h => ?_)
  · obtain ⟨k, v, u, x, y, rfl, _⟩ := h
    rfl
  · obtain ⟨k, v, u, z, pl, rfl, w, r, ru, _, q⟩ := h
    obtain rfl : u = .int pl := ru
    refine ⟨_, pss_cons (ps_set (i := 2) sc_gw.nd rfl (.inl rfl) pe_int)
      (pss_cons (ps_for PassesOwn.never rfl (pi_enum (by rfl) T.enumerate (pa_cons (pv 0) pa_nil)) (pg_tup rfl (pgs_cons (pg_name (i := 3) sc_gw.nd rfl (.inl rfl)) (pgs_cons (pg_name (i := 4) sc_gw.nd rfl (.inl rfl)) pgs_nil)))
        (pss_cons (ps_set (i := 2) sc_gw.nd rfl (.inl rfl) (pe_op op_add (pv 2) (pv 4))) (pss_one (ps_if (pt_cmpR op_lt (pv 1) (pv 2) (nomark _)) (pss_one (ps_ret (pv 3))) pss_nil))))
      (pss_one (ps_ret (pe_callB call_len_seq (by rfl) T.len PySem.boot_len (pa_cons (pv 0) pa_nil))))), ?_⟩
    refine q_asgI (ev_int 0) w fun k1 h1 l1 => ?_
    refine s_forE (xs := z) (A := rN) (ev_var rfl ((rL rN).mono l1.kk r)) l1.kh (fun k2 h2 i σ' k' h' => Le k2 h2 k' h' ∧ groupWith z pl = gwGo pl (z.take i).sum i (z.drop i) ∧ ∃ a b, σ' = [some v, some (.int pl), some (.int (((z.take i).sum : Nat) : Int)), a, b])
      (fun k2 h2 l2 => ⟨l2.same, rfl, _, _, rfl⟩) (fun k2 h2 i σ' k' h' l2 ⟨e, _⟩ => ⟨e.kk, e.kh⟩) ?_ ?_
    · rintro k2 h2 i s sv σ' k' h' k3 h3 l2 hx ⟨e, hg, a, b, rfl⟩ l3 rx
      obtain rfl : sv = .int (s : Int) := rx
      have hm := sum_more hx
      have hg' : groupWith z pl = if pl < (((z.take i).sum + s : Nat) : Int) then i else gwGo pl ((z.take i).sum + s) (i + 1) (z.drop (i + 1)) := by
        rw [hg, drop_at hx]
        rfl
      refine q_asgI (n := (((z.take (i + 1)).sum : Nat) : Int)) (ev_is (ev_add (ev_var rfl rfl) (ev_var rfl rfl)) (by rw [hm]; omega)) l3.kh fun k4 h4 l4 => ?_
      rw [hm]
      refine s_if (et_T (ev_lt (ev_var rfl rfl) (ev_var rfl rfl))) l4.kh (fun hb k5 h5 l5 => ?_) (fun hb k5 h5 l5 => ?_)
      · rw [if_pos (of_decide_eq_true hb)] at hg'
        rw [hg'] at q
        exact s_ret (ev_var (A := rN) (x := i) rfl rfl) l5.kh fun u k6 h6 l6 ru => q u k6 h6 ((((((l1.trans l2).trans e).trans l3).trans l4).trans l5).trans l6) ru
      · rw [if_neg (of_decide_eq_false hb)] at hg'
        exact ⟨k5, ((e.trans l3).trans l4).trans l5, hg', ⟨_, _, rfl⟩⟩
    · rintro k2 h2 σ' k' h' l2 ⟨e, hg, a, b, rfl⟩
      rw [List.drop_length] at hg
      have hg : groupWith z pl = z.length := hg
      rw [hg] at q
      exact s_ret (ev_n (ev_len (ev_var rfl ((rL rN).mono ((l1.kk.trans l2.kk).trans e.kk) r)))) e.kh fun u k3 h3 l3 ru => q u k3 h3 (((l1.trans l2).trans e).trans l3) ru
end
end WK
namespace WK
open PySem PySem.Spec PyProof.Rows L2 FW FS
/-! ### sizes of the groups -/
structure SizeOk (l : Sh) (rests : Rs) : Prop where
  sum : ∀ (j : Nat) (d : Dv), rests[j]? = some (some d) → d.2.sum + j = l.length ∧ ∀ s ∈ d.2, 1 ≤ s
theorem step_size {l : Sh} {i : Nat} {rests : Rs} {g : Option Dv} {s : Nat} (R : SizeOk l rests) (h1 : 1 ≤ s) (h : ∀ d, g = some d → d.2.sum + i = l.length ∧ ∀ s ∈ d.2, 1 ≤ s) : ∀ d, stepSize l i rests g s = some d → d.2.sum + i = l.length ∧ ∀ s ∈ d.2, 1 ≤ s := by
  unfold stepSize
  cases hr : rests[i + s]? with
  | none => exact h
  | some o =>
    cases o with
    | none => exact h
    | some r =>
      have q := R.sum _ _ hr
      have z : (s :: r.2).sum + i = l.length ∧ ∀ x ∈ s :: r.2, 1 ≤ x := ⟨by rw [List.sum_cons]; omega, fun x hx => (List.mem_cons.mp hx).elim (fun e => e ▸ h1) (q.2 x)⟩
      intro d e
      have e : pick g (gErr (cut l i (i + s)) + r.1) (s :: r.2) = some d := e
      unfold pick at e
      cases g with
      | none =>
        cases e
        exact z
      | some g =>
        dsimp only at e
        split at e
        · cases e
          exact z
        · cases e
          exact h _ rfl
theorem best_size {l : Sh} {i : Nat} {rests : Rs} (R : SizeOk l rests) : ∀ d, bestFrom l i rests = some d → d.2.sum + i = l.length ∧ ∀ s ∈ d.2, 1 ≤ s := by
  unfold bestFrom
  have q : ∀ (ds : List Nat) (g : Option Dv), (∀ d, g = some d → d.2.sum + i = l.length ∧ ∀ s ∈ d.2, 1 ≤ s) → ∀ d, ds.foldl (fun f d => stepSize l i rests f (d + 1)) g = some d → d.2.sum + i = l.length ∧ ∀ s ∈ d.2, 1 ≤ s := by
    intro ds
    induction ds with
    | nil => intro g h; exact h
    | cons a r ih => intro g h; exact ih _ (step_size R (by omega) h)
  exact q _ none fun d e => by cases e
theorem end_size {l : Sh} {f : List (Option Dv)} (hf : f.length = l.length) (h : ∀ (j : Nat) (d : Dv), f[j]? = some (some d) → d.2.sum + j = l.length ∧ ∀ s ∈ d.2, 1 ≤ s) : SizeOk l (f ++ [some (0, [])]) := by
  refine ⟨fun j d e => ?_⟩
  by_cases c : j < f.length
  · rw [List.getElem?_append_left c] at e
    exact h j d e
  · rw [List.getElem?_append_right (by omega)] at e
    cases hj : j - f.length with
    | zero =>
      rw [hj] at e
      cases e
      exact ⟨by show 0 + j = l.length; omega, fun s hs => by cases hs⟩
    | succ m =>
      rw [hj] at e
      cases e
theorem rests_size (l : Sh) : ∀ k, SizeOk l (restsK l k)
  | 0 => end_size (by simp) fun j d e => by
    rw [List.getElem?_map] at e
    cases h : l[j]? with
    | none => rw [h] at e; cases e
    | some x => rw [h] at e; cases e
  | k + 1 => end_size (by simp) fun j d e => by
    rw [List.getElem?_map] at e
    cases h : (List.range l.length)[j]? with
    | none => rw [h] at e; cases e
    | some x =>
      rw [h] at e
      have hx : x = j := by
        rw [List.getElem?_eq_some_iff] at h
        obtain ⟨_, h⟩ := h
        rw [List.getElem_range] at h
        exact h.symm
      subst hx
      exact best_size (rests_size l k) d (Option.some.inj e)
theorem div_size {l : Sh} {k : Nat} {d : Dv} (h : bestDiv l k = some d) : d.2.sum = l.length ∧ d.2.length ≤ k ∧ ∀ s ∈ d.2, 1 ≤ s := by
  have e := rests_at l k
  rw [h] at e
  have q := (rests_size l k).sum 0 d e
  exact ⟨by omega, (rests_ok l k).sz 0 d e, q.2⟩
/-! ### there is a division -/
theorem rests_last (l : Sh) (k : Nat) : (restsK l k)[l.length]? = some (some (0, [])) := by
  cases k with
  | zero =>
    show (l.map (fun _ => none) ++ [some (0, [])])[l.length]? = _
    rw [List.getElem?_append_right (by rw [List.length_map]; exact Nat.le_refl _), List.length_map, Nat.sub_self]
    rfl
  | succ k =>
    show ((List.range l.length).map (fun i => bestFrom l i (restsK l k)) ++ [some (0, [])])[l.length]? = _
    rw [List.getElem?_append_right (by rw [List.length_map, List.length_range]; exact Nat.le_refl _), List.length_map, List.length_range, Nat.sub_self]
    rfl
theorem best_some {l : Sh} {i : Nat} {rests : Rs} {d : Dv} (hi : i < l.length) (h : rests[l.length]? = some (some d)) : (bestFrom l i rests).isSome = true := by
  obtain ⟨m, hm⟩ : ∃ m, l.length - i = m + 1 := ⟨l.length - i - 1, by omega⟩
  have e : bestFrom l i rests = bfTo l i rests (m + 1) := by
    unfold bestFrom bfTo
    rw [hm]
  rw [e, bfTo_succ, step_some (r := d) (by rw [← h]; congr 1; omega)]
  unfold pick
  cases bfTo l i rests m with
  | none => rfl
  | some g =>
    dsimp only
    split <;> rfl
theorem div_some {l : Sh} {k : Int} (hk : isK k = true) (hp : posK l k = true) : ∃ d, bestDiv l k.toNat = some d ∧ dv l k.toNat = d := by
  have s : (bestDiv l k.toNat).isSome = true := by
    unfold isK at hk
    simp at hk
    unfold posK at hp
    cases l with
    | nil => cases k.toNat <;> rfl
    | cons a r =>
      have hk1 : 0 < k := by simpa using hp
      obtain ⟨m, hm⟩ : ∃ m, k.toNat = m + 1 := ⟨k.toNat - 1, by omega⟩
      rw [hm]
      have e := rests_at (a :: r) (m + 1)
      have b := best_some (l := a :: r) (i := 0) (by simp) (rests_last (a :: r) m)
      show (restsK (a :: r) (m + 1))[0]?.join.isSome = true
      show ((List.range (a :: r).length).map (fun i => bestFrom (a :: r) i (restsK (a :: r) m)) ++ [some (0, [])])[0]?.join.isSome = true
      rw [List.getElem?_append_left (by rw [List.length_map, List.length_range]; simp), List.getElem?_map, List.getElem?_range (by simp)]
      exact b
  obtain ⟨d, hd⟩ := Option.isSome_iff_exists.mp s
  exact ⟨d, hd, by unfold dv; rw [hd]; rfl⟩
theorem div_some_succ {l : Sh} {k : Int} (hk : isK k = true) : ∃ d, bestDiv l (k.toNat + 1) = some d ∧ dv l (k.toNat + 1) = d := by
  have s : (bestDiv l (k.toNat + 1)).isSome = true := by
    cases l with
    | nil => rfl
    | cons a r =>
      have b := best_some (l := a :: r) (i := 0) (by simp) (rests_last (a :: r) k.toNat)
      show ((List.range (a :: r).length).map (fun i => bestFrom (a :: r) i (restsK (a :: r) k.toNat)) ++ [some (0, [])])[0]?.join.isSome = true
      rw [List.getElem?_append_left (by rw [List.length_map, List.length_range]; simp), List.getElem?_map, List.getElem?_range (by simp)]
      exact b
  obtain ⟨d, hd⟩ := Option.isSome_iff_exists.mp s
  exact ⟨d, hd, by unfold dv; rw [hd]; rfl⟩
theorem go_groups {l : Sh} : ∀ (z : List Nat) (a : Nat), (∀ s ∈ z, 1 ≤ s) → a + z.sum ≤ l.length → ∀ g ∈ groupsGo l a z, g ≠ [] ∧ g.Sublist l
  | [], a, _, _, g, h => by cases h
  | s :: r, a, h1, h2, g, h => by
    rw [List.sum_cons] at h2
    have hs := h1 s List.mem_cons_self
    rcases List.mem_cons.mp h with e | e
    · rw [e]
      exact ⟨cut_ne (by omega) (by omega), cut_sub⟩
    · exact go_groups r (a + s) (fun x hx => h1 x (List.mem_cons_of_mem _ hx)) (by omega) g e
theorem go_length (l : Sh) : ∀ (z : List Nat) (a : Nat), (groupsGo l a z).length = z.length
  | [], a => rfl
  | s :: r, a => by
    show (groupsGo l (a + s) r).length + 1 = r.length + 1
    rw [go_length l r]
theorem gw_lt : ∀ (z : List Nat) (pl : Int) (e n : Nat), pl < ((e + z.sum : Nat) : Int) → (e : Int) ≤ pl → gwGo pl e n z < n + z.length
  | [], pl, e, n, h, h2 => by
    simp at h
    omega
  | s :: r, pl, e, n, h, h2 => by
    show (if pl < ((e + s : Nat) : Int) then n else gwGo pl (e + s) (n + 1) r) < n + (r.length + 1)
    by_cases c : pl < ((e + s : Nat) : Int)
    · rw [if_pos c]
      omega
    · rw [if_neg c]
      rw [List.sum_cons] at h
      have := gw_lt r pl (e + s) (n + 1) (by omega) (by omega)
      omega
/-! ### a refusal -/
def Rf (CR : Addr) (E : XK) (h : Hp) (c : Int) : Prop := ∀ d h2, h d = none → Ex h h2 → h2 d = some (.xd [("code", .int c)]) → E (.ref CR) (some d) h2
theorem Rf.mono {CR : Addr} {E : XK} {h h' : Hp} {c : Int} (e : Ex h h') (r : Rf CR E h c) : Rf CR E h' c := fun d h2 hd e2 hv => r d h2 (e.none hd) (e.trans e2) hv
/-- what the top has written of the error's class -/
structure Rx (K : PySem.W.Frag) (mg : Str → Option Value) (CR fI : Addr) : Prop where
  oex : OexC K CR
  iC : PySem.W.findIn K (.ref CR) "__init__" = some (some (.ref fI))
  tI : PySem.W.typeIn K (.ref fI) = some (.type "function")
  xf : XfC K CR
  no : PySem.W.findIn K (.ref CR) "code" = some none
  gC : mg "Refused" = some (.ref CR)
  te : PySem.W.exmOne K (.ref CR) (.ref CR) = some true
  vV : PySem.W.findCls K (.type "ValueError") (.type "type") "__init__" = some (.val (.builtin "ValueError.__init__"))
/-- a method of the text -/
structure Dm (K : PySem.W.Frag) (C : Addr) (x qual : Str) (st : Stmt) (ps : List Str) (f : Addr) (fd : FuncData) : Prop where
  fn : Fun K x qual st f fd
  m : Meth K C x f
  b : Binds K fd ps []
section
variable {P : Program} {w : World} {K : PySem.W.Frag} {mg : Str → Option Value} {base : Heap} {f f1 f2 f3 fI CR CM : Addr} {fd fd1 fd2 fd3 fdI : FuncData}
def spI (CR : Addr) : Sp := fun vs H Q _ => ∃ a c, vs = [.ref a, .int c] ∧ H a = some (exo a CR none) ∧ ∀ dx, H dx = none → dx ≠ a → Q .non (upd (upd H dx (exd dx [("code", .int c)])) a (exo a CR (some dx)))
theorem sc_rinit : FnScope ["self", "code"] ["self", "code"] (defScope (inClass (top 31) 0)) := ⟨rfl, rfl, rfl, by decide +kernel, rfl, by decide +kernel, by decide +kernel⟩
theorem ok_rinit (T : Tx mg) (R : Rx K mg CR fI) (F : Fun K "__init__" "Refused.__init__" (inClass (top 31) 0) f fd) : FnOk P w K mg base CX0 1 f fd ["self", "code"] (spI CR) := by
  refine F.ok sc_rinit (fun vs H Q E h => ?_) (fun cdv A outer s H vs Q E hr h => ?_)
  · obtain ⟨a, c, rfl, _⟩ := h
    rfl
  · obtain ⟨a, c, rfl, ha, q⟩ := h
    refine ⟨_, pss_cons (ps_expr (pe_veinit (by rfl) T.ve R.vV (pa_cons (pv 0) (pa_cons pe_str pa_nil)))) (pss_one (ps_ost (pv 0) (pv 1))), ?_⟩
    refine ⟨.ref a, rfl, a, CR, [.str "refused"], rfl, by decide, R.oex, ha, ?_⟩
    exact ⟨.int c, rfl, .ref a, rfl, a, CR, rfl, R.oex, R.no, .inl ⟨ha, fun dx hdx hne => q dx hdx hne⟩⟩
def spNeed (CR : Addr) : Sp := fun vs H Q E => ∃ b c, vs = [.bl b, .int c] ∧ (b = true → Q .non H) ∧ (b = false → Rf CR E H c)
theorem sc_need : FnScope ["truth", "code"] ["truth", "code"] (defScope (top 32)) := ⟨rfl, rfl, rfl, by decide +kernel, rfl, by decide +kernel, by decide +kernel⟩
theorem ok_need (R : Rx K mg CR fI) (F : Df K mg "need" (top 32) ["truth", "code"] f fd) (bI : Binds K fdI ["self", "code"] []) (GI : FnOk P w K mg base CX0 1 fI fdI ["self", "code"] (spI CR)) : FnOk P w K mg base (L2.CX P w) 3 f fd ["truth", "code"] (spNeed CR) := by
  refine F.fn.okX sc_need (fun vs H Q E h => ?_) (fun cdv A outer s H vs Q E hr h => ?_)
  · obtain ⟨b, c, rfl, _⟩ := h
    rfl
  · obtain ⟨b, c, rfl, h1, h2⟩ := h
    refine ⟨_, pss_one (ps_if (pt_not (pt_val (pv 0))) (pss_one (ps_raise rfl (takes_of rfl rfl rfl rfl) (pmk_oex R.oex R.iC R.tI GI hr bI .nil pass0 (by rfl) R.gC (by exact (pa_cons (pv 1) pa_nil))))) pss_nil), ?_⟩
    refine ⟨.bl b, rfl, b, rfl, ?_⟩
    cases b with
    | true => exact iteF (h1 rfl)
    | false =>
      refine iteT ⟨.int c, rfl, (by show 1 ≤ 1000; decide), fun a ha => ⟨a, c, rfl, upd_same, fun dx hdx hne => ⟨rfl, dx, [("code", .int c)], upd_same, ?_, ?_, ?_⟩⟩⟩
      · rw [upd_ne hne, upd_same]
      · rw [upd_ne hne] at hdx
        exact hdx
      · rw [upd_ne hne] at hdx
        refine h2 rfl dx _ hdx (fun b o hb => ?_) upd_same
        have n1 : b ≠ a := ne_of_none hb ha
        have n2 : b ≠ dx := ne_of_none hb hdx
        rw [upd_ne n2, del_ne n1, upd_ne n1, upd_ne n2, upd_ne n1]
        exact hb
/-- need(test, code) as a statement -/
theorem q_need {te : TE} {σ : L2.St} {k h : Hp} {b : Bool} {c : Int} {D : Ends} {tz : TS} {E : XK} (hb : Ev te σ k h rB b) (wf : Ex k h) (hE : b = false → Rf CR E h c) (q : b = true → ∀ k2 h2, Le k h k2 h2 → tz D σ h2) :
    tSeq (tDrop (tCall (spNeed CR) [] E (tCons te (tCons (tC (.int c)) tNil)))) tz D σ h := hb k h (Le.refl wf) _ fun v k2 h2 l r => ⟨b, c, by rw [show v = .bl b from r]; rfl, fun e => q e k2 h2 l, fun e => (hE e).mono l.hh⟩
theorem s_need {te : TE} {σ : L2.St} {k h : Hp} {b : Bool} {c : Int} {D : Ends} {E : XK} (hb : Ev te σ k h rB b) (wf : Ex k h) (hE : b = false → Rf CR E h c) (q : b = true → ∀ k2 h2, Le k h k2 h2 → D.nx σ h2) :
    tDrop (tCall (spNeed CR) [] E (tCons te (tCons (tC (.int c)) tNil))) D σ h := hb k h (Le.refl wf) _ fun v k2 h2 l r => ⟨b, c, by rw [show v = .bl b from r]; rfl, fun e => q e k2 h2 l, fun e => (hE e).mono l.hh⟩
/-! is_level, is_count -/
abbrev spLevel : Sp := Sp1 rZ (fun _ => True) rB isLevel
theorem sc_level : FnScope ["number"] ["number"] (defScope (top 39)) := ⟨rfl, rfl, rfl, by decide +kernel, rfl, by decide +kernel, by decide +kernel⟩
theorem ok_level (T : Tx mg) (F : Df K mg "is_level" (top 39) ["number"] f fd) : FnOk P w K mg base CX0 1 f fd ["number"] spLevel := by
  refine F.fn.ok sc_level (fun vs H Q E h => ?_) (fun cdv A outer s H vs Q E hr h => ?_)
  · obtain ⟨k, v, x, rfl, _⟩ := h
    rfl
  · obtain ⟨k, v, n, rfl, w, r, _, q⟩ := h
    refine ⟨_, pss_one (ps_ret (pe_chain op_le op_le pe_int (pv 0) (pe_const T.bright))), ?_⟩
    exact s_ret (A := rB) (x := isLevel n) (ev_chain (g := fun i j => decide (i ≤ j)) (g' := fun i j => decide (i ≤ j)) (ev_int 0) (ev_var (A := rZ) rfl r) (ev_int 255)) w q
abbrev spCount : Sp := Sp1 rZ (fun _ => True) rB isCount
theorem sc_count : FnScope ["number"] ["number"] (defScope (top 40)) := ⟨rfl, rfl, rfl, by decide +kernel, rfl, by decide +kernel, by decide +kernel⟩
theorem ok_count (T : Tx mg) (F : Df K mg "is_count" (top 40) ["number"] f fd) : FnOk P w K mg base CX0 1 f fd ["number"] spCount := by
  refine F.fn.ok sc_count (fun vs H Q E h => ?_) (fun cdv A outer s H vs Q E hr h => ?_)
  · obtain ⟨k, v, x, rfl, _⟩ := h
    rfl
  · obtain ⟨k, v, n, rfl, w, r, _, q⟩ := h
    refine ⟨_, pss_one (ps_ret (pe_chain op_le op_le pe_int (pv 0) (pe_const T.mostT))), ?_⟩
    exact s_ret (A := rB) (x := isCount n) (ev_chain (g := fun i j => decide (i ≤ j)) (g' := fun i j => decide (i ≤ j)) (ev_int 1) (ev_var (A := rZ) rfl r) (ev_int 999)) w q
/-! ### class Mosaic -/
/-- what the top has written of a class with one attribute -/
structure Cx1 (K : PySem.W.Frag) (C : Addr) (a : Str) : Prop where
  cl : Cls K C
  na : NoAttr K C a
theorem lk_one {k : Str} {v : V} : List.lookup k [(k, v)] = some v := by
  simp only [List.lookup, beq_self_eq_true]
theorem lk_no {k g : Str} {v : V} (h : (k == g) = false) : List.lookup k [(g, v)] = none := by
  simp only [List.lookup, h]
/-- an instance at v that holds the shades l -/
def Mos (CM : Addr) (k H : Hp) (v : V) (l : Sh) : Prop := ∃ a dx sv, v = .ref a ∧ H a = some (.ins CM dx [("shades", sv)]) ∧ k a = none ∧ rS.rel k sv l
theorem Mos.on {k h k' h' : Hp} {v : V} {l : Sh} (e : Le k h k' h') (m : Mos CM k h v l) : Mos CM k' h' v l := by
  obtain ⟨a, dx, sv, h1, h2, h3, h4⟩ := m
  exact ⟨a, dx, sv, h1, e.hh _ _ h2, e.unk h3 h2, rS.mono e.kk h4⟩
theorem ev_shades {σ : L2.St} {k h : Hp} {v : V} {l : Sh} {i : Nat} (X : Cx1 K CM "shades") (s : σ[i]? = some (some v)) (m : Mos CM k h v l) : Ev (tFld K (tVar i) "shades") σ k h rS l := by
  obtain ⟨a, dx, sv, rfl, h2, h3, h4⟩ := m
  exact ev_fld s h2 X.cl X.na lk_one h4
def spMInit (CM : Addr) : Sp := fun vs H Q _ => ∃ p dx, vs = [.ref p] ∧ H p = some (.ins CM dx []) ∧ ∀ q, H q = none → Q .non (upd (upd H q (.lst [])) p (.ins CM dx [("shades", .ref q)]))
theorem sc_minit : FnScope ["self"] ["self"] (defScope (inClass (top 41) 0)) := ⟨rfl, rfl, rfl, by decide +kernel, rfl, by decide +kernel, by decide +kernel⟩
theorem ok_minit (X : Cx1 K CM "shades") (F : Fun K "__init__" "Mosaic.__init__" (inClass (top 41) 0) f fd) : FnOk P w K mg base CX0 1 f fd ["self"] (spMInit CM) := by
  refine F.ok sc_minit (fun vs H Q E h => ?_) (fun cdv A outer s H vs Q E hr h => ?_)
  · obtain ⟨p, dx, rfl, _⟩ := h
    rfl
  · obtain ⟨p, dx, rfl, hp, q⟩ := h
    refine ⟨_, pss_one (ps_fld (pv 0) (pe_lst pa_nil) rfl), ?_⟩
    refine ⟨by decide, fun r hr' => ⟨.ref p, rfl, p, CM, dx, [], rfl, ?_, X.cl, X.na, by decide, ?_⟩⟩
    · rw [upd_ne (ne_of_none hp hr')]
      exact hp
    · exact q r hr'
/-! promises of its methods -/
def rU : Rp Unit := ⟨fun _ _ _ => True, fun _ h => h⟩
def SpM0 {ρ : Type} (CM CR : Addr) (R : Rp ρ) (f : Sh → Except Int ρ) : Sp := fun vs H Q E => ∃ k v l, vs = [v] ∧ Ex k H ∧ Mos CM k H v l ∧ Ok l ∧ (∀ y, f l = .ok y → ∀ u k2 h2, Le k H k2 h2 → R.rel k2 u y → Q u h2) ∧ (∀ c, f l = .error c → Rf CR E H c)
def SpM1 {α ρ : Type} (CM CR : Addr) (A : Rp α) (R : Rp ρ) (f : Sh → α → Except Int ρ) : Sp := fun vs H Q E => ∃ k v a l x, vs = [v, a] ∧ Ex k H ∧ Mos CM k H v l ∧ Ok l ∧ A.rel k a x ∧
  (∀ y, f l x = .ok y → ∀ u k2 h2, Le k H k2 h2 → R.rel k2 u y → Q u h2) ∧ (∀ c, f l x = .error c → Rf CR E H c)
def SpM2 {α β ρ : Type} (CM CR : Addr) (A : Rp α) (B : Rp β) (R : Rp ρ) (f : Sh → α → β → Except Int ρ) : Sp := fun vs H Q E => ∃ k v a b l x z, vs = [v, a, b] ∧ Ex k H ∧ Mos CM k H v l ∧ Ok l ∧ A.rel k a x ∧ B.rel k b z ∧
  (∀ y, f l x z = .ok y → ∀ u k2 h2, Le k H k2 h2 → R.rel k2 u y → Q u h2) ∧ (∀ c, f l x z = .error c → Rf CR E H c)
/-- a call of such, at any value -/
def EvX {α : Type} (te : TE) (E : XK) (CR : Addr) (σ : L2.St) (k h : Hp) (A : Rp α) (o : Except Int α) : Prop := ∀ k1 h1, Le k h k1 h1 → ∀ Q : VK, (∀ y, o = .ok y → ∀ v k2 h2, Le k1 h1 k2 h2 → A.rel k2 v y → Q v h2) → (∀ c, o = .error c → Rf CR E h1 c) → te σ h1 Q
section
variable {α β ρ : Type} {A : Rp α} {B : Rp β} {R : Rp ρ} {σ : L2.St} {k h : Hp} {ta tb to : TE} {x : α} {y : β} {v : V} {l : Sh} {i : Nat} {E : XK} {D : Ends} {tz : TS} {te : TE} {m : Str}
theorem mos_ref {k h : Hp} {v : V} {l : Sh} (m : Mos CM k h v l) {n : Str} (hn : (n == ("shades" : Str)) = false) : ∃ a dx fs, v = .ref a ∧ h a = some (.ins CM dx fs) ∧ fs.lookup n = none := by
  obtain ⟨a, dx, sv, h1, h2, _⟩ := m
  exact ⟨a, dx, _, h1, h2, lk_no hn⟩
/-- the object is in a slot -/
theorem ex_m0 {f : Sh → Except Int ρ} (s : σ[i]? = some (some v)) (M : Mos CM k h v l) (hl : Ok l) (hn : (m == ("shades" : Str)) = false) : EvX (tMeth CM m (SpM0 CM CR R f) [] E (tVar i) tNil) E CR σ k h R (f l) := fun k1 h1 l1 Q q qe => by
  have M1 := M.on l1
  obtain ⟨a, dx, fs, e1, e2, e3⟩ := mos_ref M1 hn
  exact ⟨v, s, a, dx, fs, e1, e2, e3, k1, v, l, rfl, l1.kh, M1, hl, q, qe⟩
theorem ex_m1 {f : Sh → α → Except Int ρ} (s : σ[i]? = some (some v)) (M : Mos CM k h v l) (hl : Ok l) (hn : (m == ("shades" : Str)) = false) (ha : Ev ta σ k h A x) : EvX (tMeth CM m (SpM1 CM CR A R f) [] E (tVar i) (tCons ta tNil)) E CR σ k h R (f l x) := fun k1 h1 l1 Q q qe => by
  obtain ⟨a, dx, fs, e1, e2, e3⟩ := mos_ref (M.on l1) hn
  refine ⟨v, s, a, dx, fs, e1, e2, e3, ?_⟩
  exact ha k1 h1 l1 _ fun u k2 h2 l2 r => ⟨k2, v, u, l, x, rfl, l2.kh, M.on (l1.trans l2), hl, r, fun y e w k3 h3 l3 s => q y e w k3 h3 (l2.trans l3) s, fun c e => (qe c e).mono l2.hh⟩
theorem ex_m2 {f : Sh → α → β → Except Int ρ} (s : σ[i]? = some (some v)) (M : Mos CM k h v l) (hl : Ok l) (hn : (m == ("shades" : Str)) = false) (ha : Ev ta σ k h A x) (hb : Ev tb σ k h B y) : EvX (tMeth CM m (SpM2 CM CR A B R f) [] E (tVar i) (tCons ta (tCons tb tNil))) E CR σ k h R (f l x y) := fun k1 h1 l1 Q q qe => by
  obtain ⟨a, dx, fs, e1, e2, e3⟩ := mos_ref (M.on l1) hn
  refine ⟨v, s, a, dx, fs, e1, e2, e3, ?_⟩
  exact ha k1 h1 l1 _ fun u k2 h2 l2 r => hb k2 h2 (l1.trans l2) _ fun z k3 h3 l3 t => ⟨k3, v, u, z, l, x, y, rfl, l3.kh, M.on ((l1.trans l2).trans l3), hl, A.mono l3.kk r, t, fun y e w k4 h4 l4 s => q y e w k4 h4 ((l2.trans l3).trans l4) s, fun c e => (qe c e).mono (l2.hh.trans l3.hh)⟩
theorem qx_drop {o : Except Int α} (he : EvX te E CR σ k h A o) (wf : Ex k h) (hE : ∀ c, o = .error c → Rf CR E h c) (q : ∀ y, o = .ok y → ∀ k2 h2, Le k h k2 h2 → tz D σ h2) : tSeq (tDrop te) tz D σ h := he k h (Le.refl wf) _ (fun y e _ k2 h2 l _ => q y e k2 h2 l) hE
theorem qx_asg {o : Except Int α} {j : Nat} (he : EvX te E CR σ k h A o) (wf : Ex k h) (hE : ∀ c, o = .error c → Rf CR E h c) (q : ∀ y, o = .ok y → ∀ v k2 h2, Le k h k2 h2 → A.rel k2 v y → tz D (σ.set j (some v)) h2) : tSeq (tAsg te (gName j)) tz D σ h := he k h (Le.refl wf) _ q hE
theorem sx_ret {o : Except Int α} (he : EvX te E CR σ k h A o) (wf : Ex k h) (hE : ∀ c, o = .error c → Rf CR E h c) (q : ∀ y, o = .ok y → ∀ v k2 h2, Le k h k2 h2 → A.rel k2 v y → D.rt v h2) : tRet te D σ h := he k h (Le.refl wf) _ q hE
end
/-! self.shades == [] -/
def dS (s : Int × Int) : PyData := .tuple [.int s.1, .int s.2]
theorem dp_shade {k H : Hp} (e : Ex k H) : ∀ {vs : List V} {l : Sh}, Paired ((rP rZ rZ).rel k) vs l → DpAll K H vs (l.map dS)
  | _, _, .nil => .nil
  | _, _, .cons (b := x) ⟨t, a, b, h1, h2, h3, h4⟩ r => by
    rw [h1, List.map_cons]
    refine .cons (.tup (SqT.of (e _ _ h2)) ?_) (dp_shade e r)
    rw [show a = .int x.1 from h3, show b = .int x.2 from h4]
    exact .cons (.int _) (.cons (.int _) .nil)
theorem shaped_all : ∀ l : Sh, PyData.canLayAll0 (l.map dS) = true ∧ PyData.depthAll (l.map dS) ≤ 2
  | [] => ⟨rfl, by simp [PyData.depthAll]⟩
  | x :: r => by
    obtain ⟨h1, h2⟩ := shaped_all r
    rw [List.map_cons]
    refine ⟨?_, ?_⟩
    · simp only [PyData.canLayAll0, h1, dS, PyData.canLay0, Bool.and_self]
    · simp only [PyData.depthAll, dS, PyData.depth] at h2 ⊢
      omega
theorem shaped_sh (l : Sh) : SeqAt.shaped (.list (l.map dS)) = true := by
  obtain ⟨h1, h2⟩ := shaped_all l
  unfold SeqAt.shaped
  rw [Bool.and_eq_true]
  refine ⟨?_, decide_eq_true ?_⟩
  · simp only [PyData.canLay0, h1]
  · simp only [PyData.depth]
    omega
theorem eqv_nil (l : Sh) : PyData.eqv (.list (l.map dS)) (.list []) = l.isEmpty := by
  cases l <;> simp [PyData.eqv, PyData.eqvAll]
theorem ev_eqNil {σ : L2.St} {k h : Hp} {te : TE} {l : Sh} (he : Ev te σ k h rS l) : Ev (tOp (rEqD K) te (tLst tNil)) σ k h rB l.isEmpty := fun k1 h1 l1 Q q =>
  he k1 h1 l1 _ fun v k2 h2 l2 ⟨p, vs, ep, hp, pr⟩ => ⟨by decide, fun r hr => by
    have n := Le.new l2.kh hr (.lst [])
    refine ⟨.list (l.map dS), .list [], ?_, .lst (SqL.of upd_same) .nil, shaped_sh l, by decide +kernel, ?_⟩
    · rw [ep]
      exact .lst (SqL.of (n.hh _ _ (l2.kh _ _ hp))) (dp_shade (l2.kh.trans n.hh) pr)
    · rw [eqv_nil]
      exact q _ _ _ (l2.trans n) rfl⟩
/-! need_shade -/
def mNeedShade (l : Sh) (i : Int) : Except Int Unit := if isSh l i = false then .error (-2) else .ok ()
abbrev spNeedShade (CM CR : Addr) : Sp := SpM1 CM CR rZ rU mNeedShade
theorem sc_nshade : FnScope ["self", "place"] ["self", "place"] (defScope (inClass (top 41) 1)) := ⟨rfl, rfl, rfl, by decide +kernel, rfl, by decide +kernel, by decide +kernel⟩
theorem ok_nshade (T : Tx mg) (X : Cx1 K CM "shades") (F : Dm K CM "need_shade" "Mosaic.need_shade" (inClass (top 41) 1) ["self", "place"] f fd) (F1 : Df K mg "need" (top 32) ["truth", "code"] f1 fd1) (G1 : FnOk P w K mg base (L2.CX P w) 3 f1 fd1 ["truth", "code"] (spNeed CR)) :
    FnOk P w K mg base (L2.CX P w) 4 f fd ["self", "place"] (spNeedShade CM CR) := by
  refine F.fn.okX sc_nshade (fun vs H Q E h => ?_) (fun cdv A outer s H vs Q E hr h => ?_)
  · obtain ⟨k, v, a, l, x, rfl, _⟩ := h
    rfl
  · obtain ⟨k, v, a, l, x, rfl, w, M, hd, ra, q, qe⟩ := h
    obtain rfl : a = .int x := ra
    refine ⟨_, pss_one (ps_expr (pe_call G1 hr (by rfl) F1.g F1.fn.kp F1.b .nil (passes_call (takes_of rfl rfl rfl rfl) (fun _ _ _ _ h => h)) (by exact (pa_cons (pe_chain op_le op_lt pe_int (pv 1) (pe_callB call_len_seq (by rfl) T.len PySem.boot_len (pa_cons (pe_fld (pv 0) rfl) pa_nil))) (pa_cons (pe_const T.noShade) pa_nil))))), ?_⟩
    have hf : mNeedShade l x = if isSh l x = false then .error (-2) else .ok () := rfl
    refine s_need (b := isSh l x) (ev_chain (g := fun i j => decide (i ≤ j)) (g' := fun i j => decide (i < j)) (ev_int 0) (ev_var (A := rZ) rfl rfl) (ev_len (ev_shades X rfl M))) w (fun hb => qe (-2) (by rw [hf, if_pos hb])) fun hb k2 h2 l2 => q () (by rw [hf, if_neg (by rw [hb]; decide)]) _ k2 h2 l2 trivial
/-! need_colours -/
def wk {α : Type} (l : Sh) (k : Int) (r : α) : Except Int α := if isK k = false then .error (-22) else if posK l k = false then .error (-33) else .ok r
theorem wk_ok {α : Type} {l : Sh} {k : Int} {r y : α} (h : wk l k r = .ok y) : isK k = true ∧ posK l k = true ∧ r = y := by
  unfold wk at h
  by_cases c : isK k = false
  · rw [if_pos c] at h
    cases h
  · rw [if_neg c] at h
    by_cases d : posK l k = false
    · rw [if_pos d] at h
      cases h
    · rw [if_neg d] at h
      cases h
      exact ⟨by simpa using c, by simpa using d, rfl⟩
theorem wk_err {α β : Type} {l : Sh} {k : Int} {r : α} {c : Int} (r' : β) (h : wk l k r = .error c) : wk l k r' = .error c := by
  unfold wk at h ⊢
  by_cases c : isK k = false
  · rw [if_pos c] at h ⊢
    cases h
    rfl
  · rw [if_neg c] at h ⊢
    by_cases d : posK l k = false
    · rw [if_pos d] at h ⊢
      cases h
      rfl
    · rw [if_neg d] at h
      cases h
theorem wk_yes {α : Type} {l : Sh} {k : Int} (r : α) (h1 : isK k = true) (h2 : posK l k = true) : wk l k r = .ok r := by
  unfold wk
  rw [if_neg (by rw [h1]; decide), if_neg (by rw [h2]; decide)]
theorem withK_wk (l : Sh) (k : Int) (r : List Int) : withK l k r = wk l k r := rfl
def mNeedCol (l : Sh) (k : Int) : Except Int Unit := wk l k ()
abbrev spNeedCol (CM CR : Addr) : Sp := SpM1 CM CR rZ rU mNeedCol
theorem sc_ncol : FnScope ["self", "colours"] ["self", "colours"] (defScope (inClass (top 41) 2)) := ⟨rfl, rfl, rfl, by decide +kernel, rfl, by decide +kernel, by decide +kernel⟩
theorem ok_ncol (T : Tx mg) (X : Cx1 K CM "shades") (F : Dm K CM "need_colours" "Mosaic.need_colours" (inClass (top 41) 2) ["self", "colours"] f fd) (F1 : Df K mg "need" (top 32) ["truth", "code"] f1 fd1) (G1 : FnOk P w K mg base (L2.CX P w) 3 f1 fd1 ["truth", "code"] (spNeed CR)) :
    FnOk P w K mg base (L2.CX P w) 4 f fd ["self", "colours"] (spNeedCol CM CR) := by
  refine F.fn.okX sc_ncol (fun vs H Q E h => ?_) (fun cdv A outer s H vs Q E hr h => ?_)
  · obtain ⟨k, v, a, l, x, rfl, _⟩ := h
    rfl
  · obtain ⟨k, v, a, l, x, rfl, w, M, hd, ra, q, qe⟩ := h
    obtain rfl : a = .int x := ra
    refine ⟨_, pss_cons (ps_expr (pe_call G1 hr (by rfl) F1.g F1.fn.kp F1.b .nil (passes_call (takes_of rfl rfl rfl rfl) (fun _ _ _ _ h => h)) (by exact (pa_cons (pe_chain op_le op_le pe_int (pv 1) (pe_const T.mostC)) (pa_cons (pe_const T.outR) pa_nil)))))
      (pss_one (ps_expr (pe_call G1 hr (by rfl) F1.g F1.fn.kp F1.b .nil (passes_call (takes_of rfl rfl rfl rfl) (fun _ _ _ _ h => h)) (by exact (pa_cons (pe_or (pe_cmpR op_gt (pv 1) pe_int (nomark _)) (pe_one (pe_cmpR (op_eqD hr.units) (pe_fld (pv 0) rfl) (pe_lst pa_nil) (nomark _)))) (pa_cons (pe_const T.noCol) pa_nil)))))), ?_⟩
    have hf : mNeedCol l x = if isK x = false then .error (-22) else if posK l x = false then .error (-33) else .ok () := rfl
    refine q_need (b := isK x) (ev_chain (g := fun i j => decide (i ≤ j)) (g' := fun i j => decide (i ≤ j)) (ev_int 0) (ev_var (A := rZ) rfl rfl) (ev_int 12)) w (fun hb => qe (-22) (by rw [hf, if_pos hb])) fun hb k2 h2 l2 => ?_
    rw [if_neg (by rw [hb]; decide)] at hf
    refine s_need (b := posK l x) (ev_orV (ev_gt (ev_var rfl rfl) (ev_int 0)) fun _ => ev_eqNil (ev_shades X rfl (M.on l2))) l2.kh (fun hb => (qe (-33) (by rw [hf, if_pos hb])).mono l2.hh) fun hb k3 h3 l3 => q () (by rw [hf, if_neg (by rw [hb]; decide)]) _ k3 h3 (l2.trans l3) trivial
end
end WK
namespace WK
open PySem PySem.Spec PyProof.Rows L2 FW FS
section
variable {P : Program} {w : World} {K : PySem.W.Frag} {mg : Str → Option Value} {base : Heap} {f f1 f2 f3 f4 f5 f6 fI CR CM : Addr} {fd fd1 fd2 fd3 fd4 fd5 fd6 fdI : FuncData}
theorem isK_nat {x : Int} (h : isK x = true) : x = ((x.toNat : Nat) : Int) ∧ x.toNat ≤ 12 := by
  unfold isK at h
  simp at h
  omega
theorem isSh_nat {l : Sh} {x : Int} (h : isSh l x = true) : x = ((x.toNat : Nat) : Int) ∧ x.toNat < l.length := by
  unfold isSh at h
  simp at h
  omega
/-- the divisions' word, in a method behind its checks -/
theorem ev_dv {ta : TE} {σ : L2.St} {k h : Hp} {l : Sh} {x : Int} {d : Dv} {i : Nat} {E : XK} (hl : Ok l) (hk : isK x = true) (hd : bestDiv l x.toNat = some d) (hs : Ev ta σ k h rS l) (s : σ[i]? = some (some (.int x))) :
    Ev (tCall spDiv [] E (tCons ta (tCons (tVar i) tNil))) σ k h rD d :=
  ev_some (ev_is (ev_call2 hs (ev_var (A := rN) (x := x.toNat) s (show V.int x = V.int ((x.toNat : Nat) : Int) by rw [← (isK_nat hk).1])) ⟨hl, by have := (isK_nat hk).2; omega⟩) hd)
theorem gs_len {l : Sh} {k : Int} {d : Dv} (hd : dv l k.toNat = d) : gsFor l k = groupsOf l d.2 := by
  unfold gsFor
  rw [hd]
/-! best_groups_for -/
def mGroupsFor (l : Sh) (k : Int) : Except Int (List Sh) := wk l k (gsFor l k)
abbrev spGFor (CM CR : Addr) : Sp := SpM1 CM CR rZ (rL rS) mGroupsFor
theorem sc_gfor : FnScope ["self", "colours"] ["self", "colours"] (defScope (inClass (top 41) 3)) := ⟨rfl, rfl, rfl, by decide +kernel, rfl, by decide +kernel, by decide +kernel⟩
theorem ok_gfor (X : Cx1 K CM "shades") (F : Dm K CM "best_groups_for" "Mosaic.best_groups_for" (inClass (top 41) 3) ["self", "colours"] f fd) (F1 : Dm K CM "need_colours" "Mosaic.need_colours" (inClass (top 41) 2) ["self", "colours"] f1 fd1) (G1 : FnOk P w K mg base (L2.CX P w) 4 f1 fd1 ["self", "colours"] (spNeedCol CM CR))
    (F2 : Df K mg "groups_of" (top 22) ["shades", "sizes"] f2 fd2) (G2 : FnOk P w K mg base CX0 1 f2 fd2 ["shades", "sizes"] spGroups) (F3 : Df K mg "best_division" (top 20) ["shades", "colours"] f3 fd3) (G3 : FnOk P w K mg base CX0 6 f3 fd3 ["shades", "colours"] spDiv) :
    FnOk P w K mg base (L2.CX P w) 7 f fd ["self", "colours"] (spGFor CM CR) := by
  refine F.fn.okX sc_gfor (fun vs H Q E h => ?_) (fun cdv A outer s H vs Q E hr h => ?_)
  · obtain ⟨k, v, a, l, x, rfl, _⟩ := h
    rfl
  · obtain ⟨k, v, a, l, x, rfl, w, M, hd, ra, q, qe⟩ := h
    obtain rfl : a = .int x := ra
    refine ⟨_, pss_cons (ps_expr (pe_meth (pv 0) X.cl F1.m G1 (hr.mono (by decide)) F1.b .nil (passes_call (takes_of rfl rfl rfl rfl) (fun _ _ _ _ h => h)) (by exact (pa_cons (pv 1) pa_nil))))
      (PSs.nox (pss_one (ps_ret (pe_call G2 (hr.mono (by decide)) (by rfl) F2.g F2.fn.kp F2.b .nil pass0 (pa_cons (pe_fld (pv 0) rfl) (pa_cons (pe_ix ix_tup (pe_call G3 hr (by rfl) F3.g F3.fn.kp F3.b .nil pass0 (pa_cons (pe_fld (pv 0) rfl) (pa_cons (pv 1) pa_nil))) pe_int (fun _ _ => rfl)) pa_nil)))))), ?_⟩
    refine qx_drop (ex_m1 (A := rZ) (x := x) rfl M hd (by decide +kernel) (ev_var rfl rfl)) w (fun c e => qe c (wk_err _ e)) fun y e k1 h1 l1 => ?_
    obtain ⟨hk, hp, _⟩ := wk_ok e
    obtain ⟨d, hdv, hdd⟩ := div_some hk hp
    have hz := div_size hdv
    have M1 := M.on l1
    have hk12 := (isK_nat hk).2
    refine s_ret (A := rL rS) (x := gsFor l x) ?_ l1.kh fun u k2 h2 l2 ru => q _ (wk_yes _ hk hp) u k2 h2 (l1.trans l2) ru
    rw [gs_len hdd]
    exact ev_call2 (ev_shades X rfl M1) (ev_ixT1 (ev_dv hd hk hdv (ev_shades X rfl M1) rfl)) ⟨hd.1, by omega, by omega⟩
/-! min_error -/
abbrev spMinE (CM CR : Addr) : Sp := SpM1 CM CR rZ (rL rZ) qMinError
theorem sc_mine : FnScope ["self", "colours"] ["self", "colours"] (defScope (inClass (top 41) 7)) := ⟨rfl, rfl, rfl, by decide +kernel, rfl, by decide +kernel, by decide +kernel⟩
theorem ok_mine (X : Cx1 K CM "shades") (F : Dm K CM "min_error" "Mosaic.min_error" (inClass (top 41) 7) ["self", "colours"] f fd) (F1 : Dm K CM "need_colours" "Mosaic.need_colours" (inClass (top 41) 2) ["self", "colours"] f1 fd1) (G1 : FnOk P w K mg base (L2.CX P w) 4 f1 fd1 ["self", "colours"] (spNeedCol CM CR))
    (F3 : Df K mg "best_division" (top 20) ["shades", "colours"] f3 fd3) (G3 : FnOk P w K mg base CX0 6 f3 fd3 ["shades", "colours"] spDiv) :
    FnOk P w K mg base (L2.CX P w) 7 f fd ["self", "colours"] (spMinE CM CR) := by
  refine F.fn.okX sc_mine (fun vs H Q E h => ?_) (fun cdv A outer s H vs Q E hr h => ?_)
  · obtain ⟨k, v, a, l, x, rfl, _⟩ := h
    rfl
  · obtain ⟨k, v, a, l, x, rfl, w, M, hd, ra, q, qe⟩ := h
    obtain rfl : a = .int x := ra
    refine ⟨_, pss_cons (ps_expr (pe_meth (pv 0) X.cl F1.m G1 (hr.mono (by decide)) F1.b .nil (passes_call (takes_of rfl rfl rfl rfl) (fun _ _ _ _ h => h)) (by exact (pa_cons (pv 1) pa_nil))))
      (PSs.nox (pss_one (ps_ret (pe_lst (pa_cons (pe_ix ix_tup (pe_call G3 hr (by rfl) F3.g F3.fn.kp F3.b .nil pass0 (pa_cons (pe_fld (pv 0) rfl) (pa_cons (pv 1) pa_nil))) pe_int (fun _ _ => rfl)) pa_nil))))), ?_⟩
    refine qx_drop (ex_m1 (A := rZ) (x := x) rfl M hd (by decide +kernel) (ev_var rfl rfl)) w (fun c e => qe c (wk_err _ e)) fun y e k1 h1 l1 => ?_
    obtain ⟨hk, hp, _⟩ := wk_ok e
    obtain ⟨d, hdv, hdd⟩ := div_some hk hp
    refine s_ret (A := rL rZ) (x := [(dv l x.toNat).1]) ?_ l1.kh fun u k2 h2 l2 ru => q _ (wk_yes _ hk hp) u k2 h2 (l1.trans l2) ru
    rw [hdd]
    exact ev_lst1 (ev_ixT0 (ev_dv hd hk hdv (ev_shades X rfl (M.on l1)) rfl))
/-! error_reduction -/
abbrev spRed (CM CR : Addr) : Sp := SpM1 CM CR rZ (rL rZ) qReduction
theorem sc_red : FnScope ["self", "colours"] ["self", "colours"] (defScope (inClass (top 41) 11)) := ⟨rfl, rfl, rfl, by decide +kernel, rfl, by decide +kernel, by decide +kernel⟩
theorem ok_red (X : Cx1 K CM "shades") (F : Dm K CM "error_reduction" "Mosaic.error_reduction" (inClass (top 41) 11) ["self", "colours"] f fd) (F1 : Dm K CM "need_colours" "Mosaic.need_colours" (inClass (top 41) 2) ["self", "colours"] f1 fd1) (G1 : FnOk P w K mg base (L2.CX P w) 4 f1 fd1 ["self", "colours"] (spNeedCol CM CR))
    (F3 : Df K mg "best_division" (top 20) ["shades", "colours"] f3 fd3) (G3 : FnOk P w K mg base CX0 6 f3 fd3 ["shades", "colours"] spDiv) :
    FnOk P w K mg base (L2.CX P w) 7 f fd ["self", "colours"] (spRed CM CR) := by
  refine F.fn.okX sc_red (fun vs H Q E h => ?_) (fun cdv A outer s H vs Q E hr h => ?_)
  · obtain ⟨k, v, a, l, x, rfl, _⟩ := h
    rfl
  · obtain ⟨k, v, a, l, x, rfl, w, M, hd, ra, q, qe⟩ := h
    obtain rfl : a = .int x := ra
    refine ⟨_, pss_cons (ps_expr (pe_meth (pv 0) X.cl F1.m G1 (hr.mono (by decide)) F1.b .nil (passes_call (takes_of rfl rfl rfl rfl) (fun _ _ _ _ h => h)) (by exact (pa_cons (pv 1) pa_nil))))
      (PSs.nox (pss_one (ps_ret (pe_lst (pa_cons (pe_op op_sub (pe_ix ix_tup (pe_call G3 hr (by rfl) F3.g F3.fn.kp F3.b .nil pass0 (pa_cons (pe_fld (pv 0) rfl) (pa_cons (pv 1) pa_nil))) pe_int (fun _ _ => rfl))
        (pe_ix ix_tup (pe_call G3 hr (by rfl) F3.g F3.fn.kp F3.b .nil pass0 (pa_cons (pe_fld (pv 0) rfl) (pa_cons (pe_op op_add (pv 1) pe_int) pa_nil))) pe_int (fun _ _ => rfl))) pa_nil))))), ?_⟩
    refine qx_drop (ex_m1 (A := rZ) (x := x) rfl M hd (by decide +kernel) (ev_var rfl rfl)) w (fun c e => qe c (wk_err _ e)) fun y e k1 h1 l1 => ?_
    obtain ⟨hk, hp, _⟩ := wk_ok e
    obtain ⟨d, hdv, hdd⟩ := div_some hk hp
    obtain ⟨d2, hdv2, hdd2⟩ := div_some_succ (l := l) hk
    have hk2 := isK_nat hk
    refine s_ret (A := rL rZ) (x := [(dv l x.toNat).1 - (dv l (x.toNat + 1)).1]) ?_ l1.kh fun u k2 h2 l2 ru => q _ (wk_yes _ hk hp) u k2 h2 (l1.trans l2) ru
    rw [hdd, hdd2]
    refine ev_lst1 (ev_sub (ev_ixT0 (ev_dv hd hk hdv (ev_shades X rfl (M.on l1)) rfl)) (ev_ixT0 (A := rZ) (B := rL rN) (ev_some (ev_is (ev_call2 (ev_shades X rfl (M.on l1)) (ev_n (n := x.toNat + 1) (ev_is (ev_add (ev_var rfl rfl) (ev_int 1)) (by omega))) ⟨hd, by omega⟩) hdv2))))
/-! best_palette -/
theorem gs_ok {l : Sh} {k : Int} (hl : Ok l) (hk : isK k = true) (hp : posK l k = true) : (gsFor l k).length ≤ 12 ∧ ∀ g ∈ gsFor l k, Ok g ∧ g ≠ [] := by
  obtain ⟨d, hdv, hdd⟩ := div_some hk hp
  have hz := div_size hdv
  have hk12 := (isK_nat hk).2
  rw [gs_len hdd]
  refine ⟨?_, fun g hg => ?_⟩
  · unfold groupsOf
    rw [go_length]
    omega
  · have := go_groups d.2 0 hz.2.2 (by omega) g hg
    exact ⟨hl.sub this.2, this.1⟩
abbrev spPalette (CM CR : Addr) : Sp := SpM1 CM CR rZ (rL rZ) qPalette
theorem sc_palette : FnScope ["self", "colours", "groups", "group"] ["self", "colours"] (defScope (inClass (top 41) 8)) := ⟨rfl, rfl, rfl, by decide +kernel, rfl, by decide +kernel, by decide +kernel⟩
theorem ok_palette (T : Tx mg) (X : Cx1 K CM "shades") (F : Dm K CM "best_palette" "Mosaic.best_palette" (inClass (top 41) 8) ["self", "colours"] f fd) (F1 : Dm K CM "best_groups_for" "Mosaic.best_groups_for" (inClass (top 41) 3) ["self", "colours"] f1 fd1) (G1 : FnOk P w K mg base (L2.CX P w) 7 f1 fd1 ["self", "colours"] (spGFor CM CR))
    (F3 : Df K mg "median_of" (top 10) ["shades"] f3 fd3) (G3 : FnOk P w K mg base CX0 2 f3 fd3 ["shades"] spMed) :
    FnOk P w K mg base (L2.CX P w) 8 f fd ["self", "colours"] (spPalette CM CR) := by
  refine F.fn.okX sc_palette (fun vs H Q E h => ?_) (fun cdv A outer s H vs Q E hr h => ?_)
  · obtain ⟨k, v, a, l, x, rfl, _⟩ := h
    rfl
  · obtain ⟨k, v, a, l, x, rfl, w, M, hd, ra, q, qe⟩ := h
    obtain rfl : a = .int x := ra
    refine ⟨_, pss_cons (ps_set (i := 2) sc_palette.nd rfl (.inl rfl) (pe_meth (pv 0) X.cl F1.m G1 hr F1.b .nil (passes_call (takes_of rfl rfl rfl rfl) (fun _ _ _ _ h => h)) (by exact (pa_cons (pv 1) pa_nil))))
      (PSs.nox (pss_one (ps_ret (pe_op op_cat (pe_lst (pa_cons (pe_callB call_len_seq (by rfl) T.len PySem.boot_len (pa_cons (pv 2) pa_nil)) pa_nil))
        (pe_lc (own := [("group", 3)]) (g := gName 3) (by rfl) sc_palette.nd (pi_list (pv 2)) (blkOk_by (own := [("group", 3)]) (N := ["self", "colours", "groups", "group"]) (sc := defScope (inClass (top 41) 8)) (by decide +kernel))
          (fun _ _ _ _ _ => pg_name (i := 3) sc_palette.nd rfl (.inl rfl)) (fun _ _ _ _ _ => pts_nil) (fun _ _ _ _ _ => pe_call G3 (hr.mono (by decide)) (by rfl) F3.g F3.fn.kp F3.b .nil pass0 (pa_cons (pv 3) pa_nil))))))), ?_⟩
    refine qx_asg (ex_m1 (A := rZ) (x := x) rfl M hd (by decide +kernel) (ev_var rfl rfl)) w (fun c e => qe c (wk_err _ e)) fun y e gv k1 h1 l1 rg => ?_
    obtain ⟨hk, hp, rfl⟩ := wk_ok e
    have G := gs_ok hd hk hp
    refine s_ret (A := rL rZ) (x := ((gsFor l x).length : Int) :: (gsFor l x).map med) (ev_cat (xs := [((gsFor l x).length : Int)]) (ev_lst1 (ev_len (ev_var rfl rg))) (ev_lcM (A := rS) med (ev_var rfl rg) (by omega) (fun _ => rfl) fun g a k' h' hx e ra => ev_call1 (ev_var rfl ra) (G.2 g hx)) ?_) l1.kh
      fun u k2 h2 l2 ru => q _ (wk_yes _ hk hp) u k2 h2 (l1.trans l2) ru
    rw [List.length_map, List.length_singleton]
    omega
/-! group_counts -/
abbrev spCounts (CM CR : Addr) : Sp := SpM1 CM CR rZ (rL rZ) qCounts
theorem sc_counts : FnScope ["self", "colours", "groups", "group"] ["self", "colours"] (defScope (inClass (top 41) 16)) := ⟨rfl, rfl, rfl, by decide +kernel, rfl, by decide +kernel, by decide +kernel⟩
theorem ok_counts (T : Tx mg) (X : Cx1 K CM "shades") (F : Dm K CM "group_counts" "Mosaic.group_counts" (inClass (top 41) 16) ["self", "colours"] f fd) (F1 : Dm K CM "best_groups_for" "Mosaic.best_groups_for" (inClass (top 41) 3) ["self", "colours"] f1 fd1) (G1 : FnOk P w K mg base (L2.CX P w) 7 f1 fd1 ["self", "colours"] (spGFor CM CR))
    (F3 : Df K mg "tiles_of" (top 1) ["shades"] f3 fd3) (G3 : FnOk P w K mg base CX0 1 f3 fd3 ["shades"] spTiles) :
    FnOk P w K mg base (L2.CX P w) 8 f fd ["self", "colours"] (spCounts CM CR) := by
  refine F.fn.okX sc_counts (fun vs H Q E h => ?_) (fun cdv A outer s H vs Q E hr h => ?_)
  · obtain ⟨k, v, a, l, x, rfl, _⟩ := h
    rfl
  · obtain ⟨k, v, a, l, x, rfl, w, M, hd, ra, q, qe⟩ := h
    obtain rfl : a = .int x := ra
    refine ⟨_, pss_cons (ps_set (i := 2) sc_counts.nd rfl (.inl rfl) (pe_meth (pv 0) X.cl F1.m G1 hr F1.b .nil (passes_call (takes_of rfl rfl rfl rfl) (fun _ _ _ _ h => h)) (by exact (pa_cons (pv 1) pa_nil))))
      (PSs.nox (pss_one (ps_ret (pe_op op_cat (pe_lst (pa_cons (pe_callB call_len_seq (by rfl) T.len PySem.boot_len (pa_cons (pv 2) pa_nil)) pa_nil))
        (pe_lc (own := [("group", 3)]) (g := gName 3) (by rfl) sc_counts.nd (pi_list (pv 2)) (blkOk_by (own := [("group", 3)]) (N := ["self", "colours", "groups", "group"]) (sc := defScope (inClass (top 41) 16)) (by decide +kernel))
          (fun _ _ _ _ _ => pg_name (i := 3) sc_counts.nd rfl (.inl rfl)) (fun _ _ _ _ _ => pts_nil) (fun _ _ _ _ _ => pe_call G3 (hr.mono (by decide)) (by rfl) F3.g F3.fn.kp F3.b .nil pass0 (pa_cons (pv 3) pa_nil))))))), ?_⟩
    refine qx_asg (ex_m1 (A := rZ) (x := x) rfl M hd (by decide +kernel) (ev_var rfl rfl)) w (fun c e => qe c (wk_err _ e)) fun y e gv k1 h1 l1 rg => ?_
    obtain ⟨hk, hp, rfl⟩ := wk_ok e
    have G := gs_ok hd hk hp
    refine s_ret (A := rL rZ) (x := ((gsFor l x).length : Int) :: (gsFor l x).map tiles) (ev_cat (xs := [((gsFor l x).length : Int)]) (ev_lst1 (ev_len (ev_var rfl rg))) (ev_lcM (A := rS) tiles (ev_var rfl rg) (by omega) (fun _ => rfl) fun g a k' h' hx e ra => ev_call1 (ev_var rfl ra) trivial) ?_) l1.kh
      fun u k2 h2 l2 ru => q _ (wk_yes _ hk hp) u k2 h2 (l1.trans l2) ru
    rw [List.length_map, List.length_singleton]
    omega
/-! best_groups -/
theorem q_newI1 {te : TE} {σ : L2.St} {k h : Hp} {n : Int} {i : Nat} {D : Ends} {tz : TS} (he : Ev te σ k h rZ n) (wf : Ex k h) (q : ∀ p k2 h2, GrI k h p k2 h2 [n] → Ex k k2 → tz D (σ.set i (some (.ref p))) h2) : tSeq (tAsg (tLst (tCons te tNil)) (gName i)) tz D σ h :=
  he k h (Le.refl wf) _ fun v k2 h2 l r => ⟨by show 1 ≤ sizeLine; decide, fun p hp => q p k2 _ (by
    have z : v = .int n := r
    rw [z]
    exact ⟨l.trans (Le.newh l.kh hp _), l.hh.none hp, l.kh.none hp, upd_same⟩) l.kk⟩
theorem fm_app {l : List Sh} {i : Nat} {g : Sh} (h : l[i]? = some g) : (l.take (i + 1)).flatMap (fun g => [(g.length : Int), gErr g]) = (l.take i).flatMap (fun g => [(g.length : Int), gErr g]) ++ [(g.length : Int)] ++ [gErr g] := by
  rw [take_more h, List.flatMap_append]
  simp
theorem fm_len2 : ∀ l : List Sh, (l.flatMap fun g => [(g.length : Int), gErr g]).length = 2 * l.length
  | [] => rfl
  | x :: r => by
    show ([(x.length : Int), gErr x] ++ r.flatMap fun g => [(g.length : Int), gErr g]).length = 2 * (r.length + 1)
    rw [List.length_append, fm_len2 r]
    show 2 + _ = _
    omega
abbrev spGroupsQ (CM CR : Addr) : Sp := SpM1 CM CR rZ (rL rZ) qGroups
theorem sc_groupsq : FnScope ["self", "colours", "groups", "found", "group"] ["self", "colours"] (defScope (inClass (top 41) 9)) := ⟨rfl, rfl, rfl, by decide +kernel, rfl, by decide +kernel, by decide +kernel⟩
theorem ok_groupsq (T : Tx mg) (X : Cx1 K CM "shades") (F : Dm K CM "best_groups" "Mosaic.best_groups" (inClass (top 41) 9) ["self", "colours"] f fd) (F1 : Dm K CM "best_groups_for" "Mosaic.best_groups_for" (inClass (top 41) 3) ["self", "colours"] f1 fd1) (G1 : FnOk P w K mg base (L2.CX P w) 7 f1 fd1 ["self", "colours"] (spGFor CM CR))
    (F3 : Df K mg "group_error" (top 11) ["shades"] f3 fd3) (G3 : FnOk P w K mg base CX0 3 f3 fd3 ["shades"] spGErr) :
    FnOk P w K mg base (L2.CX P w) 8 f fd ["self", "colours"] (spGroupsQ CM CR) := by
  refine F.fn.okX sc_groupsq (fun vs H Q E h => ?_) (fun cdv A outer s H vs Q E hr h => ?_)
  · obtain ⟨k, v, a, l, x, rfl, _⟩ := h
    rfl
  · obtain ⟨k, v, a, l, x, rfl, w, M, hd, ra, q, qe⟩ := h
    obtain rfl : a = .int x := ra
    refine ⟨_, pss_cons (ps_set (i := 2) sc_groupsq.nd rfl (.inl rfl) (pe_meth (pv 0) X.cl F1.m G1 hr F1.b .nil (passes_call (takes_of rfl rfl rfl rfl) (fun _ _ _ _ h => h)) (by exact (pa_cons (pv 1) pa_nil))))
      (PSs.nox (pss_cons (ps_set (i := 3) sc_groupsq.nd rfl (.inl rfl) (pe_lst (pa_cons (pe_callB call_len_seq (by rfl) T.len PySem.boot_len (pa_cons (pv 2) pa_nil)) pa_nil)))
      (pss_cons (ps_for PassesOwn.never rfl (pi_list (pv 2)) (pg_name (i := 4) sc_groupsq.nd rfl (.inl rfl))
        (pss_cons (ps_expr (pe_bm PySem.F.plainAttrs_list PySem.F.slot_list_append PySem.F.type_list_append mt_append (pv 3) (pa_cons (pe_callB call_len_seq (by rfl) T.len PySem.boot_len (pa_cons (pv 4) pa_nil)) pa_nil)))
        (pss_one (ps_expr (pe_bm PySem.F.plainAttrs_list PySem.F.slot_list_append PySem.F.type_list_append mt_append (pv 3) (pa_cons (pe_call G3 (hr.mono (by decide)) (by rfl) F3.g F3.fn.kp F3.b .nil pass0 (pa_cons (pv 4) pa_nil)) pa_nil))))))
      (pss_one (ps_ret (pv 3)))))), ?_⟩
    refine qx_asg (ex_m1 (A := rZ) (x := x) rfl M hd (by decide +kernel) (ev_var rfl rfl)) w (fun c e => qe c (wk_err _ e)) fun y e gv k1 h1 l1 rg => ?_
    obtain ⟨hk, hp, rfl⟩ := wk_ok e
    have G := gs_ok hd hk hp
    refine q_newI1 (ev_len (ev_var rfl rg)) l1.kh fun p k2 h2 G2 e2 => ?_
    refine s_for (j := 2) (A := rS) (xs := gsFor l x) (v := gv) (k := k2) rfl ((rL rS).mono e2 rg) (fun i σ' k' h' => Ex k2 k' ∧ ∃ a, GrI k1 h1 p k' h' (((gsFor l x).length : Int) :: ((gsFor l x).take i).flatMap fun g => [(g.length : Int), gErr g]) ∧ σ' = [some v, some (.int x), some gv, some (.ref p), a])
      ⟨Ex.refl _, _, G2, rfl⟩ (fun i σ' k' h' ⟨e, _, G, _⟩ => ⟨e, G.le.kh⟩) ?_ ?_
    · rintro i g gu σ' k' h' hx ⟨ek, a, GG, rfl⟩ rx
      have hlen : (((gsFor l x).take i).flatMap fun g => [(g.length : Int), gErr g]).length ≤ 24 := by
        rw [fm_len2, List.length_take]
        omega
      refine q_growI GG rfl (ev_len (ev_var (A := rS) rfl rx)) (by rw [List.length_cons]; omega) fun k3 h3 G3' e3 => ?_
      refine s_growI G3' rfl (ev_call1 (ev_var rfl (rS.mono e3 rx)) (G.2 g (List.mem_of_getElem? hx))) (by rw [List.length_append, List.length_cons, List.length_singleton]; omega) fun k4 h4 G4 e4 => ⟨k4, (ek.trans e3).trans e4, _, ?_, rfl⟩
      rw [fm_app hx]
      exact G4
    · rintro σ' k' h' ⟨ek, a, GG, rfl⟩
      rw [List.take_length] at GG
      exact s_retG GG rfl (ints_pr _) fun u k3 h3 l3 ru => q _ (wk_yes _ hk hp) u k3 h3 (l1.trans l3) ru
/-! totals, describe, error_table -/
abbrev spTotals (CM CR : Addr) : Sp := SpM0 CM CR (rL rZ) qTotals
theorem sc_totals : FnScope ["self"] ["self"] (defScope (inClass (top 41) 17)) := ⟨rfl, rfl, rfl, by decide +kernel, rfl, by decide +kernel, by decide +kernel⟩
theorem ok_totals (T : Tx mg) (X : Cx1 K CM "shades") (F : Dm K CM "totals" "Mosaic.totals" (inClass (top 41) 17) ["self"] f fd) (F1 : Df K mg "tiles_of" (top 1) ["shades"] f1 fd1) (G1 : FnOk P w K mg base CX0 1 f1 fd1 ["shades"] spTiles) : FnOk P w K mg base CX0 2 f fd ["self"] (spTotals CM CR) := by
  refine F.fn.ok sc_totals (fun vs H Q E h => ?_) (fun cdv A outer s H vs Q E hr h => ?_)
  · obtain ⟨k, v, l, rfl, _⟩ := h
    rfl
  · obtain ⟨k, v, l, rfl, w, M, hd, q, qe⟩ := h
    refine ⟨_, pss_one (ps_ret (pe_lst (pa_cons (pe_callB call_len_seq (by rfl) T.len PySem.boot_len (pa_cons (pe_fld (pv 0) rfl) pa_nil)) (pa_cons (pe_call G1 hr (by rfl) F1.g F1.fn.kp F1.b .nil pass0 (pa_cons (pe_fld (pv 0) rfl) pa_nil)) pa_nil)))), ?_⟩
    exact s_ret (ev_lst2 (ev_len (ev_shades X rfl M)) (ev_call1 (ev_shades X rfl M) trivial)) w (q _ rfl)
abbrev spDescr (CM CR : Addr) : Sp := SpM0 CM CR (rL rZ) qDescribe
theorem sc_descr : FnScope ["self"] ["self"] (defScope (inClass (top 41) 18)) := ⟨rfl, rfl, rfl, by decide +kernel, rfl, by decide +kernel, by decide +kernel⟩
theorem ok_descr (T : Tx mg) (X : Cx1 K CM "shades") (F : Dm K CM "describe" "Mosaic.describe" (inClass (top 41) 18) ["self"] f fd) (F1 : Df K mg "flat" (top 7) ["shades"] f1 fd1) (G1 : FnOk P w K mg base CX0 1 f1 fd1 ["shades"] spFlat) : FnOk P w K mg base CX0 2 f fd ["self"] (spDescr CM CR) := by
  refine F.fn.ok sc_descr (fun vs H Q E h => ?_) (fun cdv A outer s H vs Q E hr h => ?_)
  · obtain ⟨k, v, l, rfl, _⟩ := h
    rfl
  · obtain ⟨k, v, l, rfl, w, M, hd, q, qe⟩ := h
    refine ⟨_, pss_one (ps_ret (pe_op op_cat (pe_lst (pa_cons (pe_callB call_len_seq (by rfl) T.len PySem.boot_len (pa_cons (pe_fld (pv 0) rfl) pa_nil)) pa_nil)) (pe_call G1 hr (by rfl) F1.g F1.fn.kp F1.b .nil pass0 (pa_cons (pe_fld (pv 0) rfl) pa_nil)))), ?_⟩
    refine s_ret (A := rL rZ) (x := (l.length : Int) :: FS.flat l) (ev_cat (xs := [(l.length : Int)]) (ys := FS.flat l) (ev_lst1 (ev_len (ev_shades X rfl M))) (ev_call1 (ev_shades X rfl M) hd.1) ?_) w (q _ rfl)
    rw [flat_len, List.length_singleton]
    have := hd.1
    omega
abbrev spTable (CM CR : Addr) : Sp := SpM0 CM CR (rL rZ) qTable
theorem sc_table : FnScope ["self", "errors", "error"] ["self"] (defScope (inClass (top 41) 12)) := ⟨rfl, rfl, rfl, by decide +kernel, rfl, by decide +kernel, by decide +kernel⟩
theorem ok_table (T : Tx mg) (X : Cx1 K CM "shades") (F : Dm K CM "error_table" "Mosaic.error_table" (inClass (top 41) 12) ["self"] f fd) (F1 : Df K mg "all_least_errors" (top 21) ["shades"] f1 fd1) (G1 : FnOk P w K mg base CX0 6 f1 fd1 ["shades"] spAllErr) : FnOk P w K mg base CX0 7 f fd ["self"] (spTable CM CR) := by
  refine F.fn.ok sc_table (fun vs H Q E h => ?_) (fun cdv A outer s H vs Q E hr h => ?_)
  · obtain ⟨k, v, l, rfl, _⟩ := h
    rfl
  · obtain ⟨k, v, l, rfl, w, M, hd, q, qe⟩ := h
    refine ⟨_, pss_cons (ps_set (i := 1) sc_table.nd rfl (.inl rfl) (pe_call G1 hr (by rfl) F1.g F1.fn.kp F1.b .nil pass0 (pa_cons (pe_fld (pv 0) rfl) pa_nil)))
      (pss_one (ps_ret (pe_op op_cat (pe_lst (pa_cons (pe_callB call_len_seq (by rfl) T.len PySem.boot_len (pa_cons (pe_fld (pv 0) rfl) pa_nil)) pa_nil))
        (pe_lc (own := [("error", 2)]) (g := gName 2) (by rfl) sc_table.nd (pi_list (pv 1)) (blkOk_by (own := [("error", 2)]) (N := ["self", "errors", "error"]) (sc := defScope (inClass (top 41) 12)) (by decide +kernel))
          (fun _ _ _ _ _ => pg_name (i := 2) sc_table.nd rfl (.inl rfl)) (fun _ _ _ _ _ => pts_nil) (fun _ _ _ _ _ => pe_ifExp (pt_cmpR op_isN (pv 2) pe_non (nomark _)) (pe_const T.noDiv) (pv 2)))))), ?_⟩
    refine q_asg (A := rL (rO rZ)) (x := allErr l) (ev_call1 (ev_shades X rfl M) hd) w fun ev k1 h1 l1 re => ?_
    have hlen : (allErr l).length = l.length + 1 := by
      unfold allErr
      rw [List.length_map, List.length_range]
    refine s_ret (A := rL rZ) (x := (l.length : Int) :: (allErr l).map fun e => e.getD (-1)) (ev_cat (xs := [(l.length : Int)]) (ev_lst1 (ev_len (ev_shades X rfl (M.on l1)))) (ev_lcM (A := rO rZ) (fun e => e.getD (-1)) (ev_var rfl re) (by have := hd.1; omega) (fun _ => rfl) fun o a k' h' hx e ra => ?_) ?_) l1.kh fun u k2 h2 l2 ru => q _ rfl u k2 h2 (l1.trans l2) ru
    · refine ev_if (et_T (ev_isN (ev_var rfl ra))) (fun hb => ?_) (fun hb => ?_)
      · cases o with
        | none => exact ev_int (-1)
        | some z => cases hb
      · cases o with
        | none => cases hb
        | some z => exact ev_var rfl ra.2
    · rw [List.length_map, List.length_singleton]
      have := hd.1
      omega
end
end WK
namespace WK
open PySem PySem.Spec PyProof.Rows L2 FW FS
section
variable {P : Program} {w : World} {K : PySem.W.Frag} {mg : Str → Option Value} {base : Heap} {f f1 f2 f3 f4 f5 f6 fI CR CM : Addr} {fd fd1 fd2 fd3 fd4 fd5 fd6 fdI : FuncData}
theorem needSh_ok {l : Sh} {i : Int} {y : Unit} (h : mNeedShade l i = .ok y) : isSh l i = true := by
  unfold mNeedShade at h
  by_cases c : isSh l i = false
  · rw [if_pos c] at h
    cases h
  · simpa using c
theorem needSh_err {l : Sh} {i c : Int} (h : mNeedShade l i = .error c) : isSh l i = false ∧ c = -2 := by
  unfold mNeedShade at h
  by_cases d : isSh l i = false
  · rw [if_pos d] at h
    cases h
    exact ⟨d, rfl⟩
  · rw [if_neg d] at h
    cases h
/-! colour_of -/
abbrev spCol (CM CR : Addr) : Sp := SpM2 CM CR rZ rZ (rL rZ) qColourOf
theorem sc_col : FnScope ["self", "place", "colours", "sizes"] ["self", "place", "colours"] (defScope (inClass (top 41) 10)) := ⟨rfl, rfl, rfl, by decide +kernel, rfl, by decide +kernel, by decide +kernel⟩
theorem ok_col (X : Cx1 K CM "shades") (F : Dm K CM "colour_of" "Mosaic.colour_of" (inClass (top 41) 10) ["self", "place", "colours"] f fd) (F1 : Dm K CM "need_shade" "Mosaic.need_shade" (inClass (top 41) 1) ["self", "place"] f1 fd1) (G1 : FnOk P w K mg base (L2.CX P w) 4 f1 fd1 ["self", "place"] (spNeedShade CM CR))
    (F2 : Dm K CM "need_colours" "Mosaic.need_colours" (inClass (top 41) 2) ["self", "colours"] f2 fd2) (G2 : FnOk P w K mg base (L2.CX P w) 4 f2 fd2 ["self", "colours"] (spNeedCol CM CR))
    (F3 : Df K mg "best_division" (top 20) ["shades", "colours"] f3 fd3) (G3 : FnOk P w K mg base CX0 6 f3 fd3 ["shades", "colours"] spDiv) (F4 : Df K mg "median_of" (top 10) ["shades"] f4 fd4) (G4 : FnOk P w K mg base CX0 2 f4 fd4 ["shades"] spMed)
    (F5 : Df K mg "groups_of" (top 22) ["shades", "sizes"] f5 fd5) (G5 : FnOk P w K mg base CX0 1 f5 fd5 ["shades", "sizes"] spGroups) (F6 : Df K mg "group_with" (top 23) ["sizes", "place"] f6 fd6) (G6 : FnOk P w K mg base CX0 1 f6 fd6 ["sizes", "place"] spGw) :
    FnOk P w K mg base (L2.CX P w) 7 f fd ["self", "place", "colours"] (spCol CM CR) := by
  refine F.fn.okX sc_col (fun vs H Q E h => ?_) (fun cdv A outer s H vs Q E hr h => ?_)
  · obtain ⟨k, v, a, b, l, x, z, rfl, _⟩ := h
    rfl
  · obtain ⟨k, v, a, b, l, i, x, rfl, w, M, hd, ra, rb, q, qe⟩ := h
    obtain rfl : a = .int i := ra
    obtain rfl : b = .int x := rb
    refine ⟨_, pss_cons (ps_expr (pe_meth (pv 0) X.cl F1.m G1 (hr.mono (by decide)) F1.b .nil (passes_call (takes_of rfl rfl rfl rfl) (fun _ _ _ _ h => h)) (by exact (pa_cons (pv 1) pa_nil))))
      (pss_cons (ps_expr (pe_meth (pv 0) X.cl F2.m G2 (hr.mono (by decide)) F2.b .nil (passes_call (takes_of rfl rfl rfl rfl) (fun _ _ _ _ h => h)) (by exact (pa_cons (pv 2) pa_nil))))
      (PSs.nox (pss_cons (ps_set (i := 3) sc_col.nd rfl (.inl rfl) (pe_ix ix_tup (pe_call G3 hr (by rfl) F3.g F3.fn.kp F3.b .nil pass0 (pa_cons (pe_fld (pv 0) rfl) (pa_cons (pv 2) pa_nil))) pe_int (fun _ _ => rfl)))
      (pss_one (ps_ret (pe_lst (pa_cons (pe_call G4 (hr.mono (by decide)) (by rfl) F4.g F4.fn.kp F4.b .nil pass0 (pa_cons (pe_ix ix_list (pe_call G5 (hr.mono (by decide)) (by rfl) F5.g F5.fn.kp F5.b .nil pass0 (pa_cons (pe_fld (pv 0) rfl) (pa_cons (pv 3) pa_nil)))
        (pe_call G6 (hr.mono (by decide)) (by rfl) F6.g F6.fn.kp F6.b .nil pass0 (pa_cons (pv 3) (pa_cons (pv 1) pa_nil))) (fun _ _ => rfl)) pa_nil)) pa_nil))))))), ?_⟩
    have hf : qColourOf l i x = if isSh l i = false then .error (-2) else wk l x [med ((gsFor l x).getD (groupWith (dv l x.toNat).2 i) [])] := rfl
    refine qx_drop (ex_m1 (A := rZ) (x := i) rfl M hd (by decide +kernel) (ev_var rfl rfl)) w (fun c e => ?_) fun y e k1 h1 l1 => ?_
    · obtain ⟨e1, rfl⟩ := needSh_err e
      exact qe _ (by rw [hf, if_pos e1])
    have hi := needSh_ok e
    rw [if_neg (by rw [hi]; decide)] at hf
    refine qx_drop (ex_m1 (A := rZ) (x := x) rfl (M.on l1) hd (by decide +kernel) (ev_var rfl rfl)) l1.kh (fun c e => (qe c (by rw [hf]; exact wk_err _ e)).mono l1.hh) fun y e k2 h2 l2 => ?_
    obtain ⟨hk, hp, _⟩ := wk_ok e
    obtain ⟨d, hdv, hdd⟩ := div_some hk hp
    have hz := div_size hdv
    have M2 := M.on (l1.trans l2)
    have hk12 := (isK_nat hk).2
    refine q_asg (A := rL rN) (x := d.2) (ev_ixT1 (ev_dv hd hk hdv (ev_shades X rfl M2) rfl)) l2.kh fun sv k3 h3 l3 rs => ?_
    have G := gs_ok hd hk hp
    have hin := isSh_nat hi
    have hlt : groupWith d.2 i < (gsFor l x).length := by
      rw [gs_len hdd]
      unfold groupsOf groupWith
      rw [go_length]
      have := gw_lt d.2 i 0 0 (by omega) (by omega)
      omega
    have hx : (gsFor l x)[groupWith d.2 i]? = some ((gsFor l x).getD (groupWith (dv l x.toNat).2 i) []) := by
      rw [hdd, List.getD_eq_getElem?_getD, List.getElem?_eq_getElem hlt]
      rfl
    have M3 := M2.on l3
    refine s_ret (A := rL rZ) (x := [med ((gsFor l x).getD (groupWith (dv l x.toNat).2 i) [])]) (ev_lst1 (ev_call1 (ev_ixL (A := rS) (xs := gsFor l x) ?_ (ev_z (ev_call2 (ev_var rfl rs) (ev_var (A := rZ) rfl rfl) trivial)) hx rfl) (G.2 _ (List.mem_of_getElem? hx)))) l3.kh
      fun u k4 h4 l4 ru => q _ (by rw [hf]; exact wk_yes _ hk hp) u k4 h4 (((l1.trans l2).trans l3).trans l4) ru
    rw [gs_len hdd]
    exact ev_call2 (ev_shades X rfl M3) (ev_var rfl rs) ⟨hd.1, by omega, by omega⟩
/-! min_colours -/
abbrev spMinC (CM CR : Addr) : Sp := SpM1 CM CR rZ (rL rZ) qMinColours
theorem sc_minc : FnScope ["self", "bound", "colours", "error"] ["self", "bound"] (defScope (inClass (top 41) 13)) := ⟨rfl, rfl, rfl, by decide +kernel, rfl, by decide +kernel, by decide +kernel⟩
theorem ok_minc (T : Tx mg) (X : Cx1 K CM "shades") (F : Dm K CM "min_colours" "Mosaic.min_colours" (inClass (top 41) 13) ["self", "bound"] f fd) (F1 : Df K mg "need" (top 32) ["truth", "code"] f1 fd1) (G1 : FnOk P w K mg base (L2.CX P w) 3 f1 fd1 ["truth", "code"] (spNeed CR))
    (F2 : Df K mg "all_least_errors" (top 21) ["shades"] f2 fd2) (G2 : FnOk P w K mg base CX0 6 f2 fd2 ["shades"] spAllErr) : FnOk P w K mg base (L2.CX P w) 7 f fd ["self", "bound"] (spMinC CM CR) := by
  refine F.fn.okX sc_minc (fun vs H Q E h => ?_) (fun cdv A outer s H vs Q E hr h => ?_)
  · obtain ⟨k, v, a, l, x, rfl, _⟩ := h
    rfl
  · obtain ⟨k, v, a, l, x, rfl, w, M, hd, ra, q, qe⟩ := h
    obtain rfl : a = .int x := ra
    refine ⟨_, pss_cons (ps_expr (pe_call G1 (hr.mono (by decide)) (by rfl) F1.g F1.fn.kp F1.b .nil (passes_call (takes_of rfl rfl rfl rfl) (fun _ _ _ _ h => h)) (by exact (pa_cons (pe_cmpR op_ge (pv 1) pe_int (nomark _)) (pa_cons (pe_const T.outR) pa_nil)))))
      (PSs.nox (pss_cons (ps_for PassesOwn.never rfl (pi_enum (by rfl) T.enumerate (pa_cons (pe_call G2 hr (by rfl) F2.g F2.fn.kp F2.b .nil pass0 (pa_cons (pe_fld (pv 0) rfl) pa_nil)) pa_nil)) (pg_tup rfl (pgs_cons (pg_name (i := 2) sc_minc.nd rfl (.inl rfl)) (pgs_cons (pg_name (i := 3) sc_minc.nd rfl (.inl rfl)) pgs_nil)))
        (pss_one (ps_if (PW.pt (pw_and (pt_cmpR op_notN (pv 3) pe_non (nomark _)) (pw_and1 (pt_cmpR op_le (pv 3) (pv 1) (nomark _))))) (pss_one (ps_ret (pe_lst (pa_cons (pv 2) pa_nil)))) pss_nil)))
      (pss_one (ps_ret (pe_lst (pa_cons (pe_callB call_len_seq (by rfl) T.len PySem.boot_len (pa_cons (pe_fld (pv 0) rfl) pa_nil)) pa_nil)))))), ?_⟩
    have hf : qMinColours l x = if x < 0 then .error (-22) else .ok [mcGo x l.length 0 (allErr l)] := rfl
    refine q_need (b := decide (0 ≤ x)) (ev_ge (ev_var rfl rfl) (ev_int 0)) w (fun hb => qe _ (by rw [hf, if_pos (by have := of_decide_eq_false hb; omega)])) fun hb k1 h1 l1 => ?_
    rw [if_neg (by have := of_decide_eq_true hb; omega)] at hf
    have M1 := M.on l1
    refine s_forE (xs := allErr l) (A := rO rZ) (ev_call1 (ev_shades X rfl M1) hd) l1.kh (fun k2 h2 i σ' k' h' => Le k2 h2 k' h' ∧ mcGo x l.length 0 (allErr l) = mcGo x l.length i ((allErr l).drop i) ∧ ∃ a b, σ' = [some v, some (.int x), a, b])
      (fun k2 h2 l2 => ⟨l2.same, rfl, _, _, rfl⟩) (fun k2 h2 i σ' k' h' l2 ⟨e, _⟩ => ⟨e.kk, e.kh⟩) ?_ ?_
    · rintro k2 h2 i o ov σ' k' h' k3 h3 l2 hx ⟨e, hg, a, b, rfl⟩ l3 rx
      rw [drop_at hx] at hg
      have ll := ((l1.trans l2).trans e).trans l3
      cases o with
      | none =>
        refine s_if (b := false) (et_is (et_and (b := false) (b' := false) (et_T (ev_notN (ev_var rfl rx))) fun h => by cases h) rfl) l3.kh (fun h => by cases h) (fun _ k4 h4 l4 => ?_)
        exact ⟨k4, (e.trans l3).trans l4, hg, _, _, rfl⟩
      | some z =>
        have hg : mcGo x l.length 0 (allErr l) = if z ≤ x then (i : Int) else mcGo x l.length (i + 1) ((allErr l).drop (i + 1)) := hg
        refine s_if (b := decide (z ≤ x)) (et_is (et_and (b := true) (et_T (ev_notN (ev_var rfl rx))) fun _ => et_T (ev_le (ev_some (ev_var rfl rx)) (ev_var rfl rfl))) (Bool.true_and _)) l3.kh (fun hb k4 h4 l4 => ?_) (fun hb k4 h4 l4 => ?_)
        · rw [if_pos (of_decide_eq_true hb)] at hg
          rw [hg] at hf
          exact s_ret (ev_lst1 (ev_var (A := rZ) rfl rfl)) l4.kh fun u k5 h5 l5 ru => q _ hf u k5 h5 ((ll.trans l4).trans l5) ru
        · rw [if_neg (of_decide_eq_false hb)] at hg
          exact ⟨k4, (e.trans l3).trans l4, hg, _, _, rfl⟩
    · rintro k2 h2 σ' k' h' l2 ⟨e, hg, a, b, rfl⟩
      rw [List.drop_length] at hg
      have hg : mcGo x l.length 0 (allErr l) = l.length := hg
      rw [hg] at hf
      have ll := (l1.trans l2).trans e
      exact s_ret (ev_lst1 (ev_len (ev_shades X rfl (M.on ll)))) e.kh fun u k5 h5 l5 ru => q _ hf u k5 h5 (ll.trans l5) ru
/-! palette_error -/
abbrev spPalQ (CM CR : Addr) : Sp := SpM1 CM CR (rL rZ) (rL rZ) qPalErr
theorem sc_palq : FnScope ["self", "palette", "colour"] ["self", "palette"] (defScope (inClass (top 41) 14)) := ⟨rfl, rfl, rfl, by decide +kernel, rfl, by decide +kernel, by decide +kernel⟩
theorem ok_palq (T : Tx mg) (X : Cx1 K CM "shades") (F : Dm K CM "palette_error" "Mosaic.palette_error" (inClass (top 41) 14) ["self", "palette"] f fd) (F1 : Df K mg "need" (top 32) ["truth", "code"] f1 fd1) (G1 : FnOk P w K mg base (L2.CX P w) 3 f1 fd1 ["truth", "code"] (spNeed CR))
    (F2 : Df K mg "is_level" (top 39) ["number"] f2 fd2) (G2 : FnOk P w K mg base CX0 1 f2 fd2 ["number"] spLevel) (F3 : Df K mg "palette_error" (top 13) ["shades", "palette"] f3 fd3) (g3 : mg "palette_error_errors" = some (.ref f3)) (G3 : FnOk P w K mg base CX0 2 f3 fd3 ["shades", "palette"] spPal) :
    FnOk P w K mg base (L2.CX P w) 4 f fd ["self", "palette"] (spPalQ CM CR) := by
  refine F.fn.okX sc_palq (fun vs H Q E h => ?_) (fun cdv A outer s H vs Q E hr h => ?_)
  · obtain ⟨k, v, a, l, x, rfl, _⟩ := h
    rfl
  · obtain ⟨k, v, a, l, pal, rfl, w, M, hd, ra, q, qe⟩ := h
    refine ⟨_, pss_cons (ps_expr (pe_call G1 hr (by rfl) F1.g F1.fn.kp F1.b .nil (passes_call (takes_of rfl rfl rfl rfl) (fun _ _ _ _ h => h)) (by exact (pa_cons (pe_chain op_le op_le pe_int (pe_callB call_len_seq (by rfl) T.len PySem.boot_len (pa_cons (pv 1) pa_nil)) (pe_const T.mostC)) (pa_cons (pe_const T.outR) pa_nil)))))
      (pss_cons (ps_expr (pe_call G1 hr (by rfl) F1.g F1.fn.kp F1.b .nil (passes_call (takes_of rfl rfl rfl rfl) (fun _ _ _ _ h => h)) (by exact (pa_cons (pe_callB (cr_all rfl) (by rfl) T.all (by decide +kernel) (pa_cons
          (pe_lc (own := [("colour", 2)]) (g := gName 2) (by rfl) sc_palq.nd (pi_list (pv 1)) (blkOk_by (own := [("colour", 2)]) (N := ["self", "palette", "colour"]) (sc := defScope (inClass (top 41) 14)) (by decide +kernel))
            (fun _ _ _ _ _ => pg_name (i := 2) sc_palq.nd rfl (.inl rfl)) (fun _ _ _ _ _ => pts_nil) (fun _ _ _ _ _ => pe_call G2 (hr.mono (by decide)) (by rfl) F2.g F2.fn.kp F2.b .nil pass0 (pa_cons (pv 2) pa_nil))) pa_nil)) (pa_cons (pe_const T.outR) pa_nil)))))
      (PSs.nox (pss_one (ps_ret (pe_lst (pa_cons (pe_call G3 (hr.mono (by decide)) (by rfl) g3 F3.fn.kp F3.b .nil pass0 (pa_cons (pe_fld (pv 0) rfl) (pa_cons (pv 1) pa_nil))) pa_nil)))))), ?_⟩
    have hf : qPalErr l pal = if palOk pal = false then .error (-22) else if pal.all isLevel = false then .error (-22) else .ok [palErr l pal] := rfl
    have ep : (decide (1 ≤ (pal.length : Int)) && decide ((pal.length : Int) ≤ 12)) = palOk pal := by
      unfold palOk
      by_cases c1 : 1 ≤ pal.length <;> by_cases c2 : pal.length ≤ 12
      · rw [decide_eq_true c1, decide_eq_true c2, decide_eq_true (by omega), decide_eq_true (by omega)]
      · rw [decide_eq_true c1, decide_eq_false c2, decide_eq_true (by omega), decide_eq_false (by omega)]
      · rw [decide_eq_false c1, decide_eq_true c2, decide_eq_false (by omega), decide_eq_true (by omega)]
      · rw [decide_eq_false c1, decide_eq_false c2, decide_eq_false (by omega), decide_eq_false (by omega)]
    refine q_need (b := palOk pal) (ev_is (ev_chain (g := fun i j => decide (i ≤ j)) (g' := fun i j => decide (i ≤ j)) (ev_int 1) (ev_len (ev_var rfl ra)) (ev_int 12)) ep) w (fun hb => qe _ (by rw [hf, if_pos hb])) fun hb k1 h1 l1 => ?_
    rw [if_neg (by rw [hb]; decide)] at hf
    have hl : 1 ≤ pal.length ∧ pal.length ≤ 12 := by
      unfold palOk at hb
      simpa using hb
    have ra1 := (rL rZ).mono l1.kk ra
    refine q_need (b := pal.all isLevel) (ev_is (ev_all (xs := pal.map isLevel) (ev_lcM (A := rZ) isLevel (ev_var rfl ra1) (by omega) (fun _ => rfl) fun c a k' h' hx e rc => ev_call1 (ev_var rfl rc) trivial)) (by rw [List.all_map]; rfl)) l1.kh (fun hb => (qe _ (by rw [hf, if_pos hb])).mono l1.hh) fun hb k2 h2 l2 => ?_
    rw [if_neg (by rw [hb]; decide)] at hf
    exact s_ret (ev_lst1 (ev_call2 (ev_shades X rfl (M.on (l1.trans l2))) (ev_var rfl ((rL rZ).mono l2.kk ra1)) ⟨hd, hl.2, List.length_pos_iff.mp hl.1⟩)) l2.kh fun u k3 h3 l3 ru => q _ hf u k3 h3 ((l1.trans l2).trans l3) ru
/-! median -/
abbrev spMedQ (CM CR : Addr) : Sp := SpM2 CM CR rZ rZ (rL rZ) qMedian
theorem sc_medq : FnScope ["self", "begin", "last", "some", "colour"] ["self", "begin", "last"] (defScope (inClass (top 41) 15)) := ⟨rfl, rfl, rfl, by decide +kernel, rfl, by decide +kernel, by decide +kernel⟩
theorem ok_medq (T : Tx mg) (X : Cx1 K CM "shades") (F : Dm K CM "median" "Mosaic.median" (inClass (top 41) 15) ["self", "begin", "last"] f fd) (F1 : Dm K CM "need_shade" "Mosaic.need_shade" (inClass (top 41) 1) ["self", "place"] f1 fd1) (G1 : FnOk P w K mg base (L2.CX P w) 4 f1 fd1 ["self", "place"] (spNeedShade CM CR))
    (F2 : Df K mg "need" (top 32) ["truth", "code"] f2 fd2) (G2 : FnOk P w K mg base (L2.CX P w) 3 f2 fd2 ["truth", "code"] (spNeed CR)) (F3 : Df K mg "median_of" (top 10) ["shades"] f3 fd3) (G3 : FnOk P w K mg base CX0 2 f3 fd3 ["shades"] spMed)
    (F4 : Df K mg "error_with" (top 9) ["shades", "colour"] f4 fd4) (G4 : FnOk P w K mg base CX0 1 f4 fd4 ["shades", "colour"] spErr) : FnOk P w K mg base (L2.CX P w) 5 f fd ["self", "begin", "last"] (spMedQ CM CR) := by
  refine F.fn.okX sc_medq (fun vs H Q E h => ?_) (fun cdv A outer s H vs Q E hr h => ?_)
  · obtain ⟨k, v, a, b, l, x, z, rfl, _⟩ := h
    rfl
  · obtain ⟨k, v, a, b, l, i, j, rfl, w, M, hd, ra, rb, q, qe⟩ := h
    obtain rfl : a = .int i := ra
    obtain rfl : b = .int j := rb
    refine ⟨_, pss_cons (ps_expr (pe_meth (pv 0) X.cl F1.m G1 hr F1.b .nil (passes_call (takes_of rfl rfl rfl rfl) (fun _ _ _ _ h => h)) (by exact (pa_cons (pv 1) pa_nil))))
      (pss_cons (ps_expr (pe_meth (pv 0) X.cl F1.m G1 hr F1.b .nil (passes_call (takes_of rfl rfl rfl rfl) (fun _ _ _ _ h => h)) (by exact (pa_cons (pv 2) pa_nil))))
      (pss_cons (ps_expr (pe_call G2 (hr.mono (by decide)) (by rfl) F2.g F2.fn.kp F2.b .nil (passes_call (takes_of rfl rfl rfl rfl) (fun _ _ _ _ h => h)) (by exact (pa_cons (pe_cmpR op_le (pv 1) (pv 2) (nomark _)) (pa_cons (pe_const T.outR) pa_nil)))))
      (PSs.nox (pss_cons (ps_set (i := 3) sc_medq.nd rfl (.inl rfl) (pe_slice sl_list (pe_fld (pv 0) rfl) (po_some (pv 1)) (po_some (pe_op op_add (pv 2) pe_int))))
      (pss_cons (ps_set (i := 4) sc_medq.nd rfl (.inl rfl) (pe_call G3 (hr.mono (by decide)) (by rfl) F3.g F3.fn.kp F3.b .nil pass0 (pa_cons (pv 3) pa_nil)))
      (pss_one (ps_ret (pe_lst (pa_cons (pv 4) (pa_cons (pe_call G4 (hr.mono (by decide)) (by rfl) F4.g F4.fn.kp F4.b .nil pass0 (pa_cons (pv 3) (pa_cons (pv 4) pa_nil))) pa_nil)))))))))), ?_⟩
    have hf : qMedian l i j = if isSh l i = false then .error (-2) else if isSh l j = false then .error (-2) else if j < i then .error (-22)
      else .ok [med (cut l i.toNat (j.toNat + 1)), errWith (cut l i.toNat (j.toNat + 1)) (med (cut l i.toNat (j.toNat + 1)))] := rfl
    refine qx_drop (ex_m1 (A := rZ) (x := i) rfl M hd (by decide +kernel) (ev_var rfl rfl)) w (fun c e => ?_) fun y e k1 h1 l1 => ?_
    · obtain ⟨e1, rfl⟩ := needSh_err e
      exact qe _ (by rw [hf, if_pos e1])
    have hi := needSh_ok e
    rw [if_neg (by rw [hi]; decide)] at hf
    refine qx_drop (ex_m1 (A := rZ) (x := j) rfl (M.on l1) hd (by decide +kernel) (ev_var rfl rfl)) l1.kh (fun c e => ?_) fun y e k2 h2 l2 => ?_
    · obtain ⟨e1, rfl⟩ := needSh_err e
      exact (qe _ (by rw [hf, if_pos e1])).mono l1.hh
    have hj := needSh_ok e
    rw [if_neg (by rw [hj]; decide)] at hf
    refine q_need (b := decide (i ≤ j)) (ev_le (ev_var rfl rfl) (ev_var rfl rfl)) l2.kh (fun hb => (qe _ (by rw [hf, if_pos (by have := of_decide_eq_false hb; omega)])).mono (l1.hh.trans l2.hh)) fun hb k3 h3 l3 => ?_
    have hij := of_decide_eq_true hb
    rw [if_neg (by omega)] at hf
    have ni := isSh_nat hi
    have nj := isSh_nat hj
    have M3 := M.on ((l1.trans l2).trans l3)
    refine q_asg (A := rS) (x := cut l i.toNat (j.toNat + 1)) (ev_cut (i := i.toNat) (j := j.toNat + 1) (ev_shades X rfl M3) (ev_var rfl rfl) (ev_add (ev_var rfl rfl) (ev_int 1)) ni.1 (by omega) (by omega) (by omega)) l3.kh fun sv k4 h4 l4 rs => ?_
    have ho : Ok (cut l i.toNat (j.toNat + 1)) ∧ cut l i.toNat (j.toNat + 1) ≠ [] := ⟨hd.sub cut_sub, cut_ne (by omega) (by omega)⟩
    refine q_asgI (ev_call1 (ev_var rfl rs) ho) l4.kh fun k5 h5 l5 => ?_
    exact s_ret (ev_lst2 (ev_var rfl rfl) (ev_call2 (ev_var rfl (rS.mono l5.kk rs)) (ev_var rfl rfl) ho.1)) l5.kh fun u k6 h6 l6 ru => q _ hf u k6 h6 (((((l1.trans l2).trans l3).trans l4).trans l5).trans l6) ru
/-! ### changes -/
/-- as Le, but for the instance at a -/
structure Lc (a : Addr) (k h k' h' : Hp) : Prop where
  kk : Ex k k'
  hh : ∀ b o, b ≠ a → h b = some o → h' b = some o
  kh : Ex k' h'
  fr : ∀ b o, h b = some o → k' b = k b
theorem Lc.of {a : Addr} {k h k1 h1 k2 h2 : Hp} {o o' : HO} (e : Le k h k1 h1) (ha : h a = some o) (ka : k a = none) (e2 : Le k1 (upd h1 a o') k2 h2) : Lc a k h k2 h2 :=
  ⟨e.kk.trans e2.kk, fun b u hb hu => e2.hh _ _ (by rw [upd_ne hb]; exact e.hh _ _ hu), e2.kh, fun b u hu => by
    by_cases hb : b = a
    · subst hb
      exact (e2.fr b o' upd_same).trans (e.fr b u hu)
    · exact (e2.fr b u (by rw [upd_ne hb]; exact e.hh _ _ hu)).trans (e.fr b u hu)⟩
theorem Le.chg {a : Addr} {k h k1 h1 : Hp} {o o' : HO} (e : Le k h k1 h1) (ha : h a = some o) (ka : k a = none) : Ex k1 (upd h1 a o') := e.kh.upd (e.unk ka ha) o'
/-- a change of the mosaic at v -/
def Chd (CM CR : Addr) (k H : Hp) (v : V) (m : Except Int (Sh × List Int)) (Q : VK) (E : XK) : Prop :=
  (∀ l' r, m = .ok (l', r) → ∀ a u k2 h2, v = .ref a → Lc a k H k2 h2 → Mos CM k2 h2 v l' → (rL rZ).rel k2 u r → Q u h2) ∧ (∀ c, m = .error c → Rf CR E H c)
def SpC1 {α : Type} (CM CR : Addr) (A : Rp α) (f : Sh → α → Except Int (Sh × List Int)) : Sp := fun vs H Q E => ∃ k v a l x, vs = [v, a] ∧ Ex k H ∧ Mos CM k H v l ∧ Ok l ∧ A.rel k a x ∧ Chd CM CR k H v (f l x) Q E
def SpC2 {α β : Type} (CM CR : Addr) (A : Rp α) (B : Rp β) (f : Sh → α → β → Except Int (Sh × List Int)) : Sp := fun vs H Q E => ∃ k v a b l x z, vs = [v, a, b] ∧ Ex k H ∧ Mos CM k H v l ∧ Ok l ∧ A.rel k a x ∧ B.rel k b z ∧ Chd CM CR k H v (f l x z) Q E
/-- self.shades = e; then the rest -/
theorem q_chg {te : TE} {σ : L2.St} {k h k1 h1 : Hp} {v : V} {l l' : Sh} {r : List Int} {m : Except Int (Sh × List Int)} {D : Ends} {tz : TS} {Q : VK} {E : XK} (X : Cx1 K CM "shades") (M : Mos CM k h v l) (e : Le k h k1 h1) (s : σ[0]? = some (some v)) (he : Ev te σ k1 h1 rS l')
    (hm : m = .ok (l', r)) (C : Chd CM CR k h v m Q E)
    (q : ∀ k2 h2, Ex k1 k2 → Ex k2 h2 → Mos CM k2 h2 v l' → (∀ u k3 h3, Le k2 h2 k3 h3 → (rL rZ).rel k3 u r → Q u h3) → tz D σ h2) : tSeq (sFld K (tVar 0) te "shades") tz D σ h1 := by
  obtain ⟨a, dx, sv, rfl, h2, h3, h4⟩ := M
  refine he k1 h1 e.same _ fun u k2 h2' l2 ru => ?_
  have e2 := e.trans l2
  refine ⟨.ref a, s, a, CM, dx, _, rfl, e2.hh _ _ h2, X.cl, X.na, (by show 1 < 1000; decide), ?_⟩
  have ep : putF "shades" u [(("shades" : Str), sv)] = [(("shades" : Str), u)] := if_pos rfl
  rw [ep]
  refine q k2 _ l2.kk (Le.chg e2 h2 h3) ⟨a, dx, u, rfl, upd_same, e2.unk h3 h2, ru⟩ fun w k4 h4' l4 rw => ?_
  exact C.1 l' r hm a w k4 h4' rfl (Lc.of e2 h2 h3 l4) ⟨a, dx, u, rfl, l4.hh _ _ upd_same, l4.unk (e2.unk h3 h2) upd_same, rS.mono l4.kk ru⟩ rw
/-! add_shade -/
abbrev spAdd (CM CR : Addr) : Sp := SpC2 CM CR rZ rZ cAdd
theorem sc_add : FnScope ["self", "level", "count", "place"] ["self", "level", "count"] (defScope (inClass (top 41) 4)) := ⟨rfl, rfl, rfl, by decide +kernel, rfl, by decide +kernel, by decide +kernel⟩
theorem ok_add (T : Tx mg) (X : Cx1 K CM "shades") (F : Dm K CM "add_shade" "Mosaic.add_shade" (inClass (top 41) 4) ["self", "level", "count"] f fd) (F1 : Df K mg "need" (top 32) ["truth", "code"] f1 fd1) (G1 : FnOk P w K mg base (L2.CX P w) 3 f1 fd1 ["truth", "code"] (spNeed CR))
    (F2 : Df K mg "is_level" (top 39) ["number"] f2 fd2) (G2 : FnOk P w K mg base CX0 1 f2 fd2 ["number"] spLevel) (F3 : Df K mg "is_count" (top 40) ["number"] f3 fd3) (G3 : FnOk P w K mg base CX0 1 f3 fd3 ["number"] spCount)
    (F4 : Df K mg "has_level" (top 2) ["shades", "level"] f4 fd4) (G4 : FnOk P w K mg base CX0 1 f4 fd4 ["shades", "level"] spHas) (F5 : Df K mg "place_of_level" (top 3) ["shades", "level"] f5 fd5) (G5 : FnOk P w K mg base CX0 1 f5 fd5 ["shades", "level"] spPlace)
    (F6 : Df K mg "with_shade" (top 4) ["shades", "level", "count"] f6 fd6) (G6 : FnOk P w K mg base CX0 2 f6 fd6 ["shades", "level", "count"] spWith) : FnOk P w K mg base (L2.CX P w) 4 f fd ["self", "level", "count"] (spAdd CM CR) := by
  refine F.fn.okX sc_add (fun vs H Q E h => ?_) (fun cdv A outer s H vs Q E hr h => ?_)
  · obtain ⟨k, v, a, b, l, x, z, rfl, _⟩ := h
    rfl
  · obtain ⟨k, v, a, b, l, lv, ct, rfl, w, M, hd, ra, rb, C⟩ := h
    obtain rfl : a = .int lv := ra
    obtain rfl : b = .int ct := rb
    refine ⟨_, pss_cons (ps_expr (pe_call G1 hr (by rfl) F1.g F1.fn.kp F1.b .nil (passes_call (takes_of rfl rfl rfl rfl) (fun _ _ _ _ h => h)) (by exact (pa_cons (pe_and (pe_call G2 (hr.mono (by decide)) (by rfl) F2.g F2.fn.kp F2.b .nil pass0 (pa_cons (pv 1) pa_nil)) (pe_one (pe_call G3 (hr.mono (by decide)) (by rfl) F3.g F3.fn.kp F3.b .nil pass0 (pa_cons (pv 2) pa_nil)))) (pa_cons (pe_const T.outR) pa_nil)))))
      (pss_cons (ps_expr (pe_call G1 hr (by rfl) F1.g F1.fn.kp F1.b .nil (passes_call (takes_of rfl rfl rfl rfl) (fun _ _ _ _ h => h)) (by exact (pa_cons (pe_not (pe_call G4 (hr.mono (by decide)) (by rfl) F4.g F4.fn.kp F4.b .nil pass0 (pa_cons (pe_fld (pv 0) rfl) (pa_cons (pv 1) pa_nil)))) (pa_cons (pe_const T.sameLv) pa_nil)))))
      (pss_cons (ps_expr (pe_call G1 hr (by rfl) F1.g F1.fn.kp F1.b .nil (passes_call (takes_of rfl rfl rfl rfl) (fun _ _ _ _ h => h)) (by exact (pa_cons (pe_cmpR op_lt (pe_callB call_len_seq (by rfl) T.len PySem.boot_len (pa_cons (pe_fld (pv 0) rfl) pa_nil)) (pe_const T.mostS) (nomark _)) (pa_cons (pe_const T.full) pa_nil)))))
      (PSs.nox (pss_cons (ps_set (i := 3) sc_add.nd rfl (.inl rfl) (pe_call G5 (hr.mono (by decide)) (by rfl) F5.g F5.fn.kp F5.b .nil pass0 (pa_cons (pe_fld (pv 0) rfl) (pa_cons (pv 1) pa_nil))))
      (pss_cons (ps_fld (pv 0) (pe_call G6 (hr.mono (by decide)) (by rfl) F6.g F6.fn.kp F6.b .nil pass0 (pa_cons (pe_fld (pv 0) rfl) (pa_cons (pv 1) (pa_cons (pv 2) pa_nil)))) rfl)
      (pss_one (ps_ret (pe_lst (pa_cons (pv 3) pa_nil))))))))), ?_⟩
    have hf : cAdd l lv ct = if (isLevel lv && isCount ct) = false then .error (-22) else if hasLevel l lv = true then .error (-17) else if 12 ≤ l.length then .error (-28) else .ok (withShade l lv ct, [(placeOf l lv : Int)]) := rfl
    refine q_need (b := isLevel lv && isCount ct) (ev_andV (ev_call1 (ev_var rfl rfl) trivial) fun _ => ev_call1 (ev_var rfl rfl) trivial) w (fun hb => C.2 _ (by rw [hf, if_pos hb])) fun hb k1 h1 l1 => ?_
    rw [if_neg (by rw [hb]; decide)] at hf
    refine q_need (b := !hasLevel l lv) (ev_notV (ev_call2 (ev_shades X rfl (M.on l1)) (ev_var rfl rfl) hd.1)) l1.kh (fun hb => (C.2 _ (by rw [hf, if_pos (by simpa using hb)])).mono l1.hh) fun hb k2 h2 l2 => ?_
    rw [if_neg (by simpa using hb)] at hf
    have l12 := l1.trans l2
    refine q_need (b := decide ((l.length : Int) < 12)) (ev_lt (ev_len (ev_shades X rfl (M.on l12))) (ev_int 12)) l2.kh (fun hb => (C.2 _ (by rw [hf, if_pos (by have := of_decide_eq_false hb; omega)])).mono l12.hh) fun hb k3 h3 l3 => ?_
    rw [if_neg (by have := of_decide_eq_true hb; omega)] at hf
    have l13 := l12.trans l3
    refine q_asgI (n := (placeOf l lv : Int)) (ev_z (ev_call2 (ev_shades X rfl (M.on l13)) (ev_var rfl rfl) hd.1)) l3.kh fun k4 h4 l4 => ?_
    have l14 := l13.trans l4
    refine q_chg X M l14 rfl (ev_call3 (ev_shades X rfl (M.on l14)) (ev_var rfl rfl) (ev_var rfl rfl) hd.1) hf C fun k5 h5 e5 w5 M5 q5 => ?_
    exact s_ret (ev_lst1 (ev_var (A := rZ) rfl rfl)) w5 q5
/-! remove_shade -/
abbrev spRem (CM CR : Addr) : Sp := SpC1 CM CR rZ cRemove
theorem sc_rem : FnScope ["self", "place"] ["self", "place"] (defScope (inClass (top 41) 5)) := ⟨rfl, rfl, rfl, by decide +kernel, rfl, by decide +kernel, by decide +kernel⟩
theorem ok_rem (T : Tx mg) (X : Cx1 K CM "shades") (F : Dm K CM "remove_shade" "Mosaic.remove_shade" (inClass (top 41) 5) ["self", "place"] f fd) (F1 : Dm K CM "need_shade" "Mosaic.need_shade" (inClass (top 41) 1) ["self", "place"] f1 fd1) (G1 : FnOk P w K mg base (L2.CX P w) 4 f1 fd1 ["self", "place"] (spNeedShade CM CR))
    (F2 : Df K mg "without_shade" (top 5) ["shades", "at"] f2 fd2) (G2 : FnOk P w K mg base CX0 1 f2 fd2 ["shades", "at"] spWithout) : FnOk P w K mg base (L2.CX P w) 5 f fd ["self", "place"] (spRem CM CR) := by
  refine F.fn.okX sc_rem (fun vs H Q E h => ?_) (fun cdv A outer s H vs Q E hr h => ?_)
  · obtain ⟨k, v, a, l, x, rfl, _⟩ := h
    rfl
  · obtain ⟨k, v, a, l, x, rfl, w, M, hd, ra, C⟩ := h
    obtain rfl : a = .int x := ra
    refine ⟨_, pss_cons (ps_expr (pe_meth (pv 0) X.cl F1.m G1 hr F1.b .nil (passes_call (takes_of rfl rfl rfl rfl) (fun _ _ _ _ h => h)) (by exact (pa_cons (pv 1) pa_nil))))
      (PSs.nox (pss_cons (ps_fld (pv 0) (pe_call G2 (hr.mono (by decide)) (by rfl) F2.g F2.fn.kp F2.b .nil pass0 (pa_cons (pe_fld (pv 0) rfl) (pa_cons (pv 1) pa_nil))) rfl)
      (pss_one (ps_ret (pe_lst (pa_cons (pe_callB call_len_seq (by rfl) T.len PySem.boot_len (pa_cons (pe_fld (pv 0) rfl) pa_nil)) pa_nil)))))), ?_⟩
    have hf : cRemove l x = if isSh l x = false then .error (-2) else .ok (withoutShade l x.toNat, [((withoutShade l x.toNat).length : Int)]) := rfl
    refine qx_drop (ex_m1 (A := rZ) (x := x) rfl M hd (by decide +kernel) (ev_var rfl rfl)) w (fun c e => ?_) fun y e k1 h1 l1 => ?_
    · obtain ⟨e1, rfl⟩ := needSh_err e
      exact C.2 _ (by rw [hf, if_pos e1])
    have hi := needSh_ok e
    rw [if_neg (by rw [hi]; decide)] at hf
    have ni := isSh_nat hi
    refine q_chg X M l1 rfl (ev_call2 (ev_shades X rfl (M.on l1)) (ev_var (A := rN) (x := x.toNat) rfl (show V.int x = V.int ((x.toNat : Nat) : Int) by rw [← ni.1])) ⟨hd.1, ni.2⟩) hf C fun k5 h5 e5 w5 M5 q5 => ?_
    exact s_ret (ev_lst1 (ev_len (ev_shades X rfl M5))) w5 q5
/-! set_count -/
abbrev spSet (CM CR : Addr) : Sp := SpC2 CM CR rZ rZ cSet
theorem sc_set : FnScope ["self", "place", "count", "old"] ["self", "place", "count"] (defScope (inClass (top 41) 6)) := ⟨rfl, rfl, rfl, by decide +kernel, rfl, by decide +kernel, by decide +kernel⟩
theorem ok_set (T : Tx mg) (X : Cx1 K CM "shades") (F : Dm K CM "set_count" "Mosaic.set_count" (inClass (top 41) 6) ["self", "place", "count"] f fd) (F1 : Dm K CM "need_shade" "Mosaic.need_shade" (inClass (top 41) 1) ["self", "place"] f1 fd1) (G1 : FnOk P w K mg base (L2.CX P w) 4 f1 fd1 ["self", "place"] (spNeedShade CM CR))
    (F2 : Df K mg "need" (top 32) ["truth", "code"] f2 fd2) (G2 : FnOk P w K mg base (L2.CX P w) 3 f2 fd2 ["truth", "code"] (spNeed CR)) (F3 : Df K mg "is_count" (top 40) ["number"] f3 fd3) (G3 : FnOk P w K mg base CX0 1 f3 fd3 ["number"] spCount)
    (F4 : Df K mg "with_count" (top 6) ["shades", "at", "count"] f4 fd4) (G4 : FnOk P w K mg base CX0 1 f4 fd4 ["shades", "at", "count"] spWithCount) : FnOk P w K mg base (L2.CX P w) 5 f fd ["self", "place", "count"] (spSet CM CR) := by
  refine F.fn.okX sc_set (fun vs H Q E h => ?_) (fun cdv A outer s H vs Q E hr h => ?_)
  · obtain ⟨k, v, a, b, l, x, z, rfl, _⟩ := h
    rfl
  · obtain ⟨k, v, a, b, l, x, ct, rfl, w, M, hd, ra, rb, C⟩ := h
    obtain rfl : a = .int x := ra
    obtain rfl : b = .int ct := rb
    refine ⟨_, pss_cons (ps_expr (pe_meth (pv 0) X.cl F1.m G1 hr F1.b .nil (passes_call (takes_of rfl rfl rfl rfl) (fun _ _ _ _ h => h)) (by exact (pa_cons (pv 1) pa_nil))))
      (pss_cons (ps_expr (pe_call G2 (hr.mono (by decide)) (by rfl) F2.g F2.fn.kp F2.b .nil (passes_call (takes_of rfl rfl rfl rfl) (fun _ _ _ _ h => h)) (by exact (pa_cons (pe_call G3 (hr.mono (by decide)) (by rfl) F3.g F3.fn.kp F3.b .nil pass0 (pa_cons (pv 2) pa_nil)) (pa_cons (pe_const T.outR) pa_nil)))))
      (PSs.nox (pss_cons (ps_set (i := 3) sc_set.nd rfl (.inl rfl) (pe_ix ix_tup (pe_ix ix_list (pe_fld (pv 0) rfl) (pv 1) (fun _ _ => rfl)) pe_int (fun _ _ => rfl)))
      (pss_cons (ps_fld (pv 0) (pe_call G4 (hr.mono (by decide)) (by rfl) F4.g F4.fn.kp F4.b .nil pass0 (pa_cons (pe_fld (pv 0) rfl) (pa_cons (pv 1) (pa_cons (pv 2) pa_nil)))) rfl)
      (pss_one (ps_ret (pe_lst (pa_cons (pv 3) pa_nil)))))))), ?_⟩
    have hf : cSet l x ct = if isSh l x = false then .error (-2) else if isCount ct = false then .error (-22) else .ok (withCount l x.toNat ct, [(l.getD x.toNat (0, 0)).2]) := rfl
    refine qx_drop (ex_m1 (A := rZ) (x := x) rfl M hd (by decide +kernel) (ev_var rfl rfl)) w (fun c e => ?_) fun y e k1 h1 l1 => ?_
    · obtain ⟨e1, rfl⟩ := needSh_err e
      exact C.2 _ (by rw [hf, if_pos e1])
    have hi := needSh_ok e
    rw [if_neg (by rw [hi]; decide)] at hf
    have ni := isSh_nat hi
    refine q_need (b := isCount ct) (ev_call1 (ev_var rfl rfl) trivial) l1.kh (fun hb => (C.2 _ (by rw [hf, if_pos hb])).mono l1.hh) fun hb k2 h2 l2 => ?_
    rw [if_neg (by rw [hb]; decide)] at hf
    have l12 := l1.trans l2
    have hx : l[x.toNat]? = some (l.getD x.toNat (0, 0)) := by
      rw [List.getD_eq_getElem?_getD, List.getElem?_eq_getElem ni.2]
      rfl
    refine q_asgI (ev_ixT1 (ev_ixL (A := rP rZ rZ) (ev_shades X rfl (M.on l12)) (ev_var rfl rfl) hx ni.1)) l2.kh fun k3 h3 l3 => ?_
    have l13 := l12.trans l3
    refine q_chg X M l13 rfl (ev_call3 (ev_shades X rfl (M.on l13)) (ev_var (A := rN) (x := x.toNat) rfl (show V.int x = V.int ((x.toNat : Nat) : Int) by rw [← ni.1])) (ev_var rfl rfl) ⟨hd.1, ni.2⟩) hf C fun k5 h5 e5 w5 M5 q5 => ?_
    exact s_ret (ev_lst1 (ev_var (A := rZ) rfl rfl)) w5 q5
end
end WK
namespace WK
open PySem PySem.Spec PyProof.Rows L2 FW FS
/-! ### a method called within a try: what it raises is wished for at the slots as they stand -/
def tMethS (C : Addr) (m : Str) (sp : Sp) (E : L2.St → XK) (ta : TE) (t : TA) : TE := fun σ H Q => ta σ H fun x H1 => ∃ a dx fs, x = .ref a ∧ H1 a = some (.ins C dx fs) ∧ fs.lookup m = none ∧ t σ H1 fun vs H2 => sp (x :: vs) H2 Q (E σ)
theorem pe_methS {X : Cx} {CX : CXT} {k : Nat} {f C : Addr} {fd : FuncData} {ps : List Str} {sp : Sp} {E : L2.St → XK} {m : Str} {pos apos : Pos} {e o : Expr} {es : List Expr} {ta : TE} {t : TA} {pl : Sem Bool} (he : PE X o ta) (c : Cls X.K C) (hm : Meth X.K C m f)
    (F : FnOk X.prog X.w X.K X.mg X.base CX k f fd ps sp) (hr : Room k X.A) (hb : Binds X.K fd ps []) (hx : ∀ σ, PassesAt CX X σ (E σ)) (ha : PA X (e :: es) t)
    (hst : starEach (e :: es) X.env = (false, eval e X.env) :: starEach es X.env := by rfl) (hpl : (backTo pos (starEach es X.env)).any (·.1) = false := by rfl)
    (ht : eval (.Call (.Attribute o m apos) (e :: es) [] pos) X.env = (do
      let ov ← eval o X.env
      standAt apos.atName
      let (f, first) ← holding [ov] (getMethod ov m pl)
      callWith pos f first (backTo pos (starEach (e :: es) X.env)) (backToKw pos (keywordEach [] X.env))) := by rfl) :
    PE X (.Call (.Attribute o m apos) (e :: es) [] pos) (tMethS C m sp E ta t) := by
  refine ⟨fun pins s σ H Q I h => ?_⟩
  refine PySem.W.methodCall_KW (pl := pl) (thn (he.run pins s σ H _ I h) fun u s1 ⟨x, H1, I1, rx, a, dx, fs, ex, ea, l, q⟩ => ?_) ht
  subst ex
  obtain rfl : u = Value.ref a := rx
  refine getmeth_ok I1 ea c hm l ?_
  refine PySem.W.callWith_K (first := [.ref a]) (h₀ := X.base) I.ok.mod.kin hm.kp (thn (ha.run pos pins s1 σ H1 _ I1 q) fun us s2 ⟨vs, H2, I2, r, q2⟩ => ⟨I2.kIn, ?_⟩) hst hpl
  exact run_fnS (us := .ref a :: us) (vs := .ref a :: vs) F hr hb (hx σ) I2 (.cons rfl r) q2
section
variable {P : Program} {w : World} {K : PySem.W.Frag} {mg : Str → Option Value} {base : Heap} {f f1 f2 f3 f4 f5 f6 fI CR CM CD : Addr} {fd fd1 fd2 fd3 fd4 fd5 fd6 fdI : FuncData}
/-! ### tests of the call's number -/
theorem q_eqNo {σ : L2.St} {h : Hp} {c n : Int} {i : Nat} {D : Ends} {t tz : TS} (hs : σ[i]? = some (some (.int c))) (hne : ¬ c = n) (q : tz D σ h) : tSeq (tIfS (tTest (tOp rEq (tVar i) (tC (.int n)))) t tNext) tz D σ h := by
  refine ⟨_, hs, rfl, false, ?_, iteF q⟩
  rw [dec_int, beq_false_of_ne hne]
theorem q_eqYes {σ : L2.St} {h : Hp} {c n : Int} {i : Nat} {D : Ends} {t tz : TS} (hs : σ[i]? = some (some (.int c))) (he : c = n) (q : t { D with nx := tz D } σ h) : tSeq (tIfS (tTest (tOp rEq (tVar i) (tC (.int n)))) t tNext) tz D σ h := by
  refine ⟨_, hs, rfl, true, ?_, iteT q⟩
  rw [dec_int, beq_iff_eq.mpr he]
/-! ### changed -/
theorem Chd.on {k h k2 h2 : Hp} {v : V} {m : Except Int (Sh × List Int)} {Q : VK} {E : XK} (e : Le k h k2 h2) (C : Chd CM CR k h v m Q E) : Chd CM CR k2 h2 v m Q E :=
  ⟨fun l' r em a u k3 h3 ev lc M r3 => C.1 l' r em a u k3 h3 ev ⟨e.kk.trans lc.kk, fun b o hb ho => lc.hh b o hb (e.hh _ _ ho), lc.kh, fun b o ho => (lc.fr b o (e.hh _ _ ho)).trans (e.fr b o ho)⟩ M r3, fun c em => (C.2 c em).mono e.hh⟩
theorem sc_ret1 {α : Type} {A : Rp α} {σ : L2.St} {k h : Hp} {ta : TE} {x : α} {v : V} {l : Sh} {i : Nat} {E : XK} {D : Ends} {m : Str} {f : Sh → α → Except Int (Sh × List Int)} (s : σ[i]? = some (some v)) (M : Mos CM k h v l) (hl : Ok l) (wf : Ex k h) (hn : (m == ("shades" : Str)) = false) (ha : Ev ta σ k h A x)
    (C : Chd CM CR k h v (f l x) D.rt E) : tRet (tMeth CM m (SpC1 CM CR A f) [] E (tVar i) (tCons ta tNil)) D σ h := by
  obtain ⟨a, dx, fs, e1, e2, e3⟩ := mos_ref M hn
  refine ⟨v, s, a, dx, fs, e1, e2, e3, ?_⟩
  exact ha k h (Le.refl wf) _ fun u k2 h2 l2 r => ⟨k2, v, u, l, x, rfl, l2.kh, M.on l2, hl, r, C.on l2⟩
theorem sc_ret2 {α β : Type} {A : Rp α} {B : Rp β} {σ : L2.St} {k h : Hp} {ta tb : TE} {x : α} {y : β} {v : V} {l : Sh} {i : Nat} {E : XK} {D : Ends} {m : Str} {f : Sh → α → β → Except Int (Sh × List Int)} (s : σ[i]? = some (some v)) (M : Mos CM k h v l) (hl : Ok l) (wf : Ex k h) (hn : (m == ("shades" : Str)) = false) (ha : Ev ta σ k h A x) (hb : Ev tb σ k h B y)
    (C : Chd CM CR k h v (f l x y) D.rt E) : tRet (tMeth CM m (SpC2 CM CR A B f) [] E (tVar i) (tCons ta (tCons tb tNil))) D σ h := by
  obtain ⟨a, dx, fs, e1, e2, e3⟩ := mos_ref M hn
  refine ⟨v, s, a, dx, fs, e1, e2, e3, ?_⟩
  exact ha k h (Le.refl wf) _ fun u k2 h2 l2 r => hb k2 h2 l2 _ fun u' k3 h3 l3 r' => ⟨k3, v, u, u', l, x, y, rfl, l3.kh, M.on (l2.trans l3), hl, A.mono l3.kk r, r', C.on (l2.trans l3)⟩
def spChanged (CM CR : Addr) : Sp := fun vs H Q E => ∃ k v call nv l n row rows, vs = [v, .int call, nv] ∧ Ex k H ∧ Mos CM k H v l ∧ Ok l ∧ (rL rZ).rel k nv n ∧ Shaped call n row rows ∧ 0 < call ∧ call < 4 ∧ Chd CM CR k H v (changed l call n) Q E
theorem sc_changed : FnScope ["mosaic", "call", "n"] ["mosaic", "call", "n"] (defScope (top 46)) := ⟨rfl, rfl, rfl, by decide +kernel, rfl, by decide +kernel, by decide +kernel⟩
theorem ok_changed (X : Cx1 K CM "shades") (F : Df K mg "changed" (top 46) ["mosaic", "call", "n"] f fd) (F1 : Dm K CM "add_shade" "Mosaic.add_shade" (inClass (top 41) 4) ["self", "level", "count"] f1 fd1) (G1 : FnOk P w K mg base (L2.CX P w) 4 f1 fd1 ["self", "level", "count"] (spAdd CM CR))
    (F2 : Dm K CM "remove_shade" "Mosaic.remove_shade" (inClass (top 41) 5) ["self", "place"] f2 fd2) (G2 : FnOk P w K mg base (L2.CX P w) 5 f2 fd2 ["self", "place"] (spRem CM CR)) (F3 : Dm K CM "set_count" "Mosaic.set_count" (inClass (top 41) 6) ["self", "place", "count"] f3 fd3) (G3 : FnOk P w K mg base (L2.CX P w) 5 f3 fd3 ["self", "place", "count"] (spSet CM CR)) :
    FnOk P w K mg base (L2.CX P w) 6 f fd ["mosaic", "call", "n"] (spChanged CM CR) := by
  refine F.fn.okX sc_changed (fun vs H Q E h => ?_) (fun cdv A outer s H vs Q E hr h => ?_)
  · obtain ⟨k, v, call, nv, l, n, row, rows, rfl, _⟩ := h
    rfl
  · obtain ⟨k, v, call, nv, l, n, row, rows, rfl, w, M, hd, rn, sh, c0, c4, C⟩ := h
    refine ⟨_, pss_cons (ps_if (pt_cmpR op_eq (pv 1) pe_int (nomark _)) (pss_one (ps_ret (pe_meth (pv 0) X.cl F1.m G1 (hr.mono (by decide)) F1.b .nil (passes_call (takes_of rfl rfl rfl rfl) (fun _ _ _ _ h => h)) (by exact (pa_cons (pe_ix ix_list (pv 2) pe_int (fun _ _ => rfl)) (pa_cons (pe_ix ix_list (pv 2) pe_int (fun _ _ => rfl)) pa_nil)))))) pss_nil)
      (pss_cons (ps_if (pt_cmpR op_eq (pv 1) pe_int (nomark _)) (pss_one (ps_ret (pe_meth (pv 0) X.cl F2.m G2 hr F2.b .nil (passes_call (takes_of rfl rfl rfl rfl) (fun _ _ _ _ h => h)) (by exact (pa_cons (pe_ix ix_list (pv 2) pe_int (fun _ _ => rfl)) pa_nil))))) pss_nil)
      (pss_one (ps_ret (pe_meth (pv 0) X.cl F3.m G3 hr F3.b .nil (passes_call (takes_of rfl rfl rfl rfl) (fun _ _ _ _ h => h)) (by exact (pa_cons (pe_ix ix_list (pv 2) pe_int (fun _ _ => rfl)) (pa_cons (pe_ix ix_list (pv 2) pe_int (fun _ _ => rfl)) pa_nil))))))), ?_⟩
    cases sh with
    | c1 a b => exact q_eqYes rfl rfl (sc_ret2 rfl M hd w (by decide +kernel) (ev_ixL (A := rZ) (j := 0) (ev_var rfl rn) (ev_int 0) rfl rfl) (ev_ixL (A := rZ) (j := 1) (ev_var rfl rn) (ev_int 1) rfl rfl) C)
    | c2 a => exact q_eqNo rfl (by decide) (q_eqYes rfl rfl (sc_ret1 rfl M hd w (by decide +kernel) (ev_ixL (A := rZ) (j := 0) (ev_var rfl rn) (ev_int 0) rfl rfl) C))
    | c3 a b => exact q_eqNo rfl (by decide) (q_eqNo rfl (by decide) (sc_ret2 rfl M hd w (by decide +kernel) (ev_ixL (A := rZ) (j := 0) (ev_var rfl rn) (ev_int 0) rfl rfl) (ev_ixL (A := rZ) (j := 1) (ev_var rfl rn) (ev_int 1) rfl rfl) C))
    | c0 => omega
    | _ => omega
/-! ### asked -/
def spAsked (CM CR : Addr) : Sp := fun vs H Q E => ∃ k v call nv rv l n row rows, vs = [v, .int call, nv, rv] ∧ Ex k H ∧ Mos CM k H v l ∧ Ok l ∧ (rL rZ).rel k nv n ∧ (rL rZ).rel k rv row ∧ Shaped call n row rows ∧ 4 ≤ call ∧
  (∀ r, asked l call n row = .ok r → ∀ u k2 h2, Le k H k2 h2 → (rL rZ).rel k2 u r → Q u h2) ∧ (∀ c, asked l call n row = .error c → Rf CR E H c)
theorem sc_asked : FnScope ["mosaic", "call", "n", "row"] ["mosaic", "call", "n", "row"] (defScope (top 47)) := ⟨rfl, rfl, rfl, by decide +kernel, rfl, by decide +kernel, by decide +kernel⟩
/-- the ten methods that are asked, and two more -/
structure Qs (P : Program) (w : World) (K : PySem.W.Frag) (mg : Str → Option Value) (base : Heap) (CM CR : Addr) : Prop where
  q4 : ∃ f fd, Dm K CM "min_error" "Mosaic.min_error" (inClass (top 41) 7) ["self", "colours"] f fd ∧ FnOk P w K mg base (L2.CX P w) 8 f fd ["self", "colours"] (spMinE CM CR)
  q5 : ∃ f fd, Dm K CM "best_palette" "Mosaic.best_palette" (inClass (top 41) 8) ["self", "colours"] f fd ∧ FnOk P w K mg base (L2.CX P w) 8 f fd ["self", "colours"] (spPalette CM CR)
  q6 : ∃ f fd, Dm K CM "best_groups" "Mosaic.best_groups" (inClass (top 41) 9) ["self", "colours"] f fd ∧ FnOk P w K mg base (L2.CX P w) 8 f fd ["self", "colours"] (spGroupsQ CM CR)
  q7 : ∃ f fd, Dm K CM "colour_of" "Mosaic.colour_of" (inClass (top 41) 10) ["self", "place", "colours"] f fd ∧ FnOk P w K mg base (L2.CX P w) 8 f fd ["self", "place", "colours"] (spCol CM CR)
  q8 : ∃ f fd, Dm K CM "error_reduction" "Mosaic.error_reduction" (inClass (top 41) 11) ["self", "colours"] f fd ∧ FnOk P w K mg base (L2.CX P w) 8 f fd ["self", "colours"] (spRed CM CR)
  q9 : ∃ f fd, Dm K CM "error_table" "Mosaic.error_table" (inClass (top 41) 12) ["self"] f fd ∧ FnOk P w K mg base CX0 8 f fd ["self"] (spTable CM CR)
  q10 : ∃ f fd, Dm K CM "min_colours" "Mosaic.min_colours" (inClass (top 41) 13) ["self", "bound"] f fd ∧ FnOk P w K mg base (L2.CX P w) 8 f fd ["self", "bound"] (spMinC CM CR)
  q11 : ∃ f fd, Dm K CM "palette_error" "Mosaic.palette_error" (inClass (top 41) 14) ["self", "palette"] f fd ∧ FnOk P w K mg base (L2.CX P w) 8 f fd ["self", "palette"] (spPalQ CM CR)
  q12 : ∃ f fd, Dm K CM "median" "Mosaic.median" (inClass (top 41) 15) ["self", "begin", "last"] f fd ∧ FnOk P w K mg base (L2.CX P w) 8 f fd ["self", "begin", "last"] (spMedQ CM CR)
  q13 : ∃ f fd, Dm K CM "group_counts" "Mosaic.group_counts" (inClass (top 41) 16) ["self", "colours"] f fd ∧ FnOk P w K mg base (L2.CX P w) 8 f fd ["self", "colours"] (spCounts CM CR)
  q14 : ∃ f fd, Dm K CM "totals" "Mosaic.totals" (inClass (top 41) 17) ["self"] f fd ∧ FnOk P w K mg base CX0 8 f fd ["self"] (spTotals CM CR)
  q15 : ∃ f fd, Dm K CM "describe" "Mosaic.describe" (inClass (top 41) 18) ["self"] f fd ∧ FnOk P w K mg base CX0 8 f fd ["self"] (spDescr CM CR)
theorem ok_asked (X : Cx1 K CM "shades") (F : Df K mg "asked" (top 47) ["mosaic", "call", "n", "row"] f fd) (S : Qs P w K mg base CM CR) : FnOk P w K mg base (L2.CX P w) 9 f fd ["mosaic", "call", "n", "row"] (spAsked CM CR) := by
  obtain ⟨f4, fd4, F4, G4⟩ := S.q4
  obtain ⟨f5, fd5, F5, G5⟩ := S.q5
  obtain ⟨f6, fd6, F6, G6⟩ := S.q6
  obtain ⟨f7, fd7, F7, G7⟩ := S.q7
  obtain ⟨f8, fd8, F8, G8⟩ := S.q8
  obtain ⟨f9, fd9, F9, G9⟩ := S.q9
  obtain ⟨f10, fd10, F10, G10⟩ := S.q10
  obtain ⟨f11, fd11, F11, G11⟩ := S.q11
  obtain ⟨f12, fd12, F12, G12⟩ := S.q12
  obtain ⟨f13, fd13, F13, G13⟩ := S.q13
  obtain ⟨f14, fd14, F14, G14⟩ := S.q14
  obtain ⟨f15, fd15, F15, G15⟩ := S.q15
  refine F.fn.okX sc_asked (fun vs H Q E h => ?_) (fun cdv A outer s H vs Q E hr h => ?_)
  · obtain ⟨k, v, call, nv, rv, l, n, row, rows, rfl, _⟩ := h
    rfl
  · obtain ⟨k, v, call, nv, rv, l, n, row, rows, rfl, w, M, hd, rn, rr, sh, c4, q, qe⟩ := h
    refine ⟨_, pss_cons (ps_if (pt_cmpR op_eq (pv 1) pe_int (nomark _)) (pss_one (ps_ret (pe_meth (pv 0) X.cl F4.m G4 hr F4.b .nil (passes_call (takes_of rfl rfl rfl rfl) (fun _ _ _ _ h => h)) (by exact (pa_cons (pe_ix ix_list (pv 2) pe_int (fun _ _ => rfl)) pa_nil))))) pss_nil)
      (pss_cons (ps_if (pt_cmpR op_eq (pv 1) pe_int (nomark _)) (pss_one (ps_ret (pe_meth (pv 0) X.cl F5.m G5 hr F5.b .nil (passes_call (takes_of rfl rfl rfl rfl) (fun _ _ _ _ h => h)) (by exact (pa_cons (pe_ix ix_list (pv 2) pe_int (fun _ _ => rfl)) pa_nil))))) pss_nil)
      (pss_cons (ps_if (pt_cmpR op_eq (pv 1) pe_int (nomark _)) (pss_one (ps_ret (pe_meth (pv 0) X.cl F6.m G6 hr F6.b .nil (passes_call (takes_of rfl rfl rfl rfl) (fun _ _ _ _ h => h)) (by exact (pa_cons (pe_ix ix_list (pv 2) pe_int (fun _ _ => rfl)) pa_nil))))) pss_nil)
      (pss_cons (ps_if (pt_cmpR op_eq (pv 1) pe_int (nomark _)) (pss_one (ps_ret (pe_meth (pv 0) X.cl F7.m G7 hr F7.b .nil (passes_call (takes_of rfl rfl rfl rfl) (fun _ _ _ _ h => h)) (by exact (pa_cons (pe_ix ix_list (pv 2) pe_int (fun _ _ => rfl)) (pa_cons (pe_ix ix_list (pv 2) pe_int (fun _ _ => rfl)) pa_nil)))))) pss_nil)
      (pss_cons (ps_if (pt_cmpR op_eq (pv 1) pe_int (nomark _)) (pss_one (ps_ret (pe_meth (pv 0) X.cl F8.m G8 hr F8.b .nil (passes_call (takes_of rfl rfl rfl rfl) (fun _ _ _ _ h => h)) (by exact (pa_cons (pe_ix ix_list (pv 2) pe_int (fun _ _ => rfl)) pa_nil))))) pss_nil)
      (pss_cons (ps_if (pt_cmpR op_eq (pv 1) pe_int (nomark _)) (pss_one (ps_ret (pe_meth0 (pv 0) X.cl F9.m G9 hr F9.b .nil pass0))) pss_nil)
      (pss_cons (ps_if (pt_cmpR op_eq (pv 1) pe_int (nomark _)) (pss_one (ps_ret (pe_meth (pv 0) X.cl F10.m G10 hr F10.b .nil (passes_call (takes_of rfl rfl rfl rfl) (fun _ _ _ _ h => h)) (by exact (pa_cons (pe_ix ix_list (pv 2) pe_int (fun _ _ => rfl)) pa_nil))))) pss_nil)
      (pss_cons (ps_if (pt_cmpR op_eq (pv 1) pe_int (nomark _)) (pss_one (ps_ret (pe_meth (pv 0) X.cl F11.m G11 hr F11.b .nil (passes_call (takes_of rfl rfl rfl rfl) (fun _ _ _ _ h => h)) (by exact (pa_cons (pv 3) pa_nil))))) pss_nil)
      (pss_cons (ps_if (pt_cmpR op_eq (pv 1) pe_int (nomark _)) (pss_one (ps_ret (pe_meth (pv 0) X.cl F12.m G12 hr F12.b .nil (passes_call (takes_of rfl rfl rfl rfl) (fun _ _ _ _ h => h)) (by exact (pa_cons (pe_ix ix_list (pv 2) pe_int (fun _ _ => rfl)) (pa_cons (pe_ix ix_list (pv 2) pe_int (fun _ _ => rfl)) pa_nil)))))) pss_nil)
      (pss_cons (ps_if (pt_cmpR op_eq (pv 1) pe_int (nomark _)) (pss_one (ps_ret (pe_meth (pv 0) X.cl F13.m G13 hr F13.b .nil (passes_call (takes_of rfl rfl rfl rfl) (fun _ _ _ _ h => h)) (by exact (pa_cons (pe_ix ix_list (pv 2) pe_int (fun _ _ => rfl)) pa_nil))))) pss_nil)
      (pss_one (ps_ret (pe_ifExp (pt_cmpR op_eq (pv 1) pe_int (nomark _)) (pe_meth0 (pv 0) X.cl F14.m G14 hr F14.b .nil pass0) (pe_meth0 (pv 0) X.cl F15.m G15 hr F15.b .nil pass0))))))))))))), ?_⟩
    have a0' : ∀ {a : Int} {r : List Int}, (rL rZ).rel k nv (a :: r) → ∀ c : Int, Ev (tOp (rIxL K) (tVar 2) (tC (.int 0))) [some v, some (.int c), some nv, some rv] k H rZ a := fun rn c => ev_ixL (A := rZ) (j := 0) (ev_var rfl rn) (ev_int 0) rfl rfl
    have a1' : ∀ {a b : Int} {r : List Int}, (rL rZ).rel k nv (a :: b :: r) → ∀ c : Int, Ev (tOp (rIxL K) (tVar 2) (tC (.int 1))) [some v, some (.int c), some nv, some rv] k H rZ b := fun rn c => ev_ixL (A := rZ) (j := 1) (ev_var rfl rn) (ev_int 1) rfl rfl
    cases sh with
    | c4 a => exact q_eqYes rfl rfl (sx_ret (ex_m1 (A := rZ) rfl M hd (by decide +kernel) (a0' rn _)) w qe q)
    | c5 a => exact q_eqNo rfl (by decide) (q_eqYes rfl rfl (sx_ret (ex_m1 (A := rZ) rfl M hd (by decide +kernel) (a0' rn _)) w qe q))
    | c6 a => exact q_eqNo rfl (by decide) (q_eqNo rfl (by decide) (q_eqYes rfl rfl (sx_ret (ex_m1 (A := rZ) rfl M hd (by decide +kernel) (a0' rn _)) w qe q)))
    | c7 a b => exact q_eqNo rfl (by decide) (q_eqNo rfl (by decide) (q_eqNo rfl (by decide) (q_eqYes rfl rfl (sx_ret (ex_m2 (A := rZ) (B := rZ) rfl M hd (by decide +kernel) (a0' rn _) (a1' rn _)) w qe q))))
    | c8 a => exact q_eqNo rfl (by decide) (q_eqNo rfl (by decide) (q_eqNo rfl (by decide) (q_eqNo rfl (by decide) (q_eqYes rfl rfl (sx_ret (ex_m1 (A := rZ) rfl M hd (by decide +kernel) (a0' rn _)) w qe q)))))
    | c9 => exact q_eqNo rfl (by decide) (q_eqNo rfl (by decide) (q_eqNo rfl (by decide) (q_eqNo rfl (by decide) (q_eqNo rfl (by decide) (q_eqYes rfl rfl (sx_ret (CR := CR) (ex_m0 rfl M hd (by decide +kernel)) w (fun c e => by cases e) q))))))
    | c10 a => exact q_eqNo rfl (by decide) (q_eqNo rfl (by decide) (q_eqNo rfl (by decide) (q_eqNo rfl (by decide) (q_eqNo rfl (by decide) (q_eqNo rfl (by decide) (q_eqYes rfl rfl (sx_ret (ex_m1 (A := rZ) rfl M hd (by decide +kernel) (a0' rn _)) w qe q)))))))
    | c11 => exact q_eqNo rfl (by decide) (q_eqNo rfl (by decide) (q_eqNo rfl (by decide) (q_eqNo rfl (by decide) (q_eqNo rfl (by decide) (q_eqNo rfl (by decide) (q_eqNo rfl (by decide) (q_eqYes rfl rfl (sx_ret (ex_m1 (A := rL rZ) rfl M hd (by decide +kernel) (ev_var rfl rr)) w qe q))))))))
    | c12 a b => exact q_eqNo rfl (by decide) (q_eqNo rfl (by decide) (q_eqNo rfl (by decide) (q_eqNo rfl (by decide) (q_eqNo rfl (by decide) (q_eqNo rfl (by decide) (q_eqNo rfl (by decide) (q_eqNo rfl (by decide) (q_eqYes rfl rfl (sx_ret (ex_m2 (A := rZ) (B := rZ) rfl M hd (by decide +kernel) (a0' rn _) (a1' rn _)) w qe q)))))))))
    | c13 a => exact q_eqNo rfl (by decide) (q_eqNo rfl (by decide) (q_eqNo rfl (by decide) (q_eqNo rfl (by decide) (q_eqNo rfl (by decide) (q_eqNo rfl (by decide) (q_eqNo rfl (by decide) (q_eqNo rfl (by decide) (q_eqNo rfl (by decide) (q_eqYes rfl rfl (sx_ret (ex_m1 (A := rZ) rfl M hd (by decide +kernel) (a0' rn _)) w qe q))))))))))
    | c14 =>
      refine q_eqNo rfl (by decide) (q_eqNo rfl (by decide) (q_eqNo rfl (by decide) (q_eqNo rfl (by decide) (q_eqNo rfl (by decide) (q_eqNo rfl (by decide) (q_eqNo rfl (by decide) (q_eqNo rfl (by decide) (q_eqNo rfl (by decide) (q_eqNo rfl (by decide) ?_)))))))))
      exact ⟨_, rfl, rfl, true, rfl, iteT (ex_m0 (CR := CR) (i := 0) (f := qTotals) rfl M hd (by decide +kernel) k H (Le.refl w) _ q (fun c e => by cases e))⟩
    | c15 =>
      refine q_eqNo rfl (by decide) (q_eqNo rfl (by decide) (q_eqNo rfl (by decide) (q_eqNo rfl (by decide) (q_eqNo rfl (by decide) (q_eqNo rfl (by decide) (q_eqNo rfl (by decide) (q_eqNo rfl (by decide) (q_eqNo rfl (by decide) (q_eqNo rfl (by decide) ?_)))))))))
      exact ⟨_, rfl, rfl, false, rfl, iteF (ex_m0 (CR := CR) (i := 0) (f := qDescribe) rfl M hd (by decide +kernel) k H (Le.refl w) _ q (fun c e => by cases e))⟩
    | _ => omega
end
end WK
namespace WK
open PySem PySem.Spec PyProof.Rows L2 FW FS
section
variable {P : Program} {w : World} {K : PySem.W.Frag} {mg : Str → Option Value} {base : Heap} {f f1 f2 f3 f4 f5 f6 fI CR CM CD : Addr} {fd fd1 fd2 fd3 fd4 fd5 fd6 fdI : FuncData}
/-! ### Desk -/
def notIns (o : HO) : Prop := ∀ C dx fs, o ≠ .ins C dx fs
/-- as Le, but instances may change -/
structure Ld (k h k' h' : Hp) : Prop where
  kk : Ex k k'
  hh : ∀ b o, notIns o → h b = some o → h' b = some o
  kh : Ex k' h'
  fr : ∀ b o, h b = some o → k' b = k b
theorem Ld.of_le {k h k' h' : Hp} (e : Le k h k' h') : Ld k h k' h' := ⟨e.kk, fun b o _ q => e.hh b o q, e.kh, e.fr⟩
theorem Ld.of_lc {a C dx : Addr} {fs : List (Str × V)} {k h k' h' : Hp} (ha : h a = some (.ins C dx fs)) (e : Lc a k h k' h') : Ld k h k' h' := ⟨e.kk, fun b o n q => e.hh b o (fun z => by
  rw [z, ha] at q
  exact n _ _ _ (Option.some.inj q).symm) q, e.kh, e.fr⟩
/-- what has changed but instances, then a further piece -/
theorem Ld.then_le {k h k1 h1 k2 h2 : Hp} (a : Ld k h k1 h1) (ins : ∀ b C dx fs, h b = some (.ins C dx fs) → k2 b = k1 b) (b : Le k1 h1 k2 h2) : Ld k h k2 h2 :=
  ⟨a.kk.trans b.kk, fun c o n q => b.hh c o (a.hh c o n q), b.kh, fun c o q => by
    by_cases n : notIns o
    · exact (b.fr c o (a.hh c o n q)).trans (a.fr c o q)
    · have : ∃ C dx fs, o = .ins C dx fs := Classical.byContradiction fun z => n fun C dx fs e => z ⟨C, dx, fs, e⟩
      obtain ⟨C, dx, fs, rfl⟩ := this
      exact (ins c C dx fs q).trans (a.fr c _ q)⟩
def DeskAt (CD CM : Addr) (k H : Hp) (d : Addr) (st : Option Sh) : Prop := ∃ dd mv, H d = some (.ins CD dd [("mosaic", mv)]) ∧ k d = none ∧ match st with | none => mv = .non | some l => Mos CM k H mv l
theorem DeskAt.on {k h k' h' : Hp} {d : Addr} {st : Option Sh} (e : Le k h k' h') (m : DeskAt CD CM k h d st) : DeskAt CD CM k' h' d st := by
  obtain ⟨dd, mv, h1, h2, h3⟩ := m
  refine ⟨dd, mv, e.hh _ _ h1, e.unk h2 h1, ?_⟩
  cases st with
  | none => exact h3
  | some l => exact Mos.on e h3
def OkS (st : Option Sh) : Prop := ∀ l, st = some l → Ok l
def spDInit (CD : Addr) : Sp := fun vs H Q _ => ∃ p dx, vs = [.ref p] ∧ H p = some (.ins CD dx []) ∧ Q .non (upd H p (.ins CD dx [("mosaic", .non)]))
theorem sc_dinit : FnScope ["self"] ["self"] (defScope (inClass (top 45) 0)) := ⟨rfl, rfl, rfl, by decide +kernel, rfl, by decide +kernel, by decide +kernel⟩
theorem ok_dinit (X : Cx1 K CD "mosaic") (F : Fun K "__init__" "Desk.__init__" (inClass (top 45) 0) f fd) : FnOk P w K mg base CX0 1 f fd ["self"] (spDInit CD) := by
  refine F.ok sc_dinit (fun vs H Q E h => ?_) (fun cdv A outer s H vs Q E hr h => ?_)
  · obtain ⟨p, dx, rfl, _⟩ := h
    rfl
  · obtain ⟨p, dx, rfl, hp, q⟩ := h
    refine ⟨_, pss_one (ps_fld (pv 0) pe_non rfl), ?_⟩
    exact ⟨.ref p, rfl, p, CD, dx, [], rfl, hp, X.cl, X.na, by decide, q⟩
/-- what a call of the desk's does -/
def Dsk (CD CM CR : Addr) (k H : Hp) (d : Addr) (m : Except Int (Option Sh × List Int)) (Q : VK) (E : XK) : Prop :=
  (∀ st' r, m = .ok (st', r) → ∀ u k2 h2, Ld k H k2 h2 → DeskAt CD CM k2 h2 d st' → (rL rZ).rel k2 u r → Q u h2) ∧ (∀ c, m = .error c → Rf CR E H c)
def spCreate (CD CM CR : Addr) : Sp := fun vs H Q _ => ∃ k d st, vs = [.ref d] ∧ Ex k H ∧ DeskAt CD CM k H d st ∧ ∀ u k2 h2, Ld k H k2 h2 → DeskAt CD CM k2 h2 d (some []) → (rL rZ).rel k2 u [0] → Q u h2
theorem sc_create : FnScope ["self"] ["self"] (defScope (inClass (top 45) 1)) := ⟨rfl, rfl, rfl, by decide +kernel, rfl, by decide +kernel, by decide +kernel⟩
theorem ok_create (X : Cx1 K CD "mosaic") (F : Dm K CD "create" "Desk.create" (inClass (top 45) 1) ["self"] f fd) (M1 : Mk K CM f1) (g1 : mg "Mosaic" = some (.ref CM)) (b1 : Binds K fd1 ["self"] []) (G1 : FnOk P w K mg base CX0 1 f1 fd1 ["self"] (spMInit CM)) : FnOk P w K mg base CX0 3 f fd ["self"] (spCreate CD CM CR) := by
  refine F.fn.ok sc_create (fun vs H Q E h => ?_) (fun cdv A outer s H vs Q E hr h => ?_)
  · obtain ⟨k, d, st, rfl, _⟩ := h
    rfl
  · obtain ⟨k, d, st, rfl, w, ⟨dd, mv, hd, kd, _⟩, q⟩ := h
    refine ⟨_, pss_cons (ps_fld (pv 0) (pe_make0 M1 G1 hr (by rfl) g1 b1 .nil pass0) rfl) (pss_one (ps_ret (pe_lst (pa_cons pe_int pa_nil)))), ?_⟩
    intro x dx hx hdx hne
    refine ⟨x, dx, rfl, upd_same, fun r hr' => ⟨rfl, ?_⟩⟩
    -- x: the mosaic, dx: its dict, r: its list of shades
    have rx : r ≠ x := fun z => by
      rw [z, upd_same] at hr'
      cases hr'
    have rdx : r ≠ dx := fun z => by
      rw [z, upd_ne hne, upd_same] at hr'
      cases hr'
    have Hr : H r = none := by
      rw [upd_ne rx, upd_ne rdx] at hr'
      exact hr'
    have dX : d ≠ x := ne_of_none hd hx
    have dD : d ≠ dx := ne_of_none hd hdx
    have dR : d ≠ r := ne_of_none hd Hr
    refine ⟨.ref d, rfl, d, CD, dd, [("mosaic", mv)], rfl, ?_, X.cl, X.na, (by show 1 < 1000; decide), ?_⟩
    · rw [upd_ne dX, upd_ne dR, upd_ne dX, upd_ne dD]
      exact hd
    have ep : putF "mosaic" (.ref x) [(("mosaic" : Str), mv)] = [(("mosaic" : Str), .ref x)] := if_pos rfl
    rw [ep]
    generalize hh1 : upd (upd (upd (upd (upd H dx (.own x)) x (.ins CM dx [])) r (.lst [])) x (.ins CM dx [("shades", .ref r)])) d (.ins CD dd [("mosaic", .ref x)]) = h1
    have at1 : ∀ b o, H b = some o → b ≠ d → h1 b = some o := fun b o e n => by
      rw [← hh1, upd_ne n, upd_ne (ne_of_none e hx), upd_ne (ne_of_none e Hr), upd_ne (ne_of_none e hx), upd_ne (ne_of_none e hdx)]
      exact e
    have h1d : h1 d = some (.ins CD dd [("mosaic", .ref x)]) := by rw [← hh1, upd_same]
    have h1x : h1 x = some (.ins CM dx [("shades", .ref r)]) := by rw [← hh1, upd_ne dX.symm, upd_same]
    have h1r : h1 r = some (.lst []) := by rw [← hh1, upd_ne dR.symm, upd_ne rx, upd_same]
    have nk : ∀ b, H b = none → k b = none := fun b e => w.none e
    have L : Ld k H (upd k r (.lst [])) h1 := by
      refine ⟨(Ex.refl k).upd (nk r Hr) _, fun b o n e => at1 b o e fun z => ?_, fun b o e => ?_, fun b o e => upd_ne (ne_of_none e Hr)⟩
      · rw [z, hd] at e
        exact n _ _ _ (Option.some.inj e).symm
      · by_cases hb : b = r
        · subst hb
          rw [upd_same] at e
          cases e
          exact h1r
        · rw [upd_ne hb] at e
          exact at1 b o (w _ _ e) fun z => by
            rw [z, kd] at e
            cases e
    have kx : upd k r (.lst []) x = none := by rw [upd_ne rx.symm]; exact nk x hx
    have kd1 : upd k r (.lst []) d = none := by rw [upd_ne dR]; exact kd
    have D1 : DeskAt CD CM (upd k r (.lst [])) h1 d (some []) := ⟨dd, .ref x, h1d, kd1, x, dx, .ref r, rfl, h1x, kx, r, [], rfl, upd_same, .nil⟩
    refine s_ret (σ := [some (.ref d)]) (ev_lst1 (ev_int 0)) L.kh fun u k2 h2 l2 ru => q u k2 h2 (L.then_le (fun b C dx' fs e => ?_) l2) (D1.on l2) ru
    by_cases hb : b = d
    · rw [hb]
      exact l2.fr d _ h1d
    · exact l2.fr b _ (at1 b _ e hb)
/-! called -/
def spCalled (CD CM CR : Addr) : Sp := fun vs H Q E => ∃ k d call nv rv st n row rows, vs = [.ref d, .int call, nv, rv] ∧ Ex k H ∧ DeskAt CD CM k H d st ∧ OkS st ∧ (rL rZ).rel k nv n ∧ (rL rZ).rel k rv row ∧ Shaped call n row rows ∧ Dsk CD CM CR k H d (called st call n row) Q E
theorem sc_called : FnScope ["self", "call", "n", "row"] ["self", "call", "n", "row"] (defScope (inClass (top 45) 2)) := ⟨rfl, rfl, rfl, by decide +kernel, rfl, by decide +kernel, by decide +kernel⟩
theorem shaped_nn {call : Int} {n row : List Int} {rows : List (List Int)} (s : Shaped call n row rows) : 0 ≤ call := by
  cases s <;> decide
theorem changed_ok {l : Sh} {call : Int} {n : List Int} {rows} {row : List Int} (s : Shaped call n row rows) (h0 : ¬ call = 0) (h4 : call < 4) : called (some l) call n row = (changed l call n).map fun r => (some r.1, r.2) := by
  unfold called
  rw [if_neg h0]
  show (if call < 4 then _ else _) = _
  rw [if_pos h4]
theorem asked_ok {l : Sh} {call : Int} {n : List Int} {rows} {row : List Int} (s : Shaped call n row rows) (h0 : ¬ call = 0) (h4 : ¬ call < 4) : called (some l) call n row = (asked l call n row).map fun r => (some l, r) := by
  unfold called
  rw [if_neg h0]
  show (if call < 4 then _ else _) = _
  rw [if_neg h4]
theorem ok_called (T : Tx mg) (XD : Cx1 K CD "mosaic") (F : Dm K CD "called" "Desk.called" (inClass (top 45) 2) ["self", "call", "n", "row"] f fd) (F1 : Dm K CD "create" "Desk.create" (inClass (top 45) 1) ["self"] f1 fd1) (G1 : FnOk P w K mg base CX0 3 f1 fd1 ["self"] (spCreate CD CM CR))
    (F2 : Df K mg "need" (top 32) ["truth", "code"] f2 fd2) (G2 : FnOk P w K mg base (L2.CX P w) 3 f2 fd2 ["truth", "code"] (spNeed CR)) (F3 : Df K mg "changed" (top 46) ["mosaic", "call", "n"] f3 fd3) (G3 : FnOk P w K mg base (L2.CX P w) 6 f3 fd3 ["mosaic", "call", "n"] (spChanged CM CR))
    (F4 : Df K mg "asked" (top 47) ["mosaic", "call", "n", "row"] f4 fd4) (G4 : FnOk P w K mg base (L2.CX P w) 9 f4 fd4 ["mosaic", "call", "n", "row"] (spAsked CM CR)) : FnOk P w K mg base (L2.CX P w) 10 f fd ["self", "call", "n", "row"] (spCalled CD CM CR) := by
  refine F.fn.okX sc_called (fun vs H Q E h => ?_) (fun cdv A outer s H vs Q E hr h => ?_)
  · obtain ⟨k, d, call, nv, rv, st, n, row, rows, rfl, _⟩ := h
    rfl
  · obtain ⟨k, d, call, nv, rv, st, n, row, rows, rfl, w, D, hd, rn, rr, sh, C⟩ := h
    refine ⟨_, pss_cons (ps_if (pt_cmpR op_eq (pv 1) pe_int (nomark _)) (pss_one (ps_ret (pe_meth0 (pv 0) XD.cl F1.m G1 (hr.mono (by decide)) F1.b .nil pass0))) pss_nil)
      (pss_cons (ps_expr (pe_call G2 (hr.mono (by decide)) (by rfl) F2.g F2.fn.kp F2.b .nil (passes_call (takes_of rfl rfl rfl rfl) (fun _ _ _ _ h => h)) (by exact (pa_cons (pe_cmpR op_notN (pe_fld (pv 0) rfl) pe_non (nomark _)) (pa_cons (pe_const T.noInst) pa_nil)))))
      (pss_cons (ps_if (pt_cmpR op_lt (pv 1) pe_int (nomark _)) (pss_one (ps_ret (pe_call G3 (hr.mono (by decide)) (by rfl) F3.g F3.fn.kp F3.b .nil (passes_call (takes_of rfl rfl rfl rfl) (fun _ _ _ _ h => h)) (by exact (pa_cons (pe_fld (pv 0) rfl) (pa_cons (pv 1) (pa_cons (pv 2) pa_nil))))))) pss_nil)
      (pss_one (ps_ret (pe_call G4 hr (by rfl) F4.g F4.fn.kp F4.b .nil (passes_call (takes_of rfl rfl rfl rfl) (fun _ _ _ _ h => h)) (by exact (pa_cons (pe_fld (pv 0) rfl) (pa_cons (pv 1) (pa_cons (pv 2) (pa_cons (pv 3) pa_nil)))))))))), ?_⟩
    have D0 := D
    obtain ⟨dd, mv, hdo, kd, hm⟩ := D
    by_cases c0 : call = 0
    · subst c0
      refine q_eqYes rfl rfl ⟨.ref d, rfl, d, dd, _, rfl, hdo, lk_no (by decide +kernel), k, d, st, rfl, w, D0, fun u k2 h2 l2 D2 ru => ?_⟩
      exact C.1 (some []) [0] rfl u k2 h2 l2 D2 ru
    · refine q_eqNo rfl c0 ?_
      have nn := shaped_nn sh
      cases st with
      | none =>
        obtain rfl : mv = .non := hm
        have ef : Ev (tFld K (tVar 0) "mosaic") [some (.ref d), some (.int call), some nv, some rv] k H (rO rZ) none := ev_fld (A := rO rZ) (x := none) rfl hdo XD.cl XD.na lk_one rfl
        refine q_need (b := false) (ev_notN ef) w (fun _ => C.2 _ ?_) fun h => by cases h
        unfold called
        rw [if_neg c0]
      | some l =>
        have M : Mos CM k H mv l := hm
        obtain ⟨ma, mdx, msv, em, hma, kma, rs⟩ := id M
        have em' : mv ≠ .non := fun z => by rw [z] at em; cases em
        have ef : Ev (tFld K (tVar 0) "mosaic") [some (.ref d), some (.int call), some nv, some rv] k H (rO rU) (some ()) := ev_fld (A := rO rU) (x := some ()) rfl hdo XD.cl XD.na lk_one ⟨em', trivial⟩
        have hl : Ok l := hd l rfl
        refine q_need (b := true) (ev_notN ef) w (fun h => by cases h) fun _ k1 h1 l1 => ?_
        refine s_if (b := decide (call < 4)) (et_T (ev_lt (ev_var rfl rfl) (ev_int 4))) l1.kh (fun hb k2 h2 l2 => ?_) (fun hb k2 h2 l2 => ?_)
        · have h4 := of_decide_eq_true hb
          have l12 := l1.trans l2
          have hc := changed_ok (l := l) sh c0 h4
          rw [hc] at C
          have M2 := M.on l12
          refine ⟨.ref d, rfl, d, CD, dd, _, mv, rfl, l12.hh _ _ hdo, XD.cl, XD.na, lk_one, ?_⟩
          refine ⟨.int call, rfl, nv, rfl, ?_⟩
          refine ⟨k2, mv, call, nv, l, n, row, rows, rfl, l12.kh, M2, hl, (rL rZ).mono l12.kk rn, sh, by omega, h4, fun l' r er a u k3 h3 ea lc M3 ru => ?_, fun c er => (C.2 c (by rw [er]; rfl)).mono l12.hh⟩
          refine C.1 (some l') r (by rw [er]; rfl) u k3 h3 ?_ ?_ ru
          · rw [em] at ea
            cases ea
            have ld := Ld.of_lc (l12.hh _ _ hma) lc
            exact ⟨l12.kk.trans ld.kk, fun b o n q => ld.hh b o n (l12.hh b o q), ld.kh, fun b o q => (ld.fr b o (l12.hh b o q)).trans (l12.fr b o q)⟩
          · rw [em] at ea
            cases ea
            have ne : d ≠ ma ∨ d = ma := (Decidable.em (d = ma)).symm
            rcases ne with ne | ne
            · exact ⟨dd, mv, lc.hh d _ ne (l12.hh _ _ hdo), (lc.fr d _ (l12.hh _ _ hdo)).trans (l12.unk kd hdo), M3⟩
            · exfalso
              rw [ne, hma] at hdo
              have z := Option.some.inj hdo
              injection z with z1 z2 z3
              injection z3 with z4 z5
              have z6 := congrArg Prod.fst z4
              exact absurd z6 (show ¬ (("shades" : Str) = ("mosaic" : Str)) by decide +kernel)
        · have h4 := of_decide_eq_false hb
          have l12 := l1.trans l2
          have hc := asked_ok (l := l) sh c0 h4
          rw [hc] at C
          have M2 := M.on l12
          refine ⟨.ref d, rfl, d, CD, dd, _, mv, rfl, l12.hh _ _ hdo, XD.cl, XD.na, lk_one, ?_⟩
          refine ⟨.int call, rfl, nv, rfl, rv, rfl, ?_⟩
          refine ⟨k2, mv, call, nv, rv, l, n, row, rows, rfl, l12.kh, M2, hl, (rL rZ).mono l12.kk rn, (rL rZ).mono l12.kk rr, sh, by omega, fun r er u k3 h3 l3 ru => ?_, fun c er => (C.2 c (by rw [er]; rfl)).mono l12.hh⟩
          exact C.1 (some l) r (by rw [er]; rfl) u k3 h3 (Ld.of_le (l12.trans l3)) (D0.on (l12.trans l3)) ru
/-! answer -/
def spAnswer (CD CM : Addr) : Sp := fun vs H Q _ => ∃ k d call nv rv st n row rows, vs = [.ref d, .int call, nv, rv] ∧ Ex k H ∧ DeskAt CD CM k H d st ∧ OkS st ∧ (rL rZ).rel k nv n ∧ (rL rZ).rel k rv row ∧ Shaped call n row rows ∧
  ∀ u k2 h2, Ld k H k2 h2 → DeskAt CD CM k2 h2 d (answer st call n row).1 → (rL rZ).rel k2 u (answer st call n row).2 → Q u h2
theorem sc_answer : FnScope ["self", "call", "n", "row", "found", "e"] ["self", "call", "n", "row"] (defScope (inClass (top 45) 3)) := ⟨rfl, rfl, rfl, by decide +kernel, rfl, by decide +kernel, by decide +kernel⟩
theorem ok_answer (R : Rx K mg CR fI) (XD : Cx1 K CD "mosaic") (F : Dm K CD "answer" "Desk.answer" (inClass (top 45) 3) ["self", "call", "n", "row"] f fd) (F1 : Dm K CD "called" "Desk.called" (inClass (top 45) 2) ["self", "call", "n", "row"] f1 fd1)
    (G1 : FnOk P w K mg base (L2.CX P w) 10 f1 fd1 ["self", "call", "n", "row"] (spCalled CD CM CR)) : FnOk P w K mg base CX0 11 f fd ["self", "call", "n", "row"] (spAnswer CD CM) := by
  refine F.fn.ok sc_answer (fun vs H Q E h => ?_) (fun cdv A outer s H vs Q E hr h => ?_)
  · obtain ⟨k, d, call, nv, rv, st, n, row, rows, rfl, _⟩ := h
    rfl
  · obtain ⟨k, d, call, nv, rv, st, n, row, rows, rfl, w, D, hd, rn, rr, sh, q⟩ := h
    refine ⟨_, pss_cons (ps_try_as (i := 5) (tb := fun W => tAsg (tMethS CD "called" (spCalled CD CM CR) (WE W) (tVar 0) (tCons (tVar 1) (tCons (tVar 2) (tCons (tVar 3) tNil)))) (gName 4)) (ts := fun a cls dd => tAsg (tLst (tCons (tXf a cls dd CR "code" (tVar 5)) tNil)) (gName 4)) (Wout := fun _ _ _ _ => False) rfl rfl sc_answer.nd rfl rfl ⟨rfl, by decide, Or.inl R.gC⟩ takes0
        (fun W pn xe tk _ => pss_one (ps_set (i := 4) sc_answer.nd rfl (.inl rfl) (by exact (pe_methS (pv 0) XD.cl F1.m G1 hr F1.b (fun σ => passAt tk σ) (by exact (pa_cons (pv 1) (pa_cons (pv 2) (pa_cons (pv 3) pa_nil))))))))
        (fun a oe cls dd pn hz hf => pss_one (ps_set (i := 4) sc_answer.nd rfl (.inl rfl) (by exact (pe_lst (pa_cons (pe_xf R.xf R.no hz hf (pv 5)) pa_nil))))))
      (pss_one (ps_ret (pv 4))), ?_⟩
    obtain ⟨dd, mv, hdo, kd, hm⟩ := id D
    refine ⟨.ref d, rfl, d, dd, _, rfl, hdo, lk_no (by decide +kernel), .int call, rfl, nv, rfl, rv, rfl, ?_⟩
    refine ⟨k, d, call, nv, rv, st, n, row, rows, rfl, w, D, hd, rn, rr, sh, fun st' r er u k2 h2 l2 D2 ru => ?_, fun c er => ?_⟩
    · have ea : answer st call n row = (st', r) := by
        unfold answer
        rw [er]
      rw [ea] at q
      exact ⟨u, rfl, q u k2 h2 l2 D2 ru⟩
    · have ea : answer st call n row = (st, [c]) := by
        unfold answer
        rw [er]
      rw [ea] at q
      intro x h2 hx e2 hx2
      refine ⟨true, R.te, fun _ a ha => ?_, fun z => Bool.noConfusion z⟩
      refine ⟨.ref a, rfl, rfl, rfl, x, _, .int c, rfl, hx2, lk_one, by show 1 ≤ sizeLine; decide, fun p hp => ?_⟩
      have l2 : Le k H k h2 := ⟨Ex.refl k, e2, w.trans e2, fun _ _ _ => rfl⟩
      have n2 := Le.new l2.kh hp (.lst [.int c])
      exact ⟨.ref p, rfl, q _ _ _ (Ld.of_le (l2.trans n2)) (D.on (l2.trans n2)) ⟨p, _, rfl, upd_same, .cons rfl .nil⟩⟩
end
end WK
namespace WK
open PySem PySem.Spec PyProof.Rows L2 FW FS
section
variable {P : Program} {w : World} {K : PySem.W.Frag} {mg : Str → Option Value} {base : Heap} {f f1 f2 f3 f4 f5 f6 fI CR CM CD : Addr} {fd fd1 fd2 fd3 fd4 fd5 fd6 fdI : FuncData}
/-! ### row_at -/
def rowAtF (l : List Int) (i : Nat) (call : Int) : List Int × Nat := if call ≠ 11 then ([], i) else (cut l (i + 1) (i + 1 + (l.getD i 0).toNat), i + 1 + (l.getD i 0).toNat)
def rowDom (l : List Int) (i : Nat) (call : Int) : Prop := call = 11 → ∃ m : Nat, l[i]? = some (m : Int) ∧ i + 1 + m ≤ l.length
abbrev spRow (K : PySem.W.Frag) : Sp := Sp3 (rQ K) rN rZ rowDom (rP (rL rZ) rN) rowAtF
theorem sc_row : FnScope ["calls", "at", "call", "behind"] ["calls", "at", "call"] (defScope (top 48)) := ⟨rfl, rfl, rfl, by decide +kernel, rfl, by decide +kernel, by decide +kernel⟩
theorem q_neNo {σ : L2.St} {h : Hp} {c n : Int} {i : Nat} {D : Ends} {t tz : TS} (hs : σ[i]? = some (some (.int c))) (he : c = n) (q : tz D σ h) : tSeq (tIfS (tTest (tOp rNe (tVar i) (tC (.int n)))) t tNext) tz D σ h := by
  refine ⟨_, hs, rfl, false, ?_, iteF q⟩
  rw [dec_int, beq_iff_eq.mpr he]
  rfl
theorem q_neYes {σ : L2.St} {h : Hp} {c n : Int} {i : Nat} {D : Ends} {t tz : TS} (hs : σ[i]? = some (some (.int c))) (hne : ¬ c = n) (q : t { D with nx := tz D } σ h) : tSeq (tIfS (tTest (tOp rNe (tVar i) (tC (.int n)))) t tNext) tz D σ h := by
  refine ⟨_, hs, rfl, true, ?_, iteT q⟩
  rw [dec_int, beq_false_of_ne hne]
  rfl
theorem ok_row (T : Tx mg) (F : Df K mg "row_at" (top 48) ["calls", "at", "call"] f fd) : FnOk P w K mg base CX0 1 f fd ["calls", "at", "call"] (spRow K) := by
  refine F.fn.ok sc_row (fun vs H Q E h => ?_) (fun cdv A outer s H vs Q E hr h => ?_)
  · obtain ⟨k, v, u, z, x, y, zz, rfl, _⟩ := h
    rfl
  · obtain ⟨k, v, u, z, l, i, call, rfl, w, r, ru, rz, hd, q⟩ := h
    obtain rfl : u = .int (i : Int) := ru
    obtain rfl : z = .int call := rz
    refine ⟨_, pss_cons (ps_if (pt_cmpR op_ne (pv 2) (pe_const T.withRow) (nomark _)) (pss_one (ps_ret (pe_tup (pa_cons (pe_lst pa_nil) (pa_cons (pv 1) pa_nil))))) pss_nil)
      (pss_cons (ps_set (i := 3) sc_row.nd rfl (.inl rfl) (pe_op op_add (pe_op op_add (pv 1) pe_int) (pe_ix ix_list (pv 0) (pv 1) (fun _ _ => rfl))))
      (pss_one (ps_ret (pe_tup (pa_cons (pe_slice sl_list (pv 0) (po_some (pe_op op_add (pv 1) pe_int)) (po_some (pv 3))) (pa_cons (pv 3) pa_nil)))))), ?_⟩
    by_cases c : call = 11
    · obtain ⟨m, hm, hle⟩ := hd c
      have hi : i < l.length := by omega
      have e : rowAtF l i call = (cut l (i + 1) (i + 1 + m), i + 1 + m) := by
        unfold rowAtF
        rw [if_neg (by simpa using c), List.getD_eq_getElem?_getD, hm]
        rfl
      rw [e] at q
      refine q_neNo rfl c ?_
      refine q_asgI (n := ((i + 1 + m : Nat) : Int)) (ev_is (ev_add (ev_add (ev_var rfl rfl) (ev_int 1)) (ev_ixQ (ev_var rfl r) (ev_var rfl rfl) hm rfl)) (by omega)) w fun k1 h1 l1 => ?_
      exact s_ret (ev_tup (ev_cutQ (i := i + 1) (j := i + 1 + m) (ev_var rfl ((rQ K).mono l1.kk r)) (ev_add (ev_var rfl rfl) (ev_int 1)) (ev_var rfl rfl) (by omega) rfl (by omega) hle) (ev_var rfl rfl)) l1.kh fun u k2 h2 l2 ru => q u k2 h2 (l1.trans l2) ru
    · have e : rowAtF l i call = ([], i) := by
        unfold rowAtF
        rw [if_pos c]
      rw [e] at q
      exact q_neYes rfl c (s_ret (ev_tup ev_nil (ev_var rfl rfl)) w q)
/-! ### answers -/
def spAns (K : PySem.W.Frag) : Sp := fun vs H Q _ => ∃ (a : Addr) (l : List Int), vs = [.ref a] ∧ SqL K H a (l.map V.int) ∧ PySr110.answers_asked l = true ∧
  ∀ (H' : Hp) (p : Addr), H' p = some (.lst ((PySr110.answers l).map V.int)) → Q (.ref p) H'
theorem sc_ans : FnScope ["calls", "desk", "found", "at", "call", "begin", "end", "row", "told"] ["calls"] (defScope (top 49)) := ⟨rfl, rfl, rfl, by decide +kernel, rfl, by decide +kernel, by decide +kernel⟩
/-- the state ahead of a turn -/
structure Loop (K : PySem.W.Frag) (CD CM : Addr) (l : List Int) (cv : V) (d p : Addr) (i : Nat) (σ : L2.St) (k h : Hp) (st : Option Sr110.Picture) (fu : Nat) (cs : List (List (List Int))) (out : List Int) : Prop where
  le : i ≤ l.length
  sl : ∃ a b c e g, σ = [some cv, some (.ref d), some (.ref p), some (.int (i : Int)), a, b, c, e, g]
  kh : Ex k h
  rq : (rQ K).rel k cv l
  dk : DeskAt CD CM k h d (encS st)
  gd : GoodS st
  hp : h p = some (.lst (out.map V.int))
  kp : k p = none
  cs_ : PyFlat.calls PySr110.shape fu (l.drop i) = some cs
  eq : out ++ todo st cs = PySr110.answers l
theorem good_ok {p : Sr110.Picture} (g : Good p) : Ok (encP p) := by
  refine ⟨by rw [encP_length]; exact g.len, fun s hs => ?_⟩
  unfold encP at hs
  obtain ⟨t, ht, rfl⟩ := List.mem_map.mp hs
  have := (g.rng t ht).2
  show 1 ≤ (t.count : Int) ∧ (t.count : Int) ≤ 999
  omega
theorem goodS_ok {st : Option Sr110.Picture} (g : GoodS st) : OkS (encS st) := fun l e => by
  cases st with
  | none => cases e
  | some p =>
    cases e
    exact good_ok (g p rfl)
theorem fits {l : List Int} (h : (PySr110.answers l).length ≤ 10000000) {out rest : List Int} (e : out ++ rest = PySr110.answers l) : out.length + rest.length ≤ 10000000 := by
  rw [← e, List.length_append] at h
  exact h
theorem s_ext {σ : L2.St} {h : Hp} {p b : Addr} {xs zs : List V} {i j : Nat} {D : Ends} (hs : σ[i]? = some (some (.ref p))) (ht : σ[j]? = some (some (.ref b))) (hp : h p = some (.lst xs)) (hb : h b = some (.lst zs)) (hz : xs.length + zs.length ≤ 10000001) (q : D.nx σ (upd h p (.lst (xs ++ zs)))) :
    tDrop (tBM K "list" rExtend (tVar i) (tCons (tVar j) tNil)) D σ h :=
  ⟨_, hs, .inl ⟨rfl, _, SqL.of hp⟩, _, ht, p, b, xs, zs, rfl, rfl, hp, hb, Nat.le_trans hz (by decide), q⟩
theorem ok_ans (T : Tx mg) (hw : ∃ a o its n, mg "WHOLE_NUMBERS" = some (.ref a) ∧ K.lookup a = some o ∧ o.cls = .type "tuple" ∧ o.data = .seq its n ∧ its.size ≤ sizeLine ∧ Vals (wn.map V.int) its.toList)
    (F : Df K mg "answers" (top 49) ["calls"] f fd) (M1 : Mk K CD f1) (g1 : mg "Desk" = some (.ref CD)) (b1 : Binds K fd1 ["self"] []) (G1 : FnOk P w K mg base CX0 1 f1 fd1 ["self"] (spDInit CD)) (XD : Cx1 K CD "mosaic")
    (F2 : Df K mg "row_at" (top 48) ["calls", "at", "call"] f2 fd2) (G2 : FnOk P w K mg base CX0 1 f2 fd2 ["calls", "at", "call"] (spRow K)) (F3 : Dm K CD "answer" "Desk.answer" (inClass (top 45) 3) ["self", "call", "n", "row"] f3 fd3) (G3 : FnOk P w K mg base CX0 11 f3 fd3 ["self", "call", "n", "row"] (spAnswer CD CM)) :
    FnOk P w K mg base CX0 12 f fd ["calls"] (spAns K) := by
  obtain ⟨wa, wo, wits, wnn, hwg, hwl, hwc, hwd, hwz, hwv⟩ := hw
  refine F.fn.ok sc_ans (fun vs H Q E h => ?_) (fun cdv A outer s H vs Q E hr h => ?_)
  · obtain ⟨a, l, rfl, _⟩ := h
    rfl
  · obtain ⟨a, l, rfl, hS, hask, q⟩ := h
    obtain ⟨cs0, hcs0, hlen⟩ := asked_calls l hask
    refine ⟨_, pss_cons (ps_set (i := 1) sc_ans.nd rfl (.inl rfl) (pe_make0 M1 G1 (hr.mono (by decide)) (by rfl) g1 b1 .nil pass0)) (pss_cons (ps_set (i := 2) sc_ans.nd rfl (.inl rfl) (pe_lst pa_nil)) (pss_cons (ps_set (i := 3) sc_ans.nd rfl (.inl rfl) pe_int)
      (pss_cons (ps_while PassesOwn.never (pt_cmpR op_lt (pv 3) (pe_callB call_len_seq (by rfl) T.len PySem.boot_len (pa_cons (pv 0) pa_nil)) (nomark _))
        (pss_cons (ps_set (i := 4) sc_ans.nd rfl (.inl rfl) (pe_ix ix_list (pv 0) (pv 3) (fun _ _ => rfl)))
        (pss_cons (ps_set (i := 5) sc_ans.nd rfl (.inl rfl) (pe_op op_add (pv 3) pe_int))
        (pss_cons (ps_set (i := 6) sc_ans.nd rfl (.inl rfl) (pe_op op_add (pv 5) (pe_ix ix_tup (pe_glob (v := .ref wa) (by rfl) hwg rfl) (pv 4) (fun _ _ => rfl))))
        (pss_cons (ps_asg (pe_call G2 (hr.mono (by decide)) (by rfl) F2.g F2.fn.kp F2.b .nil pass0 (pa_cons (pv 0) (pa_cons (pv 6) (pa_cons (pv 4) pa_nil)))) (pg_tup rfl (pgs_cons (pg_name (i := 7) sc_ans.nd rfl (.inl rfl)) (pgs_cons (pg_name (i := 3) sc_ans.nd rfl (.inl rfl)) pgs_nil))))
        (pss_cons (ps_set (i := 8) sc_ans.nd rfl (.inl rfl) (pe_meth (pv 1) XD.cl F3.m G3 hr F3.b .nil pass0 (pa_cons (pv 4) (pa_cons (pe_slice sl_list (pv 0) (po_some (pv 5)) (po_some (pv 6))) (pa_cons (pv 7) pa_nil)))))
        (pss_cons (ps_expr (pe_bm PySem.F.plainAttrs_list PySem.F.slot_list_append PySem.F.type_list_append mt_append (pv 2) (pa_cons (pe_callB call_len_seq (by rfl) T.len PySem.boot_len (pa_cons (pv 8) pa_nil)) pa_nil)))
        (pss_one (ps_expr (pe_bm PySem.F.plainAttrs_list PySem.F.slot_list_extend PySem.F.type_list_extend mt_extend (pv 2) (pa_cons (pv 8) pa_nil)))))))))))
      (pss_one (ps_ret (pv 2)))))), ?_⟩
    -- desk = Desk()
    intro d dx hd hdx hne
    refine ⟨d, dx, rfl, upd_same, rfl, ?_⟩
    generalize hh1 : upd (upd (upd H dx (.own d)) d (.ins CD dx [])) d (.ins CD dx [("mosaic", .non)]) = h1
    have h1d : h1 d = some (.ins CD dx [("mosaic", .non)]) := by rw [← hh1, upd_same]
    have e1 : Ex H h1 := fun b o e => by
      rw [← hh1, upd_ne (ne_of_none e hd), upd_ne (ne_of_none e hd), upd_ne (ne_of_none e hdx)]
      exact e
    -- found = []; at = 0
    refine q_new fun p hp => ?_
    have hpd : d ≠ p := ne_of_none h1d hp
    have Hp0 : H p = none := e1.none hp
    refine q_asgI (k := H) (ev_int 0) ((e1.trans (fun b o e => by rw [upd_ne (ne_of_none e hp)]; exact e))) fun k2 h2 l2 => ?_
    have D0 : DeskAt CD CM H (upd h1 p (.lst [])) d (encS none) := ⟨dx, .non, by rw [upd_ne hpd]; exact h1d, hd, rfl⟩
    -- the loop
    refine ⟨fun m σ' h' => ∃ i k' st fu cs out, m = l.length - i ∧ Loop K CD CM l (.ref a) d p i σ' k' h' st fu cs out, ⟨l.length - 0, 0, k2, none, l.length, cs0, [], rfl, ?_⟩, ?_⟩
    · exact ⟨Nat.zero_le _, ⟨none, none, none, none, none, rfl⟩, l2.kh, (rQ K).mono l2.kk ⟨a, rfl, hS⟩, D0.on l2, fun p e => (by cases e), l2.hh _ _ upd_same, l2.unk Hp0 upd_same, hcs0, (answers_todo l cs0 hcs0).symm⟩
    · rintro m σ' h' ⟨i, k', st, fu, cs, out, rfl, L⟩
      obtain ⟨sa, sb, sc, se, sg, rfl⟩ := L.sl
      have L1 := L.kh
      refine et_T (b := decide ((i : Int) < (l.length : Int))) (ev_lt (ev_var (A := rZ) rfl rfl) (ev_lenQ (ev_var rfl L.rq))) k' h' (Le.refl L.kh) _ fun k3 h3 l3 => ?_
      by_cases hi : i < l.length
      · rw [decide_eq_true (by omega), if_pos rfl]
        obtain ⟨call, w', row, rows, e, f', cs', U⟩ := turn_law l i fu cs hi L.cs_
        obtain ⟨st', g', hst, henc⟩ := step_law st L.gd call (cut l (i + 1) (i + 1 + w')) row rows U.shaped
        have hcs := U.cs_
        have heq := L.eq
        rw [hcs, todo_cons, hst] at heq
        refine ⟨fun σ2 h2 => ∃ i2 k2 st2 fu2 cs2 out2, i2 > i ∧ Loop K CD CM l (.ref a) d p i2 σ2 k2 h2 st2 fu2 cs2 out2, fun σ2 h2 ⟨i2, k2, st2, fu2, cs2, out2, hgt, L2⟩ => ⟨l.length - i2, by have := L2.le; omega, i2, k2, st2, fu2, cs2, out2, rfl, L2⟩, ?_⟩
        -- call, begin, end
        refine q_asgI (n := call) (ev_ixQ (ev_var rfl ((rQ K).mono l3.kk L.rq)) (ev_var (A := rZ) rfl rfl) U.at_ rfl) l3.kh fun k4 h4 l4 => ?_
        have l14 := l3.trans l4
        refine q_asgI (n := ((i + 1 : Nat) : Int)) (ev_is (ev_add (ev_var rfl rfl) (ev_int 1)) (by omega)) l4.kh fun k5 h5 l5 => ?_
        have l15 := l14.trans l5
        have ew : Ev (tOp (rIxT K) (tC (.ref wa)) (tVar 4)) [some (.ref a), some (.ref d), some (.ref p), some (.int (i : Int)), some (.int call), some (.int ((i + 1 : Nat) : Int)), sc, se, sg] k5 h5 rZ (w' : Int) := fun k6 h6 l6 Q' q' =>
          ⟨.int call, rfl, wa, wn.map V.int, call, .int (w' : Int), rfl, rfl, .inr ⟨wo, wits, wnn, hwl, hwc, hwd, hwz, hwv⟩, at_of (j := call.toNat) (by have := U.nn; omega) (by rw [List.getElem?_map, U.wn]; rfl), q' _ k6 h6 l6.same rfl⟩
        refine q_asgI (n := ((i + 1 + w' : Nat) : Int)) (ev_is (ev_add (ev_var rfl rfl) ew) (by omega)) l5.kh fun k6 h6 l6 => ?_
        have l16 := l15.trans l6
        -- row, at
        have rq6 := (rQ K).mono l16.kk L.rq
        have hdom : rowDom l (i + 1 + w') call := fun c => by
          obtain ⟨m, h1, h2, h3⟩ := U.rowed c
          exact ⟨m, h1, by have := U.le; omega⟩
        have hrow : rowAtF l (i + 1 + w') call = (row, e) := by
          unfold rowAtF
          by_cases c : call = 11
          · obtain ⟨m, h1, h2, h3⟩ := U.rowed c
            rw [if_neg (by simpa using c), List.getD_eq_getElem?_getD, h1, h3, h2]
            rfl
          · obtain ⟨h1, h2⟩ := U.plain c
            rw [if_pos c, h1, h2]
        have ec := ev_call3 (A := rQ K) (B := rN) (C := rZ) (R := rP (rL rZ) rN) (E := E0) (f := rowAtF) (dom := rowDom) (σ := [some (.ref a), some (.ref d), some (.ref p), some (.int (i : Int)), some (.int call), some (.int ((i + 1 : Nat) : Int)), some (.int ((i + 1 + w' : Nat) : Int)), se, sg]) (k := k6) (h := h6)
          (ta := tVar 0) (tb := tVar 6) (tc := tVar 4) (x := l) (y := i + 1 + w') (z := call) (ev_var rfl rq6) (ev_var rfl rfl) (ev_var rfl rfl) hdom
        rw [hrow] at ec
        refine ec k6 h6 (Le.refl l6.kh) _ fun tv k7 h7 l7 rt => ?_
        refine g_pair rt l7.kh fun rv av rrow rat => ?_
        obtain rfl : av = .int (e : Int) := rat
        have l17 := l16.trans l7
        -- told = desk.answer(..)
        have D7 := L.dk.on l17
        obtain ⟨dd, mv, hdo, kdo, hmo⟩ := id D7
        refine ⟨.ref d, rfl, d, dd, _, rfl, hdo, lk_no (by decide +kernel), .int call, rfl, ?_⟩
        refine ev_cutQ (K := K) (i := i + 1) (j := i + 1 + w') (ev_var rfl ((rQ K).mono l17.kk L.rq)) (ev_var (A := rZ) rfl rfl) (ev_var (A := rZ) rfl rfl) rfl rfl (by have := U.fits; omega) U.fits k7 h7 l7.same _ fun nv k8 h8 l8 rn => ?_
        have l18 := l17.trans l8
        refine ⟨rv, rfl, ?_⟩
        refine ⟨k8, d, call, nv, rv, encS st, cut l (i + 1) (i + 1 + w'), row, rows, rfl, l8.kh, L.dk.on l18, goodS_ok L.gd, rn, (rL rZ).mono l8.kk rrow, U.shaped, fun u k9 h9 l9 D9 ru => ?_⟩
        rw [henc] at D9
        generalize hans : (answer (encS st) call (cut l (i + 1) (i + 1 + w')) row).2 = ans at ru heq
        have hp9 : h9 p = some (.lst (out.map V.int)) := l9.hh p _ (fun C dx fs z => by cases z) (l18.hh _ _ L.hp)
        have kp9 : k9 p = none := (l9.fr p _ (l18.hh _ _ L.hp)).trans (l18.unk L.kp L.hp)
        obtain ⟨ub, uvs, rfl, hub, upr⟩ := ru
        have euv := pr_ints upr
        subst euv
        have heq : out ++ (((ans.length : Int) :: ans) ++ todo st' cs') = PySr110.answers l := heq
        have hz := fits hlen heq
        rw [List.length_append, List.length_cons] at hz
        -- found.append(len(told)); found.extend(told)
        have lenEv : Ev (tCB (fun xs H Q => ∃ p ys, xs = [.ref p] ∧ (SqL K H p ys ∨ SqT K H p ys) ∧ Q (.int ys.length) H) (tCons (tVar 8) tNil)) [some (.ref a), some (.ref d), some (.ref p), some (.int (e : Int)), some (.int call), some (.int ((i + 1 : Nat) : Int)), some (.int ((i + 1 + w' : Nat) : Int)), some rv, some (.ref ub)] k9 h9 rZ (ans.length : Int) := ev_len (A := rZ) (ev_var rfl ⟨ub, _, rfl, hub, ints_pr ans⟩)
        refine ⟨.ref p, rfl, .inl ⟨rfl, _, SqL.of hp9⟩, ?_⟩
        refine lenEv k9 h9 (Le.refl l9.kh) _ fun nv9 k10 h10 l10 rn10 => ⟨p, out.map V.int, nv9, rfl, rfl, l10.hh _ _ hp9, by rw [List.length_map]; exact Nat.lt_of_le_of_lt (show out.length ≤ 10000000 by omega) (by decide), ?_⟩
        obtain rfl : nv9 = .int (ans.length : Int) := rn10
        have kp10 := l10.unk kp9 hp9
        have ubp : ub ≠ p := fun z => by
          have := l10.kk _ _ hub
          rw [z, kp10] at this
          cases this
        have hub10 : upd h10 p (.lst (out.map V.int ++ [.int (ans.length : Int)])) ub = some (.lst (ans.map V.int)) := by
          rw [upd_ne ubp]
          exact l10.kh _ _ (l10.kk _ _ hub)
        refine s_ext (i := 2) (j := 8) rfl rfl upd_same hub10 (by rw [List.length_append, List.length_map, List.length_map, List.length_singleton]; omega) ?_
        have dp : d ≠ p := by
          obtain ⟨dd9, mv9, h9d, _⟩ := D9
          exact ne_of h9d hp9 (fun z => by cases z)
        refine ⟨e, k10, st', f', cs', out ++ ((ans.length : Int) :: ans), U.lt, U.le, ⟨_, _, _, _, _, rfl⟩, ?_, (rQ K).mono ((l18.kk.trans l9.kk).trans l10.kk) L.rq, ?_, g', ?_, kp10, U.rest, ?_⟩
        · exact fun b o q => by
            have nb : b ≠ p := fun z => by rw [z, kp10] at q; cases q
            rw [upd_ne nb, upd_ne nb]
            exact l10.kh _ _ q
        · have D10 := D9.on l10
          obtain ⟨dd10, mv10, h10d, k10d, hm10⟩ := D10
          refine ⟨dd10, mv10, by rw [upd_ne dp, upd_ne dp]; exact h10d, k10d, ?_⟩
          cases hs : encS st' with
          | none => rw [hs] at hm10; exact hm10
          | some ll =>
            rw [hs] at hm10
            obtain ⟨ma, mdx, msv, em, hma, kma, rs⟩ := hm10
            have mp : ma ≠ p := ne_of hma (l10.hh _ _ hp9) (fun z => by cases z)
            exact ⟨ma, mdx, msv, em, by rw [upd_ne mp, upd_ne mp]; exact hma, kma, rs⟩
        · rw [upd_same, List.map_append, List.map_cons, List.append_assoc]
          rfl
        · rw [List.append_assoc]
          exact heq
      · rw [decide_eq_false (by omega), if_neg Bool.false_ne_true]
        have ei : l.drop i = [] := List.drop_eq_nil_of_le (by omega)
        have hc := L.cs_
        rw [ei] at hc
        have ecs : cs = [] := by
          cases fu with
          | zero => exact (Option.some.inj hc).symm
          | succ n => exact (Option.some.inj hc).symm
        have heq := L.eq
        rw [ecs, todo_nil, List.append_nil] at heq
        refine ⟨.ref p, rfl, q h3 p ?_⟩
        rw [← heq]
        exact l3.hh _ _ L.hp
end
end WK
namespace WK
open PySem PySem.Spec PyProof.Rows L2 FW FS
/-! ### what the top has written -/
theorem exm_self {K : PySem.W.Frag} {S : Addr} (h1 : PySem.W.subIn K (.ref S) (.type "BaseException") = some true) (h2 : PySem.W.isClsIn K S = true) (h3 : PySem.W.typeIn K (.ref S) = some (.type "type")) (h4 : PySem.W.subIn K (.ref S) (.ref S) = some true) :
    PySem.W.exmOne K (.ref S) (.ref S) = some true := by
  have e1 : (PySem.W.subIn K (.ref S) (.type "BaseException") == some true) = true := by rw [h1] <;> rfl
  have e2 : ((PySem.W.clsIn K S).isSome && PySem.W.typeIn K (.ref S) == some (.type "type")) = true := by
    have h2' : (PySem.W.clsIn K S).isSome = true := h2
    rw [h2', h3] <;> rfl
  show (if (PySem.W.subIn K (.ref S) (.type "BaseException") == some true) = true then (if ((PySem.W.clsIn K S).isSome && PySem.W.typeIn K (.ref S) == some (.type "type")) = true then PySem.W.subIn K (.ref S) (.ref S) else none) else none) = some true
  rw [if_pos e1, if_pos e2]
  exact h4
def isI (i : Int) : Value → Bool
  | .int j _ => decide (j = i)
  | _ => false
theorem isI_rel {i : Int} {u : Value} (h : isI i u = true) : RelV (.int i) u := by
  unfold isI at h
  split at h
  · rename_i j t
    exact ⟨t, by rw [of_decide_eq_true h]⟩
  · cases h
def areI : List Int → List Value → Bool
  | [], [] => true
  | i :: r, u :: s => isI i u && areI r s
  | _, _ => false
theorem areI_rel : ∀ {is : List Int} {us : List Value}, areI is us = true → Vals (is.map V.int) us
  | [], [], _ => .nil
  | i :: r, u :: s, h => by
    unfold areI at h
    rw [Bool.and_eq_true] at h
    exact .cons (isI_rel h.1) (areI_rel h.2)
  | [], u :: s, h => by cases h
  | i :: r, [], h => by cases h
def isTupI (is : List Int) (o : Obj) : Bool := match o.cls, o.data with
  | .type n, .seq its _ => decide (n = "tuple") && areI is its.toList
  | _, _ => false
theorem isTupI_ok {is : List Int} {o : Obj} (hl : is.length ≤ 100) (h : isTupI is o = true) : ∃ its n, o.cls = .type "tuple" ∧ o.data = .seq its n ∧ its.size ≤ sizeLine ∧ Vals (is.map V.int) its.toList := by
  unfold isTupI at h
  split at h
  · rename_i n its k hc hd
    rw [Bool.and_eq_true] at h
    have v := areI_rel h.2
    refine ⟨its, k, by rw [hc, of_decide_eq_true h.1], hd, ?_, v⟩
    have e := v.length
    rw [List.length_map] at e
    have e2 : its.toList.length = its.size := Array.length_toList
    exact Nat.le_trans (show its.size ≤ 100 by omega) (by decide)
  · cases h

theorem all_mk {P : Program} {w : World} {K : PySem.W.Frag} {h : Heap} {mg : Str → Option Value} {fa CR CM CD aWN : Addr} {oWN : Obj}
    {fd1 fd2 fd3 fd4 fd5 fd6 fd7 fd9 fd10 fd11 fd12 fd13 fd17 fd18 fd19 fd20 fd21 fd22 fd23 fd32 fd39 fd40 fd46 fd47 fd48 fd49 fr0 fm0 fm1 fm2 fm3 fm4 fm5 fm6 fm7 fm8 fm9 fm10 fm11 fm12 fm13 fm14 fm15 fm16 fm17 fm18 fc0 fc1 fc2 fc3 : Addr} {odd1 and1 odd2 and2 odd3 and3 odd4 and4 odd5 and5 odd6 and6 odd7 and7 odd9 and9 odd10 and10 odd11 and11 odd12 and12 odd13 and13 odd17 and17 odd18 and18 odd19 and19 odd20 and20 odd21 and21 odd22 and22 odd23 and23 odd32 and32 odd39 and39 odd40 and40 odd46 and46 odd47 and47 odd48 and48 odd49 and49 odr0 anr0 odm0 anm0 odm1 anm1 odm2 anm2 odm3 anm3 odm4 anm4 odm5 anm5 odm6 anm6 odm7 anm7 odm8 anm8 odm9 anm9 odm10 anm10 odm11 anm11 odm12 anm12 odm13 anm13 odm14 anm14 odm15 anm15 odm16 anm16 odm17 anm17 odm18 anm18 odc0 anc0 odc1 anc1 odc2 anc2 odc3 anc3 : Option Addr} {sld1 sld2 sld3 sld4 sld5 sld6 sld7 sld9 sld10 sld11 sld12 sld13 sld17 sld18 sld19 sld20 sld21 sld22 sld23 sld32 sld39 sld40 sld46 sld47 sld48 sld49 slr0 slm0 slm1 slm2 slm3 slm4 slm5 slm6 slm7 slm8 slm9 slm10 slm11 slm12 slm13 slm14 slm15 slm16 slm17 slm18 slc0 slc1 slc2 slc3 : Array (Option Value)} {ocd1 kVd1 dcd1 pmd1 cdd1 ctd1 ocd2 kVd2 dcd2 pmd2 cdd2 ctd2 ocd3 kVd3 dcd3 pmd3 cdd3 ctd3 ocd4 kVd4 dcd4 pmd4 cdd4 ctd4 ocd5 kVd5 dcd5 pmd5 cdd5 ctd5 ocd6 kVd6 dcd6 pmd6 cdd6 ctd6 ocd7 kVd7 dcd7 pmd7 cdd7 ctd7 ocd9 kVd9 dcd9 pmd9 cdd9 ctd9 ocd10 kVd10 dcd10 pmd10 cdd10 ctd10 ocd11 kVd11 dcd11 pmd11 cdd11 ctd11 ocd12 kVd12 dcd12 pmd12 cdd12 ctd12 ocd13 kVd13 dcd13 pmd13 cdd13 ctd13 ocd17 kVd17 dcd17 pmd17 cdd17 ctd17 ocd18 kVd18 dcd18 pmd18 cdd18 ctd18 ocd19 kVd19 dcd19 pmd19 cdd19 ctd19 ocd20 kVd20 dcd20 pmd20 cdd20 ctd20 ocd21 kVd21 dcd21 pmd21 cdd21 ctd21 ocd22 kVd22 dcd22 pmd22 cdd22 ctd22 ocd23 kVd23 dcd23 pmd23 cdd23 ctd23 ocd32 kVd32 dcd32 pmd32 cdd32 ctd32 ocd39 kVd39 dcd39 pmd39 cdd39 ctd39 ocd40 kVd40 dcd40 pmd40 cdd40 ctd40 ocd46 kVd46 dcd46 pmd46 cdd46 ctd46 ocd47 kVd47 dcd47 pmd47 cdd47 ctd47 ocd48 kVd48 dcd48 pmd48 cdd48 ctd48 ocd49 kVd49 dcd49 pmd49 cdd49 ctd49 ocr0 kVr0 dcr0 pmr0 cdr0 ctr0 ocm0 kVm0 dcm0 pmm0 cdm0 ctm0 ocm1 kVm1 dcm1 pmm1 cdm1 ctm1 ocm2 kVm2 dcm2 pmm2 cdm2 ctm2 ocm3 kVm3 dcm3 pmm3 cdm3 ctm3 ocm4 kVm4 dcm4 pmm4 cdm4 ctm4 ocm5 kVm5 dcm5 pmm5 cdm5 ctm5 ocm6 kVm6 dcm6 pmm6 cdm6 ctm6 ocm7 kVm7 dcm7 pmm7 cdm7 ctm7 ocm8 kVm8 dcm8 pmm8 cdm8 ctm8 ocm9 kVm9 dcm9 pmm9 cdm9 ctm9 ocm10 kVm10 dcm10 pmm10 cdm10 ctm10 ocm11 kVm11 dcm11 pmm11 cdm11 ctm11 ocm12 kVm12 dcm12 pmm12 cdm12 ctm12 ocm13 kVm13 dcm13 pmm13 cdm13 ctm13 ocm14 kVm14 dcm14 pmm14 cdm14 ctm14 ocm15 kVm15 dcm15 pmm15 cdm15 ctm15 ocm16 kVm16 dcm16 pmm16 cdm16 ctm16 ocm17 kVm17 dcm17 pmm17 cdm17 ctm17 ocm18 kVm18 dcm18 pmm18 cdm18 ctm18 occ0 kVc0 dcc0 pmc0 cdc0 ctc0 occ1 kVc1 dcc1 pmc1 cdc1 ctc1 occ2 kVc2 dcc2 pmc2 cdc2 ctc2 occ3 kVc3 dcc3 pmc3 cdc3 ctc3 : Value}
    {nmR qR : Str} {NR : Addr} {bsR : List Value} {snR : List Str} {subR : List Value} {abR : Bool} {colR : Option Bool} {ddR : Option Addr} {m0 m1 m2 m3 m5 : Option Value} {unothing unoInst unoShade usameLv uoutR ufull unoCol ubright umostT umostS umostC unoDiv uwithRow : Value}
    (X : K.In h) (G : h.Ns mainGlobals mg) (hfa : mg "answers" = some (.ref fa))
    (ad1 : PySem.W.nsIn K mainGlobals "tiles_of" = some (some (.ref fd1)))
    (ld1 : K.lookup fd1 = some ⟨ocd1, odd1, .func (PySem.W.fnOf "tiles_of" "tiles_of" (defArgs (top 1)) (defBody (top 1)) (defScope (top 1)) .none kVd1 dcd1 pmd1 and1 cdd1 ctd1), sld1⟩)
    (cd1 : PySem.W.codeIn K cdd1 "tiles_of" = true)
    (kd1 : PySem.W.keepIn K (.ref fd1) = true)
    (ad2 : PySem.W.nsIn K mainGlobals "has_level" = some (some (.ref fd2)))
    (ld2 : K.lookup fd2 = some ⟨ocd2, odd2, .func (PySem.W.fnOf "has_level" "has_level" (defArgs (top 2)) (defBody (top 2)) (defScope (top 2)) .none kVd2 dcd2 pmd2 and2 cdd2 ctd2), sld2⟩)
    (cd2 : PySem.W.codeIn K cdd2 "has_level" = true)
    (kd2 : PySem.W.keepIn K (.ref fd2) = true)
    (ad3 : PySem.W.nsIn K mainGlobals "place_of_level" = some (some (.ref fd3)))
    (ld3 : K.lookup fd3 = some ⟨ocd3, odd3, .func (PySem.W.fnOf "place_of_level" "place_of_level" (defArgs (top 3)) (defBody (top 3)) (defScope (top 3)) .none kVd3 dcd3 pmd3 and3 cdd3 ctd3), sld3⟩)
    (cd3 : PySem.W.codeIn K cdd3 "place_of_level" = true)
    (kd3 : PySem.W.keepIn K (.ref fd3) = true)
    (ad4 : PySem.W.nsIn K mainGlobals "with_shade" = some (some (.ref fd4)))
    (ld4 : K.lookup fd4 = some ⟨ocd4, odd4, .func (PySem.W.fnOf "with_shade" "with_shade" (defArgs (top 4)) (defBody (top 4)) (defScope (top 4)) .none kVd4 dcd4 pmd4 and4 cdd4 ctd4), sld4⟩)
    (cd4 : PySem.W.codeIn K cdd4 "with_shade" = true)
    (kd4 : PySem.W.keepIn K (.ref fd4) = true)
    (ad5 : PySem.W.nsIn K mainGlobals "without_shade" = some (some (.ref fd5)))
    (ld5 : K.lookup fd5 = some ⟨ocd5, odd5, .func (PySem.W.fnOf "without_shade" "without_shade" (defArgs (top 5)) (defBody (top 5)) (defScope (top 5)) .none kVd5 dcd5 pmd5 and5 cdd5 ctd5), sld5⟩)
    (cd5 : PySem.W.codeIn K cdd5 "without_shade" = true)
    (kd5 : PySem.W.keepIn K (.ref fd5) = true)
    (ad6 : PySem.W.nsIn K mainGlobals "with_count" = some (some (.ref fd6)))
    (ld6 : K.lookup fd6 = some ⟨ocd6, odd6, .func (PySem.W.fnOf "with_count" "with_count" (defArgs (top 6)) (defBody (top 6)) (defScope (top 6)) .none kVd6 dcd6 pmd6 and6 cdd6 ctd6), sld6⟩)
    (cd6 : PySem.W.codeIn K cdd6 "with_count" = true)
    (kd6 : PySem.W.keepIn K (.ref fd6) = true)
    (ad7 : PySem.W.nsIn K mainGlobals "flat" = some (some (.ref fd7)))
    (ld7 : K.lookup fd7 = some ⟨ocd7, odd7, .func (PySem.W.fnOf "flat" "flat" (defArgs (top 7)) (defBody (top 7)) (defScope (top 7)) .none kVd7 dcd7 pmd7 and7 cdd7 ctd7), sld7⟩)
    (cd7 : PySem.W.codeIn K cdd7 "flat" = true)
    (kd7 : PySem.W.keepIn K (.ref fd7) = true)
    (ad9 : PySem.W.nsIn K mainGlobals "error_with" = some (some (.ref fd9)))
    (ld9 : K.lookup fd9 = some ⟨ocd9, odd9, .func (PySem.W.fnOf "error_with" "error_with" (defArgs (top 9)) (defBody (top 9)) (defScope (top 9)) .none kVd9 dcd9 pmd9 and9 cdd9 ctd9), sld9⟩)
    (cd9 : PySem.W.codeIn K cdd9 "error_with" = true)
    (kd9 : PySem.W.keepIn K (.ref fd9) = true)
    (ad10 : PySem.W.nsIn K mainGlobals "median_of" = some (some (.ref fd10)))
    (ld10 : K.lookup fd10 = some ⟨ocd10, odd10, .func (PySem.W.fnOf "median_of" "median_of" (defArgs (top 10)) (defBody (top 10)) (defScope (top 10)) .none kVd10 dcd10 pmd10 and10 cdd10 ctd10), sld10⟩)
    (cd10 : PySem.W.codeIn K cdd10 "median_of" = true)
    (kd10 : PySem.W.keepIn K (.ref fd10) = true)
    (ad11 : PySem.W.nsIn K mainGlobals "group_error" = some (some (.ref fd11)))
    (ld11 : K.lookup fd11 = some ⟨ocd11, odd11, .func (PySem.W.fnOf "group_error" "group_error" (defArgs (top 11)) (defBody (top 11)) (defScope (top 11)) .none kVd11 dcd11 pmd11 and11 cdd11 ctd11), sld11⟩)
    (cd11 : PySem.W.codeIn K cdd11 "group_error" = true)
    (kd11 : PySem.W.keepIn K (.ref fd11) = true)
    (ad12 : PySem.W.nsIn K mainGlobals "least_distance" = some (some (.ref fd12)))
    (ld12 : K.lookup fd12 = some ⟨ocd12, odd12, .func (PySem.W.fnOf "least_distance" "least_distance" (defArgs (top 12)) (defBody (top 12)) (defScope (top 12)) .none kVd12 dcd12 pmd12 and12 cdd12 ctd12), sld12⟩)
    (cd12 : PySem.W.codeIn K cdd12 "least_distance" = true)
    (kd12 : PySem.W.keepIn K (.ref fd12) = true)
    (ad13 : PySem.W.nsIn K mainGlobals "palette_error" = some (some (.ref fd13)))
    (ld13 : K.lookup fd13 = some ⟨ocd13, odd13, .func (PySem.W.fnOf "palette_error" "palette_error" (defArgs (top 13)) (defBody (top 13)) (defScope (top 13)) .none kVd13 dcd13 pmd13 and13 cdd13 ctd13), sld13⟩)
    (cd13 : PySem.W.codeIn K cdd13 "palette_error" = true)
    (kd13 : PySem.W.keepIn K (.ref fd13) = true)
    (ad17 : PySem.W.nsIn K mainGlobals "first_rests" = some (some (.ref fd17)))
    (ld17 : K.lookup fd17 = some ⟨ocd17, odd17, .func (PySem.W.fnOf "first_rests" "first_rests" (defArgs (top 17)) (defBody (top 17)) (defScope (top 17)) .none kVd17 dcd17 pmd17 and17 cdd17 ctd17), sld17⟩)
    (cd17 : PySem.W.codeIn K cdd17 "first_rests" = true)
    (kd17 : PySem.W.keepIn K (.ref fd17) = true)
    (ad18 : PySem.W.nsIn K mainGlobals "best_from" = some (some (.ref fd18)))
    (ld18 : K.lookup fd18 = some ⟨ocd18, odd18, .func (PySem.W.fnOf "best_from" "best_from" (defArgs (top 18)) (defBody (top 18)) (defScope (top 18)) .none kVd18 dcd18 pmd18 and18 cdd18 ctd18), sld18⟩)
    (cd18 : PySem.W.codeIn K cdd18 "best_from" = true)
    (kd18 : PySem.W.keepIn K (.ref fd18) = true)
    (ad19 : PySem.W.nsIn K mainGlobals "next_rests" = some (some (.ref fd19)))
    (ld19 : K.lookup fd19 = some ⟨ocd19, odd19, .func (PySem.W.fnOf "next_rests" "next_rests" (defArgs (top 19)) (defBody (top 19)) (defScope (top 19)) .none kVd19 dcd19 pmd19 and19 cdd19 ctd19), sld19⟩)
    (cd19 : PySem.W.codeIn K cdd19 "next_rests" = true)
    (kd19 : PySem.W.keepIn K (.ref fd19) = true)
    (ad20 : PySem.W.nsIn K mainGlobals "best_division" = some (some (.ref fd20)))
    (ld20 : K.lookup fd20 = some ⟨ocd20, odd20, .func (PySem.W.fnOf "best_division" "best_division" (defArgs (top 20)) (defBody (top 20)) (defScope (top 20)) .none kVd20 dcd20 pmd20 and20 cdd20 ctd20), sld20⟩)
    (cd20 : PySem.W.codeIn K cdd20 "best_division" = true)
    (kd20 : PySem.W.keepIn K (.ref fd20) = true)
    (ad21 : PySem.W.nsIn K mainGlobals "all_least_errors" = some (some (.ref fd21)))
    (ld21 : K.lookup fd21 = some ⟨ocd21, odd21, .func (PySem.W.fnOf "all_least_errors" "all_least_errors" (defArgs (top 21)) (defBody (top 21)) (defScope (top 21)) .none kVd21 dcd21 pmd21 and21 cdd21 ctd21), sld21⟩)
    (cd21 : PySem.W.codeIn K cdd21 "all_least_errors" = true)
    (kd21 : PySem.W.keepIn K (.ref fd21) = true)
    (ad22 : PySem.W.nsIn K mainGlobals "groups_of" = some (some (.ref fd22)))
    (ld22 : K.lookup fd22 = some ⟨ocd22, odd22, .func (PySem.W.fnOf "groups_of" "groups_of" (defArgs (top 22)) (defBody (top 22)) (defScope (top 22)) .none kVd22 dcd22 pmd22 and22 cdd22 ctd22), sld22⟩)
    (cd22 : PySem.W.codeIn K cdd22 "groups_of" = true)
    (kd22 : PySem.W.keepIn K (.ref fd22) = true)
    (ad23 : PySem.W.nsIn K mainGlobals "group_with" = some (some (.ref fd23)))
    (ld23 : K.lookup fd23 = some ⟨ocd23, odd23, .func (PySem.W.fnOf "group_with" "group_with" (defArgs (top 23)) (defBody (top 23)) (defScope (top 23)) .none kVd23 dcd23 pmd23 and23 cdd23 ctd23), sld23⟩)
    (cd23 : PySem.W.codeIn K cdd23 "group_with" = true)
    (kd23 : PySem.W.keepIn K (.ref fd23) = true)
    (ad32 : PySem.W.nsIn K mainGlobals "need" = some (some (.ref fd32)))
    (ld32 : K.lookup fd32 = some ⟨ocd32, odd32, .func (PySem.W.fnOf "need" "need" (defArgs (top 32)) (defBody (top 32)) (defScope (top 32)) .none kVd32 dcd32 pmd32 and32 cdd32 ctd32), sld32⟩)
    (cd32 : PySem.W.codeIn K cdd32 "need" = true)
    (kd32 : PySem.W.keepIn K (.ref fd32) = true)
    (ad39 : PySem.W.nsIn K mainGlobals "is_level" = some (some (.ref fd39)))
    (ld39 : K.lookup fd39 = some ⟨ocd39, odd39, .func (PySem.W.fnOf "is_level" "is_level" (defArgs (top 39)) (defBody (top 39)) (defScope (top 39)) .none kVd39 dcd39 pmd39 and39 cdd39 ctd39), sld39⟩)
    (cd39 : PySem.W.codeIn K cdd39 "is_level" = true)
    (kd39 : PySem.W.keepIn K (.ref fd39) = true)
    (ad40 : PySem.W.nsIn K mainGlobals "is_count" = some (some (.ref fd40)))
    (ld40 : K.lookup fd40 = some ⟨ocd40, odd40, .func (PySem.W.fnOf "is_count" "is_count" (defArgs (top 40)) (defBody (top 40)) (defScope (top 40)) .none kVd40 dcd40 pmd40 and40 cdd40 ctd40), sld40⟩)
    (cd40 : PySem.W.codeIn K cdd40 "is_count" = true)
    (kd40 : PySem.W.keepIn K (.ref fd40) = true)
    (ad46 : PySem.W.nsIn K mainGlobals "changed" = some (some (.ref fd46)))
    (ld46 : K.lookup fd46 = some ⟨ocd46, odd46, .func (PySem.W.fnOf "changed" "changed" (defArgs (top 46)) (defBody (top 46)) (defScope (top 46)) .none kVd46 dcd46 pmd46 and46 cdd46 ctd46), sld46⟩)
    (cd46 : PySem.W.codeIn K cdd46 "changed" = true)
    (kd46 : PySem.W.keepIn K (.ref fd46) = true)
    (ad47 : PySem.W.nsIn K mainGlobals "asked" = some (some (.ref fd47)))
    (ld47 : K.lookup fd47 = some ⟨ocd47, odd47, .func (PySem.W.fnOf "asked" "asked" (defArgs (top 47)) (defBody (top 47)) (defScope (top 47)) .none kVd47 dcd47 pmd47 and47 cdd47 ctd47), sld47⟩)
    (cd47 : PySem.W.codeIn K cdd47 "asked" = true)
    (kd47 : PySem.W.keepIn K (.ref fd47) = true)
    (ad48 : PySem.W.nsIn K mainGlobals "row_at" = some (some (.ref fd48)))
    (ld48 : K.lookup fd48 = some ⟨ocd48, odd48, .func (PySem.W.fnOf "row_at" "row_at" (defArgs (top 48)) (defBody (top 48)) (defScope (top 48)) .none kVd48 dcd48 pmd48 and48 cdd48 ctd48), sld48⟩)
    (cd48 : PySem.W.codeIn K cdd48 "row_at" = true)
    (kd48 : PySem.W.keepIn K (.ref fd48) = true)
    (ad49 : PySem.W.nsIn K mainGlobals "answers" = some (some (.ref fd49)))
    (ld49 : K.lookup fd49 = some ⟨ocd49, odd49, .func (PySem.W.fnOf "answers" "answers" (defArgs (top 49)) (defBody (top 49)) (defScope (top 49)) .none kVd49 dcd49 pmd49 and49 cdd49 ctd49), sld49⟩)
    (cd49 : PySem.W.codeIn K cdd49 "answers" = true)
    (kd49 : PySem.W.keepIn K (.ref fd49) = true)
    (nR : PySem.W.nsIn K mainGlobals "Refused" = some (some (.ref CR)))
    (nM : PySem.W.nsIn K mainGlobals "Mosaic" = some (some (.ref CM)))
    (nD : PySem.W.nsIn K mainGlobals "Desk" = some (some (.ref CD)))
    (ar0 : PySem.W.findIn K (.ref CR) "__init__" = some (some (.ref fr0)))
    (ir0 : PySem.W.typeIn K (.ref fr0) = some (.type "function"))
    (lr0 : K.lookup fr0 = some ⟨ocr0, odr0, .func (PySem.W.fnOf "__init__" "Refused.__init__" (defArgs (inClass (top 31) 0)) (defBody (inClass (top 31) 0)) (defScope (inClass (top 31) 0)) .none kVr0 dcr0 pmr0 anr0 cdr0 ctr0), slr0⟩)
    (cr0 : PySem.W.codeIn K cdr0 "Refused.__init__" = true)
    (kr0 : PySem.W.keepIn K (.ref fr0) = true)
    (am0 : PySem.W.findIn K (.ref CM) "__init__" = some (some (.ref fm0)))
    (im0 : PySem.W.isFn K (.ref fm0) = true)
    (lm0 : K.lookup fm0 = some ⟨ocm0, odm0, .func (PySem.W.fnOf "__init__" "Mosaic.__init__" (defArgs (inClass (top 41) 0)) (defBody (inClass (top 41) 0)) (defScope (inClass (top 41) 0)) .none kVm0 dcm0 pmm0 anm0 cdm0 ctm0), slm0⟩)
    (cm0 : PySem.W.codeIn K cdm0 "Mosaic.__init__" = true)
    (km0 : PySem.W.keepIn K (.ref fm0) = true)
    (am1 : PySem.W.findIn K (.ref CM) "need_shade" = some (some (.ref fm1)))
    (im1 : PySem.W.isFn K (.ref fm1) = true)
    (lm1 : K.lookup fm1 = some ⟨ocm1, odm1, .func (PySem.W.fnOf "need_shade" "Mosaic.need_shade" (defArgs (inClass (top 41) 1)) (defBody (inClass (top 41) 1)) (defScope (inClass (top 41) 1)) .none kVm1 dcm1 pmm1 anm1 cdm1 ctm1), slm1⟩)
    (cm1 : PySem.W.codeIn K cdm1 "Mosaic.need_shade" = true)
    (km1 : PySem.W.keepIn K (.ref fm1) = true)
    (am2 : PySem.W.findIn K (.ref CM) "need_colours" = some (some (.ref fm2)))
    (im2 : PySem.W.isFn K (.ref fm2) = true)
    (lm2 : K.lookup fm2 = some ⟨ocm2, odm2, .func (PySem.W.fnOf "need_colours" "Mosaic.need_colours" (defArgs (inClass (top 41) 2)) (defBody (inClass (top 41) 2)) (defScope (inClass (top 41) 2)) .none kVm2 dcm2 pmm2 anm2 cdm2 ctm2), slm2⟩)
    (cm2 : PySem.W.codeIn K cdm2 "Mosaic.need_colours" = true)
    (km2 : PySem.W.keepIn K (.ref fm2) = true)
    (am3 : PySem.W.findIn K (.ref CM) "best_groups_for" = some (some (.ref fm3)))
    (im3 : PySem.W.isFn K (.ref fm3) = true)
    (lm3 : K.lookup fm3 = some ⟨ocm3, odm3, .func (PySem.W.fnOf "best_groups_for" "Mosaic.best_groups_for" (defArgs (inClass (top 41) 3)) (defBody (inClass (top 41) 3)) (defScope (inClass (top 41) 3)) .none kVm3 dcm3 pmm3 anm3 cdm3 ctm3), slm3⟩)
    (cm3 : PySem.W.codeIn K cdm3 "Mosaic.best_groups_for" = true)
    (km3 : PySem.W.keepIn K (.ref fm3) = true)
    (am4 : PySem.W.findIn K (.ref CM) "add_shade" = some (some (.ref fm4)))
    (im4 : PySem.W.isFn K (.ref fm4) = true)
    (lm4 : K.lookup fm4 = some ⟨ocm4, odm4, .func (PySem.W.fnOf "add_shade" "Mosaic.add_shade" (defArgs (inClass (top 41) 4)) (defBody (inClass (top 41) 4)) (defScope (inClass (top 41) 4)) .none kVm4 dcm4 pmm4 anm4 cdm4 ctm4), slm4⟩)
    (cm4 : PySem.W.codeIn K cdm4 "Mosaic.add_shade" = true)
    (km4 : PySem.W.keepIn K (.ref fm4) = true)
    (am5 : PySem.W.findIn K (.ref CM) "remove_shade" = some (some (.ref fm5)))
    (im5 : PySem.W.isFn K (.ref fm5) = true)
    (lm5 : K.lookup fm5 = some ⟨ocm5, odm5, .func (PySem.W.fnOf "remove_shade" "Mosaic.remove_shade" (defArgs (inClass (top 41) 5)) (defBody (inClass (top 41) 5)) (defScope (inClass (top 41) 5)) .none kVm5 dcm5 pmm5 anm5 cdm5 ctm5), slm5⟩)
    (cm5 : PySem.W.codeIn K cdm5 "Mosaic.remove_shade" = true)
    (km5 : PySem.W.keepIn K (.ref fm5) = true)
    (am6 : PySem.W.findIn K (.ref CM) "set_count" = some (some (.ref fm6)))
    (im6 : PySem.W.isFn K (.ref fm6) = true)
    (lm6 : K.lookup fm6 = some ⟨ocm6, odm6, .func (PySem.W.fnOf "set_count" "Mosaic.set_count" (defArgs (inClass (top 41) 6)) (defBody (inClass (top 41) 6)) (defScope (inClass (top 41) 6)) .none kVm6 dcm6 pmm6 anm6 cdm6 ctm6), slm6⟩)
    (cm6 : PySem.W.codeIn K cdm6 "Mosaic.set_count" = true)
    (km6 : PySem.W.keepIn K (.ref fm6) = true)
    (am7 : PySem.W.findIn K (.ref CM) "min_error" = some (some (.ref fm7)))
    (im7 : PySem.W.isFn K (.ref fm7) = true)
    (lm7 : K.lookup fm7 = some ⟨ocm7, odm7, .func (PySem.W.fnOf "min_error" "Mosaic.min_error" (defArgs (inClass (top 41) 7)) (defBody (inClass (top 41) 7)) (defScope (inClass (top 41) 7)) .none kVm7 dcm7 pmm7 anm7 cdm7 ctm7), slm7⟩)
    (cm7 : PySem.W.codeIn K cdm7 "Mosaic.min_error" = true)
    (km7 : PySem.W.keepIn K (.ref fm7) = true)
    (am8 : PySem.W.findIn K (.ref CM) "best_palette" = some (some (.ref fm8)))
    (im8 : PySem.W.isFn K (.ref fm8) = true)
    (lm8 : K.lookup fm8 = some ⟨ocm8, odm8, .func (PySem.W.fnOf "best_palette" "Mosaic.best_palette" (defArgs (inClass (top 41) 8)) (defBody (inClass (top 41) 8)) (defScope (inClass (top 41) 8)) .none kVm8 dcm8 pmm8 anm8 cdm8 ctm8), slm8⟩)
    (cm8 : PySem.W.codeIn K cdm8 "Mosaic.best_palette" = true)
    (km8 : PySem.W.keepIn K (.ref fm8) = true)
    (am9 : PySem.W.findIn K (.ref CM) "best_groups" = some (some (.ref fm9)))
    (im9 : PySem.W.isFn K (.ref fm9) = true)
    (lm9 : K.lookup fm9 = some ⟨ocm9, odm9, .func (PySem.W.fnOf "best_groups" "Mosaic.best_groups" (defArgs (inClass (top 41) 9)) (defBody (inClass (top 41) 9)) (defScope (inClass (top 41) 9)) .none kVm9 dcm9 pmm9 anm9 cdm9 ctm9), slm9⟩)
    (cm9 : PySem.W.codeIn K cdm9 "Mosaic.best_groups" = true)
    (km9 : PySem.W.keepIn K (.ref fm9) = true)
    (am10 : PySem.W.findIn K (.ref CM) "colour_of" = some (some (.ref fm10)))
    (im10 : PySem.W.isFn K (.ref fm10) = true)
    (lm10 : K.lookup fm10 = some ⟨ocm10, odm10, .func (PySem.W.fnOf "colour_of" "Mosaic.colour_of" (defArgs (inClass (top 41) 10)) (defBody (inClass (top 41) 10)) (defScope (inClass (top 41) 10)) .none kVm10 dcm10 pmm10 anm10 cdm10 ctm10), slm10⟩)
    (cm10 : PySem.W.codeIn K cdm10 "Mosaic.colour_of" = true)
    (km10 : PySem.W.keepIn K (.ref fm10) = true)
    (am11 : PySem.W.findIn K (.ref CM) "error_reduction" = some (some (.ref fm11)))
    (im11 : PySem.W.isFn K (.ref fm11) = true)
    (lm11 : K.lookup fm11 = some ⟨ocm11, odm11, .func (PySem.W.fnOf "error_reduction" "Mosaic.error_reduction" (defArgs (inClass (top 41) 11)) (defBody (inClass (top 41) 11)) (defScope (inClass (top 41) 11)) .none kVm11 dcm11 pmm11 anm11 cdm11 ctm11), slm11⟩)
    (cm11 : PySem.W.codeIn K cdm11 "Mosaic.error_reduction" = true)
    (km11 : PySem.W.keepIn K (.ref fm11) = true)
    (am12 : PySem.W.findIn K (.ref CM) "error_table" = some (some (.ref fm12)))
    (im12 : PySem.W.isFn K (.ref fm12) = true)
    (lm12 : K.lookup fm12 = some ⟨ocm12, odm12, .func (PySem.W.fnOf "error_table" "Mosaic.error_table" (defArgs (inClass (top 41) 12)) (defBody (inClass (top 41) 12)) (defScope (inClass (top 41) 12)) .none kVm12 dcm12 pmm12 anm12 cdm12 ctm12), slm12⟩)
    (cm12 : PySem.W.codeIn K cdm12 "Mosaic.error_table" = true)
    (km12 : PySem.W.keepIn K (.ref fm12) = true)
    (am13 : PySem.W.findIn K (.ref CM) "min_colours" = some (some (.ref fm13)))
    (im13 : PySem.W.isFn K (.ref fm13) = true)
    (lm13 : K.lookup fm13 = some ⟨ocm13, odm13, .func (PySem.W.fnOf "min_colours" "Mosaic.min_colours" (defArgs (inClass (top 41) 13)) (defBody (inClass (top 41) 13)) (defScope (inClass (top 41) 13)) .none kVm13 dcm13 pmm13 anm13 cdm13 ctm13), slm13⟩)
    (cm13 : PySem.W.codeIn K cdm13 "Mosaic.min_colours" = true)
    (km13 : PySem.W.keepIn K (.ref fm13) = true)
    (am14 : PySem.W.findIn K (.ref CM) "palette_error" = some (some (.ref fm14)))
    (im14 : PySem.W.isFn K (.ref fm14) = true)
    (lm14 : K.lookup fm14 = some ⟨ocm14, odm14, .func (PySem.W.fnOf "palette_error" "Mosaic.palette_error" (defArgs (inClass (top 41) 14)) (defBody (inClass (top 41) 14)) (defScope (inClass (top 41) 14)) .none kVm14 dcm14 pmm14 anm14 cdm14 ctm14), slm14⟩)
    (cm14 : PySem.W.codeIn K cdm14 "Mosaic.palette_error" = true)
    (km14 : PySem.W.keepIn K (.ref fm14) = true)
    (am15 : PySem.W.findIn K (.ref CM) "median" = some (some (.ref fm15)))
    (im15 : PySem.W.isFn K (.ref fm15) = true)
    (lm15 : K.lookup fm15 = some ⟨ocm15, odm15, .func (PySem.W.fnOf "median" "Mosaic.median" (defArgs (inClass (top 41) 15)) (defBody (inClass (top 41) 15)) (defScope (inClass (top 41) 15)) .none kVm15 dcm15 pmm15 anm15 cdm15 ctm15), slm15⟩)
    (cm15 : PySem.W.codeIn K cdm15 "Mosaic.median" = true)
    (km15 : PySem.W.keepIn K (.ref fm15) = true)
    (am16 : PySem.W.findIn K (.ref CM) "group_counts" = some (some (.ref fm16)))
    (im16 : PySem.W.isFn K (.ref fm16) = true)
    (lm16 : K.lookup fm16 = some ⟨ocm16, odm16, .func (PySem.W.fnOf "group_counts" "Mosaic.group_counts" (defArgs (inClass (top 41) 16)) (defBody (inClass (top 41) 16)) (defScope (inClass (top 41) 16)) .none kVm16 dcm16 pmm16 anm16 cdm16 ctm16), slm16⟩)
    (cm16 : PySem.W.codeIn K cdm16 "Mosaic.group_counts" = true)
    (km16 : PySem.W.keepIn K (.ref fm16) = true)
    (am17 : PySem.W.findIn K (.ref CM) "totals" = some (some (.ref fm17)))
    (im17 : PySem.W.isFn K (.ref fm17) = true)
    (lm17 : K.lookup fm17 = some ⟨ocm17, odm17, .func (PySem.W.fnOf "totals" "Mosaic.totals" (defArgs (inClass (top 41) 17)) (defBody (inClass (top 41) 17)) (defScope (inClass (top 41) 17)) .none kVm17 dcm17 pmm17 anm17 cdm17 ctm17), slm17⟩)
    (cm17 : PySem.W.codeIn K cdm17 "Mosaic.totals" = true)
    (km17 : PySem.W.keepIn K (.ref fm17) = true)
    (am18 : PySem.W.findIn K (.ref CM) "describe" = some (some (.ref fm18)))
    (im18 : PySem.W.isFn K (.ref fm18) = true)
    (lm18 : K.lookup fm18 = some ⟨ocm18, odm18, .func (PySem.W.fnOf "describe" "Mosaic.describe" (defArgs (inClass (top 41) 18)) (defBody (inClass (top 41) 18)) (defScope (inClass (top 41) 18)) .none kVm18 dcm18 pmm18 anm18 cdm18 ctm18), slm18⟩)
    (cm18 : PySem.W.codeIn K cdm18 "Mosaic.describe" = true)
    (km18 : PySem.W.keepIn K (.ref fm18) = true)
    (ac0 : PySem.W.findIn K (.ref CD) "__init__" = some (some (.ref fc0)))
    (ic0 : PySem.W.isFn K (.ref fc0) = true)
    (lc0 : K.lookup fc0 = some ⟨occ0, odc0, .func (PySem.W.fnOf "__init__" "Desk.__init__" (defArgs (inClass (top 45) 0)) (defBody (inClass (top 45) 0)) (defScope (inClass (top 45) 0)) .none kVc0 dcc0 pmc0 anc0 cdc0 ctc0), slc0⟩)
    (cc0 : PySem.W.codeIn K cdc0 "Desk.__init__" = true)
    (kc0 : PySem.W.keepIn K (.ref fc0) = true)
    (ac1 : PySem.W.findIn K (.ref CD) "create" = some (some (.ref fc1)))
    (ic1 : PySem.W.isFn K (.ref fc1) = true)
    (lc1 : K.lookup fc1 = some ⟨occ1, odc1, .func (PySem.W.fnOf "create" "Desk.create" (defArgs (inClass (top 45) 1)) (defBody (inClass (top 45) 1)) (defScope (inClass (top 45) 1)) .none kVc1 dcc1 pmc1 anc1 cdc1 ctc1), slc1⟩)
    (cc1 : PySem.W.codeIn K cdc1 "Desk.create" = true)
    (kc1 : PySem.W.keepIn K (.ref fc1) = true)
    (ac2 : PySem.W.findIn K (.ref CD) "called" = some (some (.ref fc2)))
    (ic2 : PySem.W.isFn K (.ref fc2) = true)
    (lc2 : K.lookup fc2 = some ⟨occ2, odc2, .func (PySem.W.fnOf "called" "Desk.called" (defArgs (inClass (top 45) 2)) (defBody (inClass (top 45) 2)) (defScope (inClass (top 45) 2)) .none kVc2 dcc2 pmc2 anc2 cdc2 ctc2), slc2⟩)
    (cc2 : PySem.W.codeIn K cdc2 "Desk.called" = true)
    (kc2 : PySem.W.keepIn K (.ref fc2) = true)
    (ac3 : PySem.W.findIn K (.ref CD) "answer" = some (some (.ref fc3)))
    (ic3 : PySem.W.isFn K (.ref fc3) = true)
    (lc3 : K.lookup fc3 = some ⟨occ3, odc3, .func (PySem.W.fnOf "answer" "Desk.answer" (defArgs (inClass (top 45) 3)) (defBody (inClass (top 45) 3)) (defScope (inClass (top 45) 3)) .none kVc3 dcc3 pmc3 anc3 cdc3 ctc3), slc3⟩)
    (cc3 : PySem.W.codeIn K cdc3 "Desk.answer" = true)
    (kc3 : PySem.W.keepIn K (.ref fc3) = true)
    (pgM : PySem.W.plainGet K CM Str.empty = true)
    (hdM : PySem.W.hasDictIn K CM = true)
    (poM : PySem.W.plainOver K CM = true)
    (saM : PySem.W.findIn K (.ref CM) "__setattr__" = some (some (.builtin "object.__setattr__")))
    (mkM : PySem.W.makesIn K CM = true)
    (kcM : PySem.W.keepIn K (.ref CM) = true)
    (naM : PySem.W.findIn K (.ref CM) "shades" = some none)
    (pgD : PySem.W.plainGet K CD Str.empty = true)
    (hdD : PySem.W.hasDictIn K CD = true)
    (poD : PySem.W.plainOver K CD = true)
    (saD : PySem.W.findIn K (.ref CD) "__setattr__" = some (some (.builtin "object.__setattr__")))
    (mkD : PySem.W.makesIn K CD = true)
    (kcD : PySem.W.keepIn K (.ref CD) = true)
    (naD : PySem.W.findIn K (.ref CD) "mosaic" = some none)
    (xR : K.lookup CR = some (excClassObj nmR qR CR NR bsR [.type "ValueError", .type "Exception", .type "BaseException", .type "object"] true snR subR abR colR ddR m0 m1 m2 m3 m5 "ValueError.__new__"))
    (saR : PySem.W.findIn K (.ref CR) "__setattr__" = some (some (.builtin "object.__setattr__")))
    (gaR : PySem.W.findIn K (.ref CR) "__getattribute__" = some (some (.builtin "BaseException.__getattribute__")))
    (ggR : PySem.W.findIn K (.ref CR) "__getattr__" = some none)
    (nbR : PySem.W.findIn K (.ref CR) "code" = some none)
    (kcR : PySem.W.keepIn K (.ref CR) = true)
    (eR : PySem.W.subIn K (.ref CR) (.type "BaseException") = some true)
    (tR : PySem.W.typeIn K (.ref CR) = some (.type "type"))
    (hR : PySem.W.hasDictIn K CR = true)
    (iR : PySem.W.isClsIn K CR = true)
    (sR : PySem.W.subIn K (.ref CR) (.ref CR) = some true)
    (vR : PySem.W.findCls K (.type "ValueError") (.type "type") "__init__" = some (.val (.builtin "ValueError.__init__")))
    (zlen : PySem.W.nsIn K mainGlobals "len" = some none)
    (zabs : PySem.W.nsIn K mainGlobals "abs" = some none)
    (zmin : PySem.W.nsIn K mainGlobals "min" = some none)
    (zall : PySem.W.nsIn K mainGlobals "all" = some none)
    (zrange : PySem.W.nsIn K mainGlobals "range" = some none)
    (zenumerate : PySem.W.nsIn K mainGlobals "enumerate" = some none)
    (zValueError : PySem.W.nsIn K mainGlobals "ValueError" = some none)
    (qnothing : PySem.W.nsIn K mainGlobals "NOTHING_LEFT" = some (some unothing))
    (qnoInst : PySem.W.nsIn K mainGlobals "NO_INSTANCE" = some (some unoInst))
    (qnoShade : PySem.W.nsIn K mainGlobals "NO_SHADE" = some (some unoShade))
    (qsameLv : PySem.W.nsIn K mainGlobals "SAME_LEVEL" = some (some usameLv))
    (qoutR : PySem.W.nsIn K mainGlobals "OUT_OF_RANGE" = some (some uoutR))
    (qfull : PySem.W.nsIn K mainGlobals "FULL" = some (some ufull))
    (qnoCol : PySem.W.nsIn K mainGlobals "NO_COLOURS" = some (some unoCol))
    (qbright : PySem.W.nsIn K mainGlobals "BRIGHTEST" = some (some ubright))
    (qmostT : PySem.W.nsIn K mainGlobals "MOST_TILES" = some (some umostT))
    (qmostS : PySem.W.nsIn K mainGlobals "MOST_SHADES" = some (some umostS))
    (qmostC : PySem.W.nsIn K mainGlobals "MOST_COLOURS" = some (some umostC))
    (qnoDiv : PySem.W.nsIn K mainGlobals "NO_DIVISION" = some (some unoDiv))
    (qwithRow : PySem.W.nsIn K mainGlobals "WITH_ROW" = some (some uwithRow))
    (rnothing : isI 0 unothing = true)
    (rnoInst : isI (-11) unoInst = true)
    (rnoShade : isI (-2) unoShade = true)
    (rsameLv : isI (-17) usameLv = true)
    (routR : isI (-22) uoutR = true)
    (rfull : isI (-28) ufull = true)
    (rnoCol : isI (-33) unoCol = true)
    (rbright : isI 255 ubright = true)
    (rmostT : isI 999 umostT = true)
    (rmostS : isI 12 umostS = true)
    (rmostC : isI 12 umostC = true)
    (rnoDiv : isI (-1) unoDiv = true)
    (rwithRow : isI 11 uwithRow = true)
    (aPE : PySem.W.nsIn K mainGlobals "palette_error_errors" = some (some (.ref fd13)))
    (aW : PySem.W.nsIn K mainGlobals "WHOLE_NUMBERS" = some (some (.ref aWN)))
    (lW : K.lookup aWN = some oWN)
    (cW : isTupI wn oWN = true)
    : ∃ fd : FuncData, (∀ (s : Shared) (us : List Value), us.length = (["calls"] : List Str).length → BindsTo s fd ⟨us, []⟩ ((["calls"] : List Str).zip us)) ∧ ∀ base : Heap, K.In base → base.Ns mainGlobals mg → FnOk P w K mg base CX0 12 fa fd ["calls"] (spAns K) := by
  have e := hfa.symm.trans (PySem.W.mg_of X G ad49)
  cases e
  have T : Tx mg := { len := PySem.W.mg_none_of X G zlen, abs := PySem.W.mg_none_of X G zabs, min := PySem.W.mg_none_of X G zmin, all := PySem.W.mg_none_of X G zall, range := PySem.W.mg_none_of X G zrange, enumerate := PySem.W.mg_none_of X G zenumerate, ve := PySem.W.mg_none_of X G zValueError, nothing := ⟨_, PySem.W.mg_of X G qnothing, isI_rel rnothing⟩, noInst := ⟨_, PySem.W.mg_of X G qnoInst, isI_rel rnoInst⟩, noShade := ⟨_, PySem.W.mg_of X G qnoShade, isI_rel rnoShade⟩, sameLv := ⟨_, PySem.W.mg_of X G qsameLv, isI_rel rsameLv⟩, outR := ⟨_, PySem.W.mg_of X G qoutR, isI_rel routR⟩, full := ⟨_, PySem.W.mg_of X G qfull, isI_rel rfull⟩, noCol := ⟨_, PySem.W.mg_of X G qnoCol, isI_rel rnoCol⟩, bright := ⟨_, PySem.W.mg_of X G qbright, isI_rel rbright⟩, mostT := ⟨_, PySem.W.mg_of X G qmostT, isI_rel rmostT⟩, mostS := ⟨_, PySem.W.mg_of X G qmostS, isI_rel rmostS⟩, mostC := ⟨_, PySem.W.mg_of X G qmostC, isI_rel rmostC⟩, noDiv := ⟨_, PySem.W.mg_of X G qnoDiv, isI_rel rnoDiv⟩, withRow := ⟨_, PySem.W.mg_of X G qwithRow, isI_rel rwithRow⟩ }
  have Ud1 := fun_mk (st := top 1) ld1 cd1 kd1
  have Fd1 : Df K mg "tiles_of" (top 1) ["shades"] fd1 _ := ⟨Ud1, PySem.W.mg_of X G ad1, Ud1.binds (ps := ["shades"]) fun _ _ _ _ _ _ us hl => match us, hl with | [_], _ => rfl⟩
  have Ud2 := fun_mk (st := top 2) ld2 cd2 kd2
  have Fd2 : Df K mg "has_level" (top 2) ["shades", "level"] fd2 _ := ⟨Ud2, PySem.W.mg_of X G ad2, Ud2.binds (ps := ["shades", "level"]) fun _ _ _ _ _ _ us hl => match us, hl with | [_, _], _ => rfl⟩
  have Ud3 := fun_mk (st := top 3) ld3 cd3 kd3
  have Fd3 : Df K mg "place_of_level" (top 3) ["shades", "level"] fd3 _ := ⟨Ud3, PySem.W.mg_of X G ad3, Ud3.binds (ps := ["shades", "level"]) fun _ _ _ _ _ _ us hl => match us, hl with | [_, _], _ => rfl⟩
  have Ud4 := fun_mk (st := top 4) ld4 cd4 kd4
  have Fd4 : Df K mg "with_shade" (top 4) ["shades", "level", "count"] fd4 _ := ⟨Ud4, PySem.W.mg_of X G ad4, Ud4.binds (ps := ["shades", "level", "count"]) fun _ _ _ _ _ _ us hl => match us, hl with | [_, _, _], _ => rfl⟩
  have Ud5 := fun_mk (st := top 5) ld5 cd5 kd5
  have Fd5 : Df K mg "without_shade" (top 5) ["shades", "at"] fd5 _ := ⟨Ud5, PySem.W.mg_of X G ad5, Ud5.binds (ps := ["shades", "at"]) fun _ _ _ _ _ _ us hl => match us, hl with | [_, _], _ => rfl⟩
  have Ud6 := fun_mk (st := top 6) ld6 cd6 kd6
  have Fd6 : Df K mg "with_count" (top 6) ["shades", "at", "count"] fd6 _ := ⟨Ud6, PySem.W.mg_of X G ad6, Ud6.binds (ps := ["shades", "at", "count"]) fun _ _ _ _ _ _ us hl => match us, hl with | [_, _, _], _ => rfl⟩
  have Ud7 := fun_mk (st := top 7) ld7 cd7 kd7
  have Fd7 : Df K mg "flat" (top 7) ["shades"] fd7 _ := ⟨Ud7, PySem.W.mg_of X G ad7, Ud7.binds (ps := ["shades"]) fun _ _ _ _ _ _ us hl => match us, hl with | [_], _ => rfl⟩
  have Ud9 := fun_mk (st := top 9) ld9 cd9 kd9
  have Fd9 : Df K mg "error_with" (top 9) ["shades", "colour"] fd9 _ := ⟨Ud9, PySem.W.mg_of X G ad9, Ud9.binds (ps := ["shades", "colour"]) fun _ _ _ _ _ _ us hl => match us, hl with | [_, _], _ => rfl⟩
  have Ud10 := fun_mk (st := top 10) ld10 cd10 kd10
  have Fd10 : Df K mg "median_of" (top 10) ["shades"] fd10 _ := ⟨Ud10, PySem.W.mg_of X G ad10, Ud10.binds (ps := ["shades"]) fun _ _ _ _ _ _ us hl => match us, hl with | [_], _ => rfl⟩
  have Ud11 := fun_mk (st := top 11) ld11 cd11 kd11
  have Fd11 : Df K mg "group_error" (top 11) ["shades"] fd11 _ := ⟨Ud11, PySem.W.mg_of X G ad11, Ud11.binds (ps := ["shades"]) fun _ _ _ _ _ _ us hl => match us, hl with | [_], _ => rfl⟩
  have Ud12 := fun_mk (st := top 12) ld12 cd12 kd12
  have Fd12 : Df K mg "least_distance" (top 12) ["palette", "level"] fd12 _ := ⟨Ud12, PySem.W.mg_of X G ad12, Ud12.binds (ps := ["palette", "level"]) fun _ _ _ _ _ _ us hl => match us, hl with | [_, _], _ => rfl⟩
  have Ud13 := fun_mk (st := top 13) ld13 cd13 kd13
  have Fd13 : Df K mg "palette_error" (top 13) ["shades", "palette"] fd13 _ := ⟨Ud13, PySem.W.mg_of X G ad13, Ud13.binds (ps := ["shades", "palette"]) fun _ _ _ _ _ _ us hl => match us, hl with | [_, _], _ => rfl⟩
  have Ud17 := fun_mk (st := top 17) ld17 cd17 kd17
  have Fd17 : Df K mg "first_rests" (top 17) ["shades"] fd17 _ := ⟨Ud17, PySem.W.mg_of X G ad17, Ud17.binds (ps := ["shades"]) fun _ _ _ _ _ _ us hl => match us, hl with | [_], _ => rfl⟩
  have Ud18 := fun_mk (st := top 18) ld18 cd18 kd18
  have Fd18 : Df K mg "best_from" (top 18) ["shades", "at", "rests"] fd18 _ := ⟨Ud18, PySem.W.mg_of X G ad18, Ud18.binds (ps := ["shades", "at", "rests"]) fun _ _ _ _ _ _ us hl => match us, hl with | [_, _, _], _ => rfl⟩
  have Ud19 := fun_mk (st := top 19) ld19 cd19 kd19
  have Fd19 : Df K mg "next_rests" (top 19) ["shades", "rests"] fd19 _ := ⟨Ud19, PySem.W.mg_of X G ad19, Ud19.binds (ps := ["shades", "rests"]) fun _ _ _ _ _ _ us hl => match us, hl with | [_, _], _ => rfl⟩
  have Ud20 := fun_mk (st := top 20) ld20 cd20 kd20
  have Fd20 : Df K mg "best_division" (top 20) ["shades", "colours"] fd20 _ := ⟨Ud20, PySem.W.mg_of X G ad20, Ud20.binds (ps := ["shades", "colours"]) fun _ _ _ _ _ _ us hl => match us, hl with | [_, _], _ => rfl⟩
  have Ud21 := fun_mk (st := top 21) ld21 cd21 kd21
  have Fd21 : Df K mg "all_least_errors" (top 21) ["shades"] fd21 _ := ⟨Ud21, PySem.W.mg_of X G ad21, Ud21.binds (ps := ["shades"]) fun _ _ _ _ _ _ us hl => match us, hl with | [_], _ => rfl⟩
  have Ud22 := fun_mk (st := top 22) ld22 cd22 kd22
  have Fd22 : Df K mg "groups_of" (top 22) ["shades", "sizes"] fd22 _ := ⟨Ud22, PySem.W.mg_of X G ad22, Ud22.binds (ps := ["shades", "sizes"]) fun _ _ _ _ _ _ us hl => match us, hl with | [_, _], _ => rfl⟩
  have Ud23 := fun_mk (st := top 23) ld23 cd23 kd23
  have Fd23 : Df K mg "group_with" (top 23) ["sizes", "place"] fd23 _ := ⟨Ud23, PySem.W.mg_of X G ad23, Ud23.binds (ps := ["sizes", "place"]) fun _ _ _ _ _ _ us hl => match us, hl with | [_, _], _ => rfl⟩
  have Ud32 := fun_mk (st := top 32) ld32 cd32 kd32
  have Fd32 : Df K mg "need" (top 32) ["truth", "code"] fd32 _ := ⟨Ud32, PySem.W.mg_of X G ad32, Ud32.binds (ps := ["truth", "code"]) fun _ _ _ _ _ _ us hl => match us, hl with | [_, _], _ => rfl⟩
  have Ud39 := fun_mk (st := top 39) ld39 cd39 kd39
  have Fd39 : Df K mg "is_level" (top 39) ["number"] fd39 _ := ⟨Ud39, PySem.W.mg_of X G ad39, Ud39.binds (ps := ["number"]) fun _ _ _ _ _ _ us hl => match us, hl with | [_], _ => rfl⟩
  have Ud40 := fun_mk (st := top 40) ld40 cd40 kd40
  have Fd40 : Df K mg "is_count" (top 40) ["number"] fd40 _ := ⟨Ud40, PySem.W.mg_of X G ad40, Ud40.binds (ps := ["number"]) fun _ _ _ _ _ _ us hl => match us, hl with | [_], _ => rfl⟩
  have Ud46 := fun_mk (st := top 46) ld46 cd46 kd46
  have Fd46 : Df K mg "changed" (top 46) ["mosaic", "call", "n"] fd46 _ := ⟨Ud46, PySem.W.mg_of X G ad46, Ud46.binds (ps := ["mosaic", "call", "n"]) fun _ _ _ _ _ _ us hl => match us, hl with | [_, _, _], _ => rfl⟩
  have Ud47 := fun_mk (st := top 47) ld47 cd47 kd47
  have Fd47 : Df K mg "asked" (top 47) ["mosaic", "call", "n", "row"] fd47 _ := ⟨Ud47, PySem.W.mg_of X G ad47, Ud47.binds (ps := ["mosaic", "call", "n", "row"]) fun _ _ _ _ _ _ us hl => match us, hl with | [_, _, _, _], _ => rfl⟩
  have Ud48 := fun_mk (st := top 48) ld48 cd48 kd48
  have Fd48 : Df K mg "row_at" (top 48) ["calls", "at", "call"] fd48 _ := ⟨Ud48, PySem.W.mg_of X G ad48, Ud48.binds (ps := ["calls", "at", "call"]) fun _ _ _ _ _ _ us hl => match us, hl with | [_, _, _], _ => rfl⟩
  have Ud49 := fun_mk (st := top 49) ld49 cd49 kd49
  have Fd49 : Df K mg "answers" (top 49) ["calls"] fa _ := ⟨Ud49, PySem.W.mg_of X G ad49, Ud49.binds (ps := ["calls"]) fun _ _ _ _ _ _ us hl => match us, hl with | [_], _ => rfl⟩
  have Ur0 := fun_mk (st := inClass (top 31) 0) lr0 cr0 kr0
  have Br0 := Ur0.binds (ps := ["self", "code"]) fun _ _ _ _ _ _ us hl => match us, hl with | [_, _], _ => rfl
  have Um0 := fun_mk (st := inClass (top 41) 0) lm0 cm0 km0
  have Bm0 := Um0.binds (ps := ["self"]) fun _ _ _ _ _ _ us hl => match us, hl with | [_], _ => rfl
  have Um1 := fun_mk (st := inClass (top 41) 1) lm1 cm1 km1
  have Bm1 := Um1.binds (ps := ["self", "place"]) fun _ _ _ _ _ _ us hl => match us, hl with | [_, _], _ => rfl
  have Fm1 : Dm K CM "need_shade" "Mosaic.need_shade" (inClass (top 41) 1) ["self", "place"] fm1 _ := ⟨Um1, ⟨am1, im1, km1⟩, Bm1⟩
  have Um2 := fun_mk (st := inClass (top 41) 2) lm2 cm2 km2
  have Bm2 := Um2.binds (ps := ["self", "colours"]) fun _ _ _ _ _ _ us hl => match us, hl with | [_, _], _ => rfl
  have Fm2 : Dm K CM "need_colours" "Mosaic.need_colours" (inClass (top 41) 2) ["self", "colours"] fm2 _ := ⟨Um2, ⟨am2, im2, km2⟩, Bm2⟩
  have Um3 := fun_mk (st := inClass (top 41) 3) lm3 cm3 km3
  have Bm3 := Um3.binds (ps := ["self", "colours"]) fun _ _ _ _ _ _ us hl => match us, hl with | [_, _], _ => rfl
  have Fm3 : Dm K CM "best_groups_for" "Mosaic.best_groups_for" (inClass (top 41) 3) ["self", "colours"] fm3 _ := ⟨Um3, ⟨am3, im3, km3⟩, Bm3⟩
  have Um4 := fun_mk (st := inClass (top 41) 4) lm4 cm4 km4
  have Bm4 := Um4.binds (ps := ["self", "level", "count"]) fun _ _ _ _ _ _ us hl => match us, hl with | [_, _, _], _ => rfl
  have Fm4 : Dm K CM "add_shade" "Mosaic.add_shade" (inClass (top 41) 4) ["self", "level", "count"] fm4 _ := ⟨Um4, ⟨am4, im4, km4⟩, Bm4⟩
  have Um5 := fun_mk (st := inClass (top 41) 5) lm5 cm5 km5
  have Bm5 := Um5.binds (ps := ["self", "place"]) fun _ _ _ _ _ _ us hl => match us, hl with | [_, _], _ => rfl
  have Fm5 : Dm K CM "remove_shade" "Mosaic.remove_shade" (inClass (top 41) 5) ["self", "place"] fm5 _ := ⟨Um5, ⟨am5, im5, km5⟩, Bm5⟩
  have Um6 := fun_mk (st := inClass (top 41) 6) lm6 cm6 km6
  have Bm6 := Um6.binds (ps := ["self", "place", "count"]) fun _ _ _ _ _ _ us hl => match us, hl with | [_, _, _], _ => rfl
  have Fm6 : Dm K CM "set_count" "Mosaic.set_count" (inClass (top 41) 6) ["self", "place", "count"] fm6 _ := ⟨Um6, ⟨am6, im6, km6⟩, Bm6⟩
  have Um7 := fun_mk (st := inClass (top 41) 7) lm7 cm7 km7
  have Bm7 := Um7.binds (ps := ["self", "colours"]) fun _ _ _ _ _ _ us hl => match us, hl with | [_, _], _ => rfl
  have Fm7 : Dm K CM "min_error" "Mosaic.min_error" (inClass (top 41) 7) ["self", "colours"] fm7 _ := ⟨Um7, ⟨am7, im7, km7⟩, Bm7⟩
  have Um8 := fun_mk (st := inClass (top 41) 8) lm8 cm8 km8
  have Bm8 := Um8.binds (ps := ["self", "colours"]) fun _ _ _ _ _ _ us hl => match us, hl with | [_, _], _ => rfl
  have Fm8 : Dm K CM "best_palette" "Mosaic.best_palette" (inClass (top 41) 8) ["self", "colours"] fm8 _ := ⟨Um8, ⟨am8, im8, km8⟩, Bm8⟩
  have Um9 := fun_mk (st := inClass (top 41) 9) lm9 cm9 km9
  have Bm9 := Um9.binds (ps := ["self", "colours"]) fun _ _ _ _ _ _ us hl => match us, hl with | [_, _], _ => rfl
  have Fm9 : Dm K CM "best_groups" "Mosaic.best_groups" (inClass (top 41) 9) ["self", "colours"] fm9 _ := ⟨Um9, ⟨am9, im9, km9⟩, Bm9⟩
  have Um10 := fun_mk (st := inClass (top 41) 10) lm10 cm10 km10
  have Bm10 := Um10.binds (ps := ["self", "place", "colours"]) fun _ _ _ _ _ _ us hl => match us, hl with | [_, _, _], _ => rfl
  have Fm10 : Dm K CM "colour_of" "Mosaic.colour_of" (inClass (top 41) 10) ["self", "place", "colours"] fm10 _ := ⟨Um10, ⟨am10, im10, km10⟩, Bm10⟩
  have Um11 := fun_mk (st := inClass (top 41) 11) lm11 cm11 km11
  have Bm11 := Um11.binds (ps := ["self", "colours"]) fun _ _ _ _ _ _ us hl => match us, hl with | [_, _], _ => rfl
  have Fm11 : Dm K CM "error_reduction" "Mosaic.error_reduction" (inClass (top 41) 11) ["self", "colours"] fm11 _ := ⟨Um11, ⟨am11, im11, km11⟩, Bm11⟩
  have Um12 := fun_mk (st := inClass (top 41) 12) lm12 cm12 km12
  have Bm12 := Um12.binds (ps := ["self"]) fun _ _ _ _ _ _ us hl => match us, hl with | [_], _ => rfl
  have Fm12 : Dm K CM "error_table" "Mosaic.error_table" (inClass (top 41) 12) ["self"] fm12 _ := ⟨Um12, ⟨am12, im12, km12⟩, Bm12⟩
  have Um13 := fun_mk (st := inClass (top 41) 13) lm13 cm13 km13
  have Bm13 := Um13.binds (ps := ["self", "bound"]) fun _ _ _ _ _ _ us hl => match us, hl with | [_, _], _ => rfl
  have Fm13 : Dm K CM "min_colours" "Mosaic.min_colours" (inClass (top 41) 13) ["self", "bound"] fm13 _ := ⟨Um13, ⟨am13, im13, km13⟩, Bm13⟩
  have Um14 := fun_mk (st := inClass (top 41) 14) lm14 cm14 km14
  have Bm14 := Um14.binds (ps := ["self", "palette"]) fun _ _ _ _ _ _ us hl => match us, hl with | [_, _], _ => rfl
  have Fm14 : Dm K CM "palette_error" "Mosaic.palette_error" (inClass (top 41) 14) ["self", "palette"] fm14 _ := ⟨Um14, ⟨am14, im14, km14⟩, Bm14⟩
  have Um15 := fun_mk (st := inClass (top 41) 15) lm15 cm15 km15
  have Bm15 := Um15.binds (ps := ["self", "begin", "last"]) fun _ _ _ _ _ _ us hl => match us, hl with | [_, _, _], _ => rfl
  have Fm15 : Dm K CM "median" "Mosaic.median" (inClass (top 41) 15) ["self", "begin", "last"] fm15 _ := ⟨Um15, ⟨am15, im15, km15⟩, Bm15⟩
  have Um16 := fun_mk (st := inClass (top 41) 16) lm16 cm16 km16
  have Bm16 := Um16.binds (ps := ["self", "colours"]) fun _ _ _ _ _ _ us hl => match us, hl with | [_, _], _ => rfl
  have Fm16 : Dm K CM "group_counts" "Mosaic.group_counts" (inClass (top 41) 16) ["self", "colours"] fm16 _ := ⟨Um16, ⟨am16, im16, km16⟩, Bm16⟩
  have Um17 := fun_mk (st := inClass (top 41) 17) lm17 cm17 km17
  have Bm17 := Um17.binds (ps := ["self"]) fun _ _ _ _ _ _ us hl => match us, hl with | [_], _ => rfl
  have Fm17 : Dm K CM "totals" "Mosaic.totals" (inClass (top 41) 17) ["self"] fm17 _ := ⟨Um17, ⟨am17, im17, km17⟩, Bm17⟩
  have Um18 := fun_mk (st := inClass (top 41) 18) lm18 cm18 km18
  have Bm18 := Um18.binds (ps := ["self"]) fun _ _ _ _ _ _ us hl => match us, hl with | [_], _ => rfl
  have Fm18 : Dm K CM "describe" "Mosaic.describe" (inClass (top 41) 18) ["self"] fm18 _ := ⟨Um18, ⟨am18, im18, km18⟩, Bm18⟩
  have Uc0 := fun_mk (st := inClass (top 45) 0) lc0 cc0 kc0
  have Bc0 := Uc0.binds (ps := ["self"]) fun _ _ _ _ _ _ us hl => match us, hl with | [_], _ => rfl
  have Uc1 := fun_mk (st := inClass (top 45) 1) lc1 cc1 kc1
  have Bc1 := Uc1.binds (ps := ["self"]) fun _ _ _ _ _ _ us hl => match us, hl with | [_], _ => rfl
  have Fc1 : Dm K CD "create" "Desk.create" (inClass (top 45) 1) ["self"] fc1 _ := ⟨Uc1, ⟨ac1, ic1, kc1⟩, Bc1⟩
  have Uc2 := fun_mk (st := inClass (top 45) 2) lc2 cc2 kc2
  have Bc2 := Uc2.binds (ps := ["self", "call", "n", "row"]) fun _ _ _ _ _ _ us hl => match us, hl with | [_, _, _, _], _ => rfl
  have Fc2 : Dm K CD "called" "Desk.called" (inClass (top 45) 2) ["self", "call", "n", "row"] fc2 _ := ⟨Uc2, ⟨ac2, ic2, kc2⟩, Bc2⟩
  have Uc3 := fun_mk (st := inClass (top 45) 3) lc3 cc3 kc3
  have Bc3 := Uc3.binds (ps := ["self", "call", "n", "row"]) fun _ _ _ _ _ _ us hl => match us, hl with | [_, _, _, _], _ => rfl
  have Fc3 : Dm K CD "answer" "Desk.answer" (inClass (top 45) 3) ["self", "call", "n", "row"] fc3 _ := ⟨Uc3, ⟨ac3, ic3, kc3⟩, Bc3⟩
  have XM : Cx1 K CM "shades" := ⟨⟨pgM, hdM, poM, saM⟩, naM⟩
  have XD : Cx1 K CD "mosaic" := ⟨⟨pgD, hdD, poD, saD⟩, naD⟩
  have R : Rx K mg CR fr0 := ⟨⟨⟨nmR, qR, NR, bsR, _, snR, subR, abR, colR, ddR, m0, m1, m2, m3, m5, xR, by decide +kernel⟩, saR, eR, tR, kcR⟩, ar0, ir0, ⟨gaR, ggR, eR, hR⟩, nbR, PySem.W.mg_of X G nR, exm_self eR iR tR sR, vR⟩
  have hwn : ∃ a o its n, mg "WHOLE_NUMBERS" = some (.ref a) ∧ K.lookup a = some o ∧ o.cls = .type "tuple" ∧ o.data = .seq its n ∧ its.size ≤ sizeLine ∧ Vals (wn.map V.int) its.toList := by
    obtain ⟨its, n, h1, h2, h3, h4⟩ := isTupI_ok (is := wn) (by decide) cW
    exact ⟨aWN, oWN, its, n, PySem.W.mg_of X G aW, lW, h1, h2, h3, h4⟩
  refine ⟨PySem.W.fnOf "answers" "answers" (defArgs (top 49)) (defBody (top 49)) (defScope (top 49)) .none kVd49 dcd49 pmd49 and49 cdd49 ctd49, fun s us hu => match us, hu with | [_], _ => .of_eq rfl, fun base _ _ => ?_⟩
  have g1 := ok_tiles (P := P) (w := w) (base := base) Fd1
  have g2 := ok_has (P := P) (w := w) (base := base) Fd2
  have g3 := ok_place (P := P) (w := w) (base := base) T Fd3
  have g4 := ok_with Fd4 Fd3 g3
  have g5 := ok_without (P := P) (w := w) (base := base) Fd5
  have g6 := ok_withCount (P := P) (w := w) (base := base) Fd6
  have g7 := ok_flat (P := P) (w := w) (base := base) Fd7
  have g9 := ok_err (P := P) (w := w) (base := base) T Fd9
  have g10 := ok_med Fd10 Fd1 g1
  have g11 := ok_gerr Fd11 Fd9 g9 Fd10 g10
  have g12 := ok_least (P := P) (w := w) (base := base) T Fd12
  have g13 := ok_pal Fd13 Fd12 g12
  have g17 := ok_first (P := P) (w := w) (base := base) T Fd17
  have g18 := ok_best T Fd18 Fd11 g11
  have g19 := ok_next T Fd19 Fd18 g18
  have g20 := ok_div T Fd20 Fd17 g17 Fd19 g19
  have g21 := ok_allErr T Fd21 Fd17 g17 Fd19 g19
  have g22 := ok_groups (P := P) (w := w) (base := base) Fd22
  have g23 := ok_gw (P := P) (w := w) (base := base) T Fd23
  have gr := ok_rinit (P := P) (w := w) (base := base) T R Ur0
  have g32 := ok_need R Fd32 Br0 gr
  have g39 := ok_level (P := P) (w := w) (base := base) T Fd39
  have g40 := ok_count (P := P) (w := w) (base := base) T Fd40
  have gm0 := ok_minit (P := P) (w := w) (mg := mg) (base := base) XM Um0
  have gm1 := ok_nshade T XM Fm1 Fd32 g32
  have gm2 := ok_ncol T XM Fm2 Fd32 g32
  have gm3 := ok_gfor XM Fm3 Fm2 gm2 Fd22 g22 Fd20 g20
  have gm4 := ok_add T XM Fm4 Fd32 g32 Fd39 g39 Fd40 g40 Fd2 g2 Fd3 g3 Fd4 g4
  have gm5 := ok_rem T XM Fm5 Fm1 gm1 Fd5 g5
  have gm6 := ok_set T XM Fm6 Fm1 gm1 Fd32 g32 Fd40 g40 Fd6 g6
  have gm7 := ok_mine XM Fm7 Fm2 gm2 Fd20 g20
  have gm8 := ok_palette T XM Fm8 Fm3 gm3 Fd10 g10
  have gm9 := ok_groupsq T XM Fm9 Fm3 gm3 Fd11 g11
  have gm10 := ok_col XM Fm10 Fm1 gm1 Fm2 gm2 Fd20 g20 Fd10 g10 Fd22 g22 Fd23 g23
  have gm11 := ok_red XM Fm11 Fm2 gm2 Fd20 g20
  have gm12 := ok_table (CR := CR) T XM Fm12 Fd21 g21
  have gm13 := ok_minc T XM Fm13 Fd32 g32 Fd21 g21
  have gm14 := ok_palq T XM Fm14 Fd32 g32 Fd39 g39 Fd13 (PySem.W.mg_of X G aPE) g13
  have gm15 := ok_medq T XM Fm15 Fm1 gm1 Fd32 g32 Fd10 g10 Fd9 g9
  have gm16 := ok_counts T XM Fm16 Fm3 gm3 Fd1 g1
  have gm17 := ok_totals (CR := CR) T XM Fm17 Fd1 g1
  have gm18 := ok_descr (CR := CR) T XM Fm18 Fd7 g7
  have S : Qs P w K mg base CM CR := ⟨⟨_, _, Fm7, gm7.mono (by decide)⟩, ⟨_, _, Fm8, gm8⟩, ⟨_, _, Fm9, gm9⟩, ⟨_, _, Fm10, gm10.mono (by decide)⟩, ⟨_, _, Fm11, gm11.mono (by decide)⟩, ⟨_, _, Fm12, gm12.mono (by decide)⟩, ⟨_, _, Fm13, gm13.mono (by decide)⟩, ⟨_, _, Fm14, gm14.mono (by decide)⟩,
    ⟨_, _, Fm15, gm15.mono (by decide)⟩, ⟨_, _, Fm16, gm16⟩, ⟨_, _, Fm17, gm17.mono (by decide)⟩, ⟨_, _, Fm18, gm18.mono (by decide)⟩⟩
  have g46 := ok_changed XM Fd46 Fm4 gm4 Fm5 gm5 Fm6 gm6
  have g47 := ok_asked XM Fd47 S
  have gd0 := ok_dinit (P := P) (w := w) (mg := mg) (base := base) XD Uc0
  have gd1 := ok_create (CR := CR) XD Fc1 ⟨mkM, am0, im0, kcM⟩ (PySem.W.mg_of X G nM) Bm0 gm0
  have gd2 := ok_called T XD Fc2 Fc1 gd1 Fd32 g32 Fd46 g46 Fd47 g47
  have gd3 := ok_answer R XD Fc3 Fc2 gd2
  have g48 := ok_row (P := P) (w := w) (base := base) T Fd48
  exact ok_ans T hwn Fd49 ⟨mkD, ac0, ic0, kcD⟩ (PySem.W.mg_of X G nD) Bc0 gd0 XD Fd48 g48 Fc3 gd3
end WK
open PySem PySem.W PyProof.Rows
set_option maxRecDepth 100000 in
set_option maxHeartbeats 8000000 in
theorem PySem.Challenge.cw_fewstones_s01_answers_holds : PySem.Challenge.rw_fewstones_s01_answers.Holds := by
  w_on; k_headS; (case hw => exact ⟨[.list [.int 0]], by decide +kernel, by decide +kernel⟩)
  k_fillS
  refine L2.walk_specK (r := PySem.Challenge.rw_fewstones_s01_answers) (k := 12) (CX := L2.CX0) (ps := ["calls"]) (sp := WK.spAns) (by decide +kernel) rfl rfl ⟨rfl, by decide, by decide⟩ (fun w h Y => PySem.W.kIn_of Y) ?F ?S (fun _ _ _ _ z => z)
  case F =>
    intro w mg fa h Y KX G hmg
    refine' WK.all_mk KX G hmg ?ad1 ?ld1 ?cd1 ?kd1 ?ad2 ?ld2 ?cd2 ?kd2 ?ad3 ?ld3 ?cd3 ?kd3 ?ad4 ?ld4 ?cd4 ?kd4 ?ad5 ?ld5 ?cd5 ?kd5 ?ad6 ?ld6 ?cd6 ?kd6 ?ad7 ?ld7 ?cd7 ?kd7 ?ad9 ?ld9 ?cd9 ?kd9 ?ad10 ?ld10 ?cd10 ?kd10 ?ad11 ?ld11 ?cd11 ?kd11 ?ad12 ?ld12 ?cd12 ?kd12 ?ad13 ?ld13 ?cd13 ?kd13 ?ad17 ?ld17 ?cd17 ?kd17 ?ad18 ?ld18 ?cd18 ?kd18 ?ad19 ?ld19 ?cd19 ?kd19 ?ad20 ?ld20 ?cd20 ?kd20 ?ad21 ?ld21 ?cd21 ?kd21 ?ad22 ?ld22 ?cd22 ?kd22 ?ad23 ?ld23 ?cd23 ?kd23 ?ad32 ?ld32 ?cd32 ?kd32 ?ad39 ?ld39 ?cd39 ?kd39 ?ad40 ?ld40 ?cd40 ?kd40 ?ad46 ?ld46 ?cd46 ?kd46 ?ad47 ?ld47 ?cd47 ?kd47 ?ad48 ?ld48 ?cd48 ?kd48 ?ad49 ?ld49 ?cd49 ?kd49 ?nR ?nM ?nD ?ar0 ?ir0 ?lr0 ?cr0 ?kr0 ?am0 ?im0 ?lm0 ?cm0 ?km0 ?am1 ?im1 ?lm1 ?cm1 ?km1 ?am2 ?im2 ?lm2 ?cm2 ?km2 ?am3 ?im3 ?lm3 ?cm3 ?km3 ?am4 ?im4 ?lm4 ?cm4 ?km4 ?am5 ?im5 ?lm5 ?cm5 ?km5 ?am6 ?im6 ?lm6 ?cm6 ?km6 ?am7 ?im7 ?lm7 ?cm7 ?km7 ?am8 ?im8 ?lm8 ?cm8 ?km8 ?am9 ?im9 ?lm9 ?cm9 ?km9 ?am10 ?im10 ?lm10 ?cm10 ?km10 ?am11 ?im11 ?lm11 ?cm11 ?km11 ?am12 ?im12 ?lm12 ?cm12 ?km12 ?am13 ?im13 ?lm13 ?cm13 ?km13 ?am14 ?im14 ?lm14 ?cm14 ?km14 ?am15 ?im15 ?lm15 ?cm15 ?km15 ?am16 ?im16 ?lm16 ?cm16 ?km16 ?am17 ?im17 ?lm17 ?cm17 ?km17 ?am18 ?im18 ?lm18 ?cm18 ?km18 ?ac0 ?ic0 ?lc0 ?cc0 ?kc0 ?ac1 ?ic1 ?lc1 ?cc1 ?kc1 ?ac2 ?ic2 ?lc2 ?cc2 ?kc2 ?ac3 ?ic3 ?lc3 ?cc3 ?kc3 ?pgM ?hdM ?poM ?saM ?mkM ?kcM ?naM ?pgD ?hdD ?poD ?saD ?mkD ?kcD ?naD ?xR ?saR ?gaR ?ggR ?nbR ?kcR ?eR ?tR ?hR ?iR ?sR ?vR ?zlen ?zabs ?zmin ?zall ?zrange ?zenumerate ?zValueError ?qnothing ?qnoInst ?qnoShade ?qsameLv ?qoutR ?qfull ?qnoCol ?qbright ?qmostT ?qmostS ?qmostC ?qnoDiv ?qwithRow ?rnothing ?rnoInst ?rnoShade ?rsameLv ?routR ?rfull ?rnoCol ?rbright ?rmostT ?rmostS ?rmostC ?rnoDiv ?rwithRow ?aPE ?aW ?lW ?cW
    (case ad1 => k_is)
    (case ld1 => k_is)
    (case cd1 => k_is)
    (case kd1 => k_is)
    (case ad2 => k_is)
    (case ld2 => k_is)
    (case cd2 => k_is)
    (case kd2 => k_is)
    (case ad3 => k_is)
    (case ld3 => k_is)
    (case cd3 => k_is)
    (case kd3 => k_is)
    (case ad4 => k_is)
    (case ld4 => k_is)
    (case cd4 => k_is)
    (case kd4 => k_is)
    (case ad5 => k_is)
    (case ld5 => k_is)
    (case cd5 => k_is)
    (case kd5 => k_is)
    (case ad6 => k_is)
    (case ld6 => k_is)
    (case cd6 => k_is)
    (case kd6 => k_is)
    (case ad7 => k_is)
    (case ld7 => k_is)
    (case cd7 => k_is)
    (case kd7 => k_is)
    (case ad9 => k_is)
    (case ld9 => k_is)
    (case cd9 => k_is)
    (case kd9 => k_is)
    (case ad10 => k_is)
    (case ld10 => k_is)
    (case cd10 => k_is)
    (case kd10 => k_is)
    (case ad11 => k_is)
    (case ld11 => k_is)
    (case cd11 => k_is)
    (case kd11 => k_is)
    (case ad12 => k_is)
    (case ld12 => k_is)
    (case cd12 => k_is)
    (case kd12 => k_is)
    (case ad13 => k_is)
    (case ld13 => k_is)
    (case cd13 => k_is)
    (case kd13 => k_is)
    (case ad17 => k_is)
    (case ld17 => k_is)
    (case cd17 => k_is)
    (case kd17 => k_is)
    (case ad18 => k_is)
    (case ld18 => k_is)
    (case cd18 => k_is)
    (case kd18 => k_is)
    (case ad19 => k_is)
    (case ld19 => k_is)
    (case cd19 => k_is)
    (case kd19 => k_is)
    (case ad20 => k_is)
    (case ld20 => k_is)
    (case cd20 => k_is)
    (case kd20 => k_is)
    (case ad21 => k_is)
    (case ld21 => k_is)
    (case cd21 => k_is)
    (case kd21 => k_is)
    (case ad22 => k_is)
    (case ld22 => k_is)
    (case cd22 => k_is)
    (case kd22 => k_is)
    (case ad23 => k_is)
    (case ld23 => k_is)
    (case cd23 => k_is)
    (case kd23 => k_is)
    (case ad32 => k_is)
    (case ld32 => k_is)
    (case cd32 => k_is)
    (case kd32 => k_is)
    (case ad39 => k_is)
    (case ld39 => k_is)
    (case cd39 => k_is)
    (case kd39 => k_is)
    (case ad40 => k_is)
    (case ld40 => k_is)
    (case cd40 => k_is)
    (case kd40 => k_is)
    (case ad46 => k_is)
    (case ld46 => k_is)
    (case cd46 => k_is)
    (case kd46 => k_is)
    (case ad47 => k_is)
    (case ld47 => k_is)
    (case cd47 => k_is)
    (case kd47 => k_is)
    (case ad48 => k_is)
    (case ld48 => k_is)
    (case cd48 => k_is)
    (case kd48 => k_is)
    (case ad49 => k_is)
    (case ld49 => k_is)
    (case cd49 => k_is)
    (case kd49 => k_is)
    (case nR => k_is)
    (case nM => k_is)
    (case nD => k_is)
    (case ar0 => k_is)
    (case ir0 => k_is)
    (case lr0 => k_is)
    (case cr0 => k_is)
    (case kr0 => k_is)
    (case am0 => k_is)
    (case im0 => k_is)
    (case lm0 => k_is)
    (case cm0 => k_is)
    (case km0 => k_is)
    (case am1 => k_is)
    (case im1 => k_is)
    (case lm1 => k_is)
    (case cm1 => k_is)
    (case km1 => k_is)
    (case am2 => k_is)
    (case im2 => k_is)
    (case lm2 => k_is)
    (case cm2 => k_is)
    (case km2 => k_is)
    (case am3 => k_is)
    (case im3 => k_is)
    (case lm3 => k_is)
    (case cm3 => k_is)
    (case km3 => k_is)
    (case am4 => k_is)
    (case im4 => k_is)
    (case lm4 => k_is)
    (case cm4 => k_is)
    (case km4 => k_is)
    (case am5 => k_is)
    (case im5 => k_is)
    (case lm5 => k_is)
    (case cm5 => k_is)
    (case km5 => k_is)
    (case am6 => k_is)
    (case im6 => k_is)
    (case lm6 => k_is)
    (case cm6 => k_is)
    (case km6 => k_is)
    (case am7 => k_is)
    (case im7 => k_is)
    (case lm7 => k_is)
    (case cm7 => k_is)
    (case km7 => k_is)
    (case am8 => k_is)
    (case im8 => k_is)
    (case lm8 => k_is)
    (case cm8 => k_is)
    (case km8 => k_is)
    (case am9 => k_is)
    (case im9 => k_is)
    (case lm9 => k_is)
    (case cm9 => k_is)
    (case km9 => k_is)
    (case am10 => k_is)
    (case im10 => k_is)
    (case lm10 => k_is)
    (case cm10 => k_is)
    (case km10 => k_is)
    (case am11 => k_is)
    (case im11 => k_is)
    (case lm11 => k_is)
    (case cm11 => k_is)
    (case km11 => k_is)
    (case am12 => k_is)
    (case im12 => k_is)
    (case lm12 => k_is)
    (case cm12 => k_is)
    (case km12 => k_is)
    (case am13 => k_is)
    (case im13 => k_is)
    (case lm13 => k_is)
    (case cm13 => k_is)
    (case km13 => k_is)
    (case am14 => k_is)
    (case im14 => k_is)
    (case lm14 => k_is)
    (case cm14 => k_is)
    (case km14 => k_is)
    (case am15 => k_is)
    (case im15 => k_is)
    (case lm15 => k_is)
    (case cm15 => k_is)
    (case km15 => k_is)
    (case am16 => k_is)
    (case im16 => k_is)
    (case lm16 => k_is)
    (case cm16 => k_is)
    (case km16 => k_is)
    (case am17 => k_is)
    (case im17 => k_is)
    (case lm17 => k_is)
    (case cm17 => k_is)
    (case km17 => k_is)
    (case am18 => k_is)
    (case im18 => k_is)
    (case lm18 => k_is)
    (case cm18 => k_is)
    (case km18 => k_is)
    (case ac0 => k_is)
    (case ic0 => k_is)
    (case lc0 => k_is)
    (case cc0 => k_is)
    (case kc0 => k_is)
    (case ac1 => k_is)
    (case ic1 => k_is)
    (case lc1 => k_is)
    (case cc1 => k_is)
    (case kc1 => k_is)
    (case ac2 => k_is)
    (case ic2 => k_is)
    (case lc2 => k_is)
    (case cc2 => k_is)
    (case kc2 => k_is)
    (case ac3 => k_is)
    (case ic3 => k_is)
    (case lc3 => k_is)
    (case cc3 => k_is)
    (case kc3 => k_is)
    (case pgM => k_is)
    (case hdM => k_is)
    (case poM => k_is)
    (case saM => k_is)
    (case mkM => k_is)
    (case kcM => k_is)
    (case naM => k_is)
    (case pgD => k_is)
    (case hdD => k_is)
    (case poD => k_is)
    (case saD => k_is)
    (case mkD => k_is)
    (case kcD => k_is)
    (case naD => k_is)
    (case xR => k_is)
    (case saR => k_is)
    (case gaR => k_is)
    (case ggR => k_is)
    (case nbR => k_is)
    (case kcR => k_is)
    (case eR => k_is)
    (case tR => k_is)
    (case hR => k_is)
    (case iR => k_is)
    (case sR => first | rfl | k_is)
    (case vR => k_is)
    (case zlen => k_is)
    (case zabs => k_is)
    (case zmin => k_is)
    (case zall => k_is)
    (case zrange => k_is)
    (case zenumerate => k_is)
    (case zValueError => k_is)
    (case qnothing => k_is)
    (case qnoInst => k_is)
    (case qnoShade => k_is)
    (case qsameLv => k_is)
    (case qoutR => k_is)
    (case qfull => k_is)
    (case qnoCol => k_is)
    (case qbright => k_is)
    (case qmostT => k_is)
    (case qmostS => k_is)
    (case qmostC => k_is)
    (case qnoDiv => k_is)
    (case qwithRow => k_is)
    (case rnothing => decide +kernel)
    (case rnoInst => decide +kernel)
    (case rnoShade => decide +kernel)
    (case rsameLv => decide +kernel)
    (case routR => decide +kernel)
    (case rfull => decide +kernel)
    (case rnoCol => decide +kernel)
    (case rbright => decide +kernel)
    (case rmostT => decide +kernel)
    (case rmostS => decide +kernel)
    (case rmostC => decide +kernel)
    (case rnoDiv => decide +kernel)
    (case rwithRow => decide +kernel)
    (case aPE => k_is)
    (case aW => k_is)
    (case lW => k_is)
    (case cW => decide +kernel)
  case S =>
    intro K H xs a hO hwi hask hx
    cases hx with
    | cons h1 h2 =>
      cases h2
      cases h1 with
      | lst hs ha =>
        have e := L2.ints_dw a.1 _ ha
        subst e
        exact ⟨_, a.1, rfl, hs, hask, fun H' p hp => .lst (L2.SqL.of hp) (L2.dw_ints _)⟩
